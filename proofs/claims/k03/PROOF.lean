import PyProof.Rows.All
import Wide.All
import OpenK.AllK
import Wide.FinOn
import HandS.ForMost
import HandS.ForExc
import HandS.Flow
import HandS.CallSlots
import HandS.Wide
import HandS.WideBits
import HandS.Text
import HandS.SortInts
import KE.DataEq
import HandS.Conv
import HandS.IsInst
import HandS.More
import HandS.EndBits
import HandS.Style
import HandS.ExcInit
import HandS.ExcField
import HandS.Property
import HandS.TryMany
import HandS.MakeKwOnly
import HandS.TupAny
import HandS.FStr
import HandS.Star
import HandS.Iter
import HandS.StrMore
import PyProof.ReprLen
import PyProof.FitsInt
import KE.IntBitsLaws
import PySem.Challenge.RW_oneforall_k03_states_refused
set_option Elab.async false
set_option linter.all false
set_option maxRecDepth 100000
namespace FL
open PySem PySem.Spec PyProof.Rows L2

/-- what a slot or an expression holds: frozen data, an owned list, a tuple with owned parts, an owned dict, a frozen instance -/
structure FH where
  m : Hp
  R : List Addr
instance : Coe FH Hp := ⟨FH.m⟩
instance : CoeFun FH fun _ => Addr → Option HO := ⟨FH.m⟩
/-- the frozen part has grown; what is borrowed is the same -/
structure Sm (F F' : FH) : Prop where
  ff : Same F.m F'.m
  rr : F'.R = F.R
theorem Sm.refl (F : FH) : Sm F F := ⟨Same.refl _, rfl⟩
theorem Sm.trans {F F1 F2 : FH} (a : Sm F F1) (b : Sm F1 F2) : Sm F F2 := ⟨a.ff.trans b.ff, b.rr.trans a.rr⟩
def updF (F : FH) (a : Addr) (o : HO) : FH := ⟨upd F.m a o, F.R⟩
inductive T where
  | d (x : PyData)
  | ol (xs : List T)
  | tp (xs : List T)
  | od (kvs : List (PyData × T))
  | ob (c : Str) (fs : List (Str × PyData))
  | scr (ns : List Int)
  | oi (c : Str) (fs : List (Str × T))
  | bw (t : T)

mutual
/-- data at any depth; lists are tracked ones -/
inductive Dp (K : PySem.W.Frag) (H : Hp) : V → PyData → Prop
  | non : Dp K H .non .none
  | bl (b : Bool) : Dp K H (.bl b) (.bool b)
  | int (i : Int) : Dp K H (.int i) (.int i)
  | str (x : Str) : Dp K H (.str x) (.str x)
  | lst {a : Addr} {xs : List V} {ds : List PyData} : H a = some (.lst xs) → DpAll K H xs ds → Dp K H (.ref a) (.list ds)
  | tup {a : Addr} {xs : List V} {ds : List PyData} : SqT K H a xs → DpAll K H xs ds → Dp K H (.ref a) (.tuple ds)
inductive DpAll (K : PySem.W.Frag) (H : Hp) : List V → List PyData → Prop
  | nil : DpAll K H [] []
  | cons {v : V} {vs : List V} {d : PyData} {ds : List PyData} : Dp K H v d → DpAll K H vs ds → DpAll K H (v :: vs) (d :: ds)
end
mutual
theorem Dp.lib {K : PySem.W.Frag} {H : Hp} : ∀ (x : PyData) {v : V}, Dp K H v x → L2.Dp K H v x
  | .none, _, q => by cases q; exact .non
  | .bool _, _, q => by cases q; exact .bl _
  | .int _, _, q => by cases q; exact .int _
  | .str _, _, q => by cases q; exact .str _
  | .list ds, _, q => by cases q with | lst s a => exact .lst (.of s) (DpAll.lib ds a)
  | .tuple ds, _, q => by cases q with | tup s a => exact .tup s (DpAll.lib ds a)
  | .dict _, _, q => by cases q
theorem DpAll.lib {K : PySem.W.Frag} {H : Hp} : ∀ (ds : List PyData) {vs : List V}, DpAll K H vs ds → L2.DpAll K H vs ds
  | [], _, q => by cases q; exact .nil
  | d :: ds, _, q => by cases q with | cons a b => exact .cons (Dp.lib d a) (DpAll.lib ds b)
end

mutual
/-- the data that stands there -/
def T.toD : T → Option PyData
  | .d x => some x
  | .ol xs => (T.toDs xs).map PyData.list
  | .tp xs => (T.toDs xs).map PyData.tuple
  | .od _ => none
  | .ob _ _ => none
  | .scr _ => none
  | .oi _ _ => none
  | .bw t => T.toD t
def T.toDs : List T → Option (List PyData)
  | [] => some []
  | x :: xs => (T.toD x).bind fun d => (T.toDs xs).map fun ds => d :: ds
end
mutual
/-- .. that nobody else lends -/
def T.toF : T → Option PyData
  | .d x => some x
  | .ol xs => (T.toFs xs).map PyData.list
  | .tp xs => (T.toFs xs).map PyData.tuple
  | .od _ => none
  | .ob _ _ => none
  | .scr _ => none
  | .oi _ _ => none
  | .bw _ => none
def T.toFs : List T → Option (List PyData)
  | [] => some []
  | x :: xs => (T.toF x).bind fun d => (T.toFs xs).map fun ds => d :: ds
end
/-- frozen, where it can be; an instance stays -/
def T.share : T → Option T
  | .ob c fs => some (.ob c fs)
  | .scr ns => some (.scr ns)
  | .bw t => some (.bw t)
  | t => t.toF.map T.d

section
variable (K : PySem.W.Frag) (mg : Str → Option Value)
/-- the fields of a frozen instance -/
def RFs (F : Hp) : List (Str × PyData) → List (Str × V) → Prop
  | [], [] => True
  | (f, x) :: r, (g, v) :: s => f = g ∧ Dp K F v x ∧ RFs F r s
  | _, _ => False
def keyD : Key → PyData
  | .inl i => .int i
  | .inr s => .str s
/-- a dict's object tells these keys and values -/
def DictO (F : Hp) (a : Addr) (o : HO) (kvs : List (PyData × V)) : Prop :=
  ∃ kk : List (Key × V), o = .dK kk ∧ kvs = kk.map fun p => (keyD p.1, p.2)
mutual
def RT (F : FH) (H : Hp) : T → V → List Addr → Prop
  | .d x, v, A => Dp K F.m v x ∧ A = []
  | .ol ts, v, A => ∃ a vs A', v = .ref a ∧ H a = some (.lst vs) ∧ RTs F H ts vs A' ∧ A = a :: A'
  | .tp ts, v, A => ∃ a vs, v = .ref a ∧ SqT K F.m a vs ∧ RTs F H ts vs A
  | .od kvs, v, A => ∃ a o ps A', v = .ref a ∧ H a = some o ∧ DictO F.m a o ps ∧ RTk F H kvs ps A' ∧ A = a :: A'
  | .ob c fs, v, A => ∃ a C dx vfs, v = .ref a ∧ mg c = some (.ref C) ∧ F.m a = some (.ins C dx vfs) ∧ RFs K F.m fs vfs ∧ A = []
  | .scr ns, v, A => ∃ a, v = .ref a ∧ SqL K F.m a (ns.map V.int) ∧ A = []
  | .oi c fs, v, A => ∃ a C dx vfs A', v = .ref a ∧ mg c = some (.ref C) ∧ H a = some (.ins C dx vfs) ∧ H dx = some (.own a) ∧ RTf F H fs vfs A' ∧ A = a :: dx :: A'
  | .bw t, v, A => A = [] ∧ ∃ B, (∀ b ∈ B, b ∈ F.R) ∧ RT F H t v B
def RTs (F : FH) (H : Hp) : List T → List V → List Addr → Prop
  | [], vs, A => vs = [] ∧ A = []
  | t :: ts, vs, A => ∃ v r A1 A2, vs = v :: r ∧ RT F H t v A1 ∧ RTs F H ts r A2 ∧ A = A1 ++ A2
def RTk (F : FH) (H : Hp) : List (PyData × T) → List (PyData × V) → List Addr → Prop
  | [], ps, A => ps = [] ∧ A = []
  | (k, t) :: ts, ps, A => ∃ v r A1 A2, ps = (k, v) :: r ∧ RT F H t v A1 ∧ RTk F H ts r A2 ∧ A = A1 ++ A2
def RTf (F : FH) (H : Hp) : List (Str × T) → List (Str × V) → List Addr → Prop
  | [], ps, A => ps = [] ∧ A = []
  | (k, t) :: ts, ps, A => ∃ v r A1 A2, ps = (k, v) :: r ∧ RT F H t v A1 ∧ RTf F H ts r A2 ∧ A = A1 ++ A2
end
end

/-! ### heaps -/
theorem same_sqL {K : PySem.W.Frag} {F F' : Hp} {a : Addr} {xs : List V} (h : Same F F') (q : SqL K F a xs) : SqL K F' a xs := h.seq q
theorem same_sqT {K : PySem.W.Frag} {F F' : Hp} {a : Addr} {xs : List V} (h : Same F F') (q : SqT K F a xs) : SqT K F' a xs := by
  rcases q with (q | ⟨o, q⟩) | q
  · exact .inl (.inl (h _ _ q))
  · exact .inl (.inr ⟨o, h _ _ q⟩)
  · exact .inr q
mutual
theorem Dp.same {K : PySem.W.Frag} {F F' : Hp} (h : Same F F') : ∀ (x : PyData) {v : V}, Dp K F v x → Dp K F' v x
  | .none, _, q => by cases q; exact .non
  | .bool _, _, q => by cases q; exact .bl _
  | .int _, _, q => by cases q; exact .int _
  | .str _, _, q => by cases q; exact .str _
  | .list ds, _, q => by cases q with | lst s a => exact .lst (h _ _ s) (DpAll.same h ds a)
  | .tuple ds, _, q => by cases q with | tup s a => exact .tup (same_sqT h s) (DpAll.same h ds a)
  | .dict _, _, q => by cases q
theorem DpAll.same {K : PySem.W.Frag} {F F' : Hp} (h : Same F F') : ∀ (ds : List PyData) {vs : List V}, DpAll K F vs ds → DpAll K F' vs ds
  | [], _, q => by cases q; exact .nil
  | d :: ds, _, q => by cases q with | cons a b => exact .cons (Dp.same h d a) (DpAll.same h ds b)
end
theorem RFs.same {K : PySem.W.Frag} {F F' : Hp} (h : Same F F') : ∀ {fs : List (Str × PyData)} {vfs : List (Str × V)}, RFs K F fs vfs → RFs K F' fs vfs
  | [], [], _ => trivial
  | (f, x) :: r, (g, v) :: s, ⟨e, q, r'⟩ => ⟨e, Dp.same h x q, RFs.same h r'⟩
  | [], _ :: _, q => q.elim
  | _ :: _, [], q => q.elim
theorem DictO.same {F F' : Hp} {a : Addr} {o : HO} {ps : List (PyData × V)} (h : Same F F') (q : DictO F a o ps) : DictO F' a o ps := q

section
variable {K : PySem.W.Frag} {mg : Str → Option Value}
mutual
/-- what stands apart from the change stays -/
theorem RT.keep {F : FH} {H : Hp} {F' : FH} {H' : Hp} (h : Sm F F') (kR : ∀ b ∈ F.R, ∀ o, H b = some o → H' b = some o) : ∀ (t : T) {v : V} {A : List Addr}, (∀ b ∈ A, ∀ o, H b = some o → H' b = some o) → RT K mg F H t v A → RT K mg F' H' t v A
  | .d x, v, A, _, ⟨q, e⟩ => ⟨Dp.same h.ff x q, e⟩
  | .ol ts, v, A, k, ⟨a, vs, A', e1, e2, r, e3⟩ => by
    subst e3
    exact ⟨a, vs, A', e1, k a List.mem_cons_self _ e2, RTs.keep h kR ts (fun b hb => k b (List.mem_cons_of_mem _ hb)) r, rfl⟩
  | .tp ts, v, A, k, ⟨a, vs, e1, e2, r⟩ => ⟨a, vs, e1, same_sqT h.ff e2, RTs.keep h kR ts k r⟩
  | .od kvs, v, A, k, ⟨a, o, ps, A', e1, e2, e4, r, e3⟩ => by
    subst e3
    exact ⟨a, o, ps, A', e1, k a List.mem_cons_self _ e2, DictO.same h.ff e4, RTk.keep h kR kvs (fun b hb => k b (List.mem_cons_of_mem _ hb)) r, rfl⟩
  | .ob c fs, v, A, k, ⟨a, C, dx, vfs, e1, e2, e3, r, e4⟩ => ⟨a, C, dx, vfs, e1, e2, h.ff _ _ e3, RFs.same h.ff r, e4⟩
  | .scr ns, v, A, k, ⟨a, e1, e2, e3⟩ => ⟨a, e1, same_sqL h.ff e2, e3⟩
  | .oi c fs, v, A, k, ⟨a, C, dx, vfs, A', e1, e2, e3, e4, r, e5⟩ => by
    subst e5
    exact ⟨a, C, dx, vfs, A', e1, e2, k a List.mem_cons_self _ e3, k dx (List.mem_cons_of_mem _ List.mem_cons_self) _ e4, RTf.keep h kR fs (fun b hb => k b (List.mem_cons_of_mem _ (List.mem_cons_of_mem _ hb))) r, rfl⟩
  | .bw t, v, A, k, ⟨e, B, hB, r⟩ => ⟨e, B, fun b hb => by rw [h.rr]; exact hB b hb, RT.keep h kR t (fun b hb => kR b (hB b hb)) r⟩
theorem RTs.keep {F : FH} {H : Hp} {F' : FH} {H' : Hp} (h : Sm F F') (kR : ∀ b ∈ F.R, ∀ o, H b = some o → H' b = some o) : ∀ (ts : List T) {vs : List V} {A : List Addr}, (∀ b ∈ A, ∀ o, H b = some o → H' b = some o) → RTs K mg F H ts vs A → RTs K mg F' H' ts vs A
  | [], _, _, _, q => q
  | t :: ts, vs, A, k, ⟨v, r, A1, A2, e, q1, q2, e2⟩ => by
    subst e2
    exact ⟨v, r, A1, A2, e, RT.keep h kR t (fun b hb => k b (List.mem_append_left _ hb)) q1, RTs.keep h kR ts (fun b hb => k b (List.mem_append_right _ hb)) q2, rfl⟩
theorem RTk.keep {F : FH} {H : Hp} {F' : FH} {H' : Hp} (h : Sm F F') (kR : ∀ b ∈ F.R, ∀ o, H b = some o → H' b = some o) : ∀ (ts : List (PyData × T)) {vs : List (PyData × V)} {A : List Addr}, (∀ b ∈ A, ∀ o, H b = some o → H' b = some o) → RTk K mg F H ts vs A → RTk K mg F' H' ts vs A
  | [], _, _, _, q => q
  | (_, t) :: ts, vs, A, k, ⟨v, r, A1, A2, e, q1, q2, e2⟩ => by
    subst e2
    exact ⟨v, r, A1, A2, e, RT.keep h kR t (fun b hb => k b (List.mem_append_left _ hb)) q1, RTk.keep h kR ts (fun b hb => k b (List.mem_append_right _ hb)) q2, rfl⟩
theorem RTf.keep {F : FH} {H : Hp} {F' : FH} {H' : Hp} (h : Sm F F') (kR : ∀ b ∈ F.R, ∀ o, H b = some o → H' b = some o) : ∀ (ts : List (Str × T)) {vs : List (Str × V)} {A : List Addr}, (∀ b ∈ A, ∀ o, H b = some o → H' b = some o) → RTf K mg F H ts vs A → RTf K mg F' H' ts vs A
  | [], _, _, _, q => q
  | (_, t) :: ts, vs, A, k, ⟨v, r, A1, A2, e, q1, q2, e2⟩ => by
    subst e2
    exact ⟨v, r, A1, A2, e, RT.keep h kR t (fun b hb => k b (List.mem_append_left _ hb)) q1, RTf.keep h kR ts (fun b hb => k b (List.mem_append_right _ hb)) q2, rfl⟩
end
mutual
/-- the owned parts stand in the heap -/
theorem RT.there {F : FH} {H : Hp} : ∀ (t : T) {v : V} {A : List Addr}, RT K mg F H t v A → ∀ b ∈ A, H b ≠ none
  | .d x, v, A, ⟨_, e⟩ => by subst e; intro b hb; cases hb
  | .ol ts, v, A, ⟨a, vs, A', e1, e2, r, e3⟩ => by
    subst e3
    intro b hb
    rcases List.mem_cons.mp hb with rfl | hb
    · rw [e2]; simp
    · exact RTs.there ts r b hb
  | .tp ts, v, A, ⟨a, vs, e1, e2, r⟩ => RTs.there ts r
  | .od kvs, v, A, ⟨a, o, ps, A', e1, e2, e4, r, e3⟩ => by
    subst e3
    intro b hb
    rcases List.mem_cons.mp hb with rfl | hb
    · rw [e2]; simp
    · exact RTk.there kvs r b hb
  | .ob c fs, v, A, ⟨a, C, dx, vfs, e1, e2, e3, r, e4⟩ => by subst e4; intro b hb; cases hb
  | .scr ns, v, A, ⟨a, e1, e2, e3⟩ => by subst e3; intro b hb; cases hb
  | .oi c fs, v, A, ⟨a, C, dx, vfs, A', e1, e2, e3, e4, r, e5⟩ => by
    subst e5
    intro b hb
    rcases List.mem_cons.mp hb with rfl | hb
    · rw [e3]; simp
    · rcases List.mem_cons.mp hb with rfl | hb
      · rw [e4]; simp
      · exact RTf.there fs r b hb
  | .bw t, v, A, ⟨e, _⟩ => by subst e; intro b hb; cases hb
theorem RTs.there {F : FH} {H : Hp} : ∀ (ts : List T) {vs : List V} {A : List Addr}, RTs K mg F H ts vs A → ∀ b ∈ A, H b ≠ none
  | [], _, _, ⟨_, e⟩ => by subst e; intro b hb; cases hb
  | t :: ts, vs, A, ⟨v, r, A1, A2, e, q1, q2, e2⟩ => by
    subst e2
    intro b hb
    rcases List.mem_append.mp hb with hb | hb
    · exact RT.there t q1 b hb
    · exact RTs.there ts q2 b hb
theorem RTk.there {F : FH} {H : Hp} : ∀ (ts : List (PyData × T)) {vs : List (PyData × V)} {A : List Addr}, RTk K mg F H ts vs A → ∀ b ∈ A, H b ≠ none
  | [], _, _, ⟨_, e⟩ => by subst e; intro b hb; cases hb
  | (_, t) :: ts, vs, A, ⟨v, r, A1, A2, e, q1, q2, e2⟩ => by
    subst e2
    intro b hb
    rcases List.mem_append.mp hb with hb | hb
    · exact RT.there t q1 b hb
    · exact RTk.there ts q2 b hb
theorem RTf.there {F : FH} {H : Hp} : ∀ (ts : List (Str × T)) {vs : List (Str × V)} {A : List Addr}, RTf K mg F H ts vs A → ∀ b ∈ A, H b ≠ none
  | [], _, _, ⟨_, e⟩ => by subst e; intro b hb; cases hb
  | (_, t) :: ts, vs, A, ⟨v, r, A1, A2, e, q1, q2, e2⟩ => by
    subst e2
    intro b hb
    rcases List.mem_append.mp hb with hb | hb
    · exact RT.there t q1 b hb
    · exact RTf.there ts q2 b hb
end
/-- the frozen part, grown by what is owned -/
def frO (F : FH) (H : Hp) (A : List Addr) : FH := ⟨fun b => if b ∈ A then H b else F.m b, F.R⟩
theorem frO_same {F : FH} {H : Hp} {A : List Addr} (h : ∀ b ∈ A, F.m b = none) : Sm F (frO F H A) := ⟨fun b o e => by
  show (if b ∈ A then H b else F.m b) = some o
  split
  · rename_i hb; rw [h b hb] at e; cases e
  · exact e, rfl⟩
theorem frO_sub {F : FH} {H : Hp} {A : List Addr} (h : Same F.m H) : Same (frO F H A).m H := fun b o e => by
  have e : (if b ∈ A then H b else F.m b) = some o := e
  split at e
  · exact e
  · exact h b o e
theorem frO_of {F : FH} {H : Hp} {A : List Addr} {b : Addr} {o : HO} (hb : b ∈ A) (e : H b = some o) : (frO F H A).m b = some o := by
  show (if b ∈ A then H b else F.m b) = some o
  rw [if_pos hb]; exact e
mutual
/-- what stands there, as data over a heap that has the frozen part and what is owned -/
theorem RT.data {F : FH} {H G : Hp} (h : Same F.m G) : ∀ (t : T) {v : V} {A : List Addr} {x : PyData}, (∀ b ∈ A, ∀ o, H b = some o → G b = some o) → RT K mg F H t v A → t.toF = some x → Dp K G v x
  | .d y, v, A, x, _, ⟨q, _⟩, e => by cases e; exact Dp.same h _ q
  | .ol ts, v, A, x, k, ⟨a, vs, A', e1, e2, r, e3⟩, e => by
    subst e3 e1
    simp only [T.toF, Option.map_eq_some_iff] at e
    obtain ⟨ds, e, rfl⟩ := e
    exact .lst (k a List.mem_cons_self _ e2) (RTs.data h ts (fun b hb => k b (List.mem_cons_of_mem _ hb)) r e)
  | .tp ts, v, A, x, k, ⟨a, vs, e1, e2, r⟩, e => by
    subst e1
    simp only [T.toF, Option.map_eq_some_iff] at e
    obtain ⟨ds, e, rfl⟩ := e
    exact .tup (same_sqT h e2) (RTs.data h ts k r e)
  | .od kvs, v, A, x, k, q, e => by simp [T.toF] at e
  | .ob c fs, v, A, x, k, q, e => by simp [T.toF] at e
  | .scr ns, v, A, x, k, q, e => by simp [T.toF] at e
  | .oi c fs, v, A, x, k, q, e => by simp [T.toF] at e
  | .bw t, v, A, x, k, q, e => by simp [T.toF] at e
theorem RTs.data {F : FH} {H G : Hp} (h : Same F.m G) : ∀ (ts : List T) {vs : List V} {A : List Addr} {xs : List PyData}, (∀ b ∈ A, ∀ o, H b = some o → G b = some o) → RTs K mg F H ts vs A → T.toFs ts = some xs → DpAll K G vs xs
  | [], _, _, _, _, ⟨e1, _⟩, e => by cases e; subst e1; exact .nil
  | t :: ts, vs, A, xs, k, ⟨v, r, A1, A2, e1, q1, q2, e2⟩, e => by
    subst e1 e2
    simp only [T.toFs, Option.bind_eq_some_iff, Option.map_eq_some_iff] at e
    obtain ⟨y, hy, ys, hys, rfl⟩ := e
    exact .cons (RT.data h t (fun b hb => k b (List.mem_append_left _ hb)) q1 hy) (RTs.data h ts (fun b hb => k b (List.mem_append_right _ hb)) q2 hys)
end
theorem RT.freeze {F : FH} {H : Hp} {t : T} {v : V} {A : List Addr} {x : PyData} (hA : ∀ b ∈ A, F.m b = none) (r : RT K mg F H t v A) (e : t.toF = some x) : Dp K (frO F H A).m v x :=
  RT.data (frO_same hA).ff t (fun b hb o ho => frO_of hb ho) r e
mutual
/-- what stands there, as data in the heap: read -/
theorem RT.borrow {F : FH} {H : Hp} (h : Same F.m H) : ∀ {t : T} {v : V} {A : List Addr} {x : PyData}, RT K mg F H t v A → t.toD = some x → Dp K H v x
  | .d y, v, A, x, ⟨q, _⟩, e => by cases e; exact Dp.same h _ q
  | .ol ts, v, A, x, ⟨a, vs, A', e1, e2, r, e3⟩, e => by
    subst e3 e1
    simp only [T.toD, Option.map_eq_some_iff] at e
    obtain ⟨ds, e, rfl⟩ := e
    exact .lst e2 (RTs.borrow h r e)
  | .tp ts, v, A, x, ⟨a, vs, e1, e2, r⟩, e => by
    subst e1
    simp only [T.toD, Option.map_eq_some_iff] at e
    obtain ⟨ds, e, rfl⟩ := e
    exact .tup (same_sqT h e2) (RTs.borrow h r e)
  | .od kvs, v, A, x, q, e => by simp [T.toD] at e
  | .ob c fs, v, A, x, q, e => by simp [T.toD] at e
  | .scr ns, v, A, x, q, e => by simp [T.toD] at e
  | .oi c fs, v, A, x, q, e => by simp [T.toD] at e
  | .bw t, v, A, x, ⟨_, B, _, r⟩, e => RT.borrow h (t := t) r (by simpa [T.toD] using e)
theorem RTs.borrow {F : FH} {H : Hp} (h : Same F.m H) : ∀ {ts : List T} {vs : List V} {A : List Addr} {xs : List PyData}, RTs K mg F H ts vs A → T.toDs ts = some xs → DpAll K H vs xs
  | [], _, _, _, ⟨e1, _⟩, e => by cases e; subst e1; exact .nil
  | t :: ts, vs, A, xs, ⟨v, r, A1, A2, e1, q1, q2, e2⟩, e => by
    subst e1 e2
    simp only [T.toDs, Option.bind_eq_some_iff, Option.map_eq_some_iff] at e
    obtain ⟨y, hy, ys, hys, rfl⟩ := e
    exact .cons (RT.borrow h q1 hy) (RTs.borrow h q2 hys)
end
end

/-- what is borrowed -/
def unB : T → T
  | .bw t => unB t
  | t => t
def bor : T → T
  | .d x => .d x
  | .ob c fs => .ob c fs
  | .scr ns => .scr ns
  | .bw t => .bw t
  | t => .bw t
section
variable {K : PySem.W.Frag} {mg : Str → Option Value} {F : FH} {H : Hp}
theorem unB_rt : ∀ (t : T) {v : V} {A : List Addr}, RT K mg F H t v A → ∃ B, RT K mg F H (unB t) v B
  | .bw t, v, A, ⟨_, B, _, r⟩ => unB_rt t r
  | .d _, v, A, r => ⟨A, r⟩
  | .ol _, v, A, r => ⟨A, r⟩
  | .tp _, v, A, r => ⟨A, r⟩
  | .od _, v, A, r => ⟨A, r⟩
  | .ob _ _, v, A, r => ⟨A, r⟩
  | .scr _, v, A, r => ⟨A, r⟩
  | .oi _ _, v, A, r => ⟨A, r⟩
theorem unB_bw : ∀ (t : T) {v : V} {B : List Addr}, (∀ b ∈ B, b ∈ F.R) → RT K mg F H t v B → ∃ B, (∀ b ∈ B, b ∈ F.R) ∧ RT K mg F H (unB t) v B
  | .bw t, v, A, _, ⟨_, B, hB, r⟩ => unB_bw t hB r
  | .d _, v, A, h, r => ⟨A, h, r⟩
  | .ol _, v, A, h, r => ⟨A, h, r⟩
  | .tp _, v, A, h, r => ⟨A, h, r⟩
  | .od _, v, A, h, r => ⟨A, h, r⟩
  | .ob _ _, v, A, h, r => ⟨A, h, r⟩
  | .scr _, v, A, h, r => ⟨A, h, r⟩
  | .oi _ _, v, A, h, r => ⟨A, h, r⟩
/-- lent to be read -/
theorem bor_rt {t : T} {v : V} {B : List Addr} (h : ∀ b ∈ B, b ∈ F.R) (r : RT K mg F H t v B) : RT K mg F H (bor t) v [] := by
  cases t with
  | d x => exact ⟨r.1, rfl⟩
  | ob c fs => obtain ⟨a, C, dx, vfs, e1, e2, e3, r, _⟩ := r; exact ⟨a, C, dx, vfs, e1, e2, e3, r, rfl⟩
  | scr ns => obtain ⟨a, e1, e2, _⟩ := r; exact ⟨a, e1, e2, rfl⟩
  | bw t => obtain ⟨_, B, hB, r⟩ := r; exact ⟨rfl, B, hB, r⟩
  | ol xs => exact ⟨rfl, B, h, r⟩
  | tp xs => exact ⟨rfl, B, h, r⟩
  | od xs => exact ⟨rfl, B, h, r⟩
  | oi c fs => exact ⟨rfl, B, h, r⟩
theorem bors_rt : ∀ {ts : List T} {vs : List V} {B : List Addr}, (∀ b ∈ B, b ∈ F.R) → RTs K mg F H ts vs B → RTs K mg F H (ts.map bor) vs []
  | [], vs, B, _, ⟨e, _⟩ => ⟨e, rfl⟩
  | t :: ts, vs, B, h, ⟨v, r, B1, B2, e1, q1, q2, e2⟩ => by
    subst e2
    exact ⟨v, r, [], [], e1, bor_rt (fun b hb => h b (List.mem_append_left _ hb)) q1, bors_rt (fun b hb => h b (List.mem_append_right _ hb)) q2, rfl⟩
end

mutual
/-- nothing in it is lent -/
def T.cl : T → Bool
  | .d _ => true
  | .ol xs => T.cls xs
  | .tp xs => T.cls xs
  | .od kvs => T.clk kvs
  | .ob _ _ => true
  | .scr _ => true
  | .oi _ fs => T.clf fs
  | .bw _ => false
def T.cls : List T → Bool
  | [] => true
  | x :: xs => T.cl x && T.cls xs
def T.clk : List (PyData × T) → Bool
  | [] => true
  | (_, x) :: xs => T.cl x && T.clk xs
def T.clf : List (Str × T) → Bool
  | [] => true
  | (_, x) :: xs => T.cl x && T.clf xs
end
section
variable {K : PySem.W.Frag} {mg : Str → Option Value} {m : Hp} {R R' : List Addr} {H : Hp}
mutual
/-- with more that is lent -/
theorem RT.more (h : ∀ b ∈ R, b ∈ R') : ∀ (t : T) {v : V} {A : List Addr}, RT K mg ⟨m, R⟩ H t v A → RT K mg ⟨m, R'⟩ H t v A
  | .d x, v, A, q => q
  | .ol ts, v, A, ⟨a, vs, A', e1, e2, r, e3⟩ => ⟨a, vs, A', e1, e2, RTs.more h ts r, e3⟩
  | .tp ts, v, A, ⟨a, vs, e1, e2, r⟩ => ⟨a, vs, e1, e2, RTs.more h ts r⟩
  | .od kvs, v, A, ⟨a, o, ps, A', e1, e2, e4, r, e3⟩ => ⟨a, o, ps, A', e1, e2, e4, RTk.more h kvs r, e3⟩
  | .ob c fs, v, A, q => q
  | .scr ns, v, A, q => q
  | .oi c fs, v, A, ⟨a, C, dx, vfs, A', e1, e2, e3, e4, r, e5⟩ => ⟨a, C, dx, vfs, A', e1, e2, e3, e4, RTf.more h fs r, e5⟩
  | .bw t, v, A, ⟨e, B, hB, r⟩ => ⟨e, B, fun b hb => h b (hB b hb), RT.more h t r⟩
theorem RTs.more (h : ∀ b ∈ R, b ∈ R') : ∀ (ts : List T) {vs : List V} {A : List Addr}, RTs K mg ⟨m, R⟩ H ts vs A → RTs K mg ⟨m, R'⟩ H ts vs A
  | [], _, _, q => q
  | t :: ts, vs, A, ⟨v, r, A1, A2, e, q1, q2, e2⟩ => ⟨v, r, A1, A2, e, RT.more h t q1, RTs.more h ts q2, e2⟩
theorem RTk.more (h : ∀ b ∈ R, b ∈ R') : ∀ (ts : List (PyData × T)) {vs : List (PyData × V)} {A : List Addr}, RTk K mg ⟨m, R⟩ H ts vs A → RTk K mg ⟨m, R'⟩ H ts vs A
  | [], _, _, q => q
  | (_, t) :: ts, vs, A, ⟨v, r, A1, A2, e, q1, q2, e2⟩ => ⟨v, r, A1, A2, e, RT.more h t q1, RTk.more h ts q2, e2⟩
theorem RTf.more (h : ∀ b ∈ R, b ∈ R') : ∀ (ts : List (Str × T)) {vs : List (Str × V)} {A : List Addr}, RTf K mg ⟨m, R⟩ H ts vs A → RTf K mg ⟨m, R'⟩ H ts vs A
  | [], _, _, q => q
  | (_, t) :: ts, vs, A, ⟨v, r, A1, A2, e, q1, q2, e2⟩ => ⟨v, r, A1, A2, e, RT.more h t q1, RTf.more h ts q2, e2⟩
end
mutual
/-- what is not lent cares for nothing lent -/
theorem RT.clean : ∀ (t : T) {v : V} {A : List Addr}, T.cl t = true → RT K mg ⟨m, R⟩ H t v A → RT K mg ⟨m, R'⟩ H t v A
  | .d x, v, A, _, q => q
  | .ol ts, v, A, h, ⟨a, vs, A', e1, e2, r, e3⟩ => ⟨a, vs, A', e1, e2, RTs.clean ts h r, e3⟩
  | .tp ts, v, A, h, ⟨a, vs, e1, e2, r⟩ => ⟨a, vs, e1, e2, RTs.clean ts h r⟩
  | .od kvs, v, A, h, ⟨a, o, ps, A', e1, e2, e4, r, e3⟩ => ⟨a, o, ps, A', e1, e2, e4, RTk.clean kvs h r, e3⟩
  | .ob c fs, v, A, _, q => q
  | .scr ns, v, A, _, q => q
  | .oi c fs, v, A, h, ⟨a, C, dx, vfs, A', e1, e2, e3, e4, r, e5⟩ => ⟨a, C, dx, vfs, A', e1, e2, e3, e4, RTf.clean fs h r, e5⟩
  | .bw t, v, A, h, _ => by cases h
theorem RTs.clean : ∀ (ts : List T) {vs : List V} {A : List Addr}, T.cls ts = true → RTs K mg ⟨m, R⟩ H ts vs A → RTs K mg ⟨m, R'⟩ H ts vs A
  | [], _, _, _, q => q
  | t :: ts, vs, A, h, ⟨v, r, A1, A2, e, q1, q2, e2⟩ => by
    simp only [T.cls, Bool.and_eq_true] at h
    exact ⟨v, r, A1, A2, e, RT.clean t h.1 q1, RTs.clean ts h.2 q2, e2⟩
theorem RTk.clean : ∀ (ts : List (PyData × T)) {vs : List (PyData × V)} {A : List Addr}, T.clk ts = true → RTk K mg ⟨m, R⟩ H ts vs A → RTk K mg ⟨m, R'⟩ H ts vs A
  | [], _, _, _, q => q
  | (_, t) :: ts, vs, A, h, ⟨v, r, A1, A2, e, q1, q2, e2⟩ => by
    simp only [T.clk, Bool.and_eq_true] at h
    exact ⟨v, r, A1, A2, e, RT.clean t h.1 q1, RTk.clean ts h.2 q2, e2⟩
theorem RTf.clean : ∀ (ts : List (Str × T)) {vs : List (Str × V)} {A : List Addr}, T.clf ts = true → RTf K mg ⟨m, R⟩ H ts vs A → RTf K mg ⟨m, R'⟩ H ts vs A
  | [], _, _, _, q => q
  | (_, t) :: ts, vs, A, h, ⟨v, r, A1, A2, e, q1, q2, e2⟩ => by
    simp only [T.clf, Bool.and_eq_true] at h
    exact ⟨v, r, A1, A2, e, RT.clean t h.1 q1, RTf.clean ts h.2 q2, e2⟩
end
end

/-! ### how the heap goes on -/
/-- the frozen part lies in the heap; what is owned stands there, apart, each once -/
structure Wd (F : FH) (H : Hp) (A : List Addr) : Prop where
  sub : Same F H
  nd : A.Nodup
  fn : ∀ b ∈ A, F b = none
  th : ∀ b ∈ A, H b ≠ none
  rn : ∀ b ∈ F.R, b ∉ A ∧ H b ≠ none
structure Step (F : FH) (H : Hp) (A : List Addr) (F' : FH) (H' : Hp) (A' : List Addr) : Prop where
  ff : Sm F F'
  fr : ∀ b o, H b = some o → b ∉ A → H' b = some o
  fz : ∀ b, F b = none → F' b ≠ none → H b = none ∨ b ∈ A
  nw : ∀ b ∈ A', b ∈ A ∨ H b = none
  wd : Wd F' H' A'
theorem Wd.perm {F : FH} {H : Hp} {A B : List Addr} (w : Wd F H A) (p : A.Perm B) : Wd F H B :=
  ⟨w.sub, p.nodup_iff.mp w.nd, fun b hb => w.fn b (p.mem_iff.mpr hb), fun b hb => w.th b (p.mem_iff.mpr hb), fun b hb => ⟨fun h => (w.rn b hb).1 (p.mem_iff.mpr h), (w.rn b hb).2⟩⟩
theorem Wd.left {F : FH} {H : Hp} {A B : List Addr} (w : Wd F H (A ++ B)) : Wd F H A :=
  ⟨w.sub, (List.nodup_append.mp w.nd).1, fun b hb => w.fn b (List.mem_append_left _ hb), fun b hb => w.th b (List.mem_append_left _ hb), fun b hb => ⟨fun h => (w.rn b hb).1 (List.mem_append_left _ h), (w.rn b hb).2⟩⟩
theorem Wd.right {F : FH} {H : Hp} {A B : List Addr} (w : Wd F H (A ++ B)) : Wd F H B :=
  ⟨w.sub, (List.nodup_append.mp w.nd).2.1, fun b hb => w.fn b (List.mem_append_right _ hb), fun b hb => w.th b (List.mem_append_right _ hb), fun b hb => ⟨fun h => (w.rn b hb).1 (List.mem_append_right _ h), (w.rn b hb).2⟩⟩
theorem Wd.apart {F : FH} {H : Hp} {A B : List Addr} (w : Wd F H (A ++ B)) {b : Addr} (ha : b ∈ A) (hb : b ∈ B) : False :=
  (List.nodup_append.mp w.nd).2.2 b ha b hb rfl
theorem Wd.join {F : FH} {H : Hp} {A B : List Addr} (a : Wd F H A) (b : Wd F H B) (n : ∀ x ∈ A, x ∉ B) : Wd F H (A ++ B) :=
  ⟨a.sub, List.nodup_append.mpr ⟨a.nd, b.nd, fun x hx y hy e => n x hx (e ▸ hy)⟩, fun x hx => (List.mem_append.mp hx).elim (a.fn x) (b.fn x), fun x hx => (List.mem_append.mp hx).elim (a.th x) (b.th x), fun x hx => ⟨fun h => (List.mem_append.mp h).elim (a.rn x hx).1 (b.rn x hx).1, (a.rn x hx).2⟩⟩
theorem Step.refl {F : FH} {H : Hp} {A : List Addr} (w : Wd F H A) : Step F H A F H A :=
  ⟨Sm.refl F, fun _ _ e _ => e, fun b e n => absurd e n, fun b hb => .inl hb, w⟩
theorem Step.trans {F : FH} {H : Hp} {F1 : FH} {H1 : Hp} {F2 : FH} {H2 : Hp} {A A1 A2 : List Addr} (a : Step F H A F1 H1 A1) (b : Step F1 H1 A1 F2 H2 A2) : Step F H A F2 H2 A2 := by
  have bk : ∀ c, H1 c = none → H c = none ∨ c ∈ A := fun c hc => by
    by_cases hA : c ∈ A
    · exact .inr hA
    · refine .inl ?_
      cases q : H c with
      | none => rfl
      | some o => rw [a.fr c o q hA] at hc; cases hc
  refine ⟨a.ff.trans b.ff, fun c o e n => ?_, fun c e n => ?_, fun c hc => ?_, b.wd⟩
  · refine b.fr c o (a.fr c o e n) fun h => ?_
    rcases a.nw c h with h | h
    · exact n h
    · rw [e] at h; cases h
  · cases q : F1 c with
    | some o => exact a.fz c e (by rw [q]; simp)
    | none =>
      rcases b.fz c q n with h | h
      · exact bk c h
      · exact (a.nw c h).symm
  · rcases b.nw c hc with h | h
    · exact a.nw c h
    · exact (bk c h).symm
/-- in a wider footprint: what is owned besides stays -/
theorem Step.wide {F : FH} {H : Hp} {F' : FH} {H' : Hp} {A A' B : List Addr} (st : Step F H A F' H' A') (w : Wd F H (A ++ B)) : Step F H (A ++ B) F' H' (A' ++ B) := by
  have hB : ∀ b ∈ B, b ∉ A := fun b hb ha => w.apart ha hb
  have keepB : ∀ b ∈ B, ∀ o, H b = some o → H' b = some o := fun b hb o e => st.fr b o e (hB b hb)
  refine ⟨st.ff, fun b o e n => st.fr b o e fun h => n (List.mem_append_left _ h), fun b e n => (st.fz b e n).imp id fun h => List.mem_append_left _ h, fun b hb => ?_, st.wd.join ⟨st.wd.sub, w.right.nd, fun b hb => ?_, fun b hb => ?_, fun b hb => ⟨fun h => ?_, (st.wd.rn b hb).2⟩⟩ fun b hb hB' => ?_⟩
  · rcases List.mem_append.mp hb with h | h
    · exact (st.nw b h).imp (fun h => List.mem_append_left _ h) id
    · exact .inl (List.mem_append_right _ h)
  · cases q : F' b with
    | none => rfl
    | some o =>
      rcases st.fz b (w.right.fn b hb) (by rw [q]; simp) with h | h
      · exact absurd h (w.right.th b hb)
      · exact absurd h (hB b hb)
  · cases q : H b with
    | none => exact absurd q (w.right.th b hb)
    | some o => rw [keepB b hb o q]; simp
  · rw [st.ff.rr] at hb
    exact (w.rn b hb).1 (List.mem_append_right _ h)
  · rcases st.nw b hb with h | h
    · exact hB b hB' h
    · exact w.right.th b hB' h
theorem Step.perm {F : FH} {H : Hp} {F' : FH} {H' : Hp} {A A' A1 A1' : List Addr} (st : Step F H A F' H' A') (p : A.Perm A1) (q : A'.Perm A1') : Step F H A1 F' H' A1' :=
  ⟨st.ff, fun b o e n => st.fr b o e fun h => n (p.mem_iff.mp h), fun b e n => (st.fz b e n).imp id fun h => p.mem_iff.mp h, fun b hb => (st.nw b (q.mem_iff.mpr hb)).imp (fun h => p.mem_iff.mp h) id, st.wd.perm q⟩
/-- less is owned behind -/
theorem Step.less {F : FH} {H : Hp} {F' : FH} {H' : Hp} {A A' B : List Addr} (st : Step F H A F' H' (A' ++ B)) : Step F H A F' H' A' :=
  ⟨st.ff, st.fr, st.fz, fun b hb => st.nw b (List.mem_append_left _ hb), st.wd.left⟩
theorem Step.lessL {F : FH} {H : Hp} {F' : FH} {H' : Hp} {A A' B : List Addr} (st : Step F H A F' H' (A' ++ B)) : Step F H A F' H' B :=
  ⟨st.ff, st.fr, st.fz, fun b hb => st.nw b (List.mem_append_right _ hb), st.wd.right⟩
/-- what stands apart of a step -/
theorem RT.step {K : PySem.W.Frag} {mg : Str → Option Value} {F : FH} {H : Hp} {F' : FH} {H' : Hp} {A A' B : List Addr} {t : T} {v : V} (st : Step F H A F' H' A') (w : Wd F H (A ++ B)) (r : RT K mg F H t v B) : RT K mg F' H' t v B :=
  RT.keep st.ff (fun b hb o e => st.fr b o e fun h => (w.rn b hb).1 (List.mem_append_left _ h)) t (fun b hb o e => st.fr b o e fun h => w.apart h hb) r
theorem RTs.step {K : PySem.W.Frag} {mg : Str → Option Value} {F : FH} {H : Hp} {F' : FH} {H' : Hp} {A A' B : List Addr} {ts : List T} {vs : List V} (st : Step F H A F' H' A') (w : Wd F H (A ++ B)) (r : RTs K mg F H ts vs B) : RTs K mg F' H' ts vs B :=
  RTs.keep st.ff (fun b hb o e => st.fr b o e fun h => (w.rn b hb).1 (List.mem_append_left _ h)) ts (fun b hb o e => st.fr b o e fun h => w.apart h hb) r
/-- only new objects -/
theorem Step.grow {F : FH} {H : Hp} {F' : FH} {H' : Hp} {A B : List Addr} (w : Wd F H A) (ff : Sm F F') (hh : Same H H') (sub : Same F' H') (fz : ∀ b, F b = none → F' b ≠ none → H b = none) (nd : B.Nodup) (nw : ∀ b ∈ B, H b = none ∧ F' b = none ∧ H' b ≠ none) : Step F H A F' H' (A ++ B) := by
  refine ⟨ff, fun b o e _ => hh b o e, fun b e n => .inl (fz b e n), fun b hb => (List.mem_append.mp hb).imp id fun h => (nw b h).1, ⟨sub, List.nodup_append.mpr ⟨w.nd, nd, fun x hx y hy e => ?_⟩, fun b hb => ?_, fun b hb => ?_, fun b hb => ?_⟩⟩
  · subst e; exact w.th x hx (nw x hy).1
  · rcases List.mem_append.mp hb with h | h
    · cases q : F' b with
      | none => rfl
      | some o => exact absurd (fz b (w.fn b h) (by rw [q]; simp)) (w.th b h)
    · exact (nw b h).2.1
  · rcases List.mem_append.mp hb with h | h
    · cases q : H b with
      | none => exact absurd q (w.th b h)
      | some o => rw [hh b o q]; simp
    · exact (nw b h).2.2
  · rw [ff.rr] at hb
    obtain ⟨n1, n2⟩ := w.rn b hb
    refine ⟨fun h => ?_, ?_⟩
    · rcases List.mem_append.mp h with h | h
      · exact n1 h
      · exact n2 (nw b h).1
    · cases q : H b with
      | none => exact absurd q n2
      | some o => rw [hh b o q]; simp
end FL

set_option Elab.async false
set_option linter.all false
set_option maxRecDepth 100000
namespace FL
open PySem PySem.Spec PyProof.Rows L2

abbrev Cell := T × Bool
abbrev Env := List (Option Cell)
inductive Out (α : Type) where
  | ok (a : α) (ρ : Env)
  | exc (c : Str) (x : PyData) (ρ : Env)
  | bad
def M (α : Type) := Env → Out α
def M.pure {α : Type} (a : α) : M α := fun ρ => .ok a ρ
def Out.bind {α β : Type} : Out α → (α → M β) → Out β
  | .ok a ρ, f => f a ρ
  | .exc c x ρ, _ => .exc c x ρ
  | .bad, _ => .bad
def M.bind {α β : Type} (m : M α) (f : α → M β) : M β := fun ρ => (m ρ).bind f
def lift {α : Type} (o : Option α) : M α := fun ρ => match o with
  | some a => .ok a ρ
  | none => .bad
def slot (ρ : Env) (i : Nat) : Option T := match ρ[i]? with
  | some (some (t, _)) => some t
  | _ => none
abbrev Opd := T ⊕ Nat
def res (ρ : Env) : Opd → Option T
  | .inl t => some t
  | .inr i => slot ρ i
def oV (m : M T) : M Opd := m.bind fun t => .pure (.inl t)
def oL (i : Nat) : M Opd := .pure (.inr i)

section
variable (K : PySem.W.Frag) (mg : Str → Option Value)
def RSl (F : FH) (H : Hp) : Env → L2.St → List Addr → Prop
  | [], σ, A => σ = [] ∧ A = []
  | none :: ρ, σ, A => ∃ o r, σ = o :: r ∧ RSl F H ρ r A
  | some (t, _) :: ρ, σ, A => ∃ v r A1 A2, σ = some v :: r ∧ RT K mg F H t v A1 ∧ RSl F H ρ r A2 ∧ A = A1 ++ A2
structure Fx where
  ws : List V
  F0 : Hp
  P : L2.St → Prop
class Fx.Free (vs : Fx) : Prop where
  all : ∀ σ, vs.P σ
abbrev Fx.of (ws : List V) : Fx := ⟨ws, fun _ => none, fun _ => True⟩
instance (ws : List V) (F0 : Hp) : Fx.Free ⟨ws, F0, fun _ => True⟩ := ⟨fun _ => trivial⟩
structure Rep (vs : Fx) (F : FH) (H : Hp) (σ : L2.St) (ρ : Env) (A : List Addr) : Prop where
  fx : Same vs.F0 F
  st : vs.P σ
  sl : RSl K mg F H ρ σ A
  io : ∀ (i : Nat) (t : T), ρ[i]? = some (some (t, true)) → ∃ v, vs.ws[i]? = some v ∧ σ[i]? = some (some v)
end
section
variable {K : PySem.W.Frag} {mg : Str → Option Value} {vs : Fx}
theorem RSl.len {F : FH} {H : Hp} : ∀ {ρ : Env} {σ : L2.St} {A : List Addr}, RSl K mg F H ρ σ A → ρ.length = σ.length
  | [], σ, A, ⟨e, _⟩ => by subst e; rfl
  | none :: ρ, σ, A, ⟨o, r, e, h⟩ => by subst e; simp [RSl.len h]
  | some (t, b) :: ρ, σ, A, ⟨v, r, A1, A2, e, _, h, _⟩ => by subst e; simp [RSl.len h]
theorem RSl.keep {F : FH} {H : Hp} {F' : FH} {H' : Hp} (h : Sm F F') (kR : ∀ b ∈ F.R, ∀ o, H b = some o → H' b = some o) : ∀ {ρ : Env} {σ : L2.St} {A : List Addr}, (∀ b ∈ A, ∀ o, H b = some o → H' b = some o) → RSl K mg F H ρ σ A → RSl K mg F' H' ρ σ A
  | [], σ, A, _, q => q.elim fun a b => ⟨a, b⟩
  | none :: ρ, σ, A, k, ⟨o, r, e, q⟩ => ⟨o, r, e, RSl.keep h kR k q⟩
  | some (t, b) :: ρ, σ, A, k, ⟨v, r, A1, A2, e, q1, q2, e2⟩ => by
    subst e2
    exact ⟨v, r, A1, A2, e, RT.keep h kR t (fun b hb => k b (List.mem_append_left _ hb)) q1, RSl.keep h kR (fun b hb => k b (List.mem_append_right _ hb)) q2, rfl⟩
theorem RSl.there {F : FH} {H : Hp} : ∀ {ρ : Env} {σ : L2.St} {A : List Addr}, RSl K mg F H ρ σ A → ∀ b ∈ A, H b ≠ none
  | [], σ, A, ⟨_, e⟩ => by subst e; intro b hb; cases hb
  | none :: ρ, σ, A, ⟨o, r, e, q⟩ => RSl.there q
  | some (t, b) :: ρ, σ, A, ⟨v, r, A1, A2, e, q1, q2, e2⟩ => by
    subst e2
    intro b hb
    rcases List.mem_append.mp hb with hb | hb
    · exact RT.there t q1 b hb
    · exact RSl.there q2 b hb
/-- a slot's content is taken out -/
theorem RSl.take {F : FH} {H : Hp} : ∀ {ρ : Env} {σ : L2.St} {A : List Addr} {i : Nat} {t : T} {b : Bool}, RSl K mg F H ρ σ A → ρ[i]? = some (some (t, b)) →
    ∃ v A1 A2, σ[i]? = some (some v) ∧ RT K mg F H t v A1 ∧ A.Perm (A1 ++ A2) ∧ RSl K mg F H (ρ.set i none) σ A2
  | some (t', b') :: ρ, σ, A, 0, t, b, ⟨v, r, A1, A2, e, q1, q2, e2⟩, h => by
    simp at h
    obtain ⟨rfl, rfl⟩ := h
    subst e e2
    exact ⟨v, A1, A2, rfl, q1, .refl _, _, r, rfl, q2⟩
  | none :: ρ, σ, A, i + 1, t, b, ⟨o, r, e, q⟩, h => by
    subst e
    obtain ⟨v, A1, A2, h1, h2, h3, h4⟩ := RSl.take (i := i) q (by simpa using h)
    exact ⟨v, A1, A2, by simpa using h1, h2, h3, o, r, rfl, h4⟩
  | some (t', b') :: ρ, σ, A, i + 1, t, b, ⟨v, r, B1, B2, e, q1, q2, e2⟩, h => by
    subst e e2
    obtain ⟨w, A1, A2, h1, h2, h3, h4⟩ := RSl.take (i := i) q2 (by simpa using h)
    refine ⟨w, A1, B1 ++ A2, by simpa using h1, h2, ?_, v, r, B1, A2, rfl, q1, h4, rfl⟩
    exact (h3.append_left B1).trans (by
      rw [← List.append_assoc, ← List.append_assoc]
      exact List.perm_append_comm.append_right A2)
  | [], σ, A, i, t, b, _, h => by simp at h
  | none :: ρ, σ, A, 0, t, b, _, h => by simp at h
theorem RSl.drop {F : FH} {H : Hp} : ∀ {ρ : Env} {σ : L2.St} {A : List Addr} (i : Nat), RSl K mg F H ρ σ A → ∃ A1 A2, A.Perm (A1 ++ A2) ∧ RSl K mg F H (ρ.set i none) σ A2
  | [], σ, A, i, q => ⟨[], A, .refl _, q⟩
  | none :: ρ, σ, A, 0, q => ⟨[], A, .refl _, q⟩
  | some (t, b) :: ρ, σ, A, 0, ⟨v, r, A1, A2, e, q1, q2, e2⟩ => ⟨A1, A2, by rw [e2], _, r, e, q2⟩
  | none :: ρ, σ, A, i + 1, ⟨o, r, e, q⟩ => by
    obtain ⟨A1, A2, h1, h2⟩ := RSl.drop i q
    exact ⟨A1, A2, h1, o, r, e, h2⟩
  | some (t, b) :: ρ, σ, A, i + 1, ⟨v, r, B1, B2, e, q1, q2, e2⟩ => by
    subst e2
    obtain ⟨A1, A2, h1, h2⟩ := RSl.drop i q2
    refine ⟨A1, B1 ++ A2, ?_, v, r, B1, A2, e, q1, h2, rfl⟩
    exact (h1.append_left B1).trans (by
      rw [← List.append_assoc, ← List.append_assoc]
      exact List.perm_append_comm.append_right A2)
/-- an empty slot is filled -/
theorem RSl.put {F : FH} {H : Hp} {t : T} {v : V} {B : List Addr} (b : Bool) (r : RT K mg F H t v B) : ∀ {ρ : Env} {σ : L2.St} {A : List Addr} {i : Nat}, RSl K mg F H ρ σ A → ρ[i]? = some none →
    ∃ A', A'.Perm (A ++ B) ∧ RSl K mg F H (ρ.set i (some (t, b))) (σ.set i (some v)) A'
  | none :: ρ, σ, A, 0, ⟨o, s, e, q⟩, _ => by
    subst e
    exact ⟨B ++ A, List.perm_append_comm, v, s, B, A, rfl, r, q, rfl⟩
  | none :: ρ, σ, A, i + 1, ⟨o, s, e, q⟩, h => by
    subst e
    obtain ⟨A', h1, h2⟩ := RSl.put b r (i := i) q (by simpa using h)
    exact ⟨A', h1, o, _, rfl, h2⟩
  | some (t', b') :: ρ, σ, A, i + 1, ⟨w, s, A1, A2, e, q1, q2, e2⟩, h => by
    subst e e2
    obtain ⟨A', h1, h2⟩ := RSl.put b r (i := i) q2 (by simpa using h)
    refine ⟨A1 ++ A', ?_, w, _, A1, A', rfl, q1, h2, rfl⟩
    rw [List.append_assoc]
    exact h1.append_left A1
  | some (t', b') :: ρ, σ, A, 0, _, h => by simp at h
  | [], σ, A, i, _, h => by simp at h
/-- .. where the slot's value is it already -/
theorem RSl.back {F : FH} {H : Hp} {t : T} {v : V} {B : List Addr} (b : Bool) (r : RT K mg F H t v B) {ρ : Env} {σ : L2.St} {A : List Addr} {i : Nat} (q : RSl K mg F H ρ σ A) (h : ρ[i]? = some none) (hv : σ[i]? = some (some v)) :
    ∃ A', A'.Perm (A ++ B) ∧ RSl K mg F H (ρ.set i (some (t, b))) σ A' := by
  obtain ⟨A', h1, h2⟩ := RSl.put b r q h
  have e : σ.set i (some v) = σ := by
    obtain ⟨h, e⟩ := List.getElem?_eq_some_iff.mp hv
    rw [← e]; exact List.set_getElem_self h
  rw [e] at h2
  exact ⟨A', h1, h2⟩
theorem RSl.rt {F : FH} {H : Hp} {ρ : Env} {σ : L2.St} {A : List Addr} {i : Nat} {t : T} (q : RSl K mg F H ρ σ A) (h : slot ρ i = some t) : ∃ v A1, σ[i]? = some (some v) ∧ RT K mg F H t v A1 := by
  unfold slot at h
  split at h
  · rename_i t' b e
    cases h
    obtain ⟨v, A1, _, h1, h2, _⟩ := RSl.take q e
    exact ⟨v, A1, h1, h2⟩
  · cases h
theorem Rep.keep {F : FH} {H : Hp} {F' : FH} {H' : Hp} {σ : L2.St} {ρ : Env} {A : List Addr} (r : Rep K mg vs F H σ ρ A) (h : Sm F F') (kR : ∀ b ∈ F.R, ∀ o, H b = some o → H' b = some o) (k : ∀ b ∈ A, ∀ o, H b = some o → H' b = some o) : Rep K mg vs F' H' σ ρ A := ⟨r.fx.trans h.ff, r.st, r.sl.keep h kR k, r.io⟩
theorem Rep.step {F : FH} {H : Hp} {F' : FH} {H' : Hp} {σ : L2.St} {ρ : Env} {A B B' : List Addr} (r : Rep K mg vs F H σ ρ A) (st : Step F H B F' H' B') (w : Wd F H (B ++ A)) : Rep K mg vs F' H' σ ρ A :=
  r.keep st.ff (fun b hb o e => st.fr b o e fun h => (w.rn b hb).1 (List.mem_append_left _ h)) fun b hb o e => st.fr b o e fun h => w.apart h hb
end

/-! ### expressions -/
section
variable (K : PySem.W.Frag) (mg : Str → Option Value)
/-- an exception with its value -/
def ExcAt (F : FH) (H : Hp) (cls : Value) (d : Option Addr) (c : Str) (x : PyData) : Prop :=
  ∃ C dx v, cls = .ref C ∧ mg c = some (.ref C) ∧ d = some dx ∧ F dx = some (.xd [("value", v)]) ∧ Dp K F v x
def EQ (vs : Fx) (W : WX) (F : FH) (H : Hp) (σ : L2.St) (A : List Addr) (Q : VK) : Out T → Prop
  | .ok τ ρ' => ∀ v F' H' A' B, Step F H A F' H' (A' ++ B) → Rep K mg vs F' H' σ ρ' A' → RT K mg F' H' τ v B → Q v H'
  | .exc c x ρ' => ∀ cls d F' H' A', Step F H A F' H' A' → Rep K mg vs F' H' σ ρ' A' → ExcAt K mg F' H' cls d c x → W cls d σ H'
  | .bad => False
def OR (F : FH) (H : Hp) (σ : L2.St) : Opd → V → List Addr → Prop
  | .inl t, v, B => RT K mg F H t v B
  | .inr i, v, B => σ[i]? = some (some v) ∧ B = []
def OQ (vs : Fx) (W : WX) (F : FH) (H : Hp) (σ : L2.St) (A : List Addr) (Q : VK) : Out Opd → Prop
  | .ok o ρ' => ∀ v F' H' A' B, Step F H A F' H' (A' ++ B) → Rep K mg vs F' H' σ ρ' A' → OR K mg F' H' σ o v B → Q v H'
  | .exc c x ρ' => ∀ cls d F' H' A', Step F H A F' H' A' → Rep K mg vs F' H' σ ρ' A' → ExcAt K mg F' H' cls d c x → W cls d σ H'
  | .bad => False
end
structure FE (X : Cx) (vs : Fx) (W : WX) (e : Expr) (m : M T) : Prop where
  ex : ∃ t : TE, PE X e t ∧ ∀ (σ : L2.St) (H : Hp) (F : FH) (ρ : Env) (A : List Addr) (Q : VK), Wd F H A → Rep X.K X.mg vs F H σ ρ A → EQ X.K X.mg vs W F H σ A Q (m ρ) → t σ H Q
structure FO (X : Cx) (vs : Fx) (W : WX) (e : Expr) (m : M Opd) : Prop where
  ex : ∃ t : TE, PE X e t ∧ ∀ (σ : L2.St) (H : Hp) (F : FH) (ρ : Env) (A : List Addr) (Q : VK), Wd F H A → Rep X.K X.mg vs F H σ ρ A → OQ X.K X.mg vs W F H σ A Q (m ρ) → t σ H Q
/-- behind a step: with what was kept besides -/
theorem Step.comp {F : FH} {H : Hp} {F1 : FH} {H1 : Hp} {F2 : FH} {H2 : Hp} {A A1 B1 A2 : List Addr} (a : Step F H A F1 H1 (A1 ++ B1)) (b : Step F1 H1 A1 F2 H2 A2) : Step F H A F2 H2 (A2 ++ B1) := a.trans (b.wide a.wd)
theorem Step.compL {F : FH} {H : Hp} {F1 : FH} {H1 : Hp} {F2 : FH} {H2 : Hp} {A A1 B1 A2 : List Addr} (a : Step F H A F1 H1 (A1 ++ B1)) (b : Step F1 H1 A1 F2 H2 A2) : Step F H A F2 H2 A2 := (a.comp b).less
section
variable {K : PySem.W.Frag} {mg : Str → Option Value} {vs : Fx} {W : WX}
theorem OR.step {F : FH} {H : Hp} {F' : FH} {H' : Hp} {σ : L2.St} {A A' B : List Addr} {o : Opd} {v : V} (st : Step F H A F' H' A') (w : Wd F H (A ++ B)) (r : OR K mg F H σ o v B) : OR K mg F' H' σ o v B := by
  cases o with
  | inl t => exact RT.step (t := t) st w r
  | inr i => exact r
/-- an operand is resolved -/
theorem OR.res {F : FH} {H : Hp} {σ : L2.St} {ρ : Env} {A B : List Addr} {o : Opd} {v : V} {t : T} (rep : Rep K mg vs F H σ ρ A) (r : OR K mg F H σ o v B) (e : res ρ o = some t) : ∃ B', RT K mg F H t v B' := by
  cases o with
  | inl t' => cases e; exact ⟨B, r⟩
  | inr i =>
    obtain ⟨w, A1, h1, h2⟩ := rep.sl.rt (i := i) e
    obtain ⟨r1, _⟩ := r
    rw [h1] at r1; cases r1
    exact ⟨A1, h2⟩
end
section
variable {X : Cx} {vs : Fx} {W : WX} {e a b : Expr} {m ma mb : M T} {pos : Pos}
theorem fo_v (h : FE X vs W e m) : FO X vs W e (oV m) := by
  obtain ⟨t, p, q⟩ := h
  refine ⟨t, p, fun σ H F ρ A Q w r hq => q σ H F ρ A Q w r ?_⟩
  unfold oV M.bind at hq
  cases hm : m ρ with
  | ok τ ρ' => rw [hm] at hq; exact fun v F' H' A' B st rp rt => hq v F' H' A' B st rp rt
  | exc c x ρ' => rw [hm] at hq; exact hq
  | bad => rw [hm] at hq; exact hq
theorem fo_l (i : Nat) {x : Str} (hN : X.N[i]? = some x := by rfl) (hv : Vis X.env.scope x := by first | exact Or.inl rfl | exact Or.inr (Or.inl rfl) | exact Or.inr (Or.inr rfl)) (hd : (x == ("__debug__" : Str)) = false := by decide)
    (hcd : (x == ("__classdict__" : Str)) = false := by decide) : FO X vs W (.Name x pos) (fun ρ => match slot ρ i with | some _ => oL i ρ | none => .bad) := by
  refine ⟨_, pe_var (i := i) hN hv hd hcd, fun σ H F ρ A Q w r hq => ?_⟩
  cases hs : slot ρ i with
  | none => simp only [hs] at hq; exact hq.elim
  | some t =>
    simp only [hs] at hq
    obtain ⟨v, A1, h1, _⟩ := r.sl.rt hs
    exact ⟨v, h1, hq v F H A [] (by rw [List.append_nil]; exact .refl w) r ⟨h1, rfl⟩⟩
/-- a slot read: what can be frozen is frozen -/
def eVar (i : Nat) : M T := fun ρ => match ρ[i]? with
  | some (some (t, b)) => (match t.share with
    | some u => .ok u (ρ.set i (some (u, b)))
    | none => .bad)
  | _ => .bad
theorem RT.share {K : PySem.W.Frag} {mg : Str → Option Value} {F : FH} {H : Hp} {t u : T} {v : V} {A : List Addr} (hA : ∀ b ∈ A, F b = none) (r : RT K mg F H t v A) (e : t.share = some u) : RT K mg (frO F H A) H u v [] := by
  cases t with
  | ob c fs =>
    cases e
    obtain ⟨a, C, dx, vfs, e1, e2, e3, r, e4⟩ := r
    exact ⟨a, C, dx, vfs, e1, e2, (frO_same hA).ff _ _ e3, RFs.same (frO_same hA).ff r, rfl⟩
  | d x =>
    simp only [T.share, T.toF, Option.map_some, Option.some.injEq] at e
    subst e
    exact ⟨Dp.same (frO_same hA).ff _ r.1, rfl⟩
  | ol xs =>
    simp only [T.share, Option.map_eq_some_iff] at e
    obtain ⟨x, hx, rfl⟩ := e
    exact ⟨RT.freeze hA r hx, rfl⟩
  | tp xs =>
    simp only [T.share, Option.map_eq_some_iff] at e
    obtain ⟨x, hx, rfl⟩ := e
    exact ⟨RT.freeze hA r hx, rfl⟩
  | od xs => simp [T.share, T.toF] at e
  | scr ns =>
    cases e
    obtain ⟨a, e1, e2, e3⟩ := r
    exact ⟨a, e1, same_sqL (frO_same hA).ff e2, rfl⟩
  | oi c fs => simp [T.share, T.toF] at e
  | bw t0 =>
    cases e
    obtain ⟨_, B, hB, r0⟩ := r
    exact ⟨rfl, B, hB, RT.keep (frO_same hA) (fun _ _ _ e => e) t0 (fun _ _ _ e => e) r0⟩
/-- what is owned at A1 is frozen -/
theorem Step.frozen {F : FH} {H : Hp} {A A1 A2 : List Addr} (w : Wd F H A) (p : A.Perm (A1 ++ A2)) : Step F H A (frO F H A1) H A2 := by
  have w' := w.perm p
  refine ⟨frO_same fun b hb => w'.left.fn b hb, fun _ _ e _ => e, fun b e n => ?_, fun b hb => .inl (p.mem_iff.mpr (List.mem_append_right _ hb)), ⟨frO_sub w.sub, w'.right.nd, fun b hb => ?_, fun b hb => w'.right.th b hb, fun b hb => w'.right.rn b hb⟩⟩
  · have n : (if b ∈ A1 then H b else F.m b) ≠ none := n
    split at n
    · rename_i h; exact .inr (p.mem_iff.mpr (List.mem_append_left _ h))
    · exact absurd e n
  · show (if b ∈ A1 then H b else F.m b) = none
    rw [if_neg fun h => w'.apart h hb]
    exact w'.right.fn b hb
theorem fe_var (i : Nat) {x : Str} (hN : X.N[i]? = some x := by rfl) (hv : Vis X.env.scope x := by first | exact Or.inl rfl | exact Or.inr (Or.inl rfl) | exact Or.inr (Or.inr rfl)) (hd : (x == ("__debug__" : Str)) = false := by decide)
    (hcd : (x == ("__classdict__" : Str)) = false := by decide) : FE X vs W (.Name x pos) (eVar i) := by
  refine ⟨_, pe_var (i := i) hN hv hd hcd, fun σ H F ρ A Q w r hq => ?_⟩
  unfold eVar at hq
  split at hq
  · rename_i t b hs
    split at hq
    · rename_i u hu
      obtain ⟨v, A1, A2, h1, h2, h3, h4⟩ := r.sl.take hs
      have st := Step.frozen w h3
      have rt : RT X.K X.mg (frO F H A1) H u v [] := RT.share (fun b hb => (w.perm h3).left.fn b hb) h2 hu
      have h4' := h4.keep (F' := frO F H A1) (H' := H) st.ff (fun _ _ _ e => e) fun _ _ _ e => e
      have hi : (ρ.set i none)[i]? = some none := by
        obtain ⟨hlt, _⟩ := List.getElem?_eq_some_iff.mp hs
        simp [hlt]
      obtain ⟨A', p', h5⟩ := h4'.back b rt hi h1
      rw [List.append_nil] at p'
      refine ⟨v, h1, hq v (frO F H A1) H A' [] ?_ ⟨r.fx.trans st.ff.ff, r.st, ?_, fun j t hj => ?_⟩ rt⟩
      · rw [List.append_nil]; exact st.perm (.refl _) p'.symm
      · rw [List.set_set] at h5; exact h5
      · by_cases hij : i = j
        · subst hij
          obtain ⟨hlt, _⟩ := List.getElem?_eq_some_iff.mp hs
          rw [List.getElem?_set_self hlt] at hj
          simp only [Option.some.injEq, Prod.mk.injEq] at hj
          obtain ⟨_, rfl⟩ := hj
          exact r.io i _ hs
        · rw [List.getElem?_set_ne hij] at hj
          exact r.io j t hj
    · exact hq.elim
  · exact hq.elim
/-- a slot's content taken out -/
def eMove (i : Nat) : M T := fun ρ => match ρ[i]? with
  | some (some (t, _)) => .ok t (ρ.set i none)
  | _ => .bad
theorem io_set_none {K : PySem.W.Frag} {mg : Str → Option Value} {F : FH} {H : Hp} {σ : L2.St} {ρ : Env} {A : List Addr} {i : Nat} (r : Rep K mg vs F H σ ρ A) : ∀ (j : Nat) (t : T), (ρ.set i none)[j]? = some (some (t, true)) → ∃ v, vs.ws[j]? = some v ∧ σ[j]? = some (some v) := fun j t hj => by
  by_cases hij : i = j
  · subst hij
    rw [List.getElem?_set] at hj
    split at hj <;> first | (split at hj <;> simp at hj) | skip
    exact r.io _ _ hj
  · rw [List.getElem?_set_ne hij] at hj
    exact r.io j t hj
theorem fe_move (i : Nat) {x : Str} (hN : X.N[i]? = some x := by rfl) (hv : Vis X.env.scope x := by first | exact Or.inl rfl | exact Or.inr (Or.inl rfl) | exact Or.inr (Or.inr rfl)) (hd : (x == ("__debug__" : Str)) = false := by decide)
    (hcd : (x == ("__classdict__" : Str)) = false := by decide) : FE X vs W (.Name x pos) (eMove i) := by
  refine ⟨_, pe_var (i := i) hN hv hd hcd, fun σ H F ρ A Q w r hq => ?_⟩
  unfold eMove at hq
  split at hq
  · rename_i t b hs
    obtain ⟨v, A1, A2, h1, h2, h3, h4⟩ := r.sl.take hs
    refine ⟨v, h1, hq v F H A2 A1 ((Step.refl w).perm (.refl _) (h3.trans List.perm_append_comm)) ⟨r.fx, r.st, h4, io_set_none r⟩ h2⟩
  · exact hq.elim

/-! ### constants -/
def eC (x : PyData) : M T := .pure (.d x)
theorem fe_c {v : V} {x : PyData} (h : PE X e (tC v)) (d : ∀ F : Hp, Dp X.K F v x) : FE X vs W e (eC x) := by
  refine ⟨_, h, fun σ H F ρ A Q w r hq => ?_⟩
  exact hq v F H A [] (by rw [List.append_nil]; exact .refl w) r ⟨d F, rfl⟩
theorem fe_int {i j pos} : FE X vs W (.Constant (.int i) j pos) (eC (.int i)) := fe_c pe_int fun _ => .int _
theorem fe_bl {b j pos} : FE X vs W (.Constant (.bool b) j pos) (eC (.bool b)) := fe_c pe_bl fun _ => .bl _
theorem fe_non {j pos} : FE X vs W (.Constant .none j pos) (eC .none) := fe_c pe_non fun _ => .non
theorem fe_str {x j pos} : FE X vs W (.Constant (.str x) j pos) (eC (.str x)) := fe_c pe_str fun _ => .str _

/-! ### growth -/
structure Grow (F : FH) (H : Hp) (F' : FH) (H' : Hp) (B : List Addr) : Prop where
  ff : Sm F F'
  hh : Same H H'
  sub : Same F' H'
  fz : ∀ b, F b = none → F' b ≠ none → H b = none
  nd : B.Nodup
  nw : ∀ b ∈ B, H b = none ∧ F' b = none ∧ H' b ≠ none
theorem Grow.step {F : FH} {H : Hp} {F' : FH} {H' : Hp} {A B : List Addr} (g : Grow F H F' H' B) (w : Wd F H A) : Step F H A F' H' (A ++ B) := Step.grow w g.ff g.hh g.sub g.fz g.nd g.nw
theorem Grow.refl {F : FH} {H : Hp} (h : Same F H) : Grow F H F H [] := ⟨.refl _, .refl _, h, fun _ e n => absurd e n, List.nodup_nil, fun _ hb => by cases hb⟩
/-- a new owned object -/
theorem Grow.own {F : FH} {H : Hp} {p : Addr} {o : HO} (h : Same F H) (n : H p = none) : Grow F H F (upd H p o) [p] := by
  have hh : Same H (upd H p o) := fun b u e => by rw [upd_ne (ne_of_none e n)]; exact e
  refine ⟨.refl _, hh, h.trans hh, fun _ e n => absurd e n, by simp, fun b hb => ?_⟩
  have e : b = p := by simpa using hb
  subst e
  exact ⟨n, h.free n, by rw [upd_same]; simp⟩
/-- a new frozen object -/
theorem Grow.frz {F : FH} {H : Hp} {p : Addr} {o : HO} (h : Same F H) (n : H p = none) : Grow F H (updF F p o) (upd H p o) [] := by
  have hh : Same H (upd H p o) := fun b u e => by rw [upd_ne (ne_of_none e n)]; exact e
  have ff : Same F.m (upd F.m p o) := fun b u e => by rw [upd_ne (ne_of_none e (h.free n))]; exact e
  refine ⟨⟨ff, rfl⟩, hh, fun b u e => ?_, fun b e q => ?_, List.nodup_nil, fun b hb => by cases hb⟩
  · have e : upd F.m p o b = some u := e
    by_cases hb : b = p
    · subst hb; rw [upd_same] at e ⊢; exact e
    · rw [upd_ne hb] at e ⊢; exact h b u e
  · have q : upd F.m p o b ≠ none := q
    by_cases hb : b = p
    · subst hb; exact n
    · rw [upd_ne hb] at q; exact absurd e q
theorem RT.grow {K : PySem.W.Frag} {mg : Str → Option Value} {F : FH} {H : Hp} {F' : FH} {H' : Hp} {B A : List Addr} {t : T} {v : V} (g : Grow F H F' H' B) (r : RT K mg F H t v A) : RT K mg F' H' t v A := RT.keep g.ff (fun b _ o e => g.hh b o e) t (fun b _ o e => g.hh b o e) r
theorem RTs.grow {K : PySem.W.Frag} {mg : Str → Option Value} {F : FH} {H : Hp} {F' : FH} {H' : Hp} {B A : List Addr} {t : List T} {v : List V} (g : Grow F H F' H' B) (r : RTs K mg F H t v A) : RTs K mg F' H' t v A := RTs.keep g.ff (fun b _ o e => g.hh b o e) t (fun b _ o e => g.hh b o e) r
theorem Rep.grow {K : PySem.W.Frag} {mg : Str → Option Value} {F : FH} {H : Hp} {F' : FH} {H' : Hp} {B A : List Addr} {σ : L2.St} {ρ : Env} (g : Grow F H F' H' B) (r : Rep K mg vs F H σ ρ A) : Rep K mg vs F' H' σ ρ A := r.keep g.ff (fun b _ o e => g.hh b o e) fun b _ o e => g.hh b o e

/-! ### two operands -/
/-- f is what the rule r gives -/
def OpF (K : PySem.W.Frag) (mg : Str → Option Value) (r : R2) (f : T → T → Option T) : Prop :=
  ∀ (F : FH) (H : Hp) (x y : V) (t u τ : T) (A1 A2 : List Addr) (Q : VK), Same F H → RT K mg F H t x A1 → RT K mg F H u y A2 → f t u = some τ →
    (∀ v F' H' B, Grow F H F' H' B → RT K mg F' H' τ v B → Q v H') → r x y H Q
def eOp2 (f : T → T → Option T) (ma mb : M Opd) : M T := ma.bind fun a => mb.bind fun b => fun ρ => match res ρ a, res ρ b with
  | some x, some y => lift (f x y) ρ
  | _, _ => .bad
theorem fe_two {f : T → T → Option T} {ma mb : M Opd} {r : R2} (ha : FO X vs W a ma) (hb : FO X vs W b mb) (hr : OpF X.K X.mg r f) (hp : ∀ ta tb, PE X a ta → PE X b tb → PE X e (tOp r ta tb)) : FE X vs W e (eOp2 f ma mb) := by
  obtain ⟨ta, pa, qa⟩ := ha
  obtain ⟨tb, pb, qb⟩ := hb
  refine ⟨_, hp ta tb pa pb, fun σ H F ρ A Q w rp hq => ?_⟩
  refine qa σ H F ρ A _ w rp ?_
  unfold eOp2 M.bind at hq
  cases e1 : ma ρ with
  | bad => rw [e1] at hq; exact hq
  | exc c x ρ' => rw [e1] at hq; exact hq
  | ok oa ρ1 =>
    rw [e1] at hq
    simp only [Out.bind] at hq
    intro va F1 H1 A1 B1 st1 rp1 r1
    refine qb σ H1 F1 ρ1 A1 _ st1.wd.left rp1 ?_
    cases e2 : mb ρ1 with
    | bad => rw [e2] at hq; exact hq
    | exc c x ρ' => rw [e2] at hq; exact fun cls d F' H' A' st rp' ex => hq cls d F' H' A' (st1.compL st) rp' ex
    | ok ob ρ2 =>
      rw [e2] at hq
      simp only at hq
      intro vb F2 H2 A2 B2 st2 rp2 r2
      have r1' := r1.step st2 st1.wd
      split at hq
      · rename_i x y ex ey
        obtain ⟨C1, k1⟩ := r1'.res rp2 ex
        obtain ⟨C2, k2⟩ := r2.res rp2 ey
        unfold lift at hq
        split at hq
        · rename_i τ hf
          refine hr F2 H2 va vb x y τ C1 C2 Q st2.wd.sub k1 k2 hf fun v F3 H3 B g rt => ?_
          refine hq v F3 H3 A2 B ?_ (rp2.grow g) rt
          have s3 := (st1.comp st2).less.less
          exact s3.trans (g.step s3.wd)
        · exact hq.elim
      · exact hq.elim
/-- one operand -/
def OpF1 (K : PySem.W.Frag) (mg : Str → Option Value) (r : V → Hp → VK → Prop) (f : T → Option T) : Prop :=
  ∀ (F : FH) (H : Hp) (x : V) (t τ : T) (A1 : List Addr) (Q : VK), Same F H → RT K mg F H t x A1 → f t = some τ →
    (∀ v F' H' B, Grow F H F' H' B → RT K mg F' H' τ v B → Q v H') → r x H Q
def eOp1 (f : T → Option T) (ma : M Opd) : M T := ma.bind fun a => fun ρ => match res ρ a with
  | some x => lift (f x) ρ
  | _ => .bad
theorem fe_one {f : T → Option T} {ma : M Opd} {r : V → Hp → VK → Prop} (ha : FO X vs W a ma) (hr : OpF1 X.K X.mg r f) (hp : ∀ ta, PE X a ta → PE X e (fun σ H Q => ta σ H fun x H1 => r x H1 Q)) : FE X vs W e (eOp1 f ma) := by
  obtain ⟨ta, pa, qa⟩ := ha
  refine ⟨_, hp ta pa, fun σ H F ρ A Q w rp hq => ?_⟩
  refine qa σ H F ρ A _ w rp ?_
  unfold eOp1 M.bind at hq
  cases e1 : ma ρ with
  | bad => rw [e1] at hq; exact hq
  | exc c x ρ' => rw [e1] at hq; exact hq
  | ok oa ρ1 =>
    rw [e1] at hq
    simp only [Out.bind] at hq
    intro va F1 H1 A1 B1 st1 rp1 r1
    split at hq
    · rename_i x ex
      obtain ⟨C1, k1⟩ := r1.res rp1 ex
      unfold lift at hq
      split at hq
      · rename_i τ hf
        refine hr F1 H1 va x τ C1 Q st1.wd.sub k1 hf fun v F3 H3 B g rt => ?_
        exact hq v F3 H3 A1 B (st1.less.trans (g.step st1.less.wd)) (rp1.grow g) rt
      · exact hq.elim
    · exact hq.elim
end
end FL

set_option Elab.async false
set_option linter.all false
set_option maxRecDepth 100000
namespace FL
open PySem PySem.Spec PyProof.Rows L2

/-! ### lists of expressions, of operands -/
section
variable (K : PySem.W.Frag) (mg : Str → Option Value)
def AQ (vs : Fx) (W : WX) (F : FH) (H : Hp) (σ : L2.St) (A : List Addr) (Q : List V → Hp → Prop) : Out (List T) → Prop
  | .ok τs ρ' => ∀ ws F' H' A' B, Step F H A F' H' (A' ++ B) → Rep K mg vs F' H' σ ρ' A' → RTs K mg F' H' τs ws B → Q ws H'
  | .exc c x ρ' => ∀ cls d F' H' A', Step F H A F' H' A' → Rep K mg vs F' H' σ ρ' A' → ExcAt K mg F' H' cls d c x → W cls d σ H'
  | .bad => False
def ORs (F : FH) (H : Hp) (σ : L2.St) : List Opd → List V → List Addr → Prop
  | [], ws, B => ws = [] ∧ B = []
  | o :: os, ws, B => ∃ v r B1 B2, ws = v :: r ∧ OR K mg F H σ o v B1 ∧ ORs F H σ os r B2 ∧ B = B1 ++ B2
def OsQ (vs : Fx) (W : WX) (F : FH) (H : Hp) (σ : L2.St) (A : List Addr) (Q : List V → Hp → Prop) : Out (List Opd) → Prop
  | .ok os ρ' => ∀ ws F' H' A' B, Step F H A F' H' (A' ++ B) → Rep K mg vs F' H' σ ρ' A' → ORs K mg F' H' σ os ws B → Q ws H'
  | .exc c x ρ' => ∀ cls d F' H' A', Step F H A F' H' A' → Rep K mg vs F' H' σ ρ' A' → ExcAt K mg F' H' cls d c x → W cls d σ H'
  | .bad => False
def TQ (vs : Fx) (W : WX) (F : FH) (H : Hp) (σ : L2.St) (A : List Addr) (Q : Bool → Hp → Prop) : Out Bool → Prop
  | .ok b ρ' => ∀ F' H' A', Step F H A F' H' A' → Rep K mg vs F' H' σ ρ' A' → Q b H'
  | .exc c x ρ' => ∀ cls d F' H' A', Step F H A F' H' A' → Rep K mg vs F' H' σ ρ' A' → ExcAt K mg F' H' cls d c x → W cls d σ H'
  | .bad => False
end
structure FAs (X : Cx) (vs : Fx) (W : WX) (es : List Expr) (m : M (List T)) : Prop where
  ex : ∃ t : TA, PA X es t ∧ ∀ (σ : L2.St) (H : Hp) (F : FH) (ρ : Env) (A : List Addr) (Q : List V → Hp → Prop), Wd F H A → Rep X.K X.mg vs F H σ ρ A → AQ X.K X.mg vs W F H σ A Q (m ρ) → t σ H Q
structure FOs (X : Cx) (vs : Fx) (W : WX) (es : List Expr) (m : M (List Opd)) : Prop where
  ex : ∃ t : TA, PA X es t ∧ ∀ (σ : L2.St) (H : Hp) (F : FH) (ρ : Env) (A : List Addr) (Q : List V → Hp → Prop), Wd F H A → Rep X.K X.mg vs F H σ ρ A → OsQ X.K X.mg vs W F H σ A Q (m ρ) → t σ H Q
structure FT (X : Cx) (vs : Fx) (W : WX) (e : Expr) (m : M Bool) : Prop where
  ex : ∃ t : TT, PT X e t ∧ ∀ (σ : L2.St) (H : Hp) (F : FH) (ρ : Env) (A : List Addr) (Q : Bool → Hp → Prop), Wd F H A → Rep X.K X.mg vs F H σ ρ A → TQ X.K X.mg vs W F H σ A Q (m ρ) → t σ H Q
/-- a chain of and, or -/
structure FW (X : Cx) (vs : Fx) (W : WX) (e : Expr) (m : M Bool) : Prop where
  ex : ∃ t : TT, PW X e t ∧ ∀ (σ : L2.St) (H : Hp) (F : FH) (ρ : Env) (A : List Addr) (Q : Bool → Hp → Prop), Wd F H A → Rep X.K X.mg vs F H σ ρ A → TQ X.K X.mg vs W F H σ A Q (m ρ) → t σ H Q
section
variable {K : PySem.W.Frag} {mg : Str → Option Value} {vs : Fx}
theorem ORs.step {F : FH} {H : Hp} {F' : FH} {H' : Hp} {σ : L2.St} {A A' : List Addr} (st : Step F H A F' H' A') : ∀ {os : List Opd} {ws : List V} {B : List Addr}, Wd F H (A ++ B) → ORs K mg F H σ os ws B → ORs K mg F' H' σ os ws B
  | [], ws, B, _, q => q.elim fun a b => ⟨a, b⟩
  | o :: os, ws, B, w, ⟨v, r, B1, B2, e1, q1, q2, e2⟩ => by
    subst e2
    have w1 : Wd F H (A ++ B1) := by rw [← List.append_assoc] at w; exact w.left
    have w2 : Wd F H (A ++ B2) := (w.perm (B := (A ++ B2) ++ B1) (by
      rw [List.append_assoc]; exact List.perm_append_comm.append_left A)).left
    exact ⟨v, r, B1, B2, e1, q1.step st w1, ORs.step st w2 q2, rfl⟩
def ress (ρ : Env) : List Opd → Option (List T)
  | [] => some []
  | o :: os => (res ρ o).bind fun t => (ress ρ os).map fun ts => t :: ts
/-- operands resolved: each stands for itself -/
def RTe (K : PySem.W.Frag) (mg : Str → Option Value) (F : FH) (H : Hp) : List T → List V → Prop
  | [], ws => ws = []
  | t :: ts, ws => ∃ v r B, ws = v :: r ∧ RT K mg F H t v B ∧ RTe K mg F H ts r
theorem ORs.ress {F : FH} {H : Hp} {σ : L2.St} {ρ : Env} {A : List Addr} (rep : Rep K mg vs F H σ ρ A) : ∀ {os : List Opd} {ws : List V} {B : List Addr} {ts : List T}, ORs K mg F H σ os ws B → FL.ress ρ os = some ts → RTe K mg F H ts ws
  | [], ws, B, ts, ⟨e, _⟩, h => by cases h; exact e
  | o :: os, ws, B, ts, ⟨v, r, B1, B2, e1, q1, q2, e2⟩, h => by
    simp only [FL.ress, Option.bind_eq_some_iff, Option.map_eq_some_iff] at h
    obtain ⟨t, ht, us, hu, rfl⟩ := h
    obtain ⟨B', r'⟩ := q1.res rep ht
    exact ⟨v, r, B', e1, r', ORs.ress rep q2 hu⟩
end
def aNil : M (List T) := .pure []
def aCons (m : M T) (ms : M (List T)) : M (List T) := m.bind fun t => ms.bind fun ts => .pure (t :: ts)
def osNil : M (List Opd) := .pure []
def osCons (m : M Opd) (ms : M (List Opd)) : M (List Opd) := m.bind fun t => ms.bind fun ts => .pure (t :: ts)
section
variable {X : Cx} {vs : Fx} {W : WX} {e a b : Expr} {es : List Expr} {m ma mb : M T} {ms : M (List T)} {mo : M Opd} {mos : M (List Opd)} {pos : Pos}
theorem fa_nil : FAs X vs W [] aNil := ⟨_, pa_nil, fun σ H F ρ A Q w r hq => hq [] F H A [] (by rw [List.append_nil]; exact .refl w) r ⟨rfl, rfl⟩⟩
theorem fa_cons (h : FE X vs W e m) (hs : FAs X vs W es ms) (hst : starEach (e :: es) X.env = (false, eval e X.env) :: starEach es X.env := by rfl) : FAs X vs W (e :: es) (aCons m ms) := by
  obtain ⟨te, pe, qe⟩ := h
  obtain ⟨ts, ps, qs⟩ := hs
  refine ⟨_, pa_cons pe ps hst, fun σ H F ρ A Q w rp hq => ?_⟩
  refine qe σ H F ρ A _ w rp ?_
  unfold aCons M.bind at hq
  cases e1 : m ρ with
  | bad => rw [e1] at hq; exact hq
  | exc c x ρ' => rw [e1] at hq; exact hq
  | ok τ ρ1 =>
    rw [e1] at hq
    simp only [Out.bind] at hq
    intro v F1 H1 A1 B1 st1 rp1 r1
    refine qs σ H1 F1 ρ1 A1 _ st1.wd.left rp1 ?_
    cases e2 : ms ρ1 with
    | bad => rw [e2] at hq; exact hq
    | exc c x ρ' => rw [e2] at hq; exact fun cls d F' H' A' st rp' ex => hq cls d F' H' A' (st1.compL st) rp' ex
    | ok τs ρ2 =>
      rw [e2] at hq
      intro ws F2 H2 A2 B2 st2 rp2 r2
      refine hq (v :: ws) F2 H2 A2 (B1 ++ B2) ?_ rp2 ⟨v, ws, B1, B2, rfl, RT.step st2 st1.wd r1, r2, rfl⟩
      exact (st1.comp st2).perm (.refl _) (by rw [List.append_assoc]; exact List.perm_append_comm.append_left A2)
theorem fos_nil : FOs X vs W [] osNil := ⟨_, pa_nil, fun σ H F ρ A Q w r hq => hq [] F H A [] (by rw [List.append_nil]; exact .refl w) r ⟨rfl, rfl⟩⟩
theorem fos_cons (h : FO X vs W e mo) (hs : FOs X vs W es mos) (hst : starEach (e :: es) X.env = (false, eval e X.env) :: starEach es X.env := by rfl) : FOs X vs W (e :: es) (osCons mo mos) := by
  obtain ⟨te, pe, qe⟩ := h
  obtain ⟨ts, ps, qs⟩ := hs
  refine ⟨_, pa_cons pe ps hst, fun σ H F ρ A Q w rp hq => ?_⟩
  refine qe σ H F ρ A _ w rp ?_
  unfold osCons M.bind at hq
  cases e1 : mo ρ with
  | bad => rw [e1] at hq; exact hq
  | exc c x ρ' => rw [e1] at hq; exact hq
  | ok τ ρ1 =>
    rw [e1] at hq
    simp only [Out.bind] at hq
    intro v F1 H1 A1 B1 st1 rp1 r1
    refine qs σ H1 F1 ρ1 A1 _ st1.wd.left rp1 ?_
    cases e2 : mos ρ1 with
    | bad => rw [e2] at hq; exact hq
    | exc c x ρ' => rw [e2] at hq; exact fun cls d F' H' A' st rp' ex => hq cls d F' H' A' (st1.compL st) rp' ex
    | ok τs ρ2 =>
      rw [e2] at hq
      intro ws F2 H2 A2 B2 st2 rp2 r2
      refine hq (v :: ws) F2 H2 A2 (B1 ++ B2) ?_ rp2 ⟨v, ws, B1, B2, rfl, OR.step st2 st1.wd r1, r2, rfl⟩
      exact (st1.comp st2).perm (.refl _) (by rw [List.append_assoc]; exact List.perm_append_comm.append_left A2)

/-! ### displays -/
/-- the items, where all are data -/
def dOf : T → Option PyData
  | .d x => some x
  | _ => none
def dats : List T → Option (List PyData)
  | [] => some []
  | t :: r => (dOf t).bind fun x => (dats r).map fun ds => x :: ds
theorem dOf_rt {K : PySem.W.Frag} {mg : Str → Option Value} {F : FH} {H : Hp} {t : T} {v : V} {B : List Addr} {x : PyData} (r : RT K mg F H t v B) (e : dOf t = some x) : Dp K F v x ∧ B = [] := by
  cases t with
  | d y => cases e; exact r
  | _ => cases e
theorem dats_rt {K : PySem.W.Frag} {mg : Str → Option Value} {F : FH} {H : Hp} {ts : List T} : ∀ {ds : List PyData} {ws : List V} {B : List Addr}, RTs K mg F H ts ws B → dats ts = some ds → DpAll K F ws ds ∧ B = [] := by
  induction ts with
  | nil =>
    intro ds ws B r h
    obtain ⟨e1, e2⟩ := r
    cases h; subst e1 e2; exact ⟨.nil, rfl⟩
  | cons t r ih =>
    intro ds ws B hr h
    obtain ⟨v, s, B1, B2, e1, q1, q2, e2⟩ := hr
    simp only [dats, Option.bind_eq_some_iff, Option.map_eq_some_iff] at h
    obtain ⟨x, hx, ds', h, rfl⟩ := h
    obtain ⟨k1, k2⟩ := ih q2 h
    obtain ⟨k3, k4⟩ := dOf_rt q1 hx
    subst e1 k2 k4 e2
    exact ⟨.cons k3 k1, rfl⟩
def mkTup (ts : List T) : T := match dats ts with
  | some ds => .d (.tuple ds)
  | none => .tp ts
theorem mkTup_rt {K : PySem.W.Frag} {mg : Str → Option Value} {F : FH} {H : Hp} {ts : List T} {ws : List V} {B : List Addr} {p : Addr} (r : RTs K mg F H ts ws B) (n : H p = none) (h : Same F H) : RT K mg (updF F p (.tup ws)) (upd H p (.tup ws)) (mkTup ts) (.ref p) B := by
  have g := Grow.frz (o := .tup ws) h n
  have r' := RTs.grow g r
  unfold mkTup
  cases e : dats ts with
  | some ds =>
    obtain ⟨k1, k2⟩ := dats_rt r' e
    exact ⟨.tup (.of upd_same) k1, k2⟩
  | none => exact ⟨p, ws, rfl, .of upd_same, r'⟩
def small (n : Nat) : Bool := decide (n ≤ 16777216)
theorem small_le {n : Nat} (h : small n = true) : n ≤ sizeLine := by rw [sizeLine_eq]; exact of_decide_eq_true h
def eTup (ms : M (List T)) : M T := ms.bind fun ts => lift (if small ts.length then some (mkTup ts) else none)
def eLst (ms : M (List T)) : M T := ms.bind fun ts => lift (if small ts.length then some (.ol ts) else none)
theorem RTs.length {K : PySem.W.Frag} {mg : Str → Option Value} {F : FH} {H : Hp} : ∀ {ts : List T} {ws : List V} {B : List Addr}, RTs K mg F H ts ws B → ts.length = ws.length
  | [], ws, B, ⟨e, _⟩ => by subst e; rfl
  | t :: ts, ws, B, ⟨v, r, B1, B2, e, q1, q2, e2⟩ => by subst e; simp [RTs.length q2]
theorem fe_tup {k : Nat} (h : FAs X vs W es ms) : FE X vs W (.Tuple es k pos) (eTup ms) := by
  obtain ⟨ts, ps, qs⟩ := h
  refine ⟨_, pe_tup ps, fun σ H F ρ A Q w rp hq => ?_⟩
  refine qs σ H F ρ A _ w rp ?_
  unfold eTup M.bind at hq
  cases e1 : ms ρ with
  | bad => rw [e1] at hq; exact hq
  | exc c x ρ' => rw [e1] at hq; exact hq
  | ok τs ρ1 =>
    rw [e1] at hq
    intro ws F1 H1 A1 B1 st1 rp1 r1
    simp only [Out.bind, lift] at hq
    by_cases hz : small τs.length
    · rw [if_pos hz] at hq
      refine ⟨by rw [← r1.length]; exact small_le hz, fun p n => ?_⟩
      have g := Grow.frz (o := .tup ws) st1.wd.sub n
      exact hq _ _ _ A1 B1 ((st1.trans (g.step st1.wd)).perm (.refl _) (by rw [List.append_nil])) (rp1.grow g) (mkTup_rt r1 n st1.wd.sub)
    · rw [if_neg hz] at hq; exact hq.elim
theorem ol_rt {K : PySem.W.Frag} {mg : Str → Option Value} {F : FH} {H : Hp} {ts : List T} {ws : List V} {B : List Addr} {p : Addr} (r : RTs K mg F H ts ws B) (n : H p = none) (h : Same F H) : RT K mg F (upd H p (.lst ws)) (.ol ts) (.ref p) (p :: B) :=
  ⟨p, ws, B, rfl, upd_same, RTs.grow (Grow.own h n) r, rfl⟩
theorem fe_lst (h : FAs X vs W es ms) : FE X vs W (.List es pos) (eLst ms) := by
  obtain ⟨ts, ps, qs⟩ := h
  refine ⟨_, pe_lst ps, fun σ H F ρ A Q w rp hq => ?_⟩
  refine qs σ H F ρ A _ w rp ?_
  unfold eLst M.bind at hq
  cases e1 : ms ρ with
  | bad => rw [e1] at hq; exact hq
  | exc c x ρ' => rw [e1] at hq; exact hq
  | ok τs ρ1 =>
    rw [e1] at hq
    intro ws F1 H1 A1 B1 st1 rp1 r1
    simp only [Out.bind, lift] at hq
    by_cases hz : small τs.length
    · rw [if_pos hz] at hq
      refine ⟨by rw [← r1.length]; exact small_le hz, fun p n => ?_⟩
      have g := Grow.own (o := .lst ws) st1.wd.sub n
      exact hq _ _ _ A1 (p :: B1) ((st1.trans (g.step st1.wd)).perm (.refl _) (by rw [List.append_assoc]; exact List.perm_append_comm.append_left A1)) (rp1.grow g) (ol_rt r1 n st1.wd.sub)
    · rw [if_neg hz] at hq; exact hq.elim

/-! ### tests -/
def truT0 : T → Option Bool
  | .d .none => some false
  | .d (.bool b) => some b
  | .d (.int i) => some (i != 0)
  | .d (.str y) => if small y.length then some ((y.length : Int) != 0) else none
  | .d (.list ds) => some (!ds.isEmpty)
  | .d (.tuple ds) => some (!ds.isEmpty)
  | .ol ts => some (!ts.isEmpty)
  | .tp ts => some (!ts.isEmpty)
  | _ => none
theorem dpa_emp {K : PySem.W.Frag} {H : Hp} {ws : List V} {ds : List PyData} (h : DpAll K H ws ds) : (!ds.isEmpty) = !ws.isEmpty := by cases h <;> rfl
theorem RTs.emp {K : PySem.W.Frag} {mg : Str → Option Value} {F : FH} {H : Hp} {ts : List T} {ws : List V} {B : List Addr} (h : RTs K mg F H ts ws B) : (!ts.isEmpty) = !ws.isEmpty := by
  cases ts with
  | nil => obtain ⟨e, _⟩ := h; subst e; rfl
  | cons t ts => obtain ⟨v, r, B1, B2, e, _⟩ := h; subst e; rfl
theorem tru_rt0 {K : PySem.W.Frag} {mg : Str → Option Value} {F : FH} {H : Hp} {t : T} {v : V} {B : List Addr} {k : Bool} (h : Same F H) (r : RT K mg F H t v B) (e : truT0 t = some k) : TruV K v H k := by
  cases t with
  | d x =>
    obtain ⟨q, _⟩ := r
    cases x with
    | none => cases q; cases e; rfl
    | bool b => cases q; cases e; rfl
    | int i => cases q; cases e; rfl
    | str y =>
      cases q
      simp only [truT0] at e
      split at e
      · rename_i hz; cases e; exact ⟨small_le hz, rfl⟩
      · cases e
    | list ds =>
      cases q with
      | lst s a => cases e; exact .inl ⟨_, .of (h _ _ s), dpa_emp a⟩
    | tuple ds =>
      cases q with
      | tup s a => cases e; exact .inr (.inl ⟨_, same_sqT h s, dpa_emp a⟩)
    | dict _ => cases e
  | ol ts =>
    obtain ⟨a, ws, A', e1, e2, q, _⟩ := r
    cases e; subst e1
    exact .inl ⟨_, .of e2, q.emp⟩
  | tp ts =>
    obtain ⟨a, ws, e1, e2, q⟩ := r
    cases e; subst e1
    exact .inr (.inl ⟨_, same_sqT h e2, q.emp⟩)
  | od _ => cases e
  | ob _ _ => cases e
  | oi _ _ => cases e
  | scr _ => cases e
  | bw _ => cases e
def truT (t : T) : Option Bool := truT0 (unB t)
theorem tru_rt {K : PySem.W.Frag} {mg : Str → Option Value} {F : FH} {H : Hp} {t : T} {v : V} {B : List Addr} {k : Bool} (h : Same F.m H) (r : RT K mg F H t v B) (e : truT t = some k) : TruV K v H k := by
  obtain ⟨B', r'⟩ := unB_rt t r
  exact tru_rt0 h r' e
def bTru (mo : M Opd) : M Bool := mo.bind fun o => fun ρ => lift ((res ρ o).bind truT) ρ
theorem ft_tru (h : FO X vs W e mo) (he : ∀ whole, isTrue e X.env whole = (do let v ← whole; standAt e.pos; holding [v] (truthy v)) := by intro _; rfl) : FT X vs W e (bTru mo) := by
  obtain ⟨te, pe, qe⟩ := h
  refine ⟨_, pt_truth pe he, fun σ H F ρ A Q w rp hq => ?_⟩
  refine qe σ H F ρ A _ w rp ?_
  unfold bTru M.bind at hq
  cases e1 : mo ρ with
  | bad => rw [e1] at hq; exact hq
  | exc c x ρ' => rw [e1] at hq; exact hq
  | ok o ρ1 =>
    rw [e1] at hq
    intro v F1 H1 A1 B1 st1 rp1 r1
    simp only [Out.bind, lift] at hq
    split at hq
    · rename_i k hk
      rw [Option.bind_eq_some_iff] at hk
      obtain ⟨t, ht, hk⟩ := hk
      obtain ⟨C, rt⟩ := r1.res rp1 ht
      exact ⟨k, tru_rt st1.wd.sub rt hk, hq F1 H1 A1 st1.less rp1⟩
    · exact hq.elim
/-- an expression that gives a bool, as a test -/
def boolT : T → Option Bool
  | .d (.bool b) => some b
  | _ => none
theorem boolT_rt {K : PySem.W.Frag} {mg : Str → Option Value} {F : FH} {H : Hp} {t : T} {v : V} {B : List Addr} {k : Bool} (r : RT K mg F H t v B) (e : boolT t = some k) : v = .bl k := by
  cases t with
  | d x =>
    obtain ⟨q, _⟩ := r
    cases x <;> cases e
    cases q; rfl
  | _ => cases e
def bVal (m : M T) : M Bool := m.bind fun t => lift (boolT t)
/-- a comparison as a test -/
theorem ft_cmp {op : CmpOp} {f : T → T → Option T} {ma mb : M Opd} {r : R2} (ho : OpR X (compareOp op) r) (hr : OpF X.K X.mg r f) (ha : FO X vs W a ma) (hb : FO X vs W b mb) (hm : behindInMarks op b = false) : FT X vs W (.Compare a [op] [b] pos) (bVal (eOp2 f ma mb)) := by
  obtain ⟨t, pt, qt⟩ := fe_two (e := .Compare a [op] [b] pos) ha hb hr fun ta tb pa pb => pe_cmpR ho pa pb hm
  obtain ⟨ta, pa, qa⟩ := ha
  obtain ⟨tb, pb, qb⟩ := hb
  refine ⟨_, pt_cmpR ho pa pb hm, fun σ H F ρ A Q w rp hq => ?_⟩
  have key := (fe_two (e := .Compare a [op] [b] pos) ⟨ta, pa, qa⟩ ⟨tb, pb, qb⟩ hr fun ta tb pa pb => pe_cmpR ho pa pb hm)
  -- the reading of the two operands, once more
  refine qa σ H F ρ A _ w rp ?_
  unfold bVal eOp2 M.bind at hq
  cases e1 : ma ρ with
  | bad => rw [e1] at hq; exact hq
  | exc c x ρ' => rw [e1] at hq; exact hq
  | ok oa ρ1 =>
    rw [e1] at hq
    simp only [Out.bind] at hq
    intro va F1 H1 A1 B1 st1 rp1 r1
    refine qb σ H1 F1 ρ1 A1 _ st1.wd.left rp1 ?_
    cases e2 : mb ρ1 with
    | bad => rw [e2] at hq; exact hq
    | exc c x ρ' => rw [e2] at hq; exact fun cls d F' H' A' st rp' ex => hq cls d F' H' A' (st1.compL st) rp' ex
    | ok ob ρ2 =>
      rw [e2] at hq
      simp only at hq
      intro vb F2 H2 A2 B2 st2 rp2 r2
      have r1' := r1.step st2 st1.wd
      cases ex : res ρ2 oa with
      | none => simp only [ex] at hq; exact hq.elim
      | some x =>
        cases ey : res ρ2 ob with
        | none => simp only [ex, ey] at hq; exact hq.elim
        | some y =>
          simp only [ex, ey] at hq
          obtain ⟨C1, k1⟩ := r1'.res rp2 ex
          obtain ⟨C2, k2⟩ := r2.res rp2 ey
          unfold lift at hq
          cases hf : f x y with
          | none => simp only [hf] at hq; exact hq.elim
          | some τ =>
            simp only [hf] at hq
            cases hb : boolT τ with
            | none => simp only [hb] at hq; exact hq.elim
            | some k =>
              simp only [hb] at hq
              refine hr F2 H2 va vb x y τ C1 C2 _ st2.wd.sub k1 k2 hf fun v F3 H3 B g rt => ?_
              have s3 := (st1.comp st2).less.less
              exact ⟨k, boolT_rt rt hb, hq F3 H3 A2 (s3.trans (g.step s3.wd)).less (rp2.grow g)⟩
/-- another shape of a test by an expression that gives a bool -/
theorem ft_val (h : FE X vs W e m) (he : ∀ whole, isTrue e X.env whole = (do let v ← whole; standAt e.pos; holding [v] (truthy v)) := by intro _; rfl) : FT X vs W e (bVal m) := by
  obtain ⟨te, pe, qe⟩ := h
  refine ⟨_, pt_val pe he, fun σ H F ρ A Q w rp hq => ?_⟩
  refine qe σ H F ρ A _ w rp ?_
  unfold bVal M.bind at hq
  cases e1 : m ρ with
  | bad => rw [e1] at hq; exact hq
  | exc c x ρ' => rw [e1] at hq; exact hq
  | ok o ρ1 =>
    rw [e1] at hq
    intro v F1 H1 A1 B1 st1 rp1 r1
    simp only [Out.bind, lift] at hq
    split at hq
    · rename_i k hk
      exact ⟨k, boolT_rt r1 hk, hq F1 H1 A1 st1.less rp1⟩
    · exact hq.elim
def bNot (m : M Bool) : M Bool := m.bind fun b => .pure (!b)
theorem ft_not {mt : M Bool} (h : FT X vs W a mt) : FT X vs W (.UnaryOp .Not a pos) (bNot mt) := by
  obtain ⟨te, pe, qe⟩ := h
  refine ⟨_, pt_not pe, fun σ H F ρ A Q w rp hq => ?_⟩
  refine qe σ H F ρ A _ w rp ?_
  unfold bNot M.bind at hq
  cases e1 : mt ρ with
  | bad => rw [e1] at hq; exact hq
  | exc c x ρ' => rw [e1] at hq; exact hq
  | ok o ρ1 => rw [e1] at hq; exact fun F1 H1 A1 st1 rp1 => hq F1 H1 A1 st1 rp1
def bAnd (ma mb : M Bool) : M Bool := ma.bind fun b => if b then mb else .pure false
def bOr (ma mb : M Bool) : M Bool := ma.bind fun b => if b then .pure true else mb
theorem fw_and1 {mt : M Bool} (h : FT X vs W a mt) : FW X vs W (.BoolOp .And [a] pos) mt := by
  obtain ⟨te, pe, qe⟩ := h
  exact ⟨_, pw_and1 pe, qe⟩
theorem fw_or1 {mt : M Bool} (h : FT X vs W a mt) : FW X vs W (.BoolOp .Or [a] pos) mt := by
  obtain ⟨te, pe, qe⟩ := h
  exact ⟨_, pw_or1 pe, qe⟩
theorem fw_and {mt mu : M Bool} {rest : List Expr} (h : FT X vs W a mt) (h2 : FW X vs W (.BoolOp .And (b :: rest) pos) mu) : FW X vs W (.BoolOp .And (a :: b :: rest) pos) (bAnd mt mu) := by
  obtain ⟨te, pe, qe⟩ := h
  obtain ⟨tf, pf, qf⟩ := h2
  refine ⟨_, pw_and pe pf, fun σ H F ρ A Q w rp hq => ?_⟩
  refine qe σ H F ρ A _ w rp ?_
  unfold bAnd M.bind at hq
  cases e1 : mt ρ with
  | bad => rw [e1] at hq; exact hq
  | exc c x ρ' => rw [e1] at hq; exact hq
  | ok k ρ1 =>
    rw [e1] at hq
    simp only [Out.bind] at hq
    intro F1 H1 A1 st1 rp1
    cases k with
    | false => rw [if_neg Bool.false_ne_true] at hq ⊢; exact hq F1 H1 A1 st1 rp1
    | true =>
      rw [if_pos rfl] at hq ⊢
      refine qf σ H1 F1 ρ1 A1 _ st1.wd rp1 ?_
      cases e2 : mu ρ1 with
      | bad => rw [e2] at hq; exact hq
      | exc c x ρ' => rw [e2] at hq; exact fun cls d F' H' A' st rp' ex => hq cls d F' H' A' (st1.trans st) rp' ex
      | ok k ρ2 => rw [e2] at hq; exact fun F2 H2 A2 st2 rp2 => hq F2 H2 A2 (st1.trans st2) rp2
theorem fw_or {mt mu : M Bool} {rest : List Expr} (h : FT X vs W a mt) (h2 : FW X vs W (.BoolOp .Or (b :: rest) pos) mu) : FW X vs W (.BoolOp .Or (a :: b :: rest) pos) (bOr mt mu) := by
  obtain ⟨te, pe, qe⟩ := h
  obtain ⟨tf, pf, qf⟩ := h2
  refine ⟨_, pw_or pe pf, fun σ H F ρ A Q w rp hq => ?_⟩
  refine qe σ H F ρ A _ w rp ?_
  unfold bOr M.bind at hq
  cases e1 : mt ρ with
  | bad => rw [e1] at hq; exact hq
  | exc c x ρ' => rw [e1] at hq; exact hq
  | ok k ρ1 =>
    rw [e1] at hq
    simp only [Out.bind] at hq
    intro F1 H1 A1 st1 rp1
    cases k with
    | true => rw [if_pos rfl] at hq ⊢; exact hq F1 H1 A1 st1 rp1
    | false =>
      rw [if_neg Bool.false_ne_true] at hq ⊢
      refine qf σ H1 F1 ρ1 A1 _ st1.wd rp1 ?_
      cases e2 : mu ρ1 with
      | bad => rw [e2] at hq; exact hq
      | exc c x ρ' => rw [e2] at hq; exact fun cls d F' H' A' st rp' ex => hq cls d F' H' A' (st1.trans st) rp' ex
      | ok k ρ2 => rw [e2] at hq; exact fun F2 H2 A2 st2 rp2 => hq F2 H2 A2 (st1.trans st2) rp2
theorem ft_w {mt : M Bool} (h : FW X vs W e mt) : FT X vs W e mt := by
  obtain ⟨te, pe, qe⟩ := h
  exact ⟨_, pe.pt, qe⟩
def eIf (mt : M Bool) (ma mb : M T) : M T := mt.bind fun b => if b then ma else mb
theorem fe_if {c : Expr} {mt : M Bool} (hc : FT X vs W c mt) (ha : FE X vs W a ma) (hb : FE X vs W b mb) : FE X vs W (.IfExp c a b pos) (eIf mt ma mb) := by
  obtain ⟨tc, pc, qc⟩ := hc
  obtain ⟨ta, pa, qa⟩ := ha
  obtain ⟨tb, pb, qb⟩ := hb
  refine ⟨_, pe_ifExp pc pa pb, fun σ H F ρ A Q w rp hq => ?_⟩
  refine qc σ H F ρ A _ w rp ?_
  unfold eIf M.bind at hq
  cases e1 : mt ρ with
  | bad => rw [e1] at hq; exact hq
  | exc c x ρ' => rw [e1] at hq; exact hq
  | ok k ρ1 =>
    rw [e1] at hq
    simp only [Out.bind] at hq
    intro F1 H1 A1 st1 rp1
    have fin : ∀ {t : TE} {m' : M T}, (∀ (σ : L2.St) (H : Hp) (F : FH) (ρ : Env) (A : List Addr) (Q : VK), Wd F H A → Rep X.K X.mg vs F H σ ρ A → EQ X.K X.mg vs W F H σ A Q (m' ρ) → t σ H Q) → EQ X.K X.mg vs W F H σ A Q (m' ρ1) → t σ H1 Q := fun {t m'} q h => by
      refine q σ H1 F1 ρ1 A1 _ st1.wd rp1 ?_
      cases e2 : m' ρ1 with
      | bad => rw [e2] at h; exact h
      | exc c x ρ' => rw [e2] at h; exact fun cls d F' H' A' st rp' ex => h cls d F' H' A' (st1.trans st) rp' ex
      | ok k ρ2 => rw [e2] at h; exact fun v F2 H2 A2 B st2 rp2 rt => h v F2 H2 A2 B (st1.trans st2) rp2 rt
    cases k with
    | true => rw [if_pos rfl] at hq ⊢; exact fin qa hq
    | false => rw [if_neg Bool.false_ne_true] at hq ⊢; exact fin qb hq
/-! .. as values, of bools -/
def eAnd (ma mb : M T) : M T := ma.bind fun t => match boolT t with
  | some true => mb
  | some false => .pure (.d (.bool false))
  | none => fun _ => .bad
def eOr (ma mb : M T) : M T := ma.bind fun t => match boolT t with
  | some true => .pure (.d (.bool true))
  | some false => mb
  | none => fun _ => .bad
def eNot (ma : M T) : M T := ma.bind fun t => lift ((boolT t).map fun b => .d (.bool (!b)))
theorem fe_one1 {op} (h : FE X vs W a ma) : FE X vs W (.BoolOp op [a] pos) ma := by
  obtain ⟨te, pe, qe⟩ := h
  exact ⟨_, pe_one pe, qe⟩
theorem boolT_nil {K : PySem.W.Frag} {mg : Str → Option Value} {F : FH} {H : Hp} {t : T} {v : V} {B : List Addr} {k : Bool} (r : RT K mg F H t v B) (e : boolT t = some k) : B = [] := by
  cases t with
  | d x => exact r.2
  | _ => cases e
theorem fe_and {rest : List Expr} (h : FE X vs W a ma) (h2 : FE X vs W (.BoolOp .And (b :: rest) pos) mb) : FE X vs W (.BoolOp .And (a :: b :: rest) pos) (eAnd ma mb) := by
  obtain ⟨te, pe, qe⟩ := h
  obtain ⟨tf, pf, qf⟩ := h2
  refine ⟨_, pe_and pe pf, fun σ H F ρ A Q w rp hq => ?_⟩
  refine qe σ H F ρ A _ w rp ?_
  unfold eAnd M.bind at hq
  cases e1 : ma ρ with
  | bad => rw [e1] at hq; exact hq
  | exc c x ρ' => rw [e1] at hq; exact hq
  | ok t ρ1 =>
    rw [e1] at hq
    simp only [Out.bind] at hq
    intro v F1 H1 A1 B1 st1 rp1 r1
    cases hb : boolT t with
    | none => simp only [hb] at hq; exact hq.elim
    | some k =>
      simp only [hb] at hq
      refine ⟨k, boolT_rt r1 hb, ?_⟩
      have hB := boolT_nil r1 hb
      subst hB
      rw [List.append_nil] at st1
      cases k with
      | false => rw [if_neg Bool.false_ne_true]; exact hq (.bl false) F1 H1 A1 [] (by rw [List.append_nil]; exact st1) rp1 ⟨.bl _, rfl⟩
      | true =>
        rw [if_pos rfl]
        refine qf σ H1 F1 ρ1 A1 _ st1.wd rp1 ?_
        simp only at hq
        cases e2 : mb ρ1 with
        | bad => rw [e2] at hq; exact hq
        | exc c x ρ' => rw [e2] at hq; exact fun cls d F' H' A' st rp' ex => hq cls d F' H' A' (st1.trans st) rp' ex
        | ok k ρ2 => rw [e2] at hq; exact fun v F2 H2 A2 B st2 rp2 rt => hq v F2 H2 A2 B (st1.trans st2) rp2 rt
theorem fe_or {rest : List Expr} (h : FE X vs W a ma) (h2 : FE X vs W (.BoolOp .Or (b :: rest) pos) mb) : FE X vs W (.BoolOp .Or (a :: b :: rest) pos) (eOr ma mb) := by
  obtain ⟨te, pe, qe⟩ := h
  obtain ⟨tf, pf, qf⟩ := h2
  refine ⟨_, pe_or pe pf, fun σ H F ρ A Q w rp hq => ?_⟩
  refine qe σ H F ρ A _ w rp ?_
  unfold eOr M.bind at hq
  cases e1 : ma ρ with
  | bad => rw [e1] at hq; exact hq
  | exc c x ρ' => rw [e1] at hq; exact hq
  | ok t ρ1 =>
    rw [e1] at hq
    simp only [Out.bind] at hq
    intro v F1 H1 A1 B1 st1 rp1 r1
    cases hb : boolT t with
    | none => simp only [hb] at hq; exact hq.elim
    | some k =>
      simp only [hb] at hq
      refine ⟨k, boolT_rt r1 hb, ?_⟩
      have hB := boolT_nil r1 hb
      subst hB
      rw [List.append_nil] at st1
      cases k with
      | true => rw [if_pos rfl]; exact hq (.bl true) F1 H1 A1 [] (by rw [List.append_nil]; exact st1) rp1 ⟨.bl _, rfl⟩
      | false =>
        rw [if_neg Bool.false_ne_true]
        refine qf σ H1 F1 ρ1 A1 _ st1.wd rp1 ?_
        simp only at hq
        cases e2 : mb ρ1 with
        | bad => rw [e2] at hq; exact hq
        | exc c x ρ' => rw [e2] at hq; exact fun cls d F' H' A' st rp' ex => hq cls d F' H' A' (st1.trans st) rp' ex
        | ok k ρ2 => rw [e2] at hq; exact fun v F2 H2 A2 B st2 rp2 rt => hq v F2 H2 A2 B (st1.trans st2) rp2 rt
theorem fe_not (h : FE X vs W a ma) : FE X vs W (.UnaryOp .Not a pos) (eNot ma) := by
  obtain ⟨te, pe, qe⟩ := h
  refine ⟨_, pe_not pe, fun σ H F ρ A Q w rp hq => ?_⟩
  refine qe σ H F ρ A _ w rp ?_
  unfold eNot M.bind at hq
  cases e1 : ma ρ with
  | bad => rw [e1] at hq; exact hq
  | exc c x ρ' => rw [e1] at hq; exact hq
  | ok t ρ1 =>
    rw [e1] at hq
    intro v F1 H1 A1 B1 st1 rp1 r1
    simp only [Out.bind, lift] at hq
    cases hb : boolT t with
    | none => simp only [hb, Option.map_none] at hq; exact hq.elim
    | some k =>
      simp only [hb, Option.map_some] at hq
      have hB := boolT_nil r1 hb
      subst hB
      exact ⟨k, boolT_rt r1 hb, hq _ F1 H1 A1 [] st1 rp1 ⟨.bl _, rfl⟩⟩

/-! ### calls of built-in functions, by what is read of the arguments -/
/-- f is what the rule r gives -/
def CallF (K : PySem.W.Frag) (mg : Str → Option Value) (r : List V → Hp → VK → Prop) (f : List T → Option T) : Prop :=
  ∀ (F : FH) (H : Hp) (ws : List V) (ts : List T) (τ : T) (Q : VK), Same F H → RTe K mg F H ts ws → f ts = some τ →
    (∀ v F' H' B, Grow F H F' H' B → RT K mg F' H' τ v B → Q v H') → r ws H Q
def eCall (f : List T → Option T) (mos : M (List Opd)) : M T := mos.bind fun os => fun ρ => match ress ρ os with
  | some ts => lift (f ts) ρ
  | none => .bad
theorem fe_call {f : List T → Option T} {r : List V → Hp → VK → Prop} (ha : FOs X vs W es mos) (hr : CallF X.K X.mg r f) (hp : ∀ ta, PA X es ta → PE X e (tCB r ta)) : FE X vs W e (eCall f mos) := by
  obtain ⟨ta, pa, qa⟩ := ha
  refine ⟨_, hp ta pa, fun σ H F ρ A Q w rp hq => ?_⟩
  refine qa σ H F ρ A _ w rp ?_
  unfold eCall M.bind at hq
  cases e1 : mos ρ with
  | bad => rw [e1] at hq; exact hq
  | exc c x ρ' => rw [e1] at hq; exact hq
  | ok os ρ1 =>
    rw [e1] at hq
    simp only [Out.bind] at hq
    intro ws F1 H1 A1 B1 st1 rp1 r1
    cases ex : ress ρ1 os with
    | none => simp only [ex] at hq; exact hq.elim
    | some ts =>
      simp only [ex] at hq
      have k := ORs.ress rp1 r1 ex
      unfold lift at hq
      cases hf : f ts with
      | none => simp only [hf] at hq; exact hq.elim
      | some τ =>
        simp only [hf] at hq
        refine hr F1 H1 ws ts τ Q st1.wd.sub k hf fun v F3 H3 B g rt => ?_
        exact hq v F3 H3 A1 B (st1.less.trans (g.step st1.less.wd)) (rp1.grow g) rt
end
end FL

set_option Elab.async false
set_option linter.all false
set_option maxRecDepth 100000
namespace FL
open PySem PySem.Spec PyProof.Rows L2

inductive Fl where
  | nx (ρ : Env)
  | rt (t : T) (ρ : Env)
  | bk (ρ : Env)
  | ct (ρ : Env)
  | exc (c : Str) (x : PyData) (ρ : Env)
  | bad
def SQ (K : PySem.W.Frag) (mg : Str → Option Value) (vs : Fx) (W : WX) (D : Ends) (F : FH) (H : Hp) (A : List Addr) : Fl → Prop
  | .nx ρ' => ∀ σ' F' H' A', Step F H A F' H' A' → Rep K mg vs F' H' σ' ρ' A' → D.nx σ' H'
  | .bk ρ' => ∀ σ' F' H' A', Step F H A F' H' A' → Rep K mg vs F' H' σ' ρ' A' → D.bk σ' H'
  | .ct ρ' => ∀ σ' F' H' A', Step F H A F' H' A' → Rep K mg vs F' H' σ' ρ' A' → D.ct σ' H'
  | .rt τ ρ' => ∀ v σ' F' H' A' B, Step F H A F' H' (A' ++ B) → Rep K mg vs F' H' σ' ρ' A' → RT K mg F' H' τ v B → D.rt v H'
  | .exc c x ρ' => ∀ cls d σ' F' H' A', Step F H A F' H' A' → Rep K mg vs F' H' σ' ρ' A' → ExcAt K mg F' H' cls d c x → W cls d σ' H'
  | .bad => False
theorem SQ.step {K : PySem.W.Frag} {mg : Str → Option Value} {vs : Fx} {W : WX} {D : Ends} {F : FH} {H : Hp} {F1 : FH} {H1 : Hp} {A A1 : List Addr} (st : Step F H A F1 H1 A1) : ∀ {f : Fl}, SQ K mg vs W D F H A f → SQ K mg vs W D F1 H1 A1 f
  | .nx ρ, h => fun σ' F' H' A' s r => h σ' F' H' A' (st.trans s) r
  | .bk ρ, h => fun σ' F' H' A' s r => h σ' F' H' A' (st.trans s) r
  | .ct ρ, h => fun σ' F' H' A' s r => h σ' F' H' A' (st.trans s) r
  | .rt τ ρ, h => fun v σ' F' H' A' B s r t => h v σ' F' H' A' B (st.trans s) r t
  | .exc c x ρ, h => fun cls d σ' F' H' A' s r e => h cls d σ' F' H' A' (st.trans s) r e
  | .bad, h => h
structure FS (X : Cx) (vs : Fx) (W : WX) (st : Stmt) (m : Env → Fl) : Prop where
  ex : ∃ t : TS, PS X st t ∧ ∀ (D : Ends) (σ : L2.St) (H : Hp) (F : FH) (ρ : Env) (A : List Addr), Wd F H A → Rep X.K X.mg vs F H σ ρ A → SQ X.K X.mg vs W D F H A (m ρ) → t D σ H
structure FB (X : Cx) (vs : Fx) (W : WX) (st : List Stmt) (m : Env → Fl) : Prop where
  ex : ∃ t : TS, PSs X st t ∧ ∀ (D : Ends) (σ : L2.St) (H : Hp) (F : FH) (ρ : Env) (A : List Addr), Wd F H A → Rep X.K X.mg vs F H σ ρ A → SQ X.K X.mg vs W D F H A (m ρ) → t D σ H
def sSeq (m1 m2 : Env → Fl) : Env → Fl := fun ρ => match m1 ρ with
  | .nx ρ' => m2 ρ'
  | f => f
def sNil : Env → Fl := .nx
section
variable {X : Cx} {vs : Fx} [Fx.Free vs] {W : WX} {st : Stmt} {rest sts : List Stmt} {m m1 m2 : Env → Fl} {e a b : Expr} {me ma mb : M T} {pos : Pos}
theorem fb_nil : FB X vs W [] sNil := ⟨_, pss_nil, fun D σ H F ρ A w r hq => hq σ F H A (.refl w) r⟩
theorem fb_one (h : FS X vs W st m) : FB X vs W [st] m := by
  obtain ⟨t, p, q⟩ := h
  exact ⟨_, pss_one p, q⟩
theorem fb_cons (h : FS X vs W st m1) (h2 : FB X vs W rest m2) : FB X vs W (st :: rest) (sSeq m1 m2) := by
  obtain ⟨t, p, q⟩ := h
  obtain ⟨t2, p2, q2⟩ := h2
  refine ⟨_, pss_cons p p2, fun D σ H F ρ A w r hq => ?_⟩
  refine q { D with nx := t2 D } σ H F ρ A w r ?_
  unfold sSeq at hq
  cases e1 : m1 ρ with
  | nx ρ1 =>
    rw [e1] at hq
    exact fun σ' F' H' A' s rp => q2 D σ' H' F' ρ1 A' s.wd rp (hq.step s)
  | bk ρ1 => rw [e1] at hq; exact hq
  | ct ρ1 => rw [e1] at hq; exact hq
  | rt τ ρ1 => rw [e1] at hq; exact hq
  | exc c x ρ1 => rw [e1] at hq; exact hq
  | bad => rw [e1] at hq; exact hq
/-- slots forgotten behind a statement -/
def killE (ks : List Nat) (ρ : Env) : Env := ks.foldl (fun ρ i => ρ.set i none) ρ
def sKill (ks : List Nat) (m : Env → Fl) : Env → Fl := fun ρ => match m ρ with
  | .nx ρ' => .nx (killE ks ρ')
  | f => f
theorem Rep.kill1 {K : PySem.W.Frag} {mg : Str → Option Value} {F : FH} {H : Hp} {σ : L2.St} {ρ : Env} {A : List Addr} (w : Wd F H A) (r : Rep K mg vs F H σ ρ A) (i : Nat) : ∃ A', Step F H A F H A' ∧ Rep K mg vs F H σ (ρ.set i none) A' := by
  obtain ⟨A1, A2, p, h⟩ := r.sl.drop i
  exact ⟨A2, ((Step.refl w).perm (.refl _) p).lessL, r.fx, r.st, h, io_set_none r⟩
theorem Rep.kill {K : PySem.W.Frag} {mg : Str → Option Value} {F : FH} {H : Hp} {σ : L2.St} : ∀ (ks : List Nat) {ρ : Env} {A : List Addr}, Wd F H A → Rep K mg vs F H σ ρ A → ∃ A', Step F H A F H A' ∧ Rep K mg vs F H σ (killE ks ρ) A'
  | [], ρ, A, w, r => ⟨A, .refl w, r⟩
  | i :: ks, ρ, A, w, r => by
    obtain ⟨A1, s1, r1⟩ := r.kill1 w i
    obtain ⟨A2, s2, r2⟩ := Rep.kill ks s1.wd r1
    exact ⟨A2, s1.trans s2, r2⟩
theorem SQ.kill {K : PySem.W.Frag} {mg : Str → Option Value} {D : Ends} {F : FH} {H : Hp} {A : List Addr} (ks : List Nat) {ρ : Env} (h : SQ K mg vs W D F H A (.nx (killE ks ρ))) : SQ K mg vs W D F H A (.nx ρ) := fun σ' F' H' A' s r => by
  obtain ⟨A2, s2, r2⟩ := Rep.kill ks s.wd r
  exact h σ' F' H' A2 (s.trans s2) r2
theorem fs_kill (ks : List Nat) (h : FS X vs W st m) : FS X vs W st (sKill ks m) := by
  obtain ⟨t, p, q⟩ := h
  refine ⟨t, p, fun D σ H F ρ A w r hq => q D σ H F ρ A w r ?_⟩
  unfold sKill at hq
  cases e1 : m ρ with
  | nx ρ1 => rw [e1] at hq; exact SQ.kill ks hq
  | bk ρ1 => rw [e1] at hq; exact hq
  | ct ρ1 => rw [e1] at hq; exact hq
  | rt τ ρ1 => rw [e1] at hq; exact hq
  | exc c x ρ1 => rw [e1] at hq; exact hq
  | bad => rw [e1] at hq; exact hq

/-! ### targets -/
/-- only these slots are other ones -/
def Only (ix : List Nat) (σ σ' : L2.St) : Prop := σ'.length = σ.length ∧ ∀ j, j ∉ ix → σ'[j]? = σ[j]?
theorem Only.refl {ix : List Nat} (σ : L2.St) : Only ix σ σ := ⟨rfl, fun _ _ => rfl⟩
theorem Only.trans {i1 i2 ix : List Nat} {σ σ1 σ2 : L2.St} (a : Only i1 σ σ1) (b : Only i2 σ1 σ2) (h1 : ∀ j ∈ i1, j ∈ ix) (h2 : ∀ j ∈ i2, j ∈ ix) : Only ix σ σ2 :=
  ⟨b.1.trans a.1, fun j hj => (b.2 j fun h => hj (h2 j h)).trans (a.2 j fun h => hj (h1 j h))⟩
structure FG (X : Cx) (vs : Fx) (tg : Expr) (ix : List Nat) (g : T → Env → Option Env) : Prop where
  ex : ∃ t : TG, PG X tg t ∧ ∀ (v : V) (σ : L2.St) (H : Hp) (F : FH) (ρ ρ' : Env) (A B : List Addr) (τ : T) (Q : L2.St → Hp → Prop), Wd F H (A ++ B) → Rep X.K X.mg vs F H σ ρ A → RT X.K X.mg F H τ v B → g τ ρ = some ρ' →
    (∀ σ' A', Only ix σ σ' → Step F H (A ++ B) F H A' → Rep X.K X.mg vs F H σ' ρ' A' → Q σ' H) → t v σ H Q
structure FGs (X : Cx) (vs : Fx) (tgs : List Expr) (ix : List Nat) (g : List T → Env → Option Env) : Prop where
  ex : ∃ t : TGs, PGs X tgs t ∧ ∀ (ws : List V) (σ : L2.St) (H : Hp) (F : FH) (ρ ρ' : Env) (A B : List Addr) (τs : List T) (Q : L2.St → Hp → Prop), Wd F H (A ++ B) → Rep X.K X.mg vs F H σ ρ A → RTs X.K X.mg F H τs ws B → g τs ρ = some ρ' →
    (∀ σ' A', Only ix σ σ' → Step F H (A ++ B) F H A' → Rep X.K X.mg vs F H σ' ρ' A' → Q σ' H) → t ws σ H Q
def gSlot (i : Nat) (t : T) (ρ : Env) : Option Env := some (ρ.set i (some (t, false)))
/-- a value stored in a slot -/
theorem Rep.store {K : PySem.W.Frag} {mg : Str → Option Value} {F : FH} {H : Hp} {σ : L2.St} {ρ : Env} {A B : List Addr} {t : T} {v : V} (w : Wd F H (A ++ B)) (r : Rep K mg vs F H σ ρ A) (rt : RT K mg F H t v B) (i : Nat) :
    ∃ A', Step F H (A ++ B) F H A' ∧ Rep K mg vs F H (σ.set i (some v)) (ρ.set i (some (t, false))) A' := by
  obtain ⟨A1, A2, p, h⟩ := r.sl.drop i
  have io : ∀ (j : Nat) (u : T), (ρ.set i (some (t, false)))[j]? = some (some (u, true)) → ∃ w, vs.ws[j]? = some w ∧ (σ.set i (some v))[j]? = some (some w) := fun j u hj => by
    by_cases hij : i = j
    · subst hij
      rw [List.getElem?_set] at hj
      split at hj
      · split at hj <;> simp at hj
      · exact absurd rfl ‹_›
    · rw [List.getElem?_set_ne hij] at hj ⊢
      exact r.io j u hj
  by_cases hi : i < ρ.length
  · obtain ⟨A', p', h'⟩ := RSl.put false rt h (show (ρ.set i none)[i]? = some none by simp [hi])
    rw [List.set_set] at h'
    refine ⟨A', ?_, r.fx, Fx.Free.all _, h', io⟩
    have q : (A ++ B).Perm (A1 ++ A') := (p.append_right B).trans (by rw [List.append_assoc]; exact p'.symm.append_left A1)
    exact ((Step.refl w).perm (.refl _) q).lessL
  · have e1 : ρ.set i (some (t, false)) = ρ := List.set_eq_of_length_le (by omega)
    have e2 : σ.set i (some v) = σ := List.set_eq_of_length_le (by rw [← r.sl.len]; omega)
    rw [e1, e2]
    exact ⟨A, (Step.refl w).less, r⟩
theorem fg_name (i : Nat) {x : Str} (hN : X.N.Nodup) (hi : X.N[i]? = some x := by rfl) (hx : Loc X.env.scope x := by first | exact Or.inl rfl | exact Or.inr rfl) (hf : X.fn x = true ∨ X.env.scope.names.lookup x = some .local := by first | exact .inl rfl | exact .inr rfl | assumption) : FG X vs (.Name x pos) [i] (gSlot i) := by
  refine ⟨_, pg_name hN hi hx hf, fun v σ H F ρ ρ' A B τ Q w r rt e h => ?_⟩
  cases e
  obtain ⟨A', s, r'⟩ := r.store w rt i
  exact h _ A' ⟨by simp, fun j hj => List.getElem?_set_ne (fun e => hj (by simp [e]))⟩ s r'
def gsNil (ts : List T) (ρ : Env) : Option Env := match ts with
  | [] => some ρ
  | _ => none
def gsCons (g : T → Env → Option Env) (gs : List T → Env → Option Env) (ts : List T) (ρ : Env) : Option Env := match ts with
  | t :: r => (g t ρ).bind (gs r)
  | [] => none
theorem fgs_nil : FGs X vs [] [] gsNil := by
  refine ⟨_, pgs_nil, fun ws σ H F ρ ρ' A B τs Q w r rt e h => ?_⟩
  cases τs with
  | nil =>
    cases e
    obtain ⟨e1, e2⟩ := rt
    subst e1 e2
    exact ⟨rfl, h σ A (.refl σ) (by rw [List.append_nil] at w ⊢; exact .refl w) r⟩
  | cons t ts => cases e
theorem fgs_cons {es : List Expr} {i1 i2 : List Nat} {g : T → Env → Option Env} {gs : List T → Env → Option Env} (h1 : FG X vs e i1 g) (h2 : FGs X vs es i2 gs) (hs : (assignEach (e :: es) X.env).map (·.2) = assign e X.env :: (assignEach es X.env).map (·.2) := by rfl) : FGs X vs (e :: es) (i1 ++ i2) (gsCons g gs) := by
  obtain ⟨t1, p1, q1⟩ := h1
  obtain ⟨t2, p2, q2⟩ := h2
  refine ⟨_, pgs_cons p1 p2 hs, fun ws σ H F ρ ρ' A B τs Q w r rt e h => ?_⟩
  cases τs with
  | nil => cases e
  | cons t ts =>
    obtain ⟨v, us, B1, B2, e1, r1, r2, e2⟩ := rt
    subst e1 e2
    simp only [gsCons, Option.bind_eq_some_iff] at e
    obtain ⟨ρ1, g1, g2⟩ := e
    refine ⟨v, us, rfl, ?_⟩
    rw [← List.append_assoc] at w
    refine q1 v σ H F ρ ρ1 A B1 t _ w.left r r1 g1 fun σ1 A1 o1 s1 rp1 => ?_
    refine q2 us σ1 H F ρ1 ρ' A1 B2 ts Q (s1.wide w).wd rp1 (RTs.step s1 w r2) g2 fun σ2 A2 o2 s2 rp2 => ?_
    exact h σ2 A2 (o1.trans o2 (fun j hj => List.mem_append_left _ hj) fun j hj => List.mem_append_right _ hj) (by rw [← List.append_assoc]; exact (s1.wide w).trans s2) rp2
def isStat : T → Bool
  | .d _ => true
  | .ob _ _ => true
  | .scr _ => true
  | .bw _ => true
  | _ => false
section
variable {K : PySem.W.Frag} {mg : Str → Option Value} {F : FH} {H : Hp}
theorem stat_rt {t : T} {v : V} {B : List Addr} (r : RT K mg F H t v B) (e : isStat t = true) : RT K mg F H t v [] := by
  cases t with
  | d x => exact ⟨r.1, rfl⟩
  | ob c fs => obtain ⟨a, C, dx, vfs, e1, e2, e3, r, e4⟩ := r; exact ⟨a, C, dx, vfs, e1, e2, e3, r, rfl⟩
  | scr ns => obtain ⟨a, e1, e2, e3⟩ := r; exact ⟨a, e1, e2, rfl⟩
  | bw t => obtain ⟨_, r⟩ := r; exact ⟨rfl, r⟩
  | _ => cases e
theorem stats_rt : ∀ {ts : List T} {ws : List V} {B : List Addr}, RTs K mg F H ts ws B → ts.all isStat = true → RTs K mg F H ts ws []
  | [], ws, B, ⟨e1, _⟩, _ => ⟨e1, rfl⟩
  | t :: ts, ws, B, ⟨v, r, B1, B2, e1, q1, q2, e2⟩, h => by
    rw [List.all_cons, Bool.and_eq_true] at h
    exact ⟨v, r, [], [], e1, stat_rt q1 h.1, stats_rt q2 h.2, rfl⟩
end
theorem bor_stat : ∀ t : T, isStat (bor t) = true
  | .d _ => rfl
  | .ol _ => rfl
  | .tp _ => rfl
  | .od _ => rfl
  | .ob _ _ => rfl
  | .oi _ _ => rfl
  | .scr _ => rfl
  | .bw _ => rfl
theorem bors_stat (ts : List T) : (ts.map bor).all isStat = true := by
  rw [List.all_map]
  exact List.all_eq_true.mpr fun t _ => bor_stat t
/-- the items of a tuple, of a list -/
def itemsT0 : T → Option (List T)
  | .d (.tuple ds) => some (ds.map T.d)
  | .tp ts => some ts
  | .d (.list ds) => some (ds.map T.d)
  | .ol ts => some ts
  | _ => none
theorem dpa_rts {K : PySem.W.Frag} {mg : Str → Option Value} {F : FH} {H : Hp} {ds : List PyData} : ∀ {ws : List V}, DpAll K F ws ds → RTs K mg F H (ds.map T.d) ws [] := by
  induction ds with
  | nil => intro ws h; cases h; exact ⟨rfl, rfl⟩
  | cons d ds ih =>
    intro ws h
    cases h with
    | cons a b => exact ⟨_, _, [], [], rfl, ⟨a, rfl⟩, ih b, rfl⟩
/-- .. with where they stand -/
theorem items_rt0 {K : PySem.W.Frag} {mg : Str → Option Value} {F : FH} {H : Hp} {t : T} {v : V} {B : List Addr} {ts : List T} (h : Same F H) (r : RT K mg F H t v B) (e : itemsT0 t = some ts) :
    ∃ a ws B1 B2, v = .ref a ∧ (SqT K H a ws ∨ SqL K H a ws) ∧ RTs K mg F H ts ws B2 ∧ B = B1 ++ B2 := by
  cases t with
  | d x =>
    obtain ⟨q, e2⟩ := r
    subst e2
    cases x with
    | tuple ds => cases e; cases q with | tup s a => exact ⟨_, _, [], [], rfl, .inl (same_sqT h s), dpa_rts a, rfl⟩
    | list ds => cases e; cases q with | lst s a => exact ⟨_, _, [], [], rfl, .inr (.of (h _ _ s)), dpa_rts a, rfl⟩
    | _ => cases e
  | ol us =>
    cases e
    obtain ⟨a, ws, A', e1, e2, q, e3⟩ := r
    exact ⟨a, ws, [a], A', e1, .inr (.of e2), q, e3⟩
  | tp us =>
    cases e
    obtain ⟨a, ws, e1, e2, q⟩ := r
    exact ⟨a, ws, [], B, e1, .inl (same_sqT h e2), q, rfl⟩
  | od _ => cases e
  | ob _ _ => cases e
  | oi _ _ => cases e
  | scr _ => cases e
  | bw _ => cases e
def itemsT : T → Option (List T)
  | .bw t => (itemsT0 (unB t)).map fun ts => ts.map bor
  | t => itemsT0 t
theorem items_rt {K : PySem.W.Frag} {mg : Str → Option Value} {F : FH} {H : Hp} {t : T} {v : V} {B : List Addr} {ts : List T} (h : Same F.m H) (r : RT K mg F H t v B) (e : itemsT t = some ts) :
    ∃ a ws B1 B2, v = .ref a ∧ (SqT K H a ws ∨ SqL K H a ws) ∧ RTs K mg F H ts ws B2 ∧ B = B1 ++ B2 := by
  cases t with
  | bw t =>
    obtain ⟨rfl, B0, hB, r⟩ := r
    obtain ⟨B', hB', r'⟩ := unB_bw t hB r
    simp only [itemsT, Option.map_eq_some_iff] at e
    obtain ⟨us, e, rfl⟩ := e
    obtain ⟨a, ws, B1, B2, e1, e2, q, e3⟩ := items_rt0 h r' e
    subst e3
    exact ⟨a, ws, [], [], e1, e2, bors_rt (fun b hb => hB' b (List.mem_append_right _ hb)) q, rfl⟩
  | d x => exact items_rt0 h r e
  | ol x => exact items_rt0 h r e
  | tp x => exact items_rt0 h r e
  | od x => exact items_rt0 h r e
  | ob c x => exact items_rt0 h r e
  | oi c x => exact items_rt0 h r e
  | scr x => exact items_rt0 h r e
/-- (a, b, ..) = a tuple or a list of that length -/
theorem pg_seq {es : List Expr} {k : Nat} {t : TGs} {n : Nat} (hc : X.calm = true) (h : PGs X es t)
    (hn : (assignEach es X.env).length = n := by rfl) (hst : (assignEach es X.env).findIdx? (·.1) = none := by rfl) : PG X (.Tuple es k pos) (fun v σ H Q => gTup X.K n t v σ H Q ∨ gLst X.K n t v σ H Q) := by
  refine ⟨fun pins s σ H v u Q I r hw => ?_⟩
  rcases hw with hw | hw
  · exact (pg_tup hc h hn hst).run pins s σ H v u Q I r hw
  · exact (pg_lst hc h hn hst).run pins s σ H v u Q I r hw
def gTupT (n : Nat) (gs : List T → Env → Option Env) (t : T) (ρ : Env) : Option Env := (itemsT t).bind fun ts => if ts.length = n then gs ts ρ else none
theorem fg_tup {es : List Expr} {ix : List Nat} {k : Nat} {gs : List T → Env → Option Env} (n : Nat) (hc : X.calm = true) (h : FGs X vs es ix gs)
    (hn : (assignEach es X.env).length = n := by rfl) (hst : (assignEach es X.env).findIdx? (·.1) = none := by rfl) : FG X vs (.Tuple es k pos) ix (gTupT n gs) := by
  obtain ⟨t1, p1, q1⟩ := h
  refine ⟨_, pg_seq hc p1 hn hst, fun v σ H F ρ ρ' A B τ Q w r rt e h => ?_⟩
  simp only [gTupT, Option.bind_eq_some_iff] at e
  obtain ⟨ts, hi, e⟩ := e
  by_cases hl : ts.length = n
  · rw [if_pos hl] at e
    obtain ⟨a, ws, B1, B2, e1, sq, rs, e2⟩ := items_rt w.sub rt hi
    subst e1 e2
    have w2 : Wd F H (A ++ B2) := (w.perm (B := (A ++ B2) ++ B1) (by
      rw [List.append_assoc]; exact List.perm_append_comm.append_left A)).left
    have hlen : ws.length = n := by rw [← rs.length]; exact hl
    have fin : t1 ws σ H Q := q1 ws σ H F ρ ρ' A B2 ts Q w2 r rs e fun σ' A' o s rp => h σ' A' o (by
      refine Step.trans ?_ s
      exact (((Step.refl w).perm (A1' := (A ++ B2) ++ B1) (.refl _) (by
        rw [List.append_assoc]; exact List.perm_append_comm.append_left A))).less) rp
    rcases sq with sq | sq
    · exact .inl ⟨a, ws, rfl, sq, hlen, fin⟩
    · exact .inr ⟨a, ws, rfl, sq, hlen, fin⟩
  · rw [if_neg hl] at e; cases e
def sAsg (g : T → Env → Option Env) (m : M T) : Env → Fl := fun ρ => match m ρ with
  | .ok t ρ' => (match g t ρ' with
    | some ρ2 => .nx ρ2
    | none => .bad)
  | .exc c x ρ' => .exc c x ρ'
  | .bad => .bad
theorem sAsg_ok {K : PySem.W.Frag} {mg : Str → Option Value} {D : Ends} {g : T → Env → Option Env} {m : M T} {F : FH} {H : Hp} {σ : L2.St} {ρ : Env} {A : List Addr} {R : VK} (hq : SQ K mg vs W D F H A (sAsg g m ρ))
    (hR : ∀ t ρ' ρ2, m ρ = .ok t ρ' → g t ρ' = some ρ2 → ∀ v F' H' A' B, Step F H A F' H' (A' ++ B) → Rep K mg vs F' H' σ ρ' A' → RT K mg F' H' t v B → (∀ σ' A2, Step F' H' (A' ++ B) F' H' A2 → Rep K mg vs F' H' σ' ρ2 A2 → D.nx σ' H') → R v H') : EQ K mg vs W F H σ A R (m ρ) := by
  unfold sAsg at hq
  cases e1 : m ρ with
  | bad => rw [e1] at hq; exact hq
  | exc c x ρ' => rw [e1] at hq; exact fun cls d F' H' A' st rp ex => hq cls d σ F' H' A' st rp ex
  | ok t ρ1 =>
    rw [e1] at hq
    simp only at hq
    cases e2 : g t ρ1 with
    | none => rw [e2] at hq; exact hq.elim
    | some ρ2 =>
      rw [e2] at hq
      exact fun v F1 H1 A1 B st rp rt => hR t ρ1 ρ2 e1 e2 v F1 H1 A1 B st rp rt fun σ' A2 s rp2 => hq σ' F1 H1 A2 (st.trans s) rp2
theorem fs_asg {tg : Expr} {ix : List Nat} {g : T → Env → Option Env} (he : FE X vs W e me) (hg : FG X vs tg ix g) (hs : swapsWithSole [tg] e pos.line X.env = pure false := by rfl) (hw : swappedStores [tg] e X.env = pure none := by rfl)
    (h1 : (assignEach [tg] X.env).map (·.2) = [assign tg X.env] := by rfl) : FS X vs W (.Assign [tg] e pos) (sAsg g me) := by
  obtain ⟨te, pe, qe⟩ := he
  obtain ⟨tg', pg, qg⟩ := hg
  refine ⟨_, ps_asg pe pg hs hw h1, fun D σ H F ρ A w r hq => ?_⟩
  refine qe σ H F ρ A _ w r (sAsg_ok (σ := σ) hq fun t ρ1 ρ2 e1 e2 v F1 H1 A1 B st rp rt hk => ?_)
  exact qg v σ H1 F1 ρ1 ρ2 A1 B t _ st.wd rp rt e2 fun σ' A2 _ s rp2 => hk σ' A2 s rp2
theorem fs_set (i : Nat) {x : Str} {p : Pos} (hN : X.N.Nodup) (he : FE X vs W e me) (hi : X.N[i]? = some x := by rfl) (hx : Loc X.env.scope x := by first | exact Or.inl rfl | exact Or.inr rfl) (hs : swapsWith e (some (.Name x p)) pos.line X.env = pure false := by rfl) (hf : X.fn x = true ∨ X.env.scope.names.lookup x = some .local := by first | exact .inl rfl | exact .inr rfl | assumption) :
    FS X vs W (.Assign [.Name x p] e pos) (sAsg (gSlot i) me) := by
  obtain ⟨te, pe, qe⟩ := he
  refine ⟨_, ps_set hN hi hx pe hs hf, fun D σ H F ρ A w r hq => ?_⟩
  refine qe σ H F ρ A _ w r (sAsg_ok (σ := σ) hq fun t ρ1 ρ2 e1 e2 v F1 H1 A1 B st rp rt hk => ?_)
  cases e2
  obtain ⟨A', s, r'⟩ := rp.store st.wd rt i
  exact hk _ A' s r'

/-! ### small statements -/
def sExpr (m : M T) : Env → Fl := fun ρ => match m ρ with
  | .ok _ ρ' => .nx ρ'
  | .exc c x ρ' => .exc c x ρ'
  | .bad => .bad
theorem fs_expr (he : FE X vs W e me) (hs : swapsWith e none pos.line X.env = pure false := by rfl) : FS X vs W (.Expr e pos) (sExpr me) := by
  obtain ⟨te, pe, qe⟩ := he
  refine ⟨_, ps_expr pe hs, fun D σ H F ρ A w r hq => ?_⟩
  refine qe σ H F ρ A _ w r ?_
  unfold sExpr at hq
  cases e1 : me ρ with
  | bad => rw [e1] at hq; exact hq
  | exc c x ρ' => rw [e1] at hq; exact fun cls d F' H' A' st rp ex => hq cls d σ F' H' A' st rp ex
  | ok t ρ1 => rw [e1] at hq; exact fun v F1 H1 A1 B st rp rt => hq σ F1 H1 A1 st.less rp
def sRet (m : M T) : Env → Fl := fun ρ => match m ρ with
  | .ok t ρ' => .rt t ρ'
  | .exc c x ρ' => .exc c x ρ'
  | .bad => .bad
theorem fs_ret (he : FE X vs W e me) : FS X vs W (.Return (some e) pos) (sRet me) := by
  obtain ⟨te, pe, qe⟩ := he
  refine ⟨_, ps_ret pe, fun D σ H F ρ A w r hq => ?_⟩
  refine qe σ H F ρ A _ w r ?_
  unfold sRet at hq
  cases e1 : me ρ with
  | bad => rw [e1] at hq; exact hq
  | exc c x ρ' => rw [e1] at hq; exact fun cls d F' H' A' st rp ex => hq cls d σ F' H' A' st rp ex
  | ok t ρ1 => rw [e1] at hq; exact fun v F1 H1 A1 B st rp rt => hq v σ F1 H1 A1 B st rp rt
def sRetN : Env → Fl := fun ρ => .rt (.d .none) ρ
theorem fs_retN : FS X vs W (.Return none pos) sRetN := ⟨_, ps_retN, fun D σ H F ρ A w r hq => hq .non σ F H A [] (by rw [List.append_nil]; exact .refl w) r ⟨.non, rfl⟩⟩
theorem fs_pass : FS X vs W (.Pass pos) sNil := ⟨_, ps_pass, fun D σ H F ρ A w r hq => hq σ F H A (.refl w) r⟩
theorem fs_break : FS X vs W (.Break pos) .bk := ⟨_, ps_break, fun D σ H F ρ A w r hq => hq σ F H A (.refl w) r⟩
theorem fs_continue : FS X vs W (.Continue pos) .ct := ⟨_, ps_continue, fun D σ H F ρ A w r hq => hq σ F H A (.refl w) r⟩
theorem fs_doc {x j p'} : FS X vs W (.Expr (.Constant (.str x) j p') pos) sNil := ⟨_, ps_doc, fun D σ H F ρ A w r hq => hq σ F H A (.refl w) r⟩
def sIf (mt : M Bool) (m1 m2 : Env → Fl) : Env → Fl := fun ρ => match mt ρ with
  | .ok b ρ' => if b then m1 ρ' else m2 ρ'
  | .exc c x ρ' => .exc c x ρ'
  | .bad => .bad
theorem fs_if {c : Expr} {b1 b2 : List Stmt} {mt : M Bool} (hc : FT X vs W c mt) (h1 : FB X vs W b1 m1) (h2 : FB X vs W b2 m2) : FS X vs W (.If c b1 b2 pos) (sIf mt m1 m2) := by
  obtain ⟨tc, pc, qc⟩ := hc
  obtain ⟨t1, p1, q1⟩ := h1
  obtain ⟨t2, p2, q2⟩ := h2
  refine ⟨_, ps_if pc p1 p2, fun D σ H F ρ A w r hq => ?_⟩
  refine qc σ H F ρ A _ w r ?_
  unfold sIf at hq
  cases e1 : mt ρ with
  | bad => rw [e1] at hq; exact hq
  | exc c x ρ' => rw [e1] at hq; exact fun cls d F' H' A' st rp ex => hq cls d σ F' H' A' st rp ex
  | ok k ρ1 =>
    rw [e1] at hq
    simp only at hq
    intro F1 H1 A1 st1 rp1
    cases k with
    | true => rw [if_pos rfl] at hq ⊢; exact q1 D σ H1 F1 ρ1 A1 st1.wd rp1 (hq.step st1)
    | false => rw [if_neg Bool.false_ne_true] at hq ⊢; exact q2 D σ H1 F1 ρ1 A1 st1.wd rp1 (hq.step st1)
/-- x += e, x -= e of ints -/
def sAug (i : Nat) (f : T → T → Option T) (m : M T) : Env → Fl := fun ρ => match m ρ with
  | .ok t ρ' => (match (slot ρ' i).bind fun s => f s t with
    | some u => .nx (ρ'.set i (some (u, false)))
    | none => .bad)
  | .exc c x ρ' => .exc c x ρ'
  | .bad => .bad
def int2 (f : Int → Int → Int) : T → T → Option T
  | .d (.int i), .d (.int j) => some (.d (.int (f i j)))
  | _, _ => none
theorem rt_int {K : PySem.W.Frag} {mg : Str → Option Value} {F : FH} {H : Hp} {i : Int} {v : V} {B : List Addr} (r : RT K mg F H (.d (.int i)) v B) : v = .int i ∧ B = [] := by
  obtain ⟨q, e⟩ := r
  cases q
  exact ⟨rfl, e⟩
theorem int2_inv {f : Int → Int → Int} {t u τ : T} (h : int2 f t u = some τ) : ∃ i j, t = .d (.int i) ∧ u = .d (.int j) ∧ τ = .d (.int (f i j)) := by
  unfold int2 at h
  split at h
  · cases h; exact ⟨_, _, rfl, rfl, rfl⟩
  · cases h
theorem fs_aug (i : Nat) {x : Str} {op : Operator} {f : Int → Int → Int} {p : Pos} (hN : X.N.Nodup) (hop : PIp X op (ipI f)) (he : FE X vs W e me) (hσ : ∀ (σ : L2.St) (H : Hp) (F : FH) (ρ : Env) (A : List Addr), Rep X.K X.mg vs F H σ ρ A → (slot ρ i).isSome = true → True := by intros; trivial)
    (hi : X.N[i]? = some x := by rfl) (hx : Loc X.env.scope x := by first | exact Or.inl rfl | exact Or.inr rfl) (hf : X.fn x = true ∨ X.env.scope.names.lookup x = some .local := by first | exact .inl rfl | exact .inr rfl | assumption) :
    FS X vs W (.AugAssign (.Name x p) op e pos) (fun ρ => match slot ρ i with | some _ => sAug i (int2 f) me ρ | none => .bad) := by
  obtain ⟨te, pe, qe⟩ := he
  refine ⟨_, ps_aug hN hi hx pe hop hf, fun D σ H F ρ A w r hq => ?_⟩
  cases hs : slot ρ i with
  | none => simp only [hs] at hq; exact hq.elim
  | some s0 =>
    simp only [hs] at hq
    obtain ⟨x0, A0, h0, _⟩ := r.sl.rt hs
    refine ⟨x0, h0, ?_⟩
    refine qe σ H F ρ A _ w r ?_
    unfold sAug at hq
    cases e1 : me ρ with
    | bad => rw [e1] at hq; exact hq
    | exc c x ρ' => rw [e1] at hq; exact fun cls d F' H' A' st rp ex => hq cls d σ F' H' A' st rp ex
    | ok t ρ1 =>
      rw [e1] at hq
      simp only at hq
      intro v F1 H1 A1 B st rp rt
      cases e2 : (slot ρ1 i).bind fun s => int2 f s t with
      | none => rw [e2] at hq; exact hq.elim
      | some u =>
        rw [e2] at hq
        simp only at hq
        rw [Option.bind_eq_some_iff] at e2
        obtain ⟨s1, hs1, e2⟩ := e2
        obtain ⟨a, b, rfl, rfl, rfl⟩ := int2_inv e2
        obtain ⟨x1, A2, h1, k1⟩ := rp.sl.rt hs1
        rw [h0] at h1; cases h1
        obtain ⟨rfl, _⟩ := rt_int k1
        obtain ⟨rfl, rfl⟩ := rt_int rt
        refine ⟨a, b, rfl, rfl, ?_⟩
        obtain ⟨A', s, r'⟩ := rp.store (t := .d (.int (f a b))) (v := .int (f a b)) (B := []) st.wd ⟨.int _, rfl⟩ i
        exact hq _ F1 H1 A' (st.trans s) r'
end
end FL

set_option Elab.async false
set_option linter.all false
set_option maxRecDepth 100000
namespace FL
open PySem PySem.Spec PyProof.Rows L2

/-! ### what is walked -/
/-- a later state -/
structure Seen (F : FH) (H0 : Hp) (F' : FH) (H' : Hp) : Prop where
  ff : Sm F F'
  sub : Same F'.m H'
  rr : ∀ b ∈ F.R, ∀ o, H0 b = some o → H' b = some o
theorem Seen.refl {F : FH} {H : Hp} (h : Same F.m H) : Seen F H F H := ⟨.refl _, h, fun _ _ _ e => e⟩
theorem Seen.step {F : FH} {H0 : Hp} {F1 : FH} {H1 : Hp} {A : List Addr} {F2 : FH} {H2 : Hp} {A' : List Addr} (s : Seen F H0 F1 H1) (w : Wd F1 H1 A) (st : Step F1 H1 A F2 H2 A') : Seen F H0 F2 H2 :=
  ⟨s.ff.trans st.ff, st.wd.sub, fun b hb o e => st.fr b o (s.rr b hb o e) (w.rn b (by rw [s.ff.rr]; exact hb)).1⟩
structure Walk (K : PySem.W.Frag) (mg : Str → Option Value) (J : It) (F : FH) (H0 : Hp) (ts : List T) : Prop where
  go : ∀ (i : Nat) (F1 : FH) (H : Hp), Seen F H0 F1 H → i < ts.length → J.go i H
  stop : ∀ (i : Nat) (F1 : FH) (H : Hp), Seen F H0 F1 H → ts.length ≤ i → J.stop i H
  yld : ∀ (i : Nat) (F1 : FH) (H H' : Hp) (x : V) (t : T), ts[i]? = some t → Seen F H0 F1 H → J.yld i H x H' → ∃ F2, Grow F1 H F2 H' [] ∧ RT K mg F2 H' t x []
def IQ (K : PySem.W.Frag) (mg : Str → Option Value) (vs : Fx) (W : WX) (F : FH) (H : Hp) (σ : L2.St) (A : List Addr) (R : It → Hp → Prop) : Out (List T) → Prop
  | .ok ts ρ' => ∀ J F' H' A', Step F H A F' H' A' → Rep K mg vs F' H' σ ρ' A' → Walk K mg J F' H' ts → R J H'
  | .exc c x ρ' => ∀ cls d F' H' A', Step F H A F' H' A' → Rep K mg vs F' H' σ ρ' A' → ExcAt K mg F' H' cls d c x → W cls d σ H'
  | .bad => False
structure FI (X : Cx) (vs : Fx) (W : WX) (tg iter : Expr) (m : M (List T)) : Prop where
  ex : ∃ wi : TI, PI X tg iter wi ∧ ∀ (σ : L2.St) (H : Hp) (F : FH) (ρ : Env) (A : List Addr) (R : It → Hp → Prop), Wd F H A → Rep X.K X.mg vs F H σ ρ A → IQ X.K X.mg vs W F H σ A R (m ρ) → wi σ H R
theorem dpa_get {K : PySem.W.Frag} {F : FH} : ∀ {ws : List V} {ds : List PyData} {i : Nat} {d : PyData}, DpAll K F ws ds → ds[i]? = some d → ∃ v, ws[i]? = some v ∧ Dp K F v d
  | _, _, _, _, .nil, h => by simp at h
  | _, _, 0, d, .cons a _, h => by simp at h; subst h; exact ⟨_, rfl, a⟩
  | _, _, i + 1, d, .cons _ b, h => by
    obtain ⟨v, h1, h2⟩ := dpa_get (i := i) b (by simpa using h)
    exact ⟨v, by simpa using h1, h2⟩
theorem dpa_len {K : PySem.W.Frag} {F : FH} : ∀ {ws : List V} {ds : List PyData}, DpAll K F ws ds → ws.length = ds.length
  | _, _, .nil => rfl
  | _, _, .cons _ b => by simp [dpa_len b]
theorem RTs.get : ∀ {K : PySem.W.Frag} {mg : Str → Option Value} {F : FH} {H : Hp} {ts : List T} {ws : List V} {B : List Addr} {i : Nat} {t : T}, RTs K mg F H ts ws B → ts[i]? = some t → ∃ v B', ws[i]? = some v ∧ RT K mg F H t v B'
  | _, _, _, _, t :: ts, ws, B, 0, u, ⟨v, r, B1, B2, e1, q1, q2, e2⟩, h => by
    simp at h; subst h e1
    exact ⟨v, B1, rfl, q1⟩
  | _, _, _, _, t :: ts, ws, B, i + 1, u, ⟨v, r, B1, B2, e1, q1, q2, e2⟩, h => by
    subst e1
    obtain ⟨w, B', h1, h2⟩ := RTs.get (i := i) q2 (by simpa using h)
    exact ⟨w, B', by simpa using h1, h2⟩
  | _, _, _, _, [], ws, B, i, u, _, h => by simp at h
theorem RTs.get0 {K : PySem.W.Frag} {mg : Str → Option Value} {F : FH} {H : Hp} : ∀ {ts : List T} {ws : List V} {i : Nat} {t : T}, RTs K mg F H ts ws [] → ts[i]? = some t → ∃ v, ws[i]? = some v ∧ RT K mg F H t v []
  | t :: ts, ws, 0, u, ⟨v, r, B1, B2, e1, q1, q2, e2⟩, h => by
    simp at h; subst h e1
    obtain ⟨rfl, rfl⟩ := List.append_eq_nil_iff.mp e2.symm
    exact ⟨v, rfl, q1⟩
  | t :: ts, ws, i + 1, u, ⟨v, r, B1, B2, e1, q1, q2, e2⟩, h => by
    subst e1
    obtain ⟨rfl, rfl⟩ := List.append_eq_nil_iff.mp e2.symm
    obtain ⟨w, h1, h2⟩ := RTs.get0 (i := i) q2 (by simpa using h)
    exact ⟨w, by simpa using h1, h2⟩
  | [], ws, i, u, _, h => by simp at h
theorem walk_list {K : PySem.W.Frag} {mg : Str → Option Value} {F : FH} {H0 : Hp} {a : Addr} {ws : List V} {ts : List T} (h : ∀ F1 H1, Seen F H0 F1 H1 → SqL K H1 a ws) (q : RTs K mg F H0 ts ws []) : Walk K mg (Itl K a) F H0 ts where
  go := fun i F1 H s hi => ⟨ws, ws[i]'(by rw [← q.length]; exact hi), h F1 H s, by simp [← q.length, hi]⟩
  stop := fun i F1 H s hi => ⟨ws, h F1 H s, by rw [← q.length]; exact hi⟩
  yld := fun i F1 H H' x t ht s hy => by
    obtain ⟨e, hx⟩ := hy
    subst e
    obtain ⟨v, h1, h2⟩ := RTs.get0 (RTs.keep s.ff s.rr ts (fun b hb => by cases hb) q) ht
    have h3 := hx ws (h F1 H' s)
    rw [h1] at h3; cases h3
    exact ⟨F1, .refl s.sub, h2⟩
theorem walk_tup {K : PySem.W.Frag} {mg : Str → Option Value} {F : FH} {H0 : Hp} {a : Addr} {ws : List V} {ts : List T} (h : ∀ F1 H1, Seen F H0 F1 H1 → SqT K H1 a ws) (q : RTs K mg F H0 ts ws []) : Walk K mg (Itt K a) F H0 ts where
  go := fun i F1 H s hi => ⟨ws, ws[i]'(by rw [← q.length]; exact hi), h F1 H s, by simp [← q.length, hi]⟩
  stop := fun i F1 H s hi => ⟨ws, h F1 H s, by rw [← q.length]; exact hi⟩
  yld := fun i F1 H H' x t ht s hy => by
    obtain ⟨e, hx⟩ := hy
    subst e
    obtain ⟨v, h1, h2⟩ := RTs.get0 (RTs.keep s.ff s.rr ts (fun b hb => by cases hb) q) ht
    have h3 := hx ws (h F1 H' s)
    rw [h1] at h3; cases h3
    exact ⟨F1, .refl s.sub, h2⟩
section
variable {X : Cx} {vs : Fx} [Fx.Free vs] {W : WX} {tg iter e a b : Expr} {me ma mb : M T} {pos : Pos}
def iSeq (K : PySem.W.Frag) (tl : TE) : TI := fun σ H R => tl σ H fun x H1 => ∃ a, x = .ref a ∧ ((∃ xs, SqL K H1 a xs ∧ R (Itl K a) H1) ∨ ∃ xs, SqT K H1 a xs ∧ R (Itt K a) H1)
theorem pi_seq {l : Expr} {tl : TE} (hl : PE X l tl) : PI X tg l (iSeq X.K tl) := by
  refine ⟨fun pins s σ H R I h => ?_⟩
  refine thn (hl.run pins s σ H _ I h) fun v s1 ⟨x, H1, I1, r1, q1⟩ => ?_
  obtain ⟨a, e, q⟩ := q1
  subst e
  cases r1
  rcases q with ⟨xs, hq, q⟩ | ⟨xs, hq, q⟩
  · obtain ⟨its, rv, p, hz⟩ := I1.list hq
    refine wpAny_pyIter_list p.isList ?_
    refine ⟨s1.heap.objs.size, [s1.heap.objs.size], _, _, H1, rfl, I1.kept (t' := s1.toks) fun b o e => Heap.get?_push_of_some _ e, turn_list a _, ⟨_, Heap.get?_push_size _ rfl, rfl, rfl⟩, fun b hb => ?_, q⟩
    have e : b = s1.heap.objs.size := by simpa using hb
    subst e
    exact I1.fpOk (Nat.le_refl _) (I1.hok.fresh (Nat.le_refl _))
  · obtain ⟨its, rv, p, hz⟩ := I1.tuple hq
    refine wpAny_pyIter_tuple (show s1.heap.IsTuple a its.toArray from p) ?_
    refine ⟨s1.heap.objs.size, [s1.heap.objs.size], _, _, H1, rfl, I1.kept (t' := s1.toks) fun b o e => Heap.get?_push_of_some _ e, turn_tuple a _, ⟨_, Heap.get?_push_size _ rfl, rfl, rfl⟩, fun b hb => ?_, q⟩
    have e : b = s1.heap.objs.size := by simpa using hb
    subst e
    exact I1.fpOk (Nat.le_refl _) (I1.hok.fresh (Nat.le_refl _))
def seqOf : PyData → Option (List PyData)
  | .list ds => some ds
  | .tuple ds => some ds
  | _ => none
def isLst : T → Bool
  | .ol _ => true
  | .d (.list _) => true
  | _ => false
/-- what a thing is walked by: frozen, or lent -/
def itemsR : T → Option (List T)
  | .bw t => (itemsT0 (unB t)).map fun ts => ts.map bor
  | .ol ts => if ts.all isStat then some ts else (T.toFs ts).map fun ds => ds.map T.d
  | .tp ts => if ts.all isStat then some ts else (T.toFs ts).map fun ds => ds.map T.d
  | t => itemsT0 t
/-- behind a step that freezes what is left, the items stand alone -/
theorem itemsR_rt {K : PySem.W.Frag} {mg : Str → Option Value} {F : FH} {H : Hp} {t : T} {v : V} {A B : List Addr} {ts : List T} (w : Wd F H (A ++ B)) (r : RT K mg F H t v B) (e : itemsR t = some ts) :
    ∃ F2 a ws, Step F H (A ++ B) F2 H A ∧ v = .ref a ∧ ((isLst (unB t) = true ∧ ∀ F1 H1, Seen F2 H F1 H1 → SqL K H1 a ws) ∨ (isLst (unB t) = false ∧ ∀ F1 H1, Seen F2 H F1 H1 → SqT K H1 a ws)) ∧ RTs K mg F2 H ts ws [] := by
  have s2 : Step F H (A ++ B) (frO F H B) H A := Step.frozen w List.perm_append_comm
  have dat : ∀ {x : PyData} {us : List T}, t.toF = some x → isLst (unB t) = isLst (.d x) → itemsT0 (.d x) = some us → ∃ F2 a ws, Step F H (A ++ B) F2 H A ∧ v = .ref a ∧ ((isLst (unB t) = true ∧ ∀ F1 H1, Seen F2 H F1 H1 → SqL K H1 a ws) ∨ (isLst (unB t) = false ∧ ∀ F1 H1, Seen F2 H F1 H1 → SqT K H1 a ws)) ∧ RTs K mg F2 H us ws [] := fun {x us} hx hl hu => by
    have dp := RT.freeze (fun b hb => w.right.fn b hb) r hx
    cases dp with
    | lst sq al => cases hu; exact ⟨_, _, _, s2, rfl, .inl ⟨hl, fun F1 H1 sn => .of (sn.sub _ _ (sn.ff.ff _ _ sq))⟩, dpa_rts al⟩
    | tup sq al => cases hu; exact ⟨_, _, _, s2, rfl, .inr ⟨hl, fun F1 H1 sn => same_sqT sn.sub (same_sqT sn.ff.ff sq)⟩, dpa_rts al⟩
    | _ => cases hu
  have seqF : ∀ {us : List T} {zs : List T}, (T.toFs us).map (fun ds => ds.map T.d) = some zs → ∃ ds, T.toFs us = some ds ∧ zs = ds.map T.d := fun {us zs} h => by
    simp only [Option.map_eq_some_iff] at h
    obtain ⟨ds, h1, h2⟩ := h
    exact ⟨ds, h1, h2.symm⟩
  cases t with
  | bw t =>
    obtain ⟨rfl, B0, hB, r⟩ := r
    obtain ⟨B', hB', r'⟩ := unB_bw t hB r
    simp only [itemsR, Option.map_eq_some_iff] at e
    obtain ⟨us, e, rfl⟩ := e
    rw [List.append_nil] at w ⊢
    refine ⟨F, ?_⟩
    have hul : unB (.bw t) = unB t := rfl
    rw [hul]
    generalize unB t = u at r' e ⊢
    cases u with
    | d x =>
      obtain ⟨q, _⟩ := r'
      cases q with
      | lst sq al => cases e; exact ⟨_, _, .refl w, rfl, .inl ⟨rfl, fun F1 H1 sn => .of (sn.sub _ _ (sn.ff.ff _ _ sq))⟩, bors_rt (fun b hb => by cases hb) (dpa_rts al)⟩
      | tup sq al => cases e; exact ⟨_, _, .refl w, rfl, .inr ⟨rfl, fun F1 H1 sn => same_sqT sn.sub (same_sqT sn.ff.ff sq)⟩, bors_rt (fun b hb => by cases hb) (dpa_rts al)⟩
      | _ => cases e
    | ol us =>
      cases e
      obtain ⟨a, ws, A', e1, e2, q, e3⟩ := r'
      subst e1 e3
      exact ⟨a, ws, .refl w, rfl, .inl ⟨rfl, fun F1 H1 sn => .of (sn.rr a (hB' a List.mem_cons_self) _ e2)⟩, bors_rt (fun b hb => hB' b (List.mem_cons_of_mem _ hb)) q⟩
    | tp us =>
      cases e
      obtain ⟨a, ws, e1, e2, q⟩ := r'
      subst e1
      exact ⟨a, ws, .refl w, rfl, .inr ⟨rfl, fun F1 H1 sn => same_sqT sn.sub (same_sqT sn.ff.ff e2)⟩, bors_rt hB' q⟩
    | _ => cases e
  | d x => exact dat rfl rfl e
  | ol us =>
    simp only [itemsR] at e
    split at e
    · rename_i hs
      cases e
      obtain ⟨a, ws, A', rfl, e2, q, rfl⟩ := r
      have q0 := stats_rt q hs
      refine ⟨_, a, ws, s2, rfl, .inl ⟨rfl, fun F1 H1 sn => .of (sn.sub _ _ (sn.ff.ff _ _ (frO_of List.mem_cons_self e2)))⟩, ?_⟩
      exact RTs.keep s2.ff (fun _ _ _ e => e) _ (fun b hb => by cases hb) q0
    · obtain ⟨ds, h1, rfl⟩ := seqF e
      exact dat (x := .list ds) (by simp only [T.toF, h1, Option.map_some]) rfl rfl
  | tp us =>
    simp only [itemsR] at e
    split at e
    · rename_i hs
      cases e
      obtain ⟨a, ws, rfl, e2, q⟩ := r
      have q0 := stats_rt q hs
      refine ⟨_, a, ws, s2, rfl, .inr ⟨rfl, fun F1 H1 sn => same_sqT sn.sub (same_sqT sn.ff.ff (same_sqT s2.ff.ff e2))⟩, ?_⟩
      exact RTs.keep s2.ff (fun _ _ _ e => e) _ (fun b hb => by cases hb) q0
    · obtain ⟨ds, h1, rfl⟩ := seqF e
      exact dat (x := .tuple ds) (by simp only [T.toF, h1, Option.map_some]) rfl rfl
  | _ => cases e
/-- a list, a tuple -/
def iOf (m : M T) : M (List T) := m.bind fun t => lift (itemsR t)
theorem fi_seq (h : FE X vs W iter me) : FI X vs W tg iter (iOf me) := by
  obtain ⟨te, pe, qe⟩ := h
  refine ⟨_, pi_seq pe, fun σ H F ρ A R w rp hq => ?_⟩
  refine qe σ H F ρ A _ w rp ?_
  unfold iOf M.bind at hq
  cases e1 : me ρ with
  | bad => rw [e1] at hq; exact hq
  | exc c x ρ' => rw [e1] at hq; exact hq
  | ok t ρ1 =>
    rw [e1] at hq
    simp only [Out.bind, lift] at hq
    intro v F1 H1 A1 B st rp1 rt
    cases e2 : itemsR t with
    | none => rw [e2] at hq; exact hq.elim
    | some ts =>
      rw [e2] at hq
      obtain ⟨F2, a, ws, s2, rfl, sq, q⟩ := itemsR_rt st.wd rt e2
      have rp2 := rp1.keep (F' := F2) (H' := H1) s2.ff (fun _ _ _ e => e) fun _ _ _ e => e
      rcases sq with ⟨_, sq⟩ | ⟨_, sq⟩
      · exact ⟨a, rfl, .inl ⟨ws, sq _ _ (.refl s2.wd.sub), hq _ _ H1 A1 (st.trans s2) rp2 (walk_list sq q)⟩⟩
      · exact ⟨a, rfl, .inr ⟨ws, sq _ _ (.refl s2.wd.sub), hq _ _ H1 A1 (st.trans s2) rp2 (walk_tup sq q)⟩⟩
/-! range -/
def big62 (i : Int) : Bool := decide (-(4611686018427387904 : Int) ≤ i) && decide (i < 4611686018427387904)
theorem big62_le {i : Int} (h : big62 i = true) : -(2 ^ 62 : Int) ≤ i ∧ i < (2 ^ 62 : Int) := by
  simp only [big62, Bool.and_eq_true, decide_eq_true_eq] at h
  omega
def rangeT (lo hi : Int) : List T := (List.range (hi - lo).toNat).map fun (k : Nat) => T.d (.int (lo + k))
def rangeOf1 : List T → Option (List T)
  | [.d (.int j)] => if big62 j then some (rangeT 0 j) else none
  | _ => none
def rangeOf2 : List T → Option (List T)
  | [.d (.int i), .d (.int j)] => if big62 i && big62 j then some (rangeT i j) else none
  | _ => none
theorem walk_range {K : PySem.W.Frag} {mg : Str → Option Value} {F : FH} {H0 : Hp} {lo hi : Int} : Walk K mg (Itr lo (hi - lo).toNat) F H0 (rangeT lo hi) where
  go := fun i F1 H s h => by simp only [rangeT, List.length_map, List.length_range] at h; exact h
  stop := fun i F1 H s h => by simp only [rangeT, List.length_map, List.length_range] at h; exact h
  yld := fun i F1 H H' x t ht s hy => by
    obtain ⟨e, hx⟩ := hy
    subst e hx
    refine ⟨F1, .refl s.sub, ?_⟩
    simp only [rangeT, List.getElem?_map, Option.map_eq_some_iff] at ht
    obtain ⟨k, hk, rfl⟩ := ht
    have : k = i := by
      rw [List.getElem?_eq_some_iff] at hk
      obtain ⟨h, hk⟩ := hk
      simpa using hk.symm
    subst this
    exact ⟨.int _, rfl⟩
theorem rte1 {K : PySem.W.Frag} {mg : Str → Option Value} {F : FH} {H : Hp} {t : T} {ws : List V} (h : RTe K mg F H [t] ws) : ∃ v B, ws = [v] ∧ RT K mg F H t v B := by
  obtain ⟨v, r, B, e, q, e2⟩ := h
  have e2 : r = [] := e2
  subst e e2
  exact ⟨v, B, rfl, q⟩
theorem rte2 {K : PySem.W.Frag} {mg : Str → Option Value} {F : FH} {H : Hp} {t u : T} {ws : List V} (h : RTe K mg F H [t, u] ws) : ∃ v w B C, ws = [v, w] ∧ RT K mg F H t v B ∧ RT K mg F H u w C := by
  obtain ⟨v, r, B, e, q, h2⟩ := h
  obtain ⟨w, C, e2, q2⟩ := rte1 h2
  subst e e2
  exact ⟨v, w, B, C, rfl, q, q2⟩
def iCall (f : List T → Option (List T)) (mos : M (List Opd)) : M (List T) := mos.bind fun os => fun ρ => lift ((ress ρ os).bind f) ρ
/-- an iterator by operands that are read -/
theorem fi_call {es : List Expr} {mos : M (List Opd)} {f : List T → Option (List T)} {wi : TA → TI} (ha : FOs X vs W es mos) (hp : ∀ ta, PA X es ta → PI X tg iter (wi ta))
    (hw : ∀ (ta : TA) (σ : L2.St) (H : Hp) (R : It → Hp → Prop), (∀ (Q : List V → Hp → Prop), (∀ ws H1, (∃ (F : FH) (ts us : List T), Same F H1 ∧ RTe X.K X.mg F H1 ts ws ∧ f ts = some us ∧ ∀ J, Walk X.K X.mg J F H1 us → R J H1) → Q ws H1) → ta σ H Q) → wi ta σ H R) : FI X vs W tg iter (iCall f mos) := by
  obtain ⟨ta, pa, qa⟩ := ha
  refine ⟨_, hp ta pa, fun σ H F ρ A R w rp hq => ?_⟩
  refine hw ta σ H R fun Q hQ => qa σ H F ρ A Q w rp ?_
  unfold iCall M.bind at hq
  cases e1 : mos ρ with
  | bad => rw [e1] at hq; exact hq
  | exc c x ρ' => rw [e1] at hq; exact (hq : IQ _ _ _ _ _ _ _ _ _ (.exc c x ρ'))
  | ok os ρ1 =>
    rw [e1] at hq
    simp only [Out.bind, lift] at hq
    intro ws F1 H1 A1 B1 st1 rp1 r1
    cases ex : (ress ρ1 os).bind f with
    | none => rw [ex] at hq; exact hq.elim
    | some us =>
      rw [ex] at hq
      rw [Option.bind_eq_some_iff] at ex
      obtain ⟨ts, h1, h2⟩ := ex
      refine hQ ws H1 ⟨F1, ts, us, st1.wd.sub, ORs.ress rp1 r1 h1, h2, fun J wk => hq J F1 H1 A1 st1.less rp1 wk⟩
theorem fi_range1 {p : Pos} {mo : M Opd} (hg : Gl X "range") (hm : X.mg "range" = none) (ha : FO X vs W a mo) (hs : starEach [a] X.env = [(false, eval a X.env)] := by rfl) : FI X vs W tg (.Call (.Name "range" p) [a] [] pos) (iCall rangeOf1 (osCons mo osNil)) := by
  refine fi_call (fos_cons ha fos_nil hs) (fun ta pa => pi_range1 hg hm pa hs) fun ta σ H R h => h _ fun ws H1 ⟨F, ts, us, sub, rt, hf, hR⟩ => ?_
  unfold rangeOf1 at hf
  split at hf
  · rename_i j
    split at hf
    · rename_i hb
      cases hf
      obtain ⟨v, B, rfl, q⟩ := rte1 rt
      obtain ⟨rfl, _⟩ := rt_int q
      have hb := big62_le hb
      have e : (j - 0).toNat = j.toNat := by omega
      refine ⟨j, rfl, hb.1, hb.2, ?_⟩
      have k := hR _ (walk_range (K := X.K) (mg := X.mg) (F := F) (lo := 0) (hi := j))
      rw [e] at k; exact k
    · cases hf
  · cases hf
theorem fi_range2 {p : Pos} {mo mo2 : M Opd} (hg : Gl X "range") (hm : X.mg "range" = none) (ha : FO X vs W a mo) (hb : FO X vs W b mo2) (hs : starEach [a, b] X.env = [(false, eval a X.env), (false, eval b X.env)] := by rfl) (hs2 : starEach [b] X.env = [(false, eval b X.env)] := by rfl) : FI X vs W tg (.Call (.Name "range" p) [a, b] [] pos) (iCall rangeOf2 (osCons mo (osCons mo2 osNil))) := by
  refine fi_call (fos_cons ha (fos_cons hb fos_nil hs2) (by rw [hs, hs2])) (fun ta pa => pi_range2 hg hm pa hs hs2) fun ta σ H R h => h _ fun ws H1 ⟨F, ts, us, sub, rt, hf, hR⟩ => ?_
  unfold rangeOf2 at hf
  split at hf
  · rename_i i j
    split at hf
    · rename_i hb
      cases hf
      obtain ⟨v, w, B, C, rfl, q, q2⟩ := rte2 rt
      obtain ⟨rfl, _⟩ := rt_int q
      obtain ⟨rfl, _⟩ := rt_int q2
      rw [Bool.and_eq_true] at hb
      have h1 := big62_le hb.1
      have h2 := big62_le hb.2
      exact ⟨i, j, rfl, ⟨h1.1, h1.2, h2.1, h2.2⟩, hR _ walk_range⟩
    · cases hf
  · cases hf

/-! enumerate(list), zip(list, list) -/
def enumD (i : Nat) : List PyData → List T
  | [] => []
  | d :: ds => T.d (.tuple [.int (i : Nat), d]) :: enumD (i + 1) ds
theorem enumD_len : ∀ (ds : List PyData) (i : Nat), (enumD i ds).length = ds.length
  | [], _ => rfl
  | d :: ds, i => by simp [enumD, enumD_len ds]
theorem enumD_get : ∀ (ds : List PyData) (k i : Nat) (t : T), (enumD k ds)[i]? = some t → ∃ d, ds[i]? = some d ∧ t = .d (.tuple [.int ((k + i : Nat) : Int), d])
  | [], _, _, _, h => by simp [enumD] at h
  | d :: ds, k, 0, t, h => by
    simp only [enumD, List.getElem?_cons_zero, Option.some.injEq] at h
    exact ⟨d, rfl, h.symm⟩
  | d :: ds, k, i + 1, t, h => by
    simp only [enumD, List.getElem?_cons_succ] at h
    obtain ⟨d', h1, h2⟩ := enumD_get ds (k + 1) i t h
    refine ⟨d', by simpa using h1, ?_⟩
    rw [h2, show k + 1 + i = k + (i + 1) by omega]
def enumT (i : Nat) : List T → List T
  | [] => []
  | t :: ts => mkTup [.d (.int (i : Nat)), t] :: enumT (i + 1) ts
theorem enumT_len : ∀ (ds : List T) (i : Nat), (enumT i ds).length = ds.length
  | [], _ => rfl
  | d :: ds, i => by simp [enumT, enumT_len ds]
theorem enumT_get : ∀ (ds : List T) (k i : Nat) (t : T), (enumT k ds)[i]? = some t → ∃ d, ds[i]? = some d ∧ t = mkTup [.d (.int ((k + i : Nat) : Int)), d]
  | [], _, _, _, h => by simp [enumT] at h
  | d :: ds, k, 0, t, h => by
    simp only [enumT, List.getElem?_cons_zero, Option.some.injEq] at h
    exact ⟨d, rfl, h.symm⟩
  | d :: ds, k, i + 1, t, h => by
    simp only [enumT, List.getElem?_cons_succ] at h
    obtain ⟨d', h1, h2⟩ := enumT_get ds (k + 1) i t h
    refine ⟨d', by simpa using h1, ?_⟩
    rw [h2, show k + 1 + i = k + (i + 1) by omega]
theorem enumT_d : ∀ (ds : List PyData) (i : Nat), enumT i (ds.map T.d) = enumD i ds
  | [], _ => rfl
  | d :: ds, i => by
    show mkTup [.d (.int (i : Nat)), .d d] :: enumT (i + 1) (ds.map T.d) = _
    rw [enumT_d ds]; rfl
theorem walk_enum {K : PySem.W.Frag} {mg : Str → Option Value} {F : FH} {H0 : Hp} {a : Addr} {ws : List V} {ts : List T} (h : ∀ F1 H1, Seen F H0 F1 H1 → SqL K H1 a ws) (q : RTs K mg F H0 ts ws []) : Walk K mg (Ite K a) F H0 (enumT 0 ts) where
  go := fun i F1 H s hi => by
    rw [enumT_len] at hi
    exact ⟨ws, ws[i]'(by rw [← q.length]; exact hi), h F1 H s, by simp [← q.length, hi]⟩
  stop := fun i F1 H s hi => ⟨ws, h F1 H s, by rw [enumT_len] at hi; rw [← q.length]; exact hi⟩
  yld := fun i F1 H H' x t ht s hy => by
    obtain ⟨p, y, rfl, hn, rfl, hx⟩ := hy
    obtain ⟨d, hd, rfl⟩ := enumT_get ts 0 i t ht
    obtain ⟨v, h1, h2⟩ := RTs.get0 (RTs.keep s.ff s.rr ts (fun b hb => by cases hb) q) hd
    have h3 := hx ws (h F1 H s)
    rw [h1] at h3; cases h3
    have g := Grow.frz (o := .tup [.int (i : Nat), y]) s.sub hn
    refine ⟨_, g, mkTup_rt (B := []) ?_ hn s.sub⟩
    rw [Nat.zero_add]
    exact ⟨_, _, [], [], rfl, ⟨.int _, rfl⟩, ⟨_, _, [], [], rfl, h2, ⟨rfl, rfl⟩, rfl⟩, rfl⟩
def iEnumT (m : M T) : M (List T) := m.bind fun t => lift (if isLst (unB t) then (itemsR t).map (enumT 0) else none)
theorem fi_enum {elts : List Expr} {kk : Nat} {p tpos : Pos} (hg : Gl X "enumerate") (hm : X.mg "enumerate" = none) (h : FE X vs W e me) (hs : starEach [e] X.env = [(false, eval e X.env)] := by rfl) :
    FI X vs W (.Tuple elts kk tpos) (.Call (.Name "enumerate" p) [e] [] pos) (iEnumT me) := by
  obtain ⟨te, pe, qe⟩ := h
  refine ⟨_, pi_enum hg hm (pa_cons pe pa_nil hs) hs, fun σ H F ρ A R w rp hq => ?_⟩
  refine qe σ H F ρ A _ w rp ?_
  unfold iEnumT M.bind at hq
  cases e1 : me ρ with
  | bad => rw [e1] at hq; exact hq
  | exc c x ρ' => rw [e1] at hq; exact hq
  | ok t ρ1 =>
    rw [e1] at hq
    simp only [Out.bind, lift] at hq
    intro v F1 H1 A1 B st rp1 rt
    by_cases hl : isLst (unB t) = true
    · rw [if_pos hl] at hq
      cases e2 : itemsR t with
      | none => rw [e2] at hq; exact hq.elim
      | some ts =>
        rw [e2] at hq
        obtain ⟨F2, a, ws, s2, rfl, sq, q⟩ := itemsR_rt st.wd rt e2
        have rp2 := rp1.keep (F' := F2) (H' := H1) s2.ff (fun _ _ _ e => e) fun _ _ _ e => e
        rcases sq with ⟨_, sq⟩ | ⟨hl2, _⟩
        · exact ⟨_, ws, rfl, sq _ _ (.refl s2.wd.sub), hq _ _ H1 A1 (st.trans s2) rp2 (walk_enum sq q)⟩
        · rw [hl] at hl2; cases hl2
    · rw [if_neg hl] at hq; exact hq.elim
def zipD : List PyData → List PyData → List T
  | a :: as, b :: bs => T.d (.tuple [a, b]) :: zipD as bs
  | _, _ => []
theorem zipD_len : ∀ (as bs : List PyData), (zipD as bs).length = min as.length bs.length
  | [], _ => by simp [zipD]
  | _ :: _, [] => by simp [zipD]
  | a :: as, b :: bs => by simp only [zipD, List.length_cons, zipD_len as bs]; omega
theorem zipD_get : ∀ (as bs : List PyData) (i : Nat) (t : T), (zipD as bs)[i]? = some t → ∃ a b, as[i]? = some a ∧ bs[i]? = some b ∧ t = .d (.tuple [a, b])
  | [], _, _, _, h => by simp [zipD] at h
  | _ :: _, [], _, _, h => by simp [zipD] at h
  | a :: as, b :: bs, 0, t, h => by
    simp only [zipD, List.getElem?_cons_zero, Option.some.injEq] at h
    exact ⟨a, b, rfl, rfl, h.symm⟩
  | a :: as, b :: bs, i + 1, t, h => by
    simp only [zipD, List.getElem?_cons_succ] at h
    obtain ⟨x, y, h1, h2, h3⟩ := zipD_get as bs i t h
    exact ⟨x, y, by simpa using h1, by simpa using h2, h3⟩

/-! ### for -/
def kl (ks : List Nat) : Fl → Fl
  | .nx ρ => .nx (killE ks ρ)
  | .ct ρ => .ct (killE ks ρ)
  | .bk ρ => .bk (killE ks ρ)
  | f => f
def forR (b : T → Env → Fl) : List T → Env → Fl
  | [], ρ => .nx ρ
  | t :: ts, ρ => match b t ρ with
    | .nx ρ' => forR b ts ρ'
    | .ct ρ' => forR b ts ρ'
    | .bk ρ' => .nx ρ'
    | f => f
def sFor (ks : List Nat) (mi : M (List T)) (g : T → Env → Option Env) (body : Env → Fl) : Env → Fl := fun ρ => match mi ρ with
  | .ok ts ρ' => forR (fun t ρ => kl ks (match g t ρ with
    | some ρ2 => body ρ2
    | none => .bad)) ts ρ'
  | .exc c x ρ' => .exc c x ρ'
  | .bad => .bad
theorem SQ.killC {K : PySem.W.Frag} {mg : Str → Option Value} {D : Ends} {F : FH} {H : Hp} {A : List Addr} (ks : List Nat) {ρ : Env} (h : SQ K mg vs W D F H A (.ct (killE ks ρ))) : SQ K mg vs W D F H A (.ct ρ) := fun σ' F' H' A' s r => by
  obtain ⟨A2, s2, r2⟩ := Rep.kill ks s.wd r
  exact h σ' F' H' A2 (s.trans s2) r2
theorem fs_for {body : List Stmt} {ix : List Nat} {mi : M (List T)} {g : T → Env → Option Env} {mb : Env → Fl} (ks : List Nat) (hp : PassesOwn (model X.prog X.w) X.A X.env X.xe) (hc : X.calm = true) (hi : FI X vs W tg iter mi) (hg : FG X vs tg ix g) (hb : FB X vs W body mb)
    (hs : ∀ x, foldedSetIterable iter X.env x = pure x := by intro _; rfl) : FS X vs W (.For tg iter body [] pos) (sFor ks mi g mb) := by
  obtain ⟨wi, pi, qi⟩ := hi
  obtain ⟨tg', pg, qg⟩ := hg
  obtain ⟨tb, pb, qb⟩ := hb
  refine ⟨_, ps_for hp hc pi pg pb hs, fun D σ H F ρ A w r hq => ?_⟩
  refine qi σ H F ρ A _ w r ?_
  unfold sFor at hq
  cases e1 : mi ρ with
  | bad => rw [e1] at hq; exact hq
  | exc c x ρ' => rw [e1] at hq; exact fun cls d F' H' A' st rp ex => hq cls d σ F' H' A' st rp ex
  | ok ts ρ1 =>
    rw [e1] at hq
    simp only at hq
    intro J F1 H1 A1 st1 rp1 wk
    generalize hbd : (fun t ρ => kl ks (match g t ρ with
      | some ρ2 => mb ρ2
      | none => .bad)) = bd at hq
    refine ⟨fun i m σ' H' => m = ts.length - i ∧ i ≤ ts.length ∧ ∃ F' A' ρ', Seen F1 H1 F' H' ∧ Wd F' H' A' ∧ Rep X.K X.mg vs F' H' σ' ρ' A' ∧ SQ X.K X.mg vs W D F' H' A' (forR bd (ts.drop i) ρ'), ⟨ts.length, by simp, Nat.zero_le _, F1, A1, ρ1, .refl st1.wd.sub, st1.wd, rp1, hq.step st1⟩, ?_⟩
    rintro i m σ' H' ⟨rfl, hi, F', A', ρ', ff, wd, rp, sq⟩
    by_cases hlt : i < ts.length
    · obtain ⟨t, ht⟩ : ∃ t, ts[i]? = some t := ⟨ts[i], by simp [hlt]⟩
      refine .inr ⟨wk.go i F' H' ff hlt, fun σ2 H2 => (ts.length - (i + 1) = ts.length - (i + 1) ∧ i + 1 ≤ ts.length ∧ ∃ F' A' ρ', Seen F1 H1 F' H2 ∧ Wd F' H2 A' ∧ Rep X.K X.mg vs F' H2 σ2 ρ' A' ∧ SQ X.K X.mg vs W D F' H2 A' (forR bd (ts.drop (i + 1)) ρ')), fun σ2 H2 n2 => ⟨ts.length - (i + 1), by omega, n2⟩, fun x H2 hy => ?_⟩
      obtain ⟨F2, gr, rt⟩ := wk.yld i F' H' H2 x t ht ff hy
      have s2 := gr.step wd
      rw [List.append_nil] at s2
      have rp2 := rp.grow gr
      have hd : ts.drop i = t :: ts.drop (i + 1) := by
        obtain ⟨h1, h2⟩ := List.getElem?_eq_some_iff.mp ht
        rw [← h2]; exact List.drop_eq_getElem_cons h1
      rw [hd] at sq
      have sq := SQ.step s2 sq
      have hb' : bd t ρ' = kl ks (match g t ρ' with
        | some ρ2 => mb ρ2
        | none => .bad) := by rw [← hbd]
      simp only [forR] at sq
      rw [hb'] at sq
      cases e3 : g t ρ' with
      | none => rw [e3] at sq; exact sq.elim
      | some ρ3 =>
        rw [e3] at sq
        simp only at sq
        refine qg x σ' H2 F2 ρ' ρ3 A' [] t _ (by rw [List.append_nil]; exact s2.wd) rp2 rt e3 fun σ3 A3 _ s3 rp3 => ?_
        rw [List.append_nil] at s3
        refine qb _ σ3 H2 F2 ρ3 A3 s3.wd rp3 ?_
        have sq := SQ.step s3 sq
        have nxt : ∀ {ρ4 : Env}, SQ X.K X.mg vs W D F2 H2 A3 (forR bd (ts.drop (i + 1)) (killE ks ρ4)) → ∀ σ' F' H' A', Step F2 H2 A3 F' H' A' → Rep X.K X.mg vs F' H' σ' ρ4 A' →
            (ts.length - (i + 1) = ts.length - (i + 1) ∧ i + 1 ≤ ts.length ∧ ∃ F' A' ρ', Seen F1 H1 F' H' ∧ Wd F' H' A' ∧ Rep X.K X.mg vs F' H' σ' ρ' A' ∧ SQ X.K X.mg vs W D F' H' A' (forR bd (ts.drop (i + 1)) ρ')) := fun {ρ4} h σ' F' H' A' s4 rp4 => by
          obtain ⟨A5, s5, rp5⟩ := Rep.kill ks s4.wd rp4
          exact ⟨rfl, hlt, F', A5, killE ks ρ4, ((((ff.step wd s2).step s2.wd s3).step s3.wd s4).step s4.wd s5), s5.wd, rp5, SQ.step (s4.trans s5) h⟩
        cases e4 : mb ρ3 with
        | nx ρ4 => rw [e4] at sq; exact nxt sq
        | ct ρ4 => rw [e4] at sq; exact nxt sq
        | bk ρ4 =>
          rw [e4] at sq
          exact fun σ' F' H' A' s4 rp4 => SQ.kill ks sq σ' F' H' A' s4 rp4
        | rt τ ρ4 => rw [e4] at sq; exact sq
        | exc c x ρ4 => rw [e4] at sq; exact sq
        | bad => rw [e4] at sq; exact sq
    · have e : i = ts.length := by omega
      subst e
      rw [List.drop_length] at sq
      exact .inl ⟨wk.stop _ F' H' ff (Nat.le_refl _), sq σ' F' H' A' (.refl wd) rp⟩

/-! ### while -/
def whileN (c : M Bool) (b : Env → Fl) : Nat → Env → Option Fl
  | 0, _ => none
  | n + 1, ρ => match c ρ with
    | .ok false ρ' => some (.nx ρ')
    | .ok true ρ' => (match b ρ' with
      | .nx ρ2 => whileN c b n ρ2
      | .ct ρ2 => whileN c b n ρ2
      | .bk ρ2 => some (.nx ρ2)
      | f => some f)
    | .exc cl x ρ' => some (.exc cl x ρ')
    | .bad => some .bad
open Classical in
noncomputable def sWhile (ks : List Nat) (c : M Bool) (b : Env → Fl) : Env → Fl := fun ρ => if h : ∃ f n, whileN c (fun ρ => kl ks (b ρ)) n ρ = some f then h.choose else .bad
theorem whileN_mono {c : M Bool} {b : Env → Fl} : ∀ {n m : Nat} {ρ : Env} {f : Fl}, n ≤ m → whileN c b n ρ = some f → whileN c b m ρ = some f
  | 0, _, _, _, _, h => by simp [whileN] at h
  | n + 1, 0, _, _, hm, _ => by omega
  | n + 1, m + 1, ρ, f, hm, h => by
    simp only [whileN] at h ⊢
    cases e1 : c ρ with
    | bad => rw [e1] at h; exact h
    | exc cl x ρ' => rw [e1] at h; exact h
    | ok k ρ' =>
      rw [e1] at h
      cases k with
      | false => exact h
      | true =>
        simp only at h ⊢
        cases e2 : b ρ' with
        | nx ρ2 => rw [e2] at h; exact whileN_mono (by omega) h
        | ct ρ2 => rw [e2] at h; exact whileN_mono (by omega) h
        | bk ρ2 => rw [e2] at h; exact h
        | rt τ ρ2 => rw [e2] at h; exact h
        | exc cl x ρ2 => rw [e2] at h; exact h
        | bad => rw [e2] at h; exact h
theorem whileN_det {c : M Bool} {b : Env → Fl} {n m : Nat} {ρ : Env} {f g : Fl} (h : whileN c b n ρ = some f) (h' : whileN c b m ρ = some g) : f = g := by
  have a := whileN_mono (Nat.le_max_left n m) h
  have b' := whileN_mono (Nat.le_max_right n m) h'
  rw [a] at b'; exact Option.some.inj b'
theorem sWhile_of {ks : List Nat} {c : M Bool} {b : Env → Fl} {n : Nat} {ρ : Env} {f : Fl} (h : whileN c (fun ρ => kl ks (b ρ)) n ρ = some f) : sWhile ks c b ρ = f := by
  unfold sWhile
  have hx : ∃ f n, whileN c (fun ρ => kl ks (b ρ)) n ρ = some f := ⟨f, n, h⟩
  rw [dif_pos hx]
  obtain ⟨m, hm⟩ := hx.choose_spec
  exact whileN_det hm h
/-- one turn -/
theorem sWhile_eq (ks : List Nat) (c : M Bool) (b : Env → Fl) (ρ : Env) : sWhile ks c b ρ = match c ρ with
    | .ok false ρ' => .nx ρ'
    | .ok true ρ' => (match kl ks (b ρ') with
      | .nx ρ2 => sWhile ks c b ρ2
      | .ct ρ2 => sWhile ks c b ρ2
      | .bk ρ2 => .nx ρ2
      | f => f)
    | .exc cl x ρ' => .exc cl x ρ'
    | .bad => .bad := by
  have one : ∀ n f, whileN c (fun ρ => kl ks (b ρ)) (n + 1) ρ = some f → sWhile ks c b ρ = f := fun n f h => sWhile_of h
  have again : ∀ ρ2, (∀ n, whileN c (fun ρ => kl ks (b ρ)) (n + 1) ρ = whileN c (fun ρ => kl ks (b ρ)) n ρ2) → sWhile ks c b ρ = sWhile ks c b ρ2 := fun ρ2 h => by
    by_cases hx : ∃ f n, whileN c (fun ρ => kl ks (b ρ)) n ρ2 = some f
    · obtain ⟨f, n, hn⟩ := hx
      rw [sWhile_of hn]
      exact one n f (by rw [h]; exact hn)
    · have hy : ¬ ∃ f n, whileN c (fun ρ => kl ks (b ρ)) n ρ = some f := fun ⟨f, n, hn⟩ => by
        cases n with
        | zero => simp [whileN] at hn
        | succ n => rw [h] at hn; exact hx ⟨f, n, hn⟩
      unfold sWhile
      rw [dif_neg hx, dif_neg hy]
  cases e1 : c ρ with
  | bad => exact one 0 _ (by simp only [whileN, e1])
  | exc cl x ρ' => exact one 0 _ (by simp only [whileN, e1])
  | ok k ρ' =>
    cases k with
    | false => exact one 0 _ (by simp only [whileN, e1])
    | true =>
      simp only
      cases e2 : kl ks (b ρ') with
      | nx ρ2 => exact again ρ2 fun n => by simp only [whileN, e1, e2]
      | ct ρ2 => exact again ρ2 fun n => by simp only [whileN, e1, e2]
      | bk ρ2 => exact one 0 _ (by simp only [whileN, e1, e2])
      | rt τ ρ2 => exact one 0 _ (by simp only [whileN, e1, e2])
      | exc cl x ρ2 => exact one 0 _ (by simp only [whileN, e1, e2])
      | bad => exact one 0 _ (by simp only [whileN, e1, e2])
theorem fs_while {c : Expr} {body : List Stmt} {mt : M Bool} {mb : Env → Fl} (ks : List Nat) (hp : PassesOwn (model X.prog X.w) X.A X.env X.xe) (hc : FT X vs W c mt) (hb : FB X vs W body mb) : FS X vs W (.While c body [] pos) (sWhile ks mt mb) := by
  obtain ⟨tc, pc, qc⟩ := hc
  obtain ⟨tb, pb, qb⟩ := hb
  refine ⟨_, ps_while hp pc pb, fun D σ H F ρ A w r hq => ?_⟩
  by_cases hx : ∃ f n, whileN mt (fun ρ => kl ks (mb ρ)) n ρ = some f
  · obtain ⟨f, n, hn⟩ := hx
    rw [sWhile_of hn] at hq
    refine ⟨fun m σ' H' => ∃ F' A' ρ', Wd F' H' A' ∧ Rep X.K X.mg vs F' H' σ' ρ' A' ∧ ∃ f, whileN mt (fun ρ => kl ks (mb ρ)) m ρ' = some f ∧ SQ X.K X.mg vs W D F' H' A' f, ⟨n, F, A, ρ, w, r, f, hn, hq⟩, ?_⟩
    rintro m σ' H' ⟨F', A', ρ', wd, rp, f, hf, sq⟩
    cases m with
    | zero => simp [whileN] at hf
    | succ m =>
      simp only [whileN] at hf
      refine qc σ' H' F' ρ' A' _ wd rp ?_
      cases e1 : mt ρ' with
      | bad => rw [e1] at hf; cases hf; exact sq
      | exc cl x ρ1 => rw [e1] at hf; cases hf; exact fun cls d F' H' A' st rp ex => sq cls d σ' F' H' A' st rp ex
      | ok k ρ1 =>
        rw [e1] at hf
        intro F1 H1 A1 st1 rp1
        cases k with
        | false =>
          rw [if_neg Bool.false_ne_true]
          cases hf
          exact sq σ' F1 H1 A1 st1 rp1
        | true =>
          rw [if_pos rfl]
          simp only at hf
          refine ⟨fun σ2 H2 => ∃ F' A' ρ', Wd F' H2 A' ∧ Rep X.K X.mg vs F' H2 σ2 ρ' A' ∧ ∃ f, whileN mt (fun ρ => kl ks (mb ρ)) m ρ' = some f ∧ SQ X.K X.mg vs W D F' H2 A' f, fun σ2 H2 n2 => ⟨m, Nat.lt_succ_self m, n2⟩, ?_⟩
          refine qb _ σ' H1 F1 ρ1 A1 st1.wd rp1 ?_
          have sq := SQ.step st1 sq
          have nxt : ∀ {ρ4 : Env}, whileN mt (fun ρ => kl ks (mb ρ)) m (killE ks ρ4) = some f → ∀ σ' F' H' A', Step F1 H1 A1 F' H' A' → Rep X.K X.mg vs F' H' σ' ρ4 A' →
              ∃ F' A' ρ', Wd F' H' A' ∧ Rep X.K X.mg vs F' H' σ' ρ' A' ∧ ∃ f, whileN mt (fun ρ => kl ks (mb ρ)) m ρ' = some f ∧ SQ X.K X.mg vs W D F' H' A' f := fun {ρ4} h σ' F' H' A' s4 rp4 => by
            obtain ⟨A5, s5, rp5⟩ := Rep.kill ks s4.wd rp4
            exact ⟨F', A5, killE ks ρ4, s5.wd, rp5, f, h, SQ.step (s4.trans s5) sq⟩
          cases e2 : mb ρ1 with
          | nx ρ2 => rw [e2] at hf; exact nxt hf
          | ct ρ2 => rw [e2] at hf; exact nxt hf
          | bk ρ2 => rw [e2] at hf; cases hf; exact fun σ' F' H' A' s4 rp4 => SQ.kill ks sq σ' F' H' A' s4 rp4
          | rt τ ρ2 => rw [e2] at hf; cases hf; exact sq
          | exc cl x ρ2 => rw [e2] at hf; cases hf; exact sq
          | bad => rw [e2] at hf; cases hf; exact sq
  · unfold sWhile at hq
    rw [dif_neg hx] at hq
    exact hq.elim
end
end FL

set_option Elab.async false
set_option linter.all false
set_option maxRecDepth 100000
namespace FL
open PySem PySem.Spec PyProof.Rows L2

/-! ### comprehensions -/
structure FTs (X : Cx) (vs : Fx) (W : WX) (ifs : List Expr) (m : M Bool) : Prop where
  ex : ∃ t : TT, PTs X ifs t ∧ ∀ (σ : L2.St) (H : Hp) (F : FH) (ρ : Env) (A : List Addr) (Q : Bool → Hp → Prop), Wd F H A → Rep X.K X.mg vs F H σ ρ A → TQ X.K X.mg vs W F H σ A Q (m ρ) → t σ H Q
section
variable {X : Cx} {vs : Fx} [Fx.Free vs] {W : WX} {tg iter e a b : Expr} {me ma mb : M T} {pos : Pos}
theorem fts_nil : FTs X vs W [] (.pure true) := ⟨_, pts_nil, fun σ H F ρ A Q w r hq => hq F H A (.refl w) r⟩
theorem fts_one {mt : M Bool} (h : FT X vs W e mt) : FTs X vs W [e] mt := by
  obtain ⟨t, p, q⟩ := h
  exact ⟨_, pts_one p, q⟩
end
def compR (ks : List Nat) (g : T → Env → Option Env) (tt : M Bool) (te : M T) : List T → Env → List T → Option (List T × Env)
  | [], ρ, acc => some (acc, ρ)
  | t :: ts, ρ, acc => (g t ρ).bind fun ρ1 => match tt ρ1 with
    | .ok false ρ2 => compR ks g tt te ts (killE ks ρ2) acc
    | .ok true ρ2 => (match te ρ2 with
      | .ok y ρ3 => if small (acc.length + 1) then compR ks g tt te ts (killE ks ρ3) (acc ++ [y]) else none
      | _ => none)
    | _ => none
def eComp (ks : List Nat) (mi : M (List T)) (g : T → Env → Option Env) (tt : M Bool) (te : M T) : M T := mi.bind fun ts => fun ρ => match compR ks g tt te ts (killE ks ρ) [] with
  | some (acc, ρ') => .ok (.ol acc) ρ'
  | none => .bad
def Killed (ks : List Nat) (ρ : Env) : Prop := ∀ k ∈ ks, ∀ c, ρ[k]? ≠ some (some c)
theorem killE_len : ∀ (ks : List Nat) (ρ : Env), (killE ks ρ).length = ρ.length
  | [], ρ => rfl
  | k :: ks, ρ => by
    show (killE ks (ρ.set k none)).length = _
    rw [killE_len ks]; simp
theorem killE_keep : ∀ (ks : List Nat) (ρ : Env) (k : Nat), (∀ c, ρ[k]? ≠ some (some c)) → ∀ c, (killE ks ρ)[k]? ≠ some (some c)
  | [], ρ, k, h => h
  | j :: ks, ρ, k, h => killE_keep ks (ρ.set j none) k fun c q => by
    by_cases hj : j = k
    · subst hj
      rw [List.getElem?_set] at q
      split at q <;> first | (split at q <;> simp at q) | exact h c q
    · rw [List.getElem?_set_ne hj] at q; exact h c q
theorem killed : ∀ (ks : List Nat) (ρ : Env), Killed ks (killE ks ρ)
  | [], ρ => fun k hk => by cases hk
  | j :: ks, ρ => fun k hk => by
    rcases List.mem_cons.mp hk with rfl | hk
    · refine killE_keep ks (ρ.set k none) k fun c q => ?_
      rw [List.getElem?_set] at q
      split at q <;> first | (split at q <;> simp at q) | exact absurd rfl ‹_›
    · exact killed ks (ρ.set j none) k hk
theorem RSl.swap {K : PySem.W.Frag} {mg : Str → Option Value} {F : FH} {H : Hp} : ∀ {ρ : Env} {σ σ' : L2.St} {A : List Addr}, RSl K mg F H ρ σ A → σ'.length = σ.length → (∀ (i : Nat) (c : Cell), ρ[i]? = some (some c) → σ'[i]? = σ[i]?) → RSl K mg F H ρ σ' A
  | [], σ, σ', A, ⟨e, e2⟩, hl, _ => by
    subst e
    exact ⟨List.length_eq_zero_iff.mp hl, e2⟩
  | none :: ρ, σ, σ', A, ⟨o, r, e, q⟩, hl, h => by
    subst e
    cases σ' with
    | nil => simp at hl
    | cons o' r' => exact ⟨o', r', rfl, RSl.swap q (by simpa using hl) fun i c hc => by simpa using h (i + 1) c (by simpa using hc)⟩
  | some (t, b) :: ρ, σ, σ', A, ⟨v, r, A1, A2, e, q1, q2, e2⟩, hl, h => by
    subst e
    cases σ' with
    | nil => simp at hl
    | cons o' r' =>
      have h0 := h 0 (t, b) rfl
      simp at h0
      subst h0
      exact ⟨v, r', A1, A2, rfl, q1, RSl.swap q2 (by simpa using hl) fun i c hc => by simpa using h (i + 1) c (by simpa using hc), e2⟩
theorem Rep.swap {K : PySem.W.Frag} {mg : Str → Option Value} {vs : Fx} [Fx.Free vs] {F : FH} {H : Hp} {ρ : Env} {σ σ' : L2.St} {A : List Addr} (r : Rep K mg vs F H σ ρ A) (hl : σ'.length = σ.length) (h : ∀ (i : Nat) (c : Cell), ρ[i]? = some (some c) → σ'[i]? = σ[i]?) : Rep K mg vs F H σ' ρ A :=
  ⟨r.fx, Fx.Free.all _, r.sl.swap hl h, fun i t hi => by
    obtain ⟨v, h1, h2⟩ := r.io i t hi
    exact ⟨v, h1, by rw [h i _ hi]; exact h2⟩⟩
theorem wipe_get (σ : L2.St) : ∀ (ks : List Nat) (j : Nat), j ∈ ks → (wipe σ ks)[j]? = (σ[j]?).map fun _ => none
  | k :: ks, j, h => by
    unfold wipe
    by_cases hk : k = j
    · subst hk
      rw [List.getElem?_set]
      by_cases hl : k < σ.length
      · simp [hl, wipe_length]
      · simp [hl, wipe_length]
    · rw [List.getElem?_set_ne hk]
      exact wipe_get σ ks j (by simpa [Ne.symm hk] using h)
theorem wipe_only {ks : List Nat} {σ σ2 : L2.St} (o : Only ks (wipe σ ks) σ2) : wipe σ2 ks = wipe σ ks := by
  apply List.ext_getElem?
  intro j
  by_cases hj : j ∈ ks
  · rw [wipe_get _ _ _ hj, wipe_get _ _ _ hj]
    have hl := o.1
    rw [wipe_length] at hl
    by_cases h : j < σ.length
    · rw [List.getElem?_eq_getElem h, List.getElem?_eq_getElem (by omega)]; rfl
    · rw [List.getElem?_eq_none (by omega), List.getElem?_eq_none (by omega)]
  · rw [wipe_out hj, o.2 j hj]
theorem Only.mono {i1 i2 : List Nat} {σ σ' : L2.St} (o : Only i1 σ σ') (h : ∀ j ∈ i1, j ∈ i2) : Only i2 σ σ' := ⟨o.1, fun j hj => o.2 j fun q => hj (h j q)⟩
/-! a family of contexts -/
section
variable {ι : Type} {Xs : ι → Cx} {K : PySem.W.Frag} {mg : Str → Option Value} {vs : Fx} [Fx.Free vs] {W : WX} {e : Expr}
theorem fe_all {m : M T} (hK : ∀ i, (Xs i).K = K) (hm : ∀ i, (Xs i).mg = mg) (h : ∀ i, FE (Xs i) vs W e m) : ∃ t : TE, (∀ i, PE (Xs i) e t) ∧ ∀ (σ : L2.St) (H : Hp) (F : FH) (ρ : Env) (A : List Addr) (Q : VK), Wd F H A → Rep K mg vs F H σ ρ A → EQ K mg vs W F H σ A Q (m ρ) → t σ H Q := by
  have h' : ∀ i, ∃ t : TE, PE (Xs i) e t ∧ ∀ (σ : L2.St) (H : Hp) (F : FH) (ρ : Env) (A : List Addr) (Q : VK), Wd F H A → Rep K mg vs F H σ ρ A → EQ K mg vs W F H σ A Q (m ρ) → t σ H Q := fun i => by
    have q := (h i).ex
    rw [hK, hm] at q
    exact q
  exact ⟨fun σ H Q => ∀ i, (h' i).choose σ H Q, fun i => ⟨fun pins s σ H Q I hq => (h' i).choose_spec.1.run pins s σ H Q I (hq i)⟩, fun σ H F ρ A Q w r hq i => (h' i).choose_spec.2 σ H F ρ A Q w r hq⟩
theorem fts_all {es : List Expr} {m : M Bool} (hK : ∀ i, (Xs i).K = K) (hm : ∀ i, (Xs i).mg = mg) (h : ∀ i, FTs (Xs i) vs W es m) : ∃ t : TT, (∀ i, PTs (Xs i) es t) ∧ ∀ (σ : L2.St) (H : Hp) (F : FH) (ρ : Env) (A : List Addr) (Q : Bool → Hp → Prop), Wd F H A → Rep K mg vs F H σ ρ A → TQ K mg vs W F H σ A Q (m ρ) → t σ H Q := by
  have h' : ∀ i, ∃ t : TT, PTs (Xs i) es t ∧ ∀ (σ : L2.St) (H : Hp) (F : FH) (ρ : Env) (A : List Addr) (Q : Bool → Hp → Prop), Wd F H A → Rep K mg vs F H σ ρ A → TQ K mg vs W F H σ A Q (m ρ) → t σ H Q := fun i => by
    have q := (h i).ex
    rw [hK, hm] at q
    exact q
  exact ⟨fun σ H Q => ∀ i, (h' i).choose σ H Q, fun i => ⟨fun pins s σ H Q I hq => (h' i).choose_spec.1.run pins s σ H Q I (hq i)⟩, fun σ H F ρ A Q w r hq i => (h' i).choose_spec.2 σ H F ρ A Q w r hq⟩
theorem fg_all {ix : List Nat} {g : T → Env → Option Env} (hK : ∀ i, (Xs i).K = K) (hm : ∀ i, (Xs i).mg = mg) (h : ∀ i, FG (Xs i) vs e ix g) : ∃ t : TG, (∀ i, PG (Xs i) e t) ∧ ∀ (v : V) (σ : L2.St) (H : Hp) (F : FH) (ρ ρ' : Env) (A B : List Addr) (τ : T) (Q : L2.St → Hp → Prop), Wd F H (A ++ B) → Rep K mg vs F H σ ρ A → RT K mg F H τ v B → g τ ρ = some ρ' →
    (∀ σ' A', Only ix σ σ' → Step F H (A ++ B) F H A' → Rep K mg vs F H σ' ρ' A' → Q σ' H) → t v σ H Q := by
  have h' : ∀ i, ∃ t : TG, PG (Xs i) e t ∧ ∀ (v : V) (σ : L2.St) (H : Hp) (F : FH) (ρ ρ' : Env) (A B : List Addr) (τ : T) (Q : L2.St → Hp → Prop), Wd F H (A ++ B) → Rep K mg vs F H σ ρ A → RT K mg F H τ v B → g τ ρ = some ρ' →
      (∀ σ' A', Only ix σ σ' → Step F H (A ++ B) F H A' → Rep K mg vs F H σ' ρ' A' → Q σ' H) → t v σ H Q := fun i => by
    have q := (h i).ex
    rw [hK, hm] at q
    exact q
  exact ⟨fun v σ H Q => ∀ i, (h' i).choose v σ H Q, fun i => ⟨fun pins s σ H v u Q I r hq => (h' i).choose_spec.1.run pins s σ H v u Q I r (hq i)⟩, fun v σ H F ρ ρ' A B τ Q w r rt hg hq i => (h' i).choose_spec.2 v σ H F ρ ρ' A B τ Q w r rt hg hq⟩
end
theorem RTs.snoc {K : PySem.W.Frag} {mg : Str → Option Value} {F : FH} {H : Hp} {t : T} {v : V} {B : List Addr} (r : RT K mg F H t v B) : ∀ {ts : List T} {ws : List V} {C : List Addr}, RTs K mg F H ts ws C → RTs K mg F H (ts ++ [t]) (ws ++ [v]) (C ++ B)
  | [], ws, C, ⟨e1, e2⟩ => by subst e1 e2; exact ⟨v, [], B, [], rfl, r, ⟨rfl, rfl⟩, by simp⟩
  | t' :: ts, ws, C, ⟨w, s, C1, C2, e1, q1, q2, e2⟩ => by
    subst e1 e2
    exact ⟨w, s ++ [v], C1, C2 ++ B, rfl, q1, RTs.snoc r q2, by simp⟩
/-- an owned list is written -/
theorem Wd.upd {F : FH} {H : Hp} {A : List Addr} {D : Addr} {o : HO} (w : Wd F H A) (hD : D ∈ A) : Wd F (upd H D o) A :=
  ⟨fun b u e => by rw [upd_ne fun z => by subst z; rw [w.fn b hD] at e; cases e]; exact w.sub b u e, w.nd, w.fn, fun b hb => by
    by_cases h : b = D
    · subst h; rw [upd_same]; simp
    · rw [upd_ne h]; exact w.th b hb, fun b hb => ⟨(w.rn b hb).1, by
    by_cases h : b = D
    · subst h; rw [upd_same]; simp
    · rw [upd_ne h]; exact (w.rn b hb).2⟩⟩
theorem Step.write {F : FH} {H : Hp} {A : List Addr} {D : Addr} {o : HO} (w : Wd F H A) (hD : D ∈ A) : Step F H A F (upd H D o) A :=
  ⟨.refl _, fun b u e n => by
    rw [upd_ne (fun z => by subst z; exact n hD)]; exact e, fun _ e n => absurd e n, fun b hb => .inl hb, w.upd hD⟩
section
variable {X : Cx} {vs : Fx} [Fx.Free vs] {W : WX} {tg iter e elt : Expr} {ifs : List Expr} {scope : Scope} {own : List (Str × Nat)} {pos : Pos} {mi : M (List T)} {g : T → Env → Option Env} {mt : M Bool} {me : M T} {ix : List Nat}
abbrev WF : WX := fun _ _ _ _ => False
theorem comp_rd {K : PySem.W.Frag} {mg : Str → Option Value} {tt : TT} {te : TE} {tg' : TG} {ks : List Nat} (hix : ∀ j ∈ ix, j ∈ ks)
    (qt : ∀ (σ : L2.St) (H : Hp) (F : FH) (ρ : Env) (A : List Addr) (Q : Bool → Hp → Prop), Wd F H A → Rep K mg vs F H σ ρ A → TQ K mg vs WF F H σ A Q (mt ρ) → tt σ H Q)
    (qe : ∀ (σ : L2.St) (H : Hp) (F : FH) (ρ : Env) (A : List Addr) (Q : VK), Wd F H A → Rep K mg vs F H σ ρ A → EQ K mg vs WF F H σ A Q (me ρ) → te σ H Q)
    (qg : ∀ (v : V) (σ : L2.St) (H : Hp) (F : FH) (ρ ρ' : Env) (A B : List Addr) (τ : T) (Q : L2.St → Hp → Prop), Wd F H (A ++ B) → Rep K mg vs F H σ ρ A → RT K mg F H τ v B → g τ ρ = some ρ' → (∀ σ' A', Only ix σ σ' → Step F H (A ++ B) F H A' → Rep K mg vs F H σ' ρ' A' → Q σ' H) → tg' v σ H Q)
    {σ : L2.St} {F : FH} {H : Hp} {F1 : FH} {H1 : Hp} {A A1 : List Addr} {ρ1 ρf : Env} {ts accf : List T} {J : It} {Q : VK} {D : Addr} (st1 : Step F H A F1 H1 A1) (rp1 : Rep K mg vs F1 H1 σ ρ1 A1) (wk : Walk K mg J F1 H1 ts) (hD : H1 D = none)
    (hc : compR ks g mt me ts (killE ks ρ1) [] = some (accf, ρf)) (hq : ∀ v F' H' A' B, Step F H A F' H' (A' ++ B) → Rep K mg vs F' H' σ ρf A' → RT K mg F' H' (.ol accf) v B → Q v H') :
    ∃ Wf : Nat → Nat → Hp → Prop, (∃ m, Wf 0 m (upd H1 D (.lst []))) ∧ ∀ i m H, Wf i m H →
      (J.stop i H ∧ Q (.ref D) H) ∨ (J.go i H ∧ ∃ Nx : Hp → Prop, (∀ H', Nx H' → ∃ m', m' < m ∧ Wf (i + 1) m' H') ∧ ∀ x H', J.yld i H x H' → tg' x (wipe σ ks) H' fun σ2 H2 => wipe σ2 ks = wipe σ ks ∧ tt σ2 H2 fun b H3 =>
        if b = true then te σ2 H3 fun y H4 => ∃ acc, H4 D = some (.lst acc) ∧ acc.length < sizeLine ∧ Nx (upd H4 D (.lst (acc ++ [y]))) else Nx H3) := by
  -- the start
  have g0 := Grow.own (o := .lst []) st1.wd.sub hD
  have s0 := g0.step st1.wd
  obtain ⟨A2, sk, rk⟩ := Rep.kill ks st1.wd rp1
  have s0' : Step F1 H1 A1 F1 (upd H1 D (.lst [])) (A2 ++ [D]) := by
    have := g0.step sk.wd
    exact sk.trans this
  have out : ∀ {ρ : Env} {i : Nat} {c : Cell}, Killed ks ρ → ρ[i]? = some (some c) → i ∉ ks := fun hk hc hm => hk _ hm _ hc
  have rk0 : Rep K mg vs F1 (upd H1 D (.lst [])) (wipe σ ks) (killE ks ρ1) A2 :=
    (rk.grow g0).swap (wipe_length _ _) fun i c hc => wipe_out (out (killed ks ρ1) hc)
  let Nv : Nat → Hp → Prop := fun i H' => i ≤ ts.length ∧ ∃ F' A' ρ' acc ws Ba, Seen F1 H1 F' H' ∧ Step F H A F' H' (A' ++ (D :: Ba)) ∧ Killed ks ρ' ∧ Rep K mg vs F' H' (wipe σ ks) ρ' A' ∧ H' D = some (.lst ws) ∧ RTs K mg F' H' acc ws Ba ∧ compR ks g mt me (ts.drop i) ρ' acc = some (accf, ρf)
  refine ⟨fun i m H' => m = ts.length - i ∧ Nv i H', ⟨ts.length, by simp, Nat.zero_le _, F1, A2, killE ks ρ1, [], [], [], (Seen.refl st1.wd.sub).step st1.wd s0', st1.trans s0', killed ks ρ1, rk0, upd_same, ⟨rfl, rfl⟩, hc⟩, ?_⟩
  rintro i m H' ⟨rfl, hi, F', A', ρ', acc, ws, Ba, ff, st, kd, rp, hd, ra, hr⟩
  by_cases hlt : i < ts.length
  · obtain ⟨t, ht⟩ : ∃ t, ts[i]? = some t := ⟨ts[i], by simp [hlt]⟩
    refine .inr ⟨wk.go i F' H' ff hlt, Nv (i + 1), fun H2 n2 => ⟨ts.length - (i + 1), by omega, rfl, n2⟩, fun x H2 hy => ?_⟩
    obtain ⟨F2, gr, rt⟩ := wk.yld i F' H' H2 x t ht ff hy
    have s2 : Step F' H' (A' ++ (D :: Ba)) F2 H2 (A' ++ (D :: Ba)) := by
      have := gr.step st.wd
      rwa [List.append_nil] at this
    have rp2 := rp.grow gr
    have hdr : ts.drop i = t :: ts.drop (i + 1) := by
      obtain ⟨h1, h2⟩ := List.getElem?_eq_some_iff.mp ht
      rw [← h2]; exact List.drop_eq_getElem_cons h1
    rw [hdr] at hr
    simp only [compR, Option.bind_eq_some_iff] at hr
    obtain ⟨ρ2, hg2, hr⟩ := hr
    refine qg x (wipe σ ks) H2 F2 ρ' ρ2 A' [] t _ (by rw [List.append_nil]; exact s2.wd.left) rp2 rt hg2 fun σ2 A3 o3 s3 rp3 => ?_
    rw [List.append_nil] at s3
    have o3' := o3.mono hix
    refine ⟨wipe_only o3', ?_⟩
    -- what is kept besides: the new list and its items
    have s3w : Step F' H' (A' ++ (D :: Ba)) F2 H2 (A3 ++ (D :: Ba)) := s2.trans (s3.wide s2.wd)
    have hd2 : H2 D = some (.lst ws) := gr.hh _ _ hd
    have ra2 := RTs.grow gr ra
    refine qt σ2 H2 F2 ρ2 A3 _ s3.wd rp3 ?_
    -- back to the invariant
    have back : ∀ {F4 : FH} {H4 : Hp} {A4 Bb : List Addr} {ρ4 : Env} {acc4 : List T} {ws4 : List V}, Seen F1 H1 F4 H4 → Step F H A F4 H4 (A4 ++ (D :: Bb)) → Rep K mg vs F4 H4 σ2 ρ4 A4 → H4 D = some (.lst ws4) → RTs K mg F4 H4 acc4 ws4 Bb → compR ks g mt me (ts.drop (i + 1)) (killE ks ρ4) acc4 = some (accf, ρf) → Nv (i + 1) H4 := fun {F4 H4 A4 Bb ρ4 acc4 ws4} ff4 st4 rp4 hd4 ra4 hr4 => by
      obtain ⟨A5, s5, rp5⟩ := Rep.kill ks st4.wd.left rp4
      refine ⟨hlt, F4, A5, killE ks ρ4, acc4, ws4, Bb, ff4, st4.trans (s5.wide st4.wd), killed ks ρ4, rp5.swap (by rw [o3.1]) fun j c hj => ?_, hd4, ra4, hr4⟩
      exact (o3'.2 j (out (killed ks ρ4) hj)).symm
    cases e1 : mt ρ2 with
    | bad => rw [e1] at hr; cases hr
    | exc c x ρ => rw [e1] at hr; cases hr
    | ok k ρ3 =>
      rw [e1] at hr
      intro F3 H3 A4 st3 rp4
      have s4w := s3w.trans (st3.wide s3w.wd)
      have keepD : ∀ b o, b ∈ D :: Ba → H2 b = some o → H3 b = some o := fun b o hb e => st3.fr b o e fun h => s3w.wd.apart h hb
      have hd3 := keepD D _ List.mem_cons_self hd2
      have ra3 : RTs K mg F3 H3 acc ws Ba := RTs.keep st3.ff (fun b hb o e => st3.fr b o e fun h => (s3w.wd.rn b hb).1 (List.mem_append_left _ h)) acc (fun b hb o e => keepD b o (List.mem_cons_of_mem _ hb) e) ra2
      cases k with
      | false =>
        rw [if_neg Bool.false_ne_true]
        exact back (ff.step st.wd s4w) (st.trans s4w) rp4 hd3 ra3 hr
      | true =>
        rw [if_pos rfl]
        simp only at hr
        refine qe σ2 H3 F3 ρ3 A4 _ st3.wd rp4 ?_
        cases e2 : me ρ3 with
        | bad => rw [e2] at hr; cases hr
        | exc c x ρ => rw [e2] at hr; cases hr
        | ok y ρ4 =>
          rw [e2] at hr
          simp only at hr
          by_cases hz : small (acc.length + 1)
          · rw [if_pos hz] at hr
            intro v F5 H5 A5 B5 st5 rp5 r5
            have keep5 : ∀ b o, b ∈ D :: Ba → H3 b = some o → H5 b = some o := fun b o hb e => st5.fr b o e fun h => s4w.wd.apart h hb
            have hd5 := keep5 D _ List.mem_cons_self hd3
            have ra5 : RTs K mg F5 H5 acc ws Ba := RTs.keep st5.ff (fun b hb o e => st5.fr b o e fun h => (s4w.wd.rn b hb).1 (List.mem_append_left _ h)) acc (fun b hb o e => keep5 b o (List.mem_cons_of_mem _ hb) e) ra3
            refine ⟨ws, hd5, by rw [← ra5.length]; have := small_le hz; omega, ?_⟩
            have s5w : Step F' H' (A' ++ (D :: Ba)) F5 H5 ((A5 ++ B5) ++ (D :: Ba)) := s4w.trans (st5.wide s4w.wd)
            have pm : ((A5 ++ B5) ++ (D :: Ba)).Perm (A5 ++ (D :: (Ba ++ B5))) := by
              rw [List.append_assoc]
              refine List.Perm.append_left A5 ?_
              exact List.perm_append_comm
            have s6 := s5w.perm (.refl _) pm
            have hDm : D ∈ A5 ++ (D :: (Ba ++ B5)) := List.mem_append_right _ List.mem_cons_self
            have sw := Step.write (o := .lst (ws ++ [v])) s6.wd hDm
            have nD : ∀ b, b ∈ A5 ∨ b ∈ Ba ++ B5 → b ≠ D := fun b hb e => by
              subst e
              rcases hb with hb | hb
              · exact s6.wd.apart hb List.mem_cons_self
              · exact (List.nodup_cons.mp s6.wd.right.nd).1 hb
            have kR : ∀ b ∈ F5.R, ∀ o, H5 b = some o → upd H5 D (.lst (ws ++ [v])) b = some o := fun b hb o e => by
              rw [upd_ne fun z => by subst z; exact (s6.wd.rn _ hb).1 hDm]; exact e
            refine back (ff.step st.wd (s6.trans sw)) (st.trans (s6.trans sw)) (rp5.keep (.refl _) kR fun b hb o e => by rw [upd_ne (nD b (.inl hb))]; exact e) upd_same ?_ hr
            refine RTs.snoc (RT.keep (.refl _) kR y (fun b hb o e => ?_) r5) (RTs.keep (.refl _) kR acc (fun b hb o e => ?_) ra5)
            · rw [upd_ne (nD b (.inr (List.mem_append_right _ hb)))]; exact e
            · rw [upd_ne (nD b (.inr (List.mem_append_left _ hb)))]; exact e
          · rw [if_neg hz] at hr; cases hr
  · have e : i = ts.length := by omega
    subst e
    rw [List.drop_length] at hr
    simp only [compR, Option.some.injEq, Prod.mk.injEq] at hr
    obtain ⟨rfl, rfl⟩ := hr
    refine .inl ⟨wk.stop _ F' H' ff (Nat.le_refl _), ?_⟩
    refine hq (.ref D) F' H' A' (D :: Ba) st (rp.swap (wipe_length _ _).symm fun j c hj => (wipe_out (out kd hj)).symm) ⟨D, ws, Ba, rfl, hd, ra, rfl⟩
theorem fe_comp (hc : X.calm = true) (hN : X.N.Nodup) (hi : FI X vs W tg iter mi) (ok : BlkOk X.N X.env.scope scope own) (hix : ∀ j ∈ ix, j ∈ own.map (·.2))
    (hg : ∀ (i : Shared × Hp × Addr × List (Str × Addr) × List Addr), FG (X.blk i.1 i.2.1 scope (compEnvC scope i.2.2.2.1 i.2.2.1 X.env) i.2.2.2.2) vs tg ix g) (ht : ∀ (i : Shared × Hp × Addr × List (Str × Addr) × List Addr), FTs (X.blk i.1 i.2.1 scope (compEnvC scope i.2.2.2.1 i.2.2.1 X.env) i.2.2.2.2) vs WF ifs mt)
    (he : ∀ (i : Shared × Hp × Addr × List (Str × Addr) × List Addr), FE (X.blk i.1 i.2.1 scope (compEnvC scope i.2.2.2.1 i.2.2.1 X.env) i.2.2.2.2) vs WF elt me) (hs : ∀ x, foldedSetIterable iter X.env x = pure x := by intro _; rfl) :
    FE X vs W (.ListComp elt [⟨tg, iter, ifs, 0⟩] scope pos) (eComp (own.map (·.2)) mi g mt me) := by
  obtain ⟨wi, pi, qi⟩ := hi
  obtain ⟨tgt, pg, qg⟩ := fg_all (Xs := fun (i : Shared × Hp × Addr × List (Str × Addr) × List Addr) => X.blk i.1 i.2.1 scope (compEnvC scope i.2.2.2.1 i.2.2.1 X.env) i.2.2.2.2) (K := X.K) (mg := X.mg) (fun _ => rfl) (fun _ => rfl) hg
  obtain ⟨tt, pt, qt⟩ := fts_all (Xs := fun (i : Shared × Hp × Addr × List (Str × Addr) × List Addr) => X.blk i.1 i.2.1 scope (compEnvC scope i.2.2.2.1 i.2.2.1 X.env) i.2.2.2.2) (K := X.K) (mg := X.mg) (fun _ => rfl) (fun _ => rfl) ht
  obtain ⟨te, pe, qe⟩ := fe_all (Xs := fun (i : Shared × Hp × Addr × List (Str × Addr) × List Addr) => X.blk i.1 i.2.1 scope (compEnvC scope i.2.2.2.1 i.2.2.1 X.env) i.2.2.2.2) (K := X.K) (mg := X.mg) (fun _ => rfl) (fun _ => rfl) he
  refine ⟨_, pe_lc hc hN pi ok (fun s H C cl fp => pg (s, H, C, cl, fp)) (fun s H C cl fp => pt (s, H, C, cl, fp)) (fun s H C cl fp => pe (s, H, C, cl, fp)) hs, fun σ H F ρ A Q w r hq => ?_⟩
  refine qi σ H F ρ A _ w r ?_
  unfold eComp M.bind at hq
  cases e1 : mi ρ with
  | bad => rw [e1] at hq; exact hq
  | exc c x ρ' => rw [e1] at hq; exact hq
  | ok ts ρ1 =>
    rw [e1] at hq
    simp only [Out.bind] at hq
    intro J F1 H1 A1 st1 rp1 wk D hD
    cases e2 : compR (own.map (·.2)) g mt me ts (killE (own.map (·.2)) ρ1) [] with
    | none => rw [e2] at hq; exact hq.elim
    | some p =>
      obtain ⟨accf, ρf⟩ := p
      rw [e2] at hq
      exact comp_rd hix qt qe qg st1 rp1 wk hD e2 hq
/-- name = [..] on one line -/
theorem fs_setC (i : Nat) {y : Str} {py spos : Pos} (hc : X.calm = true) (hN : X.N.Nodup) (hyl : X.env.scope.names.lookup y = some .local)
    (hsw : swapsWith (.ListComp elt [⟨tg, iter, ifs, 0⟩] scope pos) (some (.Name y py)) spos.line X.env = pure true) (hi : FI X vs W tg iter mi) (ok : BlkOk X.N X.env.scope scope own) (hix : ∀ j ∈ ix, j ∈ own.map (·.2))
    (hg : ∀ (i : Shared × Hp × Addr × List (Str × Addr) × List Addr), FG (X.blk i.1 i.2.1 scope (compEnvC scope i.2.2.2.1 i.2.2.1 X.env) i.2.2.2.2) vs tg ix g) (ht : ∀ (i : Shared × Hp × Addr × List (Str × Addr) × List Addr), FTs (X.blk i.1 i.2.1 scope (compEnvC scope i.2.2.2.1 i.2.2.1 X.env) i.2.2.2.2) vs WF ifs mt)
    (he : ∀ (i : Shared × Hp × Addr × List (Str × Addr) × List Addr), FE (X.blk i.1 i.2.1 scope (compEnvC scope i.2.2.2.1 i.2.2.1 X.env) i.2.2.2.2) vs WF elt me) (hy : X.N[i]? = some y := by rfl) (hs : ∀ x, foldedSetIterable iter X.env x = pure x := by intro _; rfl) :
    FS X vs W (.Assign [.Name y py] (.ListComp elt [⟨tg, iter, ifs, 0⟩] scope pos) spos) (sAsg (gSlot i) (eComp (own.map (·.2)) mi g mt me)) := by
  obtain ⟨wi, pi, qi⟩ := hi
  obtain ⟨tgt, pg, qg⟩ := fg_all (Xs := fun (i : Shared × Hp × Addr × List (Str × Addr) × List Addr) => X.blk i.1 i.2.1 scope (compEnvC scope i.2.2.2.1 i.2.2.1 X.env) i.2.2.2.2) (K := X.K) (mg := X.mg) (fun _ => rfl) (fun _ => rfl) hg
  obtain ⟨tt, pt, qt⟩ := fts_all (Xs := fun (i : Shared × Hp × Addr × List (Str × Addr) × List Addr) => X.blk i.1 i.2.1 scope (compEnvC scope i.2.2.2.1 i.2.2.1 X.env) i.2.2.2.2) (K := X.K) (mg := X.mg) (fun _ => rfl) (fun _ => rfl) ht
  obtain ⟨te, pe, qe⟩ := fe_all (Xs := fun (i : Shared × Hp × Addr × List (Str × Addr) × List Addr) => X.blk i.1 i.2.1 scope (compEnvC scope i.2.2.2.1 i.2.2.1 X.env) i.2.2.2.2) (K := X.K) (mg := X.mg) (fun _ => rfl) (fun _ => rfl) he
  refine ⟨_, ps_setLc hc hN hy hyl hsw pi ok (fun s H C cl fp => pg (s, H, C, cl, fp)) (fun s H C cl fp => pt (s, H, C, cl, fp)) (fun s H C cl fp => pe (s, H, C, cl, fp)) hs, fun D σ H F ρ A w r hq => ?_⟩
  show tLc wi tgt tt te (own.map (·.2)) σ H (fun x H1 => gName i x σ H1 D.nx)
  refine qi σ H F ρ A _ w r ?_
  have hq2 : EQ X.K X.mg vs W F H σ A (fun x H1 => gName i x σ H1 D.nx) (eComp (own.map (·.2)) mi g mt me ρ) := by
    refine sAsg_ok (σ := σ) hq fun t ρ1 ρ2 e1 e2 v F1 H1 A1 B st rp rt hk => ?_
    cases e2
    obtain ⟨A', s, r'⟩ := rp.store st.wd rt i
    exact hk _ A' s r'
  unfold eComp M.bind at hq2
  cases e1 : mi ρ with
  | bad => rw [e1] at hq2; exact hq2
  | exc c x ρ' => rw [e1] at hq2; exact hq2
  | ok ts ρ1 =>
    rw [e1] at hq2
    simp only [Out.bind] at hq2
    intro J F1 H1 A1 st1 rp1 wk L hL
    cases e2 : compR (own.map (·.2)) g mt me ts (killE (own.map (·.2)) ρ1) [] with
    | none => rw [e2] at hq2; exact hq2.elim
    | some p =>
      obtain ⟨accf, ρf⟩ := p
      rw [e2] at hq2
      exact comp_rd hix qt qe qg st1 rp1 wk hL e2 hq2
end
end FL

set_option Elab.async false
set_option linter.all false
set_option maxRecDepth 100000
namespace FL
open PySem PySem.Spec PyProof.Rows L2

/-! ### defs -/
inductive Rs where
  | ok (t : T) (outs : List (Option T))
  | exc (c : Str) (x : PyData) (outs : List (Option T))
  | bad
def ROut (K : PySem.W.Frag) (mg : Str → Option Value) (F : FH) (H : Hp) (outs : List (Option T)) (ws : List V) (B : List Addr) : Prop :=
  RSl K mg F H (outs.map fun o => o.map fun t => (t, false)) (ws.map some) B
def RQ (K : PySem.W.Frag) (mg : Str → Option Value) (F : FH) (H : Hp) (ws : List V) (A : List Addr) (Q : VK) (E : XK) : Rs → Prop
  | .ok τ outs => ∀ v F' H' B Bo, Step F H A F' H' (Bo ++ B) → RT K mg F' H' τ v B → ROut K mg F' H' outs ws Bo → Q v H'
  | .exc c x outs => ∀ cls d F' H' Bo, Step F H A F' H' Bo → ROut K mg F' H' outs ws Bo → ExcAt K mg F' H' cls d c x → E cls d H'
  | .bad => False
def spF (K : PySem.W.Frag) (mg : Str → Option Value) (n : Nat) (fn : List T → Rs) : Sp := fun ws H Q E =>
  ∃ F ts A, Wd F H A ∧ RTs K mg F H ts ws A ∧ ts.length = n ∧ RQ K mg F H ws A Q E (fn ts)
def outsE : Nat → Env → List (Option T)
  | 0, _ => []
  | n + 1, some (t, true) :: ρ => some t :: outsE n ρ
  | n + 1, _ :: ρ => none :: outsE n ρ
  | n + 1, [] => none :: outsE n []
def startE (nN : Nat) (ts : List T) : Env := ts.map (fun t => some (t, true)) ++ List.replicate (nN - ts.length) none
def runF (nN n : Nat) (m : Env → Fl) (ts : List T) : Rs := match m (startE nN ts) with
  | .rt τ ρ => .ok τ (outsE n ρ)
  | .nx ρ => .ok (.d .none) (outsE n ρ)
  | .exc c x ρ => .exc c x (outsE n ρ)
  | _ => .bad
section
variable {K : PySem.W.Frag} {mg : Str → Option Value}
theorem RSl.rep_none {F : FH} {H : Hp} : ∀ (n : Nat), RSl K mg F H (List.replicate n none) (List.replicate n none) []
  | 0 => ⟨rfl, rfl⟩
  | n + 1 => ⟨none, List.replicate n none, rfl, RSl.rep_none n⟩
theorem RSl.start {F : FH} {H : Hp} (n : Nat) : ∀ {ts : List T} {ws : List V} {A : List Addr}, RTs K mg F H ts ws A → RSl K mg F H (ts.map (fun t => some (t, true)) ++ List.replicate n none) (ws.map some ++ List.replicate n none) A
  | [], ws, A, ⟨e1, e2⟩ => by subst e1 e2; exact RSl.rep_none n
  | t :: ts, ws, A, ⟨v, r, A1, A2, e1, q1, q2, e2⟩ => by
    subst e1 e2
    exact ⟨v, r.map some ++ List.replicate n none, A1, A2, rfl, q1, RSl.start n q2, rfl⟩
theorem rep_start {F : FH} {H : Hp} {N : List Str} {ts : List T} {ws : List V} {A : List Addr} (r : RTs K mg F H ts ws A) : Rep K mg (Fx.of ws) F H (start N ws) (startE N.length ts) A := by
  refine ⟨(fun b o e => by cases e), trivial, ?_, fun i t hi => ?_⟩
  · have := RSl.start (N.length - ws.length) r
    unfold L2.start startE
    rw [r.length]; exact this
  · unfold startE at hi
    by_cases hlt : i < ts.length
    · have hw : i < ws.length := by rw [← r.length]; exact hlt
      refine ⟨ws[i], by simp [hw], ?_⟩
      unfold L2.start
      rw [List.getElem?_append_left (by simpa using hw)]
      simp [hw]
    · rw [List.getElem?_append_right (by simpa using hlt)] at hi
      rw [List.getElem?_replicate] at hi
      split at hi <;> simp at hi
theorem RSl.outs {F : FH} {H : Hp} : ∀ {ws : List V} {ρ : Env} {σ : L2.St} {A : List Addr}, RSl K mg F H ρ σ A → (∀ (i : Nat) (t : T), ρ[i]? = some (some (t, true)) → ∃ v, ws[i]? = some v ∧ σ[i]? = some (some v)) →
    ∃ A1 A2, A.Perm (A1 ++ A2) ∧ ROut K mg F H (outsE ws.length ρ) ws A1
  | [], ρ, σ, A, _, _ => ⟨[], A, .refl _, rfl, rfl⟩
  | w :: ws, [], σ, A, ⟨e1, e2⟩, h => by
    subst e1 e2
    obtain ⟨A1, A2, p, q⟩ := RSl.outs (ws := ws) (ρ := []) (σ := []) (A := []) ⟨rfl, rfl⟩ fun i t hi => by simp at hi
    exact ⟨A1, A2, p, _, _, rfl, q⟩
  | w :: ws, none :: ρ, σ, A, ⟨o, r, e, q⟩, h => by
    subst e
    obtain ⟨A1, A2, p, q'⟩ := RSl.outs (ws := ws) q fun i t hi => by simpa using h (i + 1) t (by simpa using hi)
    exact ⟨A1, A2, p, _, _, rfl, q'⟩
  | w :: ws, some (t, false) :: ρ, σ, A, ⟨v, r, B1, B2, e, q1, q2, e2⟩, h => by
    subst e e2
    obtain ⟨A1, A2, p, q'⟩ := RSl.outs (ws := ws) q2 fun i t hi => by simpa using h (i + 1) t (by simpa using hi)
    refine ⟨A1, B1 ++ A2, ?_, _, _, rfl, q'⟩
    refine (p.append_left B1).trans ?_
    rw [← List.append_assoc, ← List.append_assoc]
    exact List.perm_append_comm.append_right A2
  | w :: ws, some (t, true) :: ρ, σ, A, ⟨v, r, B1, B2, e, q1, q2, e2⟩, h => by
    subst e e2
    obtain ⟨A1, A2, p, q'⟩ := RSl.outs (ws := ws) q2 fun i t hi => by simpa using h (i + 1) t (by simpa using hi)
    obtain ⟨v', h1, h2⟩ := h 0 t rfl
    simp at h1 h2
    subst h1 h2
    refine ⟨B1 ++ A1, A2, ?_, v, ws.map some, B1, A1, rfl, q1, q', rfl⟩
    rw [List.append_assoc]; exact p.append_left B1
end

theorem outsE_len : ∀ (n : Nat) (ρ : Env), (outsE n ρ).length = n
  | 0, _ => rfl
  | n + 1, some (t, true) :: ρ => by simp [outsE, outsE_len n ρ]
  | n + 1, some (t, false) :: ρ => by simp [outsE, outsE_len n ρ]
  | n + 1, none :: ρ => by simp [outsE, outsE_len n ρ]
  | n + 1, [] => by simp [outsE, outsE_len n []]
section
variable {P : Program} {w : World} {K : PySem.W.Frag} {mg : Str → Option Value} {base : Heap}
theorem takes_def {N : List Str} {qual : Str} {sc : Scope} {f : Addr} {cdv : Value} {A : Around} {outer : List PySem.Env} {s : Shared} {H : Hp} {E : XK} :
    Takes (cxOf (L2.CX P w) P w K mg base N qual sc f cdv A outer s H E) (fun c d _ H => E c d H) := takes_of rfl rfl rfl rfl
theorem passes_def {N : List Str} {qual : Str} {sc : Scope} {f : Addr} {cdv : Value} {A : Around} {outer : List PySem.Env} {s : Shared} {H : Hp} {E : XK} :
    PassesOwn (model P w) (cxOf (L2.CX P w) P w K mg base N qual sc f cdv A outer s H E).A (cxOf (L2.CX P w) P w K mg base N qual sc f cdv A outer s H E).env (cxOf (L2.CX P w) P w K mg base N qual sc f cdv A outer s H E).xe := passes_of rfl
/-- THE RULE for a def -/
theorem fn_ok {x qual : Str} {st : Stmt} {f : Addr} {fd : FuncData} {N ps : List Str} {k : Nat} {m : Env → Fl} (F : Fun K x qual st f fd) (S : FnScope N ps (defScope st))
    (hbody : ∀ (cdv : Value) (A : Around) (outer : List PySem.Env) (s : Shared) (H : Hp) (ws : List V) (E : XK), Room k (A.deeper (envOfC qual (defScope st) s.heap.objs.size f cdv)) →
      FB (cxOf (L2.CX P w) P w K mg base N qual (defScope st) f cdv A outer s H E) (Fx.of ws) (fun c d _ H => E c d H) (defBody st) m) :
    FnOk P w K mg base (L2.CX P w) (k + 1) f fd ps (spF K mg ps.length (runF N.length ps.length m)) := by
  refine F.okX S (fun vs H Q E ⟨F', ts, A, wd, rt, hl, _⟩ => by rw [← rt.length]; exact hl) (fun cdv A outer s H vs Q E hr ⟨F', ts, A', wd, rt, hl, hq⟩ => ?_)
  obtain ⟨t, p, q⟩ := hbody cdv A outer s H vs E hr
  refine ⟨t, p, q _ (L2.start N vs) H F' (startE N.length ts) A' wd (rep_start rt) ?_⟩
  have hvl : vs.length = ps.length := by rw [← rt.length]; exact hl
  have ro : ∀ {F1 : FH} {H1 : Hp} {σ : L2.St} {ρ : Env} {A1 : List Addr}, Rep K mg (Fx.of vs) F1 H1 σ ρ A1 → ∃ A2 A3, A1.Perm (A2 ++ A3) ∧ ROut K mg F1 H1 (outsE ps.length ρ) vs A2 := fun {F1 H1 σ ρ A1} rp => by
    rw [← hvl]; exact RSl.outs rp.sl rp.io
  unfold runF at hq
  cases e : m (startE N.length ts) with
  | nx ρ =>
    rw [e] at hq
    intro σ' F1 H1 A1 st rp
    obtain ⟨A2, A3, pm, r2⟩ := ro rp
    exact hq .non F1 H1 [] A2 (by rw [List.append_nil]; exact (st.perm (.refl _) pm).less) ⟨.non, rfl⟩ r2
  | rt τ ρ =>
    rw [e] at hq
    intro v σ' F1 H1 A1 B st rp rtv
    obtain ⟨A2, A3, pm, r2⟩ := ro rp
    refine hq v F1 H1 B A2 ?_ rtv r2
    have : (A1 ++ B).Perm ((A2 ++ B) ++ A3) := by
      refine (pm.append_right B).trans ?_
      rw [List.append_assoc, List.append_assoc]
      exact List.perm_append_comm.append_left A2
    exact (st.perm (.refl _) this).less
  | exc c x ρ =>
    rw [e] at hq
    intro cls d σ' F1 H1 A1 st rp ex
    obtain ⟨A2, A3, pm, r2⟩ := ro rp
    exact hq cls d F1 H1 A2 (st.perm (.refl _) pm).less r2 ex
  | bk ρ => rw [e] at hq; exact hq.elim
  | ct ρ => rw [e] at hq; exact hq.elim
  | bad => rw [e] at hq; exact hq.elim
end

/-! ### a call of a def: arguments that are handed over, slots that are lent -/
def takeAll : List Opd → Env → Option (List T × Env)
  | [], ρ => some ([], ρ)
  | .inl t :: os, ρ => (takeAll os ρ).map fun p => (t :: p.1, p.2)
  | .inr i :: os, ρ => match ρ[i]? with
    | some (some (t, _)) => (takeAll os (ρ.set i none)).map fun p => (t :: p.1, p.2)
    | _ => none
def flag (ρ : Env) (i : Nat) : Bool := match ρ[i]? with
  | some (some (_, b)) => b
  | _ => false
def putAll (ρ0 : Env) : List Opd → List (Option T) → Env → Env
  | .inr i :: os, some t :: us, ρ => putAll ρ0 os us (ρ.set i (some (t, flag ρ0 i)))
  | _ :: os, _ :: us, ρ => putAll ρ0 os us ρ
  | _, _, ρ => ρ
def eFun (fn : List T → Rs) (mos : M (List Opd)) : M T := mos.bind fun os => fun ρ => match takeAll os ρ with
  | none => .bad
  | some (ts, ρ1) => match fn ts with
    | .ok τ outs => .ok τ (putAll ρ os outs ρ1)
    | .exc c x outs => .exc c x (putAll ρ os outs ρ1)
    | .bad => .bad
section
variable {K : PySem.W.Frag} {mg : Str → Option Value}
theorem take_ok {F : FH} {H : Hp} {σ : L2.St} : ∀ {os : List Opd} {ws : List V} {A B : List Addr} {ρ ρ1 : Env} {ts : List T}, ORs K mg F H σ os ws B → RSl K mg F H ρ σ A → takeAll os ρ = some (ts, ρ1) →
    ∃ At Ar, (A ++ B).Perm (At ++ Ar) ∧ RTs K mg F H ts ws At ∧ RSl K mg F H ρ1 σ Ar
  | [], ws, A, B, ρ, ρ1, ts, ⟨e1, e2⟩, r, h => by
    subst e1 e2
    simp only [takeAll, Option.some.injEq, Prod.mk.injEq] at h
    obtain ⟨rfl, rfl⟩ := h
    exact ⟨[], A, by simp, ⟨rfl, rfl⟩, r⟩
  | .inl t :: os, ws, A, B, ρ, ρ1, ts, ⟨v, s, B1, B2, e1, q1, q2, e2⟩, r, h => by
    subst e1 e2
    simp only [takeAll, Option.map_eq_some_iff] at h
    obtain ⟨⟨us, ρ2⟩, h, e⟩ := h
    simp only [Prod.mk.injEq] at e
    obtain ⟨rfl, rfl⟩ := e
    obtain ⟨At, Ar, p, r1, r2⟩ := take_ok q2 r h
    refine ⟨B1 ++ At, Ar, ?_, ⟨v, s, B1, At, rfl, q1, r1, rfl⟩, r2⟩
    rw [List.append_assoc]
    refine List.Perm.trans ?_ (p.append_left B1)
    rw [← List.append_assoc, ← List.append_assoc]
    exact List.perm_append_comm.append_right B2
  | .inr i :: os, ws, A, B, ρ, ρ1, ts, ⟨v, s, B1, B2, e1, q1, q2, e2⟩, r, h => by
    subst e1 e2
    simp only [takeAll] at h
    split at h
    · rename_i t b hs
      simp only [Option.map_eq_some_iff] at h
      obtain ⟨⟨us, ρ2⟩, h, e⟩ := h
      simp only [Prod.mk.injEq] at e
      obtain ⟨rfl, rfl⟩ := e
      obtain ⟨w, A1, A2, h1, h2, h3, h4⟩ := r.take hs
      obtain ⟨q1a, q1b⟩ := q1
      rw [h1] at q1a; cases q1a
      subst q1b
      obtain ⟨At, Ar, p, r1, r2⟩ := take_ok q2 h4 h
      refine ⟨A1 ++ At, Ar, ?_, ⟨v, s, A1, At, rfl, h2, r1, rfl⟩, r2⟩
      rw [List.append_assoc]
      refine List.Perm.trans ?_ (p.append_left A1)
      rw [List.nil_append, ← List.append_assoc]
      exact h3.append_right B2
    · cases h
/-- a slot whose value is v is filled with t -/
theorem fill_ok {F : FH} {H : Hp} {σ : L2.St} {ρ : Env} {A B : List Addr} {t : T} {v : V} (b : Bool) (i : Nat) (w : Wd F H (A ++ B)) (r : RSl K mg F H ρ σ A) (rt : RT K mg F H t v B) (hv : σ[i]? = some (some v)) :
    ∃ A', Step F H (A ++ B) F H A' ∧ RSl K mg F H (ρ.set i (some (t, b))) σ A' := by
  obtain ⟨A1, A2, p, h⟩ := r.drop i
  have hi : i < ρ.length := by rw [r.len]; exact (List.getElem?_eq_some_iff.mp hv).1
  obtain ⟨A', p', h'⟩ := h.back b rt (show (ρ.set i none)[i]? = some none by simp [hi]) hv
  rw [List.set_set] at h'
  have q : (A ++ B).Perm (A1 ++ A') := (p.append_right B).trans (by rw [List.append_assoc]; exact p'.symm.append_left A1)
  exact ⟨A', ((Step.refl w).perm (.refl _) q).lessL, h'⟩
theorem put_ok {F : FH} {H : Hp} {σ : L2.St} {ρ0 : Env} : ∀ {os : List Opd} {ws : List V} {outs : List (Option T)} {A B : List Addr} {ρ : Env}, (∀ (i : Nat) (n : Nat), os[n]? = some (.inr i) → ∃ v, ws[n]? = some v ∧ σ[i]? = some (some v)) → Wd F H (A ++ B) → RSl K mg F H ρ σ A → ROut K mg F H outs ws B →
    ∃ A', Step F H (A ++ B) F H A' ∧ RSl K mg F H (putAll ρ0 os outs ρ) σ A'
  | [], ws, outs, A, B, ρ, _, w, r, _ => ⟨A, (Step.refl w).less, by unfold putAll; exact r⟩
  | o :: os, ws, [], A, B, ρ, _, w, r, _ => ⟨A, (Step.refl w).less, by cases o <;> exact r⟩
  | .inl t :: os, ws, none :: us, A, B, ρ, h, w, r, ⟨o, s, e, q⟩ => by
    cases ws with
    | nil => cases e
    | cons v ws =>
      cases e
      exact put_ok (os := os) (ws := ws) (fun i n hn => by simpa using h i (n + 1) (by simpa using hn)) w r q
  | .inl t :: os, ws, some u :: us, A, B, ρ, h, w, r, ⟨v, s, B1, B2, e, q1, q2, e2⟩ => by
    cases ws with
    | nil => cases e
    | cons v ws =>
      cases e
      subst e2
      have w' := w.perm (B := (A ++ B2) ++ B1) (by rw [List.append_assoc]; exact List.perm_append_comm.append_left A)
      obtain ⟨A', st, r'⟩ := put_ok (os := os) (ws := ws) (fun i n hn => by simpa using h i (n + 1) (by simpa using hn)) w'.left r q2
      exact ⟨A', (((Step.refl w).perm (.refl _) (by rw [List.append_assoc]; exact List.perm_append_comm.append_left A : (A ++ (B1 ++ B2)).Perm ((A ++ B2) ++ B1))).less).trans st, r'⟩
  | .inr i :: os, ws, none :: us, A, B, ρ, h, w, r, ⟨o, s, e, q⟩ => by
    cases ws with
    | nil => cases e
    | cons v ws =>
      cases e
      exact put_ok (os := os) (ws := ws) (fun i n hn => by simpa using h i (n + 1) (by simpa using hn)) w r q
  | .inr i :: os, ws, some u :: us, A, B, ρ, h, w, r, ⟨v, s, B1, B2, e, q1, q2, e2⟩ => by
    cases ws with
    | nil => cases e
    | cons v ws =>
      cases e
      subst e2
      obtain ⟨v', h1, h2⟩ := h i 0 rfl
      simp at h1
      subst h1
      rw [← List.append_assoc] at w
      obtain ⟨A1, st1, r1⟩ := fill_ok (flag ρ0 i) i w.left r q1 h2
      obtain ⟨A', st, r'⟩ := put_ok (os := os) (ws := ws) (fun i n hn => by simpa using h i (n + 1) (by simpa using hn)) (st1.wide w).wd r1 q2
      exact ⟨A', by rw [← List.append_assoc]; exact (st1.wide w).trans st, r'⟩
theorem putAll_flag {ρ0 : Env} : ∀ {os : List Opd} {outs : List (Option T)} {ρ : Env}, (∀ (i : Nat) (t : T), ρ[i]? = some (some (t, true)) → ∃ u, ρ0[i]? = some (some (u, true))) →
    ∀ (i : Nat) (t : T), (putAll ρ0 os outs ρ)[i]? = some (some (t, true)) → ∃ u, ρ0[i]? = some (some (u, true))
  | [], outs, ρ, h => by unfold putAll; exact h
  | o :: os, [], ρ, h => by cases o <;> exact h
  | .inl t :: os, none :: us, ρ, h => putAll_flag (os := os) h
  | .inl t :: os, some u :: us, ρ, h => putAll_flag (os := os) h
  | .inr i :: os, none :: us, ρ, h => putAll_flag (os := os) h
  | .inr i :: os, some u :: us, ρ, h => putAll_flag (os := os) fun j t hj => by
    by_cases hij : i = j
    · subst hij
      rw [List.getElem?_set] at hj
      split at hj
      · split at hj
        · simp only [Option.some.injEq, Prod.mk.injEq] at hj
          obtain ⟨_, hf⟩ := hj
          unfold flag at hf
          split at hf
          · rename_i t' b e; subst hf; exact ⟨_, e⟩
          · cases hf
        · cases hj
      · exact absurd rfl ‹_›
    · rw [List.getElem?_set_ne hij] at hj
      exact h j t hj
theorem takeAll_flag : ∀ {os : List Opd} {ρ ρ1 : Env} {ts : List T}, takeAll os ρ = some (ts, ρ1) → ∀ (i : Nat) (t : T), ρ1[i]? = some (some (t, true)) → ∃ u, ρ[i]? = some (some (u, true))
  | [], ρ, ρ1, ts, h, i, t, hi => by simp [takeAll] at h; obtain ⟨_, rfl⟩ := h; exact ⟨t, hi⟩
  | .inl u :: os, ρ, ρ1, ts, h, i, t, hi => by
    simp only [takeAll, Option.map_eq_some_iff] at h
    obtain ⟨⟨us, ρ2⟩, h, e⟩ := h
    simp only [Prod.mk.injEq] at e
    obtain ⟨_, rfl⟩ := e
    exact takeAll_flag h i t hi
  | .inr j :: os, ρ, ρ1, ts, h, i, t, hi => by
    simp only [takeAll] at h
    split at h
    · simp only [Option.map_eq_some_iff] at h
      obtain ⟨⟨us, ρ2⟩, h, e⟩ := h
      simp only [Prod.mk.injEq] at e
      obtain ⟨_, rfl⟩ := e
      obtain ⟨u, hu⟩ := takeAll_flag h i t hi
      by_cases hij : j = i
      · subst hij
        rw [List.getElem?_set] at hu
        split at hu
        · split at hu <;> simp at hu
        · exact absurd rfl ‹_›
      · rw [List.getElem?_set_ne hij] at hu
        exact ⟨u, hu⟩
    · cases h
theorem ORs.slots {F : FH} {H : Hp} {σ : L2.St} : ∀ {os : List Opd} {ws : List V} {B : List Addr}, ORs K mg F H σ os ws B → ∀ (i n : Nat), os[n]? = some (.inr i) → ∃ v, ws[n]? = some v ∧ σ[i]? = some (some v)
  | [], ws, B, _, i, n, h => by simp at h
  | o :: os, ws, B, ⟨v, s, B1, B2, e1, q1, q2, e2⟩, i, 0, h => by
    simp at h
    subst h e1
    exact ⟨v, rfl, q1.1⟩
  | o :: os, ws, B, ⟨v, s, B1, B2, e1, q1, q2, e2⟩, i, n + 1, h => by
    subst e1
    obtain ⟨w, h1, h2⟩ := ORs.slots q2 i n (by simpa using h)
    exact ⟨w, by simpa using h1, h2⟩
end
section
variable {X : Cx} {vs : Fx} {W : WX} {e a b : Expr} {es : List Expr} {mos : M (List Opd)} {pos : Pos}
/-- the reading of a call -/
theorem fun_rd {K : PySem.W.Frag} {mg : Str → Option Value} {n : Nat} {fn : List T → Rs} {σ : L2.St} {F : FH} {H : Hp} {F1 : FH} {H1 : Hp} {A A1 B1 : List Addr} {ρ1 : Env} {os : List Opd} {ws : List V} {Q : VK} (hn : ∀ ts ρ', takeAll os ρ1 = some (ts, ρ') → ts.length = n)
    (st1 : Step F H A F1 H1 (A1 ++ B1)) (rp1 : Rep K mg vs F1 H1 σ ρ1 A1) (r1 : ORs K mg F1 H1 σ os ws B1)
    (hq : EQ K mg vs W F H σ A Q (match takeAll os ρ1 with
      | none => .bad
      | some (ts, ρ2) => match fn ts with
        | .ok τ outs => .ok τ (putAll ρ1 os outs ρ2)
        | .exc c x outs => .exc c x (putAll ρ1 os outs ρ2)
        | .bad => .bad)) : spF K mg n fn ws H1 Q (fun c d H' => W c d σ H') := by
  cases ht : takeAll os ρ1 with
  | none => rw [ht] at hq; exact hq.elim
  | some p =>
    obtain ⟨ts, ρ2⟩ := p
    rw [ht] at hq
    simp only at hq
    obtain ⟨At, Ar, pm, r2, r3⟩ := take_ok r1 rp1.sl ht
    have w2 := st1.wd.perm pm
    refine ⟨F1, ts, At, w2.left, r2, hn ts ρ2 ht, ?_⟩
    have io : ∀ {outs : List (Option T)} (i : Nat) (t : T), (putAll ρ1 os outs ρ2)[i]? = some (some (t, true)) → ∃ v, vs.ws[i]? = some v ∧ σ[i]? = some (some v) := fun {outs} i t hi => by
      obtain ⟨u, hu⟩ := putAll_flag (takeAll_flag ht) i t hi
      exact rp1.io i u hu
    have fin : ∀ {F' : FH} {H' : Hp} {Bo B : List Addr} {outs : List (Option T)}, Step F1 H1 At F' H' (Bo ++ B) → ROut K mg F' H' outs ws Bo → ∃ A', Step F H A F' H' (A' ++ B) ∧ Rep K mg vs F' H' σ (putAll ρ1 os outs ρ2) A' := fun {F' H' Bo B outs} st ro => by
      have sw := st.wide w2
      have r4 : RSl K mg F' H' ρ2 σ Ar := r3.keep sw.ff (fun b hb o e => st.fr b o e fun h => (w2.rn b hb).1 (List.mem_append_left _ h)) fun b hb o e => st.fr b o e fun h => w2.apart h hb
      have pm2 : ((Bo ++ B) ++ Ar).Perm ((Ar ++ Bo) ++ B) := by
        refine List.perm_append_comm.trans ?_
        rw [List.append_assoc]
      have sw2 := sw.perm (.refl _) pm2
      obtain ⟨A', s5, r5⟩ := put_ok (ρ0 := ρ1) r1.slots sw2.wd.left r4 ro
      exact ⟨A', (st1.trans (sw2.perm pm.symm (.refl _))).trans (s5.wide sw2.wd), rp1.fx.trans st.ff.ff, rp1.st, r5, io⟩
    cases hf : fn ts with
    | bad => rw [hf] at hq; exact hq
    | ok τ outs =>
      rw [hf] at hq
      intro v F' H' B Bo st rt ro
      obtain ⟨A', s6, r6⟩ := fin st ro
      exact hq v F' H' A' B s6 r6 rt
    | exc c x outs =>
      rw [hf] at hq
      intro cls d F' H' Bo st ro ex
      obtain ⟨A', s6, r6⟩ := fin (B := []) (by rw [List.append_nil]; exact st) ro
      rw [List.append_nil] at s6
      exact hq cls d F' H' A' s6 r6 ex
def lenIs (n : Nat) (mos : M (List Opd)) : M (List Opd) := mos.bind fun os => if os.length = n then .pure os else fun _ => .bad
theorem takeAll_len : ∀ {os : List Opd} {ρ ρ1 : Env} {ts : List T}, takeAll os ρ = some (ts, ρ1) → ts.length = os.length
  | [], ρ, ρ1, ts, h => by simp [takeAll] at h; obtain ⟨rfl, _⟩ := h; rfl
  | .inl u :: os, ρ, ρ1, ts, h => by
    simp only [takeAll, Option.map_eq_some_iff] at h
    obtain ⟨⟨us, ρ2⟩, h, e⟩ := h
    simp only [Prod.mk.injEq] at e
    obtain ⟨rfl, _⟩ := e
    simp [takeAll_len h]
  | .inr j :: os, ρ, ρ1, ts, h => by
    simp only [takeAll] at h
    split at h
    · simp only [Option.map_eq_some_iff] at h
      obtain ⟨⟨us, ρ2⟩, h, e⟩ := h
      simp only [Prod.mk.injEq] at e
      obtain ⟨rfl, _⟩ := e
      simp [takeAll_len h]
    · cases h
theorem ORs.length {K : PySem.W.Frag} {mg : Str → Option Value} {F : FH} {H : Hp} {σ : L2.St} : ∀ {os : List Opd} {ws : List V} {B : List Addr}, ORs K mg F H σ os ws B → os.length = ws.length
  | [], ws, B, ⟨e, _⟩ => by subst e; rfl
  | o :: os, ws, B, ⟨v, s, B1, B2, e1, q1, q2, e2⟩ => by subst e1; simp [ORs.length q2]
/-- what a call of the def at f gives, in the context X -/
def CallOk (X : Cx) (W : WX) (f : Addr) (sp : Sp) : Prop := ∀ (pins : List (Addr × Obj)) (σ : L2.St) (H : Hp) (s : Shared) (Q : VK) (us : List Value) (ws : List V), Inv X pins σ H s → Vals ws us → sp ws H Q (fun c d H' => W c d σ H') →
  wpAny (model X.prog X.w) X.A (call (.ref f) us) (EP X pins σ Q) X.xe s
theorem callOk_of {k : Nat} {f : Addr} {fd : FuncData} {ps : List Str} {sp : Sp} (tk : Takes X W) (G : FnOk X.prog X.w X.K X.mg X.base (L2.CX X.prog X.w) k f fd ps sp) (hr : Room k X.A) (hb : Binds X.K fd ps []) : CallOk X W f sp :=
  fun pins σ H s Q us ws I r h => run_fnS (E := fun σ c d H => W c d σ H) G hr hb (passAt tk σ) I r h
/-- f(a, ..) of a def -/
theorem fe_fun {x : Str} {p : Pos} {n : Nat} {f : Addr} {fn : List T → Rs} (G : CallOk X W f (spF X.K X.mg n fn)) (hm : X.mg x = some (.ref f)) (hk : PySem.W.keepIn X.K (.ref f) = true)
    (ha : FOs X vs W (e :: es) mos) (hn : ∀ ρ os ρ', mos ρ = .ok os ρ' → os.length = n) (hg : Gl X x := by rfl) (hdb : (x == ("__debug__" : Str)) = false := by decide) (he : starEach (e :: es) X.env = (false, eval e X.env) :: starEach es X.env := by rfl) (hpl : (backTo pos (starEach es X.env)).any (·.1) = false := by rfl) :
    FE X vs W (.Call (.Name x p) (e :: es) [] pos) (eFun fn mos) := by
  obtain ⟨ta, pa, qa⟩ := ha
  refine ⟨fun σ H Q => ta σ H fun ws H1 => spF X.K X.mg n fn ws H1 Q (fun c d H' => W c d σ H'), ⟨fun pins s σ H Q I h => ?_⟩, fun σ H F ρ A Q w rp hq => ?_⟩
  · refine wpAny_Call_Name_kw (ld_glob I hg hm (PySem.W.callWith_K (h₀ := X.base) I.ok.mod.kin hk (thn (pa.run pos pins s σ H _ I h) fun us s1 hu => ?_) he hpl) hdb)
    obtain ⟨ws, H1, I1, r1, q1⟩ := hu
    exact ⟨I1.kIn, G pins σ H1 s1 Q us ws I1 r1 q1⟩
  · refine qa σ H F ρ A _ w rp ?_
    unfold eFun M.bind at hq
    cases e1 : mos ρ with
    | bad => rw [e1] at hq; exact hq
    | exc c x ρ' => rw [e1] at hq; exact hq
    | ok os ρ1 =>
      rw [e1] at hq
      simp only [Out.bind] at hq
      intro ws F1 H1 A1 B1 st1 rp1 r1
      exact fun_rd (fun ts ρ' ht => by rw [takeAll_len ht]; exact hn ρ os ρ1 e1) st1 rp1 r1 hq
/-- how many -/
theorem osNil_len (ρ : Env) (os : List Opd) (ρ' : Env) (h : osNil ρ = .ok os ρ') : os.length = 0 := by cases h; rfl
theorem osCons_len {n : Nat} {m : M Opd} {ms : M (List Opd)} (h : ∀ ρ os ρ', ms ρ = .ok os ρ' → os.length = n) (ρ : Env) (os : List Opd) (ρ' : Env) (hq : osCons m ms ρ = .ok os ρ') : os.length = n + 1 := by
  unfold osCons M.bind at hq
  cases e1 : m ρ with
  | bad => rw [e1] at hq; cases hq
  | exc c x ρ1 => rw [e1] at hq; cases hq
  | ok o ρ1 =>
    rw [e1] at hq
    simp only [Out.bind] at hq
    cases e2 : ms ρ1 with
    | bad => rw [e2] at hq; cases hq
    | exc c x ρ1 => rw [e2] at hq; cases hq
    | ok os' ρ2 =>
      rw [e2] at hq
      cases hq
      simp [h _ _ _ e2]
end
end FL

set_option Elab.async false
set_option linter.all false
set_option maxRecDepth 100000
namespace FL
open PySem PySem.Spec PyProof.Rows L2

/-! ### views -/
def lstOf0 : T → Option (List T)
  | .ol ts => some ts
  | .d (.list ds) => some (ds.map T.d)
  | _ => none
def tupOf0 : T → Option (List T)
  | .tp ts => some ts
  | .d (.tuple ds) => some (ds.map T.d)
  | _ => none
def lstOf : T → Option (List T)
  | .bw t => (lstOf0 (unB t)).map fun ts => ts.map bor
  | t => lstOf0 t
def tupOf : T → Option (List T)
  | .bw t => (tupOf0 (unB t)).map fun ts => ts.map bor
  | t => tupOf0 t
section
variable {K : PySem.W.Frag} {mg : Str → Option Value} {F : FH} {H : Hp}
theorem lst_rt0 {t : T} {v : V} {B : List Addr} {ts : List T} (h : Same F H) (r : RT K mg F H t v B) (e : lstOf0 t = some ts) : ∃ a ws B', v = .ref a ∧ H a = some (.lst ws) ∧ RTs K mg F H ts ws B' ∧ ∀ b ∈ B', b ∈ B := by
  cases t with
  | ol us => cases e; obtain ⟨a, ws, A', e1, e2, q, e3⟩ := r; exact ⟨a, ws, A', e1, e2, q, fun b hb => by rw [e3]; exact List.mem_cons_of_mem _ hb⟩
  | d x =>
    obtain ⟨q, _⟩ := r
    cases x with
    | list ds => cases e; cases q with | lst s a => exact ⟨_, _, [], rfl, h _ _ s, dpa_rts a, fun b hb => by cases hb⟩
    | _ => cases e
  | _ => cases e
theorem lst_rt {t : T} {v : V} {B : List Addr} {ts : List T} (h : Same F H) (r : RT K mg F H t v B) (e : lstOf t = some ts) : ∃ a ws B', v = .ref a ∧ H a = some (.lst ws) ∧ RTs K mg F H ts ws B' := by
  cases t with
  | bw t =>
    obtain ⟨rfl, B0, hB, r⟩ := r
    obtain ⟨B', hB', r'⟩ := unB_bw t hB r
    simp only [lstOf, Option.map_eq_some_iff] at e
    obtain ⟨us, e, rfl⟩ := e
    obtain ⟨a, ws, B2, e1, e2, q, sb⟩ := lst_rt0 h r' e
    exact ⟨a, ws, [], e1, e2, bors_rt (fun b hb => hB' b (sb b hb)) q⟩
  | d x => obtain ⟨a, ws, B', e1, e2, q, _⟩ := lst_rt0 h r e; exact ⟨a, ws, B', e1, e2, q⟩
  | ol x => obtain ⟨a, ws, B', e1, e2, q, _⟩ := lst_rt0 h r e; exact ⟨a, ws, B', e1, e2, q⟩
  | tp x => obtain ⟨a, ws, B', e1, e2, q, _⟩ := lst_rt0 h r e; exact ⟨a, ws, B', e1, e2, q⟩
  | od x => obtain ⟨a, ws, B', e1, e2, q, _⟩ := lst_rt0 h r e; exact ⟨a, ws, B', e1, e2, q⟩
  | ob c x => obtain ⟨a, ws, B', e1, e2, q, _⟩ := lst_rt0 h r e; exact ⟨a, ws, B', e1, e2, q⟩
  | oi c x => obtain ⟨a, ws, B', e1, e2, q, _⟩ := lst_rt0 h r e; exact ⟨a, ws, B', e1, e2, q⟩
  | scr x => obtain ⟨a, ws, B', e1, e2, q, _⟩ := lst_rt0 h r e; exact ⟨a, ws, B', e1, e2, q⟩
theorem tup_rt0 {t : T} {v : V} {B : List Addr} {ts : List T} (h : Same F H) (r : RT K mg F H t v B) (e : tupOf0 t = some ts) : ∃ a ws B', v = .ref a ∧ SqT K H a ws ∧ RTs K mg F H ts ws B' ∧ ∀ b ∈ B', b ∈ B := by
  cases t with
  | tp us => cases e; obtain ⟨a, ws, e1, e2, q⟩ := r; exact ⟨a, ws, B, e1, same_sqT h e2, q, fun b hb => hb⟩
  | d x =>
    obtain ⟨q, _⟩ := r
    cases x with
    | tuple ds => cases e; cases q with | tup s a => exact ⟨_, _, [], rfl, same_sqT h s, dpa_rts a, fun b hb => by cases hb⟩
    | _ => cases e
  | _ => cases e
theorem tup_rt {t : T} {v : V} {B : List Addr} {ts : List T} (h : Same F H) (r : RT K mg F H t v B) (e : tupOf t = some ts) : ∃ a ws B', v = .ref a ∧ SqT K H a ws ∧ RTs K mg F H ts ws B' := by
  cases t with
  | bw t =>
    obtain ⟨rfl, B0, hB, r⟩ := r
    obtain ⟨B', hB', r'⟩ := unB_bw t hB r
    simp only [tupOf, Option.map_eq_some_iff] at e
    obtain ⟨us, e, rfl⟩ := e
    obtain ⟨a, ws, B2, e1, e2, q, sb⟩ := tup_rt0 h r' e
    exact ⟨a, ws, [], e1, e2, bors_rt (fun b hb => hB' b (sb b hb)) q⟩
  | d x => obtain ⟨a, ws, B', e1, e2, q, _⟩ := tup_rt0 h r e; exact ⟨a, ws, B', e1, e2, q⟩
  | ol x => obtain ⟨a, ws, B', e1, e2, q, _⟩ := tup_rt0 h r e; exact ⟨a, ws, B', e1, e2, q⟩
  | tp x => obtain ⟨a, ws, B', e1, e2, q, _⟩ := tup_rt0 h r e; exact ⟨a, ws, B', e1, e2, q⟩
  | od x => obtain ⟨a, ws, B', e1, e2, q, _⟩ := tup_rt0 h r e; exact ⟨a, ws, B', e1, e2, q⟩
  | ob c x => obtain ⟨a, ws, B', e1, e2, q, _⟩ := tup_rt0 h r e; exact ⟨a, ws, B', e1, e2, q⟩
  | oi c x => obtain ⟨a, ws, B', e1, e2, q, _⟩ := tup_rt0 h r e; exact ⟨a, ws, B', e1, e2, q⟩
  | scr x => obtain ⟨a, ws, B', e1, e2, q, _⟩ := tup_rt0 h r e; exact ⟨a, ws, B', e1, e2, q⟩
theorem RTs.app : ∀ {ts us : List T} {ws zs : List V} {B C : List Addr}, RTs K mg F H ts ws B → RTs K mg F H us zs C → RTs K mg F H (ts ++ us) (ws ++ zs) (B ++ C)
  | [], us, ws, zs, B, C, ⟨e1, e2⟩, q => by subst e1 e2; exact q
  | t :: ts, us, ws, zs, B, C, ⟨v, r, B1, B2, e1, q1, q2, e2⟩, q => by
    subst e1 e2
    exact ⟨v, r ++ zs, B1, B2 ++ C, rfl, q1, RTs.app q2 q, by simp⟩
theorem rt_str {x : Str} {v : V} {B : List Addr} (r : RT K mg F H (.d (.str x)) v B) : v = .str x ∧ B = [] := by
  obtain ⟨q, e⟩ := r
  cases q
  exact ⟨rfl, e⟩
theorem rt_bool {b : Bool} {v : V} {B : List Addr} (r : RT K mg F H (.d (.bool b)) v B) : v = .bl b ∧ B = [] := by
  obtain ⟨q, e⟩ := r
  cases q
  exact ⟨rfl, e⟩
/-- a plain value that is handed back -/
theorem give {τ : T} {v : V} {Q : VK} (h : Same F H) (k : ∀ v F' H' B, Grow F H F' H' B → RT K mg F' H' τ v B → Q v H') (r : RT K mg F H τ v []) : Q v H := k v F H [] (.refl h) r
theorem giveI {i : Int} {Q : VK} (h : Same F H) (k : ∀ v F' H' B, Grow F H F' H' B → RT K mg F' H' (.d (.int i)) v B → Q v H') : Q (.int i) H := give h k ⟨.int _, rfl⟩
theorem giveB {i : Bool} {Q : VK} (h : Same F H) (k : ∀ v F' H' B, Grow F H F' H' B → RT K mg F' H' (.d (.bool i)) v B → Q v H') : Q (.bl i) H := give h k ⟨.bl _, rfl⟩
theorem giveS {i : Str} {Q : VK} (h : Same F H) (k : ∀ v F' H' B, Grow F H F' H' B → RT K mg F' H' (.d (.str i)) v B → Q v H') : Q (.str i) H := give h k ⟨.str _, rfl⟩
/-- a new list of standing things -/
theorem giveL {ts : List T} {ws : List V} {B : List Addr} {Q : VK} (h : Same F H) (k : ∀ v F' H' B, Grow F H F' H' B → RT K mg F' H' (.ol ts) v B → Q v H') (r : RTs K mg F H ts ws B) (e : ts.all isStat = true) (p : Addr) (n : H p = none) : Q (.ref p) (upd H p (.lst ws)) :=
  k (.ref p) F _ [p] (Grow.own h n) (ol_rt (stats_rt r e) n h)
/-- a new tuple of data -/
theorem giveT {ds : List PyData} {ws : List V} {B : List Addr} {Q : VK} (h : Same F H) (k : ∀ v F' H' B, Grow F H F' H' B → RT K mg F' H' (.d (.tuple ds)) v B → Q v H') (r : RTs K mg F H (ds.map T.d) ws B) (p : Addr) (n : H p = none) : Q (.ref p) (upd H p (.tup ws)) := by
  have g := Grow.frz (o := .tup ws) h n
  have hd : ∀ ds : List PyData, dats (ds.map T.d) = some ds := fun ds => by
    induction ds with
    | nil => rfl
    | cons d ds ih => simp only [List.map_cons, dats, dOf, Option.bind_some, ih, Option.map_some]
  obtain ⟨k1, _⟩ := dats_rt (RTs.grow g r) (hd ds)
  exact k (.ref p) _ _ [] g ⟨.tup (.of upd_same) k1, rfl⟩

/-! ### operators -/
theorem OpF.or {r r' : R2} {f : T → T → Option T} (h : OpF K mg r f) : OpF K mg (fun x y H Q => r x y H Q ∨ r' x y H Q) f := fun F H x y t u τ A1 A2 Q s r1 r2 e k => .inl (h F H x y t u τ A1 A2 Q s r1 r2 e k)
theorem OpF.orR {r r' : R2} {f : T → T → Option T} (h : OpF K mg r' f) : OpF K mg (fun x y H Q => r x y H Q ∨ r' x y H Q) f := fun F H x y t u τ A1 A2 Q s r1 r2 e k => .inr (h F H x y t u τ A1 A2 Q s r1 r2 e k)
/-- two ints with a condition -/
def intOp (c : Int → Int → Bool) (g : Int → Int → PyData) : T → T → Option T
  | .d (.int i), .d (.int j) => if c i j then some (.d (g i j)) else none
  | _, _ => none
theorem intOp_inv {c : Int → Int → Bool} {g : Int → Int → PyData} {t u τ : T} (h : intOp c g t u = some τ) : ∃ i j, t = .d (.int i) ∧ u = .d (.int j) ∧ c i j = true ∧ τ = .d (g i j) := by
  unfold intOp at h
  split at h
  · rename_i i j
    split at h
    · rename_i hc; cases h; exact ⟨i, j, rfl, rfl, hc, rfl⟩
    · cases h
  · cases h
theorem intOp_ok {C : Int → Int → Prop} {c : Int → Int → Bool} {g : Int → Int → V} {g' : Int → Int → PyData} (hc : ∀ i j, c i j = true → C i j) (hg : ∀ (F : FH) i j, Dp K F (g i j) (g' i j)) : OpF K mg (rI C g) (intOp c g') :=
  fun F H x y t u τ A1 A2 Q s r1 r2 e k => by
    obtain ⟨i, j, rfl, rfl, h, rfl⟩ := intOp_inv e
    obtain ⟨rfl, _⟩ := rt_int r1
    obtain ⟨rfl, _⟩ := rt_int r2
    exact ⟨i, j, rfl, rfl, hc i j h, give s k ⟨hg F i j, rfl⟩⟩
theorem intOp0_ok {g : Int → Int → V} {g' : Int → Int → PyData} (hg : ∀ (F : FH) i j, Dp K F (g i j) (g' i j)) : OpF K mg (rI0 g) (intOp (fun _ _ => true) g') :=
  fun F H x y t u τ A1 A2 Q s r1 r2 e k => by
    obtain ⟨i, j, rfl, rfl, h, rfl⟩ := intOp_inv e
    obtain ⟨rfl, _⟩ := rt_int r1
    obtain ⟨rfl, _⟩ := rt_int r2
    exact ⟨i, j, rfl, rfl, give s k ⟨hg F i j, rfl⟩⟩
def addT (t u : T) : Option T := match t, u with
  | .d (.int i), .d (.int j) => some (.d (.int (i + j)))
  | .d (.str a), .d (.str b) => if small (a.length + b.length) then some (.d (.str (a ++ b))) else none
  | .d (.tuple a), .d (.tuple b) => if !a.isEmpty && small (a.length + b.length) then some (.d (.tuple (a ++ b))) else none
  | t, u => (lstOf t).bind fun xs => (lstOf u).bind fun ys => if xs.all isStat && ys.all isStat && small (xs.length + ys.length) then some (.ol (xs ++ ys)) else none
def rAddT (K : PySem.W.Frag) : R2 := fun x y H Q => rI0 (fun i j => .int (i + j)) x y H Q ∨ (∃ i j, x = .str i ∧ y = .str j ∧ i.length + j.length ≤ sizeLine ∧ Q (.str (i ++ j)) H) ∨ rCatT K x y H Q ∨ rCat x y H Q
theorem add_r {X : Cx} : OpR X (binaryOp .Add) (rAddT X.K) := op_add.or (op_add_str.or (op_catT.or op_cat))
theorem add_f : OpF K mg (rAddT K) addT := fun F H x y t u τ A1 A2 Q s r1 r2 e k => by
  unfold addT at e
  split at e
  · rename_i i j
    cases e
    obtain ⟨rfl, _⟩ := rt_int r1
    obtain ⟨rfl, _⟩ := rt_int r2
    exact .inl ⟨i, j, rfl, rfl, giveI s k⟩
  · rename_i a b
    split at e
    · rename_i hz
      cases e
      obtain ⟨rfl, _⟩ := rt_str r1
      obtain ⟨rfl, _⟩ := rt_str r2
      exact .inr (.inl ⟨a, b, rfl, rfl, small_le hz, giveS s k⟩)
    · cases e
  · rename_i a b
    split at e
    · rename_i hz
      cases e
      rw [Bool.and_eq_true] at hz
      obtain ⟨p, ws, B1, rfl, h1, q1⟩ := tup_rt (ts := a.map T.d) s r1 rfl
      obtain ⟨q, zs, B2, rfl, h2, q2⟩ := tup_rt (ts := b.map T.d) s r2 rfl
      have l1 := q1.length
      have l2 := q2.length
      rw [List.length_map] at l1 l2
      have ne : ws ≠ [] := fun z => by
        subst z
        cases a with
        | nil => simp at hz
        | cons _ _ => simp at l1
      refine .inr (.inr (.inl ⟨p, q, ws, zs, rfl, rfl, h1, h2, ne, by rw [← l1, ← l2]; exact small_le hz.2, fun hz0 => ?_, fun _ np hn => ?_⟩))
      · subst hz0
        have : b = [] := by cases b with
          | nil => rfl
          | cons _ _ => simp at l2
        subst this
        rw [List.append_nil] at k
        exact give s k ⟨r1.1, rfl⟩
      · exact giveT s k (by rw [List.map_append]; exact RTs.app q1 q2) np hn
    · cases e
  · simp only [Option.bind_eq_some_iff] at e
    obtain ⟨xs, hx, ys, hy, e⟩ := e
    split at e
    · rename_i hz
      cases e
      rw [Bool.and_eq_true, Bool.and_eq_true] at hz
      obtain ⟨p, ws, B1, rfl, h1, q1⟩ := lst_rt s r1 hx
      obtain ⟨q, zs, B2, rfl, h2, q2⟩ := lst_rt s r2 hy
      refine .inr (.inr (.inr ⟨p, q, ws, zs, rfl, rfl, h1, h2, by rw [← q1.length, ← q2.length]; exact small_le hz.2, fun np hn => ?_⟩))
      exact giveL s k (RTs.app q1 q2) (by rw [List.all_append, hz.1.1, hz.1.2]; rfl) np hn
    · cases e
def bitsOk (i j : Int) : Bool := decide (Builtin.Int.intBits i * j ≤ 134217728) && decide (0 ≤ j)
def mulOk (i j : Int) : Bool := (decide (-18446744073709551616 < i) && decide (i < 18446744073709551616)) || (decide (-18446744073709551616 < j) && decide (j < 18446744073709551616))
def divOk (_ j : Int) : Bool := decide (0 < j) && decide (j.natAbs.log2 < 9000)
abbrev subT := intOp (fun _ _ => true) fun i j => .int (i - j)
abbrev mulT := intOp mulOk fun i j => .int (i * j)
abbrev fdivT := intOp divOk fun i j => .int (i / j)
abbrev modT := intOp (fun _ j => decide (0 < j)) fun i j => .int (i % j)
abbrev powT := intOp bitsOk fun i j => .int (i ^ j.toNat)
abbrev ltT := intOp (fun _ _ => true) fun i j => .bool (decide (i < j))
abbrev leT := intOp (fun _ _ => true) fun i j => .bool (decide (i ≤ j))
abbrev gtT := intOp (fun _ _ => true) fun i j => .bool (decide (j < i))
abbrev geT := intOp (fun _ _ => true) fun i j => .bool (decide (j ≤ i))
theorem sub_f : OpF K mg (rI0 fun i j => .int (i - j)) subT := intOp0_ok fun _ _ _ => .int _
theorem mul_f : OpF K mg (rI CMul fun i j => .int (i * j)) mulT := intOp_ok (fun i j h => by
  simp only [mulOk, Bool.or_eq_true, Bool.and_eq_true, decide_eq_true_eq] at h
  unfold CMul
  omega) fun _ _ _ => .int _
theorem fdiv_f : OpF K mg (rI CDivW fun i j => .int (i / j)) fdivT := intOp_ok (fun i j h => by
  simp only [divOk, Bool.and_eq_true, decide_eq_true_eq] at h
  exact h) fun _ _ _ => .int _
theorem mod_f : OpF K mg (rI (fun _ j => 0 < j) fun i j => .int (i % j)) modT := intOp_ok (fun i j h => of_decide_eq_true h) fun _ _ _ => .int _
def CPowW (i j : Int) : Prop := 0 ≤ j ∧ (Builtin.Int.intBits i : Int) * j ≤ 2 ^ 27
theorem op_powW {X : Cx} : OpR X (binaryOp .Pow) (rI CPowW fun i j => .int (i ^ j.toNat)) := opI fun _ _ _ _ _ _ _ hc q => PyProof.Rows.pow_int hc.1 hc.2 q
theorem pow_f : OpF K mg (rI CPowW fun i j => .int (i ^ j.toNat)) powT := intOp_ok (fun i j h => by
  simp only [bitsOk, Bool.and_eq_true, decide_eq_true_eq] at h
  exact ⟨h.2, h.1⟩) fun _ _ _ => .int _
theorem lt_f : OpF K mg (rI0 fun i j => .bl (decide (i < j))) ltT := intOp0_ok fun _ _ _ => .bl _
theorem le_f : OpF K mg (rI0 fun i j => .bl (decide (i ≤ j))) leT := intOp0_ok fun _ _ _ => .bl _
theorem gt_f : OpF K mg (rI0 fun i j => .bl (decide (j < i))) gtT := intOp0_ok fun _ _ _ => .bl _
theorem ge_f : OpF K mg (rI0 fun i j => .bl (decide (j ≤ i))) geT := intOp0_ok fun _ _ _ => .bl _
/-! == and != of data -/
def shal (x : PyData) : Bool := decide (x.depth ≤ 64)
def eqT (t u : T) : Option T := t.toD.bind fun x => u.toD.bind fun y => if shal x || shal y then some (.d (.bool (PyData.eqv x y))) else none
def neT (t u : T) : Option T := t.toD.bind fun x => u.toD.bind fun y => if shal x || shal y then some (.d (.bool (!PyData.eqv x y))) else none
mutual
theorem Dp.plain {K : PySem.W.Frag} {H : Hp} : ∀ (x : PyData) {v : V}, Dp K H v x → x.plain = true
  | .none, _, _ => rfl
  | .bool _, _, _ => rfl
  | .int _, _, _ => rfl
  | .str _, _, _ => rfl
  | .list ds, _, q => by cases q with | lst s a => simp only [PyData.plain]; exact DpAll.plain ds a
  | .tuple ds, _, q => by cases q with | tup s a => simp only [PyData.plain]; exact DpAll.plain ds a
  | .dict _, _, q => by cases q
theorem DpAll.plain {K : PySem.W.Frag} {H : Hp} : ∀ (ds : List PyData) {vs : List V}, DpAll K H vs ds → PyData.plainAll ds = true
  | [], _, _ => rfl
  | d :: ds, _, q => by cases q with | cons a b => simp only [PyData.plainAll, Dp.plain d a, DpAll.plain ds b, Bool.and_self]
end
def rEqP (K : PySem.W.Frag) : R2 := fun x y H Q => ∃ d e, Dp K H x d ∧ Dp K H y e ∧ (shal d || shal e) = true ∧ Q (.bl (PyData.eqv d e)) H
def rNeP (K : PySem.W.Frag) : R2 := fun x y H Q => ∃ d e, Dp K H x d ∧ Dp K H y e ∧ (shal d || shal e) = true ∧ Q (.bl (!PyData.eqv d e)) H
theorem shal_room {A : Around} {d e : PyData} (h : (shal d || shal e) = true) (hu : A.units + 65 < cLine) : A.units + min d.depth e.depth < cLine := by
  simp only [shal, Bool.or_eq_true, decide_eq_true_eq] at h
  have h1 := Nat.min_le_left d.depth e.depth
  have h2 := Nat.min_le_right d.depth e.depth
  omega
theorem eq_r {X : Cx} (hu : X.A.units + 65 < cLine) : OpR X (compareOp .Eq) (rEqP X.K) := fun pins s σ H x y v u Q I rx ry ⟨d, e, hd, he, hs, q⟩ => by
  obtain ⟨as, r1⟩ := L2.Dp.reads I d x v hd.lib rx
  obtain ⟨bs, r2⟩ := L2.Dp.reads I e y u he.lib ry
  exact SeqAt.eq_plain r1 r2 hd.plain he.plain (shal_room hs hu) ⟨.bl _, H, I, rfl, q⟩
theorem ne_r {X : Cx} (hu : X.A.units + 65 < cLine) : OpR X (compareOp .NotEq) (rNeP X.K) := fun pins s σ H x y v u Q I rx ry ⟨d, e, hd, he, hs, q⟩ => by
  obtain ⟨as, r1⟩ := L2.Dp.reads I d x v hd.lib rx
  obtain ⟨bs, r2⟩ := L2.Dp.reads I e y u he.lib ry
  exact SeqAt.ne_plain r1 r2 hd.plain he.plain (shal_room hs hu) ⟨.bl _, H, I, rfl, q⟩
theorem eq_f : OpF K mg (rEqP K) eqT := fun F H x y t u τ A1 A2 Q s r1 r2 e k => by
  simp only [eqT, Option.bind_eq_some_iff] at e
  obtain ⟨d, hd, d', hd', e⟩ := e
  split at e
  · rename_i hz; cases e
    exact ⟨d, d', r1.borrow s hd, r2.borrow s hd', hz, giveB s k⟩
  · cases e
theorem ne_f : OpF K mg (rNeP K) neT := fun F H x y t u τ A1 A2 Q s r1 r2 e k => by
  simp only [neT, Option.bind_eq_some_iff] at e
  obtain ⟨d, hd, d', hd', e⟩ := e
  split at e
  · rename_i hz; cases e
    exact ⟨d, d', r1.borrow s hd, r2.borrow s hd', hz, giveB s k⟩
  · cases e
/-! is None -/
def isNon : T → Bool
  | .d .none => true
  | .bw t => isNon t
  | _ => false
theorem isNon_rt : ∀ {t : T} {v : V} {B : List Addr}, RT K mg F H t v B → decide (v = .non) = isNon t
  | .d x, v, B, r => by
    obtain ⟨q, _⟩ := r
    cases x <;> cases q <;> rfl
  | .ol ts, v, B, r => by obtain ⟨a, ws, A', e, _⟩ := r; subst e; rfl
  | .tp ts, v, B, r => by obtain ⟨a, ws, e, _⟩ := r; subst e; rfl
  | .od ts, v, B, r => by obtain ⟨a, o, ps, A', e, _⟩ := r; subst e; rfl
  | .ob c fs, v, B, r => by obtain ⟨a, C, dx, vfs, e, _⟩ := r; subst e; rfl
  | .oi c fs, v, B, r => by obtain ⟨a, C, dx, vfs, A9, e, _⟩ := r; subst e; rfl
  | .scr ns, v, B, r => by obtain ⟨a, e, _⟩ := r; subst e; rfl
  | .bw t, v, B, ⟨_, B', _, r⟩ => isNon_rt (t := t) r
def isNT (t u : T) : Option T := if isNon u then some (.d (.bool (isNon t))) else none
def notNT (t u : T) : Option T := if isNon u then some (.d (.bool (!isNon t))) else none
theorem isN_f : OpF K mg (fun x y H Q => y = .non ∧ Q (.bl (decide (x = .non))) H) isNT := fun F H x y t u τ A1 A2 Q s r1 r2 e k => by
  unfold isNT at e
  split at e
  · rename_i hn; cases e
    refine ⟨of_decide_eq_true ((isNon_rt r2).trans hn), ?_⟩
    rw [isNon_rt r1]
    exact giveB s k
  · cases e
theorem notN_f : OpF K mg (fun x y H Q => y = .non ∧ Q (.bl (!decide (x = .non))) H) notNT := fun F H x y t u τ A1 A2 Q s r1 r2 e k => by
  unfold notNT at e
  split at e
  · rename_i hn; cases e
    refine ⟨of_decide_eq_true ((isNon_rt r2).trans hn), ?_⟩
    rw [isNon_rt r1]
    exact giveB s k
  · cases e
/-! in -/
def inD (x : PyData) (ys : List PyData) : Bool := ys.any fun y => PyData.eqv y x
def inT (t u : T) : Option T := match u with
  | .d (.str b) => (match t with
    | .d (.str a) => some (.d (.bool (!(Builtin.Str.occurrences b a 0 b.length 1).isEmpty)))
    | _ => none)
  | u => t.toD.bind fun x => (u.toD.bind seqOf).bind fun ys => if shal x then some (.d (.bool (inD x ys))) else none
def notInT (t u : T) : Option T := match u with
  | .d (.str b) => (match t with
    | .d (.str a) => some (.d (.bool (!(!(Builtin.Str.occurrences b a 0 b.length 1).isEmpty))))
    | _ => none)
  | u => t.toD.bind fun x => (u.toD.bind seqOf).bind fun ys => if shal x then some (.d (.bool (!inD x ys))) else none
def rInP (K : PySem.W.Frag) (neg : Bool) : R2 := fun x y H Q => ∃ d e ds, Dp K H x d ∧ Dp K H y e ∧ seqOf e = some ds ∧ shal d = true ∧ Q (.bl (if neg then !inD d ds else inD d ds)) H
theorem shal_room1 {A : Around} {d : PyData} {ds : List PyData} (h : shal d = true) (hu : A.units + 66 < cLine) : A.units + 1 + min (PyData.depthAll ds) d.depth < cLine := by
  have h := of_decide_eq_true h
  have h2 := Nat.min_le_right (PyData.depthAll ds) d.depth
  omega
theorem in_r {X : Cx} (hu : X.A.units + 66 < cLine) : OpR X (compareOp .In) (rInP X.K false) := fun pins s σ H x y v u Q I rx ry ⟨d, e, ds, hd, he, hs, hz, q⟩ => by
  obtain ⟨as, r1⟩ := L2.Dp.reads I d x v hd.lib rx
  obtain ⟨bs, r2⟩ := L2.Dp.reads I e y u he.lib ry
  have hp := he.plain
  cases e with
  | list es => cases hs; exact SeqAt.in_list_data r2 r1 (by simpa only [PyData.plain] using hp) hd.plain (shal_room1 hz hu) ⟨.bl _, H, I, rfl, q⟩
  | tuple es => cases hs; exact SeqAt.in_tuple_data r2 r1 (by simpa only [PyData.plain] using hp) hd.plain (shal_room1 hz hu) ⟨.bl _, H, I, rfl, q⟩
  | _ => cases hs
theorem notIn_r {X : Cx} (hu : X.A.units + 66 < cLine) : OpR X (compareOp .NotIn) (rInP X.K true) := fun pins s σ H x y v u Q I rx ry ⟨d, e, ds, hd, he, hs, hz, q⟩ => by
  obtain ⟨as, r1⟩ := L2.Dp.reads I d x v hd.lib rx
  obtain ⟨bs, r2⟩ := L2.Dp.reads I e y u he.lib ry
  have hp := he.plain
  cases e with
  | list es => cases hs; exact SeqAt.notIn_list_data r2 r1 (by simpa only [PyData.plain] using hp) hd.plain (shal_room1 hz hu) ⟨.bl _, H, I, rfl, q⟩
  | tuple es => cases hs; exact SeqAt.notIn_tuple_data r2 r1 (by simpa only [PyData.plain] using hp) hd.plain (shal_room1 hz hu) ⟨.bl _, H, I, rfl, q⟩
  | _ => cases hs
def rIn2 (K : PySem.W.Frag) : R2 := fun x y H Q => rInP K false x y H Q ∨ ∃ i j, x = .str i ∧ y = .str j ∧ Q (.bl (!(Builtin.Str.occurrences j i 0 j.length 1).isEmpty)) H
def rNotIn2 (K : PySem.W.Frag) : R2 := fun x y H Q => rInP K true x y H Q ∨ ∃ i j, x = .str i ∧ y = .str j ∧ Q (.bl (!(!(Builtin.Str.occurrences j i 0 j.length 1).isEmpty))) H
theorem in2_r {X : Cx} (hu : X.A.units + 66 < cLine) : OpR X (compareOp .In) (rIn2 X.K) := (in_r hu).or op_in_str
theorem notIn2_r {X : Cx} (hu : X.A.units + 66 < cLine) : OpR X (compareOp .NotIn) (rNotIn2 X.K) := (notIn_r hu).or L2.op_notIn_str
theorem in_f : OpF K mg (rIn2 K) inT := fun F H x y t u τ A1 A2 Q s r1 r2 e k => by
  unfold inT at e
  split at e
  · split at e
    · cases e
      obtain ⟨rfl, _⟩ := rt_str r1
      obtain ⟨rfl, _⟩ := rt_str r2
      exact .inr ⟨_, _, rfl, rfl, giveB s k⟩
    · cases e
  · simp only [Option.bind_eq_some_iff] at e
    obtain ⟨d, hd, ds, ⟨d', hd', hs⟩, e⟩ := e
    split at e
    · rename_i hz; cases e
      exact .inl ⟨d, d', ds, r1.borrow s hd, r2.borrow s hd', hs, hz, giveB s k⟩
    · cases e
theorem notIn_f : OpF K mg (rNotIn2 K) notInT := fun F H x y t u τ A1 A2 Q s r1 r2 e k => by
  unfold notInT at e
  split at e
  · split at e
    · cases e
      obtain ⟨rfl, _⟩ := rt_str r1
      obtain ⟨rfl, _⟩ := rt_str r2
      exact .inr ⟨_, _, rfl, rfl, giveB s k⟩
    · cases e
  · simp only [Option.bind_eq_some_iff] at e
    obtain ⟨d, hd, ds, ⟨d', hd', hs⟩, e⟩ := e
    split at e
    · rename_i hz; cases e
      exact .inl ⟨d, d', ds, r1.borrow s hd, r2.borrow s hd', hs, hz, giveB s k⟩
    · cases e
/-! x[i] -/
def ixT (t u : T) : Option T := match u with
  | .d (.int i) => (match t with
    | .scr ns => (atI ns i).map fun n => .d (.int n)
    | .d (.str z) => if small z.length then (atI z.cps.toList i).map fun c => .d (.str ⟨#[c]⟩) else none
    | t => ((lstOf t).orElse fun _ => tupOf t).bind fun ts => (atI ts i).bind fun e => if isStat e then some e else none)
  | _ => none
theorem atI_rt {ts : List T} {ws : List V} {B : List Addr} {i : Int} {e : T} (r : RTs K mg F H ts ws B) (h : atI ts i = some e) : ∃ v B', atI ws i = some v ∧ RT K mg F H e v B' := by
  unfold atI at h ⊢
  rw [r.length] at h
  rw [Option.bind_eq_some_iff] at h
  obtain ⟨j, h1, h2⟩ := h
  obtain ⟨v, B', h3, h4⟩ := RTs.get r h2
  exact ⟨v, B', by rw [h1]; exact h3, h4⟩
theorem ix_f : OpF K mg (rIx K) ixT := fun F H x y t u τ A1 A2 Q s r1 r2 e k => by
  unfold ixT at e
  split at e
  · rename_i i
    obtain ⟨rfl, _⟩ := rt_int r2
    split at e
    · rename_i ns
      rw [Option.map_eq_some_iff] at e
      obtain ⟨n, hn, rfl⟩ := e
      obtain ⟨a, rfl, hs, _⟩ := r1
      have : atI (ns.map V.int) i = some (.int n) := by
        unfold atI at hn ⊢
        rw [List.length_map]
        rw [Option.bind_eq_some_iff] at hn
        obtain ⟨j, h1, h2⟩ := hn
        rw [h1]; simp [h2]
      exact .inl ⟨a, _, i, _, rfl, rfl, same_sqL s hs, this, giveI s k⟩
    · rename_i z
      split at e
      · rename_i hz
        rw [Option.map_eq_some_iff] at e
        obtain ⟨c, hc, rfl⟩ := e
        obtain ⟨rfl, _⟩ := rt_str r1
        exact .inr (.inr ⟨z, i, c, rfl, rfl, small_le hz, hc, giveS s k⟩)
      · cases e
    · simp only [Option.bind_eq_some_iff] at e
      obtain ⟨ts, ht, e', he, e⟩ := e
      split at e
      · rename_i hst
        cases e
        cases hl : lstOf t with
        | some us =>
          rw [hl] at ht; cases ht
          obtain ⟨a, ws, B, rfl, h1, q⟩ := lst_rt s r1 hl
          obtain ⟨v, B', h2, h3⟩ := atI_rt q he
          exact .inl ⟨a, ws, i, v, rfl, rfl, .of h1, h2, give s k (stat_rt h3 hst)⟩
        | none =>
          rw [hl] at ht
          obtain ⟨a, ws, B, rfl, h1, q⟩ := tup_rt s r1 (show tupOf t = some ts from ht)
          obtain ⟨v, B', h2, h3⟩ := atI_rt q he
          exact .inr (.inl ⟨a, ws, i, v, rfl, rfl, h1, h2, give s k (stat_rt h3 hst)⟩)
      · cases e
  · cases e
end

/-! ### the rules -/
section
variable {X : Cx} {vs : Fx} {W : WX} {e a b : Expr} {ma mb : M Opd} {pos : Pos}
theorem fe_add (ha : FO X vs W a ma) (hb : FO X vs W b mb) : FE X vs W (.BinOp a .Add b pos) (eOp2 addT ma mb) := fe_two ha hb add_f fun _ _ pa pb => pe_op add_r pa pb
theorem fe_sub (ha : FO X vs W a ma) (hb : FO X vs W b mb) : FE X vs W (.BinOp a .Sub b pos) (eOp2 subT ma mb) := fe_two ha hb sub_f fun _ _ pa pb => pe_op op_sub pa pb
theorem fe_mul (ha : FO X vs W a ma) (hb : FO X vs W b mb) : FE X vs W (.BinOp a .Mult b pos) (eOp2 mulT ma mb) := fe_two ha hb mul_f fun _ _ pa pb => pe_op op_mul pa pb
theorem fe_fdiv (ha : FO X vs W a ma) (hb : FO X vs W b mb) : FE X vs W (.BinOp a .FloorDiv b pos) (eOp2 fdivT ma mb) := fe_two ha hb fdiv_f fun _ _ pa pb => pe_op op_fdivW pa pb
theorem fe_mod (ha : FO X vs W a ma) (hb : FO X vs W b mb) : FE X vs W (.BinOp a .Mod b pos) (eOp2 modT ma mb) := fe_two ha hb mod_f fun _ _ pa pb => pe_op op_mod pa pb
theorem fe_pow (ha : FO X vs W a ma) (hb : FO X vs W b mb) : FE X vs W (.BinOp a .Pow b pos) (eOp2 powT ma mb) := fe_two ha hb pow_f fun _ _ pa pb => pe_op op_powW pa pb
theorem fe_cmp {op : CmpOp} {r : R2} {f : T → T → Option T} (ho : OpR X (compareOp op) r) (hf : OpF X.K X.mg r f) (ha : FO X vs W a ma) (hb : FO X vs W b mb) (hm : behindInMarks op b = false := by rfl) : FE X vs W (.Compare a [op] [b] pos) (eOp2 f ma mb) := fe_two ha hb hf fun _ _ pa pb => pe_cmpR ho pa pb hm
theorem fe_ix (ha : FO X vs W a ma) (hb : FO X vs W b mb) (hs : PlainIx b := by exact fun _ _ => rfl) : FE X vs W (.Subscript a b pos) (eOp2 ixT ma mb) := fe_two ha hb ix_f fun _ _ pa pb => pe_ix ix_seq pa pb hs
end
end FL

set_option Elab.async false
set_option linter.all false
set_option maxRecDepth 100000
namespace FL
open PySem PySem.Spec PyProof.Rows L2

/-! ### chains of two comparisons -/
def eChain (f g : T → T → Option T) (ma mb mc : M Opd) : M T := ma.bind fun a => mb.bind fun b => fun ρ => match res ρ a, res ρ b with
  | some x, some y => (match (f x y).bind boolT with
    | some true => (mc.bind fun c => fun ρ => match res ρ b, res ρ c with
      | some y, some z => lift (g y z) ρ
      | _, _ => .bad) ρ
    | some false => .ok (.d (.bool false)) ρ
    | none => .bad)
  | _, _ => .bad
section
variable {X : Cx} {vs : Fx} {W : WX} {e a b c : Expr} {ma mb mc : M Opd} {pos : Pos}
theorem chain_rd {f g : T → T → Option T} {r r' : R2} (hr : OpF X.K X.mg r f) (hr' : OpF X.K X.mg r' g) {ta tb tc : TE}
    (qa : ∀ (σ : L2.St) (H : Hp) (F : FH) (ρ : Env) (A : List Addr) (Q : VK), Wd F H A → Rep X.K X.mg vs F H σ ρ A → OQ X.K X.mg vs W F H σ A Q (ma ρ) → ta σ H Q)
    (qb : ∀ (σ : L2.St) (H : Hp) (F : FH) (ρ : Env) (A : List Addr) (Q : VK), Wd F H A → Rep X.K X.mg vs F H σ ρ A → OQ X.K X.mg vs W F H σ A Q (mb ρ) → tb σ H Q)
    (qc : ∀ (σ : L2.St) (H : Hp) (F : FH) (ρ : Env) (A : List Addr) (Q : VK), Wd F H A → Rep X.K X.mg vs F H σ ρ A → OQ X.K X.mg vs W F H σ A Q (mc ρ) → tc σ H Q)
    (σ : L2.St) (H : Hp) (F : FH) (ρ : Env) (A : List Addr) (Q : VK) (w : Wd F H A) (rp : Rep X.K X.mg vs F H σ ρ A) (hq : EQ X.K X.mg vs W F H σ A Q (eChain f g ma mb mc ρ)) : tChain r r' ta tb tc σ H Q := by
  refine qa σ H F ρ A _ w rp ?_
  unfold eChain M.bind at hq
  cases e1 : ma ρ with
  | bad => rw [e1] at hq; exact hq
  | exc c x ρ' => rw [e1] at hq; exact hq
  | ok oa ρ1 =>
    rw [e1] at hq
    simp only [Out.bind] at hq
    intro va F1 H1 A1 B1 st1 rp1 r1
    refine qb σ H1 F1 ρ1 A1 _ st1.wd.left rp1 ?_
    cases e2 : mb ρ1 with
    | bad => rw [e2] at hq; exact hq
    | exc c x ρ' => rw [e2] at hq; exact fun cls d F' H' A' st rp' ex => hq cls d F' H' A' (st1.compL st) rp' ex
    | ok ob ρ2 =>
      rw [e2] at hq
      simp only at hq
      intro vb F2 H2 A2 B2 st2 rp2 r2
      have r1' := r1.step st2 st1.wd
      have s12 : Step F H A F2 H2 (A2 ++ B2) := (st1.trans ((st2.wide st1.wd))).less
      cases ex : res ρ2 oa with
      | none => simp only [ex] at hq; exact hq.elim
      | some x =>
        cases ey : res ρ2 ob with
        | none => simp only [ex, ey] at hq; exact hq.elim
        | some y =>
          simp only [ex, ey] at hq
          obtain ⟨C1, k1⟩ := r1'.res rp2 ex
          obtain ⟨C2, k2⟩ := r2.res rp2 ey
          cases hf : f x y with
          | none => simp only [hf, Option.bind_none] at hq; exact hq.elim
          | some τ =>
            simp only [hf, Option.bind_some] at hq
            cases hb : boolT τ with
            | none => simp only [hb] at hq; exact hq.elim
            | some k =>
              simp only [hb] at hq
              refine hr F2 H2 va vb x y τ C1 C2 _ st2.wd.sub k1 k2 hf fun v F3 H3 B g3 rt => ?_
              refine ⟨k, boolT_rt rt hb, ?_⟩
              have s3 := s12.trans (g3.step s12.wd)
              have rp3 := rp2.grow g3
              cases k with
              | false =>
                rw [if_neg Bool.false_ne_true]
                exact hq (.bl false) F3 H3 A2 [] (by rw [List.append_nil]; exact s3.less.less) rp3 ⟨.bl _, rfl⟩
              | true =>
                rw [if_pos rfl]
                simp only at hq
                have r3 : OR X.K X.mg F3 H3 σ ob vb B2 := by
                  cases ob with
                  | inl t => exact RT.grow g3 r2
                  | inr i => exact r2
                have s3' : Step F H A F3 H3 (A2 ++ B2) := s3.less
                refine qc σ H3 F3 ρ2 A2 _ s3'.wd.left rp3 ?_
                cases e3 : mc ρ2 with
                | bad => rw [e3] at hq; exact hq
                | exc c x ρ' => rw [e3] at hq; exact fun cls d F' H' A' st rp' ex => hq cls d F' H' A' (s3'.compL st) rp' ex
                | ok oc ρ3 =>
                  rw [e3] at hq
                  simp only [Out.bind] at hq
                  intro vc F4 H4 A4 B4 st4 rp4 r4
                  have r3' := r3.step st4 s3'.wd
                  cases ey2 : res ρ3 ob with
                  | none => simp only [ey2] at hq; exact hq.elim
                  | some y2 =>
                    cases ez : res ρ3 oc with
                    | none => simp only [ey2, ez] at hq; exact hq.elim
                    | some z =>
                      simp only [ey2, ez] at hq
                      obtain ⟨C3, k3⟩ := r3'.res rp4 ey2
                      obtain ⟨C4, k4⟩ := r4.res rp4 ez
                      unfold lift at hq
                      cases hg : g y2 z with
                      | none => simp only [hg] at hq; exact hq.elim
                      | some τ2 =>
                        simp only [hg] at hq
                        refine hr' F4 H4 vb vc y2 z τ2 C3 C4 Q st4.wd.sub k3 k4 hg fun v5 F5 H5 B5 g5 rt5 => ?_
                        have s5 := (s3'.comp st4).less.less
                        exact hq v5 F5 H5 A4 B5 (s5.trans (g5.step s5.wd)) (rp4.grow g5) rt5
theorem fe_chain {op op' : CmpOp} {f g : T → T → Option T} {r r' : R2} (ho : OpR X (compareOp op) r) (ho' : OpR X (compareOp op') r') (hr : OpF X.K X.mg r f) (hr' : OpF X.K X.mg r' g) (ha : FO X vs W a ma) (hb : FO X vs W b mb) (hc : FO X vs W c mc)
    (hm : lastMarks [op, op'] [b, c] = false := by with_unfolding_all rfl) : FE X vs W (.Compare a [op, op'] [b, c] pos) (eChain f g ma mb mc) := by
  obtain ⟨ta, pa, qa⟩ := ha
  obtain ⟨tb, pb, qb⟩ := hb
  obtain ⟨tc, pc, qc⟩ := hc
  exact ⟨_, pe_chain ho ho' pa pb pc hm, fun σ H F ρ A Q w rp hq => chain_rd hr hr' qa qb qc σ H F ρ A Q w rp hq⟩
theorem ft_chain {op op' : CmpOp} {f g : T → T → Option T} {r r' : R2} (ho : OpR X (compareOp op) r) (ho' : OpR X (compareOp op') r') (hr : OpF X.K X.mg r f) (hr' : OpF X.K X.mg r' g) (ha : FO X vs W a ma) (hb : FO X vs W b mb) (hc : FO X vs W c mc)
    (hm : lastMarks [op, op'] [b, c] = false := by with_unfolding_all rfl) : FT X vs W (.Compare a [op, op'] [b, c] pos) (bVal (eChain f g ma mb mc)) := by
  obtain ⟨ta, pa, qa⟩ := ha
  obtain ⟨tb, pb, qb⟩ := hb
  obtain ⟨tc, pc, qc⟩ := hc
  refine ⟨_, pt_chain ho ho' pa pb pc hm, fun σ H F ρ A Q w rp hq => ?_⟩
  refine chain_rd hr hr' qa qb qc σ H F ρ A _ w rp ?_
  unfold bVal M.bind at hq
  cases e1 : eChain f g ma mb mc ρ with
  | bad => rw [e1] at hq; exact hq
  | exc c x ρ' => rw [e1] at hq; exact hq
  | ok t ρ1 =>
    rw [e1] at hq
    simp only [Out.bind, lift] at hq
    intro v F1 H1 A1 B1 st1 rp1 r1
    cases hb : boolT t with
    | none => simp only [hb] at hq; exact hq.elim
    | some k => simp only [hb] at hq; exact ⟨k, boolT_rt r1 hb, hq F1 H1 A1 st1.less rp1⟩
end

/-! ### built-in functions -/
section
variable {K : PySem.W.Frag} {mg : Str → Option Value} {F : FH} {H : Hp}
theorem rte3 {t u z : T} {ws : List V} (h : RTe K mg F H [t, u, z] ws) : ∃ v w y B C D, ws = [v, w, y] ∧ RT K mg F H t v B ∧ RT K mg F H u w C ∧ RT K mg F H z y D := by
  obtain ⟨v, r, B, e, q, h2⟩ := h
  obtain ⟨w, y, C, D, e2, q2, q3⟩ := rte2 h2
  subst e e2
  exact ⟨v, w, y, B, C, D, rfl, q, q2, q3⟩
def lenT : List T → Option T
  | [.scr ns] => some (.d (.int ns.length))
  | [.d (.str z)] => if small z.length then some (.d (.int z.length)) else none
  | [t] => ((lstOf t).orElse fun _ => tupOf t).map fun ts => .d (.int ts.length)
  | _ => none
theorem len_f : CallF K mg (fun xs H Q => ∃ x n, xs = [x] ∧ LenV K x H n ∧ Q (.int n) H) lenT := fun F H ws ts τ Q s rt e k => by
  unfold lenT at e
  split at e
  · rename_i ns
    cases e
    obtain ⟨v, B, rfl, a, rfl, hs, _⟩ := rte1 rt
    exact ⟨_, ns.length, rfl, .inl ⟨_, same_sqL s hs, by simp⟩, giveI s k⟩
  · rename_i z
    split at e
    · rename_i hz
      cases e
      obtain ⟨v, B, rfl, q⟩ := rte1 rt
      obtain ⟨rfl, _⟩ := rt_str q
      exact ⟨_, z.length, rfl, ⟨small_le hz, rfl⟩, giveI s k⟩
    · cases e
  · rename_i t _ _
    rw [Option.map_eq_some_iff] at e
    obtain ⟨us, hu, rfl⟩ := e
    obtain ⟨v, B, rfl, q⟩ := rte1 rt
    cases hl : lstOf t with
    | some xs =>
      rw [hl] at hu; cases hu
      obtain ⟨a, ws, B, rfl, h1, q⟩ := lst_rt s q hl
      exact ⟨_, us.length, rfl, .inl ⟨ws, .of h1, q.length⟩, giveI s k⟩
    | none =>
      rw [hl] at hu
      obtain ⟨a, ws, B, rfl, h1, q⟩ := tup_rt s q (show tupOf t = some us from hu)
      exact ⟨_, us.length, rfl, .inr ⟨ws, h1, q.length⟩, giveI s k⟩
  · cases e
def listT : List T → Option T
  | [t] => ((lstOf t).orElse fun _ => tupOf t).bind fun ts => if ts.all isStat then some (.ol ts) else none
  | _ => none
theorem list_f : CallF K mg (fun xs H Q => ∃ p ys, xs = [.ref p] ∧ (SqL K H p ys ∨ SqT K H p ys) ∧ ∀ l, H l = none → Q (.ref l) (upd H l (.lst ys))) listT := fun F H ws ts τ Q s rt e k => by
  unfold listT at e
  split at e
  · rename_i t
    rw [Option.bind_eq_some_iff] at e
    obtain ⟨us, hu, e⟩ := e
    split at e
    · rename_i hst
      cases e
      obtain ⟨v, B, rfl, q⟩ := rte1 rt
      cases hl : lstOf t with
      | some xs =>
        rw [hl] at hu; cases hu
        obtain ⟨a, ws, B, rfl, h1, q⟩ := lst_rt s q hl
        exact ⟨a, ws, rfl, .inl (.of h1), fun p n => giveL s k q hst p n⟩
      | none =>
        rw [hl] at hu
        obtain ⟨a, ws, B, rfl, h1, q⟩ := tup_rt s q (show tupOf t = some us from hu)
        exact ⟨a, ws, rfl, .inr h1, fun p n => giveL s k q hst p n⟩
    · cases e
  · cases e
def tupleT : List T → Option T
  | [.d (.tuple ds)] => some (.d (.tuple ds))
  | [t] => (lstOf t).bind fun ts => (dats ts).map fun ds => .d (.tuple ds)
  | _ => none
theorem dats_map : ∀ {ts : List T} {ds : List PyData}, dats ts = some ds → ts = ds.map T.d
  | [], ds, h => by cases h; rfl
  | t :: ts, ds, h => by
    simp only [dats, Option.bind_eq_some_iff, Option.map_eq_some_iff] at h
    obtain ⟨x, hx, ds', h, rfl⟩ := h
    cases t with
    | d y => cases hx; rw [List.map_cons, dats_map h]
    | _ => cases hx
theorem tuple_f : CallF K mg (fun xs H Q => ∃ p ys, xs = [.ref p] ∧ ((SqL K H p ys ∧ ∀ l, H l = none → Q (.ref l) (upd H l (.tup ys))) ∨ (SqT K H p ys ∧ Q (.ref p) H))) tupleT := fun F H ws ts τ Q s rt e k => by
  unfold tupleT at e
  split at e
  · rename_i ds
    cases e
    obtain ⟨v, B, rfl, q⟩ := rte1 rt
    obtain ⟨a, ws, B', rfl, h1, _⟩ := tup_rt (ts := ds.map T.d) s q rfl
    exact ⟨a, ws, rfl, .inr ⟨h1, give s k ⟨q.1, rfl⟩⟩⟩
  · rename_i t _
    simp only [Option.bind_eq_some_iff, Option.map_eq_some_iff] at e
    obtain ⟨us, hu, ds, hd, rfl⟩ := e
    obtain ⟨v, B, rfl, q⟩ := rte1 rt
    obtain ⟨a, ws, B, rfl, h1, q⟩ := lst_rt s q hu
    have e := dats_map hd
    subst e
    exact ⟨a, ws, rfl, .inl ⟨.of h1, fun p n => giveT s k q p n⟩⟩
  · cases e
def intT : List T → Option T
  | [.d (.int i)] => some (.d (.int i))
  | [.d (.bool b)] => some (.d (.int (if b then 1 else 0)))
  | _ => none
theorem int_f : CallF K mg (fun xs H Q => (∃ i, xs = [.int i] ∧ Q (.int i) H) ∨ ∃ k, xs = [.bl k] ∧ Q (.int (if k then 1 else 0)) H) intT := fun F H ws ts τ Q s rt e k => by
  unfold intT at e
  split at e
  · rename_i i
    cases e
    obtain ⟨v, B, rfl, q⟩ := rte1 rt
    obtain ⟨rfl, _⟩ := rt_int q
    exact .inl ⟨i, rfl, giveI s k⟩
  · rename_i b
    cases e
    obtain ⟨v, B, rfl, q⟩ := rte1 rt
    obtain ⟨rfl, _⟩ := rt_bool q
    exact .inr ⟨b, rfl, giveI s k⟩
  · cases e
def absT : List T → Option T
  | [.d (.int i)] => some (.d (.int (if i < 0 then -i else i)))
  | _ => none
theorem abs_f : CallF K mg (fun xs H Q => ∃ i, xs = [.int i] ∧ Q (.int (if i < 0 then -i else i)) H) absT := fun F H ws ts τ Q s rt e k => by
  unfold absT at e
  split at e
  · rename_i i
    cases e
    obtain ⟨v, B, rfl, q⟩ := rte1 rt
    obtain ⟨rfl, _⟩ := rt_int q
    exact ⟨i, rfl, giveI s k⟩
  · cases e
def maxT2 : List T → Option T
  | [.d (.int i), .d (.int j)] => some (.d (.int (if j > i then j else i)))
  | _ => none
def minT2 : List T → Option T
  | [.d (.int i), .d (.int j)] => some (.d (.int (if j < i then j else i)))
  | _ => none
theorem max2_f : CallF K mg (fun xs H Q => ∃ i j, xs = [.int i, .int j] ∧ Q (.int (if j > i then j else i)) H) maxT2 := fun F H ws ts τ Q s rt e k => by
  unfold maxT2 at e
  split at e
  · rename_i i j
    cases e
    obtain ⟨v, w, B, C, rfl, q, q2⟩ := rte2 rt
    obtain ⟨rfl, _⟩ := rt_int q
    obtain ⟨rfl, _⟩ := rt_int q2
    exact ⟨i, j, rfl, giveI s k⟩
  · cases e
theorem min2_f : CallF K mg (fun xs H Q => ∃ i j, xs = [.int i, .int j] ∧ Q (.int (if j < i then j else i)) H) minT2 := fun F H ws ts τ Q s rt e k => by
  unfold minT2 at e
  split at e
  · rename_i i j
    cases e
    obtain ⟨v, w, B, C, rfl, q, q2⟩ := rte2 rt
    obtain ⟨rfl, _⟩ := rt_int q
    obtain ⟨rfl, _⟩ := rt_int q2
    exact ⟨i, j, rfl, giveI s k⟩
  · cases e
/-- a list of ints, of bools -/
def intsOf : List T → Option (List Int)
  | [] => some []
  | .d (.int i) :: r => (intsOf r).map (i :: ·)
  | _ => none
def boolsOf : List T → Option (List Bool)
  | [] => some []
  | .d (.bool i) :: r => (boolsOf r).map (i :: ·)
  | _ => none
theorem ints_rt : ∀ {ts : List T} {ns : List Int} {ws : List V} {B : List Addr}, RTs K mg F H ts ws B → intsOf ts = some ns → ws = ns.map V.int ∧ ts = ns.map fun n => T.d (.int n) := by
  intro ts
  induction ts with
  | nil => intro ns ws B ⟨e1, _⟩ h; cases h; subst e1; exact ⟨rfl, rfl⟩
  | cons t r ih =>
    intro ns ws B ⟨v, s, B1, B2, e1, q1, q2, e2⟩ h
    cases t with
    | d x =>
      cases x with
      | int i =>
        simp only [intsOf, Option.map_eq_some_iff] at h
        obtain ⟨ns', h, rfl⟩ := h
        obtain ⟨rfl, rfl⟩ := ih q2 h
        obtain ⟨rfl, _⟩ := rt_int q1
        subst e1
        exact ⟨rfl, rfl⟩
      | _ => cases h
    | _ => cases h
theorem bools_rt : ∀ {ts : List T} {ns : List Bool} {ws : List V} {B : List Addr}, RTs K mg F H ts ws B → boolsOf ts = some ns → ws = ns.map V.bl := by
  intro ts
  induction ts with
  | nil => intro ns ws B ⟨e1, _⟩ h; cases h; subst e1; rfl
  | cons t r ih =>
    intro ns ws B ⟨v, s, B1, B2, e1, q1, q2, e2⟩ h
    cases t with
    | d x =>
      cases x with
      | bool i =>
        simp only [boolsOf, Option.map_eq_some_iff] at h
        obtain ⟨ns', h, rfl⟩ := h
        have := ih q2 h
        obtain ⟨rfl, _⟩ := rt_bool q1
        subst e1 this
        rfl
      | _ => cases h
    | _ => cases h
def anyT : List T → Option T
  | [t] => (lstOf t).bind fun ts => (boolsOf ts).map fun bs => .d (.bool (bs.any id))
  | _ => none
def allT : List T → Option T
  | [t] => (lstOf t).bind fun ts => (boolsOf ts).map fun bs => .d (.bool (bs.all id))
  | _ => none
theorem any_f : CallF K mg (rAny K) anyT := fun F H ws ts τ Q s rt e k => by
  unfold anyT at e
  split at e
  · rename_i t
    simp only [Option.bind_eq_some_iff, Option.map_eq_some_iff] at e
    obtain ⟨us, hu, bs, hb, rfl⟩ := e
    obtain ⟨v, B, rfl, q⟩ := rte1 rt
    obtain ⟨a, ws, B, rfl, h1, q⟩ := lst_rt s q hu
    have := bools_rt q hb
    subst this
    exact ⟨a, bs, rfl, .of h1, giveB s k⟩
  · cases e
theorem all_f : CallF K mg (rAll K) allT := fun F H ws ts τ Q s rt e k => by
  unfold allT at e
  split at e
  · rename_i t
    simp only [Option.bind_eq_some_iff, Option.map_eq_some_iff] at e
    obtain ⟨us, hu, bs, hb, rfl⟩ := e
    obtain ⟨v, B, rfl, q⟩ := rte1 rt
    obtain ⟨a, ws, B, rfl, h1, q⟩ := lst_rt s q hu
    have := bools_rt q hb
    subst this
    exact ⟨a, bs, rfl, .of h1, giveB s k⟩
  · cases e
def maxL : List Int → Int
  | [] => 0
  | [a] => a
  | a :: r => max a (maxL r)
theorem maxL_mem : ∀ {l : List Int}, l ≠ [] → maxL l ∈ l ∧ ∀ y ∈ l, y ≤ maxL l
  | [a], _ => ⟨by simp [maxL], by simp [maxL]⟩
  | a :: b :: r, _ => by
    obtain ⟨h1, h2⟩ := maxL_mem (l := b :: r) (by simp)
    have e : maxL (a :: b :: r) = max a (maxL (b :: r)) := rfl
    rw [e]
    constructor
    · by_cases h : a ≤ maxL (b :: r)
      · rw [Int.max_eq_right h]; exact List.mem_cons_of_mem _ h1
      · rw [Int.max_eq_left (by omega)]; exact List.mem_cons_self
    · intro y hy
      rcases List.mem_cons.mp hy with rfl | hy
      · exact Int.le_max_left _ _
      · exact Int.le_trans (h2 y hy) (Int.le_max_right _ _)
def maxT1 : List T → Option T
  | [t] => (lstOf t).bind fun ts => (intsOf ts).bind fun ns => if ns.isEmpty then none else some (.d (.int (maxL ns)))
  | _ => none
theorem max1_f : CallF K mg (rMax K) maxT1 := fun F H ws ts τ Q s rt e k => by
  unfold maxT1 at e
  split at e
  · rename_i t
    simp only [Option.bind_eq_some_iff] at e
    obtain ⟨us, hu, ns, hn, e⟩ := e
    split at e
    · cases e
    · rename_i hne
      cases e
      obtain ⟨v, B, rfl, q⟩ := rte1 rt
      obtain ⟨a, ws, B, rfl, h1, q⟩ := lst_rt s q hu
      obtain ⟨rfl, _⟩ := ints_rt q hn
      have hne' : ns ≠ [] := by intro z; subst z; simp at hne
      refine ⟨a, ns, rfl, .of h1, List.length_pos_iff.mpr hne', fun m hm hle => ?_⟩
      obtain ⟨k1, k2⟩ := maxL_mem hne'
      have : m = maxL ns := Int.le_antisymm (k2 m hm) (hle _ k1)
      subst this
      exact giveI s k
  · cases e
/-- sorted ints -/
def insI (a : Int) : List Int → List Int
  | [] => [a]
  | b :: r => if a ≤ b then a :: b :: r else b :: insI a r
def isort : List Int → List Int
  | [] => []
  | a :: r => insI a (isort r)
theorem insI_perm (a : Int) : ∀ l : List Int, (insI a l).Perm (a :: l)
  | [] => .refl _
  | b :: r => by
    unfold insI
    split
    · exact .refl _
    · exact ((insI_perm a r).cons b).trans (.swap a b r)
theorem isort_perm : ∀ l : List Int, (isort l).Perm l
  | [] => .refl _
  | a :: r => (insI_perm a _).trans ((isort_perm r).cons a)
theorem insI_sorted (a : Int) : ∀ {l : List Int}, l.Pairwise (· ≤ ·) → (insI a l).Pairwise (· ≤ ·)
  | [], _ => by simp [insI]
  | b :: r, h => by
    unfold insI
    obtain ⟨h1, h2⟩ := List.pairwise_cons.mp h
    split
    · rename_i hab
      exact List.pairwise_cons.mpr ⟨fun y hy => by
        rcases List.mem_cons.mp hy with rfl | hy
        · exact hab
        · exact Int.le_trans hab (h1 y hy), h⟩
    · rename_i hab
      refine List.pairwise_cons.mpr ⟨fun y hy => ?_, insI_sorted a h2⟩
      rcases List.mem_cons.mp ((insI_perm a r).mem_iff.mp hy) with rfl | hy
      · omega
      · exact h1 y hy
theorem isort_sorted : ∀ l : List Int, (isort l).Pairwise (· ≤ ·)
  | [] => .nil
  | a :: r => insI_sorted a (isort_sorted r)
theorem sorted_uniq : ∀ {l m : List Int}, l.Perm m → l.Pairwise (· ≤ ·) → m.Pairwise (· ≤ ·) → l = m
  | [], m, p, _, _ => (List.nil_perm.mp p).symm
  | a :: r, [], p, _, _ => by simpa using p.length_eq
  | a :: r, b :: q, p, h1, h2 => by
    obtain ⟨a1, a2⟩ := List.pairwise_cons.mp h1
    obtain ⟨b1, b2⟩ := List.pairwise_cons.mp h2
    have hab : a = b := by
      have m1 : a ∈ b :: q := p.mem_iff.mp List.mem_cons_self
      have m2 : b ∈ a :: r := p.mem_iff.mpr List.mem_cons_self
      rcases List.mem_cons.mp m1 with e | m1
      · exact e
      · rcases List.mem_cons.mp m2 with e | m2
        · exact e.symm
        · exact Int.le_antisymm (a1 b m2) (b1 a m1)
    subst hab
    rw [sorted_uniq (List.Perm.cons_inv p) a2 b2]
def sortedI : List T → Option T
  | [t] => (lstOf t).bind fun ts => (intsOf ts).map fun ns => .ol ((isort ns).map fun n => T.d (.int n))
  | _ => none
theorem sortedI_f : CallF K mg (rSortedI K) sortedI := fun F H ws ts τ Q s rt e k => by
  unfold sortedI at e
  split at e
  · rename_i t
    simp only [Option.bind_eq_some_iff, Option.map_eq_some_iff] at e
    obtain ⟨us, hu, ns, hn, rfl⟩ := e
    obtain ⟨v, B, rfl, q⟩ := rte1 rt
    obtain ⟨a, ws, B, rfl, h1, q⟩ := lst_rt s q hu
    obtain ⟨rfl, _⟩ := ints_rt q hn
    refine ⟨a, ns, rfl, .of h1, fun ns' p hp hs hn => ?_⟩
    have e := sorted_uniq (hp.trans (isort_perm ns).symm) hs (isort_sorted ns)
    subst e
    have hr : ∀ (l : List Int), RTs K mg F H (l.map fun n => T.d (.int n)) (l.map V.int) [] := fun l => by
      induction l with
      | nil => exact ⟨rfl, rfl⟩
      | cons a l ih => exact ⟨_, _, [], [], rfl, ⟨.int _, rfl⟩, ih, rfl⟩
    exact giveL s k (hr _) (by rw [List.all_map]; exact List.all_eq_true.mpr fun _ _ => rfl) p hn
  · cases e
end

/-! ### methods that change a list that a name holds -/
section
variable (K : PySem.W.Frag) (mg : Str → Option Value)
def MutF (r : V → List V → Hp → VK → Prop) (f : T → List T → Option (T × T)) : Prop :=
  ∀ (F : FH) (H : Hp) (x : V) (ws : List V) (t t' τ : T) (ts : List T) (A B : List Addr) (Q : VK), Wd F H (A ++ B) → RT K mg F H t x A → RTs K mg F H ts ws B → f t ts = some (t', τ) →
    (∀ v H' A' B', Step F H (A ++ B) F H' (A' ++ B') → RT K mg F H' t' x A' → RT K mg F H' τ v B' → Q v H') → r x ws H Q
end
def isOl : T → Bool
  | .ol _ => true
  | _ => false
def appendM : T → List T → Option (T × T)
  | .ol us, [u] => if small (us.length + 1) then some (.ol (us ++ [u]), .d .none) else none
  | _, _ => none
def popM : T → List T → Option (T × T)
  | .ol us, [] => us.getLast?.map fun u => (.ol us.dropLast, u)
  | _, _ => none
def idxOk (i : Int) : Bool := decide (-9223372036854775808 ≤ i) && decide (i < 9223372036854775808)
def popAtM : T → List T → Option (T × T)
  | .ol us, [.d (.int i)] => if idxOk i then (seqIndex? i us.length).bind fun k => us[k]?.map fun u => (.ol (us.eraseIdx k), u) else none
  | _, _ => none
def extendM : T → List T → Option (T × T)
  | .ol us, [t] => (lstOf t).bind fun zs => if small (us.length + zs.length) then some (.ol (us ++ zs), .d .none) else none
  | _, _ => none
def reverseM : T → List T → Option (T × T)
  | .ol us, [] => if us.all isStat then some (.ol us.reverse, .d .none) else none
  | _, _ => none
def clearM : T → List T → Option (T × T)
  | .ol _, [] => some (.ol [], .d .none)
  | _, _ => none
section
variable {K : PySem.W.Frag} {mg : Str → Option Value}
theorem ol_inv {F : FH} {H : Hp} {us : List T} {x : V} {A : List Addr} (r : RT K mg F H (.ol us) x A) : ∃ a ws A', x = .ref a ∧ H a = some (.lst ws) ∧ RTs K mg F H us ws A' ∧ A = a :: A' := r
/-- a list rewritten: its new items lie in what was owned, without itself -/
theorem rewrite_ok {F : FH} {H : Hp} {a : Addr} {A : List Addr} {us : List T} {ws : List V} {C : List Addr} (w : Wd F H (a :: A)) (r : RTs K mg F H us ws C) (hC : ∀ b ∈ C, b ∈ A) : RTs K mg F (upd H a (.lst ws)) us ws C :=
  RTs.keep (.refl _) (fun b hb o e => by rw [upd_ne fun z => by subst z; exact (w.rn _ hb).1 List.mem_cons_self]; exact e) us (fun b hb o e => by rw [upd_ne fun z => by subst z; exact (List.nodup_cons.mp w.nd).1 (hC _ hb)]; exact e) r
theorem append_m : MutF K mg rAppend appendM := fun F H x ws t t' τ ts A B Q w r rs e k => by
  unfold appendM at e
  split at e
  · rename_i us u
    split at e
    · rename_i hz
      cases e
      obtain ⟨a, zs, A', rfl, hH, q, rfl⟩ := ol_inv r
      obtain ⟨v, r', B1, B2, e1, q1, q2, e2⟩ := rs
      obtain ⟨e3, e4⟩ := q2
      subst e1 e2 e3 e4
      rw [List.append_nil] at w k
      refine ⟨a, zs, v, rfl, rfl, hH, by rw [← q.length]; have := small_le hz; omega, ?_⟩
      have hm : a ∈ (a :: A') ++ B1 := List.mem_append_left _ List.mem_cons_self
      refine k .non _ ((a :: A') ++ B1) [] (by rw [List.append_nil]; exact Step.write w hm) ⟨a, zs ++ [v], A' ++ B1, rfl, upd_same, rewrite_ok (A := A' ++ B1) w (RTs.snoc q1 q) (fun b hb => hb), rfl⟩ ⟨.non, rfl⟩
    · cases e
  · cases e
theorem RTs.split {F : FH} {H : Hp} : ∀ {us vs : List T} {ws : List V} {C : List Addr}, RTs K mg F H (us ++ vs) ws C → ∃ w1 w2 C1 C2, ws = w1 ++ w2 ∧ C = C1 ++ C2 ∧ RTs K mg F H us w1 C1 ∧ RTs K mg F H vs w2 C2
  | [], vs, ws, C, q => ⟨[], ws, [], C, rfl, rfl, ⟨rfl, rfl⟩, q⟩
  | u :: us, vs, ws, C, ⟨v, r, B1, B2, e1, q1, q2, e2⟩ => by
    obtain ⟨w1, w2, C1, C2, e3, e4, k1, k2⟩ := RTs.split q2
    subst e1 e2 e3 e4
    exact ⟨v :: w1, w2, B1 ++ C1, C2, rfl, by rw [List.append_assoc], ⟨v, w1, B1, C1, rfl, q1, k1, rfl⟩, k2⟩
/-- one item taken out -/
theorem take1 {F : FH} {H : Hp} {a : Addr} {A' B : List Addr} {l1 l2 : List T} {u : T} {zs : List V} (w : Wd F H ((a :: A') ++ B)) (q : RTs K mg F H (l1 ++ u :: l2) zs A') :
    ∃ z1 y z2 C Cu, zs = z1 ++ y :: z2 ∧ z1.length = l1.length ∧ Step F H ((a :: A') ++ B) F (upd H a (.lst (z1 ++ z2))) ((a :: C) ++ Cu) ∧ RT K mg F (upd H a (.lst (z1 ++ z2))) (.ol (l1 ++ l2)) (.ref a) (a :: C) ∧ RT K mg F (upd H a (.lst (z1 ++ z2))) u y Cu := by
  obtain ⟨z1, w2, C1, C2, rfl, rfl, k1, y, z2, D1, D2, rfl, k2, k3, rfl⟩ := RTs.split q
  have pm : ((a :: (C1 ++ (D1 ++ D2))) ++ B).Perm (((a :: (C1 ++ D2)) ++ D1) ++ B) := by
    refine List.Perm.append_right B ?_
    show (a :: (C1 ++ (D1 ++ D2))).Perm (a :: ((C1 ++ D2) ++ D1))
    refine List.Perm.cons a ?_
    rw [List.append_assoc]
    exact List.perm_append_comm.append_left C1
  have w' := (w.perm pm).left
  have hm : a ∈ (a :: (C1 ++ D2)) ++ D1 := List.mem_append_left _ List.mem_cons_self
  refine ⟨z1, y, z2, C1 ++ D2, D1, rfl, k1.length.symm, (((Step.refl w).perm (.refl _) pm).less).trans (Step.write w' hm), ⟨a, z1 ++ z2, C1 ++ D2, rfl, upd_same, rewrite_ok (A := C1 ++ D2) w'.left (RTs.app k1 k3) (fun b hb => hb), rfl⟩, ?_⟩
  refine RT.keep (.refl _) (fun b hb o e => by rw [upd_ne fun z => by subst z; exact (w'.rn _ hb).1 (List.mem_append_left _ List.mem_cons_self)]; exact e) u (fun b hb o e => ?_) k2
  rw [upd_ne fun z => by subst z; exact w'.apart List.mem_cons_self hb]; exact e
theorem pop_m : MutF K mg rPop popM := fun F H x ws t t' τ ts A B Q w r rs e k => by
  unfold popM at e
  split at e
  · rename_i us
    rw [Option.map_eq_some_iff] at e
    obtain ⟨u, hu, e⟩ := e
    simp only [Prod.mk.injEq] at e
    obtain ⟨rfl, rfl⟩ := e
    have hne : us ≠ [] := fun z => by subst z; simp at hu
    have hus : us = us.dropLast ++ [u] := by
      rw [List.getLast?_eq_some_getLast hne] at hu
      have := List.dropLast_concat_getLast hne
      cases hu; exact this.symm
    obtain ⟨a, zs, A', rfl, hH, q, rfl⟩ := ol_inv r
    obtain ⟨e3, e4⟩ := rs
    subst e3 e4
    rw [hus] at q
    obtain ⟨z1, y, z2, C, Cu, rfl, hl, st, r1, r2⟩ := take1 (l2 := []) w q
    have hz2 : z2 = [] := by
      have h5 := q.length
      simp only [List.length_append, List.length_cons, List.length_nil] at h5
      exact List.length_eq_zero_iff.mp (by omega)
    subst hz2
    refine ⟨a, _, y, rfl, rfl, hH, by simp, ?_⟩
    have e5 : (z1 ++ [y]).dropLast = z1 ++ [] := by simp
    rw [e5]
    exact k y _ (a :: C) Cu st (by rw [List.append_nil us.dropLast] at r1; exact r1) r2
  · cases e
theorem popAt_m : MutF K mg rPopAt popAtM := fun F H x ws t t' τ ts A B Q w r rs e k => by
  unfold popAtM at e
  split at e
  · rename_i us i
    split at e
    · rename_i hi
      simp only [Option.bind_eq_some_iff, Option.map_eq_some_iff, Prod.mk.injEq] at e
      obtain ⟨j, hj, u, hu, rfl, rfl⟩ := e
      obtain ⟨a, zs, A', rfl, hH, q, rfl⟩ := ol_inv r
      obtain ⟨v, r', B1, B2, e1, q1, q2, e2⟩ := rs
      obtain ⟨e3, e4⟩ := q2
      obtain ⟨rfl, rfl⟩ := rt_int q1
      subst e1 e2 e3 e4
      obtain ⟨hlt, hget⟩ := List.getElem?_eq_some_iff.mp hu
      have hus : us = us.take j ++ u :: us.drop (j + 1) := by
        rw [← hget, List.getElem_cons_drop, List.take_append_drop]
      have er : us.eraseIdx j = us.take j ++ us.drop (j + 1) := List.eraseIdx_eq_take_drop_succ us j
      have q' := q
      rw [hus] at q'
      obtain ⟨z1, y, z2, C, Cu, rfl, hl, st, r1, r2⟩ := take1 w q'
      have hl' : z1.length = j := by rw [hl, List.length_take]; omega
      simp only [idxOk, Bool.and_eq_true, decide_eq_true_eq] at hi
      refine ⟨a, _, i, j, y, rfl, rfl, hH, by omega, by omega, by rw [← q.length]; exact hj, by rw [← hl']; simp, ?_⟩
      have e5 : (z1 ++ y :: z2).eraseIdx j = z1 ++ z2 := by
        rw [← hl', List.eraseIdx_append_of_length_le (Nat.le_refl _)]; simp
      rw [e5]
      rw [er] at k
      exact k y _ (a :: C) Cu st r1 r2
    · cases e
  · cases e
theorem extend_m : MutF K mg rExtend extendM := fun F H x ws t t' τ ts A B Q w r rs e k => by
  unfold extendM at e
  split at e
  · rename_i us t0
    rw [Option.bind_eq_some_iff] at e
    obtain ⟨zs0, hz0, e⟩ := e
    split at e
    · rename_i hz
      cases e
      obtain ⟨a, zs, A', rfl, hH, q, rfl⟩ := ol_inv r
      obtain ⟨v, r', B1, B2, e1, q1, q2, e2⟩ := rs
      obtain ⟨e3, e4⟩ := q2
      subst e1 e2 e3 e4
      rw [List.append_nil] at w k
      -- the argument: a list with items in B1
      have key : ∃ b ws B', v = .ref b ∧ H b = some (.lst ws) ∧ RTs K mg F H zs0 ws B' ∧ (∃ C, B1.Perm (B' ++ C)) := by
        cases t0 with
        | ol us0 =>
          cases hz0
          obtain ⟨b, ws, B', e5, hb, qb, e6⟩ := ol_inv q1
          subst e6
          exact ⟨b, ws, B', e5, hb, qb, [b], List.perm_append_comm (l₁ := [b])⟩
        | d y =>
          obtain ⟨qd, rfl⟩ := q1
          cases y with
          | list ds =>
            cases hz0
            cases qd with
            | lst s al => exact ⟨_, _, [], rfl, w.sub _ _ s, dpa_rts al, [], .refl _⟩
          | _ => cases hz0
        | bw t =>
          obtain ⟨b, ws, B', e5, hb, qb⟩ := lst_rt w.sub q1 hz0
          refine ⟨b, ws, [], e5, hb, stats_rt qb ?_, B1, .refl _⟩
          simp only [lstOf, Option.map_eq_some_iff] at hz0
          obtain ⟨us, _, rfl⟩ := hz0
          exact bors_stat us
        | _ => cases hz0
      obtain ⟨b, ys, B', rfl, hb, qb, C, pm⟩ := key
      refine ⟨a, b, zs, ys, rfl, rfl, hH, hb, by rw [← q.length, ← qb.length]; exact small_le hz, ?_⟩
      have pm2 : ((a :: A') ++ B1).Perm (((a :: A') ++ B') ++ C) := by rw [List.append_assoc]; exact pm.append_left _
      have w' := (w.perm pm2).left
      have hm : a ∈ (a :: A') ++ B' := List.mem_append_left _ List.mem_cons_self
      exact k .non _ ((a :: A') ++ B') [] (by rw [List.append_nil]; exact (((Step.refl w).perm (.refl _) pm2).less).trans (Step.write w' hm)) ⟨a, zs ++ ys, A' ++ B', rfl, upd_same, rewrite_ok (A := A' ++ B') w' (RTs.app q qb) (fun b hb => hb), rfl⟩ ⟨.non, rfl⟩
    · cases e
  · cases e
theorem RTs.rev {F : FH} {H : Hp} {us : List T} : ∀ {ws : List V} {B : List Addr}, RTs K mg F H us ws B → us.all isStat = true → RTs K mg F H us.reverse ws.reverse [] := by
  induction us with
  | nil => intro ws B ⟨e1, _⟩ _; subst e1; exact ⟨rfl, rfl⟩
  | cons u us ih =>
    intro ws B ⟨v, r, B1, B2, e1, q1, q2, e2⟩ h
    rw [List.all_cons, Bool.and_eq_true] at h
    subst e1
    rw [List.reverse_cons, List.reverse_cons]
    have := RTs.snoc (stat_rt q1 h.1) (ih q2 h.2)
    exact this
theorem reverse_m : MutF K mg rReverse reverseM := fun F H x ws t t' τ ts A B Q w r rs e k => by
  unfold reverseM at e
  split at e
  · rename_i us
    split at e
    · rename_i hst
      cases e
      obtain ⟨a, zs, A', rfl, hH, q, rfl⟩ := ol_inv r
      obtain ⟨e3, e4⟩ := rs
      subst e3 e4
      refine ⟨a, zs, rfl, rfl, hH, ?_⟩
      have q' := RTs.rev q hst
      rw [List.append_nil] at w k
      have w1 : Wd F H ([a] ++ A') := w
      have st : Step F H (a :: A') F H ([a] ++ A') := Step.refl w
      exact k .non _ [a] [] (by rw [List.append_nil]; exact st.less.trans (Step.write w1.left (by simp))) ⟨a, zs.reverse, [], rfl, upd_same, rewrite_ok (A := []) w1.left q' (fun b hb => hb), rfl⟩ ⟨.non, rfl⟩
    · cases e
  · cases e
theorem clear_m : MutF K mg rClear clearM := fun F H x ws t t' τ ts A B Q w r rs e k => by
  unfold clearM at e
  split at e
  · rename_i us
    cases e
    obtain ⟨a, zs, A', rfl, hH, q, rfl⟩ := ol_inv r
    obtain ⟨e3, e4⟩ := rs
    subst e3 e4
    refine ⟨a, zs, rfl, rfl, hH, ?_⟩
    rw [List.append_nil] at w k
    have w1 : Wd F H ([a] ++ A') := w
    have st : Step F H (a :: A') F H ([a] ++ A') := Step.refl w
    exact k .non _ [a] [] (by rw [List.append_nil]; exact st.less.trans (Step.write w1.left (by simp))) ⟨a, [], [], rfl, upd_same, ⟨rfl, rfl⟩, rfl⟩ ⟨.non, rfl⟩
  · cases e
end
def eMut (f : T → List T → Option (T × T)) (i : Nat) (margs : M (List T)) : M T := fun ρ => match slot ρ i with
  | some (.ol _) => (margs.bind fun ts => fun ρ1 => match ρ1[i]? with
    | some (some (t, b)) => (match f t ts with
      | some (t', r) => .ok r (ρ1.set i (some (t', b)))
      | none => .bad)
    | _ => .bad) ρ
  | _ => .bad
section
variable {X : Cx} {vs : Fx} {W : WX} {e a b : Expr} {es : List Expr} {ms : M (List T)} {pos apos cpos : Pos}
theorem mut_rd {r : V → List V → Hp → VK → Prop} {f : T → List T → Option (T × T)} {t : TA} (i : Nat) (hf : MutF X.K X.mg r f)
    (qs : ∀ (σ : L2.St) (H : Hp) (F : FH) (ρ : Env) (A : List Addr) (Q : List V → Hp → Prop), Wd F H A → Rep X.K X.mg vs F H σ ρ A → AQ X.K X.mg vs W F H σ A Q (ms ρ) → t σ H Q)
    (σ : L2.St) (H : Hp) (F : FH) (ρ : Env) (A : List Addr) (Q : VK) (w : Wd F H A) (rp : Rep X.K X.mg vs F H σ ρ A) (hq : EQ X.K X.mg vs W F H σ A Q (eMut f i ms ρ)) :
    ∃ v, σ[i]? = some (some v) ∧ tyV X.K "list" v H ∧ t σ H fun ws H2 => r v ws H2 Q := by
  unfold eMut at hq
  cases hs : slot ρ i with
  | none => simp only [hs] at hq; exact hq.elim
  | some t0 =>
    cases t0 with
    | ol us =>
      simp only [hs] at hq
      obtain ⟨x, A0, h0, r0⟩ := rp.sl.rt hs
      obtain ⟨a, zs, A', rfl, hH, _⟩ := ol_inv r0
      refine ⟨.ref a, h0, .inl ⟨rfl, _, .of hH⟩, ?_⟩
      refine qs σ H F ρ A _ w rp ?_
      unfold M.bind at hq
      cases e1 : ms ρ with
      | bad => rw [e1] at hq; exact hq
      | exc c x ρ' => rw [e1] at hq; exact hq
      | ok ts ρ1 =>
        rw [e1] at hq
        simp only [Out.bind] at hq
        intro ws F1 H1 A1 B1 st1 rp1 r1
        split at hq
        · rename_i t b hsl
          split at hq
          · rename_i t' τ hft
            obtain ⟨v, C1, C2, h1, h2, h3, h4⟩ := rp1.sl.take hsl
            rw [h0] at h1; cases h1
            have pm : (A1 ++ B1).Perm ((C1 ++ B1) ++ C2) := by
              refine (h3.append_right B1).trans ?_
              rw [List.append_assoc, List.append_assoc]
              exact List.perm_append_comm.append_left C1
            have w2 := st1.wd.perm pm
            refine hf F1 H1 (.ref a) ws t t' τ ts C1 B1 Q w2.left h2 r1 hft fun v H' D D' s2 k1 k2 => ?_
            have s2w := s2.wide w2
            have r4 := h4.keep (F' := F1) (H' := H') (.refl _) (fun b hb o e => s2.fr b o e fun h => (w2.rn b hb).1 (List.mem_append_left _ h)) fun b hb o e => s2.fr b o e fun h => w2.apart h hb
            have pm3 : ((D ++ D') ++ C2).Perm ((C2 ++ D) ++ D') := by
              refine List.perm_append_comm.trans ?_
              rw [List.append_assoc]
            have s3 : Step F H A F1 H' ((C2 ++ D) ++ D') := st1.trans (s2w.perm pm.symm pm3)
            obtain ⟨A', s4, r5⟩ := fill_ok b i s3.wd.left r4 k1 h0
            rw [List.set_set] at r5
            refine hq v F1 H' A' D' (s3.trans (s4.wide s3.wd)) ⟨rp1.fx, rp1.st, r5, fun j u hj => ?_⟩ k2
            by_cases hij : i = j
            · subst hij
              obtain ⟨hlt, _⟩ := List.getElem?_eq_some_iff.mp hsl
              rw [List.getElem?_set_self hlt] at hj
              simp only [Option.some.injEq, Prod.mk.injEq] at hj
              obtain ⟨_, rfl⟩ := hj
              exact rp1.io i _ hsl
            · rw [List.getElem?_set_ne hij] at hj
              exact rp1.io j u hj
          · exact hq.elim
        · exact hq.elim
    | _ => simp only [hs] at hq; exact hq.elim
/-- x.m(a, ..) -/
theorem fe_mut {name : Str} {id : String} {r : V → List V → Hp → VK → Prop} {f : T → List T → Option (T × T)} {p : Pos} {x : Str} (i : Nat) (slot : Slot "list" name id) (hty : typeOf (.builtin id) = pure (.type "method_descriptor")) (hm : MtR X id r) (hf : MutF X.K X.mg r f) (ha : FAs X vs W (e :: es) ms)
    (hN : X.N[i]? = some x := by rfl) (hv : Vis X.env.scope x := by first | exact Or.inl rfl | exact Or.inr (Or.inl rfl) | exact Or.inr (Or.inr rfl)) (hd : (x == ("__debug__" : Str)) = false := by decide) (hcd : (x == ("__classdict__" : Str)) = false := by decide)
    (hbase : attributeBase (.Name x p) name X.env (eval (.Name x p) X.env) = eval (.Name x p) X.env := by rfl)
    (hfew : ((backTo cpos (starEach (e :: es) X.env)).all (fun x => !x.1) && (backToKw cpos (keywordEach [] X.env)).all (fun x => x.1.isSome)
      && decide ((e :: es).length + ([] : List Keyword).length + (if ([] : List Keyword).isEmpty then 0 else 1) < 30)) = true := by rfl)
    (hline : (apos.endLine == cpos.line) = true := by rfl) (hs : starEach (e :: es) X.env = (false, eval e X.env) :: starEach es X.env := by rfl) (hplain : (backTo cpos (starEach es X.env)).any (·.1) = false := by rfl) :
    FE X vs W (.Call (.Attribute (.Name x p) name apos) (e :: es) [] cpos) (eMut f i ms) := by
  obtain ⟨t, pt, qt⟩ := ha
  exact ⟨_, pe_bm PySem.F.plainAttrs_list slot hty hm (pe_var (i := i) hN hv hd hcd) pt hbase hfew hline hs hplain, fun σ H F ρ A Q w rp hq => mut_rd i hf qt σ H F ρ A Q w rp hq⟩
theorem fe_mut0 {name : Str} {id : String} {r : V → List V → Hp → VK → Prop} {f : T → List T → Option (T × T)} {p : Pos} {x : Str} (i : Nat) (slot : Slot "list" name id) (hty : typeOf (.builtin id) = pure (.type "method_descriptor")) (hm : MtR X id r) (hf : MutF X.K X.mg r f)
    (hN : X.N[i]? = some x := by rfl) (hv : Vis X.env.scope x := by first | exact Or.inl rfl | exact Or.inr (Or.inl rfl) | exact Or.inr (Or.inr rfl)) (hd : (x == ("__debug__" : Str)) = false := by decide) (hcd : (x == ("__classdict__" : Str)) = false := by decide)
    (hbase : attributeBase (.Name x p) name X.env (eval (.Name x p) X.env) = eval (.Name x p) X.env := by rfl) (hline : (apos.endLine == cpos.line) = true := by rfl) :
    FE X vs W (.Call (.Attribute (.Name x p) name apos) [] [] cpos) (eMut f i aNil) := by
  obtain ⟨t, pt, qt⟩ := fa_nil (X := X) (vs := vs) (W := W)
  refine ⟨_, pe_bm0 PySem.F.plainAttrs_list slot hty hm (pe_var (i := i) hN hv hd hcd) hbase hline, fun σ H F ρ A Q w rp hq => ?_⟩
  have := mut_rd (ms := aNil) (vs := vs) (W := W) (t := tNil) i hf (fun σ H F ρ A Q w r hq => hq [] F H A [] (by rw [List.append_nil]; exact .refl w) r ⟨rfl, rfl⟩) σ H F ρ A Q w rp hq
  exact this
end
end FL

set_option Elab.async false
set_option linter.all false
set_option maxRecDepth 100000
namespace FL
open PySem PySem.Spec PyProof.Rows L2

/-! ### defs that are called where no repr is under way -/
structure FnG (P : Program) (w : World) (K : PySem.W.Frag) (mg : Str → Option Value) (base : Heap) (k : Nat) (f : Addr) (fd : FuncData) (ps : List Str) (sp : Sp) : Prop where
  len : ∀ ws H Q E, sp ws H Q E → ws.length = ps.length
  run : ∀ (A : Around) (outer : List PySem.Env) (s : Shared) (H : Hp) (args : Args) (us : List Value) (ws : List V) (Q : VK) (E : XK), Room k A → A.guards = some [] → Env0 P w K mg base A outer s H → BindsTo s fd args (ps.zip us) → Vals ws us → sp ws H Q E →
    codeAny (model P w) A (.call (.ref f) args) (CR (L2.CX P w) outer P w H s Q E) s
theorem FnG.of {P : Program} {w : World} {K : PySem.W.Frag} {mg : Str → Option Value} {base : Heap} {k : Nat} {f : Addr} {fd : FuncData} {ps : List Str} {sp : Sp} (G : FnOk P w K mg base (L2.CX P w) k f fd ps sp) : FnG P w K mg base k f fd ps sp :=
  ⟨G.len, fun A outer s H args us ws Q E hr _ => G.run A outer s H args us ws Q E hr⟩
section
variable {X : Cx} {vs : Fx} {W : WX}
theorem callOk_ofG {k : Nat} {f : Addr} {fd : FuncData} {ps : List Str} {sp : Sp} (tk : Takes X W) (G : FnG X.prog X.w X.K X.mg X.base k f fd ps sp) (hr : Room k X.A) (hg : X.A.guards = some []) (hb : Binds X.K fd ps []) : CallOk X W f sp :=
  fun pins σ H s Q us ws I r h => by
    have hl : us.length = ps.length := by rw [← r.length]; exact G.len _ _ _ _ h
    have b := hb s us I.kIn (by rw [List.append_nil]; exact hl)
    rw [List.append_nil] at b
    refine wpAny_call (codeAny_mono (G.run X.A X.stack s H ⟨us, []⟩ us ws Q _ hr hg I.env0 b r h) fun res s' hq => ?_)
    match res, hq with
    | .error e, hq => exact passAt tk σ pins H s e s' I hq
    | .ok (.ret u), hq => exact I.after hq
    | .ok .next, hq => exact False.elim hq
    | .ok .brk, hq => exact False.elim hq
    | .ok .cont, hq => exact False.elim hq
end
/-- THE RULE for such a def -/
theorem fn_okG {P : Program} {w : World} {K : PySem.W.Frag} {mg : Str → Option Value} {base : Heap} {x qual : Str} {st : Stmt} {f : Addr} {fd : FuncData} {N ps : List Str} {k : Nat} {m : Env → Fl} (F : Fun K x qual st f fd) (S : FnScope N ps (defScope st))
    (hbody : ∀ (cdv : Value) (A : Around) (outer : List PySem.Env) (s : Shared) (H : Hp) (ws : List V) (E : XK), Room k (A.deeper (envOfC qual (defScope st) s.heap.objs.size f cdv)) → A.guards = some [] →
      FB (cxOf (L2.CX P w) P w K mg base N qual (defScope st) f cdv A outer s H E) (Fx.of ws) (fun c d _ H => E c d H) (defBody st) m) :
    FnG P w K mg base (k + 1) f fd ps (spF K mg ps.length (runF N.length ps.length m)) := by
  obtain ⟨oc, od, kV, doc, pm, an, cdv, ct, osl, rfl, lk, hcd⟩ := F.ex
  have len : ∀ (ws : List V) (H : Hp) (Q : VK) (E : XK), spF K mg ps.length (runF N.length ps.length m) ws H Q E → ws.length = ps.length := fun ws H Q E ⟨F', ts, A, wd, rt, hl, _⟩ => by rw [← rt.length]; exact hl
  refine ⟨len, fun A outer s H args us ws Q E hr hg e0 hb r hsp => ?_⟩
  have KX : K.In s.heap := e0.mod.kin.keeps fun b o e => (e0.bs b o e).1
  have lim : s.heap.NoLimit := e0.mod.nolimit.keeps fun b o e => (e0.bs b o e).1
  have hkind : ((ps.zip us).all fun y => (defScope st).names.lookup y.1 == some .local || (defScope st).names.lookup y.1 == some .cell) = true := List.all_eq_true.mpr fun ⟨n, v⟩ hy => by
    rcases S.par n (List.of_mem_zip hy).1 with q | q <;> simp [q]
  refine Att.call_fn KX lim lk hcd hr.depth hb hkind (fun s1 hx => ?_) S.co S.gen S.kind
  -- the body, by the rule for a def that asks nothing of what is around
  obtain ⟨t, p, q⟩ := hbody cdv A outer s H ws E (hr.deeper _) hg
  have hwl := len _ _ _ _ hsp
  have I := inv_start (CX := L2.CX P w) (E := E) S hr.hd e0 hwl r hx
  obtain ⟨F', ts, A', wd, rt, hl, hq⟩ := hsp
  have ro : ∀ {F1 : FH} {H1 : Hp} {σ : L2.St} {ρ : Env} {A1 : List Addr}, Rep K mg (Fx.of ws) F1 H1 σ ρ A1 → ∃ A2 A3, A1.Perm (A2 ++ A3) ∧ ROut K mg F1 H1 (outsE ps.length ρ) ws A2 := fun {F1 H1 σ ρ A1} rp => by
    rw [← hwl]; exact RSl.outs rp.sl rp.io
  have fin := p.run [] s1 (L2.start N ws) H { nx := fun _ H' => Q .non H', rt := Q } I (q _ (L2.start N ws) H F' (startE N.length ts) A' wd (rep_start rt) (by
    unfold runF at hq
    cases e : m (startE N.length ts) with
    | nx ρ =>
      rw [e] at hq
      intro σ' F1 H1 A1 st rp
      obtain ⟨A2, A3, pm, r2⟩ := ro rp
      exact hq .non F1 H1 [] A2 (by rw [List.append_nil]; exact (st.perm (.refl _) pm).less) ⟨.non, rfl⟩ r2
    | rt τ ρ =>
      rw [e] at hq
      intro v σ' F1 H1 A1 B st rp rtv
      obtain ⟨A2, A3, pm, r2⟩ := ro rp
      refine hq v F1 H1 B A2 ?_ rtv r2
      have : (A1 ++ B).Perm ((A2 ++ B) ++ A3) := by
        refine (pm.append_right B).trans ?_
        rw [List.append_assoc, List.append_assoc]
        exact List.perm_append_comm.append_left A2
      exact (st.perm (.refl _) this).less
    | exc c x ρ =>
      rw [e] at hq
      intro cls d σ' F1 H1 A1 st rp ex
      obtain ⟨A2, A3, pm, r2⟩ := ro rp
      exact hq cls d F1 H1 A2 (st.perm (.refl _) pm).less r2 ex
    | bk ρ => rw [e] at hq; exact hq.elim
    | ct ρ => rw [e] at hq; exact hq.elim
    | bad => rw [e] at hq; exact hq.elim))
  refine wpAny_mono fin (fun fl s' hs => ?_) fun e s' hs => hs
  match fl, hs with
  | .ret u, ⟨v, σ', H', J, rv, q⟩ => exact ⟨v, H', J.os, J.bare, J.base, J.hok, rv, q⟩
  | .next, ⟨σ', H', J, q⟩ => exact ⟨V.non, H', J.os, J.bare, J.base, J.hok, rfl, q⟩
  | .brk, ⟨_, _, _, q⟩ => exact False.elim q
  | .cont, ⟨_, _, _, q⟩ => exact False.elim q

/-! ### the end of a law: its def, called with the script -/
section
variable {P : Program} {w : World} {K : PySem.W.Frag} {mg mb : Str → Option Value} {s : Shared} {a : Addr} {us : List Value} {ns : List Int}
/-- the heap at the law's entry, with H tracked: nothing of it but the script -/
theorem entry_mod {H : Hp} (KX : K.In s.heap) (hg : s.heap.Ns mainGlobals mg) (hb : s.heap.Ns builtinsNs mb) (hbb : ∀ x : Str, x ≠ "__name__" → mb x = bootBuiltins x) (hlim : s.heap.NoLimit)
    (ha : s.heap.get? a = some { cls := .type "list", data := .seq us.toArray }) (hH : ∀ b, H b ≠ none → b = a ∧ K.lookup a = none) : Mod K mg (hidT s.heap H) := by
  have free : ∀ {b : Addr} {o : Obj}, s.heap.get? b = some o → (b = a → K.lookup a ≠ none ∨ ∃ es ep, o.data = .dict es ep) → H b = none := fun {b o} e h => by
    cases q : H b with
    | none => rfl
    | some u =>
      obtain ⟨e1, e2⟩ := hH b (by rw [q]; simp)
      rcases h e1 with h | ⟨es, ep, hd⟩
      · exact absurd e2 h
      · subst e1
        rw [ha] at e; cases e
        have hd : Data.seq us.toArray _ = Data.dict es ep := hd
        cases hd
  have ns : ∀ {b : Addr} {m : Str → Option Value}, s.heap.Ns b m → (hidT s.heap H).Ns b m := fun {b m} hn => by
    obtain ⟨o, es, ep, e, d, r⟩ := hn
    exact ⟨o, es, ep, hidT_get e (free e fun _ => .inr ⟨es, ep, d⟩), d, r⟩
  obtain ⟨mc, h1, h2⟩ := hlim
  refine ⟨fun b o e => hidT_get (KX b o e) (free (KX b o e) fun eb => .inl ?_), ns hg, ⟨mb, ns hb, hbb⟩, mc, ns h1, h2⟩
  subst eb
  rw [e]; simp
theorem law_end {k : Nat} {fa : Addr} {fd : FuncData} {x : Str} {fn : List T → Rs} (KX : K.In s.heap) (hg : s.heap.Ns mainGlobals mg) (hb : s.heap.Ns builtinsNs mb) (hbb : ∀ x : Str, x ≠ "__name__" → mb x = bootBuiltins x) (hlim : s.heap.NoLimit) (hgen : s.gens = #[])
    (ha : s.heap.get? a = some { cls := .type "list", data := .seq us.toArray }) (hi : IntsAre us ns) (hl : ns.length ≤ sizeLine) (hr : Room k callerA)
    (G : ∀ base : Heap, K.In base → base.Ns mainGlobals mg → FnG P w K mg base k fa fd [x] (spF K mg 1 fn)) (hbind : ∀ (s : Shared) (u : Value), BindsTo s fd ⟨[u], []⟩ [(x, u)])
    (hfn : ∃ outs, fn [.scr ns] = .ok (.d (.bool true)) outs) :
    codeAny (model P w) callerA (.call (.ref fa) ⟨[.ref a], []⟩) (fun r s' => r = .ok (.ret (.bool true)) ∧ OldK s.heap s'.heap ∧ s'.os = s.os ∧ AllBare s'.gens) s := by
  have rv : Vals (ns.map V.int) us := vals_of_ints hi
  have hlen : us.length = ns.length := by rw [← rv.length, List.length_map]
  obtain ⟨outs, hfn⟩ := hfn
  have core : ∀ H : Hp, (∀ b, H b ≠ none → b = a ∧ K.lookup a = none) → (∀ b u, H b = some u → ∃ o v, u = .frz o v) → SqL K H a (ns.map V.int) → HOk P w H s.heap →
      codeAny (model P w) callerA (.call (.ref fa) ⟨[.ref a], []⟩) (fun r s' => r = .ok (.ret (.bool true)) ∧ OldK s.heap s'.heap ∧ s'.os = s.os ∧ AllBare s'.gens) s := fun H hH hz sq ok => by
    have M := entry_mod KX hg hb hbb hlim ha hH
    have e0 : Env0 P w K mg (hidT s.heap H) callerA [] s H := ⟨rfl, M, fun b o e => of_hidT e, Nat.le_of_eq (hidT_size _ _), trivial, fun b hb => (by cases hb), ok, .of_eq hgen⟩
    have hsp : spF K mg 1 fn [.ref a] H (fun v _ => v = .bl true) (fun _ _ _ => False) := by
      refine ⟨⟨H, []⟩, [.scr ns], [], ⟨.refl H, .nil, fun _ hb => (by cases hb), fun _ hb => (by cases hb), fun _ hb => (by cases hb)⟩, ⟨.ref a, [], [], [], rfl, ⟨a, rfl, sq, rfl⟩, ⟨rfl, rfl⟩, rfl⟩, rfl, ?_⟩
      rw [hfn]
      exact fun v F' H' B Bo _ rt _ => (rt_bool rt).1
    refine codeAny_mono ((G _ M.kin M.glob).run callerA [] s H ⟨[.ref a], []⟩ [.ref a] [.ref a] _ _ hr rfl e0 (hbind s (.ref a)) (.cons rfl .nil) hsp) fun res s' hq => ?_
    match res, hq with
    | .error e, hq =>
      obtain ⟨_, _, _, _, _, _, _, _, _, _, _, _, hf⟩ := hq
      exact hf.elim
    | .ok .next, hq => exact False.elim hq
    | .ok .brk, hq => exact False.elim hq
    | .ok .cont, hq => exact False.elim hq
    | .ok (.ret u), ⟨v, H', os, bare, un, ok', r', q⟩ =>
      have q : v = .bl true := q
      subst q
      have r' : u = Value.bool true := r'
      subst r'
      refine ⟨rfl, OldK.of_keep fun b o e => ?_, os, bare⟩
      cases hb : H b with
      | none => exact un.keep b o e hb (fun hm => by cases hm) (fun hm => by cases hm)
      | some u =>
        obtain ⟨ob, v, rfl⟩ := hz b u hb
        have h1 := (ok b _ hb).1
        have h2 := (ok' b _ (un.frzs b ob v hb)).1
        rw [e] at h1; cases h1
        exact h2
  cases hk : K.lookup a with
  | some o =>
    have e := KX a o hk
    rw [ha] at e
    cases e
    exact core (fun _ => none) (fun b hb => absurd rfl hb) (fun b u hu => by cases hu) (.inr ⟨_, us.toArray, _, hk, rfl, rfl, rfl, by rw [List.size_toArray, hlen]; exact hl, by simpa using rv⟩) (fun b u hu => by cases hu)
  | none =>
    refine core (fun b => if b = a then some (.frz { cls := .type "list", data := .seq us.toArray } (.lst (ns.map V.int))) else none) (fun b hb => ⟨?_, hk⟩) (fun b u hu => ?_) (.inl (.inr ⟨_, if_pos rfl⟩)) fun b u hu => ?_
    · by_cases e : b = a
      · exact e
      · exact absurd (if_neg e) hb
    · by_cases e : b = a
      · have hu := (if_pos e).symm.trans hu
        cases hu; exact ⟨_, _, rfl⟩
      · have hu := (if_neg e).symm.trans hu
        cases hu
    · by_cases e : b = a
      · have hu := Option.some.inj ((if_pos e).symm.trans hu)
        subst hu e
        exact ⟨ha, by rw [List.length_map]; exact hl, us, _, rv, ha⟩
      · have hu := (if_neg e).symm.trans hu
        cases hu
end
/-- the goal that k_head leaves -/
theorem walk_fl {l : PySem.W.OpenLaw} {n k : Nat} {q : Program} {loose : List Str} {XP : (Str → Option Value) → Heap → Prop} {YP : World → Heap → Prop} {d : DefRec} {K : Params → PySem.W.Frag} {fn : (w : World) → List T → Rs} {x : Str}
    (hn : l.most = some n) (hn2 : n ≤ sizeLine) (hdf : d.params.defaults = []) (hr : Room k callerA) (hY : ∀ (w : World) (h : Heap), YP w h → (K w.params).In h)
    (G : ∀ (w : World) (mg : Str → Option Value) (fa : Addr) (h : Heap), (K w.params).In h → h.Ns mainGlobals mg → mg d.name = some (.ref fa) →
      ∃ fd : FuncData, (∀ (s : Shared) (u : Value), BindsTo s fd ⟨[u], []⟩ [(x, u)]) ∧ ∀ base : Heap, (K w.params).In base → base.Ns mainGlobals mg → FnG l.prog w (K w.params) mg base k fa fd [x] (spF (K w.params) mg 1 (fn w)))
    (hfn : ∀ (w : World) (ns : List Int), ns.length ≤ n → (∀ z ∈ ns, Builtin.Int.intBits z ≤ 1048576) → ∃ outs, fn w [.scr ns] = .ok (.d (.bool true)) outs) :
    PySem.W.WalkO q loose XP YP l.row.toRowW d [] (fun f vs => PySem.call f vs) := by
  refine Att.attach_callB hn hdf fun w s₀ s₁ mg mb fa o pm cd doc a us ns Gr Y ho hd hcd hmg hobj hints hlen hbits hgen => ?_
  have KX := hY w _ Y
  obtain ⟨fd, hb, hG⟩ := G w mg fa _ KX Gr.T.g hmg
  exact law_end KX Gr.T.g Gr.T.b Gr.T.builtins Gr.T.nolimit hgen hobj hints (Nat.le_trans hlen hn2) hr hG hb (hfn w ns hlen hbits)
end FL

set_option Elab.async false
set_option linter.all false
set_option maxRecDepth 100000
namespace FL
open PySem PySem.Spec PyProof.Rows L2

/-! ### x[i] = e, x a list that a name holds -/
def sSetI (i : Nat) (me : M T) (mi : M Opd) : Env → Fl := fun ρ => match slot ρ i with
  | some _ => (match me ρ with
    | .ok t ρ1 => (match mi ρ1 with
      | .ok o ρ2 => (match ρ2[i]?, res ρ2 o with
        | some (some (.ol ts, b)), some (.d (.int k)) => (match ixN ts.length k with
          | some j => .nx (ρ2.set i (some (.ol (ts.set j t), b)))
          | none => .bad)
        | _, _ => .bad)
      | .exc c x ρ2 => .exc c x ρ2
      | .bad => .bad)
    | .exc c x ρ1 => .exc c x ρ1
    | .bad => .bad)
  | none => .bad
section
variable {K : PySem.W.Frag} {mg : Str → Option Value}
/-- one item put in another's place -/
theorem RTs.set1 {F : FH} {H : Hp} {t : T} {v : V} {B : List Addr} (r : RT K mg F H t v B) : ∀ {ts : List T} {ws : List V} {C : List Addr} {j : Nat}, RTs K mg F H ts ws C → j < ts.length → ∃ C1 C2, C.Perm (C1 ++ C2) ∧ ∃ C', C'.Perm (C2 ++ B) ∧ RTs K mg F H (ts.set j t) (ws.set j v) C'
  | u :: ts, ws, C, 0, ⟨w, s, C1, C2, e1, q1, q2, e2⟩, _ => by
    subst e1 e2
    exact ⟨C1, C2, .refl _, B ++ C2, List.perm_append_comm, v, s, B, C2, rfl, r, q2, rfl⟩
  | u :: ts, ws, C, j + 1, ⟨w, s, C1, C2, e1, q1, q2, e2⟩, h => by
    subst e1 e2
    obtain ⟨D1, D2, p, D', p', q'⟩ := RTs.set1 r q2 (j := j) (by simpa using h)
    refine ⟨D1, C1 ++ D2, ?_, C1 ++ D', ?_, w, s.set j v, C1, D', rfl, q1, q', rfl⟩
    · refine (p.append_left C1).trans ?_
      rw [← List.append_assoc, ← List.append_assoc]
      exact List.perm_append_comm.append_right D2
    · rw [List.append_assoc]; exact p'.append_left C1
end
section
variable {X : Cx} {vs : Fx} {W : WX} {e a b o : Expr} {me : M T} {mi : M Opd} {pos tpos : Pos}
theorem fs_setI (i : Nat) {x : Str} {p : Pos} (he : FE X vs W e me) (hi : FO X vs W a mi) (hN : X.N[i]? = some x := by rfl) (hv : Vis X.env.scope x := by first | exact Or.inl rfl | exact Or.inr (Or.inl rfl) | exact Or.inr (Or.inr rfl))
    (hs : swapsWithSole [.Subscript (.Name x p) a tpos] e pos.line X.env = pure false := by rfl) (hw : swappedStores [.Subscript (.Name x p) a tpos] e X.env = pure none := by rfl)
    (h1 : (assignEach [.Subscript (.Name x p) a tpos] X.env).map (·.2) = [assign (.Subscript (.Name x p) a tpos) X.env] := by rfl)
    (ha : ∀ v, assign (.Subscript (.Name x p) a tpos) X.env v = (do
      let ov ← holding [v] (eval (.Name x p) X.env)
      let iv ← holding [v, ov] (eval a X.env)
      standAt tpos
      holding [v, ov, iv] (setItem ov iv v)
      release [v, ov, iv] []) := by intro _; rfl) (hd : (x == ("__debug__" : Str)) = false := by decide) (hcd : (x == ("__classdict__" : Str)) = false := by decide) :
    FS X vs W (.Assign [.Subscript (.Name x p) a tpos] e pos) (sSetI i me mi) := by
  obtain ⟨te, pe, qe⟩ := he
  obtain ⟨ti, pi, qi⟩ := hi
  refine ⟨_, ps_asg pe (pg_sub (pe_var (i := i) hN hv hd hcd) pi set_list ha) hs hw h1, fun D σ H F ρ A w r hq => ?_⟩
  unfold sSetI at hq
  cases h0 : slot ρ i with
  | none => simp only [h0] at hq; exact hq.elim
  | some t0 =>
    simp only [h0] at hq
    obtain ⟨x0, A0, hx0, _⟩ := r.sl.rt h0
    refine qe σ H F ρ A _ w r ?_
    cases e1 : me ρ with
    | bad => rw [e1] at hq; exact hq
    | exc c x ρ' => rw [e1] at hq; exact fun cls d F' H' A' st rp ex => hq cls d σ F' H' A' st rp ex
    | ok t ρ1 =>
      rw [e1] at hq
      simp only at hq
      intro v F1 H1 A1 B1 st1 rp1 r1
      refine ⟨x0, hx0, ?_⟩
      refine qi σ H1 F1 ρ1 A1 _ st1.wd.left rp1 ?_
      cases e2 : mi ρ1 with
      | bad => rw [e2] at hq; exact hq
      | exc c x ρ' => rw [e2] at hq; exact fun cls d F' H' A' st rp' ex => hq cls d σ F' H' A' (st1.compL st) rp' ex
      | ok oi ρ2 =>
        rw [e2] at hq
        simp only at hq
        intro vi F2 H2 A2 B2 st2 rp2 r2
        have r1' := RT.step (t := t) st2 st1.wd r1
        have s2 : Step F H A F2 H2 (A2 ++ B1) := by
          have := (st1.comp st2)
          exact this.perm (.refl _) (by
            rw [List.append_assoc, List.append_assoc]
            exact List.perm_append_comm.append_left A2 : ((A2 ++ B2) ++ B1).Perm ((A2 ++ B1) ++ B2)) |>.less
        split at hq
        · rename_i ts b k hsl hres
          split at hq
          · rename_i j hj
            obtain ⟨x1, C1, C2, h1, h2, h3, h4⟩ := rp2.sl.take hsl
            rw [hx0] at h1; cases h1
            obtain ⟨c, zs, C', rfl, hH, q, rfl⟩ := ol_inv h2
            obtain ⟨B', ri⟩ := r2.res rp2 hres
            obtain ⟨rfl, _⟩ := rt_int ri
            have hjl : j < ts.length := (ixN_seq hj).2.1
            obtain ⟨D1, D2, p1, D', p2, q'⟩ := RTs.set1 r1' q hjl
            refine ⟨c, zs, k, j, rfl, rfl, hH, by rw [← q.length]; exact hj, ?_⟩
            -- the footprint: slot i's (c :: C') with the rest C2, and B1
            have pm : (A2 ++ B1).Perm ((C2 ++ (c :: D')) ++ D1) := by
              refine (h3.append_right B1).trans ?_
              have e1 : ((c :: C') ++ C2 ++ B1).Perm (C2 ++ ((c :: C') ++ B1)) := by
                rw [← List.append_assoc]
                exact List.perm_append_comm.append_right B1
              refine e1.trans ?_
              rw [List.append_assoc]
              refine List.Perm.append_left C2 ?_
              show (c :: (C' ++ B1)).Perm (c :: (D' ++ D1))
              refine List.Perm.cons c ?_
              refine (p1.append_right B1).trans ?_
              rw [List.append_assoc]
              refine List.perm_append_comm.trans ?_
              exact List.Perm.append_right D1 p2.symm
            have s3 := (s2.perm (.refl _) pm).less
            have hm : c ∈ C2 ++ (c :: D') := List.mem_append_right _ List.mem_cons_self
            have s4 := s3.trans (Step.write (o := .lst (zs.set j v)) s3.wd hm)
            have r5 : RT X.K X.mg F2 (upd H2 c (.lst (zs.set j v))) (.ol (ts.set j t)) (.ref c) (c :: D') := ⟨c, zs.set j v, D', rfl, upd_same, rewrite_ok (A := D') s3.wd.right q' (fun b hb => hb), rfl⟩
            have r6 : RSl X.K X.mg F2 (upd H2 c (.lst (zs.set j v))) (ρ2.set i none) σ C2 := h4.keep (.refl _) (fun b hb o e => by
              rw [upd_ne fun z => by subst z; exact (s3.wd.rn _ hb).1 hm]; exact e) fun b hb o e => by
              rw [upd_ne fun z => by subst z; exact s3.wd.apart hb List.mem_cons_self]; exact e
            obtain ⟨A', s5, r7⟩ := fill_ok b i s4.wd r6 r5 hx0
            rw [List.set_set] at r7
            refine hq σ F2 _ A' (s4.trans s5) ⟨rp2.fx, rp2.st, r7, fun l u hl => ?_⟩
            by_cases hij : i = l
            · subst hij
              obtain ⟨hlt, _⟩ := List.getElem?_eq_some_iff.mp hsl
              rw [List.getElem?_set_self hlt] at hl
              simp only [Option.some.injEq, Prod.mk.injEq] at hl
              obtain ⟨_, rfl⟩ := hl
              exact rp2.io i _ hsl
            · rw [List.getElem?_set_ne hij] at hl
              exact rp2.io l u hl
          · exact hq.elim
        · exact hq.elim
end

/-! ### repr -/
def reprT : List T → Option T
  | [t] => t.toD.bind fun x => if x.showable && shal x && small x.shown.length then some (.d (.str x.shown)) else none
  | _ => none
mutual
theorem noDict_of_plain : ∀ x : PyData, x.plain = true → x.hasDict = false
  | .none, _ => rfl
  | .bool _, _ => rfl
  | .int _, _ => rfl
  | .str _, _ => rfl
  | .list xs, h => by simp only [PyData.hasDict]; exact noDict_of_plainAll xs (by simpa only [PyData.plain] using h)
  | .tuple xs, h => by simp only [PyData.hasDict]; exact noDict_of_plainAll xs (by simpa only [PyData.plain] using h)
  | .dict _, h => by cases h
theorem noDict_of_plainAll : ∀ xs : List PyData, PyData.plainAll xs = true → PyData.hasDictAll xs = false
  | [], _ => rfl
  | x :: xs, h => by
    simp only [PyData.plainAll, Bool.and_eq_true] at h
    simp only [PyData.hasDictAll, noDict_of_plain x h.1, noDict_of_plainAll xs h.2, Bool.or_self]
end
def rRepr (K : PySem.W.Frag) : List V → Hp → VK → Prop := fun ws H Q => ∃ x d, ws = [x] ∧ Dp K H x d ∧ d.showable = true ∧ shal d = true ∧ d.shown.length ≤ sizeLine ∧ Q (.str d.shown) H
theorem call_reprP {X : Cx} (hu : X.A.units + 70 < cLine) (hg : X.A.guards = some []) : CallR X (.builtin "repr") (rRepr X.K) := fun pins s σ H xs us Q I r ⟨x, d, e, hd, h1, h2, h3, q⟩ => by
  subst e
  obtain ⟨u, rfl, ru⟩ := vals1 r
  obtain ⟨as, rd⟩ := L2.Dp.reads I d x u hd.lib ru
  have hdp := of_decide_eq_true h2
  have nod := noDict_of_plain d hd.plain
  have fin : ∀ h' u tk, (∀ b o, s.heap.get? b = some o → h'.get? b = some o) → EP X pins σ Q (.str d.shown u) { s with heap := h', toks := tk } := fun h' u tk hk => ⟨.str d.shown, H, I.kept hk, ⟨_, rfl⟩, q⟩
  cases d with
  | none => cases hd; cases ru; exact PySem.P.repr_of_none (fin s.heap s.toks (s.toks + 1) fun _ _ e => e)
  | bool b => cases hd; cases ru; exact PySem.P.repr_of_bool (fin s.heap s.toks (s.toks + 1) fun _ _ e => e)
  | int i =>
    cases hd
    obtain ⟨t, rfl⟩ := ru
    exact PySem.P.repr_of_int (by simpa only [PyData.showable, decide_eq_true_eq] using h1) (fin s.heap s.toks (s.toks + 1) fun _ _ e => e)
  | str y =>
    cases hd
    obtain ⟨t, rfl⟩ := ru
    exact PySem.P.repr_of_str (fin s.heap s.toks (s.toks + 1) fun _ _ e => e) h3
  | list xs =>
    cases hd with
    | lst sq al =>
      cases ru
      exact repr_of_reads' rd h1 (fun z => by rw [nod] at z; cases z) hg (by omega) (fun _ _ e => e) fin h3
  | tuple xs =>
    cases hd with
    | tup sq al =>
      cases ru
      exact repr_of_reads' rd h1 (fun z => by rw [nod] at z; cases z) hg (by omega) (fun _ _ e => e) fin h3
  | dict _ => cases hd
theorem repr_f {K : PySem.W.Frag} {mg : Str → Option Value} : CallF K mg (rRepr K) reprT := fun F H ws ts τ Q s rt e k => by
  unfold reprT at e
  split at e
  · rename_i t
    rw [Option.bind_eq_some_iff] at e
    obtain ⟨x, hx, e⟩ := e
    split at e
    · rename_i hz
      cases e
      rw [Bool.and_eq_true, Bool.and_eq_true] at hz
      obtain ⟨v, B, rfl, q⟩ := rte1 rt
      exact ⟨v, x, rfl, q.borrow s hx, hz.1.1, hz.1.2, small_le hz.2, giveS s k⟩
    · cases e
  · cases e
end FL

set_option Elab.async false
set_option linter.all false
set_option maxRecDepth 100000
namespace FL
open PySem PySem.Spec PyProof.Rows L2

def oLate (i : Nat) : M Opd := fun ρ => match slot ρ i with
  | some _ => oL i ρ
  | none => .bad
def negT : T → Option T
  | .d (.int i) => some (.d (.int (-i)))
  | _ => none
/-! ### a, b = x, y stored from the right -/
def sPar2 (i j : Nat) (ms : M (List T)) : Env → Fl := fun ρ => match ms ρ with
  | .ok [t, u] ρ' => .nx ((ρ'.set i (some (t, false))).set j (some (u, false)))
  | .exc c x ρ' => .exc c x ρ'
  | _ => .bad
section
variable {X : Cx} {vs : Fx} [Fx.Free vs] {W : WX} {e a b c : Expr} {es : List Expr} {ms : M (List T)} {mo : M Opd} {pos : Pos}
theorem fo_late (i : Nat) {x : Str} (hN : X.N[i]? = some x := by rfl) (hv : Vis X.env.scope x := by first | exact Or.inl rfl | exact Or.inr (Or.inl rfl) | exact Or.inr (Or.inr rfl)) (hd : (x == ("__debug__" : Str)) = false := by decide)
    (hcd : (x == ("__classdict__" : Str)) = false := by decide) : FO X vs W (.Name x pos) (oLate i) := fo_l i hN hv hd hcd
theorem fe_neg (ha : FO X vs W a mo) : FE X vs W (.UnaryOp .USub a pos) (eOp1 negT mo) := fe_one ha (r := rU fun i => .int (-i)) (fun F H x t τ A1 Q s r1 e k => by
  unfold negT at e
  split at e
  · cases e
    obtain ⟨rfl, _⟩ := rt_int r1
    exact ⟨_, rfl, giveI s k⟩
  · cases e) fun ta pa => pe_un un_neg pa
theorem fs_par2 (i j : Nat) {x y : Str} {px py pt : Pos} {kt k2 pt2} (hc : X.calm = true) (hN : X.N.Nodup) (ha : FAs X vs W [a, b] ms) (hij : i ≠ j) (hi : X.N[i]? = some x := by rfl) (hj : X.N[j]? = some y := by rfl)
    (hx : X.env.scope.names.lookup x = some .local := by rfl) (hy : X.env.scope.names.lookup y = some .local := by rfl)
    (hw : swappedStores [.Tuple [.Name x px, .Name y py] kt pt] (.Tuple [a, b] k2 pt2) X.env = pure (some [x, y]) := by rfl)
    (hs : swapsWithSole [.Tuple [.Name x px, .Name y py] kt pt] (.Tuple [a, b] k2 pt2) pos.line X.env = pure false := by rfl) :
    FS X vs W (.Assign [.Tuple [.Name x px, .Name y py] kt pt] (.Tuple [a, b] k2 pt2) pos) (sPar2 i j ms) := by
  obtain ⟨t, p, q⟩ := ha
  refine ⟨_, ps_par hc hN hi hj hij hx hy p hw hs, fun D σ H F ρ A w r hq => ?_⟩
  refine q σ H F ρ A _ w r ?_
  unfold sPar2 at hq
  cases e1 : ms ρ with
  | bad => rw [e1] at hq; exact hq
  | exc c x ρ' => rw [e1] at hq; exact fun cls d F' H' A' st rp ex => hq cls d σ F' H' A' st rp ex
  | ok ts ρ1 =>
    rw [e1] at hq
    intro ws F1 H1 A1 B st rp rs
    match ts, rs, hq with
    | [], _, hq => exact hq.elim
    | [_], _, hq => exact hq.elim
    | _ :: _ :: _ :: _, _, hq => exact hq.elim
    | [t, u], ⟨v, r1, B1, B2, e2, q1, ⟨v2, r2, C1, C2, e3, q2, ⟨e4, e5⟩, e6⟩, e7⟩, hq =>
      subst e4 e5 e6 e3 e7 e2
      rw [List.append_nil, ← List.append_assoc] at st
      obtain ⟨A2, s2, rp2⟩ := rp.store st.wd.left q1 i
      have s2w := s2.wide st.wd
      have q2' : RT X.K X.mg F1 H1 u v2 C1 := q2
      obtain ⟨A3, s3, rp3⟩ := rp2.store s2w.wd q2' j
      exact ⟨v, v2, rfl, hq _ F1 H1 A3 ((st.trans s2w).trans s3) rp3⟩
end
end FL

set_option Elab.async false
set_option linter.all false
set_option maxRecDepth 100000
namespace FL
open PySem PySem.Spec PyProof.Rows L2
theorem hu70 {k : Nat} {A : Around} (h : Room k A) : A.units + 70 < cLine := by have := h.un; omega
section
variable {X : Cx}
theorem eqR (hu : X.A.units + 70 < cLine) : OpR X (compareOp .Eq) (rEqP X.K) := eq_r (by omega)
theorem neR (hu : X.A.units + 70 < cLine) : OpR X (compareOp .NotEq) (rNeP X.K) := ne_r (by omega)
theorem inR (hu : X.A.units + 70 < cLine) : OpR X (compareOp .In) (rIn2 X.K) := in2_r (by omega)
theorem notInR (hu : X.A.units + 70 < cLine) : OpR X (compareOp .NotIn) (rNotIn2 X.K) := notIn2_r (by omega)
theorem reprR (hu : X.A.units + 70 < cLine) (hg : X.A.guards = some []) : CallR X (.builtin "repr") (rRepr X.K) := call_reprP hu hg
end
/-- a def of the text: what it computes -/
def DefG (P : Program) (w : World) (K : PySem.W.Frag) (mg : Str → Option Value) (base : Heap) (x : Str) (k n : Nat) (fn : List T → Rs) : Prop :=
  ∃ (f : Addr) (fd : FuncData) (ps : List Str), FnG P w K mg base k f fd ps (spF K mg n fn) ∧ Binds K fd ps [] ∧ mg x = some (.ref f) ∧ PySem.W.keepIn K (.ref f) = true
/-- .. whatever is around -/
def DefO (P : Program) (w : World) (K : PySem.W.Frag) (mg : Str → Option Value) (base : Heap) (x : Str) (k n : Nat) (fn : List T → Rs) : Prop :=
  ∃ (f : Addr) (fd : FuncData) (ps : List Str), FnOk P w K mg base (L2.CX P w) k f fd ps (spF K mg n fn) ∧ Binds K fd ps [] ∧ mg x = some (.ref f) ∧ PySem.W.keepIn K (.ref f) = true
section
variable {X : Cx} {vs : Fx} {W : WX} {e : Expr} {es : List Expr} {mos : M (List Opd)} {pos : Pos}
theorem fe_defG {x : Str} {p : Pos} {k n : Nat} {fn : List T → Rs} (D : DefG X.prog X.w X.K X.mg X.base x k n fn) (tk : Takes X W) (hr : Room k X.A) (hgu : X.A.guards = some [])
    (ha : FOs X vs W (e :: es) mos) (hn : ∀ ρ os ρ', mos ρ = .ok os ρ' → os.length = n) (hg : Gl X x := by rfl) (hdb : (x == ("__debug__" : Str)) = false := by decide) (he : starEach (e :: es) X.env = (false, eval e X.env) :: starEach es X.env := by rfl) (hpl : (backTo pos (starEach es X.env)).any (·.1) = false := by rfl) :
    FE X vs W (.Call (.Name x p) (e :: es) [] pos) (eFun fn mos) := by
  obtain ⟨f, fd, ps, G, b, m, kp⟩ := D
  exact fe_fun (callOk_ofG tk G hr hgu b) m kp ha hn hg hdb he hpl
theorem fe_defO {x : Str} {p : Pos} {k n : Nat} {fn : List T → Rs} (D : DefO X.prog X.w X.K X.mg X.base x k n fn) (tk : Takes X W) (hr : Room k X.A)
    (ha : FOs X vs W (e :: es) mos) (hn : ∀ ρ os ρ', mos ρ = .ok os ρ' → os.length = n) (hg : Gl X x := by rfl) (hdb : (x == ("__debug__" : Str)) = false := by decide) (he : starEach (e :: es) X.env = (false, eval e X.env) :: starEach es X.env := by rfl) (hpl : (backTo pos (starEach es X.env)).any (·.1) = false := by rfl) :
    FE X vs W (.Call (.Name x p) (e :: es) [] pos) (eFun fn mos) := by
  obtain ⟨f, fd, ps, G, b, m, kp⟩ := D
  exact fe_fun (callOk_of tk G hr b) m kp ha hn hg hdb he hpl
end
end FL

set_option Elab.async false
set_option linter.all false
set_option maxRecDepth 100000
namespace FL
open PySem PySem.Spec PyProof.Rows L2

/-! ### arguments in another order -/
def pick {α : Type} (ix : List Nat) (l : List α) : List α := ix.filterMap fun i => l[i]?
theorem pick_map {α β : Type} (f : α → β) (ix : List Nat) (l : List α) : pick ix (l.map f) = (pick ix l).map f := by
  unfold pick
  rw [List.map_filterMap]
  congr 1
  funext i
  rw [List.getElem?_map]
theorem pick_range {α : Type} : ∀ l : List α, pick (List.range l.length) l = l
  | [] => rfl
  | a :: l => by
    have ih := pick_range l
    unfold pick at ih ⊢
    rw [List.length_cons, List.range_succ_eq_map, List.filterMap_cons]
    simp only [List.getElem?_cons_zero, List.filterMap_map]
    congr 1
theorem pick_perm {α : Type} {ix : List Nat} {l : List α} (h : ix.Perm (List.range l.length)) : (pick ix l).Perm l := by
  have := h.filterMap fun i => l[i]?
  have e := pick_range l
  unfold pick at e ⊢
  rw [e] at this
  exact this
structure KPerm (n : Nat) (ix jx : List Nat) : Prop where
  back : ∀ {α : Type} (l : List α), l.length = n → pick jx (pick ix l) = l
  p1 : ix.Perm (List.range n)
  p2 : jx.Perm (List.range n)
def permF (ix jx : List Nat) (fn : List T → Rs) (ts : List T) : Rs := match fn (pick ix ts) with
  | .ok τ outs => .ok τ (pick jx outs)
  | .exc c x outs => .exc c x (pick jx outs)
  | .bad => .bad
section
variable {K : PySem.W.Frag} {mg : Str → Option Value}
theorem RSl.perm {F : FH} {H : Hp} {l l' : List (Option Cell × Option V)} (p : l.Perm l') : ∀ {A : List Addr}, RSl K mg F H (l.map (·.1)) (l.map (·.2)) A → ∃ A', A.Perm A' ∧ RSl K mg F H (l'.map (·.1)) (l'.map (·.2)) A' := by
  induction p with
  | nil => exact fun {A} r => ⟨A, .refl _, r⟩
  | @cons x l1 l2 _ ih =>
    intro A r
    obtain ⟨c, o⟩ := x
    cases c with
    | none =>
      obtain ⟨o', s, e, q⟩ := r
      simp only [List.map_cons, List.cons.injEq] at e
      obtain ⟨rfl, rfl⟩ := e
      obtain ⟨A', p', q'⟩ := ih q
      exact ⟨A', p', o, _, rfl, q'⟩
    | some c =>
      obtain ⟨t, b⟩ := c
      obtain ⟨v, s, A1, A2, e, q1, q2, rfl⟩ := r
      simp only [List.map_cons, List.cons.injEq] at e
      obtain ⟨rfl, rfl⟩ := e
      obtain ⟨A', p', q'⟩ := ih q2
      exact ⟨A1 ++ A', p'.append_left A1, v, _, A1, A', rfl, q1, q', rfl⟩
  | @swap x y l =>
    intro A r
    obtain ⟨cy, oy⟩ := y
    obtain ⟨cx, ox⟩ := x
    cases cy with
    | none =>
      obtain ⟨o', s, e, q⟩ := r
      simp only [List.map_cons, List.cons.injEq] at e
      obtain ⟨rfl, rfl⟩ := e
      cases cx with
      | none =>
        obtain ⟨o', s, e, q⟩ := q
        simp only [List.cons.injEq] at e
        obtain ⟨rfl, rfl⟩ := e
        exact ⟨A, .refl _, ox, _, rfl, oy, _, rfl, q⟩
      | some cx =>
        obtain ⟨v, s, A1, A2, e, q1, q2, rfl⟩ := q
        simp only [List.cons.injEq] at e
        obtain ⟨rfl, rfl⟩ := e
        exact ⟨_, .refl _, v, _, A1, A2, rfl, q1, ⟨oy, _, rfl, q2⟩, rfl⟩
    | some cy =>
      obtain ⟨v, s, A1, A2, e, q1, q2, rfl⟩ := r
      simp only [List.map_cons, List.cons.injEq] at e
      obtain ⟨rfl, rfl⟩ := e
      cases cx with
      | none =>
        obtain ⟨o', s, e, q⟩ := q2
        simp only [List.cons.injEq] at e
        obtain ⟨rfl, rfl⟩ := e
        exact ⟨_, .refl _, ox, _, rfl, v, _, A1, A2, rfl, q1, q, rfl⟩
      | some cx =>
        obtain ⟨v', s, B1, B2, e, q3, q4, rfl⟩ := q2
        simp only [List.cons.injEq] at e
        obtain ⟨rfl, rfl⟩ := e
        refine ⟨B1 ++ (A1 ++ B2), ?_, v', _, B1, A1 ++ B2, rfl, q3, ⟨v, _, A1, B2, rfl, q1, q4, rfl⟩, rfl⟩
        rw [← List.append_assoc, ← List.append_assoc]
        exact List.perm_append_comm.append_right B2
  | trans _ _ i1 i2 =>
    intro A r
    obtain ⟨A1, p1, r1⟩ := i1 r
    obtain ⟨A2, p2, r2⟩ := i2 r1
    exact ⟨A2, p1.trans p2, r2⟩
theorem zip_maps {α β : Type} : ∀ (a : List α) (b : List β), a.length = b.length → (a.zip b).map (·.1) = a ∧ (a.zip b).map (·.2) = b
  | [], [], _ => ⟨rfl, rfl⟩
  | x :: a, y :: b, h => by
    obtain ⟨h1, h2⟩ := zip_maps a b (by simpa using h)
    exact ⟨by simp [h1], by simp [h2]⟩
theorem RSl.pick {F : FH} {H : Hp} {ρ : Env} {σ : L2.St} {A : List Addr} {ix : List Nat} (h : ix.Perm (List.range ρ.length)) (r : RSl K mg F H ρ σ A) : ∃ A', A.Perm A' ∧ RSl K mg F H (FL.pick ix ρ) (FL.pick ix σ) A' := by
  obtain ⟨e1, e2⟩ := zip_maps ρ σ r.len
  have r' : RSl K mg F H ((ρ.zip σ).map (·.1)) ((ρ.zip σ).map (·.2)) A := by rw [e1, e2]; exact r
  have hl : (ρ.zip σ).length = ρ.length := by rw [List.length_zip, ← r.len, Nat.min_self]
  obtain ⟨A', p, q⟩ := r'.perm (pick_perm (ix := ix) (by rw [hl]; exact h)).symm
  rw [← pick_map, ← pick_map, e1, e2] at q
  exact ⟨A', p, q⟩
theorem rts_rsl {F : FH} {H : Hp} : ∀ {ts : List T} {ws : List V} {A : List Addr}, RTs K mg F H ts ws A → RSl K mg F H (ts.map fun t => some (t, false)) (ws.map some) A
  | [], ws, A, ⟨e1, e2⟩ => by subst e1 e2; exact ⟨rfl, rfl⟩
  | t :: ts, ws, A, ⟨v, r, A1, A2, e1, q1, q2, e2⟩ => by
    subst e1 e2
    exact ⟨v, r.map some, A1, A2, rfl, q1, rts_rsl q2, rfl⟩
theorem rsl_rts {F : FH} {H : Hp} : ∀ {ts : List T} {ws : List V} {A : List Addr}, RSl K mg F H (ts.map fun t => some (t, false)) (ws.map some) A → RTs K mg F H ts ws A
  | [], ws, A, ⟨e1, e2⟩ => by
    cases ws with
    | nil => exact ⟨rfl, e2⟩
    | cons _ _ => cases e1
  | t :: ts, ws, A, ⟨v, r, A1, A2, e1, q1, q2, e2⟩ => by
    cases ws with
    | nil => cases e1
    | cons w ws =>
      simp only [List.map_cons, List.cons.injEq, Option.some.injEq] at e1
      obtain ⟨rfl, rfl⟩ := e1
      exact ⟨w, ws, A1, A2, rfl, q1, rsl_rts q2, e2⟩
theorem RTs.pick {F : FH} {H : Hp} {ts : List T} {ws : List V} {A : List Addr} {ix : List Nat} (h : ix.Perm (List.range ts.length)) (r : RTs K mg F H ts ws A) : ∃ A', A.Perm A' ∧ RTs K mg F H (FL.pick ix ts) (FL.pick ix ws) A' := by
  obtain ⟨A', p, q⟩ := (rts_rsl r).pick (ix := ix) (by rw [List.length_map]; exact h)
  rw [pick_map, pick_map] at q
  exact ⟨A', p, rsl_rts q⟩
theorem pick_len {α : Type} {ix : List Nat} {l : List α} (h : ix.Perm (List.range l.length)) : (FL.pick ix l).length = l.length := (pick_perm h).length_eq
theorem ROut.pick {F : FH} {H : Hp} {outs : List (Option T)} {ws : List V} {B : List Addr} {ix jx : List Nat} {n : Nat} (k : KPerm n ix jx) (hw : ws.length = n) (r : ROut K mg F H outs (FL.pick ix ws) B) : ∃ B', B.Perm B' ∧ ROut K mg F H (FL.pick jx outs) ws B' := by
  unfold ROut at r ⊢
  have hl := r.len
  simp only [List.length_map] at hl
  rw [pick_len (by rw [hw]; exact k.p1), hw] at hl
  obtain ⟨B', p, q⟩ := r.pick (ix := jx) (by rw [List.length_map, hl]; exact k.p2)
  rw [pick_map, pick_map, k.back ws hw] at q
  exact ⟨B', p, q⟩
theorem sp_perm {n : Nat} {ix jx : List Nat} {fn : List T → Rs} {ws : List V} {H : Hp} {Q : VK} {E : XK} (k : KPerm n ix jx) (h : spF K mg n (permF ix jx fn) ws H Q E) : spF K mg n fn (FL.pick ix ws) H Q E := by
  obtain ⟨F, ts, A, wd, rt, hl, rq⟩ := h
  have hw : ws.length = n := by rw [← rt.length]; exact hl
  obtain ⟨A', p, rt'⟩ := rt.pick (ix := ix) (by rw [hl]; exact k.p1)
  refine ⟨F, FL.pick ix ts, A', wd.perm p, rt', by rw [pick_len (by rw [hl]; exact k.p1), hl], ?_⟩
  unfold permF at rq
  cases e : fn (FL.pick ix ts) with
  | bad => rw [e] at rq; exact rq
  | ok τ outs =>
    rw [e] at rq
    intro v F' H' B Bo st rv ro
    obtain ⟨B', p', ro'⟩ := ro.pick k hw
    exact rq v F' H' B B' (st.perm p.symm (p'.append_right B)) rv ro'
  | exc c x outs =>
    rw [e] at rq
    intro cls d F' H' Bo st ro ex
    obtain ⟨B', p', ro'⟩ := ro.pick k hw
    exact rq cls d F' H' B' (st.perm p.symm p') ro' ex
end

/-! ### keywords -/
structure FK (X : Cx) (vs : Fx) (W : WX) (kws : List Keyword) (m : M (List Opd)) : Prop where
  ex : ∃ t : TA, PK X kws t ∧ ∀ (σ : L2.St) (H : Hp) (F : FH) (ρ : Env) (A : List Addr) (Q : List V → Hp → Prop), Wd F H A → Rep X.K X.mg vs F H σ ρ A → OsQ X.K X.mg vs W F H σ A Q (m ρ) → t σ H Q
def osApp (m1 m2 : M (List Opd)) : M (List Opd) := m1.bind fun a => m2.bind fun b => .pure (a ++ b)
section
variable {X : Cx} {vs : Fx} {W : WX} {e : Expr} {es : List Expr} {kws : List Keyword} {mo : M Opd} {mos mks : M (List Opd)} {pos kpos : Pos} {nm : Option Str}
theorem fk_nil : FK X vs W [] osNil := ⟨_, pk_nil, fun σ H F ρ A Q w r hq => hq [] F H A [] (by rw [List.append_nil]; exact .refl w) r ⟨rfl, rfl⟩⟩
theorem fk_cons (h : FO X vs W e mo) (hs : FK X vs W kws mos) : FK X vs W (⟨nm, e, kpos⟩ :: kws) (osCons mo mos) := by
  obtain ⟨te, pe, qe⟩ := h
  obtain ⟨ts, ps, qs⟩ := hs
  refine ⟨_, pk_cons pe ps, fun σ H F ρ A Q w rp hq => ?_⟩
  refine qe σ H F ρ A _ w rp ?_
  unfold osCons M.bind at hq
  cases e1 : mo ρ with
  | bad => rw [e1] at hq; exact hq
  | exc c x ρ' => rw [e1] at hq; exact hq
  | ok τ ρ1 =>
    rw [e1] at hq
    simp only [Out.bind] at hq
    intro v F1 H1 A1 B1 st1 rp1 r1
    refine qs σ H1 F1 ρ1 A1 _ st1.wd.left rp1 ?_
    cases e2 : mos ρ1 with
    | bad => rw [e2] at hq; exact hq
    | exc c x ρ' => rw [e2] at hq; exact fun cls d F' H' A' st rp' ex => hq cls d F' H' A' (st1.compL st) rp' ex
    | ok τs ρ2 =>
      rw [e2] at hq
      intro ws F2 H2 A2 B2 st2 rp2 r2
      refine hq (v :: ws) F2 H2 A2 (B1 ++ B2) ?_ rp2 ⟨v, ws, B1, B2, rfl, OR.step st2 st1.wd r1, r2, rfl⟩
      exact (st1.comp st2).perm (.refl _) (by rw [List.append_assoc]; exact List.perm_append_comm.append_left A2)
theorem ORs.app {K : PySem.W.Frag} {mg : Str → Option Value} {F : FH} {H : Hp} {σ : L2.St} : ∀ {os : List Opd} {ws : List V} {B : List Addr} {os' : List Opd} {ws' : List V} {B' : List Addr}, ORs K mg F H σ os ws B → ORs K mg F H σ os' ws' B' → ORs K mg F H σ (os ++ os') (ws ++ ws') (B ++ B')
  | [], ws, B, os', ws', B', ⟨e1, e2⟩, r => by subst e1 e2; exact r
  | o :: os, ws, B, os', ws', B', ⟨v, s, B1, B2, e1, q1, q2, e2⟩, r => by
    subst e1 e2
    exact ⟨v, s ++ ws', B1, B2 ++ B', rfl, q1, ORs.app q2 r, by rw [List.append_assoc]⟩
/-- what a call with keywords gives: n positional values, the keywords ks -/
def CallK (X : Cx) (W : WX) (f : Addr) (n : Nat) (ks : List Str) (ix : List Nat) (sp : Sp) : Prop := ∀ (pins : List (Addr × Obj)) (σ : L2.St) (H : Hp) (s : Shared) (Q : VK) (us uz : List Value) (ws zs : List V), Inv X pins σ H s → Vals ws us → Vals zs uz → us.length = n → uz.length = ks.length →
  sp (pick ix (ws ++ zs)) H Q (fun c d H' => W c d σ H') → wpAny (model X.prog X.w) X.A (call (.ref f) us (ks.zip uz)) (EP X pins σ Q) X.xe s
theorem kw_rd {K : PySem.W.Frag} {mg : Str → Option Value} {n nk : Nat} {ix jx : List Nat} {fn : List T → Rs} {ta tk : TA} (k : KPerm (n + nk) ix jx)
    (qa : ∀ (σ : L2.St) (H : Hp) (F : FH) (ρ : Env) (A : List Addr) (Q : List V → Hp → Prop), Wd F H A → Rep K mg vs F H σ ρ A → OsQ K mg vs W F H σ A Q (mos ρ) → ta σ H Q)
    (qk : ∀ (σ : L2.St) (H : Hp) (F : FH) (ρ : Env) (A : List Addr) (Q : List V → Hp → Prop), Wd F H A → Rep K mg vs F H σ ρ A → OsQ K mg vs W F H σ A Q (mks ρ) → tk σ H Q)
    (h1 : ∀ ρ os ρ', mos ρ = .ok os ρ' → os.length = n) (h2 : ∀ ρ os ρ', mks ρ = .ok os ρ' → os.length = nk) (σ : L2.St) (H : Hp) (F : FH) (ρ : Env) (A : List Addr) (Q : VK) (w : Wd F H A) (rp : Rep K mg vs F H σ ρ A)
    (hq : EQ K mg vs W F H σ A Q (eFun (permF ix jx fn) (osApp mos mks) ρ)) :
    ta σ H fun ws H1 => tk σ H1 fun zs H2 => ws.length = n ∧ zs.length = nk ∧ spF K mg (n + nk) fn (pick ix (ws ++ zs)) H2 Q (fun c d H' => W c d σ H') := by
  refine qa σ H F ρ A _ w rp ?_
  unfold eFun osApp M.bind at hq
  cases e1 : mos ρ with
  | bad => rw [e1] at hq; exact hq
  | exc c x ρ' => rw [e1] at hq; exact hq
  | ok os ρ1 =>
    rw [e1] at hq
    simp only [Out.bind] at hq
    intro ws F1 H1 A1 B1 st1 rp1 r1
    refine qk σ H1 F1 ρ1 A1 _ st1.wd.left rp1 ?_
    cases e2 : mks ρ1 with
    | bad => rw [e2] at hq; exact hq
    | exc c x ρ' => rw [e2] at hq; exact fun cls d F' H' A' st rp' ex => hq cls d F' H' A' (st1.compL st) rp' ex
    | ok oz ρ2 =>
      rw [e2] at hq
      simp only [M.pure] at hq
      intro zs F2 H2 A2 B2 st2 rp2 r2
      have lw : ws.length = n := by rw [← r1.length]; exact h1 _ _ _ e1
      have lz : zs.length = nk := by rw [← r2.length]; exact h2 _ _ _ e2
      refine ⟨lw, lz, sp_perm k ?_⟩
      have r1' := r1.step st2 st1.wd
      have st3 : Step F H A F2 H2 (A2 ++ (B1 ++ B2)) := (st1.comp st2).perm (.refl _) (by rw [List.append_assoc]; exact List.perm_append_comm.append_left A2)
      refine fun_rd (os := os ++ oz) (fun ts ρ' ht => ?_) st3 rp2 (r1'.app r2) hq
      rw [takeAll_len ht, List.length_append, h1 _ _ _ e1, h2 _ _ _ e2]
theorem fe_kw0 {x : Str} {p : Pos} {ks : List Str} {ix jx : List Nat} {f : Addr} {fn : List T → Rs} (G : CallK X W f 0 ks ix (spF X.K X.mg (0 + ks.length) fn)) (k : KPerm (0 + ks.length) ix jx) (hm : X.mg x = some (.ref f)) (hk : PySem.W.keepIn X.K (.ref f) = true)
    (ha : FK X vs W kws mks) (hn : ∀ ρ os ρ', mks ρ = .ok os ρ' → os.length = ks.length) (hg : Gl X x := by rfl) (hall : (backToKw pos (keywordEach kws X.env)).all (·.1.isSome) = true := by rfl) (hks : (backToKw pos (keywordEach kws X.env)).filterMap (·.1) = ks := by rfl)
    (hdb : (x == ("__debug__" : Str)) = false := by decide) (hpl : ((backTo pos (starEach [] X.env)).any (·.1) || (backToKw pos (keywordEach kws X.env)).any (·.1.isNone)) = false := by rfl) :
    FE X vs W (.Call (.Name x p) [] kws pos) (eFun (permF ix jx fn) (osApp osNil mks)) := by
  obtain ⟨tk, pk, qk⟩ := ha
  obtain ⟨ta, pa, qa⟩ := fos_nil (X := X) (vs := vs) (W := W)
  refine ⟨fun σ H Q => tk σ H fun zs H2 => zs.length = ks.length ∧ spF X.K X.mg (0 + ks.length) fn (pick ix zs) H2 Q (fun c d H' => W c d σ H'), ⟨fun pins s σ H Q I h => ?_⟩, fun σ H F ρ A Q w rp hq => ?_⟩
  · refine wpAny_Call_Name_kw (ld_glob I hg hm ?_ hdb)
    refine PySem.W.callWith_KW0 (h₀ := X.base) I.ok.mod.kin hk hall ?_ hpl
    refine thn (pk.run pos pins s σ H _ I h) fun uz s2 hu => ?_
    obtain ⟨zs, H2, I2, rz, lz, q2⟩ := hu
    refine ⟨I2.kIn, ?_⟩
    rw [hks]
    exact G pins σ H2 s2 Q [] uz [] zs I2 .nil rz rfl (by rw [← rz.length]; exact lz) q2
  · have := kw_rd (ta := tNil) (tk := tk) (mos := osNil) (fn := fn) k (fun σ H F ρ A Q w r hq => hq [] F H A [] (by rw [List.append_nil]; exact .refl w) r ⟨rfl, rfl⟩) qk osNil_len hn σ H F ρ A Q w rp hq
    unfold tNil at this
    simp only [List.length_nil, List.nil_append, true_and] at this
    exact this
theorem fe_kw {x : Str} {p : Pos} {n : Nat} {ks : List Str} {ix jx : List Nat} {f : Addr} {fn : List T → Rs} (G : CallK X W f n ks ix (spF X.K X.mg (n + ks.length) fn)) (k : KPerm (n + ks.length) ix jx) (hm : X.mg x = some (.ref f)) (hk : PySem.W.keepIn X.K (.ref f) = true)
    (hp : FOs X vs W (e :: es) mos) (hpn : ∀ ρ os ρ', mos ρ = .ok os ρ' → os.length = n) (ha : FK X vs W kws mks) (hn : ∀ ρ os ρ', mks ρ = .ok os ρ' → os.length = ks.length) (hg : Gl X x := by rfl) (hall : (backToKw pos (keywordEach kws X.env)).all (·.1.isSome) = true := by rfl) (hks : (backToKw pos (keywordEach kws X.env)).filterMap (·.1) = ks := by rfl)
    (hdb : (x == ("__debug__" : Str)) = false := by decide) (he : starEach (e :: es) X.env = (false, eval e X.env) :: starEach es X.env := by rfl) (hpl : ((backTo pos (starEach (e :: es) X.env)).any (·.1) || (backToKw pos (keywordEach kws X.env)).any (·.1.isNone)) = false := by rfl) :
    FE X vs W (.Call (.Name x p) (e :: es) kws pos) (eFun (permF ix jx fn) (osApp mos mks)) := by
  obtain ⟨tk, pk, qk⟩ := ha
  obtain ⟨ta, pa, qa⟩ := hp
  refine ⟨fun σ H Q => ta σ H fun ws H1 => tk σ H1 fun zs H2 => ws.length = n ∧ zs.length = ks.length ∧ spF X.K X.mg (n + ks.length) fn (pick ix (ws ++ zs)) H2 Q (fun c d H' => W c d σ H'), ⟨fun pins s σ H Q I h => ?_⟩, fun σ H F ρ A Q w rp hq => ?_⟩
  · refine wpAny_Call_Name_kw (ld_glob I hg hm ?_ hdb)
    refine PySem.W.callWith_KW (h₀ := X.base) I.ok.mod.kin hk hall (thn (pa.run pos pins s σ H _ I h) fun us s1 hu => ?_) hpl he
    obtain ⟨ws, H1, I1, rw1, q1⟩ := hu
    refine thn (pk.run pos pins s1 σ H1 _ I1 q1) fun uz s2 hu => ?_
    obtain ⟨zs, H2, I2, rz, lw, lz, q2⟩ := hu
    refine ⟨I2.kIn, ?_⟩
    rw [hks]
    exact G pins σ H2 s2 Q us uz ws zs I2 rw1 rz (by rw [← rw1.length]; exact lw) (by rw [← rz.length]; exact lz) q2
  · exact kw_rd k qa qk hpn hn σ H F ρ A Q w rp hq
end
end FL

set_option Elab.async false
set_option linter.all false
set_option maxRecDepth 100000
namespace FL
open PySem PySem.Spec PyProof.Rows L2

/-! ### instances -/
def frzF : List (Str × T) → Option (List (Str × PyData))
  | [] => some []
  | (f, t) :: r => (T.toF t).bind fun x => (frzF r).map fun s => (f, x) :: s
/-- C(..): what __init__ does to a new instance -/
def makeFn (c : Str) (frz : Bool) (fi : List T → Rs) (ts : List T) : Rs := match fi (.oi c [] :: ts) with
  | .ok τ outs => (match isNon τ, outs with
    | true, some (.oi c' fs) :: r => if frz then (match frzF fs with
      | some xs => .ok (.ob c' xs) r
      | none => .bad) else .ok (.oi c' fs) r
    | _, _ => .bad)
  | .exc k x (_ :: r) => .exc k x r
  | _ => .bad
section
variable {K : PySem.W.Frag} {mg : Str → Option Value}
theorem frz_rt {F : FH} {H G : Hp} (h : Same F G) : ∀ {fs : List (Str × T)} {vfs : List (Str × V)} {A : List Addr} {xs : List (Str × PyData)}, (∀ b ∈ A, ∀ o, H b = some o → G b = some o) → RTf K mg F H fs vfs A → frzF fs = some xs → RFs K G xs vfs
  | [], vfs, A, xs, k, ⟨e1, e2⟩, e => by subst e1; cases e; trivial
  | (f, t) :: fs, vfs, A, xs, k, ⟨v, r, A1, A2, e1, q1, q2, e2⟩, e => by
    subst e1 e2
    simp only [frzF, Option.bind_eq_some_iff, Option.map_eq_some_iff] at e
    obtain ⟨x, hx, ys, hys, rfl⟩ := e
    exact ⟨rfl, RT.data h t (fun b hb => k b (List.mem_append_left _ hb)) q1 hx, frz_rt h (fun b hb => k b (List.mem_append_right _ hb)) q2 hys⟩
theorem make_sp {c : Str} {C : Addr} {frz : Bool} {fi : List T → Rs} {n : Nat} {ws : List V} {H : Hp} {Q : VK} {E : XK} (hc : mg c = some (.ref C)) (h : spF K mg n (makeFn c frz fi) ws H Q E) {x dx : Addr} (hx : H x = none) (hd : H dx = none) (hne : dx ≠ x) :
    spF K mg (n + 1) fi (.ref x :: ws) (upd (upd H dx (.own x)) x (.ins C dx [])) (fun v H2 => v = .non ∧ Q (.ref x) H2) E := by
  obtain ⟨F, ts, A, wd, rt, hl, rq⟩ := h
  have hnx : upd H dx (.own x) x = none := by rw [upd_ne (Ne.symm hne)]; exact hx
  have hh : Same H (upd (upd H dx (.own x)) x (.ins C dx [])) := fun b o e => by
    rw [upd_ne (ne_of_none e hx), upd_ne (ne_of_none e hd)]; exact e
  have g : Grow F H F (upd (upd H dx (.own x)) x (.ins C dx [])) [x, dx] := by
    refine ⟨.refl _, hh, wd.sub.trans hh, fun _ e n => absurd e n, by simp [Ne.symm hne], fun b hb => ?_⟩
    simp only [List.mem_cons, List.not_mem_nil, or_false] at hb
    rcases hb with rfl | rfl
    · exact ⟨hx, wd.sub.free hx, by rw [upd_same]; simp⟩
    · exact ⟨hd, wd.sub.free hd, by rw [upd_ne hne, upd_same]; simp⟩
  have st := g.step wd
  have r1 : RT K mg F (upd (upd H dx (.own x)) x (.ins C dx [])) (.oi c []) (.ref x) [x, dx] := ⟨x, C, dx, [], [], rfl, hc, upd_same, by rw [upd_ne hne, upd_same], ⟨rfl, rfl⟩, rfl⟩
  have r2 := RTs.grow g rt
  refine ⟨F, .oi c [] :: ts, [x, dx] ++ A, st.wd.perm List.perm_append_comm, ⟨_, _, [x, dx], A, rfl, r1, r2, rfl⟩, by simp [hl], ?_⟩
  have st' : Step F H A F (upd (upd H dx (.own x)) x (.ins C dx [])) ([x, dx] ++ A) := st.perm (.refl _) List.perm_append_comm
  unfold makeFn at rq
  cases e : fi (.oi c [] :: ts) with
  | bad => rw [e] at rq; exact rq
  | exc k y outs =>
    rw [e] at rq
    intro cls d F1 H1 Bo s2 ro ex
    cases outs with
    | nil => exact rq.elim
    | cons o r =>
      simp only at rq
      have s3 := st'.trans s2
      cases o with
      | none =>
        obtain ⟨_, s, e3, q⟩ := ro
        simp only [List.map_cons, List.cons.injEq] at e3
        obtain ⟨_, rfl⟩ := e3
        exact rq cls d F1 H1 Bo s3 q ex
      | some t =>
        obtain ⟨v, s, B1, B2, e3, q1, q2, rfl⟩ := ro
        simp only [List.map_cons, List.cons.injEq] at e3
        obtain ⟨_, rfl⟩ := e3
        exact rq cls d F1 H1 B2 s3.lessL q2 ex
  | ok τ outs =>
    rw [e] at rq
    intro v F1 H1 B Bo s2 rv ro
    simp only at rq
    split at rq
    · rename_i c' fs r hn
      have hv : v = .non := by
        have := isNon_rt rv
        rw [hn] at this
        exact of_decide_eq_true this
      obtain ⟨u, s, B1, B2, e3, q1, q2, rfl⟩ := ro
      simp only [List.map_cons, List.cons.injEq, Option.some.injEq] at e3
      obtain ⟨rfl, rfl⟩ := e3
      have s3 : Step F H A F1 H1 (B1 ++ B2) := (st'.trans s2).less
      refine ⟨hv, ?_⟩
      split at rq
      · split at rq
        · rename_i xs hf
          have hA : ∀ b ∈ B1, F1 b = none := fun b hb => s3.wd.left.fn b hb
          have s4 := Step.frozen s3.wd (.refl _)
          obtain ⟨a, C', dx', vfs, A', e1, e2, e3, e4, q, e5⟩ := q1
          cases e1
          subst e5
          refine rq (.ref x) (frO F1 H1 (x :: dx' :: A')) H1 [] B2 (by rw [List.append_nil]; exact s3.trans s4) ?_ (RSl.keep (frO_same hA) (fun b _ o e => e) (fun b _ o e => e) q2)
          exact ⟨x, C', dx', vfs, rfl, e2, frO_of List.mem_cons_self e3, frz_rt (frO_same hA).ff (fun b hb o e => frO_of (List.mem_cons_of_mem _ (List.mem_cons_of_mem _ hb)) e) q hf, rfl⟩
        · exact rq.elim
      · exact rq (.ref x) F1 H1 B1 B2 (s3.perm (.refl _) List.perm_append_comm) q1 q2
    · exact rq.elim
end
section
variable {X : Cx} {vs : Fx} {W : WX}
theorem run_mk {pins : List (Addr × Obj)} {σ : L2.St} {H : Hp} {s : Shared} {Q : VK} {us us2 : List Value} {kw : List (Str × Value)} {ws : List V} {C f : Addr} {k : Nat} {fd : FuncData} {ps : List Str} {sp : Sp} (M : Mk X.K C f) (G : FnOk X.prog X.w X.K X.mg X.base (L2.CX X.prog X.w) k f fd ps sp)
    (hr : Room (k + 1) X.A) (tk : Takes X W) (I : Inv X pins σ H s) (r : Vals ws us2) (hb : ∀ (s' : Shared) (self : Value), X.K.In s'.heap → (self :: us2).length = ps.length → BindsTo s' fd ⟨self :: us, kw⟩ (ps.zip (self :: us2)))
    (h : ∀ x dx, H x = none → H dx = none → dx ≠ x → sp (.ref x :: ws) (upd (upd H dx (.own x)) x (.ins C dx [])) (fun v H2 => v = .non ∧ Q (.ref x) H2) (fun c d H' => W c d σ H')) :
    wpAny (model X.prog X.w) X.A (call (.ref C) us kw) (EP X pins σ Q) X.xe s := by
  have hx : H (s.heap.objs.size + 1) = none := I.hok.fresh (Nat.le_succ _)
  have hd : H s.heap.objs.size = none := I.hok.fresh (Nat.le_refl _)
  have hq := h _ _ hx hd (Nat.ne_of_lt (Nat.lt_succ_self _))
  have J := Inv.made (C := C) I
  have rr : Vals (V.ref (s.heap.objs.size + 1) :: ws) (Value.ref (s.heap.objs.size + 1) :: us2) := .cons rfl r
  have hl : (Value.ref (s.heap.objs.size + 1) :: us2).length = ps.length := by rw [← rr.length]; exact G.len _ _ _ _ hq
  have body := G.run _ X.stack _ _ ⟨Value.ref (s.heap.objs.size + 1) :: us, kw⟩ _ _ _ _ (hr.make C us kw) (J.env0.make C us kw) (hb _ _ J.kIn hl) rr hq
  refine wpAny_call (make_map (f := f) I.kIn M.makes M.init (beq_iff_eq.mp M.fn) (codeAny_mono body fun res s' out => ?_))
  match res, out with
  | .error er, out => exact passAt tk σ pins _ _ er s' J out
  | .ok (.ret u), out =>
    obtain ⟨v, H', J', rv, ev, q⟩ := J.after out
    subst ev
    exact ⟨rv, V.ref (s.heap.objs.size + 1), H', J', rfl, q⟩
  | .ok .next, out => exact False.elim out
  | .ok .brk, out => exact False.elim out
  | .ok .cont, out => exact False.elim out
/-- a class of the text: what C(..) gives -/
theorem callOk_make {c : Str} {frz : Bool} {fi : List T → Rs} {C f : Addr} {k n : Nat} {fd : FuncData} {ps : List Str} (hc : X.mg c = some (.ref C)) (M : Mk X.K C f) (G : FnOk X.prog X.w X.K X.mg X.base (L2.CX X.prog X.w) k f fd ps (spF X.K X.mg (n + 1) fi)) (hr : Room (k + 1) X.A) (tk : Takes X W)
    (hb : Binds X.K fd ps []) : CallOk X W C (spF X.K X.mg n (makeFn c frz fi)) := fun pins σ H s Q us ws I r h =>
  run_mk M G hr tk I r (fun s' self kin hl => by
    have b := hb s' (self :: us) kin (by rw [List.append_nil]; exact hl)
    rw [List.append_nil] at b
    exact b) fun x dx hx hd hne => make_sp hc h hx hd hne
theorem callK_make {c : Str} {frz : Bool} {fi : List T → Rs} {C f : Addr} {k n m : Nat} {fd : FuncData} {ps ks : List Str} {ix : List Nat} (hc : X.mg c = some (.ref C)) (M : Mk X.K C f) (G : FnOk X.prog X.w X.K X.mg X.base (L2.CX X.prog X.w) k f fd ps (spF X.K X.mg (m + 1) fi)) (hr : Room (k + 1) X.A) (tk : Takes X W)
    (hb : ∀ (s : Shared) (self : Value) (us uz : List Value), us.length = n → uz.length = ks.length → BindsTo s fd ⟨self :: us, ks.zip uz⟩ (ps.zip (self :: pick ix (us ++ uz)))) : CallK X W C n ks ix (spF X.K X.mg m (makeFn c frz fi)) := fun pins σ H s Q us uz ws zs I r rz l1 l2 h =>
  run_mk M G hr tk I (by
    have : ∀ ix : List Nat, Vals (pick ix (ws ++ zs)) (pick ix (us ++ uz)) := fun ix => by
      have rr := r.append rz
      unfold pick
      induction ix with
      | nil => exact .nil
      | cons i ix ih =>
        rw [List.filterMap_cons, List.filterMap_cons]
        cases e : (ws ++ zs)[i]? with
        | none => rw [rr.none_of e]; exact ih
        | some v =>
          obtain ⟨u, eu, ru⟩ := rr.get e
          rw [eu]
          exact .cons ru ih
    exact this ix) (fun s' self kin hl => hb s' self us uz l1 l2) fun x dx hx hd hne => make_sp hc h hx hd hne
end

/-! ### self.f = e -/
def putT (f : Str) (t : T) : List (Str × T) → List (Str × T)
  | [] => [(f, t)]
  | (g, u) :: r => if g = f then (g, t) :: r else (g, u) :: putT f t r
def sFld (i : Nat) (c f : Str) (me : M T) : Env → Fl := fun ρ => match me ρ with
  | .ok t ρ1 => (match ρ1[i]? with
    | some (some (.oi c' fs, b)) => if c' = c ∧ fs.length < 1000 then .nx (ρ1.set i (some (.oi c' (putT f t fs), b))) else .bad
    | _ => .bad)
  | .exc k x ρ1 => .exc k x ρ1
  | .bad => .bad
section
variable {K : PySem.W.Frag} {mg : Str → Option Value}
theorem RTf.length {F : FH} {H : Hp} : ∀ {fs : List (Str × T)} {vfs : List (Str × V)} {A : List Addr}, RTf K mg F H fs vfs A → vfs.length = fs.length
  | [], _, _, ⟨e, _⟩ => by subst e; rfl
  | (f, t) :: fs, _, _, ⟨v, r, A1, A2, e, _, q, _⟩ => by subst e; simp [RTf.length q]
theorem RTf.put {F : FH} {H : Hp} {f : Str} {t : T} {v : V} {B : List Addr} (r : RT K mg F H t v B) : ∀ {fs : List (Str × T)} {vfs : List (Str × V)} {A : List Addr}, RTf K mg F H fs vfs A → ∃ A1 A', (A ++ B).Perm (A' ++ A1) ∧ RTf K mg F H (putT f t fs) (putF f v vfs) A'
  | [], _, _, ⟨e1, e2⟩ => by
    subst e1 e2
    exact ⟨[], B, by simp, v, [], B, [], rfl, r, ⟨rfl, rfl⟩, by simp⟩
  | (g, u) :: fs, _, _, ⟨w, s, A1, A2, e1, q1, q2, e2⟩ => by
    subst e1 e2
    unfold putT putF
    by_cases h : g = f
    · rw [if_pos h, if_pos h]
      refine ⟨A1, B ++ A2, ?_, v, s, B, A2, rfl, r, q2, rfl⟩
      refine List.perm_append_comm.trans ?_
      rw [List.append_assoc]
      exact List.perm_append_comm.append_left B
    · rw [if_neg h, if_neg h]
      obtain ⟨D1, D', p, q⟩ := RTf.put r q2
      refine ⟨D1, A1 ++ D', ?_, w, _, A1, D', rfl, q1, q, rfl⟩
      rw [List.append_assoc, List.append_assoc]
      exact p.append_left A1
end
section
variable {X : Cx} {vs : Fx} {W : WX} {e value : Expr} {me : M T} {pos p p' : Pos}
theorem fs_fld (i : Nat) {x c f : Str} (hC : ∀ C, X.mg c = some (.ref C) → Cls X.K C ∧ NoAttr X.K C f) (he : FE X vs W value me) (hN : X.N[i]? = some x := by rfl) (hv : Vis X.env.scope x := by first | exact Or.inl rfl | exact Or.inr (Or.inl rfl) | exact Or.inr (Or.inr rfl)) (hd : (x == ("__debug__" : Str)) = false := by decide)
    (hcd : (x == ("__classdict__" : Str)) = false := by decide) (hs : swapsWith value (some (.Attribute (.Name x p) f p')) pos.line X.env = pure false := by rfl) : FS X vs W (.Assign [.Attribute (.Name x p) f p'] value pos) (sFld i c f me) := by
  obtain ⟨te, pe, qe⟩ := he
  refine ⟨_, ps_fld (pe_var (i := i) hN hv hd hcd) pe hs, fun D σ H F ρ A w r hq => ?_⟩
  unfold sFld at hq
  refine qe σ H F ρ A _ w r ?_
  cases e1 : me ρ with
  | bad => rw [e1] at hq; exact hq
  | exc c x ρ' => rw [e1] at hq; exact fun cls d F' H' A' st rp ex => hq cls d σ F' H' A' st rp ex
  | ok t ρ1 =>
    rw [e1] at hq
    simp only at hq
    intro v F1 H1 A1 B1 st1 rp1 r1
    split at hq
    · rename_i c' fs b hsl
      split at hq
      · rename_i hcl
        obtain ⟨rfl, hl⟩ := hcl
        obtain ⟨xv, C1, C2, h1, h2, h3, h4⟩ := rp1.sl.take hsl
        obtain ⟨a, C, dx, vfs, A', rfl, hm, hH, hH2, q, rfl⟩ := h2
        obtain ⟨hc1, hc2⟩ := hC C hm
        refine ⟨.ref a, h1, a, C, dx, vfs, rfl, hH, hc1, hc2, by rw [q.length]; exact hl, ?_⟩
        obtain ⟨D1, D', p2, q'⟩ := RTf.put (f := f) r1 q
        have pm : (A1 ++ B1).Perm ((C2 ++ (a :: dx :: D')) ++ D1) := by
          refine (h3.append_right B1).trans ?_
          have e1 : ((a :: dx :: A') ++ C2 ++ B1).Perm (C2 ++ ((a :: dx :: A') ++ B1)) := by
            rw [← List.append_assoc]
            exact List.perm_append_comm.append_right B1
          refine e1.trans ?_
          rw [List.append_assoc]
          refine List.Perm.append_left C2 ?_
          exact (p2.cons dx).cons a
        have s3 := (st1.perm (.refl _) pm).less
        have hm1 : a ∈ C2 ++ (a :: dx :: D') := List.mem_append_right _ List.mem_cons_self
        have s4 := s3.trans (Step.write (o := .ins C dx (putF f v vfs)) s3.wd hm1)
        have nd := s3.wd.right.nd
        have hne : dx ≠ a := fun z => by subst z; simp at nd
        have hna : ∀ b ∈ D', b ≠ a := fun b hb z => by subst z; simp [hb] at nd
        have kR : ∀ b ∈ F1.R, ∀ o, H1 b = some o → upd H1 a (.ins C dx (putF f v vfs)) b = some o := fun b hb o e => by
          rw [upd_ne fun z => by subst z; exact (s3.wd.rn _ hb).1 hm1]; exact e
        have q5 : RTf X.K X.mg F1 (upd H1 a (.ins C dx (putF f v vfs))) (putT f t fs) (putF f v vfs) D' := RTf.keep (.refl _) kR _ (fun b hb o e => by rw [upd_ne (hna b hb)]; exact e) q'
        have r5 : RT X.K X.mg F1 (upd H1 a (.ins C dx (putF f v vfs))) (.oi c' (putT f t fs)) (.ref a) (a :: dx :: D') := ⟨a, C, dx, _, D', rfl, hm, upd_same, by rw [upd_ne hne]; exact hH2, q5, rfl⟩
        have r6 : RSl X.K X.mg F1 (upd H1 a (.ins C dx (putF f v vfs))) (ρ1.set i none) σ C2 := h4.keep (.refl _) kR fun b hb o e => by
          rw [upd_ne fun z => by subst z; exact s3.wd.apart hb List.mem_cons_self]; exact e
        obtain ⟨A'', s5, r7⟩ := fill_ok b i s4.wd r6 r5 h1
        rw [List.set_set] at r7
        refine hq σ F1 _ A'' (s4.trans s5) ⟨rp1.fx, rp1.st, r7, fun l u hl => ?_⟩
        by_cases hij : i = l
        · subst hij
          obtain ⟨hlt, _⟩ := List.getElem?_eq_some_iff.mp hsl
          rw [List.getElem?_set_self hlt] at hl
          simp only [Option.some.injEq, Prod.mk.injEq] at hl
          obtain ⟨_, rfl⟩ := hl
          exact rp1.io i _ hsl
        · rw [List.getElem?_set_ne hij] at hl
          exact rp1.io l u hl
      · exact hq.elim
    · exact hq.elim

/-! ### o.f of a frozen instance, of the class c -/
def fldT (c f : Str) : T → Option T
  | .ob c' fs => if c' = c then (fs.lookup f).map T.d else none
  | _ => none
theorem RFs.look {K : PySem.W.Frag} {F : FH} {f : Str} {x : PyData} : ∀ {fs : List (Str × PyData)} {vfs : List (Str × V)}, RFs K F fs vfs → fs.lookup f = some x → ∃ v, vfs.lookup f = some v ∧ Dp K F v x
  | [], [], _, h => by cases h
  | (g, y) :: r, (k, v) :: s, ⟨e, q, r'⟩, h => by
    subst e
    rw [List.lookup] at h ⊢
    cases hb : f == g with
    | true => rw [hb] at h; cases h; exact ⟨v, rfl, q⟩
    | false => rw [hb] at h; exact RFs.look r' h
  | [], _ :: _, q, _ => q.elim
  | _ :: _, [], q, _ => q.elim
theorem fe_fld {c f : Str} {mo : M Opd} (hC : ∀ C, X.mg c = some (.ref C) → Cls X.K C ∧ NoAttr X.K C f) (h : FO X vs W e mo) (hb : attributeBase e f X.env (eval e X.env) = eval e X.env := by rfl) : FE X vs W (.Attribute e f pos) (eOp1 (fldT c f) mo) := by
  refine fe_one (r := fun x H1 Q => ∃ a C dx fs v, x = .ref a ∧ H1 a = some (.ins C dx fs) ∧ Cls X.K C ∧ NoAttr X.K C f ∧ fs.lookup f = some v ∧ Q v H1) h (fun F H v t τ A1 Q sm rt hf k => ?_) fun ta pa => pe_fld pa hb
  unfold fldT at hf
  split at hf
  · rename_i c' fs
    split at hf
    · rename_i hcc
      subst hcc
      simp only [Option.map_eq_some_iff] at hf
      obtain ⟨x, hx, rfl⟩ := hf
      obtain ⟨a, C, dx, vfs, rfl, hm, hF, rf, rfl⟩ := rt
      obtain ⟨u, hu, du⟩ := rf.look hx
      obtain ⟨c1, c2⟩ := hC C hm
      exact ⟨a, C, dx, vfs, u, rfl, sm _ _ hF, c1, c2, hu, k u F H [] (.refl sm) ⟨du, rfl⟩⟩
    · cases hf
  · cases hf
end
end FL

set_option Elab.async false
set_option linter.all false
set_option maxRecDepth 100000
namespace FL
open PySem PySem.Spec PyProof.Rows L2

/-! ### classes of the text -/
/-- a class with its own __init__ -/
def ClsD (P : Program) (w : World) (K : PySem.W.Frag) (mg : Str → Option Value) (base : Heap) (c x qual : Str) (st : Stmt) (ps : List Str) (k n : Nat) (fi : List T → Rs) : Prop :=
  ∃ (C f : Addr) (fd : FuncData), mg c = some (.ref C) ∧ Mk K C f ∧ Fun K x qual st f fd ∧ FnOk P w K mg base (L2.CX P w) k f fd ps (spF K mg (n + 1) fi) ∧ Binds K fd ps []
/-- its instances' fields -/
def FldD (K : PySem.W.Frag) (mg : Str → Option Value) (c : Str) (fs : List Str) : Prop := ∀ C, mg c = some (.ref C) → Cls K C ∧ ∀ f ∈ fs, NoAttr K C f
theorem FldD.at {K : PySem.W.Frag} {mg : Str → Option Value} {c f : Str} {fs : List Str} (D : FldD K mg c fs) (h : f ∈ fs) : ∀ C, mg c = some (.ref C) → Cls K C ∧ NoAttr K C f := fun C e => ⟨(D C e).1, (D C e).2 f h⟩
/-- a property -/
def PropD (P : Program) (w : World) (K : PySem.W.Frag) (mg : Str → Option Value) (base : Heap) (c f : Str) (k : Nat) (fg : List T → Rs) : Prop :=
  ∃ (C pa g : Addr) (fd : FuncData) (ps : List Str), mg c = some (.ref C) ∧ Cls K C ∧ PropOf K C f pa g ∧ FnOk P w K mg base (L2.CX P w) k g fd ps (spF K mg 1 fg) ∧ Binds K fd ps []
/-- a method -/
def MethD (P : Program) (w : World) (K : PySem.W.Frag) (mg : Str → Option Value) (base : Heap) (c m : Str) (k n : Nat) (fm : List T → Rs) : Prop :=
  ∃ (C f : Addr) (fd : FuncData) (ps : List Str), mg c = some (.ref C) ∧ Cls K C ∧ Meth K C m f ∧ FnOk P w K mg base (L2.CX P w) k f fd ps (spF K mg n fm) ∧ Binds K fd ps []
section
variable {X : Cx} {vs : Fx} {W : WX} {e : Expr} {es : List Expr} {kws : List Keyword} {mos : M (List Opd)} {mo : M Opd} {me : M T} {pos p p2 pos2 : Pos}
theorem fe_new {c x qual : Str} {st : Stmt} {ps : List Str} {k n : Nat} {fi : List T → Rs} (frz : Bool) (D : ClsD X.prog X.w X.K X.mg X.base c x qual st ps k n fi) (tk : Takes X W) (hr : Room (k + 1) X.A)
    (ha : FOs X vs W (e :: es) mos) (hn : ∀ ρ os ρ', mos ρ = .ok os ρ' → os.length = n) (hg : Gl X c := by rfl) (hdb : (c == ("__debug__" : Str)) = false := by decide) (he : starEach (e :: es) X.env = (false, eval e X.env) :: starEach es X.env := by rfl) (hpl : (backTo pos (starEach es X.env)).any (·.1) = false := by rfl) :
    FE X vs W (.Call (.Name c p) (e :: es) [] pos) (eFun (makeFn c frz fi) mos) := by
  obtain ⟨C, f, fd, hc, M, F, G, b⟩ := D
  exact fe_fun (callOk_make hc M G hr tk b) hc M.kp ha hn hg hdb he hpl
theorem fe_newK0 {c x qual : Str} {st : Stmt} {ps ks : List Str} {k : Nat} {ix jx : List Nat} {fi : List T → Rs} (frz : Bool) (D : ClsD X.prog X.w X.K X.mg X.base c x qual st ps k (0 + ks.length) fi) (tk : Takes X W) (hr : Room (k + 1) X.A) (kp : KPerm (0 + ks.length) ix jx)
    (hb : ∀ (kV doc pm : Value) (an : Option Addr) (cdv ct self : Value) (uz : List Value), uz.length = ks.length → bindArgs (PySem.W.fnOf x qual (defArgs st) (defBody st) (defScope st) .none kV doc pm an cdv ct) ⟨[self], ks.zip uz⟩ = pure (ps.zip (self :: pick ix uz)))
    (ha : FK X vs W kws mos) (hn : ∀ ρ os ρ', mos ρ = .ok os ρ' → os.length = ks.length) (hg : Gl X c := by rfl) (hall : (backToKw pos (keywordEach kws X.env)).all (·.1.isSome) = true := by rfl) (hks : (backToKw pos (keywordEach kws X.env)).filterMap (·.1) = ks := by rfl)
    (hdb : (c == ("__debug__" : Str)) = false := by decide) (hpl : ((backTo pos (starEach [] X.env)).any (·.1) || (backToKw pos (keywordEach kws X.env)).any (·.1.isNone)) = false := by rfl) :
    FE X vs W (.Call (.Name c p) [] kws pos) (eFun (permF ix jx (makeFn c frz fi)) (osApp osNil mos)) := by
  obtain ⟨C, f, fd, hc, M, F, G, b⟩ := D
  refine fe_kw0 (callK_make hc M G hr tk fun s self us uz l1 l2 => ?_) kp hc M.kp ha hn hg hall hks hdb hpl
  obtain ⟨oc, od, kV, doc, pm, an, cdv, ct, osl, rfl, lk, hcd⟩ := F.ex
  have e0 : us = [] := List.eq_nil_of_length_eq_zero l1
  subst e0
  exact BindsTo.of_eq (hb kV doc pm an cdv ct self uz l2)
/-- only new things -/
theorem Step.grew {F : FH} {H : Hp} {F' : FH} {H' : Hp} {B : List Addr} (st : Step F H [] F' H' B) : Grow F H F' H' B :=
  ⟨st.ff, fun b o e => st.fr b o e (by simp), st.wd.sub, fun b e n => (st.fz b e n).elim id (fun h => (by cases h)), st.wd.nd, fun b hb => ⟨(st.nw b hb).elim (fun h => (by cases h)) id, st.wd.fn b hb, st.wd.th b hb⟩⟩
theorem Step.grew0 {F : FH} {H : Hp} {F'm : Hp} {H' : Hp} {B : List Addr} (st : Step ⟨F.m, []⟩ H [] ⟨F'm, []⟩ H' B) : Grow F H ⟨F'm, F.R⟩ H' B :=
  have g := st.grew
  ⟨⟨g.ff.ff, rfl⟩, g.hh, g.sub, g.fz, g.nd, g.nw⟩
def propT (c : Str) (fg : List T → Rs) : T → Option T
  | .ob c' fs => if c' = c then (match fg [.ob c' fs] with
    | .ok τ _ => some τ
    | _ => none) else none
  | _ => none
theorem never_passes {σp : Value → Shared → Prop} : Passes (L2.CX X.prog X.w) X.nox (fun _ _ _ => False) := fun pins σ H s e s' _ ⟨_, _, _, _, _, _, _, _, _, _, _, _, q⟩ => q.elim
theorem fe_prop {c f : Str} {k : Nat} {fg : List T → Rs} (D : PropD X.prog X.w X.K X.mg X.base c f k fg) (hr : Room (k + 1) X.A) (h : FO X vs W e mo) (hb : attributeBase e f X.env (eval e X.env) = eval e X.env := by rfl) : FE X vs W (.Attribute e f pos) (eOp1 (propT c fg) mo) := by
  obtain ⟨C, pa, g, fd, ps, hc, cl, po, G, b⟩ := D
  refine fe_one (r := fun x H1 Q => ∃ a dx fs, x = .ref a ∧ H1 a = some (.ins C dx fs) ∧ spF X.K X.mg 1 fg [.ref a] H1 Q (fun _ _ _ => False)) h (fun F H v t τ A1 Q sm rt hf kk => ?_) fun ta pt => pe_prop (dvs := []) (ds := []) pt cl po G hr b .nil (never_passes (σp := X.xe)) hb
  unfold propT at hf
  split at hf
  · rename_i c' fs
    split at hf
    · rename_i hcc
      subst hcc
      split at hf
      · rename_i τ' outs hfg
        cases hf
        have rt0 := rt
        obtain ⟨a, C', dx, vfs, rfl, hm, hF, rf, rfl⟩ := rt
        rw [hc] at hm
        cases hm
        refine ⟨a, dx, vfs, rfl, sm _ _ hF, ⟨F.m, []⟩, [_], [], ⟨sm, List.nodup_nil, fun b hb => (by cases hb), fun b hb => (by cases hb), fun b hb => (by cases hb)⟩, ⟨_, _, [], [], rfl, RT.clean _ rfl rt0, ⟨rfl, rfl⟩, rfl⟩, rfl, ?_⟩
        rw [hfg]
        intro v F' H' B Bo st rv ro
        obtain ⟨F'm, F'R⟩ := F'
        have e0 : F'R = [] := st.ff.rr
        subst e0
        exact kk v ⟨F'm, F.R⟩ H' B (Step.grew0 st.lessL) (RT.more (fun b hb => by cases hb) _ rv)
      · cases hf
    · cases hf
  · cases hf

/-! ### an own error -/
def spIni (K : PySem.W.Frag) : Sp := fun ws H Q E => ∃ (a C : Addr) (y : V), ws = [.ref a, y] ∧ OexC K C ∧ PySem.W.findIn K (.ref C) "value" = some none ∧ H a = some (exo a C none) ∧
  ∀ dx, H dx = none → dx ≠ a → Q .non (upd (upd H dx (exd dx [("value", y)])) a (exo a C (some dx)))
def ErrD (P : Program) (w : World) (K : PySem.W.Frag) (mg : Str → Option Value) (base : Heap) (c : Str) : Prop :=
  ∃ (C f : Addr) (fd : FuncData) (ps : List Str), mg c = some (.ref C) ∧ OexC K C ∧ PySem.W.findIn K (.ref C) "__init__" = some (some (.ref f)) ∧ PySem.W.typeIn K (.ref f) = some (.type "function") ∧
    PySem.W.findIn K (.ref C) "value" = some none ∧ XfC K C ∧ FnOk P w K mg base (L2.CX P w) 1 f fd ps (spIni K) ∧ Binds K fd ps []
def sRaise (c : Str) (me : M T) : Env → Fl := fun ρ => match me ρ with
  | .ok t ρ' => (match dOf t with
    | some x => .exc c x ρ'
    | none => .bad)
  | .exc k x ρ' => .exc k x ρ'
  | .bad => .bad
theorem fs_raise {c : Str} (D : ErrD X.prog X.w X.K X.mg X.base c) (tk : Takes X W) (hcm : X.calm = true) (hr : Room 2 X.A) (he : FE X vs W e me) (hg : Gl X c := by rfl) (hdb : (c == ("__debug__" : Str)) = false := by decide)
    (hst : starEach [e] X.env = (false, eval e X.env) :: starEach [] X.env := by rfl) (hpl : (backTo pos (starEach [] X.env)).any (·.1) = false := by rfl) :
    FS X vs W (.Raise (some (.Call (.Name c p) [e] [] pos)) none pos2) (sRaise c me) := by
  obtain ⟨C, f, fd, ps, hc, oc, iC, tI, hno, xf, G, b⟩ := D
  obtain ⟨te, pe, qe⟩ := he
  refine ⟨_, ps_raise hcm tk (pmk_oex (ds := []) (dvs := []) oc iC tI G hr b .nil (fun pins σ H s e s' _ ⟨_, _, _, _, _, _, _, _, _, _, _, _, q⟩ => q.elim) hg hc (pa_cons pe pa_nil hst) hdb hst hpl), fun D σ H F ρ A w r hq => ?_⟩
  refine qe σ H F ρ A _ w r ?_
  unfold sRaise at hq
  cases e1 : me ρ with
  | bad => rw [e1] at hq; exact hq
  | exc c x ρ' => rw [e1] at hq; exact fun cls d F' H' A' st rp ex => hq cls d σ F' H' A' st rp ex
  | ok t ρ1 =>
    rw [e1] at hq
    simp only at hq
    intro v F1 H1 A1 B1 st1 rp1 r1
    cases ed : dOf t with
    | none => rw [ed] at hq; exact hq.elim
    | some x =>
      rw [ed] at hq
      obtain ⟨dv, rfl⟩ := dOf_rt r1 ed
      rw [List.append_nil] at st1
      refine ⟨by simp, fun a ha => ⟨a, C, v, rfl, oc, hno, upd_same, fun dx hdx hne => ⟨rfl, dx, [("value", v)], upd_same, ?_, ?_, ?_⟩⟩⟩
      · rw [upd_ne hne, upd_same]
      · rw [upd_ne hne] at hdx; exact hdx
      · have hdx1 : H1 dx = none := by rw [upd_ne hne] at hdx; exact hdx
        have eH : upd (del (upd (upd (upd H1 a (exo a C none)) dx (exd dx [("value", v)])) a (exo a C (some dx))) a) dx (.xd [("value", v)]) = upd H1 dx (.xd [("value", v)]) := by
          funext b
          by_cases hbd : b = dx
          · subst hbd; rw [upd_same, upd_same]
          · rw [upd_ne hbd, upd_ne hbd]
            by_cases hba : b = a
            · subst hba; rw [del_same, ha]
            · rw [del_ne hba, upd_ne hba, upd_ne hbd, upd_ne hba]
        rw [eH]
        have g := Grow.frz (o := .xd [("value", v)]) st1.wd.sub hdx1
        have s2 := st1.trans (g.step st1.wd)
        rw [List.append_nil] at s2
        exact hq (.ref C) (some dx) σ _ _ A1 s2 (rp1.grow g) ⟨C, dx, v, rfl, hc, rfl, upd_same, Dp.same g.ff.ff x dv⟩
end
/-- StreamError.__init__(self, value) -/
theorem ini_ok {P : Program} {w : World} {K : PySem.W.Frag} {mg : Str → Option Value} {base : Heap} {x qual : Str} {st : Stmt} {f : Addr} {fd : FuncData} {p1 p2 p3 p4 : Pos} (F : Fun K x qual st f fd) (S : FnScope ["self", "value"] ["self", "value"] (defScope st))
    (hb : defBody st = [.Assign [.Attribute (.Name "self" p1) "value" p2] (.Name "value" p3) p4]) (v0 : Vis (defScope st) "self") (v1 : Vis (defScope st) "value") : FnOk P w K mg base (L2.CX P w) 1 f fd ["self", "value"] (spIni K) := by
  refine F.okX S (fun vs H Q E ⟨a, C, y, e, _⟩ => by subst e; rfl) (fun cdv A outer s H vs Q E hr h => ?_)
  obtain ⟨a, C, y, rfl, oc, hno, hH, q⟩ := h
  rw [hb]
  refine ⟨_, pss_one (ps_ost (pe_var (i := 0) rfl v0) (pe_var (i := 1) rfl v1)), ?_⟩
  exact ⟨y, rfl, .ref a, rfl, a, C, rfl, oc, hno, .inl ⟨hH, fun dx h1 h2 => q dx h1 h2⟩⟩
end FL

set_option Elab.async false
set_option linter.all false
set_option maxRecDepth 100000
namespace FL
open PySem PySem.Spec PyProof.Rows L2

/-! ### try with several clauses, each with a name -/
/-- an exception in hand, noted at this frame -/
structure Held (X : Cx) (pins : List (Addr × Obj)) (a : Addr) (cls : Value) (d : Option Addr) (σ : L2.St) (H : Hp) (s : Shared) : Prop where
  ex : ∃ (B : Heap) (sI : Shared), Inv X pins σ H sI ∧ (∀ b o, sI.heap.get? b = some o → b ∉ frs X.stack → B.get? b = some o) ∧ sI.heap.UpToSlots s.heap ∧ HandSPX.FlyingZ B (X.env :: X.outer) a (Zc cls d) s.heap ∧ H a = none ∧ s.os = sI.os ∧ AllBare s.gens
section
variable {X : Cx} {pins : List (Addr × Obj)} {a : Addr} {cls : Value} {d : Option Addr} {σ : L2.St} {H : Hp} {s : Shared}
theorem Held.inv (h : Held X pins a cls d σ H s) : Inv X pins σ H s := by
  obtain ⟨B, sI, J, nb, up, fl, na, os, ag⟩ := h
  exact J.landed nb fl.1 up os ag
theorem Held.na (h : Held X pins a cls d σ H s) : H a = none := by
  obtain ⟨B, sI, J, nb, up, fl, na, os, ag⟩ := h
  exact na
theorem Held.suite (h : Held X pins a cls d σ H s) (hf : X.env.frame = some X.env.locals) : ∃ oe, s.heap.get? a = some oe ∧ Zc cls d oe ∧ (∃ vs, oe.data = .fields vs) ∧ Inv (X.suite a ((a, oe) :: (X.pn ++ pins))) [] σ H s := by
  have K := h.inv
  obtain ⟨B, sI, J, nb, up, fl, na, os, ag⟩ := h
  obtain ⟨oe, fv, ge, hz, hd⟩ := fl.there
  have apart : a ∉ frs (X.env :: X.outer) := fun hm => by
    obtain ⟨_, o, e, nf⟩ := fl.2.2.1.mem hm
    rw [ge] at e
    cases e
    exact nf _ hd
  refine ⟨oe, ge, hz, ⟨fv, hd⟩, K.suite ge hd na (fun z => apart ?_) fun hm => apart ?_⟩
  · exact List.mem_filterMap.mpr ⟨X.env, List.mem_cons_self, by rw [hf, z]⟩
  · obtain ⟨e, he, q⟩ := List.mem_filterMap.mp hm
    exact List.mem_filterMap.mpr ⟨e, List.mem_cons_of_mem _ he, q⟩
theorem Held.up (h : Held X pins a cls d σ H s) {G : Heap} (hG : ∀ B, HandSPX.FlyingZ B (X.env :: X.outer) a (Zc cls d) s.heap → HandSPX.FlyingZ B (X.env :: X.outer) a (Zc cls d) G) (u : s.heap.UpToSlots G) : Held X pins a cls d σ H { s with heap := G } := by
  obtain ⟨B, sI, J, nb, up, fl, na, os, ag⟩ := h
  exact ⟨B, sI, J, nb, up.trans u, hG B fl, na, os, ag⟩
/-- no clause is left -/
theorem Held.out {W : WX} {Q : Flow → Shared → Prop} (h : Held X pins a cls d σ H s) (hs : X.stack = X.env :: X.outer) (hf : X.env.frame = some X.env.locals) (tk : Takes X W) (w : W cls d σ H) : wpAny (model X.prog X.w) X.A (handleBy (.ref a) X.env []) Q X.xe s := by
  obtain ⟨B, sI, J, nb, up, fl, na, os, ag⟩ := h
  obtain ⟨k1, k2, k3, oe, vs, T, oT, ts, he, hz, hd, h1, hr⟩ := id fl
  refine wpAny_handleBy_nil ?_
  unfold PySem.passOn
  refine wpAny_bind (wpAny_field he hd h1 ?_)
  rw [if_neg (by simp : ¬ ((Value.ref T == Value.none) = true))]
  have go : wpAny (model X.prog X.w) X.A (setFlight (.ref a) X.env.frame) (fun _ s4 => wpAny (model X.prog X.w) X.A (throw (.ref a) : Sem Flow) Q X.xe s4) X.xe s := by
    rw [hf]
    refine HandSPX.setFlight_upZ fl fun G hG uG => ?_
    exact wpAny_throw (tk _ _ ⟨a, B, sI, pins, σ, H, cls, d, rfl, J, nb, up.trans uG, .inr (.inr (by rw [hs]; exact hG)), na, os, ag, w⟩)
  first
    | exact wpAny_bind (wpAny_pure (wpAny_bind go))
    | exact wpAny_bind go
end
def wipeD (D : Ends) (i : Nat) : Ends := { nx := fun σ H => D.nx (σ.set i none) H, rt := D.rt, bk := fun σ H => D.bk (σ.set i none) H, ct := fun σ H => D.ct (σ.set i none) H }
/-- the clauses, and what they wish of an exception -/
inductive Hds (X : Cx) (D : Ends) (Wout : WX) : List ExceptHandler → WX → Prop
  | nil : Hds X D Wout [] Wout
  | cons {x n : Str} {c : Value} {i : Nat} {w w' : WX} {b₀ : Stmt} {suite : List Stmt} {np pos' : Pos} {hds : List ExceptHandler} (hc : Names X x c) (hi : X.N[i]? = some n) (hln : X.env.kindOf n = some .local)
      (hsu : ∀ (a : Addr) (oe : Obj) (cls : Value) (d : Option Addr) (pn : List (Addr × Obj)) (σ : L2.St) (H : Hp), Zc cls d oe → (∃ vs, oe.data = .fields vs) → H a = none → w cls d σ H →
        ∃ t, PSs (X.suite a ((a, oe) :: pn)) (b₀ :: suite) t ∧ t (wipeD D i) (σ.set i (some (.ref a))) H) (r : Hds X D Wout hds w') :
      Hds X D Wout (.ExceptHandler (some (.Name x np)) (some n) (b₀ :: suite) pos' :: hds) (fun cls d σ H => ∃ b, PySem.W.exmOne X.K cls c = some b ∧ (b = true → w cls d σ H) ∧ (b = false → w' cls d σ H))
section
variable {X : Cx} {body : List Stmt} {h₀ : ExceptHandler} {hds : List ExceptHandler} {pos : Pos} {Wout : WX}
theorem Held.go {D : Ends} {pins : List (Addr × Obj)} {a : Addr} {cls : Value} {d : Option Addr} {σ : L2.St} {H : Hp} (hs : X.stack = X.env :: X.outer) (hf : X.env.frame = some X.env.locals) (hN : X.N.Nodup) (tk : Takes X Wout) :
    ∀ {hds : List ExceptHandler} {w : WX}, Hds X D Wout hds w → ∀ {s : Shared}, Held X pins a cls d σ H s → w cls d σ H → wpAny (model X.prog X.w) X.A (handleBy (.ref a) X.env hds) (SP X pins D) X.xe s := by
  intro hds w hk
  induction hk with
  | nil => exact fun {s} h w => h.out hs hf tk w
  | @cons x n c i w w' b₀ suite np pos' hds hc hi hln hsu _ ih =>
    intro s h hw
    obtain ⟨b, hb, yes, no⟩ := hw
    obtain ⟨oe, ge, hz, hfl, S⟩ := h.suite hf
    refine wpAny_handleBy_cons (codeAny_handlers_test ?_) (fun q => by cases q)
    have ty : PySem.W.Looks (model X.prog X.w) s.heap (typeOf (.ref a)) cls := fun A Q E s k q => wpAny_typeOf_ref (k _ _ ge) (by rw [hz.1]; exact q)
    have ms := PySem.W.exm_one (M := model X.prog X.w) h.inv.kIn ty hb
    have rd : ∀ {Q : Value → Shared → Prop} {E : Value → Shared → Prop}, Q c s → wpAny (model X.prog X.w) (X.A.mark (some (.ref a))) (eval (.Name x np) X.env) Q E s := fun {Q E} q => by
      rcases hc with ⟨g, dbg, m | ⟨m, v, nn⟩⟩
      · exact ld_glob (X := X.suite a ((a, oe) :: (X.pn ++ pins))) S g m q dbg
      · exact ld_blt (X := X.suite a ((a, oe) :: (X.pn ++ pins))) S g m v q nn dbg
    refine rd (ms.here ?_)
    cases b with
    | false => exact ih h (no rfl)
    | true =>
      refine codeAny_handlers_suite_as ?_
      obtain ⟨B, sI, J, nb, up, fl, na, os, ag⟩ := id h
      refine HandSPX.lands_againZ fl fun G fG uG => ?_
      have h2 : Held X pins a cls d σ H { s with heap := G } := ⟨B, sI, J, nb, up.trans uG, fG, na, os, ag⟩
      obtain ⟨oe2, ge2, hz2, hfl2, S2⟩ := h2.suite hf
      refine store_ok (X := X.suite a ((a, oe2) :: (X.pn ++ pins))) (v := .ref a) S2 hN hi (.inl hln) rfl (fun s5 S5 => ?_) (.inr hln)
      obtain ⟨t, pt, qt⟩ := hsu a oe2 cls d (X.pn ++ pins) σ H hz2 hfl2 na (yes rfl)
      have ok := J.ok
      have leave : ∀ {σ6 : L2.St} {H6 : Hp} {s6 : Shared} {Q : Shared → Prop}, Inv (X.suite a ((a, oe2) :: (X.pn ++ pins))) [] σ6 H6 s6 → (∀ s7, Inv X pins (σ6.set i none) H6 s7 → Q s7) →
          wpAny (model X.prog X.w) X.A (do bindName X.env n .none; unbindBehindTheSuite X.env n pos') (fun _ s7 => Q s7) X.xe s6 := fun S6 q => gone_ok (S6.unsuite ok) hN hi hln q
      refine wpAny_mono (pt.run [] s5 _ H _ S5 qt) (fun f s6 out => ?_) (fun _ _ z => z.elim)
      match f, out with
      | .next, ⟨σ6, H6, S6, q⟩ => exact leave S6 fun s7 J7 => ⟨_, _, J7, q⟩
      | .brk, ⟨σ6, H6, S6, q⟩ => exact leave S6 fun s7 J7 => ⟨_, _, J7, q⟩
      | .cont, ⟨σ6, H6, S6, q⟩ => exact leave S6 fun s7 J7 => ⟨_, _, J7, q⟩
      | .ret u, ⟨v6, σ6, H6, S6, r6, q⟩ => exact leave S6 fun s7 J7 => ⟨_, _, _, J7, r6, q⟩
/-- the try -/
theorem ps_tries (hs : X.stack = X.env :: X.outer) (hf : X.env.frame = some X.env.locals) (hN : X.N.Nodup) (tk : Takes X Wout) : PS X (.Try body (h₀ :: hds) [] [] pos)
    (fun D σ H => ∃ Wh, Hds X D Wout (h₀ :: hds) Wh ∧ ∀ (pn : List (Addr × Obj)) (xe : Value → Shared → Prop), Takes (X.tr pn xe) Wh → PassesOwn (model X.prog X.w) X.A X.env xe → ∃ t, PSs (X.tr pn xe) body t ∧ t D σ H) := by
  refine ⟨fun pins s σ H D I ⟨Wh, hk, hb⟩ => ?_⟩
  have ok := I.ok
  refine wpAny_Try_except ?_
  have tk2 : Takes (X.tr (X.pn ++ pins) (fun e s₁ => wpAny (model X.prog X.w) X.A (noteFrame e X.env) (fun _ s₂ => wpAny (model X.prog X.w) X.A (setFlight e none) (fun _ s₃ =>
    wpAny (model X.prog X.w) X.A (handleBy e X.env (h₀ :: hds)) (SP X pins D) X.xe s₃) X.xe s₂) X.xe s₁)) Wh := fun u s' air => by
    obtain ⟨a, B, sI, pins', σ', H', cls, d, rfl, J, nb, up, sky, na, os, ag, w⟩ := air
    have fr : X.A.frames = some (X.env :: X.outer) := by rw [ok.frames, hs]
    have sky2 : Sky B (X.env :: X.outer) a (Zc cls d) X.env.locals s'.heap := hs ▸ sky
    refine Sky.land Zc.steady fr hf sky2 fun G fG uG => ?_
    exact Held.go hs hf hN tk hk ⟨B, sI, J.ofTry ok, nb, up.trans uG, fG, na, os, ag⟩ w
  obtain ⟨t, pt, qt⟩ := hb _ _ tk2 PassesOwn.looking
  refine wpAny_mono (pt.run [] s σ H D (I.toTry _) qt) (fun f s1 out => ?_) (fun e s1 he => he)
  match f, out with
  | .next, ⟨σ', H', J, q⟩ => exact wpAny_execs_nil ⟨σ', H', J.ofTry ok, q⟩
  | .brk, ⟨σ', H', J, q⟩ => exact ⟨σ', H', J.ofTry ok, q⟩
  | .cont, ⟨σ', H', J, q⟩ => exact ⟨σ', H', J.ofTry ok, q⟩
  | .ret u, ⟨v, σ', H', J, r, q⟩ => exact ⟨v, σ', H', J.ofTry ok, r, q⟩
end

/-! ### its function -/
/-- the errors of the text: every one is a StreamError -/
def subE (c k : Str) : Bool := c == k || k == ("StreamError" : Str)
def ExmD (K : PySem.W.Frag) (mg : Str → Option Value) (es : List Str) : Prop := ∀ c ∈ es, ∀ k ∈ es, ∀ C Ck, mg c = some (.ref C) → mg k = some (.ref Ck) → PySem.W.exmOne K (.ref C) (.ref Ck) = some (subE c k)
def wipeF (i : Nat) : Fl → Fl
  | .nx ρ => .nx (ρ.set i none)
  | .bk ρ => .bk (ρ.set i none)
  | .ct ρ => .ct (ρ.set i none)
  | .rt τ ρ => .rt τ ρ
  | _ => .bad
abbrev Clause := Str × Nat × (PyData → Env → Fl)
def handle (es : List Str) (c : Str) (x : PyData) (ρ : Env) : List Clause → Fl
  | [] => .exc c x ρ
  | (k, i, ms) :: r => if c ∈ es ∧ k ∈ es then (if subE c k then wipeF i (ms x (ρ.set i none)) else handle es c x ρ r) else .bad
def sTry (es : List Str) (mb : Env → Fl) (cl : List Clause) : Env → Fl := fun ρ => match mb ρ with
  | .exc c x ρ' => handle es c x ρ' cl
  | f => f
section
variable {K : PySem.W.Frag} {mg : Str → Option Value} {vs : Fx} [Fx.Free vs]
theorem RSl.blank {F : FH} {H : Hp} : ∀ {ρ : Env} {σ : L2.St} {A : List Addr} (i : Nat) (o : Option V), RSl K mg F H ρ σ A → ∃ A1 A2, A.Perm (A1 ++ A2) ∧ RSl K mg F H (ρ.set i none) (σ.set i o) A2
  | [], σ, A, i, o, ⟨e1, e2⟩ => ⟨[], A, .refl _, by subst e1; exact ⟨rfl, e2⟩⟩
  | none :: ρ, σ, A, 0, o, ⟨o', r, e, q⟩ => ⟨[], A, .refl _, by subst e; exact ⟨o, r, rfl, q⟩⟩
  | some (t, b) :: ρ, σ, A, 0, o, ⟨v, r, A1, A2, e, q1, q2, e2⟩ => ⟨A1, A2, by rw [e2], by subst e; exact ⟨o, r, rfl, q2⟩⟩
  | none :: ρ, σ, A, i + 1, o, ⟨o', r, e, q⟩ => by
    subst e
    obtain ⟨A1, A2, h1, h2⟩ := RSl.blank i o q
    exact ⟨A1, A2, h1, o', _, rfl, h2⟩
  | some (t, b) :: ρ, σ, A, i + 1, o, ⟨v, r, B1, B2, e, q1, q2, e2⟩ => by
    subst e e2
    obtain ⟨A1, A2, h1, h2⟩ := RSl.blank i o q2
    refine ⟨A1, B1 ++ A2, ?_, v, _, B1, A2, rfl, q1, h2, rfl⟩
    refine (h1.append_left B1).trans ?_
    rw [← List.append_assoc, ← List.append_assoc]
    exact List.perm_append_comm.append_right A2
theorem Rep.blank {F : FH} {H : Hp} {σ : L2.St} {ρ : Env} {A : List Addr} (w : Wd F H A) (r : Rep K mg vs F H σ ρ A) (i : Nat) (o : Option V) : ∃ A', Step F H A F H A' ∧ Rep K mg vs F H (σ.set i o) (ρ.set i none) A' := by
  obtain ⟨A1, A2, p, h⟩ := r.sl.blank i o
  refine ⟨A2, ((Step.refl w).perm (.refl _) p).lessL, r.fx, Fx.Free.all _, h, fun j t hj => ?_⟩
  by_cases hij : i = j
  · subst hij
    rw [List.getElem?_set] at hj
    split at hj
    · split at hj <;> simp at hj
    · exact absurd rfl ‹_›
  · rw [List.getElem?_set_ne hij] at hj ⊢
    exact r.io j t hj
end
/-- a suite, run where the exception stands in its slot -/
abbrev Fx.held (ws : List V) (F0 : Hp) (i : Nat) (a : Addr) : Fx := ⟨ws, F0, fun σ => i < σ.length → σ[i]? = some (some (.ref a))⟩
abbrev Fx.fixed (ws : List V) (F0 : Hp) : Fx := ⟨ws, F0, fun _ => True⟩
structure FSu (X : Cx) (ws : List V) (F0 : Hp) (i : Nat) (a : Addr) (ss : List Stmt) (m : Env → Fl) : Prop where
  ex : ∃ t : TS, PSs X ss t ∧ ∀ (D : Ends) (σ : L2.St) (H : Hp) (F : FH) (ρ : Env) (A : List Addr), Wd F H A → Rep X.K X.mg (Fx.held ws F0 i a) F H σ ρ A → SQ X.K X.mg (Fx.fixed ws F0) WF D F H A (m ρ) → t D σ H
section
variable {X : Cx} {ws : List V} {F0 : Hp} {i : Nat} {a : Addr} {e : Expr} {me : M T} {pos : Pos}
/-- the suite that stores a value of the exception in a name -/
theorem fu_set (j : Nat) {x : Str} {px : Pos} (hN : X.N.Nodup) (he : FE X (Fx.held ws F0 i a) WF e me) (hj : X.N[j]? = some x := by rfl) (hl : Loc X.env.scope x := by first | exact Or.inl rfl | exact Or.inr rfl) (hs : swapsWith e (some (.Name x px)) pos.line X.env = pure false := by rfl) (hf : X.fn x = true ∨ X.env.scope.names.lookup x = some .local := by first | exact .inl rfl | exact .inr rfl) :
    FSu X ws F0 i a [.Assign [.Name x px] e pos] (sSeq (sAsg (gSlot j) me) sNil) := by
  obtain ⟨te, pe, qe⟩ := he
  refine ⟨_, pss_one (ps_set hN hj hl pe hs hf), fun D σ H F ρ A w r hq => ?_⟩
  refine qe σ H F ρ A _ w r ?_
  unfold sSeq sAsg at hq
  cases e1 : me ρ with
  | bad => rw [e1] at hq; exact hq
  | exc c x ρ' => rw [e1] at hq; exact fun cls d F' H' A' st rp ex => hq cls d σ F' H' A' st ⟨rp.fx, trivial, rp.sl, rp.io⟩ ex
  | ok τ ρ1 =>
    rw [e1] at hq
    simp only [gSlot, sNil] at hq
    intro v F1 H1 A1 B st rp rt
    have r2 : Rep X.K X.mg (Fx.fixed ws F0) F1 H1 σ ρ1 A1 := ⟨rp.fx, trivial, rp.sl, rp.io⟩
    obtain ⟨A2, s2, r3⟩ := Rep.store st.wd r2 rt j
    exact hq _ F1 H1 A2 (st.trans s2) r3
/-- e.value in a suite -/
theorem fe_xval {C dx : Addr} {oe : Obj} {pn : List (Addr × Obj)} {v : V} {y : PyData} {c x : Str} {W' : WX} {p : Pos} {P : Program} {w : World} {base : Heap} (D : ErrD P w X.K X.mg base c) (hm : X.mg c = some (.ref C)) (hz : Zc (.ref C) (some dx) oe) (hf : ∃ vs, oe.data = .fields vs)
    (h1 : F0 dx = some (.xd [("value", v)])) (h2 : Dp X.K F0 v y) (hN : X.N[i]? = some x := by rfl) (hv : Vis X.env.scope x := by first | exact Or.inl rfl | exact Or.inr (Or.inl rfl) | exact Or.inr (Or.inr rfl)) (hd : (x == ("__debug__" : Str)) = false := by decide) (hcd : (x == ("__classdict__" : Str)) = false := by decide)
    (hb : attributeBase (.Name x p) "value" X.env (eval (.Name x p) X.env) = eval (.Name x p) X.env := by rfl) (hi : ∀ σ : L2.St, σ.length = X.N.length → i < σ.length := by intro σ h; rw [h]; decide) :
    FE (X.suite a ((a, oe) :: pn)) (Fx.held ws F0 i a) W' (.Attribute (.Name x p) "value" pos) (fun ρ => if ρ.length = X.N.length then .ok (.d y) ρ else .bad) := by
  obtain ⟨C', f, fd, ps, hc, oc, iC, tI, hno, xf, G, b⟩ := D
  rw [hm] at hc
  cases hc
  refine ⟨_, pe_xf (X := X) xf hno hz hf (pe_var (X := X.suite a ((a, oe) :: pn)) (i := i) hN hv hd hcd) hb, fun σ H F ρ A Q w rp hq => ?_⟩
  split at hq
  · rename_i hl
    have hl2 : i < σ.length := hi σ (by rw [← rp.sl.len]; exact hl)
    have hd1 : F dx = some (.xd [("value", v)]) := rp.fx _ _ h1
    refine ⟨.ref a, rp.st hl2, rfl, rfl, dx, _, v, rfl, w.sub _ _ hd1, by rfl, ?_⟩
    exact hq v F H A [] (by rw [List.append_nil]; exact .refl w) rp ⟨Dp.same rp.fx y h2, rfl⟩
  · exact hq.elim
end
/-- the clauses' suites -/
inductive FHds (X : Cx) (vs : Fx) (es : List Str) : List ExceptHandler → List Clause → Prop
  | nil : FHds X vs es [] []
  | cons {x n : Str} {C : Addr} {i : Nat} {ms : PyData → Env → Fl} {b₀ : Stmt} {suite : List Stmt} {np pos' : Pos} {hds : List ExceptHandler} {cl : List Clause} (hg : Gl X x) (hdb : (x == ("__debug__" : Str)) = false) (hm : X.mg x = some (.ref C)) (hi : X.N[i]? = some n) (hln : X.env.kindOf n = some .local)
      (hsu : ∀ (a : Addr) (oe : Obj) (C' dx : Addr) (v : V) (c : Str) (y : PyData) (pn : List (Addr × Obj)) (F0 : Hp), Zc (.ref C') (some dx) oe → (∃ vs, oe.data = .fields vs) → X.mg c = some (.ref C') → c ∈ es → F0 dx = some (.xd [("value", v)]) → Dp X.K F0 v y →
        FSu (X.suite a ((a, oe) :: pn)) vs.ws F0 i a (b₀ :: suite) (ms y)) (r : FHds X vs es hds cl) :
      FHds X vs es (.ExceptHandler (some (.Name x np)) (some n) (b₀ :: suite) pos' :: hds) ((x, i, ms) :: cl)
section
variable {X : Cx} {vs : Fx} [Fx.Free vs] {W : WX} {es : List Str}
theorem FHds.wish (D : Ends) {hds : List ExceptHandler} {cl : List Clause} (h : FHds X vs es hds cl) : ∃ Wh, Hds X D W hds Wh := by
  induction h with
  | nil => exact ⟨W, .nil⟩
  | @cons x n C i ms b₀ suite np pos' hds cl hg hdb hm hi hln hsu r ih =>
    obtain ⟨Wh, k⟩ := ih
    exact ⟨_, .cons (w := fun _ _ _ _ => False) ⟨hg, hdb, .inl hm⟩ hi hln (fun _ _ _ _ _ _ _ _ _ _ q => q.elim) k⟩
theorem FHds.go {D : Ends} {F : FH} {H : Hp} {A : List Addr} (ex : ExmD X.K X.mg es) {c : Str} {y : PyData} {ρ : Env} {hds : List ExceptHandler} {cl : List Clause} (h : FHds X vs es hds cl) (hq : SQ X.K X.mg vs W D F H A (handle es c y ρ cl)) :
    ∃ Wh, Hds X D W hds Wh ∧ ∀ cls d σ' F' H' A', Step F H A F' H' A' → Rep X.K X.mg vs F' H' σ' ρ A' → ExcAt X.K X.mg F' H' cls d c y → Wh cls d σ' H' := by
  induction h with
  | nil => exact ⟨W, .nil, fun cls d σ' F' H' A' st rp e => hq cls d σ' F' H' A' st rp e⟩
  | @cons x n C i ms b₀ suite np pos' hds cl hg hdb hm hi hln hsu r ih =>
    unfold handle at hq
    split at hq
    · rename_i hmem
      by_cases hb : subE c x = true
      · rw [if_pos hb] at hq
        obtain ⟨Wh, k⟩ := r.wish (W := W) D
        refine ⟨_, .cons (w := fun cls d σ' H' => ∃ F' A', Step F H A F' H' A' ∧ Rep X.K X.mg vs F' H' σ' ρ A' ∧ ExcAt X.K X.mg F' H' cls d c y) ⟨hg, hdb, .inl hm⟩ hi hln ?_ k, ?_⟩
        · intro a oe cls d pn σ' H' hz hfl na ⟨F', A', st, rp, C', dx, v, e1, e2, e3, e4, e5⟩
          subst e1 e3
          obtain ⟨t, pt, qt⟩ := hsu a oe C' dx v c y pn F' hz hfl e2 hmem.1 e4 e5
          refine ⟨t, pt, ?_⟩
          obtain ⟨A2, s2, r2⟩ := rp.blank st.wd i (some (.ref a))
          refine qt (wipeD D i) (σ'.set i (some (.ref a))) H' F' (ρ.set i none) A2 s2.wd ⟨Same.refl _, fun hl => by
            rw [List.length_set] at hl
            rw [List.getElem?_set_self hl], r2.sl, r2.io⟩ ?_
          have fin : ∀ {σ2 : L2.St} {F2 : FH} {H2 : Hp} {A3 : List Addr} {ρ2 : Env}, Step F' H' A2 F2 H2 A3 → Rep X.K X.mg (Fx.fixed vs.ws F') F2 H2 σ2 ρ2 A3 → ∃ A4, Step F H A F2 H2 A4 ∧ Rep X.K X.mg vs F2 H2 (σ2.set i none) (ρ2.set i none) A4 := fun {σ2 F2 H2 A3 ρ2} s3 r3 => by
            obtain ⟨A4, s4, r4⟩ := r3.blank s3.wd i none
            exact ⟨A4, ((st.trans s2).trans s3).trans s4, (rp.fx.trans s3.ff.ff), Fx.Free.all _, r4.sl, r4.io⟩
          cases em : ms y (ρ.set i none) with
          | nx ρ2 =>
            rw [em] at hq
            intro σ2 F2 H2 A3 s3 r3
            obtain ⟨A4, s4, r4⟩ := fin s3 r3
            exact hq _ F2 H2 A4 s4 r4
          | bk ρ2 =>
            rw [em] at hq
            intro σ2 F2 H2 A3 s3 r3
            obtain ⟨A4, s4, r4⟩ := fin s3 r3
            exact hq _ F2 H2 A4 s4 r4
          | ct ρ2 =>
            rw [em] at hq
            intro σ2 F2 H2 A3 s3 r3
            obtain ⟨A4, s4, r4⟩ := fin s3 r3
            exact hq _ F2 H2 A4 s4 r4
          | rt τ ρ2 =>
            rw [em] at hq
            intro v2 σ2 F2 H2 A3 B s3 r3 rt
            exact hq v2 σ2 F2 H2 A3 B ((st.trans s2).trans s3) ⟨rp.fx.trans s3.ff.ff, Fx.Free.all _, r3.sl, r3.io⟩ rt
          | exc c2 x2 ρ2 => rw [em] at hq; exact hq.elim
          | bad => rw [em] at hq; exact hq.elim
        · intro cls d σ' F' H' A' st rp e
          obtain ⟨C', dx, v, e1, e2, e3, e4, e5⟩ := id e
          refine ⟨true, ?_, fun _ => ⟨F', A', st, rp, e⟩, fun q => (by cases q)⟩
          rw [e1, ex c hmem.1 x hmem.2 C' C e2 hm, hb]
      · rw [if_neg hb] at hq
        obtain ⟨Wh, k, q⟩ := ih hq
        refine ⟨_, .cons (w := fun _ _ _ _ => False) ⟨hg, hdb, .inl hm⟩ hi hln (fun _ _ _ _ _ _ _ _ _ _ q => q.elim) k, fun cls d σ' F' H' A' st rp e => ?_⟩
        obtain ⟨C', dx, v, e1, e2, e3, e4, e5⟩ := id e
        refine ⟨false, ?_, fun q => (by cases q), fun _ => q cls d σ' F' H' A' st rp e⟩
        rw [e1, ex c hmem.1 x hmem.2 C' C e2 hm]
        simpa using hb
    · exact hq.elim
theorem fs_try {body : List Stmt} {h₀ : ExceptHandler} {hds : List ExceptHandler} {cl : List Clause} {mb : Env → Fl} {pos : Pos} (hs : X.stack = X.env :: X.outer) (hf : X.env.frame = some X.env.locals) (hN : X.N.Nodup) (tk : Takes X W) (ex : ExmD X.K X.mg es)
    (hb : ∀ (W' : WX) (pn : List (Addr × Obj)) (xe : Value → Shared → Prop), Takes (X.tr pn xe) W' → PassesOwn (model X.prog X.w) X.A X.env xe → FB (X.tr pn xe) vs W' body mb) (hh : FHds X vs es (h₀ :: hds) cl) :
    FS X vs W (.Try body (h₀ :: hds) [] [] pos) (sTry es mb cl) := by
  refine ⟨_, ps_tries hs hf hN tk, fun D σ H F ρ A w r hq => ?_⟩
  unfold sTry at hq
  cases em : mb ρ with
  | exc c y ρ' =>
    rw [em] at hq
    obtain ⟨Wh, k, q⟩ := hh.go ex hq
    refine ⟨Wh, k, fun pn xe tk' pa => ?_⟩
    obtain ⟨t, pt, qt⟩ := hb Wh pn xe tk' pa
    refine ⟨t, pt, qt D σ H F ρ A w r ?_⟩
    rw [em]
    exact fun cls d σ' F' H' A' st rp e => q cls d σ' F' H' A' st rp e
  | nx ρ' =>
    rw [em] at hq
    obtain ⟨Wh, k⟩ := hh.wish (W := W) D
    refine ⟨Wh, k, fun pn xe tk' pa => ?_⟩
    obtain ⟨t, pt, qt⟩ := hb Wh pn xe tk' pa
    exact ⟨t, pt, qt D σ H F ρ A w r (by rw [em]; exact hq)⟩
  | bk ρ' =>
    rw [em] at hq
    obtain ⟨Wh, k⟩ := hh.wish (W := W) D
    refine ⟨Wh, k, fun pn xe tk' pa => ?_⟩
    obtain ⟨t, pt, qt⟩ := hb Wh pn xe tk' pa
    exact ⟨t, pt, qt D σ H F ρ A w r (by rw [em]; exact hq)⟩
  | ct ρ' =>
    rw [em] at hq
    obtain ⟨Wh, k⟩ := hh.wish (W := W) D
    refine ⟨Wh, k, fun pn xe tk' pa => ?_⟩
    obtain ⟨t, pt, qt⟩ := hb Wh pn xe tk' pa
    exact ⟨t, pt, qt D σ H F ρ A w r (by rw [em]; exact hq)⟩
  | rt τ ρ' =>
    rw [em] at hq
    obtain ⟨Wh, k⟩ := hh.wish (W := W) D
    refine ⟨Wh, k, fun pn xe tk' pa => ?_⟩
    obtain ⟨t, pt, qt⟩ := hb Wh pn xe tk' pa
    exact ⟨t, pt, qt D σ H F ρ A w r (by rw [em]; exact hq)⟩
  | bad => rw [em] at hq; exact hq.elim
end
end FL

set_option Elab.async false
set_option linter.all false
set_option maxRecDepth 100000
namespace FL
open PySem PySem.Spec PyProof.Rows L2

/-! ### slices -/
def cut {α : Type} (xs : List α) (lo hi : Option Int) : List α := (xs.drop (HT.sIx xs.length 0 lo)).take (HT.sIx xs.length xs.length hi - HT.sIx xs.length 0 lo)
def sliceT (lo hi : Option Int) : T → Option T
  | .d (.tuple ds) => some (.d (.tuple (cut ds lo hi)))
  | .d (.str z) => if small z.length then some (.d (.str (cutS z lo hi))) else none
  | .d (.list ds) => some (.ol ((cut ds lo hi).map T.d))
  | .ol ts => if ts.all isStat then some (.ol (cut ts lo hi)) else none
  | .bw t => (lstOf (.bw t)).map fun ts => .ol (cut ts lo hi)
  | _ => none
section
variable {K : PySem.W.Frag} {mg : Str → Option Value}
theorem RTs.drop {F : FH} {H : Hp} : ∀ (n : Nat) {ts : List T} {ws : List V}, RTs K mg F H ts ws [] → RTs K mg F H (ts.drop n) (ws.drop n) []
  | 0, ts, ws, r => r
  | n + 1, [], ws, ⟨e, r⟩ => by subst e; exact ⟨rfl, rfl⟩
  | n + 1, t :: ts, ws, ⟨v, s, A1, A2, e1, q1, q2, e2⟩ => by
    subst e1
    have e := (List.append_eq_nil_iff.mp e2.symm).2
    subst e
    exact RTs.drop n q2
theorem RTs.take {F : FH} {H : Hp} : ∀ (n : Nat) {ts : List T} {ws : List V}, RTs K mg F H ts ws [] → RTs K mg F H (ts.take n) (ws.take n) []
  | 0, ts, ws, r => ⟨rfl, rfl⟩
  | n + 1, [], ws, ⟨e, r⟩ => by subst e; exact ⟨rfl, rfl⟩
  | n + 1, t :: ts, ws, ⟨v, s, A1, A2, e1, q1, q2, e2⟩ => by
    subst e1
    obtain ⟨e, e'⟩ := List.append_eq_nil_iff.mp e2.symm
    subst e e'
    exact ⟨v, _, [], [], rfl, q1, RTs.take n q2, rfl⟩
theorem cut_map {α β : Type} (f : α → β) (xs : List α) (lo hi : Option Int) : cut (xs.map f) lo hi = (cut xs lo hi).map f := by
  unfold cut
  rw [List.length_map, List.map_take, List.map_drop]
theorem RTs.cut {F : FH} {H : Hp} {ts : List T} {ws : List V} (lo hi : Option Int) (r : RTs K mg F H ts ws []) : RTs K mg F H (FL.cut ts lo hi) (cutV ws lo hi) [] := by
  unfold FL.cut cutV
  rw [← r.length]
  exact (r.drop _).take _
/-- what a slice of a thing is -/
def rSlc (K : PySem.W.Frag) : V → Option Int → Option Int → Hp → VK → Prop := fun x lo hi H Q => (rSlA K x lo hi H Q ∨ rSlL K x lo hi H Q) ∨ rSlS x lo hi H Q
theorem slc_rt {F : FH} {H : Hp} {x : V} {t τ : T} {A1 : List Addr} {Q : VK} {lo hi : Option Int} (s : Same F H) (r : RT K mg F H t x A1) (e : sliceT lo hi t = some τ) (k : ∀ v F' H' B, Grow F H F' H' B → RT K mg F' H' τ v B → Q v H') : rSlc K x lo hi H Q := by
  cases t with
  | d y =>
    obtain ⟨q, rfl⟩ := r
    cases y with
    | tuple ds =>
      cases e
      cases q with
      | @tup a xs _ sq al =>
        have rs : RTs K mg F H (ds.map T.d) xs [] := dpa_rts al
        refine .inl (.inl ⟨a, xs, rfl, same_sqT s sq, fun hw => ?_, fun _ p hp => ?_⟩)
        · refine k _ F H [] (.refl s) ⟨?_, rfl⟩
          have hl : ds.length = xs.length := by have := rs.length; rwa [List.length_map] at this
          have : FL.cut ds lo hi = ds := by
            unfold FL.cut
            rw [hl, hw.1, hw.2, List.drop_zero, Nat.sub_zero, ← hl, List.take_length]
          rw [this]
          exact .tup sq al
        · have := rs.cut lo hi
          rw [cut_map] at this
          exact giveT s k this p hp
    | list ds =>
      cases e
      cases q with
      | @lst a xs _ sq al =>
        have rs : RTs K mg F H (ds.map T.d) xs [] := dpa_rts al
        refine .inl (.inr ⟨a, xs, rfl, .of (s _ _ sq), fun p hp => ?_⟩)
        have := rs.cut lo hi
        rw [cut_map] at this
        exact giveL s k this (by rw [List.all_map]; exact List.all_eq_true.mpr fun _ _ => rfl) p hp
    | str z =>
      simp only [sliceT] at e
      split at e
      · rename_i hz
        cases e
        cases q
        exact .inr ⟨z, rfl, small_le hz, giveS s k⟩
      · cases e
    | _ => cases e
  | ol ts =>
    simp only [sliceT] at e
    split at e
    · rename_i hs
      cases e
      obtain ⟨a, ws, A', rfl, hH, q, _⟩ := r
      refine .inl (.inr ⟨a, ws, rfl, .of hH, fun p hp => ?_⟩)
      refine giveL s k ((stats_rt q hs).cut lo hi) ?_ p hp
      rw [List.all_eq_true] at hs ⊢
      intro u hu
      exact hs u (List.mem_of_mem_drop (List.mem_of_mem_take hu))
    · cases e
  | bw t =>
    simp only [sliceT, Option.map_eq_some_iff] at e
    obtain ⟨ts, hl, rfl⟩ := e
    obtain ⟨a, ws, B', rfl, hH, q⟩ := lst_rt s r hl
    have hs : ts.all isStat = true := by
      simp only [lstOf, Option.map_eq_some_iff] at hl
      obtain ⟨us, _, rfl⟩ := hl
      exact bors_stat us
    refine .inl (.inr ⟨a, ws, rfl, .of hH, fun p hp => ?_⟩)
    refine giveL s k ((stats_rt q hs).cut lo hi) ?_ p hp
    rw [List.all_eq_true] at hs ⊢
    intro u hu
    exact hs u (List.mem_of_mem_drop (List.mem_of_mem_take hu))
  | _ => cases e
end
def PQ (K : PySem.W.Frag) (mg : Str → Option Value) (vs : Fx) (W : WX) (F : FH) (H : Hp) (σ : L2.St) (A : List Addr) (Q : Option Int → Hp → Prop) : Out (Option Int) → Prop
  | .ok i ρ' => ∀ F' H' A', Step F H A F' H' A' → Rep K mg vs F' H' σ ρ' A' → Q i H'
  | .exc c x ρ' => ∀ cls d F' H' A', Step F H A F' H' A' → Rep K mg vs F' H' σ ρ' A' → ExcAt K mg F' H' cls d c x → W cls d σ H'
  | .bad => False
structure FP (X : Cx) (vs : Fx) (W : WX) (e : Option Expr) (m : M (Option Int)) : Prop where
  ex : ∃ t : TO, PO X e t ∧ ∀ (σ : L2.St) (H : Hp) (F : FH) (ρ : Env) (A : List Addr) (Q : Option Int → Hp → Prop), Wd F H A → Rep X.K X.mg vs F H σ ρ A → PQ X.K X.mg vs W F H σ A Q (m ρ) → t σ H Q
def intOf : T → Option Int
  | .d (.int i) => some i
  | _ => none
def pNo : M (Option Int) := .pure none
def pAt (mo : M Opd) : M (Option Int) := mo.bind fun o ρ => match (res ρ o).bind intOf with
  | some i => .ok (some i) ρ
  | none => .bad
def eSl (mo : M Opd) (ml mh : M (Option Int)) : M T := mo.bind fun o => ml.bind fun l => mh.bind fun h => fun ρ => match res ρ o with
  | some t => lift (sliceT l h t) ρ
  | none => .bad
section
variable {X : Cx} {vs : Fx} {W : WX} {e : Expr} {lo hi : Option Expr} {mo : M Opd} {ml mh : M (Option Int)} {pos p2 : Pos}
theorem fp_no : FP X vs W none pNo := ⟨_, po_none, fun σ H F ρ A Q w r hq => hq F H A (.refl w) r⟩
theorem fp_at (h : FO X vs W e mo) : FP X vs W (some e) (pAt mo) := by
  obtain ⟨te, pe, qe⟩ := h
  refine ⟨_, po_some pe, fun σ H F ρ A Q w rp hq => ?_⟩
  refine qe σ H F ρ A _ w rp ?_
  unfold pAt M.bind at hq
  cases e1 : mo ρ with
  | bad => rw [e1] at hq; exact hq
  | exc c x ρ' => rw [e1] at hq; exact hq
  | ok o ρ1 =>
    rw [e1] at hq
    simp only [Out.bind] at hq
    intro v F1 H1 A1 B1 st1 rp1 r1
    split at hq
    · rename_i i e2
      simp only [Option.bind_eq_some_iff] at e2
      obtain ⟨t, e3, e4⟩ := e2
      obtain ⟨B', rt⟩ := r1.res rp1 e3
      unfold intOf at e4
      split at e4
      · cases e4
        obtain ⟨rfl, _⟩ := rt_int rt
        exact ⟨i, rfl, hq F1 H1 A1 st1.less rp1⟩
      · cases e4
    · exact hq.elim
theorem fe_slice (ha : FO X vs W e mo) (hl : FP X vs W lo ml) (hh : FP X vs W hi mh) : FE X vs W (.Subscript e (.Slice lo hi none p2) pos) (eSl mo ml mh) := by
  obtain ⟨te, pe, qe⟩ := ha
  obtain ⟨tl, pl, ql⟩ := hl
  obtain ⟨th, ph, qh⟩ := hh
  refine ⟨_, pe_slice ((SlR.or sl_tupA sl_list).or sl_str) pe pl ph, fun σ H F ρ A Q w rp hq => ?_⟩
  refine qe σ H F ρ A _ w rp ?_
  unfold eSl M.bind at hq
  cases e1 : mo ρ with
  | bad => rw [e1] at hq; exact hq
  | exc c x ρ' => rw [e1] at hq; exact hq
  | ok o ρ1 =>
    rw [e1] at hq
    simp only [Out.bind] at hq
    intro v F1 H1 A1 B1 st1 rp1 r1
    refine ql σ H1 F1 ρ1 A1 _ st1.wd.left rp1 ?_
    cases e2 : ml ρ1 with
    | bad => rw [e2] at hq; exact hq
    | exc c x ρ' => rw [e2] at hq; exact fun cls d F' H' A' st rp' ex => hq cls d F' H' A' (st1.compL st) rp' ex
    | ok l ρ2 =>
      rw [e2] at hq
      simp only at hq
      intro F2 H2 A2 st2 rp2
      have s12 : Step F H A F2 H2 (A2 ++ B1) := st1.comp st2
      have r12 := OR.step st2 st1.wd r1
      refine qh σ H2 F2 ρ2 A2 _ st2.wd rp2 ?_
      cases e3 : mh ρ2 with
      | bad => rw [e3] at hq; exact hq
      | exc c x ρ' => rw [e3] at hq; exact fun cls d F' H' A' st rp' ex => hq cls d F' H' A' (s12.compL st) rp' ex
      | ok h ρ3 =>
        rw [e3] at hq
        simp only at hq
        intro F3 H3 A3 st3 rp3
        have r13 := OR.step st3 s12.wd r12
        have s13 := s12.comp st3
        cases e4 : res ρ3 o with
        | none => rw [e4] at hq; exact hq.elim
        | some t =>
          rw [e4] at hq
          simp only at hq
          obtain ⟨B', rt⟩ := r13.res rp3 e4
          unfold lift at hq
          split at hq
          · rename_i τ hf
            exact slc_rt s13.wd.sub rt hf fun v F4 H4 B4 g rv => hq v F4 H4 A3 B4 (s13.less.trans (g.step s13.less.wd)) (rp3.grow g) rv
          · exact hq.elim
end

/-! ### list(range(..)) -/
def rgI (a b : Int) : List T := (List.range (b - a).toNat).map fun (k : Nat) => .d (.int (a + k))
def listRg1 : List T → Option T
  | [.d (.int b)] => if big62 b && small (b - 0).toNat then some (.ol (rgI 0 b)) else none
  | _ => none
def listRg2 : List T → Option T
  | [.d (.int a), .d (.int b)] => if big62 a && big62 b && small (b - a).toNat then some (.ol (rgI a b)) else none
  | _ => none

/-! ### isinstance of an own class -/
def isiT0 (c : Str) : T → Option T
  | .ob c' _ => if c' = c then some (.d (.bool true)) else none
  | .oi c' _ => if c' = c then some (.d (.bool true)) else none
  | .d (.dict _) => none
  | .d _ => some (.d (.bool false))
  | .ol _ => some (.d (.bool false))
  | .tp _ => some (.d (.bool false))
  | _ => none
def isiT (c : Str) (t : T) : Option T := isiT0 c (unB t)
/-- what the text says of an own class that isinstance asks for -/
def IsiD (K : PySem.W.Frag) (mg : Str → Option Value) (c : Str) : Prop := ∀ C, mg c = some (.ref C) → Cls K C ∧ PySem.W.findIn K (.ref C) "__class__" = some (some (.builtin "object.__class__")) ∧
  PySem.W.specialIn K (.builtin "object.__class__") "__get__" = some (some (.builtin "getset_descriptor.__get__")) ∧ PySem.W.takesIn K (.builtin "object.__class__") = some true ∧ PySem.W.mroIn K C (.type "object") = some true ∧
  PySem.W.kitOne K (.ref C) (.ref C) = some true ∧ ∀ ty ∈ ["NoneType", "bool", "int", "str", "list", "tuple"], PySem.W.kitOne K (.type ty) (.ref C) = some false
theorem tup_ty {K : PySem.W.Frag} {H : Hp} {a : Addr} {xs : List V} (q : SqT K H a xs) : TyX K H (.ref a) (.type "tuple") := by
  rcases q with (q | ⟨o, q⟩) | q
  · exact .base (.tup q)
  · exact .fTuple q
  · obtain ⟨o, its, n, h1, h2, _⟩ := q
    exact .kTuple h1 h2
section
variable {X : Cx} {vs : Fx} {W : WX} {e : Expr} {mo : M Opd} {pos p p2 : Pos}
theorem fe_isi {c : Str} {C : Addr} (D : IsiD X.K X.mg c) (hc : X.mg c = some (.ref C)) (hm : X.mg "isinstance" = none) (h : FO X vs W e mo) (hg : Gl X "isinstance" := by rfl) (hg2 : Gl X c := by rfl) (hdb : (c == ("__debug__" : Str)) = false := by decide)
    (h1 : starEach [e, .Name c p2] X.env = (false, eval e X.env) :: starEach [.Name c p2] X.env := by rfl) (h2 : starEach [.Name c p2] X.env = (false, eval (.Name c p2) X.env) :: starEach [] X.env := by rfl) (h3 : (backTo pos (starEach [.Name c p2] X.env)).any (·.1) = false := by rfl) :
    FE X vs W (.Call (.Name "isinstance" p) [e, .Name c p2] [] pos) (eOp1 (isiT c) mo) := by
  obtain ⟨cl, k1, k2, k3, k4, k5, k6⟩ := D C hc
  refine fe_one (r := fun x H1 Q => rIsi X.K [x, .ref C] H1 Q) h (fun F H v t τ A1 Q sm rt hf kk => ?_) fun ta pa => ?_
  · have no : ∀ {ty : String}, TyX X.K H v (.type ty) → ty ∈ ["NoneType", "bool", "int", "str", "list", "tuple"] → τ = .d (.bool false) → rIsi X.K [v, .ref C] H Q := fun {ty} hty hmem et => by
      subst et
      exact ⟨v, .ref C, _, _, false, rfl, .own C, hty, k6 _ hmem, giveB sm kk⟩
    have yes : ∀ {a dx : Addr} {fs : List (Str × V)}, v = .ref a → H a = some (.ins C dx fs) → τ = .d (.bool true) → rIsi X.K [v, .ref C] H Q := fun {a dx fs} ev hH et => by
      subst et ev
      exact ⟨.ref a, .ref C, _, _, true, rfl, .own C, .base (.ins hH cl k1 k2 k3 k4), k5, giveB sm kk⟩
    obtain ⟨B9, rt⟩ := unB_rt t rt
    unfold isiT at hf
    generalize unB t = t at rt hf
    cases t with
    | d x =>
      obtain ⟨q, rfl⟩ := rt
      cases x with
      | none => cases hf; cases q; exact no (.base .non) (by simp) rfl
      | bool b => cases hf; cases q; exact no (.base (.bl _)) (by simp) rfl
      | int i => cases hf; cases q; exact no (.base (.int _)) (by simp) rfl
      | str s => cases hf; cases q; exact no (.base (.str _)) (by simp) rfl
      | list ds => cases hf; cases q with | lst s a => exact no (.base (.lst (sm _ _ s))) (by simp) rfl
      | tuple ds => cases hf; cases q with | tup s a => exact no (tup_ty (same_sqT sm s)) (by simp) rfl
      | dict _ => cases hf
    | ol ts => cases hf; obtain ⟨a, ws, A', rfl, hH, _⟩ := rt; exact no (.base (.lst hH)) (by simp) rfl
    | tp ts => cases hf; obtain ⟨a, ws, rfl, hH, _⟩ := rt; exact no (tup_ty (same_sqT sm hH)) (by simp) rfl
    | od ts => cases hf
    | scr ns => cases hf
    | bw _ => cases hf
    | ob c' fs =>
      simp only [isiT0] at hf
      split at hf
      · rename_i e0; subst e0; cases hf
        obtain ⟨a, C', dx, vfs, rfl, hm', hF, _⟩ := rt
        rw [hc] at hm'; cases hm'
        exact yes rfl (sm _ _ hF) rfl
      · cases hf
    | oi c' fs =>
      simp only [isiT0] at hf
      split at hf
      · rename_i e0; subst e0; cases hf
        obtain ⟨a, C', dx, vfs, A', rfl, hm', hF, _⟩ := rt
        rw [hc] at hm'; cases hm'
        exact yes rfl hF rfl
      · cases hf
  · obtain ⟨q⟩ := pe_callB (p := p) (pos := pos) call_isi hg hm (by decide +kernel) (pa_cons pa (pa_cons (pe_glob hg2 hc (show RelV (.ref C) (.ref C) from rfl) hdb) pa_nil h2) h1) (by decide) (by decide) h1 h3
    exact ⟨q⟩
end

/-! ### a, b, c = x, y, z -/
def sPar3 (i j l : Nat) (ms : M (List T)) : Env → Fl := fun ρ => match ms ρ with
  | .ok [t, u, w] ρ' => .nx (((ρ'.set i (some (t, false))).set j (some (u, false))).set l (some (w, false)))
  | .ok _ _ => .bad
  | .exc c x ρ' => .exc c x ρ'
  | .bad => .bad
section
variable {X : Cx} {vs : Fx} [Fx.Free vs] {W : WX} {a b c : Expr} {ms : M (List T)} {pos : Pos}
theorem fs_par3 (i j l : Nat) {x y z : Str} {px py pz pt : Pos} {kt k2 pt2} (hc : X.calm = true) (hN : X.N.Nodup) (ha : FAs X vs W [a, b, c] ms) (hij : i ≠ j) (hil : i ≠ l) (hjl : j ≠ l) (hi : X.N[i]? = some x := by rfl) (hj : X.N[j]? = some y := by rfl) (hl : X.N[l]? = some z := by rfl)
    (hx : X.env.scope.names.lookup x = some .local := by rfl) (hy : X.env.scope.names.lookup y = some .local := by rfl) (hz : X.env.scope.names.lookup z = some .local := by rfl)
    (hw : swappedStores [.Tuple [.Name x px, .Name y py, .Name z pz] kt pt] (.Tuple [a, b, c] k2 pt2) X.env = pure (some [x, y, z]) := by rfl)
    (hs : swapsWithSole [.Tuple [.Name x px, .Name y py, .Name z pz] kt pt] (.Tuple [a, b, c] k2 pt2) pos.line X.env = pure false := by rfl) :
    FS X vs W (.Assign [.Tuple [.Name x px, .Name y py, .Name z pz] kt pt] (.Tuple [a, b, c] k2 pt2) pos) (sPar3 i j l ms) := by
  obtain ⟨t, p, q⟩ := ha
  refine ⟨_, ps_par3 hc hN hi hj hl hij hil hjl hx hy hz p hw hs, fun D σ H F ρ A w r hq => ?_⟩
  refine q σ H F ρ A _ w r ?_
  unfold sPar3 at hq
  cases e1 : ms ρ with
  | bad => rw [e1] at hq; exact hq
  | exc c x ρ' => rw [e1] at hq; exact fun cls d F' H' A' st rp ex => hq cls d σ F' H' A' st rp ex
  | ok ts ρ1 =>
    rw [e1] at hq
    intro ws F1 H1 A1 B st rp rs
    match ts, rs, hq with
    | [], _, hq => exact hq.elim
    | [_], _, hq => exact hq.elim
    | [_, _], _, hq => exact hq.elim
    | _ :: _ :: _ :: _ :: _, _, hq => exact hq.elim
    | [t, u, w'], ⟨v, r1, B1, B2, e2, q1, ⟨v2, r2, C1, C2, e3, q2, ⟨v3, r3, D1, D2, e4, q3, ⟨e5, e6⟩, e7⟩, e8⟩, e9⟩, hq =>
      subst e5 e6 e7 e4 e3 e8 e2 e9
      rw [List.append_nil, ← List.append_assoc, ← List.append_assoc] at st
      obtain ⟨A2, s2, rp2⟩ := rp.store st.wd.left.left q1 i
      have s2a := s2.wide st.wd.left
      have s2w := s2a.wide st.wd
      obtain ⟨A3, s3, rp3⟩ := rp2.store s2a.wd q2 j
      have s3w := s3.wide s2w.wd
      obtain ⟨A4, s4, rp4⟩ := rp3.store s3w.wd q3 l
      exact ⟨v, v2, v3, rfl, hq _ F1 H1 A4 (((st.trans s2w).trans s3w).trans s4) rp4⟩
end
end FL

set_option Elab.async false
set_option linter.all false
set_option maxRecDepth 100000
namespace FL
open PySem PySem.Spec PyProof.Rows L2

/-! ### for the printer -/
def eXv (n : Nat) (y : PyData) : M T := fun ρ => if ρ.length = n then .ok (.d y) ρ else .bad
section
variable {X : Cx} {vs : Fx} {W : WX} {e : Expr} {mo : M Opd} {ws : List V} {F0 : Hp} {i : Nat} {a : Addr} {pos p p2 : Pos}
theorem errC {P : Program} {w : World} {K : PySem.W.Frag} {mg : Str → Option Value} {base : Heap} {c : Str} (E : ErrD P w K mg base c) : ∃ C, mg c = some (.ref C) := by
  obtain ⟨C, _, _, _, h, _⟩ := E
  exact ⟨C, h⟩
theorem fe_xv {C dx : Addr} {oe : Obj} {pn : List (Addr × Obj)} {v : V} {y : PyData} {c x : Str} {W' : WX} {P : Program} {w : World} {base : Heap} {n : Nat} (D : ErrD P w X.K X.mg base c) (hm : X.mg c = some (.ref C)) (hz : Zc (.ref C) (some dx) oe) (hf : ∃ vs, oe.data = .fields vs)
    (h1 : F0 dx = some (.xd [("value", v)])) (h2 : Dp X.K F0 v y) (hn : X.N.length = n := by rfl) (hN : X.N[i]? = some x := by rfl) (hv : Vis X.env.scope x := by first | exact Or.inl rfl | exact Or.inr (Or.inl rfl) | exact Or.inr (Or.inr rfl)) (hd : (x == ("__debug__" : Str)) = false := by decide) (hcd : (x == ("__classdict__" : Str)) = false := by decide)
    (hb : attributeBase (.Name x p) "value" X.env (eval (.Name x p) X.env) = eval (.Name x p) X.env := by rfl) (hi : i < n := by decide) :
    FE (X.suite a ((a, oe) :: pn)) (Fx.held ws F0 i a) W' (.Attribute (.Name x p) "value" pos) (eXv n y) := by
  subst hn
  exact fe_xval D hm hz hf h1 h2 hN hv hd hcd hb fun σ h => by rw [h]; exact hi
/-- an own class, as isinstance asks for it -/
def IsiE (K : PySem.W.Frag) (mg : Str → Option Value) (c : Str) : Prop := IsiD K mg c ∧ ∃ C, mg c = some (.ref C)
theorem fe_is {c : Str} (D : IsiE X.K X.mg c) (hm : X.mg "isinstance" = none) (h : FO X vs W e mo) (hg : Gl X "isinstance" := by rfl) (hg2 : Gl X c := by rfl) (hdb : (c == ("__debug__" : Str)) = false := by decide)
    (h1 : starEach [e, .Name c p2] X.env = (false, eval e X.env) :: starEach [.Name c p2] X.env := by rfl) (h2 : starEach [.Name c p2] X.env = (false, eval (.Name c p2) X.env) :: starEach [] X.env := by rfl) (h3 : (backTo pos (starEach [.Name c p2] X.env)).any (·.1) = false := by rfl) :
    FE X vs W (.Call (.Name "isinstance" p) [e, .Name c p2] [] pos) (eOp1 (isiT c) mo) := by
  obtain ⟨D, C, hc⟩ := D
  exact fe_isi D hc hm h hg hg2 hdb h1 h2 h3
end
/-! ### what the text says of classes -/
theorem kit_cls {K : PySem.W.Frag} {t : Value} {C : Addr} {b : Bool} (h1 : PySem.W.isClsIn K C = true) (h2 : PySem.W.typeIn K (.ref C) = some (.type "type")) (h3 : PySem.W.subIn K t (.ref C) = some b) : PySem.W.kitCls K t (.ref C) = some b := by
  have e : ((PySem.W.clsIn K C).isSome && PySem.W.typeIn K (.ref C) == some (.type "type")) = true := by
    rw [show (PySem.W.clsIn K C).isSome = true from h1, h2] <;> rfl
  show (if _ then _ else _) = _
  rw [if_pos e]
  exact h3
theorem kit_no {K : PySem.W.Frag} {ty : String} {C : Addr} (h1 : PySem.W.isClsIn K C = true) (h2 : PySem.W.typeIn K (.ref C) = some (.type "type")) (h3 : PySem.W.subIn K (.type ty) (.ref C) = some false) : PySem.W.kitOne K (.type ty) (.ref C) = some false := by
  unfold PySem.W.kitOne
  rw [if_neg (by intro z; exact Value.noConfusion (beq_iff_eq.mp z))]
  exact kit_cls h1 h2 h3
theorem kit_self {K : PySem.W.Frag} {C : Addr} : PySem.W.kitOne K (.ref C) (.ref C) = some true := by
  unfold PySem.W.kitOne
  rw [if_pos (beq_iff_eq.mpr rfl)]
theorem exm_of {K : PySem.W.Frag} {C Ck : Addr} {b : Bool} (h1 : PySem.W.subIn K (.ref Ck) (.type "BaseException") = some true) (h2 : PySem.W.isClsIn K Ck = true) (h3 : PySem.W.typeIn K (.ref Ck) = some (.type "type")) (h4 : PySem.W.subIn K (.ref C) (.ref Ck) = some b) : PySem.W.exmOne K (.ref C) (.ref Ck) = some b := by
  have e : (PySem.W.subIn K (.ref Ck) (.type "BaseException") == some true) = true := by rw [h1] <;> rfl
  show (if _ then _ else _) = _
  rw [if_pos e]
  exact kit_cls h2 h3 h4
/-- the statement in a class's body -/
def clsBody (st : Stmt) (j : Nat) : Stmt := match st with
  | .ClassDef _ _ _ b _ _ _ _ _ _ _ => b.getD j (.Pass ⟨0, 0, 0, 0⟩)
  | _ => .Pass ⟨0, 0, 0, 0⟩
end FL

set_option Elab.async false
set_option linter.all false
set_option maxRecDepth 100000
namespace FL
open PySem PySem.Spec PyProof.Rows L2

/-! ### methods of texts with one argument -/
def eM1 (f : Str → T → Option T) (mo ma : M Opd) : M T := mo.bind fun o => fun ρ => match res ρ o with
  | some (.d (.str a)) => (ma.bind fun p => fun ρ' => match res ρ' p with
    | some u => lift (f a u) ρ'
    | none => .bad) ρ
  | _ => .bad
def M1F (K : PySem.W.Frag) (mg : Str → Option Value) (r : V → List V → Hp → VK → Prop) (f : Str → T → Option T) : Prop :=
  ∀ (F : FH) (H : Hp) (a : Str) (y : V) (u τ : T) (A2 : List Addr) (Q : VK), Same F H → RT K mg F H u y A2 → f a u = some τ →
    (∀ v F' H' B, Grow F H F' H' B → RT K mg F' H' τ v B → Q v H') → r (.str a) [y] H Q
section
variable {X : Cx} {vs : Fx} {W : WX} {e a b : Expr} {mo ma mb : M Opd} {pos : Pos}
theorem fe_m1 {f : Str → T → Option T} {r : V → List V → Hp → VK → Prop} (ha : FO X vs W a mo) (hb : FO X vs W b ma) (hr : M1F X.K X.mg r f) (hp : ∀ to te, PE X a to → PE X b te → PE X e (tM1 r to te)) : FE X vs W e (eM1 f mo ma) := by
  obtain ⟨ta, pa, qa⟩ := ha
  obtain ⟨tb, pb, qb⟩ := hb
  refine ⟨_, hp ta tb pa pb, fun σ H F ρ A Q w rp hq => ?_⟩
  refine qa σ H F ρ A _ w rp ?_
  unfold eM1 M.bind at hq
  cases e1 : mo ρ with
  | bad => rw [e1] at hq; exact hq
  | exc c x ρ' => rw [e1] at hq; exact hq
  | ok oa ρ1 =>
    rw [e1] at hq
    simp only [Out.bind] at hq
    intro va F1 H1 A1 B1 st1 rp1 r1
    split at hq
    · rename_i z ex
      obtain ⟨C1, k1⟩ := r1.res rp1 ex
      obtain ⟨rfl, _⟩ := rt_str k1
      refine ⟨⟨z, rfl⟩, qb σ H1 F1 ρ1 A1 _ st1.wd.left rp1 ?_⟩
      cases e2 : ma ρ1 with
      | bad => rw [e2] at hq; exact hq
      | exc c x ρ' => rw [e2] at hq; exact fun cls d F' H' A' st rp' ex => hq cls d F' H' A' (st1.compL st) rp' ex
      | ok ob ρ2 =>
        rw [e2] at hq
        simp only at hq
        intro vb F2 H2 A2 B2 st2 rp2 r2
        split at hq
        · rename_i u ey
          obtain ⟨C2, k2⟩ := r2.res rp2 ey
          unfold lift at hq
          split at hq
          · rename_i τ hf
            refine hr F2 H2 z vb u τ C2 Q st2.wd.sub k2 hf fun v F3 H3 B g rt => ?_
            refine hq v F3 H3 A2 B ?_ (rp2.grow g) rt
            have s3 := (st1.comp st2).less.less
            exact s3.trans (g.step s3.wd)
          · exact hq.elim
        · exact hq.elim
    · exact hq.elim
end
/-- a list of texts -/
def strsOf : List T → Option (List Str)
  | [] => some []
  | .d (.str i) :: r => (strsOf r).map (i :: ·)
  | _ => none
section
variable {K : PySem.W.Frag} {mg : Str → Option Value} {F : FH} {H : Hp}
theorem strs_rt : ∀ {ts : List T} {ns : List Str} {ws : List V} {B : List Addr}, RTs K mg F H ts ws B → strsOf ts = some ns → ws = ns.map V.str := by
  intro ts
  induction ts with
  | nil => intro ns ws B r h; cases h; exact r.1
  | cons t ts ih =>
    intro ns ws B r h
    obtain ⟨v, s, B1, B2, e1, q1, q2, e2⟩ := r
    cases t with
    | d x =>
      cases x with
      | str i =>
        simp only [strsOf, Option.map_eq_some_iff] at h
        obtain ⟨l, h, rfl⟩ := h
        obtain ⟨rfl, _⟩ := rt_str q1
        rw [e1, ih q2 h]; rfl
      | _ => cases h
    | _ => cases h
def joinT (a : Str) (u : T) : Option T := ((lstOf u).orElse fun _ => tupOf u).bind fun ts => (strsOf ts).bind fun ys => if small ((ys.map (·.length)).sum + ys.length * a.length) then some (.d (.str (Txt.join a ys))) else none
def splitT (a : Str) (u : T) : Option T := match u with
  | .d (.str b) => if !(b.length == 0) && small (a.length + 2) then some (.ol ((Txt.split a b).map fun s => .d (.str s))) else none
  | _ => none
abbrev rJoin (K : PySem.W.Frag) : V → List V → Hp → VK → Prop := fun x xs H Q => ∃ a p, ∃ ys : List Str, x = .str a ∧ xs = [.ref p] ∧ (SqL K H p (ys.map V.str) ∨ SqT K H p (ys.map V.str)) ∧
      (ys.map (·.length)).sum + ys.length * a.length ≤ 16777216 ∧ Q (.str (Txt.join a ys)) H
abbrev rSplit : V → List V → Hp → VK → Prop := fun x xs H Q => ∃ a b, x = .str a ∧ xs = [.str b] ∧ (b.length == 0) = false ∧ a.length + 2 ≤ sizeLine ∧ rNewStrs (Txt.split a b) H Q
theorem join_f : M1F K mg (rJoin K) joinT := fun F H a y u τ A2 Q s r2 e k => by
  simp only [joinT, Option.bind_eq_some_iff] at e
  obtain ⟨ts, h1, ys, h2, h3⟩ := e
  split at h3
  · rename_i hz
    cases h3
    have hz : (ys.map (·.length)).sum + ys.length * a.length ≤ 16777216 := of_decide_eq_true hz
    cases q : lstOf u with
    | some ts' =>
      rw [q] at h1
      cases h1
      obtain ⟨p, ws, B', rfl, hH, rs⟩ := lst_rt s r2 q
      have := strs_rt rs h2
      subst this
      exact ⟨a, p, ys, rfl, rfl, .inl (.of hH), hz, giveS s k⟩
    | none =>
      rw [q] at h1
      have h1 : tupOf u = some ts := h1
      obtain ⟨p, ws, B', rfl, hH, rs⟩ := tup_rt s r2 h1
      have := strs_rt rs h2
      subst this
      exact ⟨a, p, ys, rfl, rfl, .inr hH, hz, giveS s k⟩
  · cases h3
theorem strs_map_rt (h : Same F H) : ∀ ys : List Str, RTs K mg F H (ys.map fun s => T.d (.str s)) (ys.map V.str) []
  | [] => ⟨rfl, rfl⟩
  | y :: ys => ⟨.str y, _, [], [], rfl, ⟨.str _, rfl⟩, strs_map_rt h ys, rfl⟩
theorem split_f : M1F K mg rSplit splitT := fun F H a y u τ A2 Q s r2 e k => by
  unfold splitT at e
  split at e
  · rename_i b
    split at e
    · rename_i hz
      cases e
      simp only [Bool.and_eq_true, Bool.not_eq_true'] at hz
      obtain ⟨rfl, _⟩ := rt_str r2
      refine ⟨a, b, rfl, rfl, hz.1, small_le hz.2, fun p hp => ?_⟩
      exact giveL s k (strs_map_rt s _) (by rw [List.all_map]; exact List.all_eq_true.mpr fun _ _ => rfl) p hp
    · cases e
  · cases e
end
section
variable {X : Cx} {vs : Fx} {W : WX} {e a b : Expr} {mo ma mb : M Opd} {pos apos : Pos}
theorem fe_join (ha : FO X vs W a mo) (hb : FO X vs W b ma) (hs : starEach [b] X.env = [(false, eval b X.env)] := by rfl) (hbase : attributeBase a "join" X.env (eval a X.env) = eval a X.env := by rfl) (hline : (apos.endLine == pos.line) = true := by rfl) :
    FE X vs W (.Call (.Attribute a "join" apos) [b] [] pos) (eM1 joinT mo ma) := fe_m1 ha hb join_f fun _ _ pa pb => pe_join pa pb hs hbase hline
theorem fe_split (ha : FO X vs W a mo) (hb : FO X vs W b ma) (hs : starEach [b] X.env = [(false, eval b X.env)] := by rfl) (hbase : attributeBase a "split" X.env (eval a X.env) = eval a X.env := by rfl) (hline : (apos.endLine == pos.line) = true := by rfl) :
    FE X vs W (.Call (.Attribute a "split" apos) [b] [] pos) (eM1 splitT mo ma) := fe_m1 ha hb split_f fun _ _ pa pb => pe_split pa pb hs hbase hline
end

/-! ### str(int), int(text) -/
section
variable {K : PySem.W.Frag} {mg : Str → Option Value} {F : FH} {H : Hp}
def strT : List T → Option T
  | [.d (.int i)] => if i.natAbs.log2 < 1920 then some (.d (.str (toString i))) else none
  | _ => none
def intST : List T → Option T
  | [.d (.str a)] => (PySem.intText? a).bind fun n => if a.length ≤ 640 then some (.d (.int n)) else none
  | _ => none
theorem str_f : CallF K mg (fun xs H Q => ∃ i, xs = [.int i] ∧ i.natAbs.log2 < 1920 ∧ Q (.str (toString i)) H) strT := fun F H ws ts τ Q s rt e k => by
  unfold strT at e
  split at e
  · rename_i i
    split at e
    · rename_i hz
      cases e
      obtain ⟨v, B, rfl, r⟩ := rte1 rt
      obtain ⟨rfl, _⟩ := rt_int r
      exact ⟨i, rfl, hz, giveS s k⟩
    · cases e
  · cases e
theorem intS_f : CallF K mg (fun xs H Q => ∃ a n, xs = [.str a] ∧ PySem.intText? a = some n ∧ a.length ≤ 640 ∧ Q (.int n) H) intST := fun F H ws ts τ Q s rt e k => by
  unfold intST at e
  split at e
  · rename_i a
    rw [Option.bind_eq_some_iff] at e
    obtain ⟨n, hn, e⟩ := e
    split at e
    · rename_i hz
      cases e
      obtain ⟨v, B, rfl, r⟩ := rte1 rt
      obtain ⟨rfl, _⟩ := rt_str r
      exact ⟨a, n, rfl, hn, hz, giveI s k⟩
    · cases e
  · cases e
end

/-! ### f-strings -/
def jNil : Str → M T := fun acc => .pure (.d (.str acc))
def jC (s : Str) (k : Str → M T) : Str → M T := fun acc => fun ρ => if small (acc ++ s).length then k (acc ++ s) ρ else .bad
def fmtT : T → Option Str
  | .d (.str y) => if small y.length then some y else none
  | .d (.int i) => if i.natAbs.log2 < 1920 then some (toString i) else none
  | _ => none
def jF (m : M T) (k : Str → M T) : Str → M T := fun acc => m.bind fun t => fun ρ => match fmtT t with
  | some s => if small (acc ++ s).length then k (acc ++ s) ρ else .bad
  | none => .bad
structure FJ (X : Cx) (vs : Fx) (W : WX) (es : List Expr) (j : Str → M T) : Prop where
  ex : ∃ ts : List TE, PJ X es ts ∧ ∀ (acc : Str) (σ : L2.St) (H : Hp) (F : FH) (ρ : Env) (A : List Addr) (Q : VK), Wd F H A → Rep X.K X.mg vs F H σ ρ A → EQ X.K X.mg vs W F H σ A Q (j acc ρ) → tJs ts acc σ H fun out H1 => Q (.str out) H1
section
variable {X : Cx} {vs : Fx} {W : WX} {e v1 v2 : Expr} {es rest : List Expr} {m : M T} {j : Str → M T} {pos p : Pos}
theorem fj_nil : FJ X vs W [] jNil := ⟨[], .nil, fun acc σ H F ρ A Q w rp hq => hq (.str acc) F H A [] (by rw [List.append_nil]; exact .refl w) rp ⟨.str _, rfl⟩⟩
theorem fj_c {s : Str} {jj pp} (h : FJ X vs W es j) : FJ X vs W (.Constant (.str s) jj pp :: es) (jC s j) := by
  obtain ⟨ts, pj, q⟩ := h
  refine ⟨_, .cons pe_str pj, fun acc σ H F ρ A Q w rp hq => ?_⟩
  unfold jC at hq
  by_cases hz : small (acc ++ s).length
  · rw [if_pos hz] at hq
    exact ⟨s, rfl, small_le hz, q _ σ H F ρ A Q w rp hq⟩
  · rw [if_neg hz] at hq; exact hq.elim
theorem fj_f (h1 : FE X vs W e m) (h : FJ X vs W es j) : FJ X vs W (.FormattedValue e (-1) none p :: es) (jF m j) := by
  obtain ⟨te, pe, qe⟩ := h1
  obtain ⟨ts, pj, q⟩ := h
  refine ⟨_, .cons (pe_fmt pe) pj, fun acc σ H F ρ A Q w rp hq => ?_⟩
  refine qe σ H F ρ A _ w rp ?_
  unfold jF M.bind at hq
  cases e1 : m ρ with
  | bad => rw [e1] at hq; exact hq
  | exc c x ρ' => rw [e1] at hq; exact hq
  | ok t ρ1 =>
    rw [e1] at hq
    simp only [Out.bind] at hq
    intro v F1 H1 A1 B1 st1 rp1 r1
    cases e2 : fmtT t with
    | none => rw [e2] at hq; exact hq.elim
    | some s =>
      rw [e2] at hq
      simp only at hq
      by_cases hz : small (acc ++ s).length
      · rw [if_pos hz] at hq
        have key : tJs ts (acc ++ s) σ H1 fun out H1 => Q (.str out) H1 := q _ σ H1 F1 ρ1 A1 Q st1.less.wd rp1 (by
          cases e3 : j (acc ++ s) ρ1 with
          | bad => rw [e3] at hq; exact hq
          | exc c x ρ' => rw [e3] at hq; exact fun cls d F' H' A' st rp' ex => hq cls d F' H' A' (st1.less.trans st) rp' ex
          | ok u ρ2 => rw [e3] at hq; exact fun v F' H' A' B st rp' rt => hq v F' H' A' B (st1.less.trans st) rp' rt)
        unfold fmtT at e2
        split at e2
        · split at e2
          · rename_i hy
            cases e2
            obtain ⟨rfl, _⟩ := rt_str r1
            exact .inl ⟨_, rfl, small_le hy, _, rfl, small_le hz, key⟩
          · cases e2
        · split at e2
          · rename_i hy
            cases e2
            obtain ⟨rfl, _⟩ := rt_int r1
            exact .inr ⟨_, rfl, hy, _, rfl, small_le hz, key⟩
          · cases e2
        · cases e2
      · rw [if_neg hz] at hq; exact hq.elim
def eJoined (j : Str → M T) : M T := j Str.empty
theorem fe_joined (h : FJ X vs W (v1 :: v2 :: rest) j) : FE X vs W (.JoinedStr (v1 :: v2 :: rest) pos) (eJoined j) := by
  obtain ⟨ts, pj, q⟩ := h
  exact ⟨_, pe_joined pj, fun σ H F ρ A Q w rp hq => q _ σ H F ρ A Q w rp hq⟩
end

/-! ### the signs of a text -/
def signsOf (x : Str) : List T := x.cps.toList.map fun c => T.d (.str ⟨#[c]⟩)
def iStrT (m : M T) : M (List T) := m.bind fun t => lift (match t with
  | .d (.str x) => some (signsOf x)
  | _ => none)
section
variable {X : Cx} {vs : Fx} {W : WX} {e tg : Expr} {me : M T}
theorem walk_str {K : PySem.W.Frag} {mg : Str → Option Value} {F : FH} {H0 : Hp} {x : Str} : Walk K mg (Its x) F H0 (signsOf x) where
  go := fun i F1 H s h => by
    simp only [signsOf, List.length_map, Array.length_toList] at h
    exact h
  stop := fun i F1 H s h => by
    simp only [signsOf, List.length_map, Array.length_toList] at h
    exact h
  yld := fun i F1 H H' y t ht s hy => by
    obtain ⟨e, c, hc, hx⟩ := hy
    subst e hx
    refine ⟨F1, .refl s.sub, ?_⟩
    simp only [signsOf, List.getElem?_map] at ht
    rw [Array.getElem?_toList, hc] at ht
    cases ht
    exact ⟨.str _, rfl⟩
theorem fi_str (h : FE X vs W e me) : FI X vs W tg e (iStrT me) := by
  obtain ⟨te, pe, qe⟩ := h
  refine ⟨_, pi_str pe, fun σ H F ρ A R w rp hq => ?_⟩
  refine qe σ H F ρ A _ w rp ?_
  unfold iStrT M.bind at hq
  cases e1 : me ρ with
  | bad => rw [e1] at hq; exact hq
  | exc c x ρ' => rw [e1] at hq; exact hq
  | ok t ρ1 =>
    rw [e1] at hq
    simp only [Out.bind] at hq
    intro v F1 H1 A1 B1 st1 rp1 r1
    unfold lift at hq
    split at hq
    · rename_i ts e2
      split at e2
      · rename_i x
        cases e2
        obtain ⟨rfl, _⟩ := rt_str r1
        exact ⟨x, rfl, hq _ F1 H1 A1 st1.less rp1 walk_str⟩
      · cases e2
    · exact hq.elim
end

/-! ### starred displays -/
/-- all items, that stand alone -/
def starOf (t : T) : Option (List T) := ((lstOf t).orElse fun _ => tupOf t).bind fun ts => if ts.all isStat then some ts else none
def aStar (m : M T) (ms : M (List T)) : M (List T) := m.bind fun t => fun ρ => match starOf t with
  | some xs => (match ms ρ with
    | .ok ts ρ' => .ok (xs ++ ts) ρ'
    | .exc c x ρ' => .exc c x ρ'
    | .bad => .bad)
  | none => .bad
section
variable {X : Cx} {vs : Fx} {W : WX} {e : Expr} {es : List Expr} {m : M T} {ms : M (List T)} {p : Pos}
theorem fa_star (h : FE X vs W e m) (hs : FAs X vs W es ms) (hst : starEach (.Starred e p :: es) X.env = (true, eval e X.env) :: starEach es X.env := by rfl) : FAs X vs W (.Starred e p :: es) (aStar m ms) := by
  obtain ⟨te, pe, qe⟩ := h
  obtain ⟨ts, ps, qs⟩ := hs
  refine ⟨_, StX.pa_star pe ps hst, fun σ H F ρ A Q w rp hq => ?_⟩
  refine qe σ H F ρ A _ w rp ?_
  unfold aStar M.bind at hq
  cases e1 : m ρ with
  | bad => rw [e1] at hq; exact hq
  | exc c x ρ' => rw [e1] at hq; exact hq
  | ok τ ρ1 =>
    rw [e1] at hq
    simp only [Out.bind] at hq
    intro v F1 H1 A1 B1 st1 rp1 r1
    cases e0 : starOf τ with
    | none => simp only [e0] at hq; exact hq.elim
    | some xs =>
      simp only [e0] at hq
      simp only [starOf, Option.bind_eq_some_iff] at e0
      obtain ⟨us, h1, h2⟩ := e0
      split at h2
      · rename_i hst
        cases h2
        have key : ∃ a ws, v = .ref a ∧ (SqT X.K H1 a ws ∨ SqL X.K H1 a ws) ∧ RTs X.K X.mg F1 H1 xs ws [] := by
          cases q : lstOf τ with
          | some ts' =>
            rw [q] at h1; cases h1
            obtain ⟨a, ws, B', rfl, hH, rs⟩ := lst_rt st1.wd.sub r1 q
            exact ⟨a, ws, rfl, .inr (.of hH), stats_rt rs hst⟩
          | none =>
            rw [q] at h1
            obtain ⟨a, ws, B', rfl, hH, rs⟩ := tup_rt st1.wd.sub r1 h1
            exact ⟨a, ws, rfl, .inl hH, stats_rt rs hst⟩
        obtain ⟨a, ws, rfl, hsq, rs⟩ := key
        refine ⟨a, ws, rfl, hsq, ?_⟩
        refine qs σ H1 F1 ρ1 A1 _ st1.wd.left rp1 ?_
        cases e2 : ms ρ1 with
        | bad => rw [e2] at hq; exact hq
        | exc c x ρ' => rw [e2] at hq; exact fun cls d F' H' A' st rp' ex => hq cls d F' H' A' (st1.compL st) rp' ex
        | ok τs ρ2 =>
          rw [e2] at hq
          intro ws2 F2 H2 A2 B2 st2 rp2 r2
          have st : Step F H A F2 H2 (A2 ++ B2) := st1.less.trans st2
          have rs2 : RTs X.K X.mg F2 H2 xs ws [] := RTs.step st2 (by rw [List.append_nil]; exact st1.wd.left) rs
          exact hq (ws ++ ws2) F2 H2 A2 B2 st rp2 (rs2.app r2)
      · cases h2
end
/-! ### constants of the module -/
section
variable {X : Cx} {vs : Fx} {W : WX} {x : Str} {pos : Pos}
theorem fe_gint {i : Int} (h : ∃ t, X.mg x = some (.int i t)) (hg : Gl X x := by rfl) (hd : (x == ("__debug__" : Str)) = false := by decide) : FE X vs W (.Name x pos) (eC (.int i)) := by
  obtain ⟨t, ht⟩ := h
  exact fe_c (pe_glob (v := .int i) hg ht ⟨t, rfl⟩ hd) fun _ => .int _
theorem fe_gstr {s : Str} (h : ∃ t, X.mg x = some (.str s t)) (hg : Gl X x := by rfl) (hd : (x == ("__debug__" : Str)) = false := by decide) : FE X vs W (.Name x pos) (eC (.str s)) := by
  obtain ⟨t, ht⟩ := h
  exact fe_c (pe_glob (v := .str s) hg ht ⟨t, rfl⟩ hd) fun _ => .str _
end
end FL

set_option Elab.async false
set_option linter.all false
set_option maxRecDepth 100000
namespace FL
open PySem PySem.Spec PyProof.Rows L2

/-! ### o.m(a, ..) of an own class -/
def instOf (c m : Str) : Option T → Bool
  | some (.ob c' fs) => decide (c' = c) && (fs.lookup m).isNone
  | some (.oi c' fs) => decide (c' = c) && (fs.lookup m).isNone
  | _ => false
def consOs (o : Opd) (mos : M (List Opd)) : M (List Opd) := mos.bind fun os => .pure (o :: os)
def eMeth (c m : Str) (fn : List T → Rs) (mo : M Opd) (mos : M (List Opd)) : M T := mo.bind fun o => fun ρ => if instOf c m (res ρ o) then eFun fn (consOs o mos) ρ else .bad
section
variable {K : PySem.W.Frag} {mg : Str → Option Value}
theorem RFs.none {F : FH} {f : Str} : ∀ {fs : List (Str × PyData)} {vfs : List (Str × V)}, RFs K F fs vfs → fs.lookup f = .none → vfs.lookup f = .none
  | [], [], _, _ => rfl
  | (g, y) :: r, (k, v) :: s, ⟨e, q, r'⟩, h => by
    subst e
    rw [List.lookup] at h ⊢
    cases hb : f == g with
    | true => rw [hb] at h; cases h
    | false => rw [hb] at h; exact RFs.none r' h
  | [], _ :: _, q, _ => q.elim
  | _ :: _, [], q, _ => q.elim
theorem RTf.none {F : FH} {H : Hp} {f : Str} : ∀ {fs : List (Str × T)} {vfs : List (Str × V)} {A : List Addr}, RTf K mg F H fs vfs A → fs.lookup f = .none → vfs.lookup f = .none
  | [], vfs, A, ⟨e, _⟩, _ => by subst e; rfl
  | (g, y) :: r, vfs, A, ⟨v, s, A1, A2, e, q, q2, _⟩, h => by
    subst e
    rw [List.lookup] at h ⊢
    cases hb : f == g with
    | true => rw [hb] at h; cases h
    | false => rw [hb] at h; exact RTf.none q2 h
theorem inst_rt {F : FH} {H : Hp} {c m : Str} {t : T} {v : V} {B : List Addr} {C : Addr} (s : Same F H) (hc : mg c = some (.ref C)) (h : instOf c m (some t) = true) (r : RT K mg F H t v B) : ∃ a dx fs, v = .ref a ∧ H a = some (.ins C dx fs) ∧ fs.lookup m = .none := by
  cases t with
  | ob c' fs =>
    simp only [instOf, Bool.and_eq_true, decide_eq_true_eq, Option.isNone_iff_eq_none] at h
    obtain ⟨rfl, h⟩ := h
    obtain ⟨a, C', dx, vfs, e1, e2, e3, r, _⟩ := r
    rw [hc] at e2; cases e2
    exact ⟨a, dx, vfs, e1, s _ _ e3, RFs.none r h⟩
  | oi c' fs =>
    simp only [instOf, Bool.and_eq_true, decide_eq_true_eq, Option.isNone_iff_eq_none] at h
    obtain ⟨rfl, h⟩ := h
    obtain ⟨a, C', dx, vfs, A', e1, e2, e3, _, r, _⟩ := r
    rw [hc] at e2; cases e2
    exact ⟨a, dx, vfs, e1, e3, RTf.none r h⟩
  | _ => cases h
end
section
variable {X : Cx} {vs : Fx} {W : WX} {e o : Expr} {es : List Expr} {mos : M (List Opd)} {mo : M Opd} {pos apos : Pos}
/-- the operands behind the receiver -/
theorem meth_rd {c m : Str} {C : Addr} {n : Nat} {fn : List T → Rs} {ta : TE} {t : TA} (hc : X.mg c = some (.ref C))
    (qa : ∀ (σ : L2.St) (H : Hp) (F : FH) (ρ : Env) (A : List Addr) (Q : VK), Wd F H A → Rep X.K X.mg vs F H σ ρ A → OQ X.K X.mg vs W F H σ A Q (mo ρ) → ta σ H Q)
    (qs : ∀ (σ : L2.St) (H : Hp) (F : FH) (ρ : Env) (A : List Addr) (Q : List V → Hp → Prop), Wd F H A → Rep X.K X.mg vs F H σ ρ A → OsQ X.K X.mg vs W F H σ A Q (mos ρ) → t σ H Q)
    (hn : ∀ ρ os ρ', mos ρ = .ok os ρ' → os.length = n) (σ : L2.St) (H : Hp) (F : FH) (ρ : Env) (A : List Addr) (Q : VK) (w : Wd F H A) (rp : Rep X.K X.mg vs F H σ ρ A) (hq : EQ X.K X.mg vs W F H σ A Q (eMeth c m fn mo mos ρ)) :
    ta σ H fun x H1 => ∃ a dx fs, x = .ref a ∧ H1 a = some (.ins C dx fs) ∧ fs.lookup m = none ∧ t σ H1 fun ws H2 => spF X.K X.mg (n + 1) fn (x :: ws) H2 Q (fun c d H' => W c d σ H') := by
  refine qa σ H F ρ A _ w rp ?_
  unfold eMeth M.bind at hq
  cases e1 : mo ρ with
  | bad => rw [e1] at hq; exact hq
  | exc c x ρ' => rw [e1] at hq; exact hq
  | ok oa ρ1 =>
    rw [e1] at hq
    simp only [Out.bind] at hq
    intro va F1 H1 A1 B1 st1 rp1 r1
    split at hq
    · rename_i hin
      obtain ⟨t0, ht0⟩ : ∃ t0, res ρ1 oa = some t0 := by
        cases q : res ρ1 oa with
        | none => rw [q] at hin; cases hin
        | some t0 => exact ⟨t0, rfl⟩
      obtain ⟨B', rt0⟩ := r1.res rp1 ht0
      rw [ht0] at hin
      obtain ⟨a, dx, fs, rfl, hH, hl⟩ := inst_rt st1.wd.sub hc hin rt0
      refine ⟨a, dx, fs, rfl, hH, hl, ?_⟩
      refine qs σ H1 F1 ρ1 A1 _ st1.wd.left rp1 ?_
      unfold eFun consOs M.bind at hq
      cases e2 : mos ρ1 with
      | bad => rw [e2] at hq; exact hq
      | exc c x ρ' => rw [e2] at hq; exact fun cls d F' H' A' st rp' ex => hq cls d F' H' A' (st1.compL st) rp' ex
      | ok os ρ2 =>
        rw [e2] at hq
        simp only [Out.bind, M.pure] at hq
        intro ws F2 H2 A2 B2 st2 rp2 r2
        have r1' := r1.step st2 st1.wd
        have st : Step F H A F2 H2 (A2 ++ (B1 ++ B2)) := (st1.comp st2).perm (.refl _) (by rw [List.append_assoc]; exact List.perm_append_comm.append_left A2)
        exact fun_rd (os := oa :: os) (ws := .ref a :: ws) (fun ts ρ' ht => by rw [takeAll_len ht, List.length_cons, hn ρ1 os ρ2 e2]) st rp2 ⟨_, _, B1, B2, rfl, r1', r2, rfl⟩ hq
    · exact hq.elim
theorem fe_meth {c m : Str} {k n : Nat} {fm : List T → Rs} (D : MethD X.prog X.w X.K X.mg X.base c m k (n + 1) fm) (tk : Takes X W) (hr : Room k X.A) (ho : FO X vs W o mo) (ha : FOs X vs W (e :: es) mos) (hn : ∀ ρ os ρ', mos ρ = .ok os ρ' → os.length = n) {pl : Sem Bool}
    (hst : starEach (e :: es) X.env = (false, eval e X.env) :: starEach es X.env := by rfl) (hpl : (backTo pos (starEach es X.env)).any (·.1) = false := by rfl)
    (ht : eval (.Call (.Attribute o m apos) (e :: es) [] pos) X.env = (do
      let ov ← eval o X.env
      standAt apos.atName
      let (f, first) ← holding [ov] (getMethod ov m pl)
      callWith pos f first (backTo pos (starEach (e :: es) X.env)) (backToKw pos (keywordEach [] X.env))) := by rfl) :
    FE X vs W (.Call (.Attribute o m apos) (e :: es) [] pos) (eMeth c m fm mo mos) := by
  obtain ⟨C, f, fd, ps, hc, cl, M, G, b⟩ := D
  obtain ⟨ta, pa, qa⟩ := ho
  obtain ⟨t, ps', qs⟩ := ha
  refine ⟨_, ⟨fun pins s σ H Q I h => ?_⟩, fun σ H F ρ A Q w rp hq => meth_rd hc qa qs hn σ H F ρ A Q w rp hq⟩
  refine PySem.W.methodCall_KW (pl := pl) (thn (pa.run pins s σ H _ I h) fun u s1 ⟨x, H1, I1, rx, a, dx, fs, ex, ea, l, q⟩ => ?_) ht
  subst ex
  obtain rfl : u = Value.ref a := rx
  refine getmeth_ok I1 ea cl M l ?_
  refine PySem.W.callWith_K (first := [.ref a]) (h₀ := X.base) I.ok.mod.kin M.kp (thn (ps'.run pos pins s1 σ H1 _ I1 q) fun us s2 ⟨vs, H2, I2, r, q2⟩ => ⟨I2.kIn, ?_⟩) hst hpl
  exact callOk_of tk G hr b pins σ H2 s2 Q (.ref a :: us) (.ref a :: vs) I2 (.cons rfl r) q2
theorem fe_meth0 {c m : Str} {k : Nat} {fm : List T → Rs} (D : MethD X.prog X.w X.K X.mg X.base c m k 1 fm) (tk : Takes X W) (hr : Room k X.A) (ho : FO X vs W o mo) {pl : Sem Bool}
    (ht : eval (.Call (.Attribute o m apos) [] [] pos) X.env = (do
      let ov ← eval o X.env
      standAt apos.atName
      let (f, first) ← holding [ov] (getMethod ov m pl)
      callWith pos f first (backTo pos (starEach [] X.env)) (backToKw pos (keywordEach [] X.env))) := by rfl) :
    FE X vs W (.Call (.Attribute o m apos) [] [] pos) (eMeth c m fm mo osNil) := by
  obtain ⟨C, f, fd, ps, hc, cl, M, G, b⟩ := D
  obtain ⟨ta, pa, qa⟩ := ho
  obtain ⟨t, ps', qs⟩ := (fos_nil : FOs X vs W [] osNil)
  refine ⟨fun σ H Q => ta σ H fun x H1 => ∃ a dx fs, x = .ref a ∧ H1 a = some (.ins C dx fs) ∧ fs.lookup m = none ∧ spF X.K X.mg 1 fm [x] H1 Q (fun c d H' => W c d σ H'), ⟨fun pins s σ H Q I h => ?_⟩, fun σ H F ρ A Q w rp hq => ?_⟩
  · refine PySem.W.methodCall_KW (pl := pl) (thn (pa.run pins s σ H _ I h) fun u s1 ⟨x, H1, I1, rx, a, dx, fs, ex, ea, l, q⟩ => ?_) ht
    subst ex
    obtain rfl : u = Value.ref a := rx
    refine getmeth_ok I1 ea cl M l ?_
    exact PySem.W.callWith_K0 (first := [.ref a]) I1.kIn M.kp (callOk_of tk G hr b pins σ H1 s1 Q [.ref a] [.ref a] I1 (.cons rfl .nil) q)
  · exact meth_rd (t := tNil) (mos := osNil) (n := 0) hc qa (fun σ H F ρ A Q w r hq => hq [] F H A [] (by rw [List.append_nil]; exact .refl w) r ⟨rfl, rfl⟩) (fun ρ os ρ' h => osNil_len ρ os ρ' h) σ H F ρ A Q w rp hq
end

/-! ### isinstance of built-in types -/
def tyName : T → Option String
  | .d .none => some "NoneType"
  | .d (.bool _) => some "bool"
  | .d (.int _) => some "int"
  | .d (.str _) => some "str"
  | .d (.list _) => some "list"
  | .d (.tuple _) => some "tuple"
  | .ol _ => some "list"
  | .tp _ => some "tuple"
  | _ => none
def isbT (ty : String) (t : T) : Option T := (tyName t).bind fun s => (kitB s ty).map fun b => .d (.bool b)
section
variable {K : PySem.W.Frag} {mg : Str → Option Value} {F : FH} {H : Hp}
theorem ty_rt {t : T} {v : V} {B : List Addr} {s : String} (h : Same F H) (r : RT K mg F H t v B) (e : tyName t = some s) : TyX K H v (.type s) := by
  cases t with
  | d x =>
    obtain ⟨q, rfl⟩ := r
    cases x with
    | none => cases e; cases q; exact .base .non
    | bool b => cases e; cases q; exact .base (.bl _)
    | int i => cases e; cases q; exact .base (.int _)
    | str s => cases e; cases q; exact .base (.str _)
    | list ds => cases e; cases q with | lst s a => exact .base (.lst (h _ _ s))
    | tuple ds => cases e; cases q with | tup s a => exact tup_ty (same_sqT h s)
    | dict _ => cases e
  | ol ts => cases e; obtain ⟨a, ws, A', rfl, hH, _⟩ := r; exact .base (.lst hH)
  | tp ts => cases e; obtain ⟨a, ws, rfl, hH, _⟩ := r; exact tup_ty (same_sqT h hH)
  | _ => cases e
end
section
variable {X : Cx} {vs : Fx} {W : WX} {e : Expr} {mo : M Opd} {pos p p2 : Pos}
theorem fe_isb {x : Str} {ty : String} (hm : X.mg "isinstance" = none) (hmx : X.mg x = none) (hv : bootBuiltins x = some (.type ty)) (h : FO X vs W e mo) (hg : Gl X "isinstance" := by rfl) (hg2 : Gl X x := by rfl) (hnx : x ≠ "__name__" := by decide) (hdb : (x == ("__debug__" : Str)) = false := by decide)
    (h1 : starEach [e, .Name x p2] X.env = (false, eval e X.env) :: starEach [.Name x p2] X.env := by rfl) (h2 : starEach [.Name x p2] X.env = (false, eval (.Name x p2) X.env) :: starEach [] X.env := by rfl) (h3 : (backTo pos (starEach [.Name x p2] X.env)).any (·.1) = false := by rfl) :
    FE X vs W (.Call (.Name "isinstance" p) [e, .Name x p2] [] pos) (eOp1 (isbT ty) mo) := by
  refine fe_one (r := fun v H1 Q => rIsi X.K [v, .ty ty] H1 Q) h (fun F H v t τ A1 Q sm rt hf kk => ?_) fun ta pa => ?_
  · simp only [isbT, Option.bind_eq_some_iff, Option.map_eq_some_iff] at hf
    obtain ⟨s, hs, b, hb, rfl⟩ := hf
    exact ⟨v, .ty ty, .type s, .type ty, b, rfl, .ty ty, ty_rt sm rt hs, kit_ty hb, giveB sm kk⟩
  · obtain ⟨q⟩ := pe_callB (p := p) (pos := pos) call_isi hg hm (by decide +kernel) (pa_cons pa (pa_cons (pe_bltn (v := .ty ty) hg2 hmx hv (show RelV (.ty ty) (.type ty) from rfl) hnx hdb) pa_nil h2) h1) (by decide) (by decide) h1 h3
    exact ⟨q⟩
end

/-! ### a try that runs through -/
def sThru (m : Env → Fl) : Env → Fl := fun ρ => match m ρ with
  | .exc _ _ _ => .bad
  | f => f
section
variable {X : Cx} {vs : Fx} [Fx.Free vs] {W : WX} {pos : Pos}
theorem fs_thru {body : List Stmt} {h₀ : ExceptHandler} {hds : List ExceptHandler} {mb : Env → Fl} (hb : FB X.nox vs WF body mb) : FS X vs W (.Try body (h₀ :: hds) [] [] pos) (sThru mb) := by
  obtain ⟨t, pt, qt⟩ := hb
  refine ⟨_, ps_try_thru0 pt, fun D σ H F ρ A w r hq => qt D σ H F ρ A w r ?_⟩
  unfold sThru at hq
  cases e : mb ρ with
  | exc c x ρ' => rw [e] at hq; exact hq.elim
  | _ => rw [e] at hq; exact hq
end

/-! ### xs.insert(i, y) -/
def insertM : T → List T → Option (T × T)
  | .ol us, [.d (.int i), u] => if small (us.length + 1) && decide (0 ≤ i) && decide (i < 9223372036854775808) then some (.ol (us.take i.toNat ++ [u] ++ us.drop i.toNat), .d .none) else none
  | _, _ => none
section
variable {K : PySem.W.Frag} {mg : Str → Option Value}
theorem RTs.cutAt {F : FH} {H : Hp} : ∀ (n : Nat) {ts : List T} {ws : List V} {B : List Addr}, RTs K mg F H ts ws B → ∃ B1 B2, B = B1 ++ B2 ∧ RTs K mg F H (ts.take n) (ws.take n) B1 ∧ RTs K mg F H (ts.drop n) (ws.drop n) B2
  | 0, ts, ws, B, r => ⟨[], B, rfl, ⟨rfl, rfl⟩, r⟩
  | n + 1, [], ws, B, ⟨e, r⟩ => by subst e r; exact ⟨[], [], rfl, ⟨rfl, rfl⟩, ⟨rfl, rfl⟩⟩
  | n + 1, t :: ts, ws, B, ⟨v, s, A1, A2, e1, q1, q2, e2⟩ => by
    subst e1 e2
    obtain ⟨B1, B2, e, r1, r2⟩ := RTs.cutAt n q2
    exact ⟨A1 ++ B1, B2, by rw [e, List.append_assoc], ⟨v, _, A1, B1, rfl, q1, r1, rfl⟩, r2⟩
abbrev rInsert : V → List V → Hp → VK → Prop := fun x vs H Q => ∃ (l : Addr) (xs : List V) (i : Int) (y : V), x = .ref l ∧ vs = [.int i, y] ∧ H l = some (.lst xs) ∧ xs.length < sizeLine ∧ 0 ≤ i ∧ i < 2 ^ 63 ∧ Q .non (upd H l (.lst (xs.take i.toNat ++ [y] ++ xs.drop i.toNat)))
theorem insert_m : MutF K mg rInsert insertM := fun F H x ws t t' τ ts A B Q w r rs e k => by
  unfold insertM at e
  split at e
  · rename_i us i u
    split at e
    · rename_i hz
      cases e
      simp only [Bool.and_eq_true, decide_eq_true_eq] at hz
      obtain ⟨⟨hz, h0⟩, h1⟩ := hz
      obtain ⟨a, zs, A', rfl, hH, q, rfl⟩ := ol_inv r
      obtain ⟨v, r', B1, B2, e1, q1, q2, e2⟩ := rs
      obtain ⟨v2, r2, B3, B4, e3, q3, q4, e4⟩ := q2
      obtain ⟨e5, e6⟩ := q4
      obtain ⟨rfl, e7⟩ := rt_int q1
      subst e1 e2 e3 e4 e5 e6 e7
      rw [List.append_nil, List.nil_append] at w k
      refine ⟨a, zs, i, v2, rfl, rfl, hH, by rw [← q.length]; have := small_le hz; omega, h0, by omega, ?_⟩
      have hm : a ∈ (a :: A') ++ B3 := List.mem_append_left _ List.mem_cons_self
      obtain ⟨C1, C2, e8, s1, s2⟩ := RTs.cutAt i.toNat q
      have new : RTs K mg F H (us.take i.toNat ++ [u] ++ us.drop i.toNat) (zs.take i.toNat ++ [v2] ++ zs.drop i.toNat) (C1 ++ B3 ++ C2) := (s1.app (us := [u]) (zs := [v2]) (C := B3) ⟨v2, [], B3, [], rfl, q3, ⟨rfl, rfl⟩, by simp⟩).app s2
      have pm : ((a :: A') ++ B3).Perm (a :: (C1 ++ B3 ++ C2)) := by
        subst e8
        refine List.Perm.cons a ?_
        show ((C1 ++ C2) ++ B3).Perm ((C1 ++ B3) ++ C2)
        rw [List.append_assoc, List.append_assoc]
        exact List.perm_append_comm.append_left C1
      refine k .non _ (a :: (C1 ++ B3 ++ C2)) [] ?_ ⟨a, _, C1 ++ B3 ++ C2, rfl, upd_same, rewrite_ok (A := C1 ++ B3 ++ C2) (w.perm pm) new (fun b hb => hb), rfl⟩ ⟨.non, rfl⟩
      rw [List.append_nil]
      exact (Step.write w hm).perm (.refl _) pm
    · cases e
  · cases e
end
end FL

set_option Elab.async false
set_option linter.all false
set_option maxRecDepth 100000
namespace FL
open PySem PySem.Spec PyProof.Rows L2

/-! ### own special methods -/
def SpcD (P : Program) (w : World) (K : PySem.W.Frag) (mg : Str → Option Value) (base : Heap) (c m : Str) (k n : Nat) (fm : List T → Rs) : Prop :=
  ∃ (C f : Addr) (fd : FuncData) (ps : List Str), mg c = some (.ref C) ∧ Cls K C ∧ (Meth K C m f ∧ PySem.W.fnIn K f = true ∧ PySem.W.noSeq K C = true) ∧ FnOk P w K mg base (L2.CX P w) k f fd ps (spF K mg n fm) ∧ Binds K fd ps []
def instIs (c : Str) : Option T → Bool
  | some (.ob c' _) => decide (c' = c)
  | some (.oi c' _) => decide (c' = c)
  | _ => false
section
variable {K : PySem.W.Frag} {mg : Str → Option Value}
theorem instIs_rt {F : FH} {H : Hp} {c : Str} {t : T} {v : V} {B : List Addr} {C : Addr} (s : Same F H) (hc : mg c = some (.ref C)) (h : instIs c (some t) = true) (r : RT K mg F H t v B) : ∃ a dx fs, v = .ref a ∧ H a = some (.ins C dx fs) := by
  cases t with
  | ob c' fs =>
    obtain ⟨a, C', dx, vfs, e1, e2, e3, r, _⟩ := r
    have h : c' = c := of_decide_eq_true h
    subst h
    rw [hc] at e2; cases e2
    exact ⟨a, dx, vfs, e1, s _ _ e3⟩
  | oi c' fs =>
    obtain ⟨a, C', dx, vfs, A', e1, e2, e3, _, r, _⟩ := r
    have h : c' = c := of_decide_eq_true h
    subst h
    rw [hc] at e2; cases e2
    exact ⟨a, dx, vfs, e1, e3⟩
  | _ => cases h
end
def eGet (c : Str) (fn : List T → Rs) (mo mi : M Opd) : M T := mo.bind fun o => mi.bind fun i => fun ρ => if instIs c (res ρ o) then eFun fn (M.pure [o, i]) ρ else .bad
section
variable {X : Cx} {vs : Fx} {W : WX} {e a b : Expr} {mo mi : M Opd} {pos p : Pos}
/-- a call one level down -/
theorem call_in1 {k : Nat} {f : Addr} {fd : FuncData} {ps : List Str} {sp : Sp} {pins : List (Addr × Obj)} {σ : L2.St} {H : Hp} {s : Shared} {Q : VK} {us : List Value} {ws : List V} {E : XK} {xe : Value → Shared → Prop} (G : FnOk X.prog X.w X.K X.mg X.base (L2.CX X.prog X.w) k f fd ps sp) (hr : Room (k + 1) X.A) (hb : Binds X.K fd ps [])
    (hx : ∀ e s', L2.CX X.prog X.w X.stack H s E e s' → xe e s') (I : Inv X pins σ H s) (r : Vals ws us) (h : sp ws H Q E) : wpAny (model X.prog X.w) X.A.in1 (call (.ref f) us) (EP X pins σ Q) xe s := by
  have len : us.length = ps.length := by
    rw [← r.length]
    exact G.len _ _ _ _ h
  have bound := hb s us I.kIn (by rw [List.append_nil]; exact len)
  rw [List.append_nil] at bound
  refine wpAny_call (codeAny_mono (G.run X.A.in1 X.stack s H ⟨us, []⟩ us ws Q E hr.in1 I.env0.in1 bound r h) ?_)
  intro res s' ended
  match res with
  | .error er => exact hx er s' ended
  | .ok (.ret u) => exact I.after ended
  | .ok .next => exact ended.elim
  | .ok .brk => exact ended.elim
  | .ok .cont => exact ended.elim
theorem no_exc {H : Hp} {s : Shared} {P : Program} {w : World} {st : List PySem.Env} {xe : Value → Shared → Prop} : ∀ e s', L2.CX P w st H s (fun _ _ _ => False) e s' → xe e s' := fun _ _ ⟨_, _, _, _, _, _, _, _, _, _, _, _, q⟩ => q.elim
/-- o[i], o an instance -/
theorem fe_get {c : Str} {k : Nat} {fm : List T → Rs} (D : SpcD X.prog X.w X.K X.mg X.base c "__getitem__" k 2 fm) (tk : Takes X W) (hr : Room (k + 1) X.A) (ha : FO X vs W a mo) (hb : FO X vs W b mi)
    (hs : ∀ x i, subscripted b true x i = runValue (.builtin "lifetime.subscript" ⟨[x, i], []⟩) := by intro x i; with_unfolding_all rfl) : FE X vs W (.Subscript a b pos) (eGet c fm mo mi) := by
  obtain ⟨C, f, fd, ps, hc, cl, ⟨Mm, hfn, hno⟩, G, bd⟩ := D
  obtain ⟨ta, pa, qa⟩ := ha
  obtain ⟨tb, pb, qb⟩ := hb
  refine ⟨fun σ H Q => ta σ H fun x H1 => tb σ H1 fun y H2 => ∃ o dx fs, x = .ref o ∧ H2 o = some (.ins C dx fs) ∧ spF X.K X.mg 2 fm [x, y] H2 Q (fun c d H' => W c d σ H'), ⟨fun pins s σ H Q I h => ?_⟩, fun σ H F ρ A Q w rp hq => ?_⟩
  · refine Subscript_ (binT pa pb I h fun v u s2 x y H2 I2 rx ry q => ?_)
    obtain ⟨o, dx, fs, ex, hH, q⟩ := q
    subst ex
    obtain rfl : v = Value.ref o := rx
    obtain ⟨mA, O, _⟩ := ins_get I2.hok hH
    obtain ⟨od, J, _⟩ := O.look
    obtain ⟨m, Fr⟩ := I2.fr
    exact PySem.W.sub_K Fr I2.ok.mod.kin J Mm.at_ hfn Mm.fn (call_in1 G hr bd (fun e s' cx => passAt tk σ pins H2 s2 e s' I2 cx) I2 (.cons (show RelV (.ref o) (.ref o) from rfl) (.cons ry .nil)) q) (hs _ _)
  · refine qa σ H F ρ A _ w rp ?_
    unfold eGet M.bind at hq
    cases e1 : mo ρ with
    | bad => rw [e1] at hq; exact hq
    | exc c x ρ' => rw [e1] at hq; exact hq
    | ok oa ρ1 =>
      rw [e1] at hq
      simp only [Out.bind] at hq
      intro va F1 H1 A1 B1 st1 rp1 r1
      refine qb σ H1 F1 ρ1 A1 _ st1.wd.left rp1 ?_
      cases e2 : mi ρ1 with
      | bad => rw [e2] at hq; exact hq
      | exc c x ρ' => rw [e2] at hq; exact fun cls d F' H' A' st rp' ex => hq cls d F' H' A' (st1.compL st) rp' ex
      | ok ob ρ2 =>
        rw [e2] at hq
        simp only at hq
        intro vb F2 H2 A2 B2 st2 rp2 r2
        have r1' := r1.step st2 st1.wd
        have st : Step F H A F2 H2 (A2 ++ (B1 ++ B2)) := (st1.comp st2).perm (.refl _) (by rw [List.append_assoc]; exact List.perm_append_comm.append_left A2)
        split at hq
        · rename_i hin
          obtain ⟨t0, ht0⟩ : ∃ t0, res ρ2 oa = some t0 := by
            cases q : res ρ2 oa with
            | none => rw [q] at hin; cases hin
            | some t0 => exact ⟨t0, rfl⟩
          obtain ⟨B', rt0⟩ := r1'.res rp2 ht0
          rw [ht0] at hin
          obtain ⟨o, dx, fs, rfl, hH⟩ := instIs_rt st2.wd.sub hc hin rt0
          refine ⟨o, dx, fs, rfl, hH, ?_⟩
          exact fun_rd (os := [oa, ob]) (ws := [.ref o, vb]) (fun ts ρ' ht => by rw [takeAll_len ht]; rfl) st rp2 ⟨_, _, B1, B2, rfl, r1', ⟨_, _, B2, [], rfl, r2, ⟨rfl, rfl⟩, by rw [List.append_nil]⟩, rfl⟩ hq
        · exact hq.elim
/-- len(o), o an instance -/
def lenO (c : Str) (fg : List T → Rs) (t : T) : Option T := (propT c fg t).bind fun τ => match τ with
  | .d (.int n) => if decide (0 ≤ n) && decide (n < 9223372036854775808) then some (.d (.int n)) else none
  | _ => none
abbrev rLenO (K : PySem.W.Frag) (mg : Str → Option Value) (C : Addr) (fm : List T → Rs) : List V → Hp → VK → Prop := fun xs H Q => ∃ a dx fs, xs = [.ref a] ∧ H a = some (.ins C dx fs) ∧ spF K mg 1 fm [.ref a] H (fun v H' => ∃ n : Int, v = .int n ∧ (0 ≤ n ∧ n < 9223372036854775808) ∧ Q (.int n) H') (fun _ _ _ => False)
theorem fe_lenO {c : Str} {k : Nat} {fm : List T → Rs} (D : SpcD X.prog X.w X.K X.mg X.base c "__len__" k 1 fm) (hm : X.mg "len" = none) (hr : Room (k + 1) X.A) (h : FO X vs W a mo) (hg : Gl X "len" := by rfl)
    (h1 : starEach [a] X.env = (false, eval a X.env) :: starEach [] X.env := by rfl) (h3 : (backTo pos (starEach [] X.env)).any (·.1) = false := by rfl) : FE X vs W (.Call (.Name "len" p) [a] [] pos) (eOp1 (lenO c fm) mo) := by
  obtain ⟨C, f, fd, ps, hc, cl, ⟨Mm, hfn, hno⟩, G, bd⟩ := D
  have rule : CallR X (.builtin "len") (rLenO X.K X.mg C fm) := fun pins s σ H xs us Q I rs q => by
    obtain ⟨o, dx, fs, ex, hH, q⟩ := q
    subst ex
    match us, rs with
    | [u], .cons r0 .nil =>
      obtain rfl : u = Value.ref o := r0
      obtain ⟨mA, O, _⟩ := ins_get I.hok hH
      obtain ⟨od, J, _⟩ := O.look
      obtain ⟨m, Fr⟩ := I.fr
      refine PySem.W.len_K Fr I.ok.mod.kin J Mm.at_ Mm.fn (wpAny_mono (call_in1 G hr bd no_exc I (.cons (show RelV (.ref o) (.ref o) from rfl) .nil) q) (fun v s' z => ?_) fun _ _ z => z)
      obtain ⟨y, H', I', ry, n, rfl, hn, z⟩ := z
      obtain ⟨t, rfl⟩ := ry
      exact ⟨⟨hn.1, by omega⟩, .int n, H', I'.tok _, ⟨_, rfl⟩, z⟩
  refine fe_one (r := fun x H1 Q => rLenO X.K X.mg C fm [x] H1 Q) h (fun F H v t τ A1 Q sm rt hf kk => ?_) fun ta pt => ?_
  · simp only [lenO, Option.bind_eq_some_iff] at hf
    obtain ⟨τ0, hp, hf⟩ := hf
    split at hf
    · rename_i n
      split at hf
      · rename_i hn
        cases hf
        simp only [Bool.and_eq_true, decide_eq_true_eq] at hn
        unfold propT at hp
        split at hp
        · rename_i c' fs
          split at hp
          · rename_i hcc
            subst hcc
            split at hp
            · rename_i τ' outs hfg
              cases hp
              have rt0 := rt
              obtain ⟨a, C', dx, vfs, rfl, hm', hF, rf, rfl⟩ := rt
              rw [hc] at hm'
              cases hm'
              refine ⟨a, dx, vfs, rfl, sm _ _ hF, ⟨F.m, []⟩, [_], [], ⟨sm, List.nodup_nil, fun b hb => (by cases hb), fun b hb => (by cases hb), fun b hb => (by cases hb)⟩, ⟨_, _, [], [], rfl, RT.clean _ rfl rt0, ⟨rfl, rfl⟩, rfl⟩, rfl, ?_⟩
              rw [hfg]
              intro v F' H' B Bo st rv ro
              obtain ⟨F'm, F'R⟩ := F'
              have e0 : F'R = [] := st.ff.rr
              subst e0
              obtain ⟨rfl, rfl⟩ := rt_int rv
              exact ⟨n, rfl, hn, kk (.int n) ⟨F'm, F.R⟩ H' [] (Step.grew0 st.lessL) ⟨.int _, rfl⟩⟩
            · cases hp
          · cases hp
        · cases hp
      · cases hf
    · cases hf
  · obtain ⟨q⟩ := pe_callB (p := p) (pos := pos) rule hg hm (by decide +kernel) (pa_cons pt pa_nil h1) (by decide) (by decide) h1 h3
    exact ⟨q⟩
end

/-! ### list(range(..)) -/
section
variable {K : PySem.W.Frag} {mg : Str → Option Value} {F : FH} {H : Hp}
theorem rgV_rt (s : Same F H) (a b : Int) : RTs K mg F H (rgI a b) (rgV a b) [] := by
  unfold rgI rgV
  generalize List.range (b - a).toNat = l
  induction l with
  | nil => exact ⟨rfl, rfl⟩
  | cons n l ih => exact ⟨.int _, _, [], [], rfl, ⟨.int _, rfl⟩, ih, rfl⟩
theorem rgI_stat (a b : Int) : (rgI a b).all isStat = true := by
  unfold rgI
  rw [List.all_map]
  exact List.all_eq_true.mpr fun _ _ => rfl
theorem rgok {a b : Int} (h1 : big62 a = true) (h2 : big62 b = true) (h3 : small (b - a).toNat = true) : RgOk a b := by
  simp only [big62, Bool.and_eq_true, decide_eq_true_eq] at h1 h2
  have h3 : (b - a).toNat ≤ 16777216 := of_decide_eq_true h3
  exact ⟨by omega, by omega, by omega, by omega, by omega⟩
end
section
variable {X : Cx} {vs : Fx} {W : WX} {e a b : Expr} {ma mb : M Opd} {pos p p2 pos2 : Pos}
theorem fe_listRg1 (hc : X.calm = true) (hm : X.mg "list" = none) (hm2 : X.mg "range" = none) (h0 : FO X vs W a ma) (hg : Gl X "list" := by rfl) (hg2 : Gl X "range" := by rfl) (na : starEach [a] X.env = (false, eval a X.env) :: starEach [] X.env := by rfl)
    (nb : starEach [.Call (.Name "range" p2) [a] [] pos2] X.env = (false, eval (.Call (.Name "range" p2) [a] [] pos2) X.env) :: starEach [] X.env := by rfl) : FE X vs W (.Call (.Name "list" p) [.Call (.Name "range" p2) [a] [] pos2] [] pos) (eOp1 (fun t => listRg1 [t]) ma) := by
  refine fe_one (r := fun x H1 Q => ∃ n, x = .int n ∧ RgOk 0 n ∧ ∀ q, H1 q = none → Q (.ref q) (upd H1 q (.lst (rgV 0 n)))) h0 (fun F H v t τ A1 Q sm rt hf kk => ?_) fun ta pt => pe_listRg hc hg hm (prg_1 hg2 hm2 pt na) nb
  unfold listRg1 at hf
  split at hf
  · rename_i n e
    cases e
    split at hf
    · rename_i hz
      cases hf
      simp only [Bool.and_eq_true] at hz
      obtain ⟨rfl, rfl⟩ := rt_int rt
      exact ⟨n, rfl, rgok (by decide) hz.1 hz.2, fun q hq => giveL sm kk (rgV_rt sm 0 n) (rgI_stat 0 n) q hq⟩
    · cases hf
  · cases hf
theorem fe_listRg2 (hc : X.calm = true) (hm : X.mg "list" = none) (hm2 : X.mg "range" = none) (h0 : FO X vs W a ma) (h1 : FO X vs W b mb) (hg : Gl X "list" := by rfl) (hg2 : Gl X "range" := by rfl) (na : starEach [a, b] X.env = (false, eval a X.env) :: starEach [b] X.env := by rfl) (nc : starEach [b] X.env = (false, eval b X.env) :: starEach [] X.env := by rfl) (hpl : (backTo pos2 (starEach [b] X.env)).any (·.1) = false := by rfl)
    (nb : starEach [.Call (.Name "range" p2) [a, b] [] pos2] X.env = (false, eval (.Call (.Name "range" p2) [a, b] [] pos2) X.env) :: starEach [] X.env := by rfl) : FE X vs W (.Call (.Name "list" p) [.Call (.Name "range" p2) [a, b] [] pos2] [] pos) (eOp2 (fun t u => listRg2 [t, u]) ma mb) := by
  refine fe_two (r := fun x y H1 Q => ∃ i j, x = .int i ∧ y = .int j ∧ RgOk i j ∧ ∀ q, H1 q = none → Q (.ref q) (upd H1 q (.lst (rgV i j)))) h0 h1 (fun F H v w t u τ A1 A2 Q sm rt ru hf kk => ?_) fun ta tb pt pu => pe_listRg hc hg hm (prg_2 hg2 hm2 pt pu na nc hpl) nb
  unfold listRg2 at hf
  split at hf
  · rename_i m n e
    cases e
    split at hf
    · rename_i hz
      cases hf
      simp only [Bool.and_eq_true] at hz
      obtain ⟨rfl, rfl⟩ := rt_int rt
      obtain ⟨rfl, rfl⟩ := rt_int ru
      exact ⟨m, n, rfl, rfl, rgok hz.1.1 hz.1.2 hz.2, fun q hq => giveL sm kk (rgV_rt sm m n) (rgI_stat m n) q hq⟩
    · cases hf
  · cases hf
end
end FL

set_option Elab.async false
set_option linter.all false
set_option maxRecDepth 100000
namespace FL
open PySem PySem.Spec PyProof.Rows L2

/-! ### calls that read what they are lent: bs tells which operands -/
def takeB : List Bool → List Opd → Env → Option (List T × Env)
  | _, [], ρ => some ([], ρ)
  | [], _ :: _, _ => none
  | _ :: bs, .inl t :: os, ρ => (takeB bs os ρ).map fun p => (t :: p.1, p.2)
  | true :: bs, .inr i :: os, ρ => (ρ[i]?.join).bind fun c => (takeB bs os (ρ.set i none)).map fun p => (bor c.1 :: p.1, p.2)
  | false :: bs, .inr i :: os, ρ => (ρ[i]?.join).bind fun c => (takeB bs os (ρ.set i none)).map fun p => (c.1 :: p.1, p.2)
def putB (ρ0 : Env) : List Bool → List Opd → List (Option T) → Env → Env
  | true :: bs, .inr i :: os, us, ρ => putB ρ0 bs os us.tail (ρ.set i (ρ0[i]?.join))
  | false :: bs, .inr i :: os, some u :: us, ρ => putB ρ0 bs os us (ρ.set i (some (u, flag ρ0 i)))
  | _ :: bs, _ :: os, us, ρ => putB ρ0 bs os us.tail ρ
  | _, _, _, ρ => ρ
/-- what comes back of the lent slots -/
def clB : List Bool → List (Option T) → Bool
  | false :: bs, some u :: us => T.cl u && clB bs us
  | _ :: bs, _ :: us => clB bs us
  | _, _ => true
def eFunB (bs : List Bool) (fn : List T → Rs) (mos : M (List Opd)) : M T := mos.bind fun os => fun ρ => match takeB bs os ρ with
  | none => .bad
  | some (ts, ρ1) => match fn ts with
    | .ok τ outs => if T.cl τ && clB bs outs then .ok τ (putB ρ bs os outs ρ1) else .bad
    | .exc c x outs => if clB bs outs then .exc c x (putB ρ bs os outs ρ1) else .bad
    | .bad => .bad
section
variable {K : PySem.W.Frag} {mg : Str → Option Value}
/-- the slots that are lent to be read, as they were -/
def SvB (K : PySem.W.Frag) (mg : Str → Option Value) (F : FH) (H : Hp) (σ : L2.St) (ρ0 : Env) : List Bool → List Opd → List Addr → Prop
  | true :: bs, .inr i :: os, A => ∃ t b v B1 B2, ρ0[i]?.join = some (t, b) ∧ σ[i]? = some (some v) ∧ RT K mg F H t v B1 ∧ SvB K mg F H σ ρ0 bs os B2 ∧ A = B1 ++ B2
  | _ :: bs, _ :: os, A => SvB K mg F H σ ρ0 bs os A
  | _, _, A => A = []
theorem svB_keep {F : FH} {H : Hp} {F' : FH} {H' : Hp} {σ : L2.St} {ρ0 : Env} (ff : Sm F F') (kR : ∀ b ∈ F.R, ∀ o, H b = some o → H' b = some o) : ∀ {bs : List Bool} {os : List Opd} {A : List Addr}, (∀ b ∈ A, ∀ o, H b = some o → H' b = some o) → SvB K mg F H σ ρ0 bs os A → SvB K mg F' H' σ ρ0 bs os A
  | true :: bs, .inr i :: os, A, k, ⟨t, b, v, B1, B2, e0, hv, rt, sv, e⟩ => by
    subst e
    exact ⟨t, b, v, B1, B2, e0, hv, RT.keep ff kR t (fun b hb => k b (List.mem_append_left _ hb)) rt, svB_keep ff kR (fun b hb => k b (List.mem_append_right _ hb)) sv, rfl⟩
  | true :: bs, .inl t :: os, A, k, sv => svB_keep (bs := bs) (os := os) ff kR k sv
  | false :: bs, _ :: os, A, k, sv => svB_keep (bs := bs) (os := os) ff kR k sv
  | [], os, A, k, sv => by cases os <;> exact sv
  | true :: bs, [], A, k, sv => sv
  | false :: bs, [], A, k, sv => sv
theorem join_some {ρ : Env} {i : Nat} {c : Cell} (h : ρ[i]?.join = some c) : ρ[i]? = some (some c) := by
  cases q : ρ[i]? with
  | none => rw [q] at h; cases h
  | some o =>
    rw [q] at h
    cases o with
    | none => cases h
    | some c' => cases h; rfl
theorem swap3 {A1 A2 A3 : List Addr} : (A1 ++ (A2 ++ A3)).Perm (A2 ++ (A1 ++ A3)) := by
  rw [← List.append_assoc, ← List.append_assoc]
  exact List.perm_append_comm.append_right A3
theorem takeB_ok {m : Hp} {R : List Addr} {H : Hp} {σ : L2.St} {ρ0 : Env} : ∀ {bs : List Bool} {os : List Opd} {ws : List V} {A B : List Addr} {ρ ρ1 : Env} {ts : List T}, ORs K mg ⟨m, R⟩ H σ os ws B → RSl K mg ⟨m, R⟩ H ρ σ A → (∀ (i : Nat) (c : Cell), ρ[i]? = some (some c) → ρ0[i]? = some (some c)) → takeB bs os ρ = some (ts, ρ1) →
    ∃ At Ab Ar, (A ++ B).Perm (At ++ (Ab ++ Ar)) ∧ (∀ R', (∀ b ∈ R, b ∈ R') → (∀ b ∈ Ab, b ∈ R') → RTs K mg ⟨m, R'⟩ H ts ws At) ∧ RSl K mg ⟨m, R⟩ H ρ1 σ Ar ∧ SvB K mg ⟨m, R⟩ H σ ρ0 bs os Ab
  | bs, [], ws, A, B, ρ, ρ1, ts, ⟨e1, e2⟩, r, _, h => by
    subst e1 e2
    have h : some ([], ρ) = some (ts, ρ1) := by cases bs <;> exact h
    cases h
    refine ⟨[], [], A, by simp, fun R' _ _ => ⟨rfl, rfl⟩, r, ?_⟩
    cases bs with
    | nil => rfl
    | cons b bs => cases b <;> rfl
  | [], _ :: _, ws, A, B, ρ, ρ1, ts, _, _, _, h => by cases h
  | b :: bs, .inl t :: os, ws, A, B, ρ, ρ1, ts, ⟨v, s, B1, B2, e1, q1, q2, e2⟩, r, z, h => by
    subst e1 e2
    have h5 : (takeB bs os ρ).map (fun p => (t :: p.1, p.2)) = some (ts, ρ1) := by cases b <;> exact h
    simp only [Option.map_eq_some_iff] at h5
    obtain ⟨⟨us, ρ2⟩, h6, e⟩ := h5
    simp only [Prod.mk.injEq] at e
    obtain ⟨rfl, rfl⟩ := e
    obtain ⟨At, Ab, Ar, p, r1, r2, sv⟩ := takeB_ok q2 r z h6
    refine ⟨B1 ++ At, Ab, Ar, ?_, fun R' h1 h2 => ⟨v, s, B1, At, rfl, RT.more h1 _ q1, r1 R' h1 h2, rfl⟩, r2, by cases b <;> exact sv⟩
    rw [List.append_assoc]
    refine List.Perm.trans ?_ (p.append_left B1)
    exact swap3
  | true :: bs, .inr i :: os, ws, A, B, ρ, ρ1, ts, ⟨v, s, B1, B2, e1, q1, q2, e2⟩, r, z, h => by
    subst e1 e2
    simp only [takeB, Option.bind_eq_some_iff, Option.map_eq_some_iff] at h
    obtain ⟨⟨t, b⟩, hs, ⟨us, ρ2⟩, h, e⟩ := h
    simp only [Prod.mk.injEq] at e
    obtain ⟨rfl, rfl⟩ := e
    have hs' := join_some hs
    obtain ⟨w, A1, A2, h1, h2, h3, h4⟩ := r.take hs'
    obtain ⟨q1a, q1b⟩ := q1
    rw [h1] at q1a; cases q1a
    subst q1b
    obtain ⟨At, Ab, Ar, p, r1, r2, sv⟩ := takeB_ok (ρ0 := ρ0) q2 h4 (fun j c hj => by
      by_cases hij : i = j
      · subst hij
        rw [List.getElem?_set] at hj
        split at hj
        · split at hj <;> cases hj
        · exact absurd rfl ‹_›
      · rw [List.getElem?_set_ne hij] at hj
        exact z j c hj) h
    have e0 : ρ0[i]?.join = some (t, b) := by rw [z i _ hs']; rfl
    refine ⟨At, A1 ++ Ab, Ar, ?_, fun R' h1' h2' => ⟨v, s, [], At, rfl, bor_rt (fun b hb => h2' b (List.mem_append_left _ hb)) (RT.more h1' _ h2), r1 R' h1' (fun b hb => h2' b (List.mem_append_right _ hb)), rfl⟩, r2, t, b, v, A1, Ab, e0, h1, h2, sv, rfl⟩
    rw [List.nil_append]
    refine (h3.append_right B2).trans ?_
    rw [List.append_assoc, List.append_assoc]
    exact (p.append_left A1).trans swap3
  | false :: bs, .inr i :: os, ws, A, B, ρ, ρ1, ts, ⟨v, s, B1, B2, e1, q1, q2, e2⟩, r, z, h => by
    subst e1 e2
    simp only [takeB, Option.bind_eq_some_iff, Option.map_eq_some_iff] at h
    obtain ⟨⟨t, b⟩, hs, ⟨us, ρ2⟩, h, e⟩ := h
    simp only [Prod.mk.injEq] at e
    obtain ⟨rfl, rfl⟩ := e
    have hs' := join_some hs
    obtain ⟨w, A1, A2, h1, h2, h3, h4⟩ := r.take hs'
    obtain ⟨q1a, q1b⟩ := q1
    rw [h1] at q1a; cases q1a
    subst q1b
    obtain ⟨At, Ab, Ar, p, r1, r2, sv⟩ := takeB_ok (ρ0 := ρ0) q2 h4 (fun j c hj => by
      by_cases hij : i = j
      · subst hij
        rw [List.getElem?_set] at hj
        split at hj
        · split at hj <;> cases hj
        · exact absurd rfl ‹_›
      · rw [List.getElem?_set_ne hij] at hj
        exact z j c hj) h
    refine ⟨A1 ++ At, Ab, Ar, ?_, fun R' h1' h2' => ⟨v, s, A1, At, rfl, RT.more h1' _ h2, r1 R' h1' h2', rfl⟩, r2, sv⟩
    rw [List.nil_append, List.append_assoc]
    refine (h3.append_right B2).trans ?_
    rw [List.append_assoc]
    exact p.append_left A1
theorem putB_ok {F : FH} {H : Hp} {σ : L2.St} {ρ0 : Env} : ∀ {bs : List Bool} {os : List Opd} {ws : List V} {outs : List (Option T)} {A B Ab : List Addr} {ρ : Env}, (∀ (i : Nat) (n : Nat), os[n]? = some (.inr i) → ∃ v, ws[n]? = some v ∧ σ[i]? = some (some v)) → Wd F H (A ++ (B ++ Ab)) → RSl K mg F H ρ σ A →
    (∀ R', ROut K mg ⟨F.m, R'⟩ H outs ws B → clB bs outs = true → SvB K mg F H σ ρ0 bs os Ab →
    ∃ A', Step F H (A ++ (B ++ Ab)) F H A' ∧ RSl K mg F H (putB ρ0 bs os outs ρ) σ A')
  | [], os, ws, outs, A, B, Ab, ρ, _, w, r, R', _, _, _ => ⟨A, (Step.refl w).less, by cases os <;> exact r⟩
  | b :: bs, [], ws, outs, A, B, Ab, ρ, _, w, r, R', _, _, _ => ⟨A, (Step.refl w).less, by cases b <;> cases outs <;> exact r⟩
  | true :: bs, .inr i :: os, ws, outs, A, B, Ab, ρ, h, w, r, R', ro, cl, ⟨t, b, v, B1, B2, e0, hv, rt, sv, e⟩ => by
    subst e
    have hws : ∃ v' ws', ws = v' :: ws' := by
      obtain ⟨v', h1, _⟩ := h i 0 rfl
      cases ws with
      | nil => cases h1
      | cons v' ws' => exact ⟨v', ws', rfl⟩
    obtain ⟨v', ws', rfl⟩ := hws
    have w' : Wd F H ((A ++ B1) ++ (B ++ B2)) := w.perm (by rw [List.append_assoc]; exact swap3.append_left A)
    obtain ⟨A1, s1, r1⟩ := fill_ok b i w'.left r rt hv
    have sw := s1.wide w'
    have key : ∃ B3, ROut K mg ⟨F.m, R'⟩ H outs.tail ws' B3 ∧ (∃ C, B.Perm (B3 ++ C)) ∧ clB bs outs.tail = true := by
      cases outs with
      | nil =>
        obtain ⟨e1, _⟩ := ro
        cases e1
      | cons o outs =>
        cases o with
        | none =>
          obtain ⟨o', s, e1, q⟩ := ro
          simp only [List.map_cons, List.cons.injEq] at e1
          obtain ⟨_, rfl⟩ := e1
          exact ⟨B, q, ⟨[], by simp⟩, cl⟩
        | some u =>
          obtain ⟨v2, s, C1, C2, e1, q1, q2, e2⟩ := ro
          simp only [List.map_cons, List.cons.injEq] at e1
          obtain ⟨_, rfl⟩ := e1
          exact ⟨C2, q2, ⟨C1, by rw [e2]; exact List.perm_append_comm⟩, cl⟩
    obtain ⟨B3, ro3, ⟨C, pc⟩, cl3⟩ := key
    have pm : (A1 ++ (B ++ B2)).Perm ((A1 ++ (B3 ++ B2)) ++ C) := by
      refine ((pc.append_right B2).append_left A1).trans ?_
      rw [List.append_assoc, List.append_assoc, List.append_assoc]
      exact (List.Perm.append_left B3 List.perm_append_comm).append_left A1
    have s2 := (sw.perm (.refl _) pm).less
    obtain ⟨A', s3, r3⟩ := putB_ok (ρ0 := ρ0) (os := os) (ws := ws') (fun i n hn => by simpa using h i (n + 1) (by simpa using hn)) s2.wd r1 R' ro3 cl3 sv
    refine ⟨A', ((Step.refl w).perm (.refl _) (show (A ++ (B ++ (B1 ++ B2))).Perm ((A ++ B1) ++ (B ++ B2)) by rw [List.append_assoc]; exact swap3.append_left A)).trans (s2.trans s3), ?_⟩
    have e3 : putB ρ0 (true :: bs) (.inr i :: os) outs ρ = putB ρ0 bs os outs.tail (ρ.set i (ρ0[i]?.join)) := by cases outs <;> rfl
    rw [e3, e0]; exact r3
  | false :: bs, .inr i :: os, v' :: ws, some u :: outs, A, B, Ab, ρ, h, w, r, R', ⟨v, s, B1, B2, e1, q1, q2, e2⟩, cl, sv => by
    subst e2
    simp only [List.map_cons, List.cons.injEq] at e1
    obtain ⟨ev, rfl⟩ := e1
    cases ev
    obtain ⟨v2, h1, hv⟩ := h i 0 rfl
    simp at h1
    subst h1
    simp only [clB, Bool.and_eq_true] at cl
    have w' : Wd F H ((A ++ B1) ++ (B2 ++ Ab)) := by rw [List.append_assoc]; rw [List.append_assoc] at w; exact w
    obtain ⟨A1, s1, r1⟩ := fill_ok (flag ρ0 i) i w'.left r (RT.clean _ cl.1 q1) hv
    have sw := s1.wide w'
    obtain ⟨A', s3, r3⟩ := putB_ok (ρ0 := ρ0) (os := os) (ws := ws) (fun i n hn => by simpa using h i (n + 1) (by simpa using hn)) sw.wd r1 R' q2 cl.2 sv
    exact ⟨A', ((Step.refl w).perm (.refl _) (show (A ++ ((B1 ++ B2) ++ Ab)).Perm ((A ++ B1) ++ (B2 ++ Ab)) by rw [List.append_assoc, List.append_assoc])).trans (sw.trans s3), r3⟩
  | false :: bs, .inr i :: os, v' :: ws, none :: outs, A, B, Ab, ρ, h, w, r, R', ⟨o', s, e1, q⟩, cl, sv => by
    simp only [List.map_cons, List.cons.injEq] at e1
    obtain ⟨_, rfl⟩ := e1
    exact putB_ok (ρ0 := ρ0) (os := os) (ws := ws) (fun i n hn => by simpa using h i (n + 1) (by simpa using hn)) w r R' q cl sv
  | false :: bs, .inr i :: os, [], outs, A, B, Ab, ρ, h, w, r, R', ro, cl, sv => by
    obtain ⟨v, h1, _⟩ := h i 0 rfl
    cases h1
  | false :: bs, .inr i :: os, v' :: ws, [], A, B, Ab, ρ, h, w, r, R', ro, cl, sv => by
    obtain ⟨e1, _⟩ := ro
    cases e1
  | b :: bs, .inl t :: os, ws, outs, A, B, Ab, ρ, h, w, r, R', ro, cl, sv => by
    have e3 : putB ρ0 (b :: bs) (.inl t :: os) outs ρ = putB ρ0 bs os outs.tail ρ := by cases b <;> cases outs <;> rfl
    have sv : SvB K mg F H σ ρ0 bs os Ab := by cases b <;> exact sv
    rw [e3]
    cases outs with
    | nil =>
      obtain ⟨e1, e2⟩ := ro
      cases ws with
      | cons _ _ => cases e1
      | nil =>
        refine putB_ok (ρ0 := ρ0) (os := os) (ws := []) (outs := []) (fun i n hn => ?_) w r R' ⟨rfl, e2⟩ (by cases bs with | nil => rfl | cons b bs => cases b <;> rfl) sv
        obtain ⟨v, h1, _⟩ := h i (n + 1) (by simpa using hn)
        simp at h1
    | cons o outs =>
      cases ws with
      | nil =>
        cases o with
        | none => obtain ⟨_, _, e1, _⟩ := ro; cases e1
        | some u => obtain ⟨_, _, _, _, e1, _⟩ := ro; cases e1
      | cons v' ws =>
        have hh : ∀ (i : Nat) (n : Nat), os[n]? = some (.inr i) → ∃ v, ws[n]? = some v ∧ σ[i]? = some (some v) := fun i n hn => by simpa using h i (n + 1) (by simpa using hn)
        cases o with
        | none =>
          obtain ⟨o', s, e1, q⟩ := ro
          simp only [List.map_cons, List.cons.injEq] at e1
          obtain ⟨_, rfl⟩ := e1
          exact putB_ok (ρ0 := ρ0) hh w r R' q (by cases b <;> exact cl) sv
        | some u =>
          obtain ⟨v2, s, B1, B2, e1, q1, q2, e2⟩ := ro
          subst e2
          simp only [List.map_cons, List.cons.injEq] at e1
          obtain ⟨_, rfl⟩ := e1
          have cl' : clB bs outs = true := by
            cases b with
            | true => exact cl
            | false => simp only [clB, Bool.and_eq_true] at cl; exact cl.2
          have pm : (A ++ ((B1 ++ B2) ++ Ab)).Perm ((A ++ (B2 ++ Ab)) ++ B1) := by
            rw [List.append_assoc, List.append_assoc]
            exact List.perm_append_comm.append_left A
          have s2 := ((Step.refl w).perm (.refl _) pm).less
          obtain ⟨A', s3, r3⟩ := putB_ok (ρ0 := ρ0) hh s2.wd r R' q2 cl' sv
          exact ⟨A', s2.trans s3, r3⟩
end
theorem putB_flag {ρ0 : Env} : ∀ {bs : List Bool} {os : List Opd} {outs : List (Option T)} {ρ : Env}, (∀ (i : Nat) (t : T), ρ[i]? = some (some (t, true)) → ∃ u, ρ0[i]? = some (some (u, true))) →
    ∀ (i : Nat) (t : T), (putB ρ0 bs os outs ρ)[i]? = some (some (t, true)) → ∃ u, ρ0[i]? = some (some (u, true))
  | [], os, outs, ρ, h => by cases os <;> exact h
  | b :: bs, [], outs, ρ, h => by cases b <;> cases outs <;> exact h
  | b :: bs, .inl t :: os, outs, ρ, h => by
    have e3 : putB ρ0 (b :: bs) (.inl t :: os) outs ρ = putB ρ0 bs os outs.tail ρ := by cases b <;> cases outs <;> rfl
    rw [e3]
    exact putB_flag h
  | true :: bs, .inr i :: os, outs, ρ, h => by
    have e3 : putB ρ0 (true :: bs) (.inr i :: os) outs ρ = putB ρ0 bs os outs.tail (ρ.set i (ρ0[i]?.join)) := by cases outs <;> rfl
    rw [e3]
    refine putB_flag fun j t hj => ?_
    by_cases hij : i = j
    · subst hij
      rw [List.getElem?_set] at hj
      split at hj
      · split at hj
        · have hj : ρ0[i]?.join = some (t, true) := by simpa using hj
          exact ⟨t, join_some hj⟩
        · cases hj
      · exact absurd rfl ‹_›
    · rw [List.getElem?_set_ne hij] at hj
      exact h j t hj
  | false :: bs, .inr i :: os, [], ρ, h => by
    have e3 : putB ρ0 (false :: bs) (.inr i :: os) [] ρ = putB ρ0 bs os [] ρ := rfl
    rw [e3]
    exact putB_flag h
  | false :: bs, .inr i :: os, none :: outs, ρ, h => by
    have e3 : putB ρ0 (false :: bs) (.inr i :: os) (none :: outs) ρ = putB ρ0 bs os outs ρ := rfl
    rw [e3]
    exact putB_flag h
  | false :: bs, .inr i :: os, some u :: outs, ρ, h => by
    have e3 : putB ρ0 (false :: bs) (.inr i :: os) (some u :: outs) ρ = putB ρ0 bs os outs (ρ.set i (some (u, flag ρ0 i))) := rfl
    rw [e3]
    refine putB_flag fun j t hj => ?_
    by_cases hij : i = j
    · subst hij
      rw [List.getElem?_set] at hj
      split at hj
      · split at hj
        · simp only [Option.some.injEq, Prod.mk.injEq] at hj
          obtain ⟨_, hf⟩ := hj
          unfold flag at hf
          split at hf
          · rename_i t' b e; subst hf; exact ⟨_, e⟩
          · cases hf
        · cases hj
      · exact absurd rfl ‹_›
    · rw [List.getElem?_set_ne hij] at hj
      exact h j t hj
theorem takeB_flag : ∀ {bs : List Bool} {os : List Opd} {ρ ρ1 : Env} {ts : List T}, takeB bs os ρ = some (ts, ρ1) → ∀ (i : Nat) (t : T), ρ1[i]? = some (some (t, true)) → ∃ u, ρ[i]? = some (some (u, true))
  | bs, [], ρ, ρ1, ts, h, i, t, hi => by
    have h : some (([] : List T), ρ) = some (ts, ρ1) := by cases bs <;> exact h
    cases h; exact ⟨t, hi⟩
  | [], _ :: _, ρ, ρ1, ts, h, i, t, hi => by cases h
  | b :: bs, .inl u :: os, ρ, ρ1, ts, h, i, t, hi => by
    have h5 : (takeB bs os ρ).map (fun p => (u :: p.1, p.2)) = some (ts, ρ1) := by cases b <;> exact h
    simp only [Option.map_eq_some_iff] at h5
    obtain ⟨⟨us, ρ2⟩, h6, e⟩ := h5
    simp only [Prod.mk.injEq] at e
    obtain ⟨_, rfl⟩ := e
    exact takeB_flag h6 i t hi
  | b :: bs, .inr j :: os, ρ, ρ1, ts, h, i, t, hi => by
    have h5 : ∃ c, ρ[j]?.join = some c ∧ ∃ us, takeB bs os (ρ.set j none) = some (us, ρ1) := by
      cases b with
      | true =>
        simp only [takeB, Option.bind_eq_some_iff, Option.map_eq_some_iff] at h
        obtain ⟨c, hc, ⟨us, ρ2⟩, h, e⟩ := h
        simp only [Prod.mk.injEq] at e
        obtain ⟨_, rfl⟩ := e
        exact ⟨c, hc, us, h⟩
      | false =>
        simp only [takeB, Option.bind_eq_some_iff, Option.map_eq_some_iff] at h
        obtain ⟨c, hc, ⟨us, ρ2⟩, h, e⟩ := h
        simp only [Prod.mk.injEq] at e
        obtain ⟨_, rfl⟩ := e
        exact ⟨c, hc, us, h⟩
    obtain ⟨c, hc, us, h6⟩ := h5
    obtain ⟨u, hu⟩ := takeB_flag h6 i t hi
    by_cases hij : j = i
    · subst hij
      rw [List.getElem?_set] at hu
      split at hu
      · split at hu <;> simp at hu
      · exact absurd rfl ‹_›
    · rw [List.getElem?_set_ne hij] at hu
      exact ⟨u, hu⟩
theorem takeB_len : ∀ {bs : List Bool} {os : List Opd} {ρ ρ1 : Env} {ts : List T}, takeB bs os ρ = some (ts, ρ1) → ts.length = os.length
  | bs, [], ρ, ρ1, ts, h => by
    have h : some (([] : List T), ρ) = some (ts, ρ1) := by cases bs <;> exact h
    cases h; rfl
  | [], _ :: _, ρ, ρ1, ts, h => by cases h
  | b :: bs, .inl u :: os, ρ, ρ1, ts, h => by
    have h5 : (takeB bs os ρ).map (fun p => (u :: p.1, p.2)) = some (ts, ρ1) := by cases b <;> exact h
    simp only [Option.map_eq_some_iff] at h5
    obtain ⟨⟨us, ρ2⟩, h6, e⟩ := h5
    simp only [Prod.mk.injEq] at e
    obtain ⟨rfl, _⟩ := e
    simp [takeB_len h6]
  | true :: bs, .inr j :: os, ρ, ρ1, ts, h => by
    simp only [takeB, Option.bind_eq_some_iff, Option.map_eq_some_iff] at h
    obtain ⟨c, hc, ⟨us, ρ2⟩, h, e⟩ := h
    simp only [Prod.mk.injEq] at e
    obtain ⟨rfl, _⟩ := e
    simp [takeB_len h]
  | false :: bs, .inr j :: os, ρ, ρ1, ts, h => by
    simp only [takeB, Option.bind_eq_some_iff, Option.map_eq_some_iff] at h
    obtain ⟨c, hc, ⟨us, ρ2⟩, h, e⟩ := h
    simp only [Prod.mk.injEq] at e
    obtain ⟨rfl, _⟩ := e
    simp [takeB_len h]
section
variable {vs : Fx} {W : WX}
/-- the reading of such a call -/
theorem funB_rd {K : PySem.W.Frag} {mg : Str → Option Value} {n : Nat} {bs : List Bool} {fn : List T → Rs} {σ : L2.St} {F : FH} {H : Hp} {F1 : FH} {H1 : Hp} {A A1 B1 : List Addr} {ρ1 : Env} {os : List Opd} {ws : List V} {Q : VK} (hn : os.length = n)
    (st1 : Step F H A F1 H1 (A1 ++ B1)) (rp1 : Rep K mg vs F1 H1 σ ρ1 A1) (r1 : ORs K mg F1 H1 σ os ws B1)
    (hq : EQ K mg vs W F H σ A Q (match takeB bs os ρ1 with
      | none => .bad
      | some (ts, ρ2) => match fn ts with
        | .ok τ outs => if T.cl τ && clB bs outs then .ok τ (putB ρ1 bs os outs ρ2) else .bad
        | .exc c x outs => if clB bs outs then .exc c x (putB ρ1 bs os outs ρ2) else .bad
        | .bad => .bad)) : spF K mg n fn ws H1 Q (fun c d H' => W c d σ H') := by
  cases ht : takeB bs os ρ1 with
  | none => rw [ht] at hq; exact hq.elim
  | some p =>
    obtain ⟨ts, ρ2⟩ := p
    rw [ht] at hq
    simp only at hq
    obtain ⟨m, R⟩ := F1
    obtain ⟨At, Ab, Ar, pm, r2, r3, sv⟩ := takeB_ok (ρ0 := ρ1) r1 rp1.sl (fun _ _ h => h) ht
    have w2 := st1.wd.perm pm
    have pm1 : (At ++ (Ab ++ Ar)).Perm ((At ++ Ar) ++ Ab) := by
      rw [List.append_assoc]
      exact List.perm_append_comm.append_left At
    have w3 := w2.perm pm1
    have wc : Wd ⟨m, R ++ Ab⟩ H1 At := ⟨w2.sub, w2.left.nd, w2.left.fn, w2.left.th, fun b hb => by
      rcases List.mem_append.mp hb with hb | hb
      · exact w2.left.rn b hb
      · exact ⟨fun h => w2.apart h (List.mem_append_left _ hb), w3.right.th b hb⟩⟩
    refine ⟨⟨m, R ++ Ab⟩, ts, At, wc, r2 _ (fun b hb => List.mem_append_left _ hb) (fun b hb => List.mem_append_right _ hb), by rw [takeB_len ht, hn], ?_⟩
    have io : ∀ {outs : List (Option T)} (i : Nat) (t : T), (putB ρ1 bs os outs ρ2)[i]? = some (some (t, true)) → ∃ v, vs.ws[i]? = some v ∧ σ[i]? = some (some v) := fun {outs} i t hi => by
      obtain ⟨u, hu⟩ := putB_flag (takeB_flag ht) i t hi
      exact rp1.io i u hu
    have fin : ∀ {F'm : Hp} {F'R : List Addr} {H' : Hp} {Bo B : List Addr} {outs : List (Option T)}, Step ⟨m, R ++ Ab⟩ H1 At ⟨F'm, F'R⟩ H' (Bo ++ B) → ROut K mg ⟨F'm, F'R⟩ H' outs ws Bo → clB bs outs = true → ∃ A', Step F H A ⟨F'm, R⟩ H' (A' ++ B) ∧ Rep K mg vs ⟨F'm, R⟩ H' σ (putB ρ1 bs os outs ρ2) A' := fun {F'm F'R H' Bo B outs} st0 ro cl => by
      have st : Step ⟨m, R⟩ H1 At ⟨F'm, R⟩ H' (Bo ++ B) := ⟨⟨st0.ff.ff, rfl⟩, st0.fr, st0.fz, st0.nw, ⟨st0.wd.sub, st0.wd.nd, st0.wd.fn, st0.wd.th, fun b hb => st0.wd.rn b (by rw [show (FH.mk F'm F'R).R = R ++ Ab from st0.ff.rr]; exact List.mem_append_left _ hb)⟩⟩
      have sw := st.wide w2
      have kR : ∀ b ∈ R, ∀ o, H1 b = some o → H' b = some o := fun b hb o e => st.fr b o e fun h => (w2.rn b hb).1 (List.mem_append_left _ h)
      have r4 : RSl K mg ⟨F'm, R⟩ H' ρ2 σ Ar := r3.keep sw.ff kR fun b hb o e => st.fr b o e fun h => w2.apart h (List.mem_append_right _ hb)
      have sv4 : SvB K mg ⟨F'm, R⟩ H' σ ρ1 bs os Ab := by
        have kA : ∀ b ∈ Ab, ∀ o, H1 b = some o → H' b = some o := fun b hb o e => st.fr b o e fun h => w2.apart h (List.mem_append_left _ hb)
        exact svB_keep sw.ff kR kA sv
      have pm2 : ((Bo ++ B) ++ (Ab ++ Ar)).Perm ((Ar ++ (Bo ++ Ab)) ++ B) := by
        have p1 : ((Bo ++ B) ++ (Ab ++ Ar)).Perm ((Ab ++ Ar) ++ (Bo ++ B)) := List.perm_append_comm
        have p2 : ((Ab ++ Ar) ++ (Bo ++ B)).Perm ((Ar ++ Ab) ++ (Bo ++ B)) := List.perm_append_comm.append_right _
        refine p1.trans (p2.trans ?_)
        rw [List.append_assoc, List.append_assoc, List.append_assoc]
        exact swap3.append_left Ar
      have sw2 := sw.perm (.refl _) pm2
      obtain ⟨A', s5, r5⟩ := putB_ok (ρ0 := ρ1) r1.slots sw2.wd.left r4 F'R ro cl sv4
      exact ⟨A', (st1.trans (sw2.perm pm.symm (.refl _))).trans (s5.wide sw2.wd), rp1.fx.trans st.ff.ff, rp1.st, r5, io⟩
    cases hf : fn ts with
    | bad => rw [hf] at hq; exact hq
    | ok τ outs =>
      rw [hf] at hq
      intro v F' H' B Bo st rt ro
      simp only at hq
      split at hq
      · rename_i hcl
        simp only [Bool.and_eq_true] at hcl
        obtain ⟨A', s6, r6⟩ := fin (F'm := F'.m) (F'R := F'.R) st ro hcl.2
        exact hq v ⟨F'.m, R⟩ H' A' B s6 r6 (RT.clean _ hcl.1 rt)
      · exact hq.elim
    | exc c x outs =>
      rw [hf] at hq
      intro cls d F' H' Bo st ro ex
      simp only at hq
      split at hq
      · rename_i hcl
        obtain ⟨A', s6, r6⟩ := fin (F'm := F'.m) (F'R := F'.R) (B := []) (by rw [List.append_nil]; exact st) ro hcl
        rw [List.append_nil] at s6
        exact hq cls d ⟨F'.m, R⟩ H' A' s6 r6 ex
      · exact hq.elim
end
end FL

set_option Elab.async false
set_option linter.all false
set_option maxRecDepth 100000
namespace FL
open PySem PySem.Spec PyProof.Rows L2

/-! ### the rules of calls, with operands that are lent to be read -/
section
variable {X : Cx} {vs : Fx} {W : WX} {e a b o : Expr} {es : List Expr} {kws : List Keyword} {mos mks : M (List Opd)} {mo mi : M Opd} {pos apos : Pos}
theorem fe_funB (bs : List Bool) {x : Str} {p : Pos} {n : Nat} {f : Addr} {fn : List T → Rs} (G : CallOk X W f (spF X.K X.mg n fn)) (hm : X.mg x = some (.ref f)) (hk : PySem.W.keepIn X.K (.ref f) = true)
    (ha : FOs X vs W (e :: es) mos) (hn : ∀ ρ os ρ', mos ρ = .ok os ρ' → os.length = n) (hg : Gl X x := by rfl) (hdb : (x == ("__debug__" : Str)) = false := by decide) (he : starEach (e :: es) X.env = (false, eval e X.env) :: starEach es X.env := by rfl) (hpl : (backTo pos (starEach es X.env)).any (·.1) = false := by rfl) :
    FE X vs W (.Call (.Name x p) (e :: es) [] pos) (eFunB bs fn mos) := by
  obtain ⟨ta, pa, qa⟩ := ha
  refine ⟨fun σ H Q => ta σ H fun ws H1 => spF X.K X.mg n fn ws H1 Q (fun c d H' => W c d σ H'), ⟨fun pins s σ H Q I h => ?_⟩, fun σ H F ρ A Q w rp hq => ?_⟩
  · refine wpAny_Call_Name_kw (ld_glob I hg hm (PySem.W.callWith_K (h₀ := X.base) I.ok.mod.kin hk (thn (pa.run pos pins s σ H _ I h) fun us s1 hu => ?_) he hpl) hdb)
    obtain ⟨ws, H1, I1, r1, q1⟩ := hu
    exact ⟨I1.kIn, G pins σ H1 s1 Q us ws I1 r1 q1⟩
  · refine qa σ H F ρ A _ w rp ?_
    unfold eFunB M.bind at hq
    cases e1 : mos ρ with
    | bad => rw [e1] at hq; exact hq
    | exc c x ρ' => rw [e1] at hq; exact hq
    | ok os ρ1 =>
      rw [e1] at hq
      simp only [Out.bind] at hq
      intro ws F1 H1 A1 B1 st1 rp1 r1
      exact funB_rd (hn ρ os ρ1 e1) st1 rp1 r1 hq
theorem fe_defGB (bs : List Bool) {x : Str} {p : Pos} {k n : Nat} {fn : List T → Rs} (D : DefG X.prog X.w X.K X.mg X.base x k n fn) (tk : Takes X W) (hr : Room k X.A) (hgu : X.A.guards = some [])
    (ha : FOs X vs W (e :: es) mos) (hn : ∀ ρ os ρ', mos ρ = .ok os ρ' → os.length = n) (hg : Gl X x := by rfl) (hdb : (x == ("__debug__" : Str)) = false := by decide) (he : starEach (e :: es) X.env = (false, eval e X.env) :: starEach es X.env := by rfl) (hpl : (backTo pos (starEach es X.env)).any (·.1) = false := by rfl) :
    FE X vs W (.Call (.Name x p) (e :: es) [] pos) (eFunB bs fn mos) := by
  obtain ⟨f, fd, ps, G, b, m, kp⟩ := D
  exact fe_funB bs (callOk_ofG tk G hr hgu b) m kp ha hn hg hdb he hpl
theorem fe_defOB (bs : List Bool) {x : Str} {p : Pos} {k n : Nat} {fn : List T → Rs} (D : DefO X.prog X.w X.K X.mg X.base x k n fn) (tk : Takes X W) (hr : Room k X.A)
    (ha : FOs X vs W (e :: es) mos) (hn : ∀ ρ os ρ', mos ρ = .ok os ρ' → os.length = n) (hg : Gl X x := by rfl) (hdb : (x == ("__debug__" : Str)) = false := by decide) (he : starEach (e :: es) X.env = (false, eval e X.env) :: starEach es X.env := by rfl) (hpl : (backTo pos (starEach es X.env)).any (·.1) = false := by rfl) :
    FE X vs W (.Call (.Name x p) (e :: es) [] pos) (eFunB bs fn mos) := by
  obtain ⟨f, fd, ps, G, b, m, kp⟩ := D
  exact fe_funB bs (callOk_of tk G hr b) m kp ha hn hg hdb he hpl
theorem kw_rdB (bs : List Bool) {K : PySem.W.Frag} {mg : Str → Option Value} {n nk : Nat} {ix jx : List Nat} {fn : List T → Rs} {ta tk : TA} (k : KPerm (n + nk) ix jx)
    (qa : ∀ (σ : L2.St) (H : Hp) (F : FH) (ρ : Env) (A : List Addr) (Q : List V → Hp → Prop), Wd F H A → Rep K mg vs F H σ ρ A → OsQ K mg vs W F H σ A Q (mos ρ) → ta σ H Q)
    (qk : ∀ (σ : L2.St) (H : Hp) (F : FH) (ρ : Env) (A : List Addr) (Q : List V → Hp → Prop), Wd F H A → Rep K mg vs F H σ ρ A → OsQ K mg vs W F H σ A Q (mks ρ) → tk σ H Q)
    (h1 : ∀ ρ os ρ', mos ρ = .ok os ρ' → os.length = n) (h2 : ∀ ρ os ρ', mks ρ = .ok os ρ' → os.length = nk) (σ : L2.St) (H : Hp) (F : FH) (ρ : Env) (A : List Addr) (Q : VK) (w : Wd F H A) (rp : Rep K mg vs F H σ ρ A)
    (hq : EQ K mg vs W F H σ A Q (eFunB bs (permF ix jx fn) (osApp mos mks) ρ)) :
    ta σ H fun ws H1 => tk σ H1 fun zs H2 => ws.length = n ∧ zs.length = nk ∧ spF K mg (n + nk) fn (pick ix (ws ++ zs)) H2 Q (fun c d H' => W c d σ H') := by
  refine qa σ H F ρ A _ w rp ?_
  unfold eFunB osApp M.bind at hq
  cases e1 : mos ρ with
  | bad => rw [e1] at hq; exact hq
  | exc c x ρ' => rw [e1] at hq; exact hq
  | ok os ρ1 =>
    rw [e1] at hq
    simp only [Out.bind] at hq
    intro ws F1 H1 A1 B1 st1 rp1 r1
    refine qk σ H1 F1 ρ1 A1 _ st1.wd.left rp1 ?_
    cases e2 : mks ρ1 with
    | bad => rw [e2] at hq; exact hq
    | exc c x ρ' => rw [e2] at hq; exact fun cls d F' H' A' st rp' ex => hq cls d F' H' A' (st1.compL st) rp' ex
    | ok oz ρ2 =>
      rw [e2] at hq
      simp only [M.pure] at hq
      intro zs F2 H2 A2 B2 st2 rp2 r2
      have lw : ws.length = n := by rw [← r1.length]; exact h1 _ _ _ e1
      have lz : zs.length = nk := by rw [← r2.length]; exact h2 _ _ _ e2
      refine ⟨lw, lz, sp_perm k ?_⟩
      have r1' := r1.step st2 st1.wd
      have st3 : Step F H A F2 H2 (A2 ++ (B1 ++ B2)) := (st1.comp st2).perm (.refl _) (by rw [List.append_assoc]; exact List.perm_append_comm.append_left A2)
      exact funB_rd (os := os ++ oz) (by rw [List.length_append, h1 _ _ _ e1, h2 _ _ _ e2]) st3 rp2 (r1'.app r2) hq
theorem fe_kw0B (bs : List Bool) {x : Str} {p : Pos} {ks : List Str} {ix jx : List Nat} {f : Addr} {fn : List T → Rs} (G : CallK X W f 0 ks ix (spF X.K X.mg (0 + ks.length) fn)) (k : KPerm (0 + ks.length) ix jx) (hm : X.mg x = some (.ref f)) (hk : PySem.W.keepIn X.K (.ref f) = true)
    (ha : FK X vs W kws mks) (hn : ∀ ρ os ρ', mks ρ = .ok os ρ' → os.length = ks.length) (hg : Gl X x := by rfl) (hall : (backToKw pos (keywordEach kws X.env)).all (·.1.isSome) = true := by rfl) (hks : (backToKw pos (keywordEach kws X.env)).filterMap (·.1) = ks := by rfl)
    (hdb : (x == ("__debug__" : Str)) = false := by decide) (hpl : ((backTo pos (starEach [] X.env)).any (·.1) || (backToKw pos (keywordEach kws X.env)).any (·.1.isNone)) = false := by rfl) :
    FE X vs W (.Call (.Name x p) [] kws pos) (eFunB bs (permF ix jx fn) (osApp osNil mks)) := by
  obtain ⟨tk, pk, qk⟩ := ha
  obtain ⟨ta, pa, qa⟩ := fos_nil (X := X) (vs := vs) (W := W)
  refine ⟨fun σ H Q => tk σ H fun zs H2 => zs.length = ks.length ∧ spF X.K X.mg (0 + ks.length) fn (pick ix zs) H2 Q (fun c d H' => W c d σ H'), ⟨fun pins s σ H Q I h => ?_⟩, fun σ H F ρ A Q w rp hq => ?_⟩
  · refine wpAny_Call_Name_kw (ld_glob I hg hm ?_ hdb)
    refine PySem.W.callWith_KW0 (h₀ := X.base) I.ok.mod.kin hk hall ?_ hpl
    refine thn (pk.run pos pins s σ H _ I h) fun uz s2 hu => ?_
    obtain ⟨zs, H2, I2, rz, lz, q2⟩ := hu
    refine ⟨I2.kIn, ?_⟩
    rw [hks]
    exact G pins σ H2 s2 Q [] uz [] zs I2 .nil rz rfl (by rw [← rz.length]; exact lz) q2
  · have := kw_rdB bs (ta := tNil) (tk := tk) (mos := osNil) (fn := fn) k (fun σ H F ρ A Q w r hq => hq [] F H A [] (by rw [List.append_nil]; exact .refl w) r ⟨rfl, rfl⟩) qk osNil_len hn σ H F ρ A Q w rp hq
    unfold tNil at this
    simp only [List.length_nil, List.nil_append, true_and] at this
    exact this
theorem fe_kwB (bs : List Bool) {x : Str} {p : Pos} {n : Nat} {ks : List Str} {ix jx : List Nat} {f : Addr} {fn : List T → Rs} (G : CallK X W f n ks ix (spF X.K X.mg (n + ks.length) fn)) (k : KPerm (n + ks.length) ix jx) (hm : X.mg x = some (.ref f)) (hk : PySem.W.keepIn X.K (.ref f) = true)
    (hp : FOs X vs W (e :: es) mos) (hpn : ∀ ρ os ρ', mos ρ = .ok os ρ' → os.length = n) (ha : FK X vs W kws mks) (hn : ∀ ρ os ρ', mks ρ = .ok os ρ' → os.length = ks.length) (hg : Gl X x := by rfl) (hall : (backToKw pos (keywordEach kws X.env)).all (·.1.isSome) = true := by rfl) (hks : (backToKw pos (keywordEach kws X.env)).filterMap (·.1) = ks := by rfl)
    (hdb : (x == ("__debug__" : Str)) = false := by decide) (he : starEach (e :: es) X.env = (false, eval e X.env) :: starEach es X.env := by rfl) (hpl : ((backTo pos (starEach (e :: es) X.env)).any (·.1) || (backToKw pos (keywordEach kws X.env)).any (·.1.isNone)) = false := by rfl) :
    FE X vs W (.Call (.Name x p) (e :: es) kws pos) (eFunB bs (permF ix jx fn) (osApp mos mks)) := by
  obtain ⟨tk, pk, qk⟩ := ha
  obtain ⟨ta, pa, qa⟩ := hp
  refine ⟨fun σ H Q => ta σ H fun ws H1 => tk σ H1 fun zs H2 => ws.length = n ∧ zs.length = ks.length ∧ spF X.K X.mg (n + ks.length) fn (pick ix (ws ++ zs)) H2 Q (fun c d H' => W c d σ H'), ⟨fun pins s σ H Q I h => ?_⟩, fun σ H F ρ A Q w rp hq => ?_⟩
  · refine wpAny_Call_Name_kw (ld_glob I hg hm ?_ hdb)
    refine PySem.W.callWith_KW (h₀ := X.base) I.ok.mod.kin hk hall (thn (pa.run pos pins s σ H _ I h) fun us s1 hu => ?_) hpl he
    obtain ⟨ws, H1, I1, rw1, q1⟩ := hu
    refine thn (pk.run pos pins s1 σ H1 _ I1 q1) fun uz s2 hu => ?_
    obtain ⟨zs, H2, I2, rz, lw, lz, q2⟩ := hu
    refine ⟨I2.kIn, ?_⟩
    rw [hks]
    exact G pins σ H2 s2 Q us uz ws zs I2 rw1 rz (by rw [← rw1.length]; exact lw) (by rw [← rz.length]; exact lz) q2
  · exact kw_rdB bs k qa qk hpn hn σ H F ρ A Q w rp hq
theorem fe_newB (bs : List Bool) {c x qual : Str} {st : Stmt} {ps : List Str} {k n : Nat} {fi : List T → Rs} (frz : Bool) (D : ClsD X.prog X.w X.K X.mg X.base c x qual st ps k n fi) (tk : Takes X W) (hr : Room (k + 1) X.A)
    (ha : FOs X vs W (e :: es) mos) (hn : ∀ ρ os ρ', mos ρ = .ok os ρ' → os.length = n) (hg : Gl X c := by rfl) (hdb : (c == ("__debug__" : Str)) = false := by decide) (he : starEach (e :: es) X.env = (false, eval e X.env) :: starEach es X.env := by rfl) (hpl : (backTo pos (starEach es X.env)).any (·.1) = false := by rfl) :
    FE X vs W (.Call (.Name c p) (e :: es) [] pos) (eFunB bs (makeFn c frz fi) mos) := by
  obtain ⟨C, f, fd, hc, M, F, G, b⟩ := D
  exact fe_funB bs (callOk_make hc M G hr tk b) hc M.kp ha hn hg hdb he hpl
theorem fe_newK0B (bs : List Bool) {c x qual : Str} {st : Stmt} {ps ks : List Str} {k : Nat} {ix jx : List Nat} {fi : List T → Rs} (frz : Bool) (D : ClsD X.prog X.w X.K X.mg X.base c x qual st ps k (0 + ks.length) fi) (tk : Takes X W) (hr : Room (k + 1) X.A) (kp : KPerm (0 + ks.length) ix jx)
    (hb : ∀ (kV doc pm : Value) (an : Option Addr) (cdv ct self : Value) (uz : List Value), uz.length = ks.length → bindArgs (PySem.W.fnOf x qual (defArgs st) (defBody st) (defScope st) .none kV doc pm an cdv ct) ⟨[self], ks.zip uz⟩ = pure (ps.zip (self :: pick ix uz)))
    (ha : FK X vs W kws mos) (hn : ∀ ρ os ρ', mos ρ = .ok os ρ' → os.length = ks.length) (hg : Gl X c := by rfl) (hall : (backToKw pos (keywordEach kws X.env)).all (·.1.isSome) = true := by rfl) (hks : (backToKw pos (keywordEach kws X.env)).filterMap (·.1) = ks := by rfl)
    (hdb : (c == ("__debug__" : Str)) = false := by decide) (hpl : ((backTo pos (starEach [] X.env)).any (·.1) || (backToKw pos (keywordEach kws X.env)).any (·.1.isNone)) = false := by rfl) :
    FE X vs W (.Call (.Name c p) [] kws pos) (eFunB bs (permF ix jx (makeFn c frz fi)) (osApp osNil mos)) := by
  obtain ⟨C, f, fd, hc, M, F, G, b⟩ := D
  refine fe_kw0B bs (callK_make hc M G hr tk fun s self us uz l1 l2 => ?_) kp hc M.kp ha hn hg hall hks hdb hpl
  obtain ⟨oc, od, kV, doc, pm, an, cdv, ct, osl, rfl, lk, hcd⟩ := F.ex
  have e0 : us = [] := List.eq_nil_of_length_eq_zero l1
  subst e0
  exact BindsTo.of_eq (hb kV doc pm an cdv ct self uz l2)
def eMethB (bs : List Bool) (c m : Str) (fn : List T → Rs) (mo : M Opd) (mos : M (List Opd)) : M T := mo.bind fun o => fun ρ => if instOf c m (res ρ o) then eFunB bs fn (consOs o mos) ρ else .bad
theorem meth_rdB (bs : List Bool) {c m : Str} {C : Addr} {n : Nat} {fn : List T → Rs} {ta : TE} {t : TA} (hc : X.mg c = some (.ref C))
    (qa : ∀ (σ : L2.St) (H : Hp) (F : FH) (ρ : Env) (A : List Addr) (Q : VK), Wd F H A → Rep X.K X.mg vs F H σ ρ A → OQ X.K X.mg vs W F H σ A Q (mo ρ) → ta σ H Q)
    (qs : ∀ (σ : L2.St) (H : Hp) (F : FH) (ρ : Env) (A : List Addr) (Q : List V → Hp → Prop), Wd F H A → Rep X.K X.mg vs F H σ ρ A → OsQ X.K X.mg vs W F H σ A Q (mos ρ) → t σ H Q)
    (hn : ∀ ρ os ρ', mos ρ = .ok os ρ' → os.length = n) (σ : L2.St) (H : Hp) (F : FH) (ρ : Env) (A : List Addr) (Q : VK) (w : Wd F H A) (rp : Rep X.K X.mg vs F H σ ρ A) (hq : EQ X.K X.mg vs W F H σ A Q (eMethB bs c m fn mo mos ρ)) :
    ta σ H fun x H1 => ∃ a dx fs, x = .ref a ∧ H1 a = some (.ins C dx fs) ∧ fs.lookup m = none ∧ t σ H1 fun ws H2 => spF X.K X.mg (n + 1) fn (x :: ws) H2 Q (fun c d H' => W c d σ H') := by
  refine qa σ H F ρ A _ w rp ?_
  unfold eMethB M.bind at hq
  cases e1 : mo ρ with
  | bad => rw [e1] at hq; exact hq
  | exc c x ρ' => rw [e1] at hq; exact hq
  | ok oa ρ1 =>
    rw [e1] at hq
    simp only [Out.bind] at hq
    intro va F1 H1 A1 B1 st1 rp1 r1
    split at hq
    · rename_i hin
      obtain ⟨t0, ht0⟩ : ∃ t0, res ρ1 oa = some t0 := by
        cases q : res ρ1 oa with
        | none => rw [q] at hin; cases hin
        | some t0 => exact ⟨t0, rfl⟩
      obtain ⟨B', rt0⟩ := r1.res rp1 ht0
      rw [ht0] at hin
      obtain ⟨a, dx, fs, rfl, hH, hl⟩ := inst_rt st1.wd.sub hc hin rt0
      refine ⟨a, dx, fs, rfl, hH, hl, ?_⟩
      refine qs σ H1 F1 ρ1 A1 _ st1.wd.left rp1 ?_
      unfold eFunB consOs M.bind at hq
      cases e2 : mos ρ1 with
      | bad => rw [e2] at hq; exact hq
      | exc c x ρ' => rw [e2] at hq; exact fun cls d F' H' A' st rp' ex => hq cls d F' H' A' (st1.compL st) rp' ex
      | ok os ρ2 =>
        rw [e2] at hq
        simp only [Out.bind, M.pure] at hq
        intro ws F2 H2 A2 B2 st2 rp2 r2
        have r1' := r1.step st2 st1.wd
        have st : Step F H A F2 H2 (A2 ++ (B1 ++ B2)) := (st1.comp st2).perm (.refl _) (by rw [List.append_assoc]; exact List.perm_append_comm.append_left A2)
        exact funB_rd (os := oa :: os) (ws := .ref a :: ws) (by rw [List.length_cons, hn ρ1 os ρ2 e2]) st rp2 ⟨_, _, B1, B2, rfl, r1', r2, rfl⟩ hq
    · exact hq.elim
theorem fe_methB (bs : List Bool) {c m : Str} {k n : Nat} {fm : List T → Rs} (D : MethD X.prog X.w X.K X.mg X.base c m k (n + 1) fm) (tk : Takes X W) (hr : Room k X.A) (ho : FO X vs W o mo) (ha : FOs X vs W (e :: es) mos) (hn : ∀ ρ os ρ', mos ρ = .ok os ρ' → os.length = n) {pl : Sem Bool}
    (hst : starEach (e :: es) X.env = (false, eval e X.env) :: starEach es X.env := by rfl) (hpl : (backTo pos (starEach es X.env)).any (·.1) = false := by rfl)
    (ht : eval (.Call (.Attribute o m apos) (e :: es) [] pos) X.env = (do
      let ov ← eval o X.env
      standAt apos.atName
      let (f, first) ← holding [ov] (getMethod ov m pl)
      callWith pos f first (backTo pos (starEach (e :: es) X.env)) (backToKw pos (keywordEach [] X.env))) := by rfl) :
    FE X vs W (.Call (.Attribute o m apos) (e :: es) [] pos) (eMethB bs c m fm mo mos) := by
  obtain ⟨C, f, fd, ps, hc, cl, M, G, b⟩ := D
  obtain ⟨ta, pa, qa⟩ := ho
  obtain ⟨t, ps', qs⟩ := ha
  refine ⟨_, ⟨fun pins s σ H Q I h => ?_⟩, fun σ H F ρ A Q w rp hq => meth_rdB bs hc qa qs hn σ H F ρ A Q w rp hq⟩
  refine PySem.W.methodCall_KW (pl := pl) (thn (pa.run pins s σ H _ I h) fun u s1 ⟨x, H1, I1, rx, a, dx, fs, ex, ea, l, q⟩ => ?_) ht
  subst ex
  obtain rfl : u = Value.ref a := rx
  refine getmeth_ok I1 ea cl M l ?_
  refine PySem.W.callWith_K (first := [.ref a]) (h₀ := X.base) I.ok.mod.kin M.kp (thn (ps'.run pos pins s1 σ H1 _ I1 q) fun us s2 ⟨vs, H2, I2, r, q2⟩ => ⟨I2.kIn, ?_⟩) hst hpl
  exact callOk_of tk G hr b pins σ H2 s2 Q (.ref a :: us) (.ref a :: vs) I2 (.cons rfl r) q2
theorem fe_meth0B (bs : List Bool) {c m : Str} {k : Nat} {fm : List T → Rs} (D : MethD X.prog X.w X.K X.mg X.base c m k 1 fm) (tk : Takes X W) (hr : Room k X.A) (ho : FO X vs W o mo) {pl : Sem Bool}
    (ht : eval (.Call (.Attribute o m apos) [] [] pos) X.env = (do
      let ov ← eval o X.env
      standAt apos.atName
      let (f, first) ← holding [ov] (getMethod ov m pl)
      callWith pos f first (backTo pos (starEach [] X.env)) (backToKw pos (keywordEach [] X.env))) := by rfl) :
    FE X vs W (.Call (.Attribute o m apos) [] [] pos) (eMethB bs c m fm mo osNil) := by
  obtain ⟨C, f, fd, ps, hc, cl, M, G, b⟩ := D
  obtain ⟨ta, pa, qa⟩ := ho
  obtain ⟨t, ps', qs⟩ := (fos_nil : FOs X vs W [] osNil)
  refine ⟨fun σ H Q => ta σ H fun x H1 => ∃ a dx fs, x = .ref a ∧ H1 a = some (.ins C dx fs) ∧ fs.lookup m = none ∧ spF X.K X.mg 1 fm [x] H1 Q (fun c d H' => W c d σ H'), ⟨fun pins s σ H Q I h => ?_⟩, fun σ H F ρ A Q w rp hq => ?_⟩
  · refine PySem.W.methodCall_KW (pl := pl) (thn (pa.run pins s σ H _ I h) fun u s1 ⟨x, H1, I1, rx, a, dx, fs, ex, ea, l, q⟩ => ?_) ht
    subst ex
    obtain rfl : u = Value.ref a := rx
    refine getmeth_ok I1 ea cl M l ?_
    exact PySem.W.callWith_K0 (first := [.ref a]) I1.kIn M.kp (callOk_of tk G hr b pins σ H1 s1 Q [.ref a] [.ref a] I1 (.cons rfl .nil) q)
  · exact meth_rdB bs (t := tNil) (mos := osNil) (n := 0) hc qa (fun σ H F ρ A Q w r hq => hq [] F H A [] (by rw [List.append_nil]; exact .refl w) r ⟨rfl, rfl⟩) (fun ρ os ρ' h => osNil_len ρ os ρ' h) σ H F ρ A Q w rp hq
def eGetB (bs : List Bool) (c : Str) (fn : List T → Rs) (mo mi : M Opd) : M T := mo.bind fun o => mi.bind fun i => fun ρ => if instIs c (res ρ o) then eFunB bs fn (M.pure [o, i]) ρ else .bad
theorem fe_getB (bs : List Bool) {c : Str} {k : Nat} {fm : List T → Rs} (D : SpcD X.prog X.w X.K X.mg X.base c "__getitem__" k 2 fm) (tk : Takes X W) (hr : Room (k + 1) X.A) (ha : FO X vs W a mo) (hb : FO X vs W b mi)
    (hs : ∀ x i, subscripted b true x i = runValue (.builtin "lifetime.subscript" ⟨[x, i], []⟩) := by intro x i; with_unfolding_all rfl) : FE X vs W (.Subscript a b pos) (eGetB bs c fm mo mi) := by
  obtain ⟨C, f, fd, ps, hc, cl, ⟨Mm, hfn, hno⟩, G, bd⟩ := D
  obtain ⟨ta, pa, qa⟩ := ha
  obtain ⟨tb, pb, qb⟩ := hb
  refine ⟨fun σ H Q => ta σ H fun x H1 => tb σ H1 fun y H2 => ∃ o dx fs, x = .ref o ∧ H2 o = some (.ins C dx fs) ∧ spF X.K X.mg 2 fm [x, y] H2 Q (fun c d H' => W c d σ H'), ⟨fun pins s σ H Q I h => ?_⟩, fun σ H F ρ A Q w rp hq => ?_⟩
  · refine Subscript_ (binT pa pb I h fun v u s2 x y H2 I2 rx ry q => ?_)
    obtain ⟨o, dx, fs, ex, hH, q⟩ := q
    subst ex
    obtain rfl : v = Value.ref o := rx
    obtain ⟨mA, O, _⟩ := ins_get I2.hok hH
    obtain ⟨od, J, _⟩ := O.look
    obtain ⟨m, Fr⟩ := I2.fr
    exact PySem.W.sub_K Fr I2.ok.mod.kin J Mm.at_ hfn Mm.fn (call_in1 G hr bd (fun e s' cx => passAt tk σ pins H2 s2 e s' I2 cx) I2 (.cons (show RelV (.ref o) (.ref o) from rfl) (.cons ry .nil)) q) (hs _ _)
  · refine qa σ H F ρ A _ w rp ?_
    unfold eGetB M.bind at hq
    cases e1 : mo ρ with
    | bad => rw [e1] at hq; exact hq
    | exc c x ρ' => rw [e1] at hq; exact hq
    | ok oa ρ1 =>
      rw [e1] at hq
      simp only [Out.bind] at hq
      intro va F1 H1 A1 B1 st1 rp1 r1
      refine qb σ H1 F1 ρ1 A1 _ st1.wd.left rp1 ?_
      cases e2 : mi ρ1 with
      | bad => rw [e2] at hq; exact hq
      | exc c x ρ' => rw [e2] at hq; exact fun cls d F' H' A' st rp' ex => hq cls d F' H' A' (st1.compL st) rp' ex
      | ok ob ρ2 =>
        rw [e2] at hq
        simp only at hq
        intro vb F2 H2 A2 B2 st2 rp2 r2
        have r1' := r1.step st2 st1.wd
        have st : Step F H A F2 H2 (A2 ++ (B1 ++ B2)) := (st1.comp st2).perm (.refl _) (by rw [List.append_assoc]; exact List.perm_append_comm.append_left A2)
        split at hq
        · rename_i hin
          obtain ⟨t0, ht0⟩ : ∃ t0, res ρ2 oa = some t0 := by
            cases q : res ρ2 oa with
            | none => rw [q] at hin; cases hin
            | some t0 => exact ⟨t0, rfl⟩
          obtain ⟨B', rt0⟩ := r1'.res rp2 ht0
          rw [ht0] at hin
          obtain ⟨o, dx, fs, rfl, hH⟩ := instIs_rt st2.wd.sub hc hin rt0
          refine ⟨o, dx, fs, rfl, hH, ?_⟩
          exact funB_rd (os := [oa, ob]) (ws := [.ref o, vb]) rfl st rp2 ⟨_, _, B1, B2, rfl, r1', ⟨_, _, B2, [], rfl, r2, ⟨rfl, rfl⟩, by rw [List.append_nil]⟩, rfl⟩ hq
        · exact hq.elim
end
/-- x += e, x -= e -/
def sAug1 (i : Nat) (f : T → T → Option T) (m : M T) : Env → Fl := fun ρ => match slot ρ i with
  | some _ => sAug i f m ρ
  | none => .bad
end FL

set_option Elab.async false
set_option linter.all false
set_option maxRecDepth 100000
namespace FL
open PySem

/-! ### what a function over data keeps: the words of the plain laws -/
abbrev XP := Str → PyData → Env → Prop
abbrev noX : XP := fun _ _ _ => False
@[irreducible] def OkM {α : Type} (o : Out α) (Q : α → Env → Prop) (X : XP) : Prop := match o with
  | .ok a ρ => Q a ρ
  | .exc c x ρ => X c x ρ
  | .bad => False
@[irreducible] def okO {α : Type} (o : Option α) (Q : α → Prop) : Prop := match o with
  | some a => Q a
  | none => False
def olOf : T → Option (List T)
  | .ol ts => some ts
  | _ => none
@[irreducible] def BR (b : Bool) (x y : Unit → Prop) : Prop := match b with
  | true => x ()
  | false => y ()
/-- a statement goes on (N), leaves with a value (R), or its loop (B, C), or raises (X) -/
structure Post where
  N : Env → Prop
  R : T → Env → Prop
  B : Env → Prop
  C : Env → Prop
  X : XP
@[irreducible] def OkF (f : Fl) (Q : Post) : Prop := match f with
  | .nx ρ => Q.N ρ
  | .rt t ρ => Q.R t ρ
  | .bk ρ => Q.B ρ
  | .ct ρ => Q.C ρ
  | .exc c x ρ => Q.X c x ρ
  | .bad => False
abbrev XR := Str → PyData → List (Option T) → Prop
abbrev noR : XR := fun _ _ _ => False
@[irreducible] def OkR (r : Rs) (Q : T → List (Option T) → Prop) (X : XR) : Prop := match r with
  | .ok t outs => Q t outs
  | .exc c x outs => X c x outs
  | .bad => False
theorem OkM.cg {α : Type} {o o' : Out α} {Q : α → Env → Prop} {X : XP} (h : o = o') : OkM o Q X = OkM o' Q X := by with_unfolding_all (rw [h])
theorem okO.cg {α : Type} {o o' : Option α} {Q : α → Prop} (h : o = o') : okO o Q = okO o' Q := by with_unfolding_all (rw [h])
theorem OkF.cg {f f' : Fl} {Q : Post} (h : f = f') : OkF f Q = OkF f' Q := by with_unfolding_all (rw [h])
theorem OkR.cg {f f' : Rs} {Q : T → List (Option T) → Prop} {X : XR} (h : f = f') : OkR f Q X = OkR f' Q X := by with_unfolding_all (rw [h])
section
variable {α β : Type} {ρ : Env} {X : XP}
theorem w_ok {a : α} {Q : α → Env → Prop} : OkM (.ok a ρ) Q X = Q a ρ := by with_unfolding_all rfl
theorem w_exc {c : Str} {x : PyData} {Q : α → Env → Prop} : OkM (.exc c x ρ) Q X = X c x ρ := by with_unfolding_all rfl
theorem w_bad {Q : α → Env → Prop} : OkM .bad Q X = False := by with_unfolding_all rfl
theorem w_some {a : α} {Q : α → Prop} : okO (some a) Q = Q a := by with_unfolding_all rfl
theorem w_none {Q : α → Prop} : okO none Q = False := by with_unfolding_all rfl
theorem w_obind {o : Option α} {f : α → Option β} {Q : β → Prop} : okO (o.bind f) Q = okO o fun a => okO (f a) Q := by with_unfolding_all (cases o <;> rfl)
theorem w_omap {o : Option α} {f : α → β} {Q : β → Prop} : okO (o.map f) Q = okO o fun a => Q (f a) := by with_unfolding_all (cases o <;> rfl)
theorem w_oite {c : Prop} [Decidable c] {a : α} {Q : α → Prop} : okO (if c then some a else none) Q = (c ∧ Q a) := by
  with_unfolding_all
    by_cases h : c
    · rw [if_pos h]; exact propext ⟨fun q => ⟨h, q⟩, fun q => q.2⟩
    · rw [if_neg h]; exact propext ⟨fun q => q.elim, fun q => h q.1⟩
theorem w_bind {m : M α} {f : α → M β} {Q : β → Env → Prop} : OkM (m.bind f ρ) Q X = OkM (m ρ) (fun a ρ' => OkM (f a ρ') Q X) X := by
  with_unfolding_all
    unfold M.bind; cases m ρ <;> rfl
theorem w_pure {a : α} {Q : α → Env → Prop} : OkM (M.pure a ρ) Q X = Q a ρ := by with_unfolding_all rfl
theorem w_lift {o : Option α} {Q : α → Env → Prop} : OkM (lift o ρ) Q X = okO o fun a => Q a ρ := by
  with_unfolding_all
    unfold lift; cases o <;> rfl
theorem w_brT {x y : Unit → Prop} : BR true x y = x () := by with_unfolding_all rfl
theorem w_brF {x y : Unit → Prop} : BR false x y = y () := by with_unfolding_all rfl
def andP (mt2 : M Bool) (Q : Bool → Env → Prop) (X : XP) (b : Bool) (ρ : Env) : Prop := BR b (fun _ => OkM (mt2 ρ) Q X) (fun _ => Q false ρ)
def orP (mt2 : M Bool) (Q : Bool → Env → Prop) (X : XP) (b : Bool) (ρ : Env) : Prop := BR b (fun _ => Q true ρ) (fun _ => OkM (mt2 ρ) Q X)
def eIfP (m1 m2 : M T) (Q : T → Env → Prop) (X : XP) (b : Bool) (ρ : Env) : Prop := BR b (fun _ => OkM (m1 ρ) Q X) (fun _ => OkM (m2 ρ) Q X)
def eAndP (m2 : M T) (Q : T → Env → Prop) (X : XP) (ρ : Env) (b : Bool) : Prop := BR b (fun _ => OkM (m2 ρ) Q X) (fun _ => Q (.d (.bool false)) ρ)
def eOrP (m2 : M T) (Q : T → Env → Prop) (X : XP) (ρ : Env) (b : Bool) : Prop := BR b (fun _ => Q (.d (.bool true)) ρ) (fun _ => OkM (m2 ρ) Q X)
def chP (g : T → T → Option T) (mc : M Opd) (o : Opd) (Q : T → Env → Prop) (X : XP) (ρ : Env) (k : Bool) : Prop :=
  BR k (fun _ => OkM (mc ρ) (fun c ρ3 => okO (res ρ3 o) fun y => okO (res ρ3 c) fun z => okO (g y z) fun t => Q t ρ3) X) (fun _ => Q (.d (.bool false)) ρ)
section
variable {mt2 : M Bool} {Q : Bool → Env → Prop} {X : XP} {ρ : Env} {m1 m2 : M T} {R : T → Env → Prop} {g : T → T → Option T} {mc : M Opd} {o : Opd}
theorem andP_T : andP mt2 Q X true ρ = OkM (mt2 ρ) Q X := by with_unfolding_all rfl
theorem andP_F : andP mt2 Q X false ρ = Q false ρ := by with_unfolding_all rfl
theorem orP_T : orP mt2 Q X true ρ = Q true ρ := by with_unfolding_all rfl
theorem orP_F : orP mt2 Q X false ρ = OkM (mt2 ρ) Q X := by with_unfolding_all rfl
theorem eIfP_T : eIfP m1 m2 R X true ρ = OkM (m1 ρ) R X := by with_unfolding_all rfl
theorem eIfP_F : eIfP m1 m2 R X false ρ = OkM (m2 ρ) R X := by with_unfolding_all rfl
theorem eAndP_T : eAndP m2 R X ρ true = OkM (m2 ρ) R X := by with_unfolding_all rfl
theorem eAndP_F : eAndP m2 R X ρ false = R (.d (.bool false)) ρ := by with_unfolding_all rfl
theorem eOrP_T : eOrP m2 R X ρ true = R (.d (.bool true)) ρ := by with_unfolding_all rfl
theorem eOrP_F : eOrP m2 R X ρ false = OkM (m2 ρ) R X := by with_unfolding_all rfl
theorem chP_T : chP g mc o R X ρ true = OkM (mc ρ) (fun c ρ3 => okO (res ρ3 o) fun y => okO (res ρ3 c) fun z => okO (g y z) fun t => R t ρ3) X := by with_unfolding_all rfl
theorem chP_F : chP g mc o R X ρ false = R (.d (.bool false)) ρ := by with_unfolding_all rfl
end
theorem w_br {b : Bool} {x y : Unit → Prop} (h1 : b = true → x ()) (h2 : b = false → y ()) : BR b x y := by
  with_unfolding_all
    cases b
    · exact h2 rfl
    · exact h1 rfl
end
section
variable {ρ : Env} {X : XP} {f : T → T → Option T} {ma mb mc mo : M Opd} {m m1 m2 : M T} {ms : M (List T)} {mos : M (List Opd)} {mt mt2 : M Bool}
theorem w_late {i : Nat} {Q : Opd → Env → Prop} : OkM (oLate i ρ) Q X = okO (slot ρ i) fun _ => Q (.inr i) ρ := by
  with_unfolding_all
    unfold oLate; cases slot ρ i <;> rfl
theorem w_oV {Q : Opd → Env → Prop} : OkM (oV m ρ) Q X = OkM (m ρ) (fun t ρ' => Q (.inl t) ρ') X := by
  with_unfolding_all
    unfold oV; refine w_bind.trans ?_; rfl
theorem w_op2 {Q : T → Env → Prop} : OkM (eOp2 f ma mb ρ) Q X = OkM (ma ρ) (fun a ρ1 => OkM (mb ρ1) (fun b ρ2 => okO (res ρ2 a) fun x => okO (res ρ2 b) fun y => okO (f x y) fun t => Q t ρ2) X) X := by
  with_unfolding_all
    unfold eOp2
    refine w_bind.trans ?_
    congr 1; funext a ρ1
    refine w_bind.trans ?_
    congr 1; funext b ρ2
    cases res ρ2 a with
    | none => rfl
    | some x =>
      cases res ρ2 b with
      | none => rfl
      | some y => exact w_lift
theorem w_op1 {f : T → Option T} {Q : T → Env → Prop} : OkM (eOp1 f ma ρ) Q X = OkM (ma ρ) (fun a ρ1 => okO (res ρ1 a) fun x => okO (f x) fun t => Q t ρ1) X := by
  with_unfolding_all
    unfold eOp1
    refine w_bind.trans ?_
    congr 1; funext a ρ1
    cases res ρ1 a with
    | none => rfl
    | some x => exact w_lift
theorem w_var {i : Nat} {Q : T → Env → Prop} : OkM (eVar i ρ) Q X = okO (ρ[i]?.join) fun c => okO c.1.share fun u => Q u (ρ.set i (some (u, c.2))) := by
  with_unfolding_all
    unfold eVar
    cases h : ρ[i]? with
    | none => rfl
    | some o =>
      cases o with
      | none => rfl
      | some c =>
        obtain ⟨t, b⟩ := c
        simp only [Option.join_some, w_some]
        cases t.share <;> rfl
theorem w_move {i : Nat} {Q : T → Env → Prop} : OkM (eMove i ρ) Q X = okO (ρ[i]?.join) fun c => Q c.1 (ρ.set i none) := by
  with_unfolding_all
    unfold eMove
    cases h : ρ[i]? with
    | none => rfl
    | some o =>
      cases o with
      | none => rfl
      | some c => rfl
theorem w_c {x : PyData} {Q : T → Env → Prop} : OkM (eC x ρ) Q X = Q (.d x) ρ := by with_unfolding_all rfl
theorem w_aNil {Q : List T → Env → Prop} : OkM (aNil ρ) Q X = Q [] ρ := by with_unfolding_all rfl
theorem w_aCons {Q : List T → Env → Prop} : OkM (aCons m ms ρ) Q X = OkM (m ρ) (fun t ρ1 => OkM (ms ρ1) (fun ts ρ2 => Q (t :: ts) ρ2) X) X := by
  with_unfolding_all
    unfold aCons; refine w_bind.trans ?_; congr 1; funext t ρ1; refine w_bind.trans ?_; rfl
theorem w_osNil {Q : List Opd → Env → Prop} : OkM (osNil ρ) Q X = Q [] ρ := by with_unfolding_all rfl
theorem w_osCons {Q : List Opd → Env → Prop} : OkM (osCons mo mos ρ) Q X = OkM (mo ρ) (fun t ρ1 => OkM (mos ρ1) (fun ts ρ2 => Q (t :: ts) ρ2) X) X := by
  with_unfolding_all
    unfold osCons; refine w_bind.trans ?_; congr 1; funext t ρ1; refine w_bind.trans ?_; rfl
theorem w_osApp {m2 : M (List Opd)} {Q : List Opd → Env → Prop} : OkM (osApp mos m2 ρ) Q X = OkM (mos ρ) (fun a ρ1 => OkM (m2 ρ1) (fun b ρ2 => Q (a ++ b) ρ2) X) X := by
  with_unfolding_all
    unfold osApp; refine w_bind.trans ?_; congr 1; funext t ρ1; refine w_bind.trans ?_; rfl
theorem w_tup {Q : T → Env → Prop} : OkM (eTup ms ρ) Q X = OkM (ms ρ) (fun ts ρ1 => small ts.length = true ∧ Q (mkTup ts) ρ1) X := by
  with_unfolding_all
    unfold eTup; refine w_bind.trans ?_; congr 1; funext ts ρ1; exact w_lift.trans w_oite
theorem w_lst {Q : T → Env → Prop} : OkM (eLst ms ρ) Q X = OkM (ms ρ) (fun ts ρ1 => small ts.length = true ∧ Q (.ol ts) ρ1) X := by
  with_unfolding_all
    unfold eLst; refine w_bind.trans ?_; congr 1; funext ts ρ1; exact w_lift.trans w_oite
theorem w_bTru {Q : Bool → Env → Prop} : OkM (bTru mo ρ) Q X = OkM (mo ρ) (fun o ρ1 => okO (res ρ1 o) fun t => okO (truT t) fun b => Q b ρ1) X := by
  with_unfolding_all
    unfold bTru; refine w_bind.trans ?_; congr 1; funext o ρ1; exact w_lift.trans w_obind
theorem w_bVal {Q : Bool → Env → Prop} : OkM (bVal m ρ) Q X = OkM (m ρ) (fun t ρ1 => okO (boolT t) fun b => Q b ρ1) X := by
  with_unfolding_all
    unfold bVal; refine w_bind.trans ?_; congr 1; funext o ρ1; exact w_lift
theorem w_bNot {Q : Bool → Env → Prop} : OkM (bNot mt ρ) Q X = OkM (mt ρ) (fun b ρ1 => Q (!b) ρ1) X := by
  with_unfolding_all
    unfold bNot; refine w_bind.trans ?_; rfl
theorem w_bAnd {Q : Bool → Env → Prop} : OkM (bAnd mt mt2 ρ) Q X = OkM (mt ρ) (andP mt2 Q X) X := by
  with_unfolding_all
    unfold bAnd; refine w_bind.trans ?_; congr 1; funext b ρ1; cases b <;> rfl
theorem w_bOr {Q : Bool → Env → Prop} : OkM (bOr mt mt2 ρ) Q X = OkM (mt ρ) (orP mt2 Q X) X := by
  with_unfolding_all
    unfold bOr; refine w_bind.trans ?_; congr 1; funext b ρ1; cases b <;> rfl
theorem w_eIf {Q : T → Env → Prop} : OkM (eIf mt m1 m2 ρ) Q X = OkM (mt ρ) (eIfP m1 m2 Q X) X := by
  with_unfolding_all
    unfold eIf; refine w_bind.trans ?_; congr 1; funext b ρ1; cases b <;> rfl
theorem w_eAnd {Q : T → Env → Prop} : OkM (eAnd m1 m2 ρ) Q X = OkM (m1 ρ) (fun t ρ1 => okO (boolT t) (eAndP m2 Q X ρ1)) X := by
  with_unfolding_all
    unfold eAnd; refine w_bind.trans ?_; congr 1; funext t ρ1; cases boolT t with
    | none => rfl
    | some b => cases b <;> rfl
theorem w_eOr {Q : T → Env → Prop} : OkM (eOr m1 m2 ρ) Q X = OkM (m1 ρ) (fun t ρ1 => okO (boolT t) (eOrP m2 Q X ρ1)) X := by
  with_unfolding_all
    unfold eOr; refine w_bind.trans ?_; congr 1; funext t ρ1; cases boolT t with
    | none => rfl
    | some b => cases b <;> rfl
theorem w_eNot {Q : T → Env → Prop} : OkM (eNot m ρ) Q X = OkM (m ρ) (fun t ρ1 => okO (boolT t) fun b => Q (.d (.bool (!b))) ρ1) X := by
  with_unfolding_all
    unfold eNot; refine w_bind.trans ?_; congr 1; funext t ρ1; exact w_lift.trans w_omap
theorem w_call {f : List T → Option T} {Q : T → Env → Prop} : OkM (eCall f mos ρ) Q X = OkM (mos ρ) (fun os ρ1 => okO (ress ρ1 os) fun ts => okO (f ts) fun t => Q t ρ1) X := by
  with_unfolding_all
    unfold eCall; refine w_bind.trans ?_; congr 1; funext os ρ1; cases ress ρ1 os with
    | none => rfl
    | some ts => exact w_lift
theorem w_chain {f g : T → T → Option T} {Q : T → Env → Prop} : OkM (eChain f g ma mb mc ρ) Q X = OkM (ma ρ) (fun a ρ1 => OkM (mb ρ1) (fun b ρ2 => okO (res ρ2 a) fun x => okO (res ρ2 b) fun y => okO ((f x y).bind boolT) (chP g mc b Q X ρ2)) X) X := by
  with_unfolding_all
    unfold eChain
    refine w_bind.trans ?_; congr 1; funext a ρ1
    refine w_bind.trans ?_; congr 1; funext b ρ2
    cases res ρ2 a with
    | none => rfl
    | some x =>
      cases res ρ2 b with
      | none => rfl
      | some y =>
        simp only [w_some]
        cases (f x y).bind boolT with
        | none => rfl
        | some k =>
          cases k with
          | false => rfl
          | true =>
            simp only [w_some, w_brT]
            refine w_bind.trans ?_
            congr 1; funext c ρ3
            cases res ρ3 b with
            | none => rfl
            | some y =>
              cases res ρ3 c with
              | none => rfl
              | some z => exact w_lift
theorem w_eMut0 {f : T → List T → Option (T × T)} {i : Nat} {ts : List T} {Q : T → Env → Prop} (h : slot ρ i = some (.ol ts)) : OkM (eMut f i ms ρ) Q X = OkM (ms ρ) (fun as ρ1 => okO (ρ1[i]?.join) fun c => okO (f c.1 as) fun p => Q p.2 (ρ1.set i (some (p.1, c.2)))) X := by
  with_unfolding_all
    unfold eMut
    rw [h]
    show OkM (M.bind ms _ ρ) Q X = _
    refine w_bind.trans ?_; congr 1; funext as ρ1
    cases ρ1[i]? with
    | none => rfl
    | some o =>
      cases o with
      | none => rfl
      | some c =>
        obtain ⟨t, b⟩ := c
        show OkM (match f t as with | some (t', r) => _ | none => _) Q X = _
        simp only [Option.join_some, w_some]
        cases f t as with
        | none => rfl
        | some p => rfl
theorem w_eMut {f : T → List T → Option (T × T)} {i : Nat} {Q : T → Env → Prop} : OkM (eMut f i ms ρ) Q X = okO ((slot ρ i).bind olOf) fun _ => OkM (ms ρ) (fun as ρ1 => okO (ρ1[i]?.join) fun c => okO (f c.1 as) fun p => Q p.2 (ρ1.set i (some (p.1, c.2)))) X := by
  with_unfolding_all
    cases h : slot ρ i with
    | none => unfold eMut; rw [h]; rfl
    | some t =>
      cases t with
      | ol ts => exact w_eMut0 h
      | _ => unfold eMut; rw [h]; rfl
theorem w_fun {fn : List T → Rs} {Q : T → Env → Prop} : OkM (eFun fn mos ρ) Q X = OkM (mos ρ) (fun os ρ1 => okO (takeAll os ρ1) fun p => OkR (fn p.1) (fun τ outs => Q τ (putAll ρ1 os outs p.2)) (fun c x outs => X c x (putAll ρ1 os outs p.2))) X := by
  with_unfolding_all
    unfold eFun; refine w_bind.trans ?_; congr 1; funext os ρ1
    cases takeAll os ρ1 with
    | none => rfl
    | some p =>
      obtain ⟨ts, ρ2⟩ := p
      simp only [w_some]
      cases fn ts <;> rfl
theorem w_funB {bs : List Bool} {fn : List T → Rs} {Q : T → Env → Prop} : OkM (eFunB bs fn mos ρ) Q X = OkM (mos ρ) (fun os ρ1 => okO (takeB bs os ρ1) fun p => OkR (fn p.1) (fun τ outs => (T.cl τ && clB bs outs) = true ∧ Q τ (putB ρ1 bs os outs p.2)) (fun c x outs => clB bs outs = true ∧ X c x (putB ρ1 bs os outs p.2))) X := by
  with_unfolding_all
    unfold eFunB; refine w_bind.trans ?_; congr 1; funext os ρ1
    cases takeB bs os ρ1 with
    | none => rfl
    | some p =>
      obtain ⟨ts, ρ2⟩ := p
      simp only [w_some]
      cases fn ts with
      | bad => rfl
      | ok τ outs =>
        show OkM (if (T.cl τ && clB bs outs) = true then _ else _) Q X = (_ ∧ _)
        by_cases h : (T.cl τ && clB bs outs) = true
        · rw [if_pos h]; exact propext ⟨fun q => ⟨h, q⟩, fun q => q.2⟩
        · rw [if_neg h]; exact propext ⟨fun q => q.elim, fun q => h q.1⟩
      | exc c x outs =>
        show OkM (if clB bs outs = true then _ else _) Q X = (_ ∧ _)
        by_cases h : clB bs outs = true
        · rw [if_pos h]; exact propext ⟨fun q => ⟨h, q⟩, fun q => q.2⟩
        · rw [if_neg h]; exact propext ⟨fun q => q.elim, fun q => h q.1⟩
theorem w_sl {ml mh : M (Option Int)} {Q : T → Env → Prop} : OkM (eSl mo ml mh ρ) Q X = OkM (mo ρ) (fun o ρ1 => OkM (ml ρ1) (fun l ρ2 => OkM (mh ρ2) (fun h ρ3 => okO (res ρ3 o) fun t => okO (sliceT l h t) fun u => Q u ρ3) X) X) X := by
  with_unfolding_all
    unfold eSl; refine w_bind.trans ?_; congr 1; funext o ρ1; refine w_bind.trans ?_; congr 1; funext l ρ2; refine w_bind.trans ?_; congr 1; funext h ρ3
    cases res ρ3 o with
    | none => rfl
    | some t => exact w_lift
theorem w_pNo {Q : Option Int → Env → Prop} : OkM (pNo ρ) Q X = Q none ρ := by with_unfolding_all rfl
theorem w_pAt {Q : Option Int → Env → Prop} : OkM (pAt mo ρ) Q X = OkM (mo ρ) (fun o ρ1 => okO ((res ρ1 o).bind intOf) fun i => Q (some i) ρ1) X := by
  with_unfolding_all
    unfold pAt; refine w_bind.trans ?_; congr 1; funext o ρ1
    cases (res ρ1 o).bind intOf <;> rfl
end
section
variable {ρ : Env} {Q : Post} {m : M T} {mt : M Bool} {s1 s2 : Env → Fl} {g : T → Env → Option Env} {ms : M (List T)} {mo : M Opd}
def ifP (s1 s2 : Env → Fl) (Q : Post) (b : Bool) (ρ : Env) : Prop := BR b (fun _ => OkF (s1 ρ) Q) (fun _ => OkF (s2 ρ) Q)
theorem ifP_T : ifP s1 s2 Q true ρ = OkF (s1 ρ) Q := by with_unfolding_all rfl
theorem ifP_F : ifP s1 s2 Q false ρ = OkF (s2 ρ) Q := by with_unfolding_all rfl
def runP (n : Nat) (Q : T → List (Option T) → Prop) (X : XR) : Post := ⟨fun ρ => Q (.d .none) (outsE n ρ), fun t ρ => Q t (outsE n ρ), fun _ => False, fun _ => False, fun c x ρ => X c x (outsE n ρ)⟩
theorem rn_N {n : Nat} {Q : T → List (Option T) → Prop} {X : XR} : (runP n Q X).N ρ = Q (.d .none) (outsE n ρ) := rfl
theorem rn_R {n : Nat} {Q : T → List (Option T) → Prop} {X : XR} {t : T} : (runP n Q X).R t ρ = Q t (outsE n ρ) := rfl
theorem rn_B {n : Nat} {Q : T → List (Option T) → Prop} {X : XR} : (runP n Q X).B ρ = False := rfl
theorem rn_C {n : Nat} {Q : T → List (Option T) → Prop} {X : XR} : (runP n Q X).C ρ = False := rfl
theorem rn_X {n : Nat} {Q : T → List (Option T) → Prop} {X : XR} {c : Str} {x : PyData} : (runP n Q X).X c x ρ = X c x (outsE n ρ) := rfl
theorem w_run {nN n : Nat} {s : Env → Fl} {ts : List T} {Q : T → List (Option T) → Prop} {X : XR} : OkR (runF nN n s ts) Q X = OkF (s (startE nN ts)) (runP n Q X) := by
  with_unfolding_all
    unfold runF; cases s (startE nN ts) <;> rfl
theorem w_nx : OkF (.nx ρ) Q = Q.N ρ := by with_unfolding_all rfl
theorem w_rt {t : T} : OkF (.rt t ρ) Q = Q.R t ρ := by with_unfolding_all rfl
theorem w_bk : OkF (.bk ρ) Q = Q.B ρ := by with_unfolding_all rfl
theorem w_ct : OkF (.ct ρ) Q = Q.C ρ := by with_unfolding_all rfl
theorem w_xc {c : Str} {x : PyData} : OkF (.exc c x ρ) Q = Q.X c x ρ := by with_unfolding_all rfl
/-- what follows -/
def seqP (s2 : Env → Fl) (Q : Post) : Post := ⟨fun ρ' => OkF (s2 ρ') Q, Q.R, Q.B, Q.C, Q.X⟩
theorem sqN (h : OkF (s2 ρ) Q) : (seqP s2 Q).N ρ := h
theorem sq_N : (seqP s2 Q).N ρ = OkF (s2 ρ) Q := by with_unfolding_all rfl
theorem sq_R : (seqP s2 Q).R = Q.R := by with_unfolding_all rfl
theorem sq_B : (seqP s2 Q).B = Q.B := by with_unfolding_all rfl
theorem sq_C : (seqP s2 Q).C = Q.C := by with_unfolding_all rfl
theorem sq_X : (seqP s2 Q).X = Q.X := by with_unfolding_all rfl
def killP (ks : List Nat) (Q : Post) : Post := ⟨fun ρ' => Q.N (killE ks ρ'), Q.R, Q.B, Q.C, Q.X⟩
theorem kp_N {ks : List Nat} : (killP ks Q).N ρ = Q.N (killE ks ρ) := rfl
theorem kp_R {ks : List Nat} : (killP ks Q).R = Q.R := rfl
theorem kp_B {ks : List Nat} : (killP ks Q).B = Q.B := rfl
theorem kp_C {ks : List Nat} : (killP ks Q).C = Q.C := rfl
theorem kp_X {ks : List Nat} : (killP ks Q).X = Q.X := rfl
theorem w_seq : OkF (sSeq s1 s2 ρ) Q = OkF (s1 ρ) (seqP s2 Q) := by
  with_unfolding_all
    unfold sSeq; cases s1 ρ <;> rfl
theorem w_nil : OkF (sNil ρ) Q = Q.N ρ := by with_unfolding_all rfl
theorem w_kill {ks : List Nat} : OkF (sKill ks s1 ρ) Q = OkF (s1 ρ) (killP ks Q) := by
  with_unfolding_all
    unfold sKill; cases s1 ρ <;> rfl
theorem w_asg : OkF (sAsg g m ρ) Q = OkM (m ρ) (fun t ρ1 => okO (g t ρ1) Q.N) Q.X := by
  with_unfolding_all
    unfold sAsg; cases m ρ with
    | ok t ρ1 => show OkF (match g t ρ1 with | some ρ2 => _ | none => _) Q = okO (g t ρ1) Q.N; cases g t ρ1 <;> rfl
    | _ => rfl
theorem w_expr : OkF (sExpr m ρ) Q = OkM (m ρ) (fun _ ρ1 => Q.N ρ1) Q.X := by
  with_unfolding_all
    unfold sExpr; cases m ρ <;> rfl
theorem w_ret : OkF (sRet m ρ) Q = OkM (m ρ) (fun t ρ1 => Q.R t ρ1) Q.X := by
  with_unfolding_all
    unfold sRet; cases m ρ <;> rfl
theorem w_retN : OkF (sRetN ρ) Q = Q.R (.d .none) ρ := by with_unfolding_all rfl
theorem w_if : OkF (sIf mt s1 s2 ρ) Q = OkM (mt ρ) (ifP s1 s2 Q) Q.X := by
  with_unfolding_all
    unfold sIf; cases mt ρ with
    | ok b ρ1 => cases b <;> rfl
    | _ => rfl
theorem w_setI {i : Nat} : OkF (sSetI i m mo ρ) Q = okO (slot ρ i) fun _ => OkM (m ρ) (fun t ρ1 => OkM (mo ρ1) (fun o ρ2 => okO (ρ2[i]?.join) fun c => okO (olOf c.1) fun ts => okO ((res ρ2 o).bind intOf) fun k => okO (L2.ixN ts.length k) fun j => Q.N (ρ2.set i (some (.ol (ts.set j t), c.2)))) Q.X) Q.X := by
  with_unfolding_all
    unfold sSetI
    cases slot ρ i with
    | none => rfl
    | some t0 =>
      show OkF (match m ρ with | .ok t ρ1 => _ | .exc c x ρ1 => _ | .bad => _) Q = OkM (m ρ) _ _
      cases m ρ with
      | bad => rfl
      | exc c x ρ1 => rfl
      | ok t ρ1 =>
        show OkF (match mo ρ1 with | .ok t ρ1 => _ | .exc c x ρ1 => _ | .bad => _) Q = OkM (mo ρ1) _ _
        cases mo ρ1 with
        | bad => rfl
        | exc c x ρ1 => rfl
        | ok o ρ2 =>
          show OkF (match ρ2[i]?, res ρ2 o with | some (some (.ol ts, b)), some (.d (.int k)) => _ | _, _ => _) Q = okO (ρ2[i]?.join) _
          cases ρ2[i]? with
          | none => rfl
          | some c =>
            cases c with
            | none => rfl
            | some c =>
              obtain ⟨t', b⟩ := c
              cases t' with
              | ol ts =>
                cases res ρ2 o with
                | none => rfl
                | some r =>
                  cases r with
                  | d x =>
                    cases x with
                    | int k =>
                      show OkF (match L2.ixN ts.length k with | some j => _ | none => _) Q = okO (L2.ixN ts.length k) _
                      cases L2.ixN ts.length k <;> rfl
                    | _ => rfl
                  | _ => rfl
              | _ => rfl
theorem w_par2 {i j : Nat} : OkF (sPar2 i j ms ρ) Q = OkM (ms ρ) (fun ts ρ1 => okO (match ts with | [t, u] => some (t, u) | _ => none) fun p => Q.N ((ρ1.set i (some (p.1, false))).set j (some (p.2, false)))) Q.X := by
  with_unfolding_all
    unfold sPar2
    cases ms ρ with
    | ok ts ρ1 =>
      match ts with
      | [] => rfl
      | [_] => rfl
      | [_, _] => rfl
      | _ :: _ :: _ :: _ => rfl
    | _ => rfl
theorem w_par3 {i j l : Nat} : OkF (sPar3 i j l ms ρ) Q = OkM (ms ρ) (fun ts ρ1 => okO (match ts with | [t, u, w] => some (t, u, w) | _ => none) fun p => Q.N (((ρ1.set i (some (p.1, false))).set j (some (p.2.1, false))).set l (some (p.2.2, false)))) Q.X := by
  with_unfolding_all
    unfold sPar3
    cases ms ρ with
    | ok ts ρ1 =>
      match ts with
      | [] => rfl
      | [_] => rfl
      | [_, _] => rfl
      | [_, _, _] => rfl
      | _ :: _ :: _ :: _ :: _ => rfl
    | _ => rfl
theorem w_raise {c : Str} : OkF (sRaise c m ρ) Q = OkM (m ρ) (fun t ρ1 => okO (dOf t) fun x => Q.X c x ρ1) Q.X := by
  with_unfolding_all
    unfold sRaise
    cases m ρ with
    | ok t ρ1 => show OkF (match dOf t with | some x => _ | none => _) Q = okO (dOf t) _; cases dOf t <;> rfl
    | _ => rfl
theorem w_fld {i : Nat} {c f : Str} : OkF (sFld i c f m ρ) Q = OkM (m ρ) (fun t ρ1 => okO (ρ1[i]?.join) fun k => okO (match k.1 with | .oi c' fs => (if c' = c ∧ fs.length < 1000 then some (T.oi c' (putT f t fs)) else none) | _ => none) fun u => Q.N (ρ1.set i (some (u, k.2)))) Q.X := by
  with_unfolding_all
    unfold sFld
    cases m ρ with
    | bad => rfl
    | exc c x ρ1 => rfl
    | ok t ρ1 =>
      show OkF (match ρ1[i]? with | some (some (.oi c' fs, b)) => _ | _ => _) Q = okO (ρ1[i]?.join) _
      cases ρ1[i]? with
      | none => rfl
      | some k =>
        cases k with
        | none => rfl
        | some k =>
          obtain ⟨u, b⟩ := k
          cases u with
          | oi c' fs =>
            show OkF (if c' = c ∧ fs.length < 1000 then _ else _) Q = okO (if c' = c ∧ fs.length < 1000 then _ else _) _
            by_cases h : c' = c ∧ fs.length < 1000
            · rw [if_pos h, if_pos h]; rfl
            · rw [if_neg h, if_neg h]; rfl
          | _ => rfl
def tryP (es : List Str) (cl : List Clause) (Q : Post) : Post := ⟨Q.N, Q.R, Q.B, Q.C, fun c x ρ' => OkF (handle es c x ρ' cl) Q⟩
theorem ty_N {es : List Str} {cl : List Clause} : (tryP es cl Q).N = Q.N := rfl
theorem ty_R {es : List Str} {cl : List Clause} : (tryP es cl Q).R = Q.R := rfl
theorem ty_B {es : List Str} {cl : List Clause} : (tryP es cl Q).B = Q.B := rfl
theorem ty_C {es : List Str} {cl : List Clause} : (tryP es cl Q).C = Q.C := rfl
theorem ty_X {es : List Str} {cl : List Clause} {c : Str} {x : PyData} : (tryP es cl Q).X c x ρ = OkF (handle es c x ρ cl) Q := rfl
def wipeP (i : Nat) (Q : Post) : Post := ⟨fun ρ => Q.N (ρ.set i none), Q.R, fun ρ => Q.B (ρ.set i none), fun ρ => Q.C (ρ.set i none), fun _ _ _ => False⟩
theorem wp_N {i : Nat} : (wipeP i Q).N ρ = Q.N (ρ.set i none) := rfl
theorem wp_R {i : Nat} : (wipeP i Q).R = Q.R := rfl
theorem wp_B {i : Nat} : (wipeP i Q).B ρ = Q.B (ρ.set i none) := rfl
theorem wp_C {i : Nat} : (wipeP i Q).C ρ = Q.C (ρ.set i none) := rfl
theorem h_hit {es : List Str} {c : Str} {x : PyData} {k : Str} {i : Nat} {ms : PyData → Env → Fl} {r : List Clause} (h : c ∈ es ∧ k ∈ es) (h2 : subE c k = true) : handle es c x ρ ((k, i, ms) :: r) = wipeF i (ms x (ρ.set i none)) := by
  unfold handle
  rw [if_pos h, if_pos h2]
theorem h_miss {es : List Str} {c : Str} {x : PyData} {k : Str} {i : Nat} {ms : PyData → Env → Fl} {r : List Clause} (h : c ∈ es ∧ k ∈ es) (h2 : subE c k = false) : handle es c x ρ ((k, i, ms) :: r) = handle es c x ρ r := by
  conv => lhs; unfold handle
  rw [if_pos h, h2, if_neg Bool.false_ne_true]
theorem w_try {es : List Str} {cl : List Clause} : OkF (sTry es s1 cl ρ) Q = OkF (s1 ρ) (tryP es cl Q) := by
  with_unfolding_all
    unfold sTry; cases s1 ρ <;> rfl
theorem w_wipe {i : Nat} {f : Fl} : OkF (wipeF i f) Q = OkF f (wipeP i Q) := by
  with_unfolding_all
    cases f <;> rfl
def turnP (ks : List Nat) (Q : Post) : Post := ⟨fun ρ => Q.N (killE ks ρ), Q.R, fun ρ => Q.B (killE ks ρ), fun ρ => Q.C (killE ks ρ), Q.X⟩
theorem tp_N {ks : List Nat} : (turnP ks Q).N ρ = Q.N (killE ks ρ) := rfl
theorem tp_R {ks : List Nat} : (turnP ks Q).R = Q.R := rfl
theorem tp_B {ks : List Nat} : (turnP ks Q).B ρ = Q.B (killE ks ρ) := rfl
theorem tp_C {ks : List Nat} : (turnP ks Q).C ρ = Q.C (killE ks ρ) := rfl
theorem tp_X {ks : List Nat} : (turnP ks Q).X = Q.X := rfl
theorem w_kl {ks : List Nat} {f : Fl} : OkF (kl ks f) Q = OkF f (turnP ks Q) := by
  with_unfolding_all
    cases f <;> rfl
/-! ### loops -/
/-- one turn: t is stored, the body runs -/
abbrev turnF (ks : List Nat) (g : T → Env → Option Env) (body : Env → Fl) (t : T) (ρ : Env) : Fl := kl ks (match g t ρ with
  | some ρ2 => body ρ2
  | none => .bad)
theorem w_turn {ks : List Nat} {body : Env → Fl} {t : T} : OkF (turnF ks g body t ρ) Q = okO (g t ρ) fun ρ2 => OkF (body ρ2) (turnP ks Q) := by
  with_unfolding_all
    unfold turnF
    rw [w_kl]
    cases g t ρ <;> rfl
theorem w_forR {b : T → Env → Fl} (I : List T → List T → Env → Prop) : ∀ {ts ds : List T} {ρ : Env}, I ds ts ρ → (∀ ds t ts ρ, I ds (t :: ts) ρ → OkF (b t ρ) ⟨I (ds ++ [t]) ts, Q.R, Q.N, I (ds ++ [t]) ts, Q.X⟩) → (∀ ds ρ, I ds [] ρ → Q.N ρ) → OkF (forR b ts ρ) Q
  | [], ds, ρ, h, _, e => by with_unfolding_all exact e ds ρ h
  | t :: ts, ds, ρ, h, s, e => by
    with_unfolding_all
      have k := s ds t ts ρ h
      unfold forR
      cases q : b t ρ with
      | nx ρ' => rw [q] at k; exact w_forR I (ts := ts) k s e
      | ct ρ' => rw [q] at k; exact w_forR I (ts := ts) k s e
      | bk ρ' => rw [q] at k; exact k
      | rt t ρ' => rw [q] at k; exact k
      | exc c x ρ' => rw [q] at k; exact k
      | bad => rw [q] at k; exact k
/-- a for: I tells what holds where these items are behind, those are to come -/
theorem w_for {ks : List Nat} {mi : M (List T)} {body : Env → Fl} (I : List T → List T → Env → Prop) (h : OkM (mi ρ) (fun ts ρ1 => I [] ts ρ1) Q.X)
    (s : ∀ ds t ts ρ, I ds (t :: ts) ρ → OkF (turnF ks g body t ρ) ⟨I (ds ++ [t]) ts, Q.R, Q.N, I (ds ++ [t]) ts, Q.X⟩) (e : ∀ ds ρ, I ds [] ρ → Q.N ρ) : OkF (sFor ks mi g body ρ) Q := by
  with_unfolding_all
    unfold sFor
    cases q : mi ρ with
    | ok ts ρ1 => rw [q] at h; exact w_forR I h s e
    | exc c x ρ1 => rw [q] at h; exact h
    | bad => rw [q] at h; exact h
theorem w_while {ks : List Nat} {c : M Bool} {body : Env → Fl} (I : Nat → Env → Prop) : ∀ {n : Nat} {ρ : Env}, I n ρ → (∀ n ρ, I n ρ → OkM (c ρ) (fun b ρ1 => BR b (fun _ => OkF (kl ks (body ρ1)) ⟨fun ρ2 => ∃ m, m < n ∧ I m ρ2, Q.R, Q.N, fun ρ2 => ∃ m, m < n ∧ I m ρ2, Q.X⟩) (fun _ => Q.N ρ1)) Q.X) → OkF (sWhile ks c body ρ) Q := by
  with_unfolding_all
    intro n
    induction n using Nat.strongRecOn with
    | ind n ih =>
      intro ρ h s
      have k := s n ρ h
      rw [sWhile_eq]
      cases q : c ρ with
      | bad => rw [q] at k; exact k
      | exc cl x ρ1 => rw [q] at k; exact k
      | ok b ρ1 =>
        rw [q] at k
        cases b with
        | false => exact k
        | true =>
          have k : OkF (kl ks (body ρ1)) _ := k
          show OkF (match kl ks (body ρ1) with | .nx ρ2 => _ | .ct ρ2 => _ | .bk ρ2 => _ | f => f) Q
          cases q2 : kl ks (body ρ1) with
          | nx ρ2 => rw [q2] at k; obtain ⟨m, hm, hI⟩ := (show ∃ m, m < n ∧ I m ρ2 from k); exact ih m hm hI s
          | ct ρ2 => rw [q2] at k; obtain ⟨m, hm, hI⟩ := (show ∃ m, m < n ∧ I m ρ2 from k); exact ih m hm hI s
          | bk ρ2 => rw [q2] at k; exact k
          | rt t ρ2 => rw [q2] at k; exact k
          | exc cl x ρ2 => rw [q2] at k; exact k
          | bad => rw [q2] at k; exact k
/-- one statement, then the rest by what it leaves -/
def midP (N : Env → Prop) (Q : Post) : Post := ⟨N, Q.R, Q.B, Q.C, Q.X⟩
theorem md_N {N : Env → Prop} : (midP N Q).N ρ = N ρ := rfl
theorem md_R {N : Env → Prop} : (midP N Q).R = Q.R := rfl
theorem md_B {N : Env → Prop} : (midP N Q).B = Q.B := rfl
theorem md_C {N : Env → Prop} : (midP N Q).C = Q.C := rfl
theorem md_X {N : Env → Prop} : (midP N Q).X = Q.X := rfl
theorem m_flow {f : Fl} (N : Env → Prop) (h : OkF f (midP N Q)) (k : ∀ ρ', N ρ' → OkF (s2 ρ') Q) : OkF f (seqP s2 Q) := by
  with_unfolding_all
    cases f with
    | nx ρ' => exact k ρ' h
    | rt t ρ' => exact h
    | bk ρ' => exact h
    | ct ρ' => exact h
    | exc c x ρ' => exact h
    | bad => exact h
theorem m_flowk {f : Fl} {ks : List Nat} (N : Env → Prop) (h : OkF f (killP ks (midP N Q))) (k : ∀ ρ', N ρ' → OkF (s2 ρ') Q) : OkF f (killP ks (seqP s2 Q)) := by
  with_unfolding_all
    cases f with
    | nx ρ' => exact k _ h
    | rt t ρ' => exact h
    | bk ρ' => exact h
    | ct ρ' => exact h
    | exc c x ρ' => exact h
    | bad => exact h
theorem m_seq (N : Env → Prop) (h : OkF (s1 ρ) (midP N Q)) (k : ∀ ρ', N ρ' → OkF (s2 ρ') Q) : OkF (s1 ρ) (seqP s2 Q) := m_flow N h k
theorem m_seqk {ks : List Nat} (N : Env → Prop) (h : OkF (s1 ρ) (killP ks (midP N Q))) (k : ∀ ρ', N ρ' → OkF (s2 ρ') Q) : OkF (s1 ρ) (killP ks (seqP s2 Q)) := m_flowk N h k
theorem w_if2 {b : Bool} (h1 : b = true → OkF (s1 ρ) Q) (h2 : b = false → OkF (s2 ρ) Q) : ifP s1 s2 Q b ρ := by
  with_unfolding_all
    cases b
    · exact h2 rfl
    · exact h1 rfl
theorem m_if {s3 : Env → Fl} {b : Bool} (N : Env → Prop) (h1 : b = true → OkF (s1 ρ) (midP N Q)) (h2 : b = false → OkF (s2 ρ) (midP N Q)) (k : ∀ ρ', N ρ' → OkF (s3 ρ') Q) : ifP s1 s2 (seqP s3 Q) b ρ :=
  w_if2 (fun e => m_flow N (h1 e) k) fun e => m_flow N (h2 e) k
theorem m_ifk {s3 : Env → Fl} {b : Bool} {ks : List Nat} (N : Env → Prop) (h1 : b = true → OkF (s1 ρ) (killP ks (midP N Q))) (h2 : b = false → OkF (s2 ρ) (killP ks (midP N Q))) (k : ∀ ρ', N ρ' → OkF (s3 ρ') Q) : ifP s1 s2 (killP ks (seqP s3 Q)) b ρ :=
  w_if2 (fun e => m_flowk N (h1 e) k) fun e => m_flowk N (h2 e) k
theorem w_mid' (N : Env → Prop) (h : OkF (s1 ρ) ⟨N, Q.R, Q.B, Q.C, Q.X⟩) (k : ∀ ρ', N ρ' → OkF (s2 ρ') Q) : OkF (s1 ρ) (seqP s2 Q) := by
  with_unfolding_all
    cases e : s1 ρ with
    | nx ρ' => rw [e] at h; exact k ρ' h
    | rt t ρ' => rw [e] at h; exact h
    | bk ρ' => rw [e] at h; exact h
    | ct ρ' => rw [e] at h; exact h
    | exc c x ρ' => rw [e] at h; exact h
    | bad => rw [e] at h; exact h
theorem w_mid (N : Env → Prop) (h : OkF (s1 ρ) ⟨N, Q.R, Q.B, Q.C, Q.X⟩) (k : ∀ ρ', N ρ' → OkF (s2 ρ') Q) : OkF (sSeq s1 s2 ρ) Q := by
  with_unfolding_all
    rw [w_seq]
    cases e : s1 ρ with
    | nx ρ' => rw [e] at h; exact k ρ' h
    | rt t ρ' => rw [e] at h; exact h
    | bk ρ' => rw [e] at h; exact h
    | ct ρ' => rw [e] at h; exact h
    | exc c x ρ' => rw [e] at h; exact h
    | bad => rw [e] at h; exact h
end
/-! ### comprehensions -/
section
variable {ρ : Env} {X : XP} {g : T → Env → Option Env} {tt : M Bool} {te : M T}
theorem w_compR {ks : List Nat} {Q : List T → Env → Prop} (I : List T → List T → List T → Env → Prop) : ∀ {ts ds acc : List T} {ρ : Env}, I ds ts acc ρ →
    (∀ ds t ts acc ρ, I ds (t :: ts) acc ρ → okO (g t ρ) fun ρ1 => OkM (tt ρ1) (fun b ρ2 => BR b (fun _ => OkM (te ρ2) (fun y ρ3 => small (acc.length + 1) = true ∧ I (ds ++ [t]) ts (acc ++ [y]) (killE ks ρ3)) noX) (fun _ => I (ds ++ [t]) ts acc (killE ks ρ2))) noX) →
    (∀ ds acc ρ, I ds [] acc ρ → Q acc ρ) → okO (compR ks g tt te ts ρ acc) fun p => Q p.1 p.2
  | [], ds, acc, ρ, h, _, e => by with_unfolding_all exact e ds acc ρ h
  | t :: ts, ds, acc, ρ, h, s, e => by
    with_unfolding_all
      have k := s ds t ts acc ρ h
      unfold compR
      cases q : g t ρ with
      | none => rw [q] at k; exact k
      | some ρ1 =>
        rw [q] at k
        have k : OkM (tt ρ1) _ noX := k
        show okO (match tt ρ1 with | .ok false ρ2 => _ | .ok true ρ2 => _ | _ => _) _
        cases q2 : tt ρ1 with
        | bad => rw [q2] at k; exact k
        | exc c x ρ2 => rw [q2] at k; exact k
        | ok b ρ2 =>
          rw [q2] at k
          cases b with
          | false => exact w_compR I (ts := ts) k s e
          | true =>
            have k : OkM (te ρ2) _ noX := k
            show okO (match te ρ2 with | .ok y ρ3 => _ | _ => _) _
            cases q3 : te ρ2 with
            | bad => rw [q3] at k; exact k
            | exc c x ρ3 => rw [q3] at k; exact k
            | ok y ρ3 =>
              rw [q3] at k
              obtain ⟨k1, k2⟩ := (show small (acc.length + 1) = true ∧ I (ds ++ [t]) ts (acc ++ [y]) (killE ks ρ3) from k)
              show okO (if small (acc.length + 1) then _ else _) _
              rw [if_pos k1]
              exact w_compR I (ts := ts) k2 s e
theorem w_comp {ks : List Nat} {mi : M (List T)} {Q : T → Env → Prop} (I : List T → List T → List T → Env → Prop) (h : OkM (mi ρ) (fun ts ρ1 => I [] ts [] (killE ks ρ1)) X)
    (s : ∀ ds t ts acc ρ, I ds (t :: ts) acc ρ → okO (g t ρ) fun ρ1 => OkM (tt ρ1) (fun b ρ2 => BR b (fun _ => OkM (te ρ2) (fun y ρ3 => small (acc.length + 1) = true ∧ I (ds ++ [t]) ts (acc ++ [y]) (killE ks ρ3)) noX) (fun _ => I (ds ++ [t]) ts acc (killE ks ρ2))) noX)
    (e : ∀ ds acc ρ, I ds [] acc ρ → Q (.ol acc) ρ) : OkM (eComp ks mi g tt te ρ) Q X := by
  with_unfolding_all
    unfold eComp M.bind
    cases q : mi ρ with
    | bad => rw [q] at h; exact h
    | exc c x ρ1 => rw [q] at h; exact h
    | ok ts ρ1 =>
      rw [q] at h
      have k := w_compR (Q := fun acc ρ => Q (.ol acc) ρ) I h s e
      show OkM (match compR ks g tt te ts (killE ks ρ1) [] with | some (acc, ρ') => _ | none => _) Q X
      cases q2 : compR ks g tt te ts (killE ks ρ1) [] with
      | none => rw [q2] at k; exact k
      | some p => rw [q2] at k; exact k
end
end FL

set_option Elab.async false
set_option linter.all false
set_option maxRecDepth 100000
namespace FL
open PySem

/-! ### environments, values -/
section
variable {ρ : Env} {o : Option Cell} {t : T} {b : Bool} {i : Nat}
theorem v_slot0 : slot (some (t, b) :: ρ) 0 = some t := rfl
theorem v_slotN : slot (none :: ρ) 0 = none := rfl
theorem v_slotS : slot (o :: ρ) (i + 1) = slot ρ i := rfl
theorem v_resL : res ρ (.inl t) = some t := rfl
theorem v_resR : res ρ (.inr i) = slot ρ i := rfl
theorem v_ressN : ress ρ [] = some [] := rfl
theorem v_ressC {x : Opd} {xs : List Opd} : ress ρ (x :: xs) = (res ρ x).bind fun t => (ress ρ xs).map fun ts => t :: ts := rfl
theorem v_killN : killE [] ρ = ρ := rfl
theorem v_killC {k : Nat} {ks : List Nat} : killE (k :: ks) ρ = killE ks (ρ.set k none) := rfl
theorem v_takeN : takeAll [] ρ = some ([], ρ) := rfl
theorem v_takeL {os : List Opd} : takeAll (.inl t :: os) ρ = (takeAll os ρ).map fun p => (t :: p.1, p.2) := rfl
theorem v_takeR {os : List Opd} : takeAll (.inr i :: os) ρ = (ρ[i]?.join).bind fun c => (takeAll os (ρ.set i none)).map fun p => (c.1 :: p.1, p.2) := by
  simp only [takeAll]
  cases ρ[i]? with
  | none => rfl
  | some c =>
    cases c with
    | none => rfl
    | some c => rfl
theorem v_flag : flag ρ i = (match ρ[i]?.join with | some c => c.2 | none => false) := by
  unfold flag
  cases ρ[i]? with
  | none => rfl
  | some c =>
    cases c with
    | none => rfl
    | some c => rfl
theorem v_putN {ρ0 : Env} {us : List (Option T)} : putAll ρ0 [] us ρ = ρ := rfl
theorem v_putL {ρ0 : Env} {os : List Opd} {u : Option T} {us : List (Option T)} : putAll ρ0 (.inl t :: os) (u :: us) ρ = putAll ρ0 os us ρ := rfl
theorem v_putR {ρ0 : Env} {os : List Opd} {u : T} {us : List (Option T)} : putAll ρ0 (.inr i :: os) (some u :: us) ρ = putAll ρ0 os us (ρ.set i (some (u, flag ρ0 i))) := rfl
theorem v_putO {ρ0 : Env} {os : List Opd} {us : List (Option T)} : putAll ρ0 (.inr i :: os) (none :: us) ρ = putAll ρ0 os us ρ := rfl
theorem v_outs0 : outsE 0 ρ = [] := rfl
theorem v_outsT {n : Nat} : outsE (n + 1) (some (t, true) :: ρ) = some t :: outsE n ρ := rfl
theorem v_outsF {n : Nat} : outsE (n + 1) (some (t, false) :: ρ) = none :: outsE n ρ := rfl
theorem v_outsN {n : Nat} : outsE (n + 1) (none :: ρ) = none :: outsE n ρ := rfl
theorem v_start {n : Nat} {ts : List T} : startE n ts = ts.map (fun t => some (t, true)) ++ List.replicate (n - ts.length) none := rfl
theorem v_gSlot : gSlot i t ρ = some (ρ.set i (some (t, false))) := rfl
theorem v_gTup {n : Nat} {gs : List T → Env → Option Env} : gTupT n gs t ρ = (itemsT t).bind fun ts => if ts.length = n then gs ts ρ else none := rfl
theorem v_gsN : gsNil [] ρ = some ρ := rfl
theorem v_gsC {g : T → Env → Option Env} {gs : List T → Env → Option Env} {ts : List T} : gsCons g gs (t :: ts) ρ = (g t ρ).bind (gs ts) := rfl
end
section
variable {i j : Int} {a b : Bool} {x y : PyData} {ts us : List T} {ds es : List PyData} {s z : Str}
theorem v_add : addT (.d (.int i)) (.d (.int j)) = some (.d (.int (i + j))) := rfl
theorem v_sub : intOp (fun _ _ => true) (fun i j => .int (i - j)) (.d (.int i)) (.d (.int j)) = some (.d (.int (i - j))) := rfl
theorem v_mul : intOp mulOk (fun i j => .int (i * j)) (.d (.int i)) (.d (.int j)) = if mulOk i j = true then some (.d (.int (i * j))) else none := rfl
theorem v_fdiv : intOp divOk (fun i j => .int (i / j)) (.d (.int i)) (.d (.int j)) = if divOk 0 j = true then some (.d (.int (i / j))) else none := rfl
theorem v_mod : intOp (fun _ j => decide (0 < j)) (fun i j => .int (i % j)) (.d (.int i)) (.d (.int j)) = if 0 < j then some (.d (.int (i % j))) else none := by
  show (if decide (0 < j) = true then _ else _) = _
  by_cases h : 0 < j
  · rw [if_pos h, if_pos (decide_eq_true h)]
  · rw [if_neg h, if_neg (by simpa using h)]
theorem v_pow : intOp bitsOk (fun i j => .int (i ^ j.toNat)) (.d (.int i)) (.d (.int j)) = if bitsOk i j = true then some (.d (.int (i ^ j.toNat))) else none := rfl
theorem v_lt : intOp (fun _ _ => true) (fun i j => .bool (decide (i < j))) (.d (.int i)) (.d (.int j)) = some (.d (.bool (decide (i < j)))) := rfl
theorem v_le : intOp (fun _ _ => true) (fun i j => .bool (decide (i ≤ j))) (.d (.int i)) (.d (.int j)) = some (.d (.bool (decide (i ≤ j)))) := rfl
theorem v_gt : intOp (fun _ _ => true) (fun i j => .bool (decide (j < i))) (.d (.int i)) (.d (.int j)) = some (.d (.bool (decide (j < i)))) := rfl
theorem v_ge : intOp (fun _ _ => true) (fun i j => .bool (decide (j ≤ i))) (.d (.int i)) (.d (.int j)) = some (.d (.bool (decide (j ≤ i)))) := rfl
theorem v_neg : negT (.d (.int i)) = some (.d (.int (-i))) := rfl
theorem v_boolT : boolT (.d (.bool a)) = some a := rfl
theorem v_truB : truT (.d (.bool a)) = some a := rfl
theorem v_truI : truT (.d (.int i)) = some (i != 0) := rfl
theorem v_truN : truT (.d .none) = some false := rfl
theorem v_truL : truT (.ol ts) = some (!ts.isEmpty) := rfl
theorem v_isN : isNT (.d .none) (.d .none) = some (.d (.bool true)) := rfl
theorem v_isI : isNT (.d (.int i)) (.d .none) = some (.d (.bool false)) := rfl
theorem v_notN : notNT (.d .none) (.d .none) = some (.d (.bool false)) := rfl
theorem v_notI : notNT (.d (.int i)) (.d .none) = some (.d (.bool true)) := rfl
theorem v_int : intT [.d (.int i)] = some (.d (.int i)) := rfl
theorem v_intB : intT [.d (.bool a)] = some (.d (.int (if a then 1 else 0))) := rfl
theorem v_abs : absT [.d (.int i)] = some (.d (.int (if i < 0 then -i else i))) := rfl
theorem v_max : maxT2 [.d (.int i), .d (.int j)] = some (.d (.int (if j > i then j else i))) := rfl
theorem v_lenL : lenT [.ol ts] = some (.d (.int ts.length)) := rfl
theorem v_lenD : lenT [.d (.list ds)] = some (.d (.int ds.length)) := by
  show some (T.d (.int ((ds.map T.d).length : Nat))) = _
  rw [List.length_map]
theorem v_lenT : lenT [.d (.tuple ds)] = some (.d (.int ds.length)) := by
  show some (T.d (.int ((ds.map T.d).length : Nat))) = _
  rw [List.length_map]
theorem v_lenS {ns : List Int} : lenT [.scr ns] = some (.d (.int ns.length)) := rfl
theorem v_share : T.share (.d x) = some (.d x) := rfl
theorem v_shareS {ns : List Int} : T.share (.scr ns) = some (.scr ns) := rfl
theorem v_shareO {c : Str} {fs : List (Str × PyData)} : T.share (.ob c fs) = some (.ob c fs) := rfl
theorem v_toDs : ∀ ds : List PyData, T.toDs (ds.map T.d) = some ds
  | [] => rfl
  | d :: ds => by
    show (some d).bind _ = _
    rw [Option.bind_some, v_toDs ds]; rfl
theorem v_toFs : ∀ ds : List PyData, T.toFs (ds.map T.d) = some ds
  | [] => rfl
  | d :: ds => by
    show (some d).bind _ = _
    rw [Option.bind_some, v_toFs ds]; rfl
theorem v_toFsN : T.toFs [] = some [] := rfl
theorem v_toFsC {t : T} : T.toFs (t :: ts) = (T.toF t).bind fun d => (T.toFs ts).map fun ds => d :: ds := rfl
theorem v_toFd : T.toF (.d x) = some x := rfl
theorem v_toFl : T.toF (.ol ts) = (T.toFs ts).map PyData.list := rfl
theorem v_toFt : T.toF (.tp ts) = (T.toFs ts).map PyData.tuple := rfl
theorem v_shareL : T.share (.ol (ds.map T.d)) = some (.d (.list ds)) := by
  show ((T.toFs (ds.map T.d)).map PyData.list).map T.d = _
  rw [v_toFs]; rfl
theorem v_shareB {t : T} : T.share (.bw t) = some (.bw t) := rfl
theorem v_dats : ∀ ds : List PyData, dats (ds.map T.d) = some ds
  | [] => rfl
  | d :: ds => by
    show (some d).bind _ = _
    rw [Option.bind_some, v_dats ds]; rfl
theorem v_mkT : mkTup (ds.map T.d) = .d (.tuple ds) := by
  unfold mkTup; rw [v_dats]
theorem ixN_nat {n l : Nat} (h : n < l) : L2.ixN l (n : Int) = some n := by
  unfold L2.ixN
  rw [if_pos (by omega), if_pos (by omega)]
  rfl
theorem v_mk1 : mkTup [.d x] = .d (.tuple [x]) := rfl
theorem v_mk2 : mkTup [.d x, .d y] = .d (.tuple [x, y]) := rfl
theorem v_mk3 {z : PyData} : mkTup [.d x, .d y, .d z] = .d (.tuple [x, y, z]) := rfl
theorem v_mk4 {z w : PyData} : mkTup [.d x, .d y, .d z, .d w] = .d (.tuple [x, y, z, w]) := rfl
theorem v_mk5 {z w u : PyData} : mkTup [.d x, .d y, .d z, .d w, .d u] = .d (.tuple [x, y, z, w, u]) := rfl
theorem v_mk2o : mkTup [.d x, .ol ts] = .tp [.d x, .ol ts] := rfl
theorem v_mk3o : mkTup [.d x, .d y, .ol ts] = .tp [.d x, .d y, .ol ts] := rfl
theorem v_shOl : T.share (.ol ts) = (T.toFs ts).map fun ds => .d (.list ds) := by
  show ((T.toFs ts).map PyData.list).map T.d = _
  cases T.toFs ts <;> rfl
theorem v_shTp : T.share (.tp ts) = (T.toFs ts).map fun ds => .d (.tuple ds) := by
  show ((T.toFs ts).map PyData.tuple).map T.d = _
  cases T.toFs ts <;> rfl
theorem v_toDsN : T.toDs [] = some [] := rfl
theorem v_toDsC {t : T} : T.toDs (t :: ts) = (T.toD t).bind fun d => (T.toDs ts).map fun ds => d :: ds := rfl
theorem v_toDd : T.toD (.d x) = some x := rfl
theorem v_toDl : T.toD (.ol ts) = (T.toDs ts).map PyData.list := rfl
theorem v_toDt : T.toD (.tp ts) = (T.toDs ts).map PyData.tuple := rfl
theorem v_itT : itemsT (.d (.tuple ds)) = some (ds.map T.d) := rfl
theorem v_itP : itemsT (.tp ts) = some ts := by with_unfolding_all rfl
theorem v_itL : itemsT (.d (.list ds)) = some (ds.map T.d) := rfl
theorem v_seqL : seqOf (.list ds) = some ds := rfl
theorem v_seqT : seqOf (.tuple ds) = some ds := rfl
/-- an item of a list -/
theorem atI_nat {α : Type} {l : List α} {n : Nat} (h : n < l.length) : L2.atI l (n : Int) = l[n]? := by
  unfold L2.atI
  rw [ixN_nat h]; rfl
theorem ix_ol {n : Nat} {t : T} (h : ts[n]? = some t) (hs : isStat t = true) : ixT (.ol ts) (.d (.int n)) = some t := by
  have hl : n < ts.length := (List.getElem?_eq_some_iff.mp h).1
  show (some ts).bind (fun ts => (L2.atI ts n).bind fun e => if isStat e then some e else none) = some t
  rw [Option.bind_some, atI_nat hl, h, Option.bind_some, if_pos hs]
theorem ix_tup {n : Nat} {x : PyData} (h : ds[n]? = some x) : ixT (.d (.tuple ds)) (.d (.int n)) = some (.d x) := by
  have hl : n < (ds.map T.d).length := by rw [List.length_map]; exact (List.getElem?_eq_some_iff.mp h).1
  show (some (ds.map T.d)).bind (fun ts => (L2.atI ts n).bind fun e => if isStat e then some e else none) = _
  rw [Option.bind_some, atI_nat hl, List.getElem?_map, h]; rfl
theorem ix_lst {n : Nat} {x : PyData} (h : ds[n]? = some x) : ixT (.d (.list ds)) (.d (.int n)) = some (.d x) := by
  have hl : n < (ds.map T.d).length := by rw [List.length_map]; exact (List.getElem?_eq_some_iff.mp h).1
  show (some (ds.map T.d)).bind (fun ts => (L2.atI ts n).bind fun e => if isStat e then some e else none) = _
  rw [Option.bind_some, atI_nat hl, List.getElem?_map, h]; rfl
theorem ix_scr {ns : List Int} {n : Nat} {k : Int} (h : ns[n]? = some k) : ixT (.scr ns) (.d (.int n)) = some (.d (.int k)) := by
  have hl : n < ns.length := (List.getElem?_eq_some_iff.mp h).1
  show (L2.atI ns n).map (fun n => T.d (.int n)) = _
  rw [atI_nat hl, h]; rfl
theorem ix_ol0 {r : List T} : ixT (.ol (.d x :: r)) (.d (.int 0)) = some (.d x) := ix_ol (n := 0) rfl rfl
theorem ix_ol1 {t : T} {r : List T} : ixT (.ol (t :: .d x :: r)) (.d (.int 1)) = some (.d x) := ix_ol (n := 1) rfl rfl
theorem ix_ol2 {t u : T} {r : List T} : ixT (.ol (t :: u :: .d x :: r)) (.d (.int 2)) = some (.d x) := ix_ol (n := 2) rfl rfl
theorem ix_t0 {r : List PyData} : ixT (.d (.tuple (x :: r))) (.d (.int 0)) = some (.d x) := ix_tup (n := 0) rfl
theorem ix_t1 {r : List PyData} {p : PyData} : ixT (.d (.tuple (p :: x :: r))) (.d (.int 1)) = some (.d x) := ix_tup (n := 1) rfl
theorem ix_t2 {r : List PyData} {p q : PyData} : ixT (.d (.tuple (p :: q :: x :: r))) (.d (.int 2)) = some (.d x) := ix_tup (n := 2) rfl
theorem v_ixN0 {l : Nat} : L2.ixN (l + 1) (0 : Int) = some 0 := ixN_nat (n := 0) (by omega)
theorem v_ixN1 {l : Nat} : L2.ixN (l + 1 + 1) (1 : Int) = some 1 := ixN_nat (n := 1) (by omega)
theorem v_ixN2 {l : Nat} : L2.ixN (l + 1 + 1 + 1) (2 : Int) = some 2 := ixN_nat (n := 2) (by omega)
theorem v_append {t : T} : appendM (.ol ts) [t] = if small (ts.length + 1) = true then some (.ol (ts ++ [t]), .d .none) else none := rfl
theorem v_addO : addT (.ol ts) (.ol us) = if (ts.all isStat && us.all isStat && small (ts.length + us.length)) = true then some (.ol (ts ++ us)) else none := rfl
theorem v_addDO : addT (.d (.list ds)) (.ol us) = if ((ds.map T.d).all isStat && us.all isStat && small ((ds.map T.d).length + us.length)) = true then some (.ol (ds.map T.d ++ us)) else none := rfl
theorem v_addOD : addT (.ol us) (.d (.list ds)) = if (us.all isStat && (ds.map T.d).all isStat && small (us.length + (ds.map T.d).length)) = true then some (.ol (us ++ ds.map T.d)) else none := rfl
theorem v_stat : isStat (.d x) = true := rfl
theorem v_allD : (ds.map T.d).all isStat = true := by rw [List.all_map]; exact List.all_eq_true.mpr fun _ _ => rfl
theorem v_datsN : dats [] = some [] := rfl
theorem v_datsC : dats (.d x :: ts) = (dats ts).map fun ds => x :: ds := rfl
theorem v_addT : addT (.d (.tuple ds)) (.d (.tuple es)) = if (!ds.isEmpty && small (ds.length + es.length)) = true then some (.d (.tuple (ds ++ es))) else none := rfl
theorem v_tupO : tupleT [.ol ts] = (dats ts).map fun ds => .d (.tuple ds) := rfl
theorem v_tupD : tupleT [.d (.list ds)] = some (.d (.tuple ds)) := by
  show (dats (ds.map T.d)).map _ = _
  rw [v_dats]; rfl
theorem v_tupT : tupleT [.d (.tuple ds)] = some (.d (.tuple ds)) := rfl
theorem v_listO : listT [.ol ts] = if ts.all isStat = true then some (.ol ts) else none := rfl
theorem v_listD : listT [.d (.list ds)] = some (.ol (ds.map T.d)) := by
  show (if (ds.map T.d).all isStat then some (T.ol (ds.map T.d)) else none) = _
  rw [if_pos v_allD]
theorem v_listT : listT [.d (.tuple ds)] = some (.ol (ds.map T.d)) := v_listD
theorem v_rg1 : rangeOf1 [.d (.int j)] = if big62 j = true then some (rangeT 0 j) else none := rfl
theorem v_rg2 : rangeOf2 [.d (.int i), .d (.int j)] = if (big62 i && big62 j) = true then some (rangeT i j) else none := rfl
theorem beqD {α : Type} [BEq α] [LawfulBEq α] [DecidableEq α] (a b : α) : (a == b) = decide (a = b) := by
  by_cases h : a = b
  · subst h; simp
  · simp [h]
theorem v_eqI : eqT (.d (.int i)) (.d (.int j)) = some (.d (.bool (decide (i = j)))) := by
  show (if shal (.int i) || shal (.int j) then some (T.d (.bool (PyData.eqv (.int i) (.int j)))) else none) = _
  rw [if_pos (by simp [shal, PyData.depth])]
  simp only [PyData.eqv, beqD]
theorem v_neI : neT (.d (.int i)) (.d (.int j)) = some (.d (.bool (!decide (i = j)))) := by
  show (if shal (.int i) || shal (.int j) then some (T.d (.bool (!PyData.eqv (.int i) (.int j)))) else none) = _
  rw [if_pos (by simp [shal, PyData.depth])]
  simp only [PyData.eqv, beqD]
theorem v_eqS : eqT (.d (.str s)) (.d (.str z)) = some (.d (.bool (decide (s = z)))) := by
  show (if shal (.str s) || shal (.str z) then some (T.d (.bool (PyData.eqv (.str s) (.str z)))) else none) = _
  rw [if_pos (by simp [shal, PyData.depth])]
  simp only [PyData.eqv, beqD]
theorem v_neS : neT (.d (.str s)) (.d (.str z)) = some (.d (.bool (!decide (s = z)))) := by
  show (if shal (.str s) || shal (.str z) then some (T.d (.bool (!PyData.eqv (.str s) (.str z)))) else none) = _
  rw [if_pos (by simp [shal, PyData.depth])]
  simp only [PyData.eqv, beqD]
theorem v_iOf {m : M T} {ρ : Env} {Q : List T → Env → Prop} {X : XP} : OkM (iOf m ρ) Q X = OkM (m ρ) (fun t ρ1 => okO (itemsR t) fun ts => Q ts ρ1) X := by
  with_unfolding_all
    unfold iOf; refine w_bind.trans ?_; congr 1; funext t ρ1; exact w_lift
theorem v_itRl : itemsR (.d (.list ds)) = some (ds.map T.d) := rfl
theorem v_itRt : itemsR (.d (.tuple ds)) = some (ds.map T.d) := rfl
theorem v_itRD : itemsR (.ol (ds.map T.d)) = some (ds.map T.d) := by
  show (if (ds.map T.d).all isStat then _ else _) = _
  rw [if_pos v_allD]
theorem v_itRo (h : ts.all isStat = true) : itemsR (.ol ts) = some ts := by
  show (if ts.all isStat then _ else _) = _
  rw [if_pos h]
theorem v_itRb {t : T} : itemsR (.bw t) = (itemsT0 (unB t)).map fun ts => ts.map bor := rfl
theorem v_it0o : itemsT0 (.ol ts) = some ts := rfl
theorem v_it0p : itemsT0 (.tp ts) = some ts := rfl
theorem v_it0l : itemsT0 (.d (.list ds)) = some (ds.map T.d) := rfl
theorem v_it0t : itemsT0 (.d (.tuple ds)) = some (ds.map T.d) := rfl
theorem v_itTb {t : T} : itemsT (.bw t) = (itemsT0 (unB t)).map fun ts => ts.map bor := rfl
theorem v_unBb {t : T} : unB (.bw t) = unB t := rfl
theorem v_unBo : unB (.ol ts) = .ol ts := rfl
theorem v_unBp : unB (.tp ts) = .tp ts := rfl
theorem v_unBd : unB (.d x) = .d x := rfl
theorem v_borD : bor (.d x) = .d x := rfl
theorem v_borO : bor (.ol ts) = .bw (.ol ts) := rfl
theorem v_borP : bor (.tp ts) = .bw (.tp ts) := by with_unfolding_all rfl
theorem v_borB {t : T} : bor (.bw t) = .bw t := rfl
theorem v_borI {c : Str} {fs : List (Str × PyData)} : bor (.ob c fs) = .ob c fs := rfl
theorem v_borX {c : Str} {fs : List (Str × T)} : bor (.oi c fs) = .bw (.oi c fs) := rfl
theorem v_borS {ns : List Int} : bor (.scr ns) = .scr ns := rfl
theorem v_borM : (ds.map T.d).map bor = ds.map T.d := by
  rw [List.map_map]; rfl
theorem v_lenB : lenT [.bw (.ol ts)] = some (.d (.int ts.length)) := by
  show some (T.d (.int ((ts.map bor).length : Nat))) = _
  rw [List.length_map]
theorem v_lstB : lstOf (.bw (.ol ts)) = some (ts.map bor) := rfl
theorem v_lstO : lstOf (.ol ts) = some ts := rfl
theorem v_lstD : lstOf (.d (.list ds)) = some (ds.map T.d) := rfl
theorem v_cld : T.cl (.d x) = true := rfl
theorem v_clo : T.cl (.ol ts) = T.cls ts := rfl
theorem v_clp : T.cl (.tp ts) = T.cls ts := rfl
theorem v_clb {c : Str} {fs : List (Str × PyData)} : T.cl (.ob c fs) = true := rfl
theorem v_cls {ns : List Int} : T.cl (.scr ns) = true := rfl
theorem v_clsN : T.cls [] = true := rfl
theorem v_clsC {t : T} : T.cls (t :: ts) = (T.cl t && T.cls ts) := rfl
theorem v_clsD : ∀ {ds : List PyData}, T.cls (ds.map T.d) = true
  | [] => rfl
  | _ :: ds => by
    show (true && T.cls (ds.map T.d)) = true
    rw [v_clsD]; rfl
theorem v_isLo : isLst (.ol ts) = true := rfl
theorem v_isLd : isLst (.d (.list ds)) = true := rfl
theorem v_iEnum {m : M T} {ρ : Env} {Q : List T → Env → Prop} {X : XP} : OkM (iEnumT m ρ) Q X = OkM (m ρ) (fun t ρ1 => isLst (unB t) = true ∧ okO (itemsR t) fun ts => Q (enumT 0 ts) ρ1) X := by
  with_unfolding_all
    unfold iEnumT; refine w_bind.trans ?_; congr 1; funext t ρ1
    refine w_lift.trans ?_
    by_cases h : isLst (unB t) = true
    · rw [if_pos h, w_omap]; exact propext ⟨fun q => ⟨h, q⟩, fun q => q.2⟩
    · rw [if_neg h]; exact propext ⟨fun q => q.elim, fun q => h q.1⟩
theorem v_tbN {bs : List Bool} {ρ : Env} : takeB bs [] ρ = some ([], ρ) := by cases bs <;> rfl
theorem v_tbL {b : Bool} {bs : List Bool} {t : T} {os : List Opd} {ρ : Env} : takeB (b :: bs) (.inl t :: os) ρ = (takeB bs os ρ).map fun p => (t :: p.1, p.2) := by cases b <;> rfl
theorem v_tbT {bs : List Bool} {i : Nat} {os : List Opd} {ρ : Env} : takeB (true :: bs) (.inr i :: os) ρ = (ρ[i]?.join).bind fun c => (takeB bs os (ρ.set i none)).map fun p => (bor c.1 :: p.1, p.2) := rfl
theorem v_tbF {bs : List Bool} {i : Nat} {os : List Opd} {ρ : Env} : takeB (false :: bs) (.inr i :: os) ρ = (ρ[i]?.join).bind fun c => (takeB bs os (ρ.set i none)).map fun p => (c.1 :: p.1, p.2) := rfl
theorem v_pbN {ρ0 ρ : Env} {bs : List Bool} {us : List (Option T)} : putB ρ0 bs [] us ρ = ρ := by cases bs with
  | nil => rfl
  | cons b bs => cases b <;> cases us <;> rfl
theorem v_pbL {ρ0 ρ : Env} {b : Bool} {bs : List Bool} {t : T} {os : List Opd} {u : Option T} {us : List (Option T)} : putB ρ0 (b :: bs) (.inl t :: os) (u :: us) ρ = putB ρ0 bs os us ρ := by cases b <;> rfl
theorem v_pbT {ρ0 ρ : Env} {bs : List Bool} {i : Nat} {os : List Opd} {u : Option T} {us : List (Option T)} : putB ρ0 (true :: bs) (.inr i :: os) (u :: us) ρ = putB ρ0 bs os us (ρ.set i (ρ0[i]?.join)) := rfl
theorem v_pbF {ρ0 ρ : Env} {bs : List Bool} {i : Nat} {os : List Opd} {u : T} {us : List (Option T)} : putB ρ0 (false :: bs) (.inr i :: os) (some u :: us) ρ = putB ρ0 bs os us (ρ.set i (some (u, flag ρ0 i))) := rfl
theorem v_pbX {ρ0 ρ : Env} {bs : List Bool} {i : Nat} {os : List Opd} {us : List (Option T)} : putB ρ0 (false :: bs) (.inr i :: os) (none :: us) ρ = putB ρ0 bs os us ρ := rfl
theorem v_cbN {us : List (Option T)} : clB [] us = true := rfl
theorem v_cbE {bs : List Bool} : clB bs [] = true := by cases bs with
  | nil => rfl
  | cons b bs => cases b <;> rfl
theorem v_cbT {bs : List Bool} {u : Option T} {us : List (Option T)} : clB (true :: bs) (u :: us) = clB bs us := rfl
theorem v_cbF {bs : List Bool} {u : T} {us : List (Option T)} : clB (false :: bs) (some u :: us) = (T.cl u && clB bs us) := rfl
theorem v_cbX {bs : List Bool} {us : List (Option T)} : clB (false :: bs) (none :: us) = clB bs us := rfl
theorem v_iCall {f : List T → Option (List T)} {mos : M (List Opd)} {ρ : Env} {Q : List T → Env → Prop} {X : XP} : OkM (iCall f mos ρ) Q X = OkM (mos ρ) (fun os ρ1 => okO ((ress ρ1 os).bind f) fun ts => Q ts ρ1) X := by
  with_unfolding_all
    unfold iCall; refine w_bind.trans ?_; congr 1; funext t ρ1; exact w_lift
theorem v_olOf : olOf (.ol ts) = some ts := rfl
theorem v_intOf : intOf (.d (.int i)) = some i := rfl
end
end FL

set_option Elab.async false
set_option linter.all false
set_option maxRecDepth 100000
namespace FL
open PySem

/-! ### how long a thing's text is -/
mutual
def cost : PyData → Nat
  | .none => 4
  | .bool _ => 5
  | .int i => if i.natAbs < 10 ^ 60 then 61 else 100000000
  | .str x => if x.cps.toList.all (fun c => decide (c < 16 ^ 8)) then 10 * x.cps.size + 2 else 100000000
  | .list xs => costs xs + 3
  | .tuple xs => costs xs + 3
  | .dict _ => 100000000
def costs : List PyData → Nat
  | [] => 0
  | x :: xs => cost x + 2 + costs xs
end
mutual
theorem shown_cost : ∀ x : PyData, cost x ≤ 16777216 → x.shown.length ≤ cost x ∧ x.showable = true
  | .none, _ => ⟨Nat.le_refl _, rfl⟩
  | .bool b, _ => ⟨by cases b <;> decide, rfl⟩
  | .int i, h => by
    with_unfolding_all
      simp only [cost] at h ⊢
      split at h
      · rename_i hi
        rw [if_pos hi]
        refine ⟨?_, ?_⟩
        · show (Str.ofString (toString i)).length ≤ 61
          rw [ofString_length]
          exact int_text_length_le10 (by decide) hi
        simp only [PyData.showable, decide_eq_true_eq]
        by_cases h0 : i.natAbs = 0
        · rw [h0]; decide
        · exact (Nat.log2_lt h0).mpr (Nat.lt_of_lt_of_le hi (by decide +kernel))
      · omega
  | .str x, h => by
    with_unfolding_all
      simp only [cost] at h ⊢
      split at h
      · rename_i hi
        rw [if_pos hi]
        refine ⟨?_, rfl⟩
        have := StrLaws.reprText_len x (by simpa only [List.all_eq_true, decide_eq_true_eq] using hi)
        have e2 : x.length = x.cps.size := rfl
        simp only [PyData.shown]
        omega
      · omega
  | .list xs, h => by
    with_unfolding_all
      simp only [cost] at h ⊢
      obtain ⟨h1, h2⟩ := shown_costs xs (by omega)
      have h3 := listText_len_le (PyData.shownAll xs)
      have h4 := PyData.shownAll_length xs
      refine ⟨?_, by simp only [PyData.showable]; exact h2⟩
      simp only [PyData.shown]
      omega
  | .tuple xs, h => by
    with_unfolding_all
      simp only [cost] at h ⊢
      obtain ⟨h1, h2⟩ := shown_costs xs (by omega)
      have h3 := tupleText_len_le (PyData.shownAll xs)
      have h4 := PyData.shownAll_length xs
      refine ⟨?_, by simp only [PyData.showable]; exact h2⟩
      simp only [PyData.shown]
      omega
  | .dict _, h => by simp only [cost] at h; omega
theorem shown_costs : ∀ xs : List PyData, costs xs ≤ 16777216 → ((PyData.shownAll xs).map (·.length)).sum + 2 * xs.length ≤ costs xs ∧ PyData.showableAll xs = true
  | [], _ => ⟨Nat.le_refl _, rfl⟩
  | x :: xs, h => by
    with_unfolding_all
      simp only [costs] at h ⊢
      obtain ⟨h1, h2⟩ := shown_cost x (by omega)
      obtain ⟨h3, h4⟩ := shown_costs xs (by omega)
      refine ⟨?_, by simp only [PyData.showableAll, h2, h4, Bool.and_self]⟩
      simp only [PyData.shownAll, List.map_cons, List.sum_cons, List.length_cons]
      omega
end
mutual
theorem eqv_cost : ∀ x : PyData, cost x ≤ 16777216 → PyData.eqv x x = true
  | .none, _ => rfl
  | .bool b, _ => by simp [PyData.eqv]
  | .int i, _ => by simp [PyData.eqv]
  | .str s, _ => by simp [PyData.eqv]
  | .list xs, h => by simp only [cost] at h; simp only [PyData.eqv]; exact eqv_costs xs (by omega)
  | .tuple xs, h => by simp only [cost] at h; simp only [PyData.eqv]; exact eqv_costs xs (by omega)
  | .dict _, h => by simp only [cost] at h; omega
theorem eqv_costs : ∀ xs : List PyData, costs xs ≤ 16777216 → PyData.eqvAll xs xs = true
  | [], _ => rfl
  | x :: xs, h => by
    with_unfolding_all
      simp only [costs] at h
      simp only [PyData.eqvAll, eqv_cost x (by omega), eqv_costs xs (by omega), Bool.and_self]
end
/-- fit to be shown -/
def Fit (x : PyData) : Prop := cost x ≤ 16777216 ∧ x.depth ≤ 64
theorem Fit.ok {x : PyData} (h : Fit x) : (x.showable && shal x && small x.shown.length) = true := by
  obtain ⟨h1, h2⟩ := shown_cost x h.1
  simp only [Bool.and_eq_true, h2, shal, small, decide_eq_true_eq, true_and]
  exact ⟨h.2, Nat.le_trans h1 h.1⟩
theorem v_repr {t : T} : reprT [t] = t.toD.bind fun x => if (x.showable && shal x && small x.shown.length) = true then some (.d (.str x.shown)) else none := rfl
theorem costs_le {B : Nat} : ∀ {xs : List PyData}, (∀ x ∈ xs, cost x ≤ B) → costs xs ≤ (B + 2) * xs.length
  | [], _ => Nat.le_refl _
  | x :: xs, h => by
    with_unfolding_all
      have h1 := h x List.mem_cons_self
      have h2 := costs_le (xs := xs) fun y hy => h y (List.mem_cons_of_mem _ hy)
      simp only [costs, List.length_cons]
      have e : (B + 2) * (xs.length + 1) = (B + 2) * xs.length + (B + 2) := by rw [Nat.mul_add, Nat.mul_one]
      omega
theorem depths_le {n : Nat} : ∀ {xs : List PyData}, (∀ x ∈ xs, x.depth ≤ n) → PyData.depthAll xs ≤ n
  | [], _ => Nat.zero_le _
  | x :: xs, h => by
    with_unfolding_all
      have h1 := h x List.mem_cons_self
      have h2 := depths_le (xs := xs) fun y hy => h y (List.mem_cons_of_mem _ hy)
      simp only [PyData.depthAll]
      omega
theorem costI {i : Int} {n : Nat} (h : i.natAbs ≤ n) (hn : n < 10 ^ 60) : cost (.int i) = 61 := by
  simp only [cost]; rw [if_pos (by omega)]
theorem Fit.repr {t : T} {x : PyData} (h : Fit x) (e : t.toD = some x) : reprT [t] = some (.d (.str x.shown)) := by
  rw [v_repr, e, Option.bind_some, if_pos h.ok]
theorem Fit.eq {t u : T} {x : PyData} (h : Fit x) (e : t.toD = some x) (e2 : u.toD = some x) : eqT t u = some (.d (.bool true)) := by
  unfold eqT
  rw [e, e2, Option.bind_some, Option.bind_some, if_pos (by simp only [shal, h.2, decide_true, Bool.true_or]), eqv_cost x h.1]
theorem toD_map (ds : List PyData) : T.toD (.ol (ds.map T.d)) = some (.list ds) := by
  rw [v_toDl, v_toDs]; rfl
theorem ix_any {ts : List T} {r : Int} {Q : T → Prop} (h0 : 0 ≤ r) (h1 : r < ts.length) (hs : ts.all isStat = true) (k : ∀ t ∈ ts, Q t) : okO (ixT (.ol ts) (.d (.int r))) Q := by
  with_unfolding_all
    obtain ⟨n, rfl⟩ := Int.eq_ofNat_of_zero_le h0
    have hn : n < ts.length := by omega
    rw [ix_ol (List.getElem?_eq_getElem hn) (List.all_eq_true.mp hs _ (List.getElem_mem hn))]
    exact k _ (List.getElem_mem hn)
theorem w_prop {c : Str} {fg : List T → Rs} {fs : List (Str × PyData)} {Q : T → Prop} : okO (propT c fg (.ob c fs)) Q = OkR (fg [.ob c fs]) (fun τ _ => Q τ) noR := by
  with_unfolding_all
    show okO (if c = c then _ else _) Q = _
    rw [if_pos rfl]
    cases fg [.ob c fs] <;> rfl
theorem v_isiO {c : Str} {fs : List (Str × PyData)} : isiT c (.ob c fs) = some (.d (.bool true)) := by
  show (if c = c then _ else _) = _
  rw [if_pos rfl]
theorem v_min {i j : Int} : minT2 [.d (.int i), .d (.int j)] = some (.d (.int (if j < i then j else i))) := rfl
/-- more words -/
theorem w_xv {n : Nat} {y : PyData} {ρ : Env} {Q : T → Env → Prop} {X : XP} : OkM (eXv n y ρ) Q X = (ρ.length = n ∧ Q (.d y) ρ) := by
  with_unfolding_all
    unfold eXv
    by_cases h : ρ.length = n
    · rw [if_pos h]; exact propext ⟨fun q => ⟨h, q⟩, fun q => q.2⟩
    · rw [if_neg h]; exact propext ⟨fun q => q.elim, fun q => h q.1⟩
def mkO (frz : Bool) (τ : T) (outs : List (Option T)) : Option (T × List (Option T)) := match isNon τ, outs with
  | true, some (.oi c' fs) :: r => if frz then (frzF fs).map fun xs => (.ob c' xs, r) else some (.oi c' fs, r)
  | _, _ => none
def tlO : List (Option T) → Option (List (Option T))
  | _ :: r => some r
  | [] => none
theorem w_make {c : Str} {frz : Bool} {fi : List T → Rs} {ts : List T} {Q : T → List (Option T) → Prop} {X : XR} : OkR (makeFn c frz fi ts) Q X = OkR (fi (.oi c [] :: ts)) (fun τ outs => okO (mkO frz τ outs) fun p => Q p.1 p.2) (fun k x outs => okO (tlO outs) fun r => X k x r) := by
  with_unfolding_all
    unfold makeFn
    cases fi (.oi c [] :: ts) with
    | bad => rfl
    | exc k x outs => cases outs <;> rfl
    | ok τ outs =>
      show OkR (match isNon τ, outs with | true, some (.oi c' fs) :: r => _ | _, _ => _) Q X = okO (mkO frz τ outs) _
      unfold mkO
      cases isNon τ with
      | false => rfl
      | true =>
        match outs with
        | [] => rfl
        | none :: _ => rfl
        | some t :: r =>
          cases t with
          | oi c' fs =>
            cases frz with
            | false => rfl
            | true =>
              show OkR (match frzF fs with | some xs => _ | none => _) Q X = okO ((frzF fs).map _) _
              cases frzF fs <;> rfl
          | _ => rfl
theorem w_perm {ix jx : List Nat} {fn : List T → Rs} {ts : List T} {Q : T → List (Option T) → Prop} {X : XR} : OkR (permF ix jx fn ts) Q X = OkR (fn (pick ix ts)) (fun τ outs => Q τ (pick jx outs)) (fun c x outs => X c x (pick jx outs)) := by
  with_unfolding_all
    unfold permF
    cases fn (pick ix ts) <;> rfl
theorem v_pickN {α : Type} {l : List α} : pick [] l = [] := rfl
theorem v_pickC {α : Type} {i : Nat} {ix : List Nat} {l : List α} : pick (i :: ix) l = (l[i]?).elim (pick ix l) (fun x => x :: pick ix l) := by
  unfold pick
  rw [List.filterMap_cons]
  cases l[i]? <;> rfl
theorem w_eComp {ks : List Nat} {mi : M (List T)} {g : T → Env → Option Env} {tt : M Bool} {te : M T} {ρ : Env} {Q : T → Env → Prop} {X : XP} : OkM (eComp ks mi g tt te ρ) Q X = OkM (mi ρ) (fun ts ρ1 => okO (compR ks g tt te ts (killE ks ρ1) []) fun p => Q (.ol p.1) p.2) X := by
  with_unfolding_all
    unfold eComp; refine w_bind.trans ?_; congr 1; funext ts ρ1
    cases compR ks g tt te ts (killE ks ρ1) [] <;> rfl
theorem w_cN {ks : List Nat} {g : T → Env → Option Env} {tt : M Bool} {te : M T} {ρ : Env} {acc : List T} {Q : List T × Env → Prop} : okO (compR ks g tt te [] ρ acc) Q = Q (acc, ρ) := by with_unfolding_all rfl
theorem w_cC {ks : List Nat} {g : T → Env → Option Env} {tt : M Bool} {te : M T} {ρ : Env} {t : T} {ts acc : List T} {Q : List T × Env → Prop} : okO (compR ks g tt te (t :: ts) ρ acc) Q = okO (g t ρ) fun ρ1 => OkM (tt ρ1) (fun b ρ2 => BR b
    (fun _ => OkM (te ρ2) (fun y ρ3 => small (acc.length + 1) = true ∧ okO (compR ks g tt te ts (killE ks ρ3) (acc ++ [y])) Q) noX) (fun _ => okO (compR ks g tt te ts (killE ks ρ2) acc) Q)) noX := by
  with_unfolding_all
    conv => lhs; unfold compR
    cases g t ρ with
    | none => rfl
    | some ρ1 =>
      show okO (match tt ρ1 with | .ok false ρ2 => _ | .ok true ρ2 => _ | _ => _) Q = OkM (tt ρ1) _ noX
      cases tt ρ1 with
      | bad => rfl
      | exc c x ρ2 => rfl
      | ok b ρ2 =>
        cases b with
        | false => rfl
        | true =>
          show okO (match te ρ2 with | .ok y ρ3 => _ | _ => _) Q = OkM (te ρ2) _ noX
          cases te ρ2 with
          | bad => rfl
          | exc c x ρ3 => rfl
          | ok y ρ3 =>
            show okO (if small (acc.length + 1) then _ else _) Q = (small (acc.length + 1) = true ∧ okO _ Q)
            by_cases h : small (acc.length + 1) = true
            · rw [if_pos h]; exact propext ⟨fun q => ⟨h, q⟩, fun q => q.2⟩
            · rw [if_neg h]; exact propext ⟨fun q => q.elim, fun q => h q.1⟩
theorem w_pure' {α : Type} {a : α} {ρ : Env} {Q : α → Env → Prop} {X : XP} : OkM ((M.pure a : M α) ρ) Q X = Q a ρ := by with_unfolding_all rfl
theorem v_any {ts : List T} : anyT [.ol ts] = (boolsOf ts).map fun bs => .d (.bool (bs.any id)) := by
  rfl
end FL

set_option Elab.async false
set_option linter.all false
set_option maxRecDepth 100000
namespace FL
open PySem

/-! ### loops by how many turns are behind -/
section
variable {ρ : Env} {Q : Post} {X : XP} {g : T → Env → Option Env} {ks : List Nat} {mi : M (List T)} {body : Env → Fl} {tt : M Bool} {te : M T}
theorem w_forL (ts : List T) (I : Nat → Env → Prop) (h : OkM (mi ρ) (fun us ρ1 => us = ts ∧ I 0 ρ1) Q.X)
    (s : ∀ (i : Nat) (t : T) (ρ : Env), ts[i]? = some t → I i ρ → OkF (turnF ks g body t ρ) ⟨I (i + 1), Q.R, Q.N, I (i + 1), Q.X⟩) (e : ∀ ρ, I ts.length ρ → Q.N ρ) : OkF (sFor ks mi g body ρ) Q := by
  with_unfolding_all
    refine w_for (fun ds us ρ => ds ++ us = ts ∧ I ds.length ρ) ?_ ?_ ?_
    · cases q : mi ρ with
      | ok us ρ1 => rw [q] at h; exact ⟨h.1, h.2⟩
      | exc c x ρ1 => rw [q] at h; exact h
      | bad => rw [q] at h; exact h
    · intro ds t us ρ hI
      obtain ⟨h1, h2⟩ := hI
      have k := s ds.length t ρ (by rw [← h1]; simp) h2
      have e2 : (ds ++ [t]).length = ds.length + 1 := by simp
      have e3 : (ds ++ [t]) ++ us = ts := by rw [← h1]; simp
      generalize turnF ks g body t ρ = f at k ⊢
      cases f with
      | nx ρ' => exact ⟨e3, by rw [e2]; exact k⟩
      | ct ρ' => exact ⟨e3, by rw [e2]; exact k⟩
      | bk ρ' => exact k
      | rt t ρ' => exact k
      | exc c x ρ' => exact k
      | bad => exact k
    · intro ds ρ hI
      obtain ⟨h1, h2⟩ := hI
      rw [List.append_nil] at h1
      subst h1
      exact e ρ h2
theorem rg_at {a b : Int} {i : Nat} {t : T} (h : (rangeT a b)[i]? = some t) : (i : Int) < b - a ∧ t = .d (.int (a + i)) := by
  unfold rangeT at h
  rw [List.getElem?_map] at h
  cases q : (List.range (b - a).toNat)[i]? with
  | none => rw [q] at h; cases h
  | some k =>
    have hl := (List.getElem?_eq_some_iff.mp q).1
    rw [List.length_range] at hl
    rw [List.getElem?_range hl] at q
    cases q
    rw [List.getElem?_range hl] at h
    exact ⟨by omega, (Option.some.inj h).symm⟩
theorem rg_length (a b : Int) : (rangeT a b).length = (b - a).toNat := by
  unfold rangeT
  rw [List.length_map, List.length_range]
/-- for i in range(a, b) -/
theorem w_forN (a b : Int) (I : Nat → Env → Prop) (h : OkM (mi ρ) (fun us ρ1 => us = rangeT a b ∧ I 0 ρ1) Q.X)
    (s : ∀ (i : Nat) (ρ : Env), (i : Int) < b - a → I i ρ → OkF (turnF ks g body (.d (.int (a + i))) ρ) ⟨I (i + 1), Q.R, Q.N, I (i + 1), Q.X⟩) (e : ∀ ρ, I (b - a).toNat ρ → Q.N ρ) : OkF (sFor ks mi g body ρ) Q := by
  with_unfolding_all
    refine w_forL (rangeT a b) I h (fun i t ρ ht hI => ?_) fun ρ hI => e ρ (by rw [rg_length] at hI; exact hI)
    obtain ⟨h1, rfl⟩ := rg_at ht
    exact s i ρ h1 hI
/-- a comprehension by how many items are behind -/
theorem w_compL (ts : List T) (I : Nat → List T → Env → Prop) {Q : T → Env → Prop} (h : OkM (mi ρ) (fun us ρ1 => us = ts ∧ I 0 [] (killE ks ρ1)) X)
    (s : ∀ (i : Nat) (t : T) (acc : List T) (ρ : Env), ts[i]? = some t → I i acc ρ → okO (g t ρ) fun ρ1 => OkM (tt ρ1) (fun b ρ2 => BR b (fun _ => OkM (te ρ2) (fun y ρ3 => small (acc.length + 1) = true ∧ I (i + 1) (acc ++ [y]) (killE ks ρ3)) noX) (fun _ => I (i + 1) acc (killE ks ρ2))) noX)
    (e : ∀ acc ρ, I ts.length acc ρ → Q (.ol acc) ρ) : OkM (eComp ks mi g tt te ρ) Q X := by
  with_unfolding_all
    refine w_comp (fun ds us acc ρ => ds ++ us = ts ∧ I ds.length acc ρ) ?_ ?_ ?_
    · cases q : mi ρ with
      | ok us ρ1 => rw [q] at h; exact ⟨h.1, h.2⟩
      | exc c x ρ1 => rw [q] at h; exact h
      | bad => rw [q] at h; exact h
    · intro ds t us acc ρ hI
      obtain ⟨h1, h2⟩ := hI
      have k := s ds.length t acc ρ (by rw [← h1]; simp) h2
      have e2 : (ds ++ [t]).length = ds.length + 1 := by simp
      have e3 : (ds ++ [t]) ++ us = ts := by rw [← h1]; simp
      simp only [e2, e3, true_and]
      exact k
    · intro ds acc ρ hI
      obtain ⟨h1, h2⟩ := hI
      rw [List.append_nil] at h1
      subst h1
      exact e acc ρ h2
theorem w_compN (a b : Int) (I : Nat → List T → Env → Prop) {Q : T → Env → Prop} (h : OkM (mi ρ) (fun us ρ1 => us = rangeT a b ∧ I 0 [] (killE ks ρ1)) X)
    (s : ∀ (i : Nat) (acc : List T) (ρ : Env), (i : Int) < b - a → I i acc ρ → okO (g (.d (.int (a + i))) ρ) fun ρ1 => OkM (tt ρ1) (fun b ρ2 => BR b (fun _ => OkM (te ρ2) (fun y ρ3 => small (acc.length + 1) = true ∧ I (i + 1) (acc ++ [y]) (killE ks ρ3)) noX) (fun _ => I (i + 1) acc (killE ks ρ2))) noX)
    (e : ∀ acc ρ, I (b - a).toNat acc ρ → Q (.ol acc) ρ) : OkM (eComp ks mi g tt te ρ) Q X := by
  with_unfolding_all
    refine w_compL (rangeT a b) I h (fun i t acc ρ ht hI => ?_) fun acc ρ hI => e acc ρ (by rw [rg_length] at hI; exact hI)
    obtain ⟨h1, rfl⟩ := rg_at ht
    exact s i acc ρ h1 hI
theorem take_snoc {α : Type} {l : List α} {i : Nat} {x : α} (h : l[i]? = some x) : l.take (i + 1) = l.take i ++ [x] := by
  obtain ⟨hl, rfl⟩ := List.getElem?_eq_some_iff.mp h
  rw [List.take_succ, List.getElem?_eq_getElem hl]; rfl
/-- one that changes nothing: what is told of each item that is let by -/
theorem w_compF (ts : List T) (p : T → Bool) (f : T → T) (ρ1 : Env) {Q : T → Env → Prop} (h : OkM (mi ρ) (fun us ρ2 => us = ts ∧ killE ks ρ2 = ρ1) X) (hz : ts.length ≤ 16777216)
    (s : ∀ t ∈ ts, okO (g t ρ1) fun ρ2 => OkM (tt ρ2) (fun b ρ3 => BR b (fun _ => OkM (te ρ3) (fun y ρ4 => p t = true ∧ y = f t ∧ killE ks ρ4 = ρ1) noX) (fun _ => p t = false ∧ killE ks ρ3 = ρ1)) noX)
    (e : Q (.ol ((ts.filter p).map f)) ρ1) : OkM (eComp ks mi g tt te ρ) Q X := by
  with_unfolding_all
    refine w_compL ts (fun i acc ρ => acc = ((ts.take i).filter p).map f ∧ ρ = ρ1) ?_ ?_ ?_
    · cases q : mi ρ with
      | ok us ρ2 => rw [q] at h; exact ⟨h.1, rfl, h.2⟩
      | exc c x ρ1 => rw [q] at h; exact h
      | bad => rw [q] at h; exact h
    · intro i t acc ρ ht hI
      obtain ⟨rfl, rfl⟩ := hI
      have k := s t (List.mem_of_getElem? ht)
      have hl := (List.getElem?_eq_some_iff.mp ht).1
      cases e1 : g t ρ with
      | none => rw [e1] at k; exact k
      | some ρ2 =>
        rw [e1] at k
        have k : OkM (tt ρ2) _ noX := k
        show OkM (tt ρ2) _ noX
        cases e2 : tt ρ2 with
        | bad => rw [e2] at k; exact k
        | exc c x ρ3 => rw [e2] at k; exact k
        | ok b ρ3 =>
          rw [e2] at k
          cases b with
          | false =>
            obtain ⟨k1, k2⟩ := (show p t = false ∧ killE ks ρ3 = ρ from k)
            refine (show _ ∧ _ from ⟨?_, k2⟩)
            rw [take_snoc ht, List.filter_append, List.filter_cons, k1]; simp
          | true =>
            have k : OkM (te ρ3) _ noX := k
            show OkM (te ρ3) _ noX
            cases e3 : te ρ3 with
            | bad => rw [e3] at k; exact k
            | exc c x ρ4 => rw [e3] at k; exact k
            | ok y ρ4 =>
              rw [e3] at k
              obtain ⟨k1, rfl, k2⟩ := (show p t = true ∧ y = f t ∧ killE ks ρ4 = ρ from k)
              refine (show _ ∧ _ ∧ _ from ⟨?_, ?_, k2⟩)
              · have h3 := List.length_filter_le p (ts.take i)
                have h4 : (ts.take i).length ≤ i := by rw [List.length_take]; omega
                simp only [small, List.length_map, decide_eq_true_eq]
                omega
              · rw [take_snoc ht, List.filter_append, List.filter_cons, k1]; simp
    · intro acc ρ hI
      obtain ⟨rfl, rfl⟩ := hI
      rw [List.take_length]
      exact e
theorem w_compM (ts : List T) (f : T → T) (ρ1 : Env) {Q : T → Env → Prop} (h : OkM (mi ρ) (fun us ρ2 => us = ts ∧ killE ks ρ2 = ρ1) X) (hz : ts.length ≤ 16777216)
    (s : ∀ t ∈ ts, okO (g t ρ1) fun ρ2 => OkM (te ρ2) (fun y ρ4 => y = f t ∧ killE ks ρ4 = ρ1) noX)
    (e : Q (.ol (ts.map f)) ρ1) : OkM (eComp ks mi g (.pure true) te ρ) Q X := by
  with_unfolding_all
    refine w_compF ts (fun _ => true) f ρ1 h hz (fun t ht => ?_) (by rw [List.filter_eq_self.mpr fun _ _ => rfl]; exact e)
    have k := s t ht
    cases e1 : g t ρ1 with
    | none => rw [e1] at k; exact k
    | some ρ2 =>
      rw [e1] at k
      have k : OkM (te ρ2) _ noX := k
      show OkM (te ρ2) _ noX
      cases e3 : te ρ2 with
      | bad => rw [e3] at k; exact k
      | exc c x ρ4 => rw [e3] at k; exact k
      | ok y ρ4 => rw [e3] at k; exact ⟨rfl, k⟩
/-- over what stands for xs -/
theorem w_compA {α : Type} (xs : List α) (gi fo : α → T) (ρ1 : Env) {Q : T → Env → Prop} (h : OkM (mi ρ) (fun us ρ2 => us = xs.map gi ∧ killE ks ρ2 = ρ1) X) (hz : xs.length ≤ 16777216)
    (s : ∀ x ∈ xs, okO (g (gi x) ρ1) fun ρ2 => OkM (te ρ2) (fun y ρ4 => y = fo x ∧ killE ks ρ4 = ρ1) noX)
    (e : Q (.ol (xs.map fo)) ρ1) : OkM (eComp ks mi g (.pure true) te ρ) Q X := by
  with_unfolding_all
    refine w_compL (xs.map gi) (fun i acc ρ => acc = (xs.take i).map fo ∧ ρ = ρ1) ?_ ?_ ?_
    · cases q : mi ρ with
      | ok us ρ2 => rw [q] at h; exact ⟨h.1, rfl, h.2⟩
      | exc c x ρ1 => rw [q] at h; exact h
      | bad => rw [q] at h; exact h
    · intro i t acc ρ ht hI
      obtain ⟨rfl, rfl⟩ := hI
      rw [List.getElem?_map] at ht
      cases qx : xs[i]? with
      | none => rw [qx] at ht; cases ht
      | some x =>
        rw [qx] at ht
        cases ht
        have k := s x (List.mem_of_getElem? qx)
        have hl := (List.getElem?_eq_some_iff.mp qx).1
        cases e1 : g (gi x) ρ with
        | none => rw [e1] at k; exact k
        | some ρ2 =>
          rw [e1] at k
          have k : OkM (te ρ2) _ noX := k
          show OkM (te ρ2) _ noX
          cases e3 : te ρ2 with
          | bad => rw [e3] at k; exact k
          | exc c x ρ4 => rw [e3] at k; exact k
          | ok y ρ4 =>
            rw [e3] at k
            obtain ⟨rfl, k2⟩ := (show y = fo x ∧ killE ks ρ4 = ρ from k)
            refine (show _ ∧ _ ∧ _ from ⟨?_, ?_, k2⟩)
            · simp only [small, List.length_map, List.length_take, decide_eq_true_eq]
              omega
            · rw [take_snoc qx]; simp
    · intro acc ρ hI
      obtain ⟨rfl, rfl⟩ := hI
      rw [List.length_map, List.take_length]
      exact e
/-- over data -/
theorem w_compD (ds : List PyData) (f : PyData → PyData) (ρ1 : Env) {Q : T → Env → Prop} (h : OkM (mi ρ) (fun us ρ2 => us = ds.map T.d ∧ killE ks ρ2 = ρ1) X) (hz : ds.length ≤ 16777216)
    (s : ∀ d ∈ ds, okO (g (.d d) ρ1) fun ρ2 => OkM (te ρ2) (fun y ρ4 => y = .d (f d) ∧ killE ks ρ4 = ρ1) noX)
    (e : Q (.ol ((ds.map f).map T.d)) ρ1) : OkM (eComp ks mi g (.pure true) te ρ) Q X := by
  with_unfolding_all
    refine w_compM (ds.map T.d) (fun t => match t with | .d d => .d (f d) | t => t) ρ1 h (by rw [List.length_map]; exact hz) (fun t ht => ?_) ?_
    · obtain ⟨d, hd, rfl⟩ := List.mem_map.mp ht
      exact s d hd
    · rw [List.map_map] at e ⊢
      exact e
end
/-! ### more words -/
section
variable {ρ : Env} {X : XP} {m : M T} {ms : M (List T)} {mo ma mi : M Opd} {mos : M (List Opd)} {Q : T → Env → Prop}
theorem w_m1 {f : Str → T → Option T} : OkM (eM1 f mo ma ρ) Q X = OkM (mo ρ) (fun o ρ1 => okO ((res ρ1 o).bind fun t => match t with | .d (.str a) => some a | _ => none) fun a => OkM (ma ρ1) (fun p ρ2 => okO (res ρ2 p) fun u => okO (f a u) fun t => Q t ρ2) X) X := by
  with_unfolding_all
    unfold eM1; refine w_bind.trans ?_; congr 1; funext o ρ1
    cases h : res ρ1 o with
    | none => rfl
    | some t =>
      cases t with
      | d x =>
        cases x with
        | str a =>
          show OkM (M.bind ma _ ρ1) Q X = OkM (ma ρ1) _ X
          refine w_bind.trans ?_; congr 1; funext p ρ2
          cases res ρ2 p with
          | none => rfl
          | some u => exact w_lift
        | _ => rfl
      | _ => rfl
theorem w_join {j : Str → M T} : OkM (eJoined j ρ) Q X = OkM (j Str.empty ρ) Q X := by with_unfolding_all rfl
theorem w_jNil {acc : Str} : OkM (jNil acc ρ) Q X = Q (.d (.str acc)) ρ := by with_unfolding_all rfl
theorem w_jC {acc s : Str} {k : Str → M T} : OkM (jC s k acc ρ) Q X = (small (acc ++ s).length = true ∧ OkM (k (acc ++ s) ρ) Q X) := by
  with_unfolding_all
    unfold jC
    by_cases h : small (acc ++ s).length = true
    · rw [if_pos h]; exact propext ⟨fun q => ⟨h, q⟩, fun q => q.2⟩
    · rw [if_neg h]; exact propext ⟨fun q => q.elim, fun q => h q.1⟩
theorem w_jF {acc : Str} {k : Str → M T} : OkM (jF m k acc ρ) Q X = OkM (m ρ) (fun t ρ1 => okO (fmtT t) fun s => small (acc ++ s).length = true ∧ OkM (k (acc ++ s) ρ1) Q X) X := by
  with_unfolding_all
    unfold jF; refine w_bind.trans ?_; congr 1; funext t ρ1
    cases fmtT t with
    | none => rfl
    | some s =>
      show OkM (if small (acc ++ s).length = true then _ else _) Q X = (_ ∧ _)
      by_cases h : small (acc ++ s).length = true
      · rw [if_pos h]; exact propext ⟨fun q => ⟨h, q⟩, fun q => q.2⟩
      · rw [if_neg h]; exact propext ⟨fun q => q.elim, fun q => h q.1⟩
theorem w_iStr {Q : List T → Env → Prop} : OkM (iStrT m ρ) Q X = OkM (m ρ) (fun t ρ1 => okO (match t with | .d (.str x) => some (signsOf x) | _ => none) fun ts => Q ts ρ1) X := by
  with_unfolding_all
    unfold iStrT; refine w_bind.trans ?_; congr 1; funext t ρ1; exact w_lift
theorem w_star {Q : List T → Env → Prop} : OkM (aStar m ms ρ) Q X = OkM (m ρ) (fun t ρ1 => okO (starOf t) fun xs => OkM (ms ρ1) (fun ts ρ2 => Q (xs ++ ts) ρ2) X) X := by
  with_unfolding_all
    unfold aStar; refine w_bind.trans ?_; congr 1; funext t ρ1
    cases starOf t with
    | none => rfl
    | some xs =>
      show OkM (match ms ρ1 with | .ok ts ρ' => _ | .exc c x ρ' => _ | .bad => _) Q X = OkM (ms ρ1) _ X
      cases ms ρ1 <;> rfl
theorem w_consOs {o : Opd} {Q : List Opd → Env → Prop} : OkM (consOs o mos ρ) Q X = OkM (mos ρ) (fun os ρ1 => Q (o :: os) ρ1) X := by
  with_unfolding_all
    unfold consOs; refine w_bind.trans ?_; rfl
theorem w_meth {c k : Str} {fn : List T → Rs} : OkM (eMeth c k fn mo mos ρ) Q X = OkM (mo ρ) (fun o ρ1 => instOf c k (res ρ1 o) = true ∧ OkM (eFun fn (consOs o mos) ρ1) Q X) X := by
  with_unfolding_all
    unfold eMeth; refine w_bind.trans ?_; congr 1; funext o ρ1
    by_cases h : instOf c k (res ρ1 o) = true
    · rw [if_pos h]; exact propext ⟨fun q => ⟨h, q⟩, fun q => q.2⟩
    · rw [if_neg h]; exact propext ⟨fun q => q.elim, fun q => h q.1⟩
theorem w_get {c : Str} {fn : List T → Rs} : OkM (eGet c fn mo mi ρ) Q X = OkM (mo ρ) (fun o ρ1 => OkM (mi ρ1) (fun i ρ2 => instIs c (res ρ2 o) = true ∧ OkM (eFun fn (M.pure [o, i]) ρ2) Q X) X) X := by
  with_unfolding_all
    unfold eGet; refine w_bind.trans ?_; congr 1; funext o ρ1; refine w_bind.trans ?_; congr 1; funext i ρ2
    by_cases h : instIs c (res ρ2 o) = true
    · rw [if_pos h]; exact propext ⟨fun q => ⟨h, q⟩, fun q => q.2⟩
    · rw [if_neg h]; exact propext ⟨fun q => q.elim, fun q => h q.1⟩
theorem w_thru {s : Env → Fl} {Q : Post} : OkF (sThru s ρ) Q = OkF (s ρ) ⟨Q.N, Q.R, Q.B, Q.C, noX⟩ := by
  with_unfolding_all
    unfold sThru
    cases s ρ <;> rfl
theorem w_aug {i : Nat} {f : T → T → Option T} {Q : Post} : OkF (sAug1 i f m ρ) Q = okO (slot ρ i) fun _ => OkM (m ρ) (fun t ρ1 => okO ((slot ρ1 i).bind fun s => f s t) fun u => Q.N (ρ1.set i (some (u, false)))) Q.X := by
  with_unfolding_all
    unfold sAug1
    cases slot ρ i with
    | none => rfl
    | some s =>
      show OkF (sAug i f m ρ) Q = OkM (m ρ) _ _
      unfold sAug
      cases m ρ with
      | bad => rfl
      | exc c x ρ1 => rfl
      | ok t ρ1 =>
        show OkF (match (slot ρ1 i).bind fun s => f s t with | some u => _ | none => _) Q = okO ((slot ρ1 i).bind fun s => f s t) _
        cases (slot ρ1 i).bind fun s => f s t <;> rfl
theorem v_int2 {i j : Int} {f : Int → Int → Int} : int2 f (.d (.int i)) (.d (.int j)) = some (.d (.int (f i j))) := rfl
theorem v_starO {ts : List T} (h : ts.all isStat = true) : starOf (.ol ts) = some ts := by
  show (if ts.all isStat then some ts else none) = _
  rw [if_pos h]
theorem v_starD {ds : List PyData} : starOf (.d (.list ds)) = some (ds.map T.d) := by
  show (if (ds.map T.d).all isStat then some (ds.map T.d) else none) = _
  rw [if_pos v_allD]
theorem v_starT {ds : List PyData} : starOf (.d (.tuple ds)) = some (ds.map T.d) := v_starD
theorem v_instOb {c k : Str} {fs : List (Str × PyData)} : instOf c k (some (.ob c fs)) = (fs.lookup k).isNone := by
  show (decide (c = c) && _) = _
  rw [decide_eq_true rfl, Bool.true_and]
theorem v_instIs {c : Str} {fs : List (Str × PyData)} : instIs c (some (.ob c fs)) = true := decide_eq_true rfl
end
end FL

set_option Elab.async false
set_option linter.all false
set_option maxRecDepth 100000
namespace FL
open PySem
open L2 (cutS atI)

/-! ### texts of numbers, joined texts -/
abbrev tl (x : Str) : List Nat := x.cps.toList
theorem tl_inj {x y : Str} (h : tl x = tl y) : x = y := by
  obtain ⟨⟨a⟩⟩ := x
  obtain ⟨⟨b⟩⟩ := y
  have h : a = b := h
  subst h; rfl
theorem tl_len (x : Str) : x.length = (tl x).length := by
  show x.cps.size = x.cps.toList.length
  rw [Array.length_toList]
theorem tl_app (x y : Str) : tl (x ++ y) = tl x ++ tl y := TL.tl_append x y
abbrev numI (a : Int) : Str := Str.ofString (toString a)
theorem num_nat {a : Int} (h : 0 ≤ a) : tl (numI a) = TL.numL a.toNat := by
  obtain ⟨n, rfl⟩ := Int.eq_ofNat_of_zero_le h
  exact TL.tl_num n
theorem v_strI {a : Int} (h : a.natAbs < 10 ^ 60) : strT [.d (.int a)] = some (.d (.str (numI a))) := by
  show (if a.natAbs.log2 < 1920 then some (T.d (.str (toString a))) else none) = _
  have h1 : a.natAbs.log2 < 1920 := by
    by_cases h0 : a.natAbs = 0
    · rw [h0]; decide
    · exact (Nat.log2_lt h0).mpr (Nat.lt_of_lt_of_le h (by decide +kernel))
  rw [if_pos h1]
theorem v_fmtI {a : Int} (h : a.natAbs < 10 ^ 60) : fmtT (.d (.int a)) = some (numI a) := by
  show (if a.natAbs.log2 < 1920 then some (toString a : Str) else none) = _
  have h1 : a.natAbs.log2 < 1920 := by
    by_cases h0 : a.natAbs = 0
    · rw [h0]; decide
    · exact (Nat.log2_lt h0).mpr (Nat.lt_of_lt_of_le h (by decide +kernel))
  rw [if_pos h1]
theorem num_len {a : Int} {k : Nat} (h0 : 0 ≤ a) (hk : 0 < k) (h : a < 10 ^ k) : (numI a).length ≤ k := by
  rw [tl_len, num_nat h0]
  refine TL.numL_len hk ?_
  have e : ((10 ^ k : Nat) : Int) = 10 ^ k := by rw [Int.natCast_pow]; rfl
  omega
theorem num_len61 {a : Int} (h : a.natAbs < 10 ^ 60) : (numI a).length ≤ 61 := by
  have := int_text_length_le10 (a := a) (k := 60) (by decide) h
  rw [ofString_length]; exact this
theorem num_free {a : Int} {s : Nat} (hs : s ≠ 45 ∧ (s < 48 ∨ 57 < s)) : s ∉ tl (numI a) := PyProof.Rows.int_text_free' s hs a
theorem join_eq (y : Str) (ps : List Str) : tl (Txt.join y ps) = TL.joinL (tl y) (ps.map tl) := by rw [TL.join_eq]; exact TL.tl_join y ps
theorem joinL_free {s : Nat} {S : List Nat} (hS : s ∉ S) : ∀ {ps : List (List Nat)}, (∀ p ∈ ps, s ∉ p) → s ∉ TL.joinL S ps
  | [], _ => by simp [TL.joinL]
  | [p], h => h p (by simp)
  | p :: q :: r, h => by
    with_unfolding_all
      intro hm
      have hm : s ∈ p ++ (S ++ TL.joinL S (q :: r)) := hm
      rcases List.mem_append.mp hm with hm | hm
      · exact h p (by simp) hm
      · rcases List.mem_append.mp hm with hm | hm
        · exact hS hm
        · exact joinL_free hS (fun z hz => h z (List.mem_cons_of_mem _ hz)) hm
theorem join_free {s : Nat} {y : Str} {ps : List Str} (hS : s ∉ tl y) (h : ∀ p ∈ ps, s ∉ tl p) : s ∉ tl (Txt.join y ps) := by
  rw [join_eq]
  exact joinL_free hS fun p hp => by
    obtain ⟨q, hq, rfl⟩ := List.mem_map.mp hp
    exact h q hq
theorem joinL_len {S : List Nat} {B : Nat} : ∀ {ps : List (List Nat)}, (∀ p ∈ ps, p.length ≤ B) → (TL.joinL S ps).length ≤ ps.length * (B + S.length)
  | [], _ => Nat.zero_le _
  | [p], h => by
    with_unfolding_all
      have := h p (by simp)
      show p.length ≤ 1 * _
      omega
  | p :: q :: r, h => by
    with_unfolding_all
      have h1 := h p (by simp)
      have h2 := joinL_len (S := S) (ps := q :: r) fun z hz => h z (List.mem_cons_of_mem _ hz)
      show (p ++ (S ++ TL.joinL S (q :: r))).length ≤ (r.length + 1 + 1) * (B + S.length)
      rw [List.length_append, List.length_append, Nat.add_mul (r.length + 1)]
      simp only [List.length_cons] at h2
      omega
theorem join_len {y : Str} {ps : List Str} {B : Nat} (h : ∀ p ∈ ps, p.length ≤ B) : (Txt.join y ps).length ≤ ps.length * (B + y.length) := by
  rw [tl_len, join_eq, tl_len y]
  have := joinL_len (S := tl y) (B := B) (ps := ps.map tl) fun p hp => by
    obtain ⟨q, hq, rfl⟩ := List.mem_map.mp hp
    rw [← tl_len]; exact h q hq
  rwa [List.length_map] at this
theorem sum_len {ps : List Str} {B : Nat} (h : ∀ p ∈ ps, p.length ≤ B) : (ps.map (·.length)).sum ≤ ps.length * B := by
  induction ps with
  | nil => exact Nat.zero_le _
  | cons p ps ih =>
    have h1 := h p (by simp)
    have h2 := ih fun z hz => h z (List.mem_cons_of_mem _ hz)
    rw [List.map_cons, List.sum_cons, List.length_cons, Nat.add_mul]
    omega
theorem strsOf_map : ∀ ps : List Str, strsOf (ps.map fun s => T.d (.str s)) = some ps
  | [] => rfl
  | p :: ps => by
    with_unfolding_all
      show (strsOf (ps.map fun s => T.d (.str s))).map _ = _
      rw [strsOf_map ps]; rfl
/-- joined, where all fits -/
theorem v_joinT {y : Str} {ps : List Str} {B : Nat} (h : ∀ p ∈ ps, p.length ≤ B) (hz : ps.length * (B + y.length) ≤ 16777216) : joinT y (.ol (ps.map fun s => T.d (.str s))) = some (.d (.str (Txt.join y ps))) := by
  have e : joinT y (.ol (ps.map fun s => T.d (.str s))) = (strsOf (ps.map fun s => T.d (.str s))).bind fun ys => if small ((ys.map (·.length)).sum + ys.length * y.length) then some (.d (.str (Txt.join y ys))) else none := rfl
  rw [e, strsOf_map, Option.bind_some]
  have h1 := sum_len h
  rw [if_pos]
  rw [Nat.mul_add] at hz
  simp only [small, decide_eq_true_eq]
  omega
theorem v_splitT {y z : Str} {ps : List Str} {s : Nat} {S : List Nat} (ey : tl y = s :: S) (hk : y.cps.all (· < 256) = true) (hne : ps ≠ []) (hp : ∀ p ∈ ps, s ∉ tl p) (ez : z = Txt.join y ps) (hl : z.length + 2 ≤ 16777216) :
    splitT z (.d (.str y)) = some (.ol (ps.map fun s => T.d (.str s))) := by
  subst ez
  have h0 : (y.length == 0) = false := by
    rw [tl_len, ey]; simp
  show (if (!(y.length == 0) && small ((Txt.join y ps).length + 2)) = true then some (T.ol ((Txt.split (Txt.join y ps) y).map fun s => T.d (.str s))) else none) = _
  rw [h0, if_pos (by simp only [Bool.not_false, Bool.true_and, small, decide_eq_true_eq]; exact hl), TL.split_join ey hk hne hp]
/-! what reading a number asks -/
theorem num_first {a : Int} (h0 : 0 ≤ a) : ∃ c r, tl (numI a) = c :: r ∧ 48 ≤ c ∧ c ≤ 57 := by
  rw [num_nat h0]
  cases q : TL.numL a.toNat with
  | nil => exact absurd q (TL.numL_ne _)
  | cons c r =>
    have := TL.numL_digits a.toNat c (by rw [q]; simp)
    exact ⟨c, r, rfl, this.1, this.2⟩
theorem cut1 {z : Str} {c : Nat} {r : List Nat} (h : tl z = c :: r) : cutS z none (some 1) = ⟨#[c]⟩ := by
  refine tl_inj ?_
  unfold L2.cutS
  have e : z.length = r.length + 1 := by rw [tl_len, h]; rfl
  have e1 : HT.sIx z.length 0 none = 0 := rfl
  have e2 : HT.sIx z.length z.length (some 1) = 1 := by
    have := HT.sIx_nat z.length z.length 1
    rw [show (some (1 : Int)) = some (((1 : Nat) : Int)) from rfl, this, e]; omega
  rw [e1, e2]
  have h : z.cps.toList = c :: r := h
  rw [h]; rfl
theorem digits_ok {n : Nat} (h : n < 10000) : (TL.numL n).length ≤ 4 ∧ 1 ≤ (TL.numL n).length := by
  refine ⟨TL.numL_len (by decide) (by omega), ?_⟩
  cases q : TL.numL n with
  | nil => exact absurd q (TL.numL_ne _)
  | cons c r => simp
theorem num_head {n : Nat} : ∀ {c : Nat} {r : List Nat}, TL.numL n = c :: r → c = 48 → n = 0 := by
  induction n using Nat.strongRecOn with
  | _ n ih =>
    intro c r h hc
    by_cases hn : n < 10
    · rw [TL.numL_lt hn] at h
      injection h with h1 h2
      omega
    · rw [TL.numL_step (by omega)] at h
      cases q : TL.numL (n / 10) with
      | nil => exact absurd q (TL.numL_ne _)
      | cons d s =>
        rw [q] at h
        injection h with h1 h2
        have := ih (n / 10) (by omega) q (by omega)
        omega
def digitIn (c : Nat) : Bool := !(Builtin.Str.occurrences ("0123456789" : Str) ⟨#[c]⟩ 0 ("0123456789" : Str).length 1).isEmpty
theorem digitIn_ok : ∀ c : Nat, c < 58 → 48 ≤ c → digitIn c = true := by decide +kernel
theorem signs_all {a : Int} (h0 : 0 ≤ a) : ∀ t ∈ signsOf (numI a), ∃ c, t = .d (.str ⟨#[c]⟩) ∧ digitIn c = true := fun t ht => by
  unfold signsOf at ht
  obtain ⟨c, hc, rfl⟩ := List.mem_map.mp ht
  have hc : c ∈ tl (numI a) := hc
  rw [num_nat h0] at hc
  have := TL.numL_digits a.toNat c hc
  exact ⟨c, rfl, digitIn_ok c (by omega) this.1⟩
theorem v_small {n : Nat} (h : n ≤ 16777216) : small n = true := decide_eq_true h
theorem v_insert0 {us : List T} {u : T} : insertM (.ol us) [.d (.int 0), u] = if small (us.length + 1) = true then some (.ol (u :: us), .d .none) else none := by
  show (if (small (us.length + 1) && decide ((0 : Int) ≤ 0) && decide ((0 : Int) < 9223372036854775808)) = true then some (T.ol (us.take 0 ++ [u] ++ us.drop 0), T.d .none) else none) = _
  cases small (us.length + 1) <;> rfl
theorem v_mkO2 {ts : List T} {x : PyData} : mkTup [.ol ts, .d x] = .tp [.ol ts, .d x] := rfl
theorem v_listRg {l : Nat} (h : l ≤ 16777216) : listRg1 [.d (.int l)] = some (.ol (((List.range l).map fun i : Nat => PyData.int i).map T.d)) := by
  show (if big62 l && small ((l : Int) - 0).toNat then some (T.ol (rgI 0 l)) else none) = _
  have e : ((l : Int) - 0).toNat = l := by omega
  rw [e, if_pos (by rw [Bool.and_eq_true]; exact ⟨by simp only [big62, Bool.and_eq_true, decide_eq_true_eq]; omega, decide_eq_true h⟩)]
  unfold rgI
  rw [e, List.map_map]
  congr 2
  refine List.map_congr_left fun i _ => ?_
  show T.d (.int (0 + (i : Int))) = T.d (.int i)
  rw [Int.zero_add]
theorem v_boolsN : boolsOf [] = some [] := rfl
theorem v_boolsC {b : Bool} {ts : List T} : boolsOf (.d (.bool b) :: ts) = (boolsOf ts).map fun bs => b :: bs := rfl
theorem v_mkOt {c : Str} {fs : List (Str × T)} {r : List (Option T)} : mkO true (.d .none) (some (.oi c fs) :: r) = (frzF fs).map fun xs => (.ob c xs, r) := rfl
theorem v_mkOf {c : Str} {fs : List (Str × T)} {r : List (Option T)} : mkO false (.d .none) (some (.oi c fs) :: r) = some (.oi c fs, r) := rfl
theorem v_frzN : frzF [] = some [] := rfl
theorem v_frzC {f : Str} {x : PyData} {r : List (Str × T)} : frzF ((f, .d x) :: r) = (frzF r).map fun xs => (f, x) :: xs := rfl
theorem okO_eq {α : Type} {o : Option α} {u : α} (h : okO o fun t => t = u) : o = some u := by
  with_unfolding_all
    cases o with
    | none => exact absurd h id
    | some t => exact congrArg some h
theorem v_itRs {ts : List T} (h : ts.all isStat = true) : itemsR (.ol ts) = some ts := if_pos h
theorem v_eqNil : eqT (.ol []) (.ol []) = some (.d (.bool true)) := rfl
theorem v_neNil : neT (.ol []) (.ol []) = some (.d (.bool false)) := rfl
theorem v_statO {c : Str} {fs : List (Str × PyData)} : isStat (.ob c fs) = true := rfl
theorem v_statB {t : T} : isStat (.bw t) = true := rfl
theorem okR_eq {r : Rs} {u : T} (h : OkR r (fun t _ => t = u) noR) : ∃ outs, r = .ok u outs := by
  with_unfolding_all
    cases r with
    | ok t outs => exact ⟨outs, by rw [show t = u from h]⟩
    | exc c x outs => exact absurd h id
    | bad => exact absurd h id
theorem v_dOf {x : PyData} : dOf (.d x) = some x := rfl
theorem v_c0 : ((0 : Nat) : Int) = 0 := rfl
theorem v_c1 : ((1 : Nat) : Int) = 1 := rfl
theorem v_c2 : ((2 : Nat) : Int) = 2 := rfl
theorem v_c3 : ((3 : Nat) : Int) = 3 := rfl
theorem v_c4 : ((4 : Nat) : Int) = 4 := rfl
theorem v_c5 : ((5 : Nat) : Int) = 5 := rfl
theorem v_c6 : ((6 : Nat) : Int) = 6 := rfl
theorem v_c7 : ((7 : Nat) : Int) = 7 := rfl
theorem v_c8 : ((8 : Nat) : Int) = 8 := rfl
theorem v_c9 : ((9 : Nat) : Int) = 9 := rfl
theorem v_c10 : ((10 : Nat) : Int) = 10 := rfl
theorem v_big {i : Int} (h0 : -4611686018427387904 ≤ i) (h1 : i < 4611686018427387904) : big62 i = true := by
  simp only [big62, Bool.and_eq_true, decide_eq_true_eq]; exact ⟨h0, h1⟩
theorem num_int {a : Int} (h0 : 0 ≤ a) (h : a < 10000) : intST [.d (.str (numI a))] = some (.d (.int a)) := by
  show ((intText? (numI a)).bind fun n => if (numI a).length ≤ 640 then some (T.d (.int n)) else none) = _
  rw [PySem.W.KIN.num_reads h0 (by omega), Option.bind_some, if_pos]
  have := num_len (k := 4) h0 (by decide) h
  omega
theorem v_ixS {z : Str} {c : Nat} {r : List Nat} (h : tl z = c :: r) (hz : z.length ≤ 16777216) : ixT (.d (.str z)) (.d (.int 0)) = some (.d (.str ⟨#[c]⟩)) := by
  show (if small z.length then (L2.atI z.cps.toList 0).map _ else none) = _
  rw [if_pos (v_small hz)]
  have e : L2.atI z.cps.toList 0 = some c := by
    have h : z.cps.toList = c :: r := h
    rw [h]
    exact atI_nat (n := 0) (l := c :: r) (by simp)
  rw [e]; rfl
theorem v_sliceS {z : Str} {lo hi : Option Int} (hz : z.length ≤ 16777216) : sliceT lo hi (.d (.str z)) = some (.d (.str (cutS z lo hi))) := by
  show (if small z.length then _ else _) = _
  rw [if_pos (v_small hz)]
theorem v_lenSt {z : Str} (hz : z.length ≤ 16777216) : lenT [.d (.str z)] = some (.d (.int z.length)) := by
  show (if small z.length then _ else _) = _
  rw [if_pos (v_small hz)]
theorem cut_tail {α : Type} {x : α} {l : List α} : FL.cut (x :: l) (some 1) none = l := by
  unfold FL.cut
  have e2 : HT.sIx (x :: l).length 0 (some 1) = 1 := by
    have := HT.sIx_nat (x :: l).length 0 1
    rw [show (some (1 : Int)) = some (((1 : Nat) : Int)) from rfl, this, List.length_cons]; omega
  have e1 : HT.sIx (x :: l).length (x :: l).length none = l.length + 1 := rfl
  rw [e1, e2]
  simp
theorem v_slice1 {x : PyData} {l : List PyData} : sliceT (some 1) none (.d (.list (x :: l))) = some (.ol (l.map T.d)) := by
  show some (T.ol ((FL.cut (x :: l) (some 1) none).map T.d)) = _
  rw [cut_tail]
theorem one_sign {c d : Nat} (h : c ≠ d) : ¬ ((⟨#[c]⟩ : Str) = ⟨#[d]⟩) := fun e => h (by cases e; rfl)
theorem cps_lit {c : Nat} {s : Str} (h : tl s = [c]) : s = ⟨#[c]⟩ := tl_inj h
end FL

set_option Elab.async false
set_option linter.all false
set_option maxRecDepth 100000
set_option maxHeartbeats 4000000
namespace Lw
open PySem PySem.Spec PyProof.Rows L2 FL
abbrev Env := FL.Env
def topS (i : Nat) : Stmt := PySem.Challenge.pw_oneforall_k03_states_refused.main.body.getD i (.Pass ⟨0, 0, 0, 0⟩)
/-- the built-in names are still the built-in ones -/
structure Txt (mg : Str → Option Value) : Prop where
  n_abs : mg "abs" = none
  n_any : mg "any" = none
  n_enumerate : mg "enumerate" = none
  n_int : mg "int" = none
  n_isinstance : mg "isinstance" = none
  n_len : mg "len" = none
  n_list : mg "list" = none
  n_max : mg "max" = none
  n_min : mg "min" = none
  n_range : mg "range" = none
  n_repr : mg "repr" = none
  n_tuple : mg "tuple" = none
noncomputable section
variable {P : Program} {w : World} {K : PySem.W.Frag} {mg : Str → Option Value} {base : Heap}
/-! _law_purse(script, place) -/
abbrev s_law_purse : Stmt := (topS 9)
abbrev N_law_purse : List Str := ["script", "place", "cell"]
theorem sc_law_purse : FnScope N_law_purse ["script", "place"] (defScope s_law_purse) := ⟨rfl, rfl, rfl, by decide +kernel, rfl, by decide +kernel, by decide +kernel⟩
def c_law_purse_1 : Env → Fl :=
    sRet (eLst (aCons (eCall maxT2 (osCons (oV (eC (.int 0))) (osCons (oV (eOp2 subT (oV (eCall absT (osCons (oLate 2) (osNil)))) (oV (eOp2 powT (oV (eC (.int 10))) (oV (eC (.int 18))))))) (osNil)))) (aCons (eOp2 modT (oV (eCall intT (osCons (oV (eOp2 addT (oV (eOp2 addT (oV (eOp2 mulT (oLate 2) (oV (eC (.int 30011))))) (oV (eOp2 mulT (oLate 1) (oV (eC (.int 7368787))))))) (oV (eC (.int 104729))))) (osNil)))) (oV (eOp2 addT (oV (eOp2 powT (oV (eC (.int 10))) (oV (eC (.int 24))))) (oV (eC (.int 7)))))) (aCons (eC (.int 0)) (aNil)))))
theorem ap_c_law_purse_1 {ρ : Env} : c_law_purse_1 ρ = (sRet (eLst (aCons (eCall maxT2 (osCons (oV (eC (.int 0))) (osCons (oV (eOp2 subT (oV (eCall absT (osCons (oLate 2) (osNil)))) (oV (eOp2 powT (oV (eC (.int 10))) (oV (eC (.int 18))))))) (osNil)))) (aCons (eOp2 modT (oV (eCall intT (osCons (oV (eOp2 addT (oV (eOp2 addT (oV (eOp2 mulT (oLate 2) (oV (eC (.int 30011))))) (oV (eOp2 mulT (oLate 1) (oV (eC (.int 7368787))))))) (oV (eC (.int 104729))))) (osNil)))) (oV (eOp2 addT (oV (eOp2 powT (oV (eC (.int 10))) (oV (eC (.int 24))))) (oV (eC (.int 7)))))) (aCons (eC (.int 0)) (aNil)))))) ρ := rfl
def m_law_purse : Env → Fl :=
    sSeq (sAsg (gSlot 2) (eIf (bVal (eOp2 ltT (oLate 1) (oV (eCall lenT (osCons (oLate 0) (osNil)))))) (eOp2 ixT (oV (eVar 0)) (oLate 1)) (eC (.int 0))))
    (c_law_purse_1)
def f_law_purse : List T → Rs := runF 3 2 m_law_purse
theorem ok_law_purse {fa : Addr} {fd : FuncData} (F : Fun K "_law_purse" "_law_purse" s_law_purse fa fd) (T : Txt mg) : FnG P w K mg base 1 fa fd ["script", "place"] (spF K mg 2 f_law_purse) := by
  refine fn_okG (N := N_law_purse) (ps := ["script", "place"]) F sc_law_purse (m := m_law_purse) (fun cdv A outer s H vs E hr hgu => ?_)
  have hu := hu70 hr
  have hp := passes_def (P := P) (w := w) (K := K) (mg := mg) (base := base) (N := N_law_purse) (qual := "_law_purse") (sc := defScope s_law_purse) (f := fa) (cdv := cdv) (A := A) (outer := outer) (s := s) (H := H) (E := E)
  exact fb_cons (fs_set 2 sc_law_purse.nd (fe_if (ft_cmp (op_lt) lt_f (fo_late 1) (fo_v (fe_call (fos_cons (fo_late 0) (fos_nil)) len_f fun _ pa => pe_callB call_len (by rfl) T.n_len (by decide +kernel) pa)) (by rfl)) (fe_ix (fo_v (fe_var 0)) (fo_late 1)) (fe_int)))
    (fb_one (fs_ret (fe_lst (fa_cons (fe_call (fos_cons (fo_v (fe_int)) (fos_cons (fo_v (fe_sub (fo_v (fe_call (fos_cons (fo_late 2) (fos_nil)) abs_f fun _ pa => pe_callB call_abs (by rfl) T.n_abs (by decide +kernel) pa)) (fo_v (fe_pow (fo_v (fe_int)) (fo_v (fe_int)))))) (fos_nil))) max2_f fun _ pa => pe_callB (call_max2 rfl) (by rfl) T.n_max (by decide +kernel) pa) (fa_cons (fe_mod (fo_v (fe_call (fos_cons (fo_v (fe_add (fo_v (fe_add (fo_v (fe_mul (fo_late 2) (fo_v (fe_int)))) (fo_v (fe_mul (fo_late 1) (fo_v (fe_int)))))) (fo_v (fe_int)))) (fos_nil)) int_f fun _ pa => pe_callTy call_int1 (by rfl) T.n_int (by decide +kernel) pa)) (fo_v (fe_add (fo_v (fe_pow (fo_v (fe_int)) (fo_v (fe_int)))) (fo_v (fe_int))))) (fa_cons (fe_int) (fa_nil)))))))
/-! _law_coin(purse, many) -/
abbrev s_law_coin : Stmt := (topS 10)
abbrev N_law_coin : List Str := ["purse", "many", "drawn", "stirred"]
theorem sc_law_coin : FnScope N_law_coin ["purse", "many"] (defScope s_law_coin) := ⟨rfl, rfl, rfl, by decide +kernel, rfl, by decide +kernel, by decide +kernel⟩
def c_law_coin_1 : Env → Fl :=
    sKill [2] (sIf (bVal (eOp2 gtT (oV (eOp2 ixT (oLate 0) (oV (eC (.int 0))))) (oV (eC (.int 0)))))
    (sSeq (sAsg (gSlot 2) (eOp2 modT (oV (eCall intT (osCons (oV (eOp2 ixT (oLate 0) (oV (eC (.int 0))))) (osNil)))) (oLate 1)))
    (sSeq (sSetI 0 (eOp2 fdivT (oV (eOp2 ixT (oLate 0) (oV (eC (.int 0))))) (oLate 1)) (oV (eC (.int 0))))
    (sRet (eMove 2))))
    (sNil))
theorem ap_c_law_coin_1 {ρ : Env} : c_law_coin_1 ρ = (sKill [2] (sIf (bVal (eOp2 gtT (oV (eOp2 ixT (oLate 0) (oV (eC (.int 0))))) (oV (eC (.int 0)))))
    (sSeq (sAsg (gSlot 2) (eOp2 modT (oV (eCall intT (osCons (oV (eOp2 ixT (oLate 0) (oV (eC (.int 0))))) (osNil)))) (oLate 1)))
    (sSeq (sSetI 0 (eOp2 fdivT (oV (eOp2 ixT (oLate 0) (oV (eC (.int 0))))) (oLate 1)) (oV (eC (.int 0))))
    (sRet (eMove 2))))
    (sNil))) ρ := rfl
def c_law_coin_2 : Env → Fl :=
    sAsg (gSlot 3) (eOp2 modT (oV (eOp2 powT (oV (eCall intT (osCons (oV (eOp2 addT (oV (eOp2 ixT (oLate 0) (oV (eC (.int 1))))) (oV (eOp2 mulT (oV (eC (.int 2038074743))) (oV (eOp2 ixT (oLate 0) (oV (eC (.int 2))))))))) (osNil)))) (oV (eC (.int 3))))) (oV (eOp2 addT (oV (eOp2 powT (oV (eC (.int 10))) (oV (eC (.int 25))))) (oV (eC (.int 13))))))
theorem ap_c_law_coin_2 {ρ : Env} : c_law_coin_2 ρ = (sAsg (gSlot 3) (eOp2 modT (oV (eOp2 powT (oV (eCall intT (osCons (oV (eOp2 addT (oV (eOp2 ixT (oLate 0) (oV (eC (.int 1))))) (oV (eOp2 mulT (oV (eC (.int 2038074743))) (oV (eOp2 ixT (oLate 0) (oV (eC (.int 2))))))))) (osNil)))) (oV (eC (.int 3))))) (oV (eOp2 addT (oV (eOp2 powT (oV (eC (.int 10))) (oV (eC (.int 25))))) (oV (eC (.int 13))))))) ρ := rfl
def c_law_coin_3 : Env → Fl :=
    sAsg (gSlot 3) (eOp2 modT (oV (eOp2 powT (oV (eCall intT (osCons (oV (eOp2 addT (oLate 3) (oV (eOp2 mulT (oV (eC (.int 982451653))) (oV (eOp2 ixT (oLate 0) (oV (eC (.int 2))))))))) (osNil)))) (oV (eC (.int 2))))) (oV (eOp2 addT (oV (eOp2 powT (oV (eC (.int 10))) (oV (eC (.int 24))))) (oV (eC (.int 7))))))
theorem ap_c_law_coin_3 {ρ : Env} : c_law_coin_3 ρ = (sAsg (gSlot 3) (eOp2 modT (oV (eOp2 powT (oV (eCall intT (osCons (oV (eOp2 addT (oLate 3) (oV (eOp2 mulT (oV (eC (.int 982451653))) (oV (eOp2 ixT (oLate 0) (oV (eC (.int 2))))))))) (osNil)))) (oV (eC (.int 2))))) (oV (eOp2 addT (oV (eOp2 powT (oV (eC (.int 10))) (oV (eC (.int 24))))) (oV (eC (.int 7))))))) ρ := rfl
def m_law_coin : Env → Fl :=
    sSeq (c_law_coin_1)
    (sSeq (sSetI 0 (eOp2 addT (oV (eOp2 ixT (oLate 0) (oV (eC (.int 2))))) (oV (eC (.int 1)))) (oV (eC (.int 2))))
    (sSeq (c_law_coin_2)
    (sSeq (c_law_coin_3)
    (sRet (eOp2 modT (oV (eCall intT (osCons (oV (eOp2 fdivT (oLate 3) (oV (eC (.int 1024))))) (osNil)))) (oLate 1))))))
def f_law_coin : List T → Rs := runF 4 2 m_law_coin
theorem ok_law_coin {fa : Addr} {fd : FuncData} (F : Fun K "_law_coin" "_law_coin" s_law_coin fa fd) (T : Txt mg) : FnG P w K mg base 1 fa fd ["purse", "many"] (spF K mg 2 f_law_coin) := by
  refine fn_okG (N := N_law_coin) (ps := ["purse", "many"]) F sc_law_coin (m := m_law_coin) (fun cdv A outer s H vs E hr hgu => ?_)
  have hu := hu70 hr
  have hp := passes_def (P := P) (w := w) (K := K) (mg := mg) (base := base) (N := N_law_coin) (qual := "_law_coin") (sc := defScope s_law_coin) (f := fa) (cdv := cdv) (A := A) (outer := outer) (s := s) (H := H) (E := E)
  exact fb_cons (fs_kill [2] (fs_if (ft_cmp (op_gt) gt_f (fo_v (fe_ix (fo_late 0) (fo_v (fe_int)))) (fo_v (fe_int)) (by rfl))
    (fb_cons (fs_set 2 sc_law_coin.nd (fe_mod (fo_v (fe_call (fos_cons (fo_v (fe_ix (fo_late 0) (fo_v (fe_int)))) (fos_nil)) int_f fun _ pa => pe_callTy call_int1 (by rfl) T.n_int (by decide +kernel) pa)) (fo_late 1)))
    (fb_cons (fs_setI 0 (fe_fdiv (fo_v (fe_ix (fo_late 0) (fo_v (fe_int)))) (fo_late 1)) (fo_v (fe_int)))
    (fb_one (fs_ret (fe_move 2)))))
    (fb_nil)))
    (fb_cons (fs_setI 0 (fe_add (fo_v (fe_ix (fo_late 0) (fo_v (fe_int)))) (fo_v (fe_int))) (fo_v (fe_int)))
    (fb_cons (fs_set 3 sc_law_coin.nd (fe_mod (fo_v (fe_pow (fo_v (fe_call (fos_cons (fo_v (fe_add (fo_v (fe_ix (fo_late 0) (fo_v (fe_int)))) (fo_v (fe_mul (fo_v (fe_int)) (fo_v (fe_ix (fo_late 0) (fo_v (fe_int)))))))) (fos_nil)) int_f fun _ pa => pe_callTy call_int1 (by rfl) T.n_int (by decide +kernel) pa)) (fo_v (fe_int)))) (fo_v (fe_add (fo_v (fe_pow (fo_v (fe_int)) (fo_v (fe_int)))) (fo_v (fe_int))))))
    (fb_cons (fs_set 3 sc_law_coin.nd (fe_mod (fo_v (fe_pow (fo_v (fe_call (fos_cons (fo_v (fe_add (fo_late 3) (fo_v (fe_mul (fo_v (fe_int)) (fo_v (fe_ix (fo_late 0) (fo_v (fe_int)))))))) (fos_nil)) int_f fun _ pa => pe_callTy call_int1 (by rfl) T.n_int (by decide +kernel) pa)) (fo_v (fe_int)))) (fo_v (fe_add (fo_v (fe_pow (fo_v (fe_int)) (fo_v (fe_int)))) (fo_v (fe_int))))))
    (fb_one (fs_ret (fe_mod (fo_v (fe_call (fos_cons (fo_v (fe_fdiv (fo_late 3) (fo_v (fe_int)))) (fos_nil)) int_f fun _ pa => pe_callTy call_int1 (by rfl) T.n_int (by decide +kernel) pa)) (fo_late 1)))))))
/-! _law_drawn_rule(purse, sizes) -/
abbrev s_law_drawn_rule : Stmt := (topS 11)
abbrev N_law_drawn_rule : List Str := ["purse", "sizes", "many", "found", "rank", "speaks", "turn"]
theorem sc_law_drawn_rule : FnScope N_law_drawn_rule ["purse", "sizes"] (defScope s_law_drawn_rule) := ⟨rfl, rfl, rfl, by decide +kernel, rfl, by decide +kernel, by decide +kernel⟩
def k_law_drawn_rule_1 : M T :=
    eComp [6] (iCall rangeOf1 (osCons (oV (eC (.int 4))) (osNil))) (gSlot 6) (.pure true) (eFun f_law_coin (osCons (oLate 0) (osCons (oV (eVar 2)) (osNil))))
theorem ap_k_law_drawn_rule_1 {ρ : Env} : k_law_drawn_rule_1 ρ = (eComp [6] (iCall rangeOf1 (osCons (oV (eC (.int 4))) (osNil))) (gSlot 6) (.pure true) (eFun f_law_coin (osCons (oLate 0) (osCons (oV (eVar 2)) (osNil))))) ρ := rfl
def b_law_drawn_rule_2 : Env → Fl :=
    sSeq (sAsg (gSlot 5) (eOp2 eqT (oV (eFun f_law_coin (osCons (oLate 0) (osCons (oV (eC (.int 3))) (osNil))))) (oV (eC (.int 0)))))
    (sExpr (eMut appendM 3 (aCons (eOp2 addT (oV (eTup (aCons (eMove 5) (aNil)))) (oV (eCall tupleT (osCons (oV (k_law_drawn_rule_1)) (osNil))))) (aNil))))
theorem ap_b_law_drawn_rule_2 {ρ : Env} : b_law_drawn_rule_2 ρ = (sSeq (sAsg (gSlot 5) (eOp2 eqT (oV (eFun f_law_coin (osCons (oLate 0) (osCons (oV (eC (.int 3))) (osNil))))) (oV (eC (.int 0)))))
    (sExpr (eMut appendM 3 (aCons (eOp2 addT (oV (eTup (aCons (eMove 5) (aNil)))) (oV (eCall tupleT (osCons (oV (k_law_drawn_rule_1)) (osNil))))) (aNil))))) ρ := rfl
def c_law_drawn_rule_1 : Env → Fl :=
    sFor [4, 5] (iCall rangeOf1 (osCons (oLate 2) (osNil))) (gSlot 4)
    (b_law_drawn_rule_2)
theorem ap_c_law_drawn_rule_1 {ρ : Env} : c_law_drawn_rule_1 ρ = (sFor [4, 5] (iCall rangeOf1 (osCons (oLate 2) (osNil))) (gSlot 4)
    (b_law_drawn_rule_2)) ρ := rfl
def c_law_drawn_rule_2 : Env → Fl :=
    sRet (eTup (aCons (eOp2 addT (oV (eC (.int 1))) (oV (eFun f_law_coin (osCons (oLate 0) (osCons (oV (eOp2 ixT (oV (eVar 1)) (oV (eC (.int 1))))) (osNil)))))) (aCons (eFun f_law_coin (osCons (oLate 0) (osCons (oV (eOp2 addT (oV (eOp2 ixT (oV (eVar 1)) (oV (eC (.int 2))))) (oV (eC (.int 1))))) (osNil)))) (aCons (eMove 3) (aNil)))))
theorem ap_c_law_drawn_rule_2 {ρ : Env} : c_law_drawn_rule_2 ρ = (sRet (eTup (aCons (eOp2 addT (oV (eC (.int 1))) (oV (eFun f_law_coin (osCons (oLate 0) (osCons (oV (eOp2 ixT (oV (eVar 1)) (oV (eC (.int 1))))) (osNil)))))) (aCons (eFun f_law_coin (osCons (oLate 0) (osCons (oV (eOp2 addT (oV (eOp2 ixT (oV (eVar 1)) (oV (eC (.int 2))))) (oV (eC (.int 1))))) (osNil)))) (aCons (eMove 3) (aNil)))))) ρ := rfl
def m_law_drawn_rule : Env → Fl :=
    sSeq (sAsg (gTupT 2 (gsCons (gSlot 2) (gsCons (gSlot 3) (gsNil)))) (eTup (aCons (eOp2 addT (oV (eC (.int 1))) (oV (eFun f_law_coin (osCons (oLate 0) (osCons (oV (eOp2 ixT (oV (eVar 1)) (oV (eC (.int 0))))) (osNil)))))) (aCons (eLst (aNil)) (aNil)))))
    (sSeq (c_law_drawn_rule_1)
    (c_law_drawn_rule_2))
def f_law_drawn_rule : List T → Rs := runF 7 2 m_law_drawn_rule
theorem ok_law_drawn_rule {fa : Addr} {fd : FuncData} (F : Fun K "_law_drawn_rule" "_law_drawn_rule" s_law_drawn_rule fa fd) (T : Txt mg) (D_law_coin : DefG P w K mg base "_law_coin" 1 2 f_law_coin) : FnG P w K mg base 2 fa fd ["purse", "sizes"] (spF K mg 2 f_law_drawn_rule) := by
  refine fn_okG (N := N_law_drawn_rule) (ps := ["purse", "sizes"]) F sc_law_drawn_rule (m := m_law_drawn_rule) (fun cdv A outer s H vs E hr hgu => ?_)
  have hu := hu70 hr
  have hp := passes_def (P := P) (w := w) (K := K) (mg := mg) (base := base) (N := N_law_drawn_rule) (qual := "_law_drawn_rule") (sc := defScope s_law_drawn_rule) (f := fa) (cdv := cdv) (A := A) (outer := outer) (s := s) (H := H) (E := E)
  exact fb_cons (fs_asg (fe_tup (fa_cons (fe_add (fo_v (fe_int)) (fo_v (fe_defG D_law_coin takes_def (hr.mono (by decide)) hgu (fos_cons (fo_late 0) (fos_cons (fo_v (fe_ix (fo_v (fe_var 1)) (fo_v (fe_int)))) (fos_nil))) (osCons_len (osCons_len osNil_len))))) (fa_cons (fe_lst (fa_nil)) (fa_nil)))) (fg_tup 2 rfl (fgs_cons (fg_name 2 sc_law_drawn_rule.nd) (fgs_cons (fg_name 3 sc_law_drawn_rule.nd) (fgs_nil)))))
    (fb_cons (fs_for [4, 5] hp rfl (fi_range1 (by rfl) T.n_range (fo_late 2)) (fg_name 4 sc_law_drawn_rule.nd)
    (fb_cons (fs_set 5 sc_law_drawn_rule.nd (fe_cmp (eqR hu) eq_f (fo_v (fe_defG D_law_coin takes_def (hr.mono (by decide)) hgu (fos_cons (fo_late 0) (fos_cons (fo_v (fe_int)) (fos_nil))) (osCons_len (osCons_len osNil_len)))) (fo_v (fe_int))))
    (fb_one (fs_expr (fe_mut 3 PySem.F.slot_list_append PySem.F.type_list_append mt_append append_m (fa_cons (fe_add (fo_v (fe_tup (fa_cons (fe_move 5) (fa_nil)))) (fo_v (fe_call (fos_cons (fo_v (fe_comp (own := [("turn", 6)]) rfl sc_law_drawn_rule.nd (fi_range1 (by rfl) T.n_range (fo_v (fe_int))) (blkOk_by (own := [("turn", 6)]) (N := N_law_drawn_rule) (sc := defScope s_law_drawn_rule) (by decide +kernel)) (by decide) (fun _ => fg_name 6 sc_law_drawn_rule.nd) (fun _ => fts_nil) (fun _ => fe_defG D_law_coin takes_none5 (hr.mono (by decide)) hgu (fos_cons (fo_late 0) (fos_cons (fo_v (fe_var 2)) (fos_nil))) (osCons_len (osCons_len osNil_len))))) (fos_nil)) tuple_f fun _ pa => pe_callTy call_tuple_of (by rfl) T.n_tuple (by decide +kernel) pa))) (fa_nil)))))))
    (fb_one (fs_ret (fe_tup (fa_cons (fe_add (fo_v (fe_int)) (fo_v (fe_defG D_law_coin takes_def (hr.mono (by decide)) hgu (fos_cons (fo_late 0) (fos_cons (fo_v (fe_ix (fo_v (fe_var 1)) (fo_v (fe_int)))) (fos_nil))) (osCons_len (osCons_len osNil_len))))) (fa_cons (fe_defG D_law_coin takes_def (hr.mono (by decide)) hgu (fos_cons (fo_late 0) (fos_cons (fo_v (fe_add (fo_v (fe_ix (fo_v (fe_var 1)) (fo_v (fe_int)))) (fo_v (fe_int)))) (fos_nil))) (osCons_len (osCons_len osNil_len))) (fa_cons (fe_move 3) (fa_nil))))))))
/-! first_loose(states) -/
abbrev s_first_loose : Stmt := (topS 6)
abbrev N_first_loose : List Str := ["states", "index", "state", "number"]
theorem sc_first_loose : FnScope N_first_loose ["states"] (defScope s_first_loose) := ⟨rfl, rfl, rfl, by decide +kernel, rfl, by decide +kernel, by decide +kernel⟩
def k_first_loose_1 : M T :=
    eComp [3] (iOf (eSl (oLate 2) (pAt (oV (eC (.int 1)))) (pNo))) (gSlot 3) (.pure true) (eNot (eChain leT ltT (oV (eC (.int 0))) (oLate 3) (oV (eCall lenT (osCons (oLate 0) (osNil))))))
theorem ap_k_first_loose_1 {ρ : Env} : k_first_loose_1 ρ = (eComp [3] (iOf (eSl (oLate 2) (pAt (oV (eC (.int 1)))) (pNo))) (gSlot 3) (.pure true) (eNot (eChain leT ltT (oV (eC (.int 0))) (oLate 3) (oV (eCall lenT (osCons (oLate 0) (osNil))))))) ρ := rfl
def b_first_loose_2 : Env → Fl :=
    sIf (bTru (oV (eCall anyT (osCons (oV (k_first_loose_1)) (osNil)))))
    (sRet (eMove 1))
    (sNil)
theorem ap_b_first_loose_2 {ρ : Env} : b_first_loose_2 ρ = (sIf (bTru (oV (eCall anyT (osCons (oV (k_first_loose_1)) (osNil)))))
    (sRet (eMove 1))
    (sNil)) ρ := rfl
def c_first_loose_1 : Env → Fl :=
    sFor [1, 2] (iEnumT (eVar 0)) (gTupT 2 (gsCons (gSlot 1) (gsCons (gSlot 2) (gsNil))))
    (b_first_loose_2)
theorem ap_c_first_loose_1 {ρ : Env} : c_first_loose_1 ρ = (sFor [1, 2] (iEnumT (eVar 0)) (gTupT 2 (gsCons (gSlot 1) (gsCons (gSlot 2) (gsNil))))
    (b_first_loose_2)) ρ := rfl
def m_first_loose : Env → Fl :=
    sSeq (c_first_loose_1)
    (sRet (eC .none))
def f_first_loose : List T → Rs := runF 4 1 m_first_loose
theorem ok_first_loose {fa : Addr} {fd : FuncData} (F : Fun K "first_loose" "first_loose" s_first_loose fa fd) (T : Txt mg) : FnOk P w K mg base (L2.CX P w) 1 fa fd ["states"] (spF K mg 1 f_first_loose) := by
  refine fn_ok (N := N_first_loose) (ps := ["states"]) F sc_first_loose (m := m_first_loose) (fun cdv A outer s H vs E hr => ?_)
  have hu := hu70 hr
  have hp := passes_def (P := P) (w := w) (K := K) (mg := mg) (base := base) (N := N_first_loose) (qual := "first_loose") (sc := defScope s_first_loose) (f := fa) (cdv := cdv) (A := A) (outer := outer) (s := s) (H := H) (E := E)
  exact fb_cons (fs_for [1, 2] hp rfl (fi_enum (by rfl) T.n_enumerate (fe_var 0)) (fg_tup 2 rfl (fgs_cons (fg_name 1 sc_first_loose.nd) (fgs_cons (fg_name 2 sc_first_loose.nd) (fgs_nil))))
    (fb_one (fs_if (ft_tru (fo_v (fe_call (fos_cons (fo_v (fe_comp (own := [("number", 3)]) rfl sc_first_loose.nd (fi_seq (fe_slice (fo_late 2) (fp_at (fo_v (fe_int))) (fp_no))) (blkOk_by (own := [("number", 3)]) (N := N_first_loose) (sc := defScope s_first_loose) (by decide +kernel)) (by decide) (fun _ => fg_name 3 sc_first_loose.nd) (fun _ => fts_nil) (fun _ => fe_not (fe_chain (op_le) (op_lt) le_f lt_f (fo_v (fe_int)) (fo_late 3) (fo_v (fe_call (fos_cons (fo_late 0) (fos_nil)) len_f fun _ pa => pe_callB call_len (by rfl) T.n_len (by decide +kernel) pa)))))) (fos_nil)) any_f fun _ pa => pe_callB (cr_any rfl) (by rfl) T.n_any (by decide +kernel) pa)))
    (fb_one (fs_ret (fe_move 1)))
    (fb_nil))))
    (fb_one (fs_ret (fe_non)))
/-! Rule.__init__(self, every, losses, states) -/
abbrev s_Rule_init : Stmt := (clsBody (topS 7) 0)
abbrev N_Rule_init : List Str := ["self", "every", "losses", "states", "loose"]
theorem sc_Rule_init : FnScope N_Rule_init ["self", "every", "losses", "states"] (defScope s_Rule_init) := ⟨rfl, rfl, rfl, by decide +kernel, rfl, by decide +kernel, by decide +kernel⟩
def m_Rule_init : Env → Fl :=
    sSeq (sIf (bVal (eOp2 ltT (oLate 1) (oV (eC (.int 1)))))
    (sRaise "InvalidNumber" (eMove 1))
    (sNil))
    (sSeq (sIf (bVal (eOp2 ltT (oLate 2) (oV (eC (.int 0)))))
    (sRaise "InvalidNumber" (eMove 2))
    (sNil))
    (sSeq (sIf (bVal (eOp2 eqT (oV (eCall lenT (osCons (oLate 3) (osNil)))) (oV (eC (.int 0)))))
    (sRaise "InvalidState" (eC (.int 0)))
    (sNil))
    (sSeq (sAsg (gSlot 4) (eFunB [true] f_first_loose (osCons (oLate 3) (osNil))))
    (sSeq (sIf (bVal (eOp2 notNT (oLate 4) (oV (eC .none))))
    (sRaise "InvalidState" (eMove 4))
    (sNil))
    (sSeq (sFld 0 "Rule" "kept_every" (eMove 1))
    (sSeq (sFld 0 "Rule" "kept_losses" (eMove 2))
    (sFld 0 "Rule" "kept_states" (eCall tupleT (osCons (oLate 3) (osNil))))))))))
def f_Rule_init : List T → Rs := runF 5 4 m_Rule_init
theorem ok_Rule_init {fa : Addr} {fd : FuncData} (F : Fun K "__init__" "Rule.__init__" s_Rule_init fa fd) (T : Txt mg) (E_InvalidNumber : ErrD P w K mg base "InvalidNumber") (E_InvalidState : ErrD P w K mg base "InvalidState") (D_first_loose : DefO P w K mg base "first_loose" 1 1 f_first_loose) (L_Rule : FldD K mg "Rule" ["kept_every", "kept_losses", "kept_states"]) : FnOk P w K mg base (L2.CX P w) 3 fa fd ["self", "every", "losses", "states"] (spF K mg 4 f_Rule_init) := by
  refine fn_ok (N := N_Rule_init) (ps := ["self", "every", "losses", "states"]) F sc_Rule_init (m := m_Rule_init) (fun cdv A outer s H vs E hr => ?_)
  have hu := hu70 hr
  have hp := passes_def (P := P) (w := w) (K := K) (mg := mg) (base := base) (N := N_Rule_init) (qual := "Rule.__init__") (sc := defScope s_Rule_init) (f := fa) (cdv := cdv) (A := A) (outer := outer) (s := s) (H := H) (E := E)
  exact fb_cons (fs_if (ft_cmp (op_lt) lt_f (fo_late 1) (fo_v (fe_int)) (by rfl))
    (fb_one (fs_raise E_InvalidNumber takes_def rfl (hr.mono (by decide)) (fe_move 1)))
    (fb_nil))
    (fb_cons (fs_if (ft_cmp (op_lt) lt_f (fo_late 2) (fo_v (fe_int)) (by rfl))
    (fb_one (fs_raise E_InvalidNumber takes_def rfl (hr.mono (by decide)) (fe_move 2)))
    (fb_nil))
    (fb_cons (fs_if (ft_cmp (eqR hu) eq_f (fo_v (fe_call (fos_cons (fo_late 3) (fos_nil)) len_f fun _ pa => pe_callB call_len (by rfl) T.n_len (by decide +kernel) pa)) (fo_v (fe_int)) (by rfl))
    (fb_one (fs_raise E_InvalidState takes_def rfl (hr.mono (by decide)) (fe_int)))
    (fb_nil))
    (fb_cons (fs_set 4 sc_Rule_init.nd (fe_defOB [true] D_first_loose takes_def (hr.mono (by decide)) (fos_cons (fo_late 3) (fos_nil)) (osCons_len osNil_len)))
    (fb_cons (fs_if (ft_cmp (op_notN) notN_f (fo_late 4) (fo_v (fe_non)) (by rfl))
    (fb_one (fs_raise E_InvalidState takes_def rfl (hr.mono (by decide)) (fe_move 4)))
    (fb_nil))
    (fb_cons (fs_fld 0 (L_Rule.at (by decide)) (fe_move 1))
    (fb_cons (fs_fld 0 (L_Rule.at (by decide)) (fe_move 2))
    (fb_one (fs_fld 0 (L_Rule.at (by decide)) (fe_call (fos_cons (fo_late 3) (fos_nil)) tuple_f fun _ pa => pe_callTy call_tuple_of (by rfl) T.n_tuple (by decide +kernel) pa)))))))))
/-! _law_refused(apart, missing, rows, named) -/
abbrev s_law_refused : Stmt := (topS 12)
abbrev N_law_refused : List Str := ["apart", "missing", "rows", "named", "found", "e"]
theorem sc_law_refused : FnScope N_law_refused ["apart", "missing", "rows", "named"] (defScope s_law_refused) := ⟨rfl, rfl, rfl, by decide +kernel, rfl, by decide +kernel, by decide +kernel⟩
def c_law_refused_1 : Env → Fl :=
    sAsg (gSlot 4) (eIf (bTru (oLate 3)) (eFun (permF [2, 0, 1] [1, 2, 0] (makeFn "Rule" true f_Rule_init)) (osApp osNil (osCons (oV (eMove 1)) (osCons (oV (eMove 2)) (osCons (oV (eMove 0)) (osNil)))))) (eFun (makeFn "Rule" true f_Rule_init) (osCons (oV (eMove 0)) (osCons (oV (eMove 1)) (osCons (oV (eMove 2)) (osNil))))))
theorem ap_c_law_refused_1 {ρ : Env} : c_law_refused_1 ρ = (sAsg (gSlot 4) (eIf (bTru (oLate 3)) (eFun (permF [2, 0, 1] [1, 2, 0] (makeFn "Rule" true f_Rule_init)) (osApp osNil (osCons (oV (eMove 1)) (osCons (oV (eMove 2)) (osCons (oV (eMove 0)) (osNil)))))) (eFun (makeFn "Rule" true f_Rule_init) (osCons (oV (eMove 0)) (osCons (oV (eMove 1)) (osCons (oV (eMove 2)) (osNil))))))) ρ := rfl
def c_law_refused_2 : Env → Fl :=
    sKill [5] (sTry ["StreamError", "InvalidNumber", "InvalidState"] (c_law_refused_1)
    (("InvalidNumber", 5, fun y => sSeq (sAsg (gSlot 4) (eTup (aCons (eC (.str "number")) (aCons (eXv 6 y) (aNil))))) sNil) :: ("InvalidState", 5, fun y => sSeq (sAsg (gSlot 4) (eTup (aCons (eC (.str "state")) (aCons (eXv 6 y) (aNil))))) sNil) :: []))
theorem ap_c_law_refused_2 {ρ : Env} : c_law_refused_2 ρ = (sKill [5] (sTry ["StreamError", "InvalidNumber", "InvalidState"] (c_law_refused_1)
    (("InvalidNumber", 5, fun y => sSeq (sAsg (gSlot 4) (eTup (aCons (eC (.str "number")) (aCons (eXv 6 y) (aNil))))) sNil) :: ("InvalidState", 5, fun y => sSeq (sAsg (gSlot 4) (eTup (aCons (eC (.str "state")) (aCons (eXv 6 y) (aNil))))) sNil) :: []))) ρ := rfl
def m_law_refused : Env → Fl :=
    sSeq (sAsg (gSlot 4) (eC .none))
    (sSeq (c_law_refused_2)
    (sRet (eMove 4)))
def f_law_refused : List T → Rs := runF 6 4 m_law_refused
theorem ok_law_refused {fa : Addr} {fd : FuncData} (F : Fun K "_law_refused" "_law_refused" s_law_refused fa fd) (T : Txt mg) (E_StreamError : ErrD P w K mg base "StreamError") (E_InvalidNumber : ErrD P w K mg base "InvalidNumber") (E_InvalidState : ErrD P w K mg base "InvalidState") (X_errs : ExmD K mg ["StreamError", "InvalidNumber", "InvalidState"]) (C_Rule : ClsD P w K mg base "Rule" "__init__" "Rule.__init__" s_Rule_init ["self", "every", "losses", "states"] 3 3 f_Rule_init) : FnG P w K mg base 5 fa fd ["apart", "missing", "rows", "named"] (spF K mg 4 f_law_refused) := by
  refine fn_okG (N := N_law_refused) (ps := ["apart", "missing", "rows", "named"]) F sc_law_refused (m := m_law_refused) (fun cdv A outer s H vs E hr hgu => ?_)
  have hu := hu70 hr
  have hp := passes_def (P := P) (w := w) (K := K) (mg := mg) (base := base) (N := N_law_refused) (qual := "_law_refused") (sc := defScope s_law_refused) (f := fa) (cdv := cdv) (A := A) (outer := outer) (s := s) (H := H) (E := E)
  have EA : ∀ c ∈ (["StreamError", "InvalidNumber", "InvalidState"] : List Str), ErrD P w K mg base c := by
    intro c hc; simp only [List.mem_cons, List.not_mem_nil, or_false] at hc
    rcases hc with rfl | rfl | rfl <;> assumption
  obtain ⟨Ce_InvalidState, hce_InvalidState⟩ := errC E_InvalidState
  obtain ⟨Ce_InvalidNumber, hce_InvalidNumber⟩ := errC E_InvalidNumber
  exact fb_cons (fs_set 4 sc_law_refused.nd (fe_non))
    (fb_cons (fs_kill [5] (fs_try rfl rfl sc_law_refused.nd takes_def X_errs (fun W2 pn xe tk' pa' => fb_one (fs_set 4 sc_law_refused.nd (fe_if (ft_tru (fo_late 3)) (fe_newK0 (ks := ["losses", "states", "every"]) (ix := [2, 0, 1]) (jx := [1, 2, 0]) true C_Rule tk' (hr.mono (by decide)) (⟨fun l h => match l, h with | [_, _, _], _ => rfl, by decide, by decide⟩) (fun _ _ _ _ _ _ _ uz h => match uz, h with | [_, _, _], _ => rfl) (fk_cons (fo_v (fe_move 1)) (fk_cons (fo_v (fe_move 2)) (fk_cons (fo_v (fe_move 0)) (fk_nil)))) (osCons_len (osCons_len (osCons_len osNil_len)))) (fe_new true C_Rule tk' (hr.mono (by decide)) (fos_cons (fo_v (fe_move 0)) (fos_cons (fo_v (fe_move 1)) (fos_cons (fo_v (fe_move 2)) (fos_nil)))) (osCons_len (osCons_len (osCons_len osNil_len))))))) (.cons (by rfl) (by decide) hce_InvalidNumber (by rfl) (by rfl) (fun a oe C2 dx v c y pn F0 hz hfl hm2 hmem hx2 hd2 => fu_set 4 sc_law_refused.nd (fe_tup (fa_cons (fe_str) (fa_cons (fe_xv (EA c hmem) hm2 hz hfl hx2 hd2) (fa_nil))))) (.cons (by rfl) (by decide) hce_InvalidState (by rfl) (by rfl) (fun a oe C2 dx v c y pn F0 hz hfl hm2 hmem hx2 hd2 => fu_set 4 sc_law_refused.nd (fe_tup (fa_cons (fe_str) (fa_cons (fe_xv (EA c hmem) hm2 hz hfl hx2 hd2) (fa_nil))))) (.nil)))))
    (fb_one (fs_ret (fe_move 4))))
/-! _law_wrong_row(purse, row, many) -/
abbrev s_law_wrong_row : Stmt := (topS 13)
abbrev N_law_wrong_row : List Str := ["purse", "row", "many", "found", "top", "turn", "number"]
theorem sc_law_wrong_row : FnScope N_law_wrong_row ["purse", "row", "many"] (defScope s_law_wrong_row) := ⟨rfl, rfl, rfl, by decide +kernel, rfl, by decide +kernel, by decide +kernel⟩
def c_law_wrong_row_1 : Env → Fl :=
    sPar2 3 4 (aCons (eCall listT (osCons (oLate 1) (osNil))) (aCons (eOp2 ixT (oV (eLst (aCons (eC (.int 50)) (aCons (eOp2 powT (oV (eC (.int 10))) (oV (eC (.int 40)))) (aNil))))) (oV (eFun f_law_coin (osCons (oLate 0) (osCons (oV (eC (.int 2))) (osNil)))))) (aNil)))
theorem ap_c_law_wrong_row_1 {ρ : Env} : c_law_wrong_row_1 ρ = (sPar2 3 4 (aCons (eCall listT (osCons (oLate 1) (osNil))) (aCons (eOp2 ixT (oV (eLst (aCons (eC (.int 50)) (aCons (eOp2 powT (oV (eC (.int 10))) (oV (eC (.int 40)))) (aNil))))) (oV (eFun f_law_coin (osCons (oLate 0) (osCons (oV (eC (.int 2))) (osNil)))))) (aNil)))) ρ := rfl
def c_law_wrong_row_2 : Env → Fl :=
    sAsg (gSlot 6) (eOp2 ixT (oV (eLst (aCons (eOp2 subT (oV (eOp1 negT (oV (eC (.int 1))))) (oV (eFun f_law_coin (osCons (oLate 0) (osCons (oV (eVar 4)) (osNil)))))) (aCons (eVar 2) (aCons (eOp2 addT (oLate 2) (oV (eFun f_law_coin (osCons (oLate 0) (osCons (oV (eVar 4)) (osNil)))))) (aNil)))))) (oV (eFun f_law_coin (osCons (oLate 0) (osCons (oV (eC (.int 3))) (osNil))))))
theorem ap_c_law_wrong_row_2 {ρ : Env} : c_law_wrong_row_2 ρ = (sAsg (gSlot 6) (eOp2 ixT (oV (eLst (aCons (eOp2 subT (oV (eOp1 negT (oV (eC (.int 1))))) (oV (eFun f_law_coin (osCons (oLate 0) (osCons (oV (eVar 4)) (osNil)))))) (aCons (eVar 2) (aCons (eOp2 addT (oLate 2) (oV (eFun f_law_coin (osCons (oLate 0) (osCons (oV (eVar 4)) (osNil)))))) (aNil)))))) (oV (eFun f_law_coin (osCons (oLate 0) (osCons (oV (eC (.int 3))) (osNil))))))) ρ := rfl
def b_law_wrong_row_1 : Env → Fl :=
    sSeq (c_law_wrong_row_2)
    (sSetI 3 (eMove 6) (oV (eOp2 addT (oV (eC (.int 1))) (oV (eFun f_law_coin (osCons (oLate 0) (osCons (oV (eC (.int 4))) (osNil))))))))
theorem ap_b_law_wrong_row_1 {ρ : Env} : b_law_wrong_row_1 ρ = (sSeq (c_law_wrong_row_2)
    (sSetI 3 (eMove 6) (oV (eOp2 addT (oV (eC (.int 1))) (oV (eFun f_law_coin (osCons (oLate 0) (osCons (oV (eC (.int 4))) (osNil))))))))) ρ := rfl
def c_law_wrong_row_3 : Env → Fl :=
    sFor [5, 6] (iCall rangeOf1 (osCons (oV (eOp2 addT (oV (eC (.int 1))) (oV (eFun f_law_coin (osCons (oLate 0) (osCons (oV (eC (.int 2))) (osNil))))))) (osNil))) (gSlot 5)
    (b_law_wrong_row_1)
theorem ap_c_law_wrong_row_3 {ρ : Env} : c_law_wrong_row_3 ρ = (sFor [5, 6] (iCall rangeOf1 (osCons (oV (eOp2 addT (oV (eC (.int 1))) (oV (eFun f_law_coin (osCons (oLate 0) (osCons (oV (eC (.int 2))) (osNil))))))) (osNil))) (gSlot 5)
    (b_law_wrong_row_1)) ρ := rfl
def m_law_wrong_row : Env → Fl :=
    sSeq (c_law_wrong_row_1)
    (sSeq (c_law_wrong_row_3)
    (sRet (eCall tupleT (osCons (oLate 3) (osNil)))))
def f_law_wrong_row : List T → Rs := runF 7 3 m_law_wrong_row
theorem ok_law_wrong_row {fa : Addr} {fd : FuncData} (F : Fun K "_law_wrong_row" "_law_wrong_row" s_law_wrong_row fa fd) (T : Txt mg) (D_law_coin : DefG P w K mg base "_law_coin" 1 2 f_law_coin) : FnG P w K mg base 2 fa fd ["purse", "row", "many"] (spF K mg 3 f_law_wrong_row) := by
  refine fn_okG (N := N_law_wrong_row) (ps := ["purse", "row", "many"]) F sc_law_wrong_row (m := m_law_wrong_row) (fun cdv A outer s H vs E hr hgu => ?_)
  have hu := hu70 hr
  have hp := passes_def (P := P) (w := w) (K := K) (mg := mg) (base := base) (N := N_law_wrong_row) (qual := "_law_wrong_row") (sc := defScope s_law_wrong_row) (f := fa) (cdv := cdv) (A := A) (outer := outer) (s := s) (H := H) (E := E)
  exact fb_cons (fs_par2 3 4 rfl sc_law_wrong_row.nd (fa_cons (fe_call (fos_cons (fo_late 1) (fos_nil)) list_f fun _ pa => pe_callTy call_list_of (by rfl) T.n_list (by decide +kernel) pa) (fa_cons (fe_ix (fo_v (fe_lst (fa_cons (fe_int) (fa_cons (fe_pow (fo_v (fe_int)) (fo_v (fe_int))) (fa_nil))))) (fo_v (fe_defG D_law_coin takes_def (hr.mono (by decide)) hgu (fos_cons (fo_late 0) (fos_cons (fo_v (fe_int)) (fos_nil))) (osCons_len (osCons_len osNil_len))))) (fa_nil))) (by decide))
    (fb_cons (fs_for [5, 6] hp rfl (fi_range1 (by rfl) T.n_range (fo_v (fe_add (fo_v (fe_int)) (fo_v (fe_defG D_law_coin takes_def (hr.mono (by decide)) hgu (fos_cons (fo_late 0) (fos_cons (fo_v (fe_int)) (fos_nil))) (osCons_len (osCons_len osNil_len))))))) (fg_name 5 sc_law_wrong_row.nd)
    (fb_cons (fs_set 6 sc_law_wrong_row.nd (fe_ix (fo_v (fe_lst (fa_cons (fe_sub (fo_v (fe_neg (fo_v (fe_int)))) (fo_v (fe_defG D_law_coin takes_def (hr.mono (by decide)) hgu (fos_cons (fo_late 0) (fos_cons (fo_v (fe_var 4)) (fos_nil))) (osCons_len (osCons_len osNil_len))))) (fa_cons (fe_var 2) (fa_cons (fe_add (fo_late 2) (fo_v (fe_defG D_law_coin takes_def (hr.mono (by decide)) hgu (fos_cons (fo_late 0) (fos_cons (fo_v (fe_var 4)) (fos_nil))) (osCons_len (osCons_len osNil_len))))) (fa_nil)))))) (fo_v (fe_defG D_law_coin takes_def (hr.mono (by decide)) hgu (fos_cons (fo_late 0) (fos_cons (fo_v (fe_int)) (fos_nil))) (osCons_len (osCons_len osNil_len))))))
    (fb_one (fs_setI 3 (fe_move 6) (fo_v (fe_add (fo_v (fe_int)) (fo_v (fe_defG D_law_coin takes_def (hr.mono (by decide)) hgu (fos_cons (fo_late 0) (fos_cons (fo_v (fe_int)) (fos_nil))) (osCons_len (osCons_len osNil_len))))))))))
    (fb_one (fs_ret (fe_call (fos_cons (fo_late 3) (fos_nil)) tuple_f fun _ pa => pe_callTy call_tuple_of (by rfl) T.n_tuple (by decide +kernel) pa))))
/-! Rule.states(self) -/
abbrev s_Rule_states : Stmt := (clsBody (topS 7) 3)
abbrev N_Rule_states : List Str := ["self"]
theorem sc_Rule_states : FnScope N_Rule_states ["self"] (defScope s_Rule_states) := ⟨rfl, rfl, rfl, by decide +kernel, rfl, by decide +kernel, by decide +kernel⟩
def m_Rule_states : Env → Fl :=
    sRet (eCall listT (osCons (oV (eOp1 (fldT "Rule" "kept_states") (oLate 0))) (osNil)))
def f_Rule_states : List T → Rs := runF 1 1 m_Rule_states
theorem ok_Rule_states {fa : Addr} {fd : FuncData} (F : Fun K "states" "Rule.states" s_Rule_states fa fd) (T : Txt mg) (L_Rule : FldD K mg "Rule" ["kept_every", "kept_losses", "kept_states"]) : FnOk P w K mg base (L2.CX P w) 1 fa fd ["self"] (spF K mg 1 f_Rule_states) := by
  refine fn_ok (N := N_Rule_states) (ps := ["self"]) F sc_Rule_states (m := m_Rule_states) (fun cdv A outer s H vs E hr => ?_)
  have hu := hu70 hr
  have hp := passes_def (P := P) (w := w) (K := K) (mg := mg) (base := base) (N := N_Rule_states) (qual := "Rule.states") (sc := defScope s_Rule_states) (f := fa) (cdv := cdv) (A := A) (outer := outer) (s := s) (H := H) (E := E)
  exact fb_one (fs_ret (fe_call (fos_cons (fo_v (fe_fld (L_Rule.at (by decide)) (fo_late 0))) (fos_nil)) list_f fun _ pa => pe_callTy call_list_of (by rfl) T.n_list (by decide +kernel) pa))
/-! _law_right(purse) -/
abbrev s_law_right : Stmt := (topS 14)
abbrev N_law_right : List Str := ["purse", "plan", "rows", "many", "turn", "at", "passed", "named", "made"]
theorem sc_law_right : FnScope N_law_right ["purse"] (defScope s_law_right) := ⟨rfl, rfl, rfl, by decide +kernel, rfl, by decide +kernel, by decide +kernel⟩
def c_law_right_1 : Env → Fl :=
    sAsg (gSlot 1) (eFun f_law_drawn_rule (osCons (oLate 0) (osCons (oV (eOp2 ixT (oV (eLst (aCons (eTup (aCons (eC (.int 40)) (aCons (eC (.int 99)) (aCons (eC (.int 9)) (aNil))))) (aCons (eTup (aCons (eC (.int 3)) (aCons (eC (.int 9)) (aCons (eC (.int 3)) (aNil))))) (aNil))))) (oV (eFun f_law_coin (osCons (oLate 0) (osCons (oV (eC (.int 2))) (osNil))))))) (osNil))))
theorem ap_c_law_right_1 {ρ : Env} : c_law_right_1 ρ = (sAsg (gSlot 1) (eFun f_law_drawn_rule (osCons (oLate 0) (osCons (oV (eOp2 ixT (oV (eLst (aCons (eTup (aCons (eC (.int 40)) (aCons (eC (.int 99)) (aCons (eC (.int 9)) (aNil))))) (aCons (eTup (aCons (eC (.int 3)) (aCons (eC (.int 9)) (aCons (eC (.int 3)) (aNil))))) (aNil))))) (oV (eFun f_law_coin (osCons (oLate 0) (osCons (oV (eC (.int 2))) (osNil))))))) (osNil))))) ρ := rfl
def c_law_right_2 : Env → Fl :=
    sIf (bVal (eOp2 neT (oV (eCall reprT (osCons (oV (eFun f_law_refused (osCons (oV (eOp2 ixT (oV (eVar 1)) (oV (eC (.int 0))))) (osCons (oV (eOp2 ixT (oV (eVar 1)) (oV (eC (.int 1))))) (osCons (oV (eLst (aNil))) (osCons (oV (eOp2 eqT (oV (eFun f_law_coin (osCons (oLate 0) (osCons (oV (eC (.int 2))) (osNil))))) (oV (eC (.int 0))))) (osNil))))))) (osNil)))) (oV (eCall reprT (osCons (oV (eTup (aCons (eC (.str "state")) (aCons (eC (.int 0)) (aNil))))) (osNil))))))
    (sRet (eC (.bool false)))
    (sNil)
theorem ap_c_law_right_2 {ρ : Env} : c_law_right_2 ρ = (sIf (bVal (eOp2 neT (oV (eCall reprT (osCons (oV (eFun f_law_refused (osCons (oV (eOp2 ixT (oV (eVar 1)) (oV (eC (.int 0))))) (osCons (oV (eOp2 ixT (oV (eVar 1)) (oV (eC (.int 1))))) (osCons (oV (eLst (aNil))) (osCons (oV (eOp2 eqT (oV (eFun f_law_coin (osCons (oLate 0) (osCons (oV (eC (.int 2))) (osNil))))) (oV (eC (.int 0))))) (osNil))))))) (osNil)))) (oV (eCall reprT (osCons (oV (eTup (aCons (eC (.str "state")) (aCons (eC (.int 0)) (aNil))))) (osNil))))))
    (sRet (eC (.bool false)))
    (sNil)) ρ := rfl
def b_law_right_1 : Env → Fl :=
    sSeq (sAsg (gSlot 5) (eFun f_law_coin (osCons (oLate 0) (osCons (oV (eVar 3)) (osNil)))))
    (sSetI 2 (eFun f_law_wrong_row (osCons (oLate 0) (osCons (oV (eOp2 ixT (oV (eOp2 ixT (oV (eVar 1)) (oV (eC (.int 2))))) (oLate 5))) (osCons (oV (eVar 3)) (osNil))))) (oLate 5))
theorem ap_b_law_right_1 {ρ : Env} : b_law_right_1 ρ = (sSeq (sAsg (gSlot 5) (eFun f_law_coin (osCons (oLate 0) (osCons (oV (eVar 3)) (osNil)))))
    (sSetI 2 (eFun f_law_wrong_row (osCons (oLate 0) (osCons (oV (eOp2 ixT (oV (eOp2 ixT (oV (eVar 1)) (oV (eC (.int 2))))) (oLate 5))) (osCons (oV (eVar 3)) (osNil))))) (oLate 5))) ρ := rfl
def c_law_right_3 : Env → Fl :=
    sFor [4, 5] (iCall rangeOf1 (osCons (oV (eOp2 addT (oV (eC (.int 1))) (oV (eFun f_law_coin (osCons (oLate 0) (osCons (oV (eC (.int 3))) (osNil))))))) (osNil))) (gSlot 4)
    (b_law_right_1)
theorem ap_c_law_right_3 {ρ : Env} : c_law_right_3 ρ = (sFor [4, 5] (iCall rangeOf1 (osCons (oV (eOp2 addT (oV (eC (.int 1))) (oV (eFun f_law_coin (osCons (oLate 0) (osCons (oV (eC (.int 3))) (osNil))))))) (osNil))) (gSlot 4)
    (b_law_right_1)) ρ := rfl
def c_law_right_4 : Env → Fl :=
    sIf (bVal (eOp2 neT (oV (eCall reprT (osCons (oV (eFunB [true, true, true, true] f_law_refused (osCons (oV (eOp2 ixT (oV (eVar 1)) (oV (eC (.int 0))))) (osCons (oV (eOp2 ixT (oV (eVar 1)) (oV (eC (.int 1))))) (osCons (oLate 6) (osCons (oV (eVar 7)) (osNil))))))) (osNil)))) (oV (eCall reprT (osCons (oV (eTup (aCons (eC (.str "state")) (aCons (eVar 5) (aNil))))) (osNil))))))
    (sRet (eC (.bool false)))
    (sNil)
theorem ap_c_law_right_4 {ρ : Env} : c_law_right_4 ρ = (sIf (bVal (eOp2 neT (oV (eCall reprT (osCons (oV (eFunB [true, true, true, true] f_law_refused (osCons (oV (eOp2 ixT (oV (eVar 1)) (oV (eC (.int 0))))) (osCons (oV (eOp2 ixT (oV (eVar 1)) (oV (eC (.int 1))))) (osCons (oLate 6) (osCons (oV (eVar 7)) (osNil))))))) (osNil)))) (oV (eCall reprT (osCons (oV (eTup (aCons (eC (.str "state")) (aCons (eVar 5) (aNil))))) (osNil))))))
    (sRet (eC (.bool false)))
    (sNil)) ρ := rfl
def c_law_right_5 : Env → Fl :=
    sFor [4] (iCall rangeOf1 (osCons (oV (eC (.int 2))) (osNil))) (gSlot 4)
    (c_law_right_4)
theorem ap_c_law_right_5 {ρ : Env} : c_law_right_5 ρ = (sFor [4] (iCall rangeOf1 (osCons (oV (eC (.int 2))) (osNil))) (gSlot 4)
    (c_law_right_4)) ρ := rfl
def c_law_right_6 : Env → Fl :=
    sKill [4, 6, 7] (sIf (bVal (eOp2 neT (oV (eOp2 ixT (oLate 2) (oLate 5))) (oV (eOp2 ixT (oV (eOp2 ixT (oV (eVar 1)) (oV (eC (.int 2))))) (oLate 5)))))
    (sSeq (sPar2 6 7 (aCons (eCall listT (osCons (oLate 2) (osNil))) (aCons (eOp2 eqT (oV (eFun f_law_coin (osCons (oLate 0) (osCons (oV (eC (.int 2))) (osNil))))) (oV (eC (.int 0)))) (aNil))))
    (sSeq (c_law_right_5)
    (sSeq (sIf (bVal (eOp2 neT (oV (eCall reprT (osCons (oLate 6) (osNil)))) (oV (eCall reprT (osCons (oLate 2) (osNil))))))
    (sRet (eC (.bool false)))
    (sNil))
    (sSetI 2 (eOp2 ixT (oV (eOp2 ixT (oV (eVar 1)) (oV (eC (.int 2))))) (oLate 5)) (oLate 5)))))
    (sNil))
theorem ap_c_law_right_6 {ρ : Env} : c_law_right_6 ρ = (sKill [4, 6, 7] (sIf (bVal (eOp2 neT (oV (eOp2 ixT (oLate 2) (oLate 5))) (oV (eOp2 ixT (oV (eOp2 ixT (oV (eVar 1)) (oV (eC (.int 2))))) (oLate 5)))))
    (sSeq (sPar2 6 7 (aCons (eCall listT (osCons (oLate 2) (osNil))) (aCons (eOp2 eqT (oV (eFun f_law_coin (osCons (oLate 0) (osCons (oV (eC (.int 2))) (osNil))))) (oV (eC (.int 0)))) (aNil))))
    (sSeq (c_law_right_5)
    (sSeq (sIf (bVal (eOp2 neT (oV (eCall reprT (osCons (oLate 6) (osNil)))) (oV (eCall reprT (osCons (oLate 2) (osNil))))))
    (sRet (eC (.bool false)))
    (sNil))
    (sSetI 2 (eOp2 ixT (oV (eOp2 ixT (oV (eVar 1)) (oV (eC (.int 2))))) (oLate 5)) (oLate 5)))))
    (sNil))) ρ := rfl
def c_law_right_7 : Env → Fl :=
    sFor [4, 5, 6, 7] (iCall rangeOf1 (osCons (oLate 3) (osNil))) (gSlot 5)
    (c_law_right_6)
theorem ap_c_law_right_7 {ρ : Env} : c_law_right_7 ρ = (sFor [4, 5, 6, 7] (iCall rangeOf1 (osCons (oLate 3) (osNil))) (gSlot 5)
    (c_law_right_6)) ρ := rfl
def c_law_right_8 : Env → Fl :=
    sAsg (gSlot 8) (eFun f_law_refused (osCons (oV (eOp2 ixT (oV (eVar 1)) (oV (eC (.int 0))))) (osCons (oV (eOp2 ixT (oV (eVar 1)) (oV (eC (.int 1))))) (osCons (oV (eMove 2)) (osCons (oV (eOp2 eqT (oV (eFun f_law_coin (osCons (oLate 0) (osCons (oV (eC (.int 2))) (osNil))))) (oV (eC (.int 0))))) (osNil))))))
theorem ap_c_law_right_8 {ρ : Env} : c_law_right_8 ρ = (sAsg (gSlot 8) (eFun f_law_refused (osCons (oV (eOp2 ixT (oV (eVar 1)) (oV (eC (.int 0))))) (osCons (oV (eOp2 ixT (oV (eVar 1)) (oV (eC (.int 1))))) (osCons (oV (eMove 2)) (osCons (oV (eOp2 eqT (oV (eFun f_law_coin (osCons (oLate 0) (osCons (oV (eC (.int 2))) (osNil))))) (oV (eC (.int 0))))) (osNil))))))) ρ := rfl
def m_law_right : Env → Fl :=
    sSeq (c_law_right_1)
    (sSeq (c_law_right_2)
    (sSeq (sPar2 2 3 (aCons (eCall listT (osCons (oV (eOp2 ixT (oV (eVar 1)) (oV (eC (.int 2))))) (osNil))) (aCons (eCall lenT (osCons (oV (eOp2 ixT (oV (eVar 1)) (oV (eC (.int 2))))) (osNil))) (aNil))))
    (sSeq (c_law_right_3)
    (sSeq (c_law_right_7)
    (sSeq (c_law_right_8)
    (sRet (eAnd (eOp1 (isiT "Rule") (oLate 8)) (eOp2 eqT (oV (eCall reprT (osCons (oV (eOp1 (propT "Rule" f_Rule_states) (oLate 8))) (osNil)))) (oV (eCall reprT (osCons (oV (eOp2 ixT (oV (eVar 1)) (oV (eC (.int 2))))) (osNil))))))))))))
def f_law_right : List T → Rs := runF 9 1 m_law_right
theorem ok_law_right {fa : Addr} {fd : FuncData} (F : Fun K "_law_right" "_law_right" s_law_right fa fd) (T : Txt mg) (D_law_drawn_rule : DefG P w K mg base "_law_drawn_rule" 2 2 f_law_drawn_rule) (D_law_refused : DefG P w K mg base "_law_refused" 5 4 f_law_refused) (D_law_coin : DefG P w K mg base "_law_coin" 1 2 f_law_coin) (D_law_wrong_row : DefG P w K mg base "_law_wrong_row" 2 3 f_law_wrong_row) (I_Rule : IsiE K mg "Rule") (P_Rule_states : PropD P w K mg base "Rule" "states" 1 f_Rule_states) : FnG P w K mg base 6 fa fd ["purse"] (spF K mg 1 f_law_right) := by
  refine fn_okG (N := N_law_right) (ps := ["purse"]) F sc_law_right (m := m_law_right) (fun cdv A outer s H vs E hr hgu => ?_)
  have hu := hu70 hr
  have hp := passes_def (P := P) (w := w) (K := K) (mg := mg) (base := base) (N := N_law_right) (qual := "_law_right") (sc := defScope s_law_right) (f := fa) (cdv := cdv) (A := A) (outer := outer) (s := s) (H := H) (E := E)
  exact fb_cons (fs_set 1 sc_law_right.nd (fe_defG D_law_drawn_rule takes_def (hr.mono (by decide)) hgu (fos_cons (fo_late 0) (fos_cons (fo_v (fe_ix (fo_v (fe_lst (fa_cons (fe_tup (fa_cons (fe_int) (fa_cons (fe_int) (fa_cons (fe_int) (fa_nil))))) (fa_cons (fe_tup (fa_cons (fe_int) (fa_cons (fe_int) (fa_cons (fe_int) (fa_nil))))) (fa_nil))))) (fo_v (fe_defG D_law_coin takes_def (hr.mono (by decide)) hgu (fos_cons (fo_late 0) (fos_cons (fo_v (fe_int)) (fos_nil))) (osCons_len (osCons_len osNil_len)))))) (fos_nil))) (osCons_len (osCons_len osNil_len))))
    (fb_cons (fs_if (ft_cmp (neR hu) ne_f (fo_v (fe_call (fos_cons (fo_v (fe_defG D_law_refused takes_def (hr.mono (by decide)) hgu (fos_cons (fo_v (fe_ix (fo_v (fe_var 1)) (fo_v (fe_int)))) (fos_cons (fo_v (fe_ix (fo_v (fe_var 1)) (fo_v (fe_int)))) (fos_cons (fo_v (fe_lst (fa_nil))) (fos_cons (fo_v (fe_cmp (eqR hu) eq_f (fo_v (fe_defG D_law_coin takes_def (hr.mono (by decide)) hgu (fos_cons (fo_late 0) (fos_cons (fo_v (fe_int)) (fos_nil))) (osCons_len (osCons_len osNil_len)))) (fo_v (fe_int)))) (fos_nil))))) (osCons_len (osCons_len (osCons_len (osCons_len osNil_len)))))) (fos_nil)) repr_f fun _ pa => pe_callB (reprR hu hgu) (by rfl) T.n_repr (by decide +kernel) pa)) (fo_v (fe_call (fos_cons (fo_v (fe_tup (fa_cons (fe_str) (fa_cons (fe_int) (fa_nil))))) (fos_nil)) repr_f fun _ pa => pe_callB (reprR hu hgu) (by rfl) T.n_repr (by decide +kernel) pa)) (by rfl))
    (fb_one (fs_ret (fe_bl)))
    (fb_nil))
    (fb_cons (fs_par2 2 3 rfl sc_law_right.nd (fa_cons (fe_call (fos_cons (fo_v (fe_ix (fo_v (fe_var 1)) (fo_v (fe_int)))) (fos_nil)) list_f fun _ pa => pe_callTy call_list_of (by rfl) T.n_list (by decide +kernel) pa) (fa_cons (fe_call (fos_cons (fo_v (fe_ix (fo_v (fe_var 1)) (fo_v (fe_int)))) (fos_nil)) len_f fun _ pa => pe_callB call_len (by rfl) T.n_len (by decide +kernel) pa) (fa_nil))) (by decide))
    (fb_cons (fs_for [4, 5] hp rfl (fi_range1 (by rfl) T.n_range (fo_v (fe_add (fo_v (fe_int)) (fo_v (fe_defG D_law_coin takes_def (hr.mono (by decide)) hgu (fos_cons (fo_late 0) (fos_cons (fo_v (fe_int)) (fos_nil))) (osCons_len (osCons_len osNil_len))))))) (fg_name 4 sc_law_right.nd)
    (fb_cons (fs_set 5 sc_law_right.nd (fe_defG D_law_coin takes_def (hr.mono (by decide)) hgu (fos_cons (fo_late 0) (fos_cons (fo_v (fe_var 3)) (fos_nil))) (osCons_len (osCons_len osNil_len))))
    (fb_one (fs_setI 2 (fe_defG D_law_wrong_row takes_def (hr.mono (by decide)) hgu (fos_cons (fo_late 0) (fos_cons (fo_v (fe_ix (fo_v (fe_ix (fo_v (fe_var 1)) (fo_v (fe_int)))) (fo_late 5))) (fos_cons (fo_v (fe_var 3)) (fos_nil)))) (osCons_len (osCons_len (osCons_len osNil_len)))) (fo_late 5)))))
    (fb_cons (fs_for [4, 5, 6, 7] hp rfl (fi_range1 (by rfl) T.n_range (fo_late 3)) (fg_name 5 sc_law_right.nd)
    (fb_one (fs_kill [4, 6, 7] (fs_if (ft_cmp (neR hu) ne_f (fo_v (fe_ix (fo_late 2) (fo_late 5))) (fo_v (fe_ix (fo_v (fe_ix (fo_v (fe_var 1)) (fo_v (fe_int)))) (fo_late 5))) (by rfl))
    (fb_cons (fs_par2 6 7 rfl sc_law_right.nd (fa_cons (fe_call (fos_cons (fo_late 2) (fos_nil)) list_f fun _ pa => pe_callTy call_list_of (by rfl) T.n_list (by decide +kernel) pa) (fa_cons (fe_cmp (eqR hu) eq_f (fo_v (fe_defG D_law_coin takes_def (hr.mono (by decide)) hgu (fos_cons (fo_late 0) (fos_cons (fo_v (fe_int)) (fos_nil))) (osCons_len (osCons_len osNil_len)))) (fo_v (fe_int))) (fa_nil))) (by decide))
    (fb_cons (fs_for [4] hp rfl (fi_range1 (by rfl) T.n_range (fo_v (fe_int))) (fg_name 4 sc_law_right.nd)
    (fb_one (fs_if (ft_cmp (neR hu) ne_f (fo_v (fe_call (fos_cons (fo_v (fe_defGB [true, true, true, true] D_law_refused takes_def (hr.mono (by decide)) hgu (fos_cons (fo_v (fe_ix (fo_v (fe_var 1)) (fo_v (fe_int)))) (fos_cons (fo_v (fe_ix (fo_v (fe_var 1)) (fo_v (fe_int)))) (fos_cons (fo_late 6) (fos_cons (fo_v (fe_var 7)) (fos_nil))))) (osCons_len (osCons_len (osCons_len (osCons_len osNil_len)))))) (fos_nil)) repr_f fun _ pa => pe_callB (reprR hu hgu) (by rfl) T.n_repr (by decide +kernel) pa)) (fo_v (fe_call (fos_cons (fo_v (fe_tup (fa_cons (fe_str) (fa_cons (fe_var 5) (fa_nil))))) (fos_nil)) repr_f fun _ pa => pe_callB (reprR hu hgu) (by rfl) T.n_repr (by decide +kernel) pa)) (by rfl))
    (fb_one (fs_ret (fe_bl)))
    (fb_nil))))
    (fb_cons (fs_if (ft_cmp (neR hu) ne_f (fo_v (fe_call (fos_cons (fo_late 6) (fos_nil)) repr_f fun _ pa => pe_callB (reprR hu hgu) (by rfl) T.n_repr (by decide +kernel) pa)) (fo_v (fe_call (fos_cons (fo_late 2) (fos_nil)) repr_f fun _ pa => pe_callB (reprR hu hgu) (by rfl) T.n_repr (by decide +kernel) pa)) (by rfl))
    (fb_one (fs_ret (fe_bl)))
    (fb_nil))
    (fb_one (fs_setI 2 (fe_ix (fo_v (fe_ix (fo_v (fe_var 1)) (fo_v (fe_int)))) (fo_late 5)) (fo_late 5))))))
    (fb_nil)))))
    (fb_cons (fs_set 8 sc_law_right.nd (fe_defG D_law_refused takes_def (hr.mono (by decide)) hgu (fos_cons (fo_v (fe_ix (fo_v (fe_var 1)) (fo_v (fe_int)))) (fos_cons (fo_v (fe_ix (fo_v (fe_var 1)) (fo_v (fe_int)))) (fos_cons (fo_v (fe_move 2)) (fos_cons (fo_v (fe_cmp (eqR hu) eq_f (fo_v (fe_defG D_law_coin takes_def (hr.mono (by decide)) hgu (fos_cons (fo_late 0) (fos_cons (fo_v (fe_int)) (fos_nil))) (osCons_len (osCons_len osNil_len)))) (fo_v (fe_int)))) (fos_nil))))) (osCons_len (osCons_len (osCons_len (osCons_len osNil_len))))))
    (fb_one (fs_ret (fe_and (fe_is I_Rule T.n_isinstance (fo_late 8)) (fe_one1 (fe_cmp (eqR hu) eq_f (fo_v (fe_call (fos_cons (fo_v (fe_prop P_Rule_states (hr.mono (by decide)) (fo_late 8))) (fos_nil)) repr_f fun _ pa => pe_callB (reprR hu hgu) (by rfl) T.n_repr (by decide +kernel) pa)) (fo_v (fe_call (fos_cons (fo_v (fe_ix (fo_v (fe_var 1)) (fo_v (fe_int)))) (fos_nil)) repr_f fun _ pa => pe_callB (reprR hu hgu) (by rfl) T.n_repr (by decide +kernel) pa))))))))))))
/-! law(script) -/
abbrev s_law : Stmt := (topS 15)
abbrev N_law : List Str := ["script", "spot", "purse", "turn"]
theorem sc_law : FnScope N_law ["script"] (defScope s_law) := ⟨rfl, rfl, rfl, by decide +kernel, rfl, by decide +kernel, by decide +kernel⟩
def b_law_1 : Env → Fl :=
    sIf (bNot (bTru (oV (eFun f_law_right (osCons (oLate 2) (osNil))))))
    (sRet (eC (.bool false)))
    (sNil)
theorem ap_b_law_1 {ρ : Env} : b_law_1 ρ = (sIf (bNot (bTru (oV (eFun f_law_right (osCons (oLate 2) (osNil))))))
    (sRet (eC (.bool false)))
    (sNil)) ρ := rfl
def c_law_1 : Env → Fl :=
    sFor [3] (iCall rangeOf1 (osCons (oV (eC (.int 2))) (osNil))) (gSlot 3)
    (b_law_1)
theorem ap_c_law_1 {ρ : Env} : c_law_1 ρ = (sFor [3] (iCall rangeOf1 (osCons (oV (eC (.int 2))) (osNil))) (gSlot 3)
    (b_law_1)) ρ := rfl
def b_law_2 : Env → Fl :=
    sSeq (sAsg (gSlot 2) (eFunB [true, true] f_law_purse (osCons (oLate 0) (osCons (oV (eMove 1)) (osNil)))))
    (c_law_1)
theorem ap_b_law_2 {ρ : Env} : b_law_2 ρ = (sSeq (sAsg (gSlot 2) (eFunB [true, true] f_law_purse (osCons (oLate 0) (osCons (oV (eMove 1)) (osNil)))))
    (c_law_1)) ρ := rfl
def c_law_2 : Env → Fl :=
    sFor [1, 2, 3] (iCall rangeOf1 (osCons (oV (eCall maxT2 (osCons (oV (eC (.int 1))) (osCons (oV (eCall minT2 (osCons (oV (eC (.int 6))) (osCons (oV (eCall lenT (osCons (oLate 0) (osNil)))) (osNil))))) (osNil))))) (osNil))) (gSlot 1)
    (b_law_2)
theorem ap_c_law_2 {ρ : Env} : c_law_2 ρ = (sFor [1, 2, 3] (iCall rangeOf1 (osCons (oV (eCall maxT2 (osCons (oV (eC (.int 1))) (osCons (oV (eCall minT2 (osCons (oV (eC (.int 6))) (osCons (oV (eCall lenT (osCons (oLate 0) (osNil)))) (osNil))))) (osNil))))) (osNil))) (gSlot 1)
    (b_law_2)) ρ := rfl
def m_law : Env → Fl :=
    sSeq (c_law_2)
    (sRet (eC (.bool true)))
def f_law : List T → Rs := runF 4 1 m_law
theorem ok_law {fa : Addr} {fd : FuncData} (F : Fun K "law" "law" s_law fa fd) (T : Txt mg) (D_law_purse : DefG P w K mg base "_law_purse" 1 2 f_law_purse) (D_law_right : DefG P w K mg base "_law_right" 6 1 f_law_right) : FnG P w K mg base 7 fa fd ["script"] (spF K mg 1 f_law) := by
  refine fn_okG (N := N_law) (ps := ["script"]) F sc_law (m := m_law) (fun cdv A outer s H vs E hr hgu => ?_)
  have hu := hu70 hr
  have hp := passes_def (P := P) (w := w) (K := K) (mg := mg) (base := base) (N := N_law) (qual := "law") (sc := defScope s_law) (f := fa) (cdv := cdv) (A := A) (outer := outer) (s := s) (H := H) (E := E)
  exact fb_cons (fs_for [1, 2, 3] hp rfl (fi_range1 (by rfl) T.n_range (fo_v (fe_call (fos_cons (fo_v (fe_int)) (fos_cons (fo_v (fe_call (fos_cons (fo_v (fe_int)) (fos_cons (fo_v (fe_call (fos_cons (fo_late 0) (fos_nil)) len_f fun _ pa => pe_callB call_len (by rfl) T.n_len (by decide +kernel) pa)) (fos_nil))) min2_f fun _ pa => pe_callB (call_min2 rfl) (by rfl) T.n_min (by decide +kernel) pa)) (fos_nil))) max2_f fun _ pa => pe_callB (call_max2 rfl) (by rfl) T.n_max (by decide +kernel) pa))) (fg_name 1 sc_law.nd)
    (fb_cons (fs_set 2 sc_law.nd (fe_defGB [true, true] D_law_purse takes_def (hr.mono (by decide)) hgu (fos_cons (fo_late 0) (fos_cons (fo_v (fe_move 1)) (fos_nil))) (osCons_len (osCons_len osNil_len))))
    (fb_one (fs_for [3] hp rfl (fi_range1 (by rfl) T.n_range (fo_v (fe_int))) (fg_name 3 sc_law.nd)
    (fb_one (fs_if (ft_not (ft_tru (fo_v (fe_defG D_law_right takes_def (hr.mono (by decide)) hgu (fos_cons (fo_late 2) (fos_nil)) (osCons_len osNil_len)))))
    (fb_one (fs_ret (fe_bl)))
    (fb_nil)))))))
    (fb_one (fs_ret (fe_bl)))
end
abbrev s_errIni : Stmt := clsBody (topS 2) 0
theorem all_mk {l : PySem.W.OpenLaw} {w : World} {K : PySem.W.Frag} {h : Heap} {mg : Str → Option Value} {fa f_law_purseA f_law_coinA f_law_drawn_ruleA f_first_looseA f_law_refusedA f_law_wrong_rowA f_law_rightA f_lawA C_RuleA f_Rule_initA p_Rule_statesA f_Rule_statesA E_StreamErrorA E_InvalidNumberA E_InvalidStateA f_errIniA : Addr} (X : K.In h) (G : h.Ns mainGlobals mg) (hfa : mg "law" = some (.ref fa))
    {od_law_purse an_law_purse od_law_coin an_law_coin od_law_drawn_rule an_law_drawn_rule od_first_loose an_first_loose od_law_refused an_law_refused od_law_wrong_row an_law_wrong_row od_law_right an_law_right od_law an_law od_Rule_init an_Rule_init od_Rule_states an_Rule_states od_errIni an_errIni : Option Addr} {sl_law_purse sl_law_coin sl_law_drawn_rule sl_first_loose sl_law_refused sl_law_wrong_row sl_law_right sl_law sl_Rule_init sl_Rule_states sl_errIni : Array (Option Value)}
    {oc_law_purse kV_law_purse dc_law_purse pm_law_purse cd_law_purse ct_law_purse oc_law_coin kV_law_coin dc_law_coin pm_law_coin cd_law_coin ct_law_coin oc_law_drawn_rule kV_law_drawn_rule dc_law_drawn_rule pm_law_drawn_rule cd_law_drawn_rule ct_law_drawn_rule oc_first_loose kV_first_loose dc_first_loose pm_first_loose cd_first_loose ct_first_loose oc_law_refused kV_law_refused dc_law_refused pm_law_refused cd_law_refused ct_law_refused oc_law_wrong_row kV_law_wrong_row dc_law_wrong_row pm_law_wrong_row cd_law_wrong_row ct_law_wrong_row oc_law_right kV_law_right dc_law_right pm_law_right cd_law_right ct_law_right oc_law kV_law dc_law pm_law cd_law ct_law oc_Rule_init kV_Rule_init dc_Rule_init pm_Rule_init cd_Rule_init ct_Rule_init oc_Rule_states kV_Rule_states dc_Rule_states pm_Rule_states cd_Rule_states ct_Rule_states oc_errIni kV_errIni dc_errIni pm_errIni cd_errIni ct_errIni : Value}
    {rr_Rule_states : List Value}
    {nm_StreamError q_StreamError : Str} {N_StreamError : Addr} {bs_StreamError bm_StreamError sub_StreamError : List Value} {sn_StreamError : List Str} {ab_StreamError : Bool} {col_StreamError : Option Bool} {dd_StreamError : Option Addr} {m0_StreamError m1_StreamError m2_StreamError m3_StreamError m5_StreamError : Option Value}
    {nm_InvalidNumber q_InvalidNumber : Str} {N_InvalidNumber : Addr} {bs_InvalidNumber bm_InvalidNumber sub_InvalidNumber : List Value} {sn_InvalidNumber : List Str} {ab_InvalidNumber : Bool} {col_InvalidNumber : Option Bool} {dd_InvalidNumber : Option Addr} {m0_InvalidNumber m1_InvalidNumber m2_InvalidNumber m3_InvalidNumber m5_InvalidNumber : Option Value}
    {nm_InvalidState q_InvalidState : Str} {N_InvalidState : Addr} {bs_InvalidState bm_InvalidState sub_InvalidState : List Value} {sn_InvalidState : List Str} {ab_InvalidState : Bool} {col_InvalidState : Option Bool} {dd_InvalidState : Option Addr} {m0_InvalidState m1_InvalidState m2_InvalidState m3_InvalidState m5_InvalidState : Option Value}
    (a_law_purse : PySem.W.nsIn K mainGlobals "_law_purse" = some (some (.ref f_law_purseA)))
    (l_law_purse : K.lookup f_law_purseA = some ⟨oc_law_purse, od_law_purse, .func (PySem.W.fnOf "_law_purse" "_law_purse" (defArgs s_law_purse) (defBody s_law_purse) (defScope s_law_purse) .none kV_law_purse dc_law_purse pm_law_purse an_law_purse cd_law_purse ct_law_purse), sl_law_purse⟩)
    (c_law_purse : PySem.W.codeIn K cd_law_purse "_law_purse" = true)
    (k_law_purse : PySem.W.keepIn K (.ref f_law_purseA) = true)
    (a_law_coin : PySem.W.nsIn K mainGlobals "_law_coin" = some (some (.ref f_law_coinA)))
    (l_law_coin : K.lookup f_law_coinA = some ⟨oc_law_coin, od_law_coin, .func (PySem.W.fnOf "_law_coin" "_law_coin" (defArgs s_law_coin) (defBody s_law_coin) (defScope s_law_coin) .none kV_law_coin dc_law_coin pm_law_coin an_law_coin cd_law_coin ct_law_coin), sl_law_coin⟩)
    (c_law_coin : PySem.W.codeIn K cd_law_coin "_law_coin" = true)
    (k_law_coin : PySem.W.keepIn K (.ref f_law_coinA) = true)
    (a_law_drawn_rule : PySem.W.nsIn K mainGlobals "_law_drawn_rule" = some (some (.ref f_law_drawn_ruleA)))
    (l_law_drawn_rule : K.lookup f_law_drawn_ruleA = some ⟨oc_law_drawn_rule, od_law_drawn_rule, .func (PySem.W.fnOf "_law_drawn_rule" "_law_drawn_rule" (defArgs s_law_drawn_rule) (defBody s_law_drawn_rule) (defScope s_law_drawn_rule) .none kV_law_drawn_rule dc_law_drawn_rule pm_law_drawn_rule an_law_drawn_rule cd_law_drawn_rule ct_law_drawn_rule), sl_law_drawn_rule⟩)
    (c_law_drawn_rule : PySem.W.codeIn K cd_law_drawn_rule "_law_drawn_rule" = true)
    (k_law_drawn_rule : PySem.W.keepIn K (.ref f_law_drawn_ruleA) = true)
    (a_first_loose : PySem.W.nsIn K mainGlobals "first_loose" = some (some (.ref f_first_looseA)))
    (l_first_loose : K.lookup f_first_looseA = some ⟨oc_first_loose, od_first_loose, .func (PySem.W.fnOf "first_loose" "first_loose" (defArgs s_first_loose) (defBody s_first_loose) (defScope s_first_loose) .none kV_first_loose dc_first_loose pm_first_loose an_first_loose cd_first_loose ct_first_loose), sl_first_loose⟩)
    (c_first_loose : PySem.W.codeIn K cd_first_loose "first_loose" = true)
    (k_first_loose : PySem.W.keepIn K (.ref f_first_looseA) = true)
    (a_law_refused : PySem.W.nsIn K mainGlobals "_law_refused" = some (some (.ref f_law_refusedA)))
    (l_law_refused : K.lookup f_law_refusedA = some ⟨oc_law_refused, od_law_refused, .func (PySem.W.fnOf "_law_refused" "_law_refused" (defArgs s_law_refused) (defBody s_law_refused) (defScope s_law_refused) .none kV_law_refused dc_law_refused pm_law_refused an_law_refused cd_law_refused ct_law_refused), sl_law_refused⟩)
    (c_law_refused : PySem.W.codeIn K cd_law_refused "_law_refused" = true)
    (k_law_refused : PySem.W.keepIn K (.ref f_law_refusedA) = true)
    (a_law_wrong_row : PySem.W.nsIn K mainGlobals "_law_wrong_row" = some (some (.ref f_law_wrong_rowA)))
    (l_law_wrong_row : K.lookup f_law_wrong_rowA = some ⟨oc_law_wrong_row, od_law_wrong_row, .func (PySem.W.fnOf "_law_wrong_row" "_law_wrong_row" (defArgs s_law_wrong_row) (defBody s_law_wrong_row) (defScope s_law_wrong_row) .none kV_law_wrong_row dc_law_wrong_row pm_law_wrong_row an_law_wrong_row cd_law_wrong_row ct_law_wrong_row), sl_law_wrong_row⟩)
    (c_law_wrong_row : PySem.W.codeIn K cd_law_wrong_row "_law_wrong_row" = true)
    (k_law_wrong_row : PySem.W.keepIn K (.ref f_law_wrong_rowA) = true)
    (a_law_right : PySem.W.nsIn K mainGlobals "_law_right" = some (some (.ref f_law_rightA)))
    (l_law_right : K.lookup f_law_rightA = some ⟨oc_law_right, od_law_right, .func (PySem.W.fnOf "_law_right" "_law_right" (defArgs s_law_right) (defBody s_law_right) (defScope s_law_right) .none kV_law_right dc_law_right pm_law_right an_law_right cd_law_right ct_law_right), sl_law_right⟩)
    (c_law_right : PySem.W.codeIn K cd_law_right "_law_right" = true)
    (k_law_right : PySem.W.keepIn K (.ref f_law_rightA) = true)
    (a_law : PySem.W.nsIn K mainGlobals "law" = some (some (.ref f_lawA)))
    (l_law : K.lookup f_lawA = some ⟨oc_law, od_law, .func (PySem.W.fnOf "law" "law" (defArgs s_law) (defBody s_law) (defScope s_law) .none kV_law dc_law pm_law an_law cd_law ct_law), sl_law⟩)
    (c_law : PySem.W.codeIn K cd_law "law" = true)
    (k_law : PySem.W.keepIn K (.ref f_lawA) = true)
    (a_Rule : PySem.W.nsIn K mainGlobals "Rule" = some (some (.ref C_RuleA)))
    (pg_Rule : PySem.W.plainGet K C_RuleA Str.empty = true)
    (hd_Rule : PySem.W.hasDictIn K C_RuleA = true)
    (po_Rule : PySem.W.plainOver K C_RuleA = true)
    (sa_Rule : PySem.W.findIn K (.ref C_RuleA) "__setattr__" = some (some (.builtin "object.__setattr__")))
    (mk_Rule : PySem.W.makesIn K C_RuleA = true)
    (kc_Rule : PySem.W.keepIn K (.ref C_RuleA) = true)
    (no_Rule_kept_every : PySem.W.findIn K (.ref C_RuleA) "kept_every" = some none)
    (no_Rule_kept_losses : PySem.W.findIn K (.ref C_RuleA) "kept_losses" = some none)
    (no_Rule_kept_states : PySem.W.findIn K (.ref C_RuleA) "kept_states" = some none)
    (i1_Rule : PySem.W.findIn K (.ref C_RuleA) "__class__" = some (some (.builtin "object.__class__")))
    (i4_Rule : PySem.W.mroIn K C_RuleA (.type "object") = some true)
    (ic_Rule : PySem.W.isClsIn K C_RuleA = true)
    (ty_Rule : PySem.W.typeIn K (.ref C_RuleA) = some (.type "type"))
    (i_NoneType_Rule : PySem.W.subIn K (.type "NoneType") (.ref C_RuleA) = some false)
    (i_bool_Rule : PySem.W.subIn K (.type "bool") (.ref C_RuleA) = some false)
    (i_int_Rule : PySem.W.subIn K (.type "int") (.ref C_RuleA) = some false)
    (i_str_Rule : PySem.W.subIn K (.type "str") (.ref C_RuleA) = some false)
    (i_list_Rule : PySem.W.subIn K (.type "list") (.ref C_RuleA) = some false)
    (i_tuple_Rule : PySem.W.subIn K (.type "tuple") (.ref C_RuleA) = some false)
    (i2 : PySem.W.specialIn K (.builtin "object.__class__") "__get__" = some (some (.builtin "getset_descriptor.__get__")))
    (i3 : PySem.W.takesIn K (.builtin "object.__class__") = some true)
    (a_Rule_init : PySem.W.findIn K (.ref C_RuleA) "__init__" = some (some (.ref f_Rule_initA)))
    (i_Rule_init : PySem.W.isFn K (.ref f_Rule_initA) = true)
    (l_Rule_init : K.lookup f_Rule_initA = some ⟨oc_Rule_init, od_Rule_init, .func (PySem.W.fnOf "__init__" "Rule.__init__" (defArgs s_Rule_init) (defBody s_Rule_init) (defScope s_Rule_init) .none kV_Rule_init dc_Rule_init pm_Rule_init an_Rule_init cd_Rule_init ct_Rule_init), sl_Rule_init⟩)
    (c_Rule_init : PySem.W.codeIn K cd_Rule_init "Rule.__init__" = true)
    (k_Rule_init : PySem.W.keepIn K (.ref f_Rule_initA) = true)
    (a_Rule_states : PySem.W.findIn K (.ref C_RuleA) "states" = some (some (.ref p_Rule_statesA)))
    (g_Rule_states : PySem.W.specialIn K (.ref p_Rule_statesA) "__get__" = some (some (.builtin "property.__get__")))
    (t_Rule_states : PySem.W.takesIn K (.ref p_Rule_statesA) = some true)
    (r_Rule_states : PySem.W.recIn K p_Rule_statesA "property" = some (.ref f_Rule_statesA :: rr_Rule_states))
    (l_Rule_states : K.lookup f_Rule_statesA = some ⟨oc_Rule_states, od_Rule_states, .func (PySem.W.fnOf "states" "Rule.states" (defArgs s_Rule_states) (defBody s_Rule_states) (defScope s_Rule_states) .none kV_Rule_states dc_Rule_states pm_Rule_states an_Rule_states cd_Rule_states ct_Rule_states), sl_Rule_states⟩)
    (c_Rule_states : PySem.W.codeIn K cd_Rule_states "Rule.states" = true)
    (k_Rule_states : PySem.W.keepIn K (.ref f_Rule_statesA) = true)
    (a_StreamError : PySem.W.nsIn K mainGlobals "StreamError" = some (some (.ref E_StreamErrorA)))
    (x_StreamError : K.lookup E_StreamErrorA = some (excClassObj nm_StreamError q_StreamError E_StreamErrorA N_StreamError bs_StreamError bm_StreamError true sn_StreamError sub_StreamError ab_StreamError col_StreamError dd_StreamError m0_StreamError m1_StreamError m2_StreamError m3_StreamError m5_StreamError "ValueError.__new__"))
    (b_StreamError : HandSPX.refsVE bm_StreamError = true)
    (ic_StreamError : PySem.W.isClsIn K E_StreamErrorA = true)
    (sa_StreamError : PySem.W.findIn K (.ref E_StreamErrorA) "__setattr__" = some (some (.builtin "object.__setattr__")))
    (ec_StreamError : PySem.W.subIn K (.ref E_StreamErrorA) (.type "BaseException") = some true)
    (ty_StreamError : PySem.W.typeIn K (.ref E_StreamErrorA) = some (.type "type"))
    (ke_StreamError : PySem.W.keepIn K (.ref E_StreamErrorA) = true)
    (ga_StreamError : PySem.W.findIn K (.ref E_StreamErrorA) "__getattribute__" = some (some (.builtin "BaseException.__getattribute__")))
    (gg_StreamError : PySem.W.findIn K (.ref E_StreamErrorA) "__getattr__" = some none)
    (hd_StreamError : PySem.W.hasDictIn K (E_StreamErrorA) = true)
    (in_StreamError : PySem.W.findIn K (.ref E_StreamErrorA) "__init__" = some (some (.ref f_errIniA)))
    (no_StreamError : PySem.W.findIn K (.ref E_StreamErrorA) "value" = some none)
    (a_InvalidNumber : PySem.W.nsIn K mainGlobals "InvalidNumber" = some (some (.ref E_InvalidNumberA)))
    (x_InvalidNumber : K.lookup E_InvalidNumberA = some (excClassObj nm_InvalidNumber q_InvalidNumber E_InvalidNumberA N_InvalidNumber bs_InvalidNumber bm_InvalidNumber true sn_InvalidNumber sub_InvalidNumber ab_InvalidNumber col_InvalidNumber dd_InvalidNumber m0_InvalidNumber m1_InvalidNumber m2_InvalidNumber m3_InvalidNumber m5_InvalidNumber "ValueError.__new__"))
    (b_InvalidNumber : HandSPX.refsVE bm_InvalidNumber = true)
    (ic_InvalidNumber : PySem.W.isClsIn K E_InvalidNumberA = true)
    (sa_InvalidNumber : PySem.W.findIn K (.ref E_InvalidNumberA) "__setattr__" = some (some (.builtin "object.__setattr__")))
    (ec_InvalidNumber : PySem.W.subIn K (.ref E_InvalidNumberA) (.type "BaseException") = some true)
    (ty_InvalidNumber : PySem.W.typeIn K (.ref E_InvalidNumberA) = some (.type "type"))
    (ke_InvalidNumber : PySem.W.keepIn K (.ref E_InvalidNumberA) = true)
    (ga_InvalidNumber : PySem.W.findIn K (.ref E_InvalidNumberA) "__getattribute__" = some (some (.builtin "BaseException.__getattribute__")))
    (gg_InvalidNumber : PySem.W.findIn K (.ref E_InvalidNumberA) "__getattr__" = some none)
    (hd_InvalidNumber : PySem.W.hasDictIn K (E_InvalidNumberA) = true)
    (in_InvalidNumber : PySem.W.findIn K (.ref E_InvalidNumberA) "__init__" = some (some (.ref f_errIniA)))
    (no_InvalidNumber : PySem.W.findIn K (.ref E_InvalidNumberA) "value" = some none)
    (a_InvalidState : PySem.W.nsIn K mainGlobals "InvalidState" = some (some (.ref E_InvalidStateA)))
    (x_InvalidState : K.lookup E_InvalidStateA = some (excClassObj nm_InvalidState q_InvalidState E_InvalidStateA N_InvalidState bs_InvalidState bm_InvalidState true sn_InvalidState sub_InvalidState ab_InvalidState col_InvalidState dd_InvalidState m0_InvalidState m1_InvalidState m2_InvalidState m3_InvalidState m5_InvalidState "ValueError.__new__"))
    (b_InvalidState : HandSPX.refsVE bm_InvalidState = true)
    (ic_InvalidState : PySem.W.isClsIn K E_InvalidStateA = true)
    (sa_InvalidState : PySem.W.findIn K (.ref E_InvalidStateA) "__setattr__" = some (some (.builtin "object.__setattr__")))
    (ec_InvalidState : PySem.W.subIn K (.ref E_InvalidStateA) (.type "BaseException") = some true)
    (ty_InvalidState : PySem.W.typeIn K (.ref E_InvalidStateA) = some (.type "type"))
    (ke_InvalidState : PySem.W.keepIn K (.ref E_InvalidStateA) = true)
    (ga_InvalidState : PySem.W.findIn K (.ref E_InvalidStateA) "__getattribute__" = some (some (.builtin "BaseException.__getattribute__")))
    (gg_InvalidState : PySem.W.findIn K (.ref E_InvalidStateA) "__getattr__" = some none)
    (hd_InvalidState : PySem.W.hasDictIn K (E_InvalidStateA) = true)
    (in_InvalidState : PySem.W.findIn K (.ref E_InvalidStateA) "__init__" = some (some (.ref f_errIniA)))
    (no_InvalidState : PySem.W.findIn K (.ref E_InvalidStateA) "value" = some none)
    (ti : PySem.W.typeIn K (.ref f_errIniA) = some (.type "function"))
    (l_errIni : K.lookup f_errIniA = some ⟨oc_errIni, od_errIni, .func (PySem.W.fnOf "__init__" "StreamError.__init__" (defArgs s_errIni) (defBody s_errIni) (defScope s_errIni) .none kV_errIni dc_errIni pm_errIni an_errIni cd_errIni ct_errIni), sl_errIni⟩)
    (c_errIni : PySem.W.codeIn K cd_errIni "StreamError.__init__" = true)
    (k_errIni : PySem.W.keepIn K (.ref f_errIniA) = true)
    (xm_StreamError_StreamError : PySem.W.subIn K (.ref E_StreamErrorA) (.ref E_StreamErrorA) = some true)
    (xm_StreamError_InvalidNumber : PySem.W.subIn K (.ref E_StreamErrorA) (.ref E_InvalidNumberA) = some false)
    (xm_StreamError_InvalidState : PySem.W.subIn K (.ref E_StreamErrorA) (.ref E_InvalidStateA) = some false)
    (xm_InvalidNumber_StreamError : PySem.W.subIn K (.ref E_InvalidNumberA) (.ref E_StreamErrorA) = some true)
    (xm_InvalidNumber_InvalidNumber : PySem.W.subIn K (.ref E_InvalidNumberA) (.ref E_InvalidNumberA) = some true)
    (xm_InvalidNumber_InvalidState : PySem.W.subIn K (.ref E_InvalidNumberA) (.ref E_InvalidStateA) = some false)
    (xm_InvalidState_StreamError : PySem.W.subIn K (.ref E_InvalidStateA) (.ref E_StreamErrorA) = some true)
    (xm_InvalidState_InvalidNumber : PySem.W.subIn K (.ref E_InvalidStateA) (.ref E_InvalidNumberA) = some false)
    (xm_InvalidState_InvalidState : PySem.W.subIn K (.ref E_InvalidStateA) (.ref E_InvalidStateA) = some true)
    (z_abs : PySem.W.nsIn K mainGlobals "abs" = some none)
    (z_any : PySem.W.nsIn K mainGlobals "any" = some none)
    (z_enumerate : PySem.W.nsIn K mainGlobals "enumerate" = some none)
    (z_int : PySem.W.nsIn K mainGlobals "int" = some none)
    (z_isinstance : PySem.W.nsIn K mainGlobals "isinstance" = some none)
    (z_len : PySem.W.nsIn K mainGlobals "len" = some none)
    (z_list : PySem.W.nsIn K mainGlobals "list" = some none)
    (z_max : PySem.W.nsIn K mainGlobals "max" = some none)
    (z_min : PySem.W.nsIn K mainGlobals "min" = some none)
    (z_range : PySem.W.nsIn K mainGlobals "range" = some none)
    (z_repr : PySem.W.nsIn K mainGlobals "repr" = some none)
    (z_tuple : PySem.W.nsIn K mainGlobals "tuple" = some none)
    : ∃ fd : FuncData, (∀ (s : Shared) (v : Value), BindsTo s fd ⟨[v], []⟩ [("script", v)]) ∧ ∀ base : Heap, K.In base → base.Ns mainGlobals mg → FnG l.prog w K mg base 7 fa fd ["script"] (spF K mg 1 f_law) := by
  have hlaw := hfa.symm.trans (PySem.W.mg_of X G a_law)
  cases hlaw
  have T : Txt mg := ⟨PySem.W.mg_none_of X G z_abs, PySem.W.mg_none_of X G z_any, PySem.W.mg_none_of X G z_enumerate, PySem.W.mg_none_of X G z_int, PySem.W.mg_none_of X G z_isinstance, PySem.W.mg_none_of X G z_len, PySem.W.mg_none_of X G z_list, PySem.W.mg_none_of X G z_max, PySem.W.mg_none_of X G z_min, PySem.W.mg_none_of X G z_range, PySem.W.mg_none_of X G z_repr, PySem.W.mg_none_of X G z_tuple⟩
  have F_law_purse := fun_mk (st := s_law_purse) l_law_purse c_law_purse k_law_purse
  have b_law_purse := F_law_purse.binds (ps := ["script", "place"]) fun _ _ _ _ _ _ us hl => match us, hl with | [_, _], _ => rfl
  have m_law_purse := PySem.W.mg_of X G a_law_purse
  have F_law_coin := fun_mk (st := s_law_coin) l_law_coin c_law_coin k_law_coin
  have b_law_coin := F_law_coin.binds (ps := ["purse", "many"]) fun _ _ _ _ _ _ us hl => match us, hl with | [_, _], _ => rfl
  have m_law_coin := PySem.W.mg_of X G a_law_coin
  have F_law_drawn_rule := fun_mk (st := s_law_drawn_rule) l_law_drawn_rule c_law_drawn_rule k_law_drawn_rule
  have b_law_drawn_rule := F_law_drawn_rule.binds (ps := ["purse", "sizes"]) fun _ _ _ _ _ _ us hl => match us, hl with | [_, _], _ => rfl
  have m_law_drawn_rule := PySem.W.mg_of X G a_law_drawn_rule
  have F_first_loose := fun_mk (st := s_first_loose) l_first_loose c_first_loose k_first_loose
  have b_first_loose := F_first_loose.binds (ps := ["states"]) fun _ _ _ _ _ _ us hl => match us, hl with | [_], _ => rfl
  have m_first_loose := PySem.W.mg_of X G a_first_loose
  have F_Rule_init := fun_mk (st := s_Rule_init) l_Rule_init c_Rule_init k_Rule_init
  have b_Rule_init := F_Rule_init.binds (ps := ["self", "every", "losses", "states"]) fun _ _ _ _ _ _ us hl => match us, hl with | [_, _, _, _], _ => rfl
  have F_law_refused := fun_mk (st := s_law_refused) l_law_refused c_law_refused k_law_refused
  have b_law_refused := F_law_refused.binds (ps := ["apart", "missing", "rows", "named"]) fun _ _ _ _ _ _ us hl => match us, hl with | [_, _, _, _], _ => rfl
  have m_law_refused := PySem.W.mg_of X G a_law_refused
  have F_law_wrong_row := fun_mk (st := s_law_wrong_row) l_law_wrong_row c_law_wrong_row k_law_wrong_row
  have b_law_wrong_row := F_law_wrong_row.binds (ps := ["purse", "row", "many"]) fun _ _ _ _ _ _ us hl => match us, hl with | [_, _, _], _ => rfl
  have m_law_wrong_row := PySem.W.mg_of X G a_law_wrong_row
  have F_Rule_states := fun_mk (st := s_Rule_states) l_Rule_states c_Rule_states k_Rule_states
  have b_Rule_states := F_Rule_states.binds (ps := ["self"]) fun _ _ _ _ _ _ us hl => match us, hl with | [_], _ => rfl
  have F_law_right := fun_mk (st := s_law_right) l_law_right c_law_right k_law_right
  have b_law_right := F_law_right.binds (ps := ["purse"]) fun _ _ _ _ _ _ us hl => match us, hl with | [_], _ => rfl
  have m_law_right := PySem.W.mg_of X G a_law_right
  have F_law := fun_mk (st := s_law) l_law c_law k_law
  have b_law := F_law.binds (ps := ["script"]) fun _ _ _ _ _ _ us hl => match us, hl with | [_], _ => rfl
  have m_law := PySem.W.mg_of X G a_law
  refine ⟨PySem.W.fnOf "law" "law" (defArgs s_law) (defBody s_law) (defScope s_law) .none kV_law dc_law pm_law an_law cd_law ct_law, fun s v => .of_eq rfl, fun base _ _ => ?_⟩
  have m_Rule := PySem.W.mg_of X G a_Rule
  have cl_Rule : Cls K C_RuleA := ⟨pg_Rule, hd_Rule, po_Rule, sa_Rule⟩
  have L_Rule : FldD K mg "Rule" ["kept_every", "kept_losses", "kept_states"] := fun C2 e2 => by
    rw [m_Rule] at e2; cases e2
    refine ⟨cl_Rule, fun f hf => ?_⟩
    simp only [List.mem_cons, List.not_mem_nil, or_false] at hf
    rcases hf with rfl | rfl | rfl <;> assumption
  have I_Rule : IsiE K mg "Rule" := ⟨fun C2 e2 => by
    rw [m_Rule] at e2; cases e2
    refine ⟨cl_Rule, i1_Rule, i2, i3, i4_Rule, kit_self, fun ty ht => kit_no ic_Rule ty_Rule ?_⟩
    simp only [List.mem_cons, List.not_mem_nil, or_false] at ht
    rcases ht with rfl | rfl | rfl | rfl | rfl | rfl <;> assumption, _, m_Rule⟩
  have F_errIni := fun_mk (st := s_errIni) l_errIni c_errIni k_errIni
  have b_errIni := F_errIni.binds (ps := ["self", "value"]) fun _ _ _ _ _ _ us hl => match us, hl with | [_, _], _ => rfl
  have G_errIni := ini_ok (P := l.prog) (w := w) (base := base) (mg := mg) F_errIni ⟨rfl, rfl, rfl, by decide +kernel, rfl, by decide +kernel, by decide +kernel⟩ rfl (Or.inl rfl) (Or.inl rfl)
  have m_StreamError := PySem.W.mg_of X G a_StreamError
  have E_StreamError : ErrD l.prog w K mg base "StreamError" := ⟨_, _, _, _, m_StreamError, ⟨⟨_, _, _, _, _, _, _, _, _, _, _, _, _, _, _, x_StreamError, b_StreamError⟩, sa_StreamError, ec_StreamError, ty_StreamError, ke_StreamError⟩, in_StreamError, ti, no_StreamError, ⟨ga_StreamError, gg_StreamError, ec_StreamError, hd_StreamError⟩, G_errIni, b_errIni⟩
  have m_InvalidNumber := PySem.W.mg_of X G a_InvalidNumber
  have E_InvalidNumber : ErrD l.prog w K mg base "InvalidNumber" := ⟨_, _, _, _, m_InvalidNumber, ⟨⟨_, _, _, _, _, _, _, _, _, _, _, _, _, _, _, x_InvalidNumber, b_InvalidNumber⟩, sa_InvalidNumber, ec_InvalidNumber, ty_InvalidNumber, ke_InvalidNumber⟩, in_InvalidNumber, ti, no_InvalidNumber, ⟨ga_InvalidNumber, gg_InvalidNumber, ec_InvalidNumber, hd_InvalidNumber⟩, G_errIni, b_errIni⟩
  have m_InvalidState := PySem.W.mg_of X G a_InvalidState
  have E_InvalidState : ErrD l.prog w K mg base "InvalidState" := ⟨_, _, _, _, m_InvalidState, ⟨⟨_, _, _, _, _, _, _, _, _, _, _, _, _, _, _, x_InvalidState, b_InvalidState⟩, sa_InvalidState, ec_InvalidState, ty_InvalidState, ke_InvalidState⟩, in_InvalidState, ti, no_InvalidState, ⟨ga_InvalidState, gg_InvalidState, ec_InvalidState, hd_InvalidState⟩, G_errIni, b_errIni⟩
  have X_errs : ExmD K mg ["StreamError", "InvalidNumber", "InvalidState"] := by
    intro c hc k hk C2 Ck e1 e2
    simp only [List.mem_cons, List.not_mem_nil, or_false] at hc hk
    rcases hc with rfl | rfl | rfl <;> rcases hk with rfl | rfl | rfl
    · have d1 := e1.symm.trans m_StreamError; have d2 := e2.symm.trans m_StreamError; cases d1; cases d2; exact exm_of ec_StreamError ic_StreamError ty_StreamError xm_StreamError_StreamError
    · have d1 := e1.symm.trans m_StreamError; have d2 := e2.symm.trans m_InvalidNumber; cases d1; cases d2; exact exm_of ec_InvalidNumber ic_InvalidNumber ty_InvalidNumber xm_StreamError_InvalidNumber
    · have d1 := e1.symm.trans m_StreamError; have d2 := e2.symm.trans m_InvalidState; cases d1; cases d2; exact exm_of ec_InvalidState ic_InvalidState ty_InvalidState xm_StreamError_InvalidState
    · have d1 := e1.symm.trans m_InvalidNumber; have d2 := e2.symm.trans m_StreamError; cases d1; cases d2; exact exm_of ec_StreamError ic_StreamError ty_StreamError xm_InvalidNumber_StreamError
    · have d1 := e1.symm.trans m_InvalidNumber; have d2 := e2.symm.trans m_InvalidNumber; cases d1; cases d2; exact exm_of ec_InvalidNumber ic_InvalidNumber ty_InvalidNumber xm_InvalidNumber_InvalidNumber
    · have d1 := e1.symm.trans m_InvalidNumber; have d2 := e2.symm.trans m_InvalidState; cases d1; cases d2; exact exm_of ec_InvalidState ic_InvalidState ty_InvalidState xm_InvalidNumber_InvalidState
    · have d1 := e1.symm.trans m_InvalidState; have d2 := e2.symm.trans m_StreamError; cases d1; cases d2; exact exm_of ec_StreamError ic_StreamError ty_StreamError xm_InvalidState_StreamError
    · have d1 := e1.symm.trans m_InvalidState; have d2 := e2.symm.trans m_InvalidNumber; cases d1; cases d2; exact exm_of ec_InvalidNumber ic_InvalidNumber ty_InvalidNumber xm_InvalidState_InvalidNumber
    · have d1 := e1.symm.trans m_InvalidState; have d2 := e2.symm.trans m_InvalidState; cases d1; cases d2; exact exm_of ec_InvalidState ic_InvalidState ty_InvalidState xm_InvalidState_InvalidState
  have D_law_purse : DefG l.prog w K mg base "_law_purse" 1 2 f_law_purse := ⟨_, _, _, ok_law_purse (P := l.prog) (w := w) (base := base) F_law_purse T , b_law_purse, m_law_purse, F_law_purse.kp⟩
  have D_law_coin : DefG l.prog w K mg base "_law_coin" 1 2 f_law_coin := ⟨_, _, _, ok_law_coin (P := l.prog) (w := w) (base := base) F_law_coin T , b_law_coin, m_law_coin, F_law_coin.kp⟩
  have D_law_drawn_rule : DefG l.prog w K mg base "_law_drawn_rule" 2 2 f_law_drawn_rule := ⟨_, _, _, ok_law_drawn_rule (P := l.prog) (w := w) (base := base) F_law_drawn_rule T D_law_coin, b_law_drawn_rule, m_law_drawn_rule, F_law_drawn_rule.kp⟩
  have D_first_loose : DefO l.prog w K mg base "first_loose" 1 1 f_first_loose := ⟨_, _, _, ok_first_loose (P := l.prog) (w := w) (base := base) F_first_loose T , b_first_loose, m_first_loose, F_first_loose.kp⟩
  have C_Rule : ClsD l.prog w K mg base "Rule" "__init__" "Rule.__init__" s_Rule_init ["self", "every", "losses", "states"] 3 3 f_Rule_init := ⟨_, _, _, m_Rule, ⟨mk_Rule, a_Rule_init, i_Rule_init, kc_Rule⟩, F_Rule_init, ok_Rule_init (P := l.prog) (w := w) (base := base) F_Rule_init T E_InvalidNumber E_InvalidState D_first_loose L_Rule, b_Rule_init⟩
  have D_law_refused : DefG l.prog w K mg base "_law_refused" 5 4 f_law_refused := ⟨_, _, _, ok_law_refused (P := l.prog) (w := w) (base := base) F_law_refused T E_StreamError E_InvalidNumber E_InvalidState X_errs C_Rule, b_law_refused, m_law_refused, F_law_refused.kp⟩
  have D_law_wrong_row : DefG l.prog w K mg base "_law_wrong_row" 2 3 f_law_wrong_row := ⟨_, _, _, ok_law_wrong_row (P := l.prog) (w := w) (base := base) F_law_wrong_row T D_law_coin, b_law_wrong_row, m_law_wrong_row, F_law_wrong_row.kp⟩
  have P_Rule_states : PropD l.prog w K mg base "Rule" "states" 1 f_Rule_states := ⟨_, _, _, _, _, m_Rule, cl_Rule, ⟨a_Rule_states, g_Rule_states, t_Rule_states, _, r_Rule_states⟩, ok_Rule_states (P := l.prog) (w := w) (base := base) F_Rule_states T L_Rule, b_Rule_states⟩
  have D_law_right : DefG l.prog w K mg base "_law_right" 6 1 f_law_right := ⟨_, _, _, ok_law_right (P := l.prog) (w := w) (base := base) F_law_right T D_law_drawn_rule D_law_refused D_law_coin D_law_wrong_row I_Rule P_Rule_states, b_law_right, m_law_right, F_law_right.kp⟩
  exact ok_law (P := l.prog) (w := w) (base := base) F_law T D_law_purse D_law_right
end Lw

set_option Elab.async false
set_option linter.all false
set_option maxRecDepth 100000
namespace Lw
open FL PySem
local macro_rules | `(tactic| dsimp! only [$xs,*]) => `(tactic| try simp (implicitDefEqProofs := false) only [↓w_ok, w_exc, ↓w_some, w_none, ↓w_obind, ↓w_omap, w_oite, ↓w_bind, w_pure, w_lift, ↓w_brT, ↓w_brF, ↓w_late, ↓w_oV, ↓w_op2, ↓w_op1, ↓w_var, ↓w_move, ↓w_c, ↓w_aNil, ↓w_aCons, ↓w_osNil, ↓w_osCons, ↓w_osApp, ↓w_tup, ↓w_lst, ↓w_bTru, ↓w_bVal, ↓w_bNot, ↓w_bAnd, ↓w_bOr, ↓w_eIf, ↓w_eAnd, ↓w_eOr, ↓w_eNot, ↓w_call, ↓w_chain, ↓w_fun, ↓w_funB, ↓w_sl, ↓w_pNo, ↓w_pAt, ↓w_run, w_nx, w_rt, w_bk, w_ct, w_xc, w_nil, ↓w_kill, ↓w_asg, ↓w_expr, ↓w_ret, ↓w_retN, ↓w_if, andP_T, andP_F, orP_T, orP_F, eIfP_T, eIfP_F, eAndP_T, eAndP_F, eOrP_T, eOrP_F, chP_T, chP_F, ifP_T, ifP_F, sq_R, sq_B, sq_C, sq_X, ty_N, ty_R, ty_B, ty_C, ty_X, wp_N, wp_R, wp_B, wp_C, md_N, md_R, md_B, md_C, md_X, kp_N, kp_R, kp_B, kp_C, kp_X, rn_N, rn_R, rn_B, rn_C, rn_X, tp_N, tp_R, tp_B, tp_C, tp_X, ↓w_setI, ↓w_par2, ↓w_par3, ↓w_raise, ↓w_fld, ↓w_try, ↓w_thru, ↓w_wipe, ↓w_turn, ↓w_eMut, ↓w_m1, ↓w_join, ↓w_jNil, ↓w_jC, ↓w_jF, ↓w_iStr, ↓w_star, ↓w_consOs, ↓w_meth, ↓w_get, ↓w_aug, v_int2, v_instOb, v_instIs, v_slot0, v_slotN, v_slotS, v_resL, v_resR, v_ressN, v_ressC, v_killN, v_killC, v_takeN, v_takeL, v_takeR, v_flag, v_putN, v_putL, v_putR, v_putO, v_outs0, v_outsT, v_outsF, v_outsN, v_start, v_gSlot, v_gTup, v_gsN, v_gsC, v_add, v_sub, v_mul, v_fdiv, v_mod, v_pow, v_lt, v_le, v_gt, v_ge, v_neg, v_boolT, v_truB, v_truI, v_truN, v_truL, v_isN, v_isI, v_notN, v_notI, v_int, v_intB, v_abs, v_max, v_lenL, v_lenD, v_lenT, v_lenS, v_share, v_shareS, v_shareO, v_mkT, ix_ol0, ix_ol1, ix_ol2, ix_t0, ix_t1, ix_t2, v_ixN0, v_ixN1, v_ixN2, v_olOf, v_intOf, w_xv, w_perm, v_pickN, v_pickC, Option.elim_some, v_any, v_mk1, v_mk2, v_mk3, v_mk4, v_mk5, v_mk2o, v_mk3o, v_shOl, v_shTp, v_toDs, v_toDsN, v_toDsC, v_toDd, v_toDl, v_toDt, v_toFs, v_toFsN, v_toFsC, v_toFd, v_toFl, v_toFt, v_shareB, v_itT, v_itP, v_itL, v_itRl, v_itRt, v_itRD, v_itRo, v_itRb, v_it0o, v_it0p, v_it0l, v_it0t, v_itTb, v_unBb, v_unBo, v_unBp, v_unBd, v_borD, v_borO, v_borP, v_borB, v_borI, v_borX, v_borS, v_borM, v_lenB, v_lstB, v_lstO, v_lstD, v_cld, v_clo, v_clp, v_clb, v_cls, v_clsN, v_clsC, v_clsD, v_isLo, v_isLd, v_tbN, v_tbL, v_tbT, v_tbF, v_pbN, v_pbL, v_pbT, v_pbF, v_pbX, v_cbN, v_cbE, v_cbT, v_cbF, v_cbX, enumT_d, v_append, v_insert0, v_dOf, v_statO, v_statB, v_eqNil, v_neNil, v_boolsN, v_boolsC, v_mkOt, v_mkOf, v_frzN, v_frzC, v_mkO2, v_addO, v_addDO, v_addOD, v_stat, v_allD, v_dats, v_datsN, v_datsC, v_addT, v_tupO, v_tupD, v_tupT, v_listO, v_listD, v_listT, v_rg1, v_rg2, v_eqI, v_neI, v_eqS, v_neS, ↓v_iOf, ↓v_iCall, ↓v_iEnum, List.any_cons, List.any_nil, Bool.or_false, Bool.false_or, id, List.isEmpty_cons, List.isEmpty_nil, v_c0, v_c1, v_c2, v_c3, v_c4, v_c5, v_c6, v_c7, v_c8, v_c9, v_c10, Nat.reduceAdd, Int.reduceEq, Int.reduceLT, Int.reduceLE, Int.reduceNe, Nat.reduceLT, Nat.reduceEqDiff, List.length_map, List.length_reverse, List.length_replicate, List.length_set, List.getElem?_cons_zero, List.getElem?_cons_succ, List.set_cons_zero, List.set_cons_succ, Option.join_some, Option.join_none, Option.bind_some, Option.map_some, List.map_cons, List.map_nil, List.length_cons, List.length_nil, List.replicate_succ, List.replicate_zero, List.cons_append, List.nil_append, List.append_nil, Option.some.injEq, List.all_cons, List.all_nil, Bool.true_and, Bool.and_true, Bool.and_self, eq_self, decide_true, decide_false, Bool.not_true, Bool.not_false, List.tail_cons, v_starO, v_starD, v_starT, w_prop, v_isiO, ↓ap_c_law_purse_1, ↓ap_c_law_coin_1, ↓ap_c_law_coin_2, ↓ap_c_law_coin_3, ↓ap_b_law_drawn_rule_2, ↓ap_c_law_drawn_rule_2, ↓ap_b_first_loose_2, ↓ap_c_law_refused_1, ↓ap_c_law_refused_2, ↓ap_c_law_wrong_row_1, ↓ap_c_law_wrong_row_2, ↓ap_b_law_wrong_row_1, ↓ap_c_law_right_1, ↓ap_c_law_right_2, ↓ap_b_law_right_1, ↓ap_c_law_right_4, ↓ap_c_law_right_6, ↓ap_c_law_right_8, ↓ap_b_law_1, ↓ap_b_law_2, $xs,*])
local macro_rules | `(tactic| simp! only [$xs,*]) => `(tactic| ((try simp (implicitDefEqProofs := false) only [↓w_ok, w_exc, ↓w_some, w_none, ↓w_obind, ↓w_omap, w_oite, ↓w_bind, w_pure, w_lift, ↓w_brT, ↓w_brF, ↓w_late, ↓w_oV, ↓w_op2, ↓w_op1, ↓w_var, ↓w_move, ↓w_c, ↓w_aNil, ↓w_aCons, ↓w_osNil, ↓w_osCons, ↓w_osApp, ↓w_tup, ↓w_lst, ↓w_bTru, ↓w_bVal, ↓w_bNot, ↓w_bAnd, ↓w_bOr, ↓w_eIf, ↓w_eAnd, ↓w_eOr, ↓w_eNot, ↓w_call, ↓w_chain, ↓w_fun, ↓w_funB, ↓w_sl, ↓w_pNo, ↓w_pAt, ↓w_run, w_nx, w_rt, w_bk, w_ct, w_xc, ↓w_seq, w_nil, ↓w_kill, ↓w_asg, ↓w_expr, ↓w_ret, ↓w_retN, ↓w_if, andP_T, andP_F, orP_T, orP_F, eIfP_T, eIfP_F, eAndP_T, eAndP_F, eOrP_T, eOrP_F, chP_T, chP_F, ifP_T, ifP_F, sq_R, sq_B, sq_C, sq_X, ty_N, ty_R, ty_B, ty_C, ty_X, wp_N, wp_R, wp_B, wp_C, md_N, md_R, md_B, md_C, md_X, kp_N, kp_R, kp_B, kp_C, kp_X, rn_N, rn_R, rn_B, rn_C, rn_X, tp_N, tp_R, tp_B, tp_C, tp_X, ↓w_setI, ↓w_par2, ↓w_par3, ↓w_raise, ↓w_fld, ↓w_try, ↓w_thru, ↓w_wipe, ↓w_turn, ↓w_eMut, ↓w_m1, ↓w_join, ↓w_jNil, ↓w_jC, ↓w_jF, ↓w_iStr, ↓w_star, ↓w_consOs, ↓w_meth, ↓w_get, ↓w_aug, v_int2, v_instOb, v_instIs, v_slot0, v_slotN, v_slotS, v_resL, v_resR, v_ressN, v_ressC, v_killN, v_killC, v_takeN, v_takeL, v_takeR, v_flag, v_putN, v_putL, v_putR, v_putO, v_outs0, v_outsT, v_outsF, v_outsN, v_start, v_gSlot, v_gTup, v_gsN, v_gsC, v_add, v_sub, v_mul, v_fdiv, v_mod, v_pow, v_lt, v_le, v_gt, v_ge, v_neg, v_boolT, v_truB, v_truI, v_truN, v_truL, v_isN, v_isI, v_notN, v_notI, v_int, v_intB, v_abs, v_max, v_lenL, v_lenD, v_lenT, v_lenS, v_share, v_shareS, v_shareO, v_mkT, ix_ol0, ix_ol1, ix_ol2, ix_t0, ix_t1, ix_t2, v_ixN0, v_ixN1, v_ixN2, v_olOf, v_intOf, w_xv, w_perm, v_pickN, v_pickC, Option.elim_some, v_any, v_mk1, v_mk2, v_mk3, v_mk4, v_mk5, v_mk2o, v_mk3o, v_shOl, v_shTp, v_toDs, v_toDsN, v_toDsC, v_toDd, v_toDl, v_toDt, v_toFs, v_toFsN, v_toFsC, v_toFd, v_toFl, v_toFt, v_shareB, v_itT, v_itP, v_itL, v_itRl, v_itRt, v_itRD, v_itRo, v_itRb, v_it0o, v_it0p, v_it0l, v_it0t, v_itTb, v_unBb, v_unBo, v_unBp, v_unBd, v_borD, v_borO, v_borP, v_borB, v_borI, v_borX, v_borS, v_borM, v_lenB, v_lstB, v_lstO, v_lstD, v_cld, v_clo, v_clp, v_clb, v_cls, v_clsN, v_clsC, v_clsD, v_isLo, v_isLd, v_tbN, v_tbL, v_tbT, v_tbF, v_pbN, v_pbL, v_pbT, v_pbF, v_pbX, v_cbN, v_cbE, v_cbT, v_cbF, v_cbX, enumT_d, v_append, v_insert0, v_dOf, v_statO, v_statB, v_eqNil, v_neNil, v_boolsN, v_boolsC, v_mkOt, v_mkOf, v_frzN, v_frzC, v_mkO2, v_addO, v_addDO, v_addOD, v_stat, v_allD, v_dats, v_datsN, v_datsC, v_addT, v_tupO, v_tupD, v_tupT, v_listO, v_listD, v_listT, v_rg1, v_rg2, v_eqI, v_neI, v_eqS, v_neS, ↓v_iOf, ↓v_iCall, ↓v_iEnum, List.any_cons, List.any_nil, Bool.or_false, Bool.false_or, id, List.isEmpty_cons, List.isEmpty_nil, v_c0, v_c1, v_c2, v_c3, v_c4, v_c5, v_c6, v_c7, v_c8, v_c9, v_c10, Nat.reduceAdd, Int.reduceEq, Int.reduceLT, Int.reduceLE, Int.reduceNe, Nat.reduceLT, Nat.reduceEqDiff, List.length_map, List.length_reverse, List.length_replicate, List.length_set, List.getElem?_cons_zero, List.getElem?_cons_succ, List.set_cons_zero, List.set_cons_succ, Option.join_some, Option.join_none, Option.bind_some, Option.map_some, List.map_cons, List.map_nil, List.length_cons, List.length_nil, List.replicate_succ, List.replicate_zero, List.cons_append, List.nil_append, List.append_nil, Option.some.injEq, List.all_cons, List.all_nil, Bool.true_and, Bool.and_true, Bool.and_self, eq_self, decide_true, decide_false, Bool.not_true, Bool.not_false, List.tail_cons, v_starO, v_starD, v_starT, w_prop, v_isiO, ↓ap_c_law_purse_1, ↓ap_c_law_coin_1, ↓ap_c_law_coin_2, ↓ap_c_law_coin_3, ↓ap_b_law_drawn_rule_2, ↓ap_c_law_drawn_rule_2, ↓ap_b_first_loose_2, ↓ap_c_law_refused_1, ↓ap_c_law_refused_2, ↓ap_c_law_wrong_row_1, ↓ap_c_law_wrong_row_2, ↓ap_b_law_wrong_row_1, ↓ap_c_law_right_1, ↓ap_c_law_right_2, ↓ap_b_law_right_1, ↓ap_c_law_right_4, ↓ap_c_law_right_6, ↓ap_c_law_right_8, ↓ap_b_law_1, ↓ap_b_law_2, $xs,*]); (repeat ((first | (with_reducible refine sqN ?_) | ((with_reducible refine And.intro ?_ ?_); first | (with_reducible exact True.intro) | ((with_reducible refine v_small ?_); omega) | ((with_reducible refine v_big ?_ ?_) <;> omega) | (with_reducible exact ⟨True.intro, by decide⟩))); try simp (implicitDefEqProofs := false) only [↓w_ok, w_exc, ↓w_some, w_none, ↓w_obind, ↓w_omap, w_oite, ↓w_bind, w_pure, w_lift, ↓w_brT, ↓w_brF, ↓w_late, ↓w_oV, ↓w_op2, ↓w_op1, ↓w_var, ↓w_move, ↓w_c, ↓w_aNil, ↓w_aCons, ↓w_osNil, ↓w_osCons, ↓w_osApp, ↓w_tup, ↓w_lst, ↓w_bTru, ↓w_bVal, ↓w_bNot, ↓w_bAnd, ↓w_bOr, ↓w_eIf, ↓w_eAnd, ↓w_eOr, ↓w_eNot, ↓w_call, ↓w_chain, ↓w_fun, ↓w_funB, ↓w_sl, ↓w_pNo, ↓w_pAt, ↓w_run, w_nx, w_rt, w_bk, w_ct, w_xc, ↓w_seq, w_nil, ↓w_kill, ↓w_asg, ↓w_expr, ↓w_ret, ↓w_retN, ↓w_if, andP_T, andP_F, orP_T, orP_F, eIfP_T, eIfP_F, eAndP_T, eAndP_F, eOrP_T, eOrP_F, chP_T, chP_F, ifP_T, ifP_F, sq_R, sq_B, sq_C, sq_X, ty_N, ty_R, ty_B, ty_C, ty_X, wp_N, wp_R, wp_B, wp_C, md_N, md_R, md_B, md_C, md_X, kp_N, kp_R, kp_B, kp_C, kp_X, rn_N, rn_R, rn_B, rn_C, rn_X, tp_N, tp_R, tp_B, tp_C, tp_X, ↓w_setI, ↓w_par2, ↓w_par3, ↓w_raise, ↓w_fld, ↓w_try, ↓w_thru, ↓w_wipe, ↓w_turn, ↓w_eMut, ↓w_m1, ↓w_join, ↓w_jNil, ↓w_jC, ↓w_jF, ↓w_iStr, ↓w_star, ↓w_consOs, ↓w_meth, ↓w_get, ↓w_aug, v_int2, v_instOb, v_instIs, v_slot0, v_slotN, v_slotS, v_resL, v_resR, v_ressN, v_ressC, v_killN, v_killC, v_takeN, v_takeL, v_takeR, v_flag, v_putN, v_putL, v_putR, v_putO, v_outs0, v_outsT, v_outsF, v_outsN, v_start, v_gSlot, v_gTup, v_gsN, v_gsC, v_add, v_sub, v_mul, v_fdiv, v_mod, v_pow, v_lt, v_le, v_gt, v_ge, v_neg, v_boolT, v_truB, v_truI, v_truN, v_truL, v_isN, v_isI, v_notN, v_notI, v_int, v_intB, v_abs, v_max, v_lenL, v_lenD, v_lenT, v_lenS, v_share, v_shareS, v_shareO, v_mkT, ix_ol0, ix_ol1, ix_ol2, ix_t0, ix_t1, ix_t2, v_ixN0, v_ixN1, v_ixN2, v_olOf, v_intOf, w_xv, w_perm, v_pickN, v_pickC, Option.elim_some, v_any, v_mk1, v_mk2, v_mk3, v_mk4, v_mk5, v_mk2o, v_mk3o, v_shOl, v_shTp, v_toDs, v_toDsN, v_toDsC, v_toDd, v_toDl, v_toDt, v_toFs, v_toFsN, v_toFsC, v_toFd, v_toFl, v_toFt, v_shareB, v_itT, v_itP, v_itL, v_itRl, v_itRt, v_itRD, v_itRo, v_itRb, v_it0o, v_it0p, v_it0l, v_it0t, v_itTb, v_unBb, v_unBo, v_unBp, v_unBd, v_borD, v_borO, v_borP, v_borB, v_borI, v_borX, v_borS, v_borM, v_lenB, v_lstB, v_lstO, v_lstD, v_cld, v_clo, v_clp, v_clb, v_cls, v_clsN, v_clsC, v_clsD, v_isLo, v_isLd, v_tbN, v_tbL, v_tbT, v_tbF, v_pbN, v_pbL, v_pbT, v_pbF, v_pbX, v_cbN, v_cbE, v_cbT, v_cbF, v_cbX, enumT_d, v_append, v_insert0, v_dOf, v_statO, v_statB, v_eqNil, v_neNil, v_boolsN, v_boolsC, v_mkOt, v_mkOf, v_frzN, v_frzC, v_mkO2, v_addO, v_addDO, v_addOD, v_stat, v_allD, v_dats, v_datsN, v_datsC, v_addT, v_tupO, v_tupD, v_tupT, v_listO, v_listD, v_listT, v_rg1, v_rg2, v_eqI, v_neI, v_eqS, v_neS, ↓v_iOf, ↓v_iCall, ↓v_iEnum, List.any_cons, List.any_nil, Bool.or_false, Bool.false_or, id, List.isEmpty_cons, List.isEmpty_nil, v_c0, v_c1, v_c2, v_c3, v_c4, v_c5, v_c6, v_c7, v_c8, v_c9, v_c10, Nat.reduceAdd, Int.reduceEq, Int.reduceLT, Int.reduceLE, Int.reduceNe, Nat.reduceLT, Nat.reduceEqDiff, List.length_map, List.length_reverse, List.length_replicate, List.length_set, List.getElem?_cons_zero, List.getElem?_cons_succ, List.set_cons_zero, List.set_cons_succ, Option.join_some, Option.join_none, Option.bind_some, Option.map_some, List.map_cons, List.map_nil, List.length_cons, List.length_nil, List.replicate_succ, List.replicate_zero, List.cons_append, List.nil_append, List.append_nil, Option.some.injEq, List.all_cons, List.all_nil, Bool.true_and, Bool.and_true, Bool.and_self, eq_self, decide_true, decide_false, Bool.not_true, Bool.not_false, List.tail_cons, v_starO, v_starD, v_starT, w_prop, v_isiO, ↓ap_c_law_purse_1, ↓ap_c_law_coin_1, ↓ap_c_law_coin_2, ↓ap_c_law_coin_3, ↓ap_b_law_drawn_rule_2, ↓ap_c_law_drawn_rule_2, ↓ap_b_first_loose_2, ↓ap_c_law_refused_1, ↓ap_c_law_refused_2, ↓ap_c_law_wrong_row_1, ↓ap_c_law_wrong_row_2, ↓ap_b_law_wrong_row_1, ↓ap_c_law_right_1, ↓ap_c_law_right_2, ↓ap_b_law_right_1, ↓ap_c_law_right_4, ↓ap_c_law_right_6, ↓ap_c_law_right_8, ↓ap_b_law_1, ↓ap_b_law_2, $xs,*])); (try (have hfin := True.intro; clear hfin))))
local macro_rules | `(tactic| simp_all! only [$xs,*]) => `(tactic| ((try simp (implicitDefEqProofs := false) only [↓w_ok, w_exc, ↓w_some, w_none, ↓w_obind, ↓w_omap, w_oite, ↓w_bind, w_pure, w_lift, ↓w_brT, ↓w_brF, ↓w_late, ↓w_oV, ↓w_op2, ↓w_op1, ↓w_var, ↓w_move, ↓w_c, ↓w_aNil, ↓w_aCons, ↓w_osNil, ↓w_osCons, ↓w_osApp, ↓w_tup, ↓w_lst, ↓w_bTru, ↓w_bVal, ↓w_bNot, ↓w_bAnd, ↓w_bOr, ↓w_eIf, ↓w_eAnd, ↓w_eOr, ↓w_eNot, ↓w_call, ↓w_chain, ↓w_fun, ↓w_funB, ↓w_sl, ↓w_pNo, ↓w_pAt, ↓w_run, w_nx, w_rt, w_bk, w_ct, w_xc, ↓w_seq, w_nil, ↓w_kill, ↓w_asg, ↓w_expr, ↓w_ret, ↓w_retN, ↓w_if, andP_T, andP_F, orP_T, orP_F, eIfP_T, eIfP_F, eAndP_T, eAndP_F, eOrP_T, eOrP_F, chP_T, chP_F, ifP_T, ifP_F, sq_R, sq_B, sq_C, sq_X, ty_N, ty_R, ty_B, ty_C, ty_X, wp_N, wp_R, wp_B, wp_C, md_N, md_R, md_B, md_C, md_X, kp_N, kp_R, kp_B, kp_C, kp_X, rn_N, rn_R, rn_B, rn_C, rn_X, tp_N, tp_R, tp_B, tp_C, tp_X, ↓w_setI, ↓w_par2, ↓w_par3, ↓w_raise, ↓w_fld, ↓w_try, ↓w_thru, ↓w_wipe, ↓w_turn, ↓w_eMut, ↓w_m1, ↓w_join, ↓w_jNil, ↓w_jC, ↓w_jF, ↓w_iStr, ↓w_star, ↓w_consOs, ↓w_meth, ↓w_get, ↓w_aug, v_int2, v_instOb, v_instIs, v_slot0, v_slotN, v_slotS, v_resL, v_resR, v_ressN, v_ressC, v_killN, v_killC, v_takeN, v_takeL, v_takeR, v_flag, v_putN, v_putL, v_putR, v_putO, v_outs0, v_outsT, v_outsF, v_outsN, v_start, v_gSlot, v_gTup, v_gsN, v_gsC, v_add, v_sub, v_mul, v_fdiv, v_mod, v_pow, v_lt, v_le, v_gt, v_ge, v_neg, v_boolT, v_truB, v_truI, v_truN, v_truL, v_isN, v_isI, v_notN, v_notI, v_int, v_intB, v_abs, v_max, v_lenL, v_lenD, v_lenT, v_lenS, v_share, v_shareS, v_shareO, v_mkT, ix_ol0, ix_ol1, ix_ol2, ix_t0, ix_t1, ix_t2, v_ixN0, v_ixN1, v_ixN2, v_olOf, v_intOf, w_xv, w_perm, v_pickN, v_pickC, Option.elim_some, v_any, v_mk1, v_mk2, v_mk3, v_mk4, v_mk5, v_mk2o, v_mk3o, v_shOl, v_shTp, v_toDs, v_toDsN, v_toDsC, v_toDd, v_toDl, v_toDt, v_toFs, v_toFsN, v_toFsC, v_toFd, v_toFl, v_toFt, v_shareB, v_itT, v_itP, v_itL, v_itRl, v_itRt, v_itRD, v_itRo, v_itRb, v_it0o, v_it0p, v_it0l, v_it0t, v_itTb, v_unBb, v_unBo, v_unBp, v_unBd, v_borD, v_borO, v_borP, v_borB, v_borI, v_borX, v_borS, v_borM, v_lenB, v_lstB, v_lstO, v_lstD, v_cld, v_clo, v_clp, v_clb, v_cls, v_clsN, v_clsC, v_clsD, v_isLo, v_isLd, v_tbN, v_tbL, v_tbT, v_tbF, v_pbN, v_pbL, v_pbT, v_pbF, v_pbX, v_cbN, v_cbE, v_cbT, v_cbF, v_cbX, enumT_d, v_append, v_insert0, v_dOf, v_statO, v_statB, v_eqNil, v_neNil, v_boolsN, v_boolsC, v_mkOt, v_mkOf, v_frzN, v_frzC, v_mkO2, v_addO, v_addDO, v_addOD, v_stat, v_allD, v_dats, v_datsN, v_datsC, v_addT, v_tupO, v_tupD, v_tupT, v_listO, v_listD, v_listT, v_rg1, v_rg2, v_eqI, v_neI, v_eqS, v_neS, ↓v_iOf, ↓v_iCall, ↓v_iEnum, List.any_cons, List.any_nil, Bool.or_false, Bool.false_or, id, List.isEmpty_cons, List.isEmpty_nil, v_c0, v_c1, v_c2, v_c3, v_c4, v_c5, v_c6, v_c7, v_c8, v_c9, v_c10, Nat.reduceAdd, Int.reduceEq, Int.reduceLT, Int.reduceLE, Int.reduceNe, Nat.reduceLT, Nat.reduceEqDiff, List.length_map, List.length_reverse, List.length_replicate, List.length_set, List.getElem?_cons_zero, List.getElem?_cons_succ, List.set_cons_zero, List.set_cons_succ, Option.join_some, Option.join_none, Option.bind_some, Option.map_some, List.map_cons, List.map_nil, List.length_cons, List.length_nil, List.replicate_succ, List.replicate_zero, List.cons_append, List.nil_append, List.append_nil, Option.some.injEq, List.all_cons, List.all_nil, Bool.true_and, Bool.and_true, Bool.and_self, eq_self, decide_true, decide_false, Bool.not_true, Bool.not_false, List.tail_cons, v_starO, v_starD, v_starT, w_prop, v_isiO, ↓ap_c_law_purse_1, ↓ap_c_law_coin_1, ↓ap_c_law_coin_2, ↓ap_c_law_coin_3, ↓ap_k_law_drawn_rule_1, ↓ap_b_law_drawn_rule_2, ↓ap_c_law_drawn_rule_2, ↓ap_k_first_loose_1, ↓ap_b_first_loose_2, ↓ap_c_law_refused_1, ↓ap_c_law_refused_2, ↓ap_c_law_wrong_row_1, ↓ap_c_law_wrong_row_2, ↓ap_b_law_wrong_row_1, ↓ap_c_law_right_1, ↓ap_c_law_right_2, ↓ap_b_law_right_1, ↓ap_c_law_right_4, ↓ap_c_law_right_6, ↓ap_c_law_right_8, ↓ap_b_law_1, ↓ap_b_law_2, ↓w_eComp, w_cN, w_cC, $xs,*]); (repeat ((first | (with_reducible refine sqN ?_) | ((with_reducible refine And.intro ?_ ?_); first | (with_reducible exact True.intro) | ((with_reducible refine v_small ?_); omega) | ((with_reducible refine v_big ?_ ?_) <;> omega) | (with_reducible exact ⟨True.intro, by decide⟩))); try simp (implicitDefEqProofs := false) only [↓w_ok, w_exc, ↓w_some, w_none, ↓w_obind, ↓w_omap, w_oite, ↓w_bind, w_pure, w_lift, ↓w_brT, ↓w_brF, ↓w_late, ↓w_oV, ↓w_op2, ↓w_op1, ↓w_var, ↓w_move, ↓w_c, ↓w_aNil, ↓w_aCons, ↓w_osNil, ↓w_osCons, ↓w_osApp, ↓w_tup, ↓w_lst, ↓w_bTru, ↓w_bVal, ↓w_bNot, ↓w_bAnd, ↓w_bOr, ↓w_eIf, ↓w_eAnd, ↓w_eOr, ↓w_eNot, ↓w_call, ↓w_chain, ↓w_fun, ↓w_funB, ↓w_sl, ↓w_pNo, ↓w_pAt, ↓w_run, w_nx, w_rt, w_bk, w_ct, w_xc, ↓w_seq, w_nil, ↓w_kill, ↓w_asg, ↓w_expr, ↓w_ret, ↓w_retN, ↓w_if, andP_T, andP_F, orP_T, orP_F, eIfP_T, eIfP_F, eAndP_T, eAndP_F, eOrP_T, eOrP_F, chP_T, chP_F, ifP_T, ifP_F, sq_R, sq_B, sq_C, sq_X, ty_N, ty_R, ty_B, ty_C, ty_X, wp_N, wp_R, wp_B, wp_C, md_N, md_R, md_B, md_C, md_X, kp_N, kp_R, kp_B, kp_C, kp_X, rn_N, rn_R, rn_B, rn_C, rn_X, tp_N, tp_R, tp_B, tp_C, tp_X, ↓w_setI, ↓w_par2, ↓w_par3, ↓w_raise, ↓w_fld, ↓w_try, ↓w_thru, ↓w_wipe, ↓w_turn, ↓w_eMut, ↓w_m1, ↓w_join, ↓w_jNil, ↓w_jC, ↓w_jF, ↓w_iStr, ↓w_star, ↓w_consOs, ↓w_meth, ↓w_get, ↓w_aug, v_int2, v_instOb, v_instIs, v_slot0, v_slotN, v_slotS, v_resL, v_resR, v_ressN, v_ressC, v_killN, v_killC, v_takeN, v_takeL, v_takeR, v_flag, v_putN, v_putL, v_putR, v_putO, v_outs0, v_outsT, v_outsF, v_outsN, v_start, v_gSlot, v_gTup, v_gsN, v_gsC, v_add, v_sub, v_mul, v_fdiv, v_mod, v_pow, v_lt, v_le, v_gt, v_ge, v_neg, v_boolT, v_truB, v_truI, v_truN, v_truL, v_isN, v_isI, v_notN, v_notI, v_int, v_intB, v_abs, v_max, v_lenL, v_lenD, v_lenT, v_lenS, v_share, v_shareS, v_shareO, v_mkT, ix_ol0, ix_ol1, ix_ol2, ix_t0, ix_t1, ix_t2, v_ixN0, v_ixN1, v_ixN2, v_olOf, v_intOf, w_xv, w_perm, v_pickN, v_pickC, Option.elim_some, v_any, v_mk1, v_mk2, v_mk3, v_mk4, v_mk5, v_mk2o, v_mk3o, v_shOl, v_shTp, v_toDs, v_toDsN, v_toDsC, v_toDd, v_toDl, v_toDt, v_toFs, v_toFsN, v_toFsC, v_toFd, v_toFl, v_toFt, v_shareB, v_itT, v_itP, v_itL, v_itRl, v_itRt, v_itRD, v_itRo, v_itRb, v_it0o, v_it0p, v_it0l, v_it0t, v_itTb, v_unBb, v_unBo, v_unBp, v_unBd, v_borD, v_borO, v_borP, v_borB, v_borI, v_borX, v_borS, v_borM, v_lenB, v_lstB, v_lstO, v_lstD, v_cld, v_clo, v_clp, v_clb, v_cls, v_clsN, v_clsC, v_clsD, v_isLo, v_isLd, v_tbN, v_tbL, v_tbT, v_tbF, v_pbN, v_pbL, v_pbT, v_pbF, v_pbX, v_cbN, v_cbE, v_cbT, v_cbF, v_cbX, enumT_d, v_append, v_insert0, v_dOf, v_statO, v_statB, v_eqNil, v_neNil, v_boolsN, v_boolsC, v_mkOt, v_mkOf, v_frzN, v_frzC, v_mkO2, v_addO, v_addDO, v_addOD, v_stat, v_allD, v_dats, v_datsN, v_datsC, v_addT, v_tupO, v_tupD, v_tupT, v_listO, v_listD, v_listT, v_rg1, v_rg2, v_eqI, v_neI, v_eqS, v_neS, ↓v_iOf, ↓v_iCall, ↓v_iEnum, List.any_cons, List.any_nil, Bool.or_false, Bool.false_or, id, List.isEmpty_cons, List.isEmpty_nil, v_c0, v_c1, v_c2, v_c3, v_c4, v_c5, v_c6, v_c7, v_c8, v_c9, v_c10, Nat.reduceAdd, Int.reduceEq, Int.reduceLT, Int.reduceLE, Int.reduceNe, Nat.reduceLT, Nat.reduceEqDiff, List.length_map, List.length_reverse, List.length_replicate, List.length_set, List.getElem?_cons_zero, List.getElem?_cons_succ, List.set_cons_zero, List.set_cons_succ, Option.join_some, Option.join_none, Option.bind_some, Option.map_some, List.map_cons, List.map_nil, List.length_cons, List.length_nil, List.replicate_succ, List.replicate_zero, List.cons_append, List.nil_append, List.append_nil, Option.some.injEq, List.all_cons, List.all_nil, Bool.true_and, Bool.and_true, Bool.and_self, eq_self, decide_true, decide_false, Bool.not_true, Bool.not_false, List.tail_cons, v_starO, v_starD, v_starT, w_prop, v_isiO, ↓ap_c_law_purse_1, ↓ap_c_law_coin_1, ↓ap_c_law_coin_2, ↓ap_c_law_coin_3, ↓ap_k_law_drawn_rule_1, ↓ap_b_law_drawn_rule_2, ↓ap_c_law_drawn_rule_2, ↓ap_k_first_loose_1, ↓ap_b_first_loose_2, ↓ap_c_law_refused_1, ↓ap_c_law_refused_2, ↓ap_c_law_wrong_row_1, ↓ap_c_law_wrong_row_2, ↓ap_b_law_wrong_row_1, ↓ap_c_law_right_1, ↓ap_c_law_right_2, ↓ap_b_law_right_1, ↓ap_c_law_right_4, ↓ap_c_law_right_6, ↓ap_c_law_right_8, ↓ap_b_law_1, ↓ap_b_law_2, ↓w_eComp, w_cN, w_cC, $xs,*])); (try (have hfin := True.intro; clear hfin))))
/-! ### the purse -/
structure Pu (n : Nat) (p0 p1 p2 : Int) : Prop where
  h0 : 0 ≤ p0
  h1 : 0 ≤ p1
  h1u : p1 < 1000000000000000000000007
  h2 : 0 ≤ p2
  h2u : p2 ≤ n
theorem Pu.mono {n m : Nat} {p0 p1 p2 : Int} (h : Pu n p0 p1 p2) (k : n ≤ m) : Pu m p0 p1 p2 := ⟨h.h0, h.h1, h.h1u, h.h2, by have := h.h2u; omega⟩
abbrev pT (p0 p1 p2 : Int) : T := .ol [.d (.int p0), .d (.int p1), .d (.int p2)]
theorem bits_of {x : Int} {m k : Nat} (h : x.natAbs < 2 ^ m) (hk : m * k ≤ 134217728) : bitsOk x (k : Int) = true := by
  have hb : Builtin.Int.intBits x ≤ m := intBits_le_iff.mpr h
  have h2 : Builtin.Int.intBits x * k ≤ m * k := Nat.mul_le_mul_right k hb
  have h3 : (Builtin.Int.intBits x : Int) * (k : Int) ≤ 134217728 := by
    rw [← Int.natCast_mul]; omega
  simp only [bitsOk, Bool.and_eq_true, decide_eq_true_eq]
  exact ⟨h3, by omega⟩
theorem div_of {m : Int} (h : 0 < m) (h2 : m < 10 ^ 50) : divOk 0 m = true := by
  have e : m.natAbs < 2 ^ 9000 := by
    have h3 : m.natAbs < 10 ^ 50 := by omega
    exact Nat.lt_of_lt_of_le h3 (by decide +kernel)
  simp only [divOk, Bool.and_eq_true, decide_eq_true_eq]
  refine ⟨h, ?_⟩
  exact (Nat.log2_lt (by omega)).mpr e
theorem coin_ok {n : Nat} {p0 p1 p2 m : Int} {Q : T → List (Option T) → Prop} {X : XR} (hp : Pu n p0 p1 p2) (hn : n < 1000000000) (hm : 0 < m) (hm2 : m < 10 ^ 50)
    (k : ∀ r q0 q1 q2, 0 ≤ r → r < m → Pu (n + 1) q0 q1 q2 → Q (.d (.int r)) [some (pT q0 q1 q2), some (.d (.int m))]) : OkR (f_law_coin [pT p0 p1 p2, .d (.int m)]) Q X := by
  obtain ⟨h0, h1, h1u, h2, h2u⟩ := hp
  unfold f_law_coin m_law_coin
  simp! only []
  refine w_br (fun h => ?_) (fun h => ?_)
  · have h := of_decide_eq_true h
    simp! only []
    refine ⟨hm, ?_⟩
    simp! only []
    refine ⟨div_of hm hm2, ?_⟩
    simp! only []
    exact k _ _ _ _ (Int.emod_nonneg _ (by omega)) (Int.emod_lt_of_pos _ hm) ⟨Int.ediv_nonneg h0 (by omega), h1, h1u, h2, by omega⟩
  · simp! only []
    refine ⟨by simp only [mulOk, Bool.or_eq_true, Bool.and_eq_true, decide_eq_true_eq]; omega, bits_of (m := 200) (k := 3) ?_ (by decide), by decide +kernel, by decide +kernel, ?_⟩
    · have e : (p1 + 2038074743 * (p2 + 1)).natAbs < 10000000000000000000000000 := by omega
      exact Nat.lt_of_lt_of_le e (by decide +kernel)
    · have e1 := Int.emod_nonneg ((p1 + 2038074743 * (p2 + 1)) ^ Int.toNat 3) (b := 10 ^ Int.toNat 25 + 13) (by decide +kernel)
      have e2 := Int.emod_lt_of_pos ((p1 + 2038074743 * (p2 + 1)) ^ Int.toNat 3) (b := 10 ^ Int.toNat 25 + 13) (by decide +kernel)
      have e3 : (10 : Int) ^ Int.toNat 25 + 13 = 10000000000000000000000013 := by decide +kernel
      rw [e3] at e1 e2 ⊢
      generalize (p1 + 2038074743 * (p2 + 1)) ^ Int.toNat 3 % 10000000000000000000000013 = z at e1 e2 ⊢
      simp! only []
      refine ⟨by simp only [mulOk, Bool.or_eq_true, Bool.and_eq_true, decide_eq_true_eq]; omega, bits_of (m := 200) (k := 2) ?_ (by decide), by decide +kernel, by decide +kernel, ?_⟩
      · have e : (z + 982451653 * (p2 + 1)).natAbs < 100000000000000000000000000 := by omega
        exact Nat.lt_of_lt_of_le e (by decide +kernel)
      · simp! only []
        refine ⟨by decide +kernel, hm, ?_⟩
        exact k _ _ _ _ (Int.emod_nonneg _ (by omega)) (Int.emod_lt_of_pos _ hm) ⟨h0, h1, h1u, by omega, by omega⟩

/-! ### a drawn rule -/
def RowOk (m : Nat) (d : PyData) : Prop := ∃ (s : Bool) (a b c e : Int), d = .tuple [.bool s, .int a, .int b, .int c, .int e] ∧ (0 ≤ a ∧ a < m) ∧ (0 ≤ b ∧ b < m) ∧ (0 ≤ c ∧ c < m) ∧ 0 ≤ e ∧ e < m
theorem rg_len (j : Int) : (rangeT 0 j).length = j.toNat := by
  unfold rangeT
  rw [List.length_map, List.length_range]
  omega
theorem rg_get {a b : Int} {ds ts : List T} {t : T} (h : ds ++ t :: ts = rangeT a b) : t = .d (.int (a + ds.length)) := by
  have e : (rangeT a b)[ds.length]? = some t := by rw [← h]; simp
  unfold rangeT at e
  rw [List.getElem?_map] at e
  cases q : (List.range (b - a).toNat)[ds.length]? with
  | none => rw [q] at e; cases e
  | some k =>
    rw [q] at e
    have := List.getElem?_range (n := (b - a).toNat) (i := ds.length) (by have := (List.getElem?_eq_some_iff.mp q).1; simpa using this)
    rw [this] at q
    cases q
    exact (Option.some.inj e).symm
abbrev intL (ns : List Int) : List PyData := ns.map PyData.int
end Lw

set_option Elab.async false
set_option linter.all false
set_option maxRecDepth 100000
namespace Lw
open FL PySem
local macro_rules | `(tactic| dsimp! only [$xs,*]) => `(tactic| try simp (implicitDefEqProofs := false) only [↓w_ok, w_exc, ↓w_some, w_none, ↓w_obind, ↓w_omap, w_oite, ↓w_bind, w_pure, w_lift, ↓w_brT, ↓w_brF, ↓w_late, ↓w_oV, ↓w_op2, ↓w_op1, ↓w_var, ↓w_move, ↓w_c, ↓w_aNil, ↓w_aCons, ↓w_osNil, ↓w_osCons, ↓w_osApp, ↓w_tup, ↓w_lst, ↓w_bTru, ↓w_bVal, ↓w_bNot, ↓w_bAnd, ↓w_bOr, ↓w_eIf, ↓w_eAnd, ↓w_eOr, ↓w_eNot, ↓w_call, ↓w_chain, ↓w_fun, ↓w_funB, ↓w_sl, ↓w_pNo, ↓w_pAt, ↓w_run, w_nx, w_rt, w_bk, w_ct, w_xc, w_nil, ↓w_kill, ↓w_asg, ↓w_expr, ↓w_ret, ↓w_retN, ↓w_if, andP_T, andP_F, orP_T, orP_F, eIfP_T, eIfP_F, eAndP_T, eAndP_F, eOrP_T, eOrP_F, chP_T, chP_F, ifP_T, ifP_F, sq_R, sq_B, sq_C, sq_X, ty_N, ty_R, ty_B, ty_C, ty_X, wp_N, wp_R, wp_B, wp_C, md_N, md_R, md_B, md_C, md_X, kp_N, kp_R, kp_B, kp_C, kp_X, rn_N, rn_R, rn_B, rn_C, rn_X, tp_N, tp_R, tp_B, tp_C, tp_X, ↓w_setI, ↓w_par2, ↓w_par3, ↓w_raise, ↓w_fld, ↓w_try, ↓w_thru, ↓w_wipe, ↓w_turn, ↓w_eMut, ↓w_m1, ↓w_join, ↓w_jNil, ↓w_jC, ↓w_jF, ↓w_iStr, ↓w_star, ↓w_consOs, ↓w_meth, ↓w_get, ↓w_aug, v_int2, v_instOb, v_instIs, v_slot0, v_slotN, v_slotS, v_resL, v_resR, v_ressN, v_ressC, v_killN, v_killC, v_takeN, v_takeL, v_takeR, v_flag, v_putN, v_putL, v_putR, v_putO, v_outs0, v_outsT, v_outsF, v_outsN, v_start, v_gSlot, v_gTup, v_gsN, v_gsC, v_add, v_sub, v_mul, v_fdiv, v_mod, v_pow, v_lt, v_le, v_gt, v_ge, v_neg, v_boolT, v_truB, v_truI, v_truN, v_truL, v_isN, v_isI, v_notN, v_notI, v_int, v_intB, v_abs, v_max, v_lenL, v_lenD, v_lenT, v_lenS, v_share, v_shareS, v_shareO, v_mkT, ix_ol0, ix_ol1, ix_ol2, ix_t0, ix_t1, ix_t2, v_ixN0, v_ixN1, v_ixN2, v_olOf, v_intOf, w_xv, w_perm, v_pickN, v_pickC, Option.elim_some, v_any, v_mk1, v_mk2, v_mk3, v_mk4, v_mk5, v_mk2o, v_mk3o, v_shOl, v_shTp, v_toDs, v_toDsN, v_toDsC, v_toDd, v_toDl, v_toDt, v_toFs, v_toFsN, v_toFsC, v_toFd, v_toFl, v_toFt, v_shareB, v_itT, v_itP, v_itL, v_itRl, v_itRt, v_itRD, v_itRo, v_itRb, v_it0o, v_it0p, v_it0l, v_it0t, v_itTb, v_unBb, v_unBo, v_unBp, v_unBd, v_borD, v_borO, v_borP, v_borB, v_borI, v_borX, v_borS, v_borM, v_lenB, v_lstB, v_lstO, v_lstD, v_cld, v_clo, v_clp, v_clb, v_cls, v_clsN, v_clsC, v_clsD, v_isLo, v_isLd, v_tbN, v_tbL, v_tbT, v_tbF, v_pbN, v_pbL, v_pbT, v_pbF, v_pbX, v_cbN, v_cbE, v_cbT, v_cbF, v_cbX, enumT_d, v_append, v_insert0, v_dOf, v_statO, v_statB, v_eqNil, v_neNil, v_boolsN, v_boolsC, v_mkOt, v_mkOf, v_frzN, v_frzC, v_mkO2, v_addO, v_addDO, v_addOD, v_stat, v_allD, v_dats, v_datsN, v_datsC, v_addT, v_tupO, v_tupD, v_tupT, v_listO, v_listD, v_listT, v_rg1, v_rg2, v_eqI, v_neI, v_eqS, v_neS, ↓v_iOf, ↓v_iCall, ↓v_iEnum, List.any_cons, List.any_nil, Bool.or_false, Bool.false_or, id, List.isEmpty_cons, List.isEmpty_nil, v_c0, v_c1, v_c2, v_c3, v_c4, v_c5, v_c6, v_c7, v_c8, v_c9, v_c10, Nat.reduceAdd, Int.reduceEq, Int.reduceLT, Int.reduceLE, Int.reduceNe, Nat.reduceLT, Nat.reduceEqDiff, List.length_map, List.length_reverse, List.length_replicate, List.length_set, List.getElem?_cons_zero, List.getElem?_cons_succ, List.set_cons_zero, List.set_cons_succ, Option.join_some, Option.join_none, Option.bind_some, Option.map_some, List.map_cons, List.map_nil, List.length_cons, List.length_nil, List.replicate_succ, List.replicate_zero, List.cons_append, List.nil_append, List.append_nil, Option.some.injEq, List.all_cons, List.all_nil, Bool.true_and, Bool.and_true, Bool.and_self, eq_self, decide_true, decide_false, Bool.not_true, Bool.not_false, List.tail_cons, v_starO, v_starD, v_starT, w_prop, v_isiO, ↓ap_c_law_purse_1, ↓ap_c_law_coin_1, ↓ap_c_law_coin_2, ↓ap_c_law_coin_3, ↓ap_b_law_drawn_rule_2, ↓ap_c_law_drawn_rule_2, ↓ap_b_first_loose_2, ↓ap_c_law_refused_1, ↓ap_c_law_refused_2, ↓ap_c_law_wrong_row_1, ↓ap_c_law_wrong_row_2, ↓ap_b_law_wrong_row_1, ↓ap_c_law_right_1, ↓ap_c_law_right_2, ↓ap_b_law_right_1, ↓ap_c_law_right_4, ↓ap_c_law_right_6, ↓ap_c_law_right_8, ↓ap_b_law_1, ↓ap_b_law_2, $xs,*])
local macro_rules | `(tactic| simp! only [$xs,*]) => `(tactic| ((try simp (implicitDefEqProofs := false) only [↓w_ok, w_exc, ↓w_some, w_none, ↓w_obind, ↓w_omap, w_oite, ↓w_bind, w_pure, w_lift, ↓w_brT, ↓w_brF, ↓w_late, ↓w_oV, ↓w_op2, ↓w_op1, ↓w_var, ↓w_move, ↓w_c, ↓w_aNil, ↓w_aCons, ↓w_osNil, ↓w_osCons, ↓w_osApp, ↓w_tup, ↓w_lst, ↓w_bTru, ↓w_bVal, ↓w_bNot, ↓w_bAnd, ↓w_bOr, ↓w_eIf, ↓w_eAnd, ↓w_eOr, ↓w_eNot, ↓w_call, ↓w_chain, ↓w_fun, ↓w_funB, ↓w_sl, ↓w_pNo, ↓w_pAt, ↓w_run, w_nx, w_rt, w_bk, w_ct, w_xc, ↓w_seq, w_nil, ↓w_kill, ↓w_asg, ↓w_expr, ↓w_ret, ↓w_retN, ↓w_if, andP_T, andP_F, orP_T, orP_F, eIfP_T, eIfP_F, eAndP_T, eAndP_F, eOrP_T, eOrP_F, chP_T, chP_F, ifP_T, ifP_F, sq_R, sq_B, sq_C, sq_X, ty_N, ty_R, ty_B, ty_C, ty_X, wp_N, wp_R, wp_B, wp_C, md_N, md_R, md_B, md_C, md_X, kp_N, kp_R, kp_B, kp_C, kp_X, rn_N, rn_R, rn_B, rn_C, rn_X, tp_N, tp_R, tp_B, tp_C, tp_X, ↓w_setI, ↓w_par2, ↓w_par3, ↓w_raise, ↓w_fld, ↓w_try, ↓w_thru, ↓w_wipe, ↓w_turn, ↓w_eMut, ↓w_m1, ↓w_join, ↓w_jNil, ↓w_jC, ↓w_jF, ↓w_iStr, ↓w_star, ↓w_consOs, ↓w_meth, ↓w_get, ↓w_aug, v_int2, v_instOb, v_instIs, v_slot0, v_slotN, v_slotS, v_resL, v_resR, v_ressN, v_ressC, v_killN, v_killC, v_takeN, v_takeL, v_takeR, v_flag, v_putN, v_putL, v_putR, v_putO, v_outs0, v_outsT, v_outsF, v_outsN, v_start, v_gSlot, v_gTup, v_gsN, v_gsC, v_add, v_sub, v_mul, v_fdiv, v_mod, v_pow, v_lt, v_le, v_gt, v_ge, v_neg, v_boolT, v_truB, v_truI, v_truN, v_truL, v_isN, v_isI, v_notN, v_notI, v_int, v_intB, v_abs, v_max, v_lenL, v_lenD, v_lenT, v_lenS, v_share, v_shareS, v_shareO, v_mkT, ix_ol0, ix_ol1, ix_ol2, ix_t0, ix_t1, ix_t2, v_ixN0, v_ixN1, v_ixN2, v_olOf, v_intOf, w_xv, w_perm, v_pickN, v_pickC, Option.elim_some, v_any, v_mk1, v_mk2, v_mk3, v_mk4, v_mk5, v_mk2o, v_mk3o, v_shOl, v_shTp, v_toDs, v_toDsN, v_toDsC, v_toDd, v_toDl, v_toDt, v_toFs, v_toFsN, v_toFsC, v_toFd, v_toFl, v_toFt, v_shareB, v_itT, v_itP, v_itL, v_itRl, v_itRt, v_itRD, v_itRo, v_itRb, v_it0o, v_it0p, v_it0l, v_it0t, v_itTb, v_unBb, v_unBo, v_unBp, v_unBd, v_borD, v_borO, v_borP, v_borB, v_borI, v_borX, v_borS, v_borM, v_lenB, v_lstB, v_lstO, v_lstD, v_cld, v_clo, v_clp, v_clb, v_cls, v_clsN, v_clsC, v_clsD, v_isLo, v_isLd, v_tbN, v_tbL, v_tbT, v_tbF, v_pbN, v_pbL, v_pbT, v_pbF, v_pbX, v_cbN, v_cbE, v_cbT, v_cbF, v_cbX, enumT_d, v_append, v_insert0, v_dOf, v_statO, v_statB, v_eqNil, v_neNil, v_boolsN, v_boolsC, v_mkOt, v_mkOf, v_frzN, v_frzC, v_mkO2, v_addO, v_addDO, v_addOD, v_stat, v_allD, v_dats, v_datsN, v_datsC, v_addT, v_tupO, v_tupD, v_tupT, v_listO, v_listD, v_listT, v_rg1, v_rg2, v_eqI, v_neI, v_eqS, v_neS, ↓v_iOf, ↓v_iCall, ↓v_iEnum, List.any_cons, List.any_nil, Bool.or_false, Bool.false_or, id, List.isEmpty_cons, List.isEmpty_nil, v_c0, v_c1, v_c2, v_c3, v_c4, v_c5, v_c6, v_c7, v_c8, v_c9, v_c10, Nat.reduceAdd, Int.reduceEq, Int.reduceLT, Int.reduceLE, Int.reduceNe, Nat.reduceLT, Nat.reduceEqDiff, List.length_map, List.length_reverse, List.length_replicate, List.length_set, List.getElem?_cons_zero, List.getElem?_cons_succ, List.set_cons_zero, List.set_cons_succ, Option.join_some, Option.join_none, Option.bind_some, Option.map_some, List.map_cons, List.map_nil, List.length_cons, List.length_nil, List.replicate_succ, List.replicate_zero, List.cons_append, List.nil_append, List.append_nil, Option.some.injEq, List.all_cons, List.all_nil, Bool.true_and, Bool.and_true, Bool.and_self, eq_self, decide_true, decide_false, Bool.not_true, Bool.not_false, List.tail_cons, v_starO, v_starD, v_starT, w_prop, v_isiO, ↓ap_c_law_purse_1, ↓ap_c_law_coin_1, ↓ap_c_law_coin_2, ↓ap_c_law_coin_3, ↓ap_b_law_drawn_rule_2, ↓ap_c_law_drawn_rule_2, ↓ap_b_first_loose_2, ↓ap_c_law_refused_1, ↓ap_c_law_refused_2, ↓ap_c_law_wrong_row_1, ↓ap_c_law_wrong_row_2, ↓ap_b_law_wrong_row_1, ↓ap_c_law_right_1, ↓ap_c_law_right_2, ↓ap_b_law_right_1, ↓ap_c_law_right_4, ↓ap_c_law_right_6, ↓ap_c_law_right_8, ↓ap_b_law_1, ↓ap_b_law_2, $xs,*]); (repeat ((first | (with_reducible refine sqN ?_) | ((with_reducible refine And.intro ?_ ?_); first | (with_reducible exact True.intro) | ((with_reducible refine v_small ?_); omega) | ((with_reducible refine v_big ?_ ?_) <;> omega) | (with_reducible exact ⟨True.intro, by decide⟩))); try simp (implicitDefEqProofs := false) only [↓w_ok, w_exc, ↓w_some, w_none, ↓w_obind, ↓w_omap, w_oite, ↓w_bind, w_pure, w_lift, ↓w_brT, ↓w_brF, ↓w_late, ↓w_oV, ↓w_op2, ↓w_op1, ↓w_var, ↓w_move, ↓w_c, ↓w_aNil, ↓w_aCons, ↓w_osNil, ↓w_osCons, ↓w_osApp, ↓w_tup, ↓w_lst, ↓w_bTru, ↓w_bVal, ↓w_bNot, ↓w_bAnd, ↓w_bOr, ↓w_eIf, ↓w_eAnd, ↓w_eOr, ↓w_eNot, ↓w_call, ↓w_chain, ↓w_fun, ↓w_funB, ↓w_sl, ↓w_pNo, ↓w_pAt, ↓w_run, w_nx, w_rt, w_bk, w_ct, w_xc, ↓w_seq, w_nil, ↓w_kill, ↓w_asg, ↓w_expr, ↓w_ret, ↓w_retN, ↓w_if, andP_T, andP_F, orP_T, orP_F, eIfP_T, eIfP_F, eAndP_T, eAndP_F, eOrP_T, eOrP_F, chP_T, chP_F, ifP_T, ifP_F, sq_R, sq_B, sq_C, sq_X, ty_N, ty_R, ty_B, ty_C, ty_X, wp_N, wp_R, wp_B, wp_C, md_N, md_R, md_B, md_C, md_X, kp_N, kp_R, kp_B, kp_C, kp_X, rn_N, rn_R, rn_B, rn_C, rn_X, tp_N, tp_R, tp_B, tp_C, tp_X, ↓w_setI, ↓w_par2, ↓w_par3, ↓w_raise, ↓w_fld, ↓w_try, ↓w_thru, ↓w_wipe, ↓w_turn, ↓w_eMut, ↓w_m1, ↓w_join, ↓w_jNil, ↓w_jC, ↓w_jF, ↓w_iStr, ↓w_star, ↓w_consOs, ↓w_meth, ↓w_get, ↓w_aug, v_int2, v_instOb, v_instIs, v_slot0, v_slotN, v_slotS, v_resL, v_resR, v_ressN, v_ressC, v_killN, v_killC, v_takeN, v_takeL, v_takeR, v_flag, v_putN, v_putL, v_putR, v_putO, v_outs0, v_outsT, v_outsF, v_outsN, v_start, v_gSlot, v_gTup, v_gsN, v_gsC, v_add, v_sub, v_mul, v_fdiv, v_mod, v_pow, v_lt, v_le, v_gt, v_ge, v_neg, v_boolT, v_truB, v_truI, v_truN, v_truL, v_isN, v_isI, v_notN, v_notI, v_int, v_intB, v_abs, v_max, v_lenL, v_lenD, v_lenT, v_lenS, v_share, v_shareS, v_shareO, v_mkT, ix_ol0, ix_ol1, ix_ol2, ix_t0, ix_t1, ix_t2, v_ixN0, v_ixN1, v_ixN2, v_olOf, v_intOf, w_xv, w_perm, v_pickN, v_pickC, Option.elim_some, v_any, v_mk1, v_mk2, v_mk3, v_mk4, v_mk5, v_mk2o, v_mk3o, v_shOl, v_shTp, v_toDs, v_toDsN, v_toDsC, v_toDd, v_toDl, v_toDt, v_toFs, v_toFsN, v_toFsC, v_toFd, v_toFl, v_toFt, v_shareB, v_itT, v_itP, v_itL, v_itRl, v_itRt, v_itRD, v_itRo, v_itRb, v_it0o, v_it0p, v_it0l, v_it0t, v_itTb, v_unBb, v_unBo, v_unBp, v_unBd, v_borD, v_borO, v_borP, v_borB, v_borI, v_borX, v_borS, v_borM, v_lenB, v_lstB, v_lstO, v_lstD, v_cld, v_clo, v_clp, v_clb, v_cls, v_clsN, v_clsC, v_clsD, v_isLo, v_isLd, v_tbN, v_tbL, v_tbT, v_tbF, v_pbN, v_pbL, v_pbT, v_pbF, v_pbX, v_cbN, v_cbE, v_cbT, v_cbF, v_cbX, enumT_d, v_append, v_insert0, v_dOf, v_statO, v_statB, v_eqNil, v_neNil, v_boolsN, v_boolsC, v_mkOt, v_mkOf, v_frzN, v_frzC, v_mkO2, v_addO, v_addDO, v_addOD, v_stat, v_allD, v_dats, v_datsN, v_datsC, v_addT, v_tupO, v_tupD, v_tupT, v_listO, v_listD, v_listT, v_rg1, v_rg2, v_eqI, v_neI, v_eqS, v_neS, ↓v_iOf, ↓v_iCall, ↓v_iEnum, List.any_cons, List.any_nil, Bool.or_false, Bool.false_or, id, List.isEmpty_cons, List.isEmpty_nil, v_c0, v_c1, v_c2, v_c3, v_c4, v_c5, v_c6, v_c7, v_c8, v_c9, v_c10, Nat.reduceAdd, Int.reduceEq, Int.reduceLT, Int.reduceLE, Int.reduceNe, Nat.reduceLT, Nat.reduceEqDiff, List.length_map, List.length_reverse, List.length_replicate, List.length_set, List.getElem?_cons_zero, List.getElem?_cons_succ, List.set_cons_zero, List.set_cons_succ, Option.join_some, Option.join_none, Option.bind_some, Option.map_some, List.map_cons, List.map_nil, List.length_cons, List.length_nil, List.replicate_succ, List.replicate_zero, List.cons_append, List.nil_append, List.append_nil, Option.some.injEq, List.all_cons, List.all_nil, Bool.true_and, Bool.and_true, Bool.and_self, eq_self, decide_true, decide_false, Bool.not_true, Bool.not_false, List.tail_cons, v_starO, v_starD, v_starT, w_prop, v_isiO, ↓ap_c_law_purse_1, ↓ap_c_law_coin_1, ↓ap_c_law_coin_2, ↓ap_c_law_coin_3, ↓ap_b_law_drawn_rule_2, ↓ap_c_law_drawn_rule_2, ↓ap_b_first_loose_2, ↓ap_c_law_refused_1, ↓ap_c_law_refused_2, ↓ap_c_law_wrong_row_1, ↓ap_c_law_wrong_row_2, ↓ap_b_law_wrong_row_1, ↓ap_c_law_right_1, ↓ap_c_law_right_2, ↓ap_b_law_right_1, ↓ap_c_law_right_4, ↓ap_c_law_right_6, ↓ap_c_law_right_8, ↓ap_b_law_1, ↓ap_b_law_2, $xs,*])); (try (have hfin := True.intro; clear hfin))))
local macro_rules | `(tactic| simp_all! only [$xs,*]) => `(tactic| ((try simp (implicitDefEqProofs := false) only [↓w_ok, w_exc, ↓w_some, w_none, ↓w_obind, ↓w_omap, w_oite, ↓w_bind, w_pure, w_lift, ↓w_brT, ↓w_brF, ↓w_late, ↓w_oV, ↓w_op2, ↓w_op1, ↓w_var, ↓w_move, ↓w_c, ↓w_aNil, ↓w_aCons, ↓w_osNil, ↓w_osCons, ↓w_osApp, ↓w_tup, ↓w_lst, ↓w_bTru, ↓w_bVal, ↓w_bNot, ↓w_bAnd, ↓w_bOr, ↓w_eIf, ↓w_eAnd, ↓w_eOr, ↓w_eNot, ↓w_call, ↓w_chain, ↓w_fun, ↓w_funB, ↓w_sl, ↓w_pNo, ↓w_pAt, ↓w_run, w_nx, w_rt, w_bk, w_ct, w_xc, ↓w_seq, w_nil, ↓w_kill, ↓w_asg, ↓w_expr, ↓w_ret, ↓w_retN, ↓w_if, andP_T, andP_F, orP_T, orP_F, eIfP_T, eIfP_F, eAndP_T, eAndP_F, eOrP_T, eOrP_F, chP_T, chP_F, ifP_T, ifP_F, sq_R, sq_B, sq_C, sq_X, ty_N, ty_R, ty_B, ty_C, ty_X, wp_N, wp_R, wp_B, wp_C, md_N, md_R, md_B, md_C, md_X, kp_N, kp_R, kp_B, kp_C, kp_X, rn_N, rn_R, rn_B, rn_C, rn_X, tp_N, tp_R, tp_B, tp_C, tp_X, ↓w_setI, ↓w_par2, ↓w_par3, ↓w_raise, ↓w_fld, ↓w_try, ↓w_thru, ↓w_wipe, ↓w_turn, ↓w_eMut, ↓w_m1, ↓w_join, ↓w_jNil, ↓w_jC, ↓w_jF, ↓w_iStr, ↓w_star, ↓w_consOs, ↓w_meth, ↓w_get, ↓w_aug, v_int2, v_instOb, v_instIs, v_slot0, v_slotN, v_slotS, v_resL, v_resR, v_ressN, v_ressC, v_killN, v_killC, v_takeN, v_takeL, v_takeR, v_flag, v_putN, v_putL, v_putR, v_putO, v_outs0, v_outsT, v_outsF, v_outsN, v_start, v_gSlot, v_gTup, v_gsN, v_gsC, v_add, v_sub, v_mul, v_fdiv, v_mod, v_pow, v_lt, v_le, v_gt, v_ge, v_neg, v_boolT, v_truB, v_truI, v_truN, v_truL, v_isN, v_isI, v_notN, v_notI, v_int, v_intB, v_abs, v_max, v_lenL, v_lenD, v_lenT, v_lenS, v_share, v_shareS, v_shareO, v_mkT, ix_ol0, ix_ol1, ix_ol2, ix_t0, ix_t1, ix_t2, v_ixN0, v_ixN1, v_ixN2, v_olOf, v_intOf, w_xv, w_perm, v_pickN, v_pickC, Option.elim_some, v_any, v_mk1, v_mk2, v_mk3, v_mk4, v_mk5, v_mk2o, v_mk3o, v_shOl, v_shTp, v_toDs, v_toDsN, v_toDsC, v_toDd, v_toDl, v_toDt, v_toFs, v_toFsN, v_toFsC, v_toFd, v_toFl, v_toFt, v_shareB, v_itT, v_itP, v_itL, v_itRl, v_itRt, v_itRD, v_itRo, v_itRb, v_it0o, v_it0p, v_it0l, v_it0t, v_itTb, v_unBb, v_unBo, v_unBp, v_unBd, v_borD, v_borO, v_borP, v_borB, v_borI, v_borX, v_borS, v_borM, v_lenB, v_lstB, v_lstO, v_lstD, v_cld, v_clo, v_clp, v_clb, v_cls, v_clsN, v_clsC, v_clsD, v_isLo, v_isLd, v_tbN, v_tbL, v_tbT, v_tbF, v_pbN, v_pbL, v_pbT, v_pbF, v_pbX, v_cbN, v_cbE, v_cbT, v_cbF, v_cbX, enumT_d, v_append, v_insert0, v_dOf, v_statO, v_statB, v_eqNil, v_neNil, v_boolsN, v_boolsC, v_mkOt, v_mkOf, v_frzN, v_frzC, v_mkO2, v_addO, v_addDO, v_addOD, v_stat, v_allD, v_dats, v_datsN, v_datsC, v_addT, v_tupO, v_tupD, v_tupT, v_listO, v_listD, v_listT, v_rg1, v_rg2, v_eqI, v_neI, v_eqS, v_neS, ↓v_iOf, ↓v_iCall, ↓v_iEnum, List.any_cons, List.any_nil, Bool.or_false, Bool.false_or, id, List.isEmpty_cons, List.isEmpty_nil, v_c0, v_c1, v_c2, v_c3, v_c4, v_c5, v_c6, v_c7, v_c8, v_c9, v_c10, Nat.reduceAdd, Int.reduceEq, Int.reduceLT, Int.reduceLE, Int.reduceNe, Nat.reduceLT, Nat.reduceEqDiff, List.length_map, List.length_reverse, List.length_replicate, List.length_set, List.getElem?_cons_zero, List.getElem?_cons_succ, List.set_cons_zero, List.set_cons_succ, Option.join_some, Option.join_none, Option.bind_some, Option.map_some, List.map_cons, List.map_nil, List.length_cons, List.length_nil, List.replicate_succ, List.replicate_zero, List.cons_append, List.nil_append, List.append_nil, Option.some.injEq, List.all_cons, List.all_nil, Bool.true_and, Bool.and_true, Bool.and_self, eq_self, decide_true, decide_false, Bool.not_true, Bool.not_false, List.tail_cons, v_starO, v_starD, v_starT, w_prop, v_isiO, ↓ap_c_law_purse_1, ↓ap_c_law_coin_1, ↓ap_c_law_coin_2, ↓ap_c_law_coin_3, ↓ap_k_law_drawn_rule_1, ↓ap_b_law_drawn_rule_2, ↓ap_c_law_drawn_rule_2, ↓ap_k_first_loose_1, ↓ap_b_first_loose_2, ↓ap_c_law_refused_1, ↓ap_c_law_refused_2, ↓ap_c_law_wrong_row_1, ↓ap_c_law_wrong_row_2, ↓ap_b_law_wrong_row_1, ↓ap_c_law_right_1, ↓ap_c_law_right_2, ↓ap_b_law_right_1, ↓ap_c_law_right_4, ↓ap_c_law_right_6, ↓ap_c_law_right_8, ↓ap_b_law_1, ↓ap_b_law_2, ↓w_eComp, w_cN, w_cC, $xs,*]); (repeat ((first | (with_reducible refine sqN ?_) | ((with_reducible refine And.intro ?_ ?_); first | (with_reducible exact True.intro) | ((with_reducible refine v_small ?_); omega) | ((with_reducible refine v_big ?_ ?_) <;> omega) | (with_reducible exact ⟨True.intro, by decide⟩))); try simp (implicitDefEqProofs := false) only [↓w_ok, w_exc, ↓w_some, w_none, ↓w_obind, ↓w_omap, w_oite, ↓w_bind, w_pure, w_lift, ↓w_brT, ↓w_brF, ↓w_late, ↓w_oV, ↓w_op2, ↓w_op1, ↓w_var, ↓w_move, ↓w_c, ↓w_aNil, ↓w_aCons, ↓w_osNil, ↓w_osCons, ↓w_osApp, ↓w_tup, ↓w_lst, ↓w_bTru, ↓w_bVal, ↓w_bNot, ↓w_bAnd, ↓w_bOr, ↓w_eIf, ↓w_eAnd, ↓w_eOr, ↓w_eNot, ↓w_call, ↓w_chain, ↓w_fun, ↓w_funB, ↓w_sl, ↓w_pNo, ↓w_pAt, ↓w_run, w_nx, w_rt, w_bk, w_ct, w_xc, ↓w_seq, w_nil, ↓w_kill, ↓w_asg, ↓w_expr, ↓w_ret, ↓w_retN, ↓w_if, andP_T, andP_F, orP_T, orP_F, eIfP_T, eIfP_F, eAndP_T, eAndP_F, eOrP_T, eOrP_F, chP_T, chP_F, ifP_T, ifP_F, sq_R, sq_B, sq_C, sq_X, ty_N, ty_R, ty_B, ty_C, ty_X, wp_N, wp_R, wp_B, wp_C, md_N, md_R, md_B, md_C, md_X, kp_N, kp_R, kp_B, kp_C, kp_X, rn_N, rn_R, rn_B, rn_C, rn_X, tp_N, tp_R, tp_B, tp_C, tp_X, ↓w_setI, ↓w_par2, ↓w_par3, ↓w_raise, ↓w_fld, ↓w_try, ↓w_thru, ↓w_wipe, ↓w_turn, ↓w_eMut, ↓w_m1, ↓w_join, ↓w_jNil, ↓w_jC, ↓w_jF, ↓w_iStr, ↓w_star, ↓w_consOs, ↓w_meth, ↓w_get, ↓w_aug, v_int2, v_instOb, v_instIs, v_slot0, v_slotN, v_slotS, v_resL, v_resR, v_ressN, v_ressC, v_killN, v_killC, v_takeN, v_takeL, v_takeR, v_flag, v_putN, v_putL, v_putR, v_putO, v_outs0, v_outsT, v_outsF, v_outsN, v_start, v_gSlot, v_gTup, v_gsN, v_gsC, v_add, v_sub, v_mul, v_fdiv, v_mod, v_pow, v_lt, v_le, v_gt, v_ge, v_neg, v_boolT, v_truB, v_truI, v_truN, v_truL, v_isN, v_isI, v_notN, v_notI, v_int, v_intB, v_abs, v_max, v_lenL, v_lenD, v_lenT, v_lenS, v_share, v_shareS, v_shareO, v_mkT, ix_ol0, ix_ol1, ix_ol2, ix_t0, ix_t1, ix_t2, v_ixN0, v_ixN1, v_ixN2, v_olOf, v_intOf, w_xv, w_perm, v_pickN, v_pickC, Option.elim_some, v_any, v_mk1, v_mk2, v_mk3, v_mk4, v_mk5, v_mk2o, v_mk3o, v_shOl, v_shTp, v_toDs, v_toDsN, v_toDsC, v_toDd, v_toDl, v_toDt, v_toFs, v_toFsN, v_toFsC, v_toFd, v_toFl, v_toFt, v_shareB, v_itT, v_itP, v_itL, v_itRl, v_itRt, v_itRD, v_itRo, v_itRb, v_it0o, v_it0p, v_it0l, v_it0t, v_itTb, v_unBb, v_unBo, v_unBp, v_unBd, v_borD, v_borO, v_borP, v_borB, v_borI, v_borX, v_borS, v_borM, v_lenB, v_lstB, v_lstO, v_lstD, v_cld, v_clo, v_clp, v_clb, v_cls, v_clsN, v_clsC, v_clsD, v_isLo, v_isLd, v_tbN, v_tbL, v_tbT, v_tbF, v_pbN, v_pbL, v_pbT, v_pbF, v_pbX, v_cbN, v_cbE, v_cbT, v_cbF, v_cbX, enumT_d, v_append, v_insert0, v_dOf, v_statO, v_statB, v_eqNil, v_neNil, v_boolsN, v_boolsC, v_mkOt, v_mkOf, v_frzN, v_frzC, v_mkO2, v_addO, v_addDO, v_addOD, v_stat, v_allD, v_dats, v_datsN, v_datsC, v_addT, v_tupO, v_tupD, v_tupT, v_listO, v_listD, v_listT, v_rg1, v_rg2, v_eqI, v_neI, v_eqS, v_neS, ↓v_iOf, ↓v_iCall, ↓v_iEnum, List.any_cons, List.any_nil, Bool.or_false, Bool.false_or, id, List.isEmpty_cons, List.isEmpty_nil, v_c0, v_c1, v_c2, v_c3, v_c4, v_c5, v_c6, v_c7, v_c8, v_c9, v_c10, Nat.reduceAdd, Int.reduceEq, Int.reduceLT, Int.reduceLE, Int.reduceNe, Nat.reduceLT, Nat.reduceEqDiff, List.length_map, List.length_reverse, List.length_replicate, List.length_set, List.getElem?_cons_zero, List.getElem?_cons_succ, List.set_cons_zero, List.set_cons_succ, Option.join_some, Option.join_none, Option.bind_some, Option.map_some, List.map_cons, List.map_nil, List.length_cons, List.length_nil, List.replicate_succ, List.replicate_zero, List.cons_append, List.nil_append, List.append_nil, Option.some.injEq, List.all_cons, List.all_nil, Bool.true_and, Bool.and_true, Bool.and_self, eq_self, decide_true, decide_false, Bool.not_true, Bool.not_false, List.tail_cons, v_starO, v_starD, v_starT, w_prop, v_isiO, ↓ap_c_law_purse_1, ↓ap_c_law_coin_1, ↓ap_c_law_coin_2, ↓ap_c_law_coin_3, ↓ap_k_law_drawn_rule_1, ↓ap_b_law_drawn_rule_2, ↓ap_c_law_drawn_rule_2, ↓ap_k_first_loose_1, ↓ap_b_first_loose_2, ↓ap_c_law_refused_1, ↓ap_c_law_refused_2, ↓ap_c_law_wrong_row_1, ↓ap_c_law_wrong_row_2, ↓ap_b_law_wrong_row_1, ↓ap_c_law_right_1, ↓ap_c_law_right_2, ↓ap_b_law_right_1, ↓ap_c_law_right_4, ↓ap_c_law_right_6, ↓ap_c_law_right_8, ↓ap_b_law_1, ↓ap_b_law_2, ↓w_eComp, w_cN, w_cC, $xs,*])); (try (have hfin := True.intro; clear hfin))))
theorem draw_row {n : Nat} {p0 p1 p2 m : Int} {σ : T} {rest : List T} {i : Int} {Q : T → Env → Prop} {X : XP} (hp : Pu n p0 p1 p2) (hn : n + 4 < 1000000000) (hm : 0 < m) (hm2 : m < 10 ^ 50)
    (k : ∀ q0 q1 q2 a b c e, Pu (n + 4) q0 q1 q2 → 0 ≤ a ∧ a < m → 0 ≤ b ∧ b < m → 0 ≤ c ∧ c < m → 0 ≤ e ∧ e < m → Q (.ol [.d (.int a), .d (.int b), .d (.int c), .d (.int e)]) [some (pT q0 q1 q2, true), some (σ, true), some (.d (.int m), false), some (.ol rest, false), some (.d (.int i), false), none, none]) :
    OkM (k_law_drawn_rule_1 [some (pT p0 p1 p2, true), some (σ, true), some (.d (.int m), false), some (.ol rest, false), some (.d (.int i), false), none, none]) Q X := by
  refine w_comp (fun ds ts acc ρ => ds ++ ts = rangeT 0 4 ∧ acc.length = ds.length ∧ (∃ xs : List Int, acc = xs.map (fun x => T.d (.int x)) ∧ ∀ x ∈ xs, 0 ≤ x ∧ x < m) ∧ ∃ q0 q1 q2, Pu (n + ds.length) q0 q1 q2 ∧ ρ = [some (pT q0 q1 q2, true), some (σ, true), some (.d (.int m), false), some (.ol rest, false), some (.d (.int i), false), none, none]) ?_ ?_ ?_
  · simp! only []
    exact ⟨⟨[], rfl, fun _ h => by cases h⟩, p0, p1, p2, hp, rfl⟩
  · rintro ds t ts acc ρ ⟨h1, h2, ⟨xs, rfl, h3⟩, q0, q1, q2, hq, rfl⟩
    have hl : ds.length < 4 := by
      have := congrArg List.length h1
      rw [rg_len, List.length_append, List.length_cons] at this
      have e : (4 : Int).toNat = 4 := rfl
      omega
    have ht := rg_get h1
    subst ht
    rw [List.length_map] at h2
    simp! only []
    refine coin_ok hq (by omega) hm hm2 fun r u0 u1 u2 k0 k1 ku => ?_
    simp! only []
    refine ⟨by simpa using h1, by simpa using h2, ⟨xs ++ [r], by simp, fun x hx => ?_⟩, u0, u1, u2, ku.mono (by simp; omega), rfl⟩
    rcases List.mem_append.mp hx with hx | hx
    · exact h3 x hx
    · simp only [List.mem_singleton] at hx
      subst hx; exact ⟨k0, k1⟩
  · rintro ds acc ρ ⟨h1, h2, ⟨xs, rfl, h3⟩, q0, q1, q2, hq, rfl⟩
    have hl : ds.length = 4 := by
      have := congrArg List.length h1
      rw [rg_len, List.append_nil] at this
      exact this
    rw [hl] at h2 hq
    rw [List.length_map] at h2
    match xs, h2, h3 with
    | [a, b, c, e], _, h3 => exact k q0 q1 q2 a b c e hq (h3 a (by simp)) (h3 b (by simp)) (h3 c (by simp)) (h3 e (by simp))
theorem drawn_ok {n : Nat} {p0 p1 p2 a b c : Int} {Q : T → List (Option T) → Prop} {X : XR} (hp : Pu n p0 p1 p2) (hn : n + 1000 < 1000000000) (ha : 0 < a) (ha2 : a ≤ 40) (hb : 0 < b) (hb2 : b < 10 ^ 20) (hc : 0 ≤ c) (hc2 : c < 10 ^ 20)
    (k : ∀ q0 q1 q2 ev lo (rows : List PyData), Pu (n + 1000) q0 q1 q2 → 1 ≤ ev → ev ≤ b → 0 ≤ lo → lo ≤ c → 1 ≤ rows.length → (rows.length : Int) ≤ a → (∀ d ∈ rows, RowOk rows.length d) →
      Q (.tp [.d (.int ev), .d (.int lo), .ol (rows.map T.d)]) [some (pT q0 q1 q2), some (.d (.tuple [.int a, .int b, .int c]))]) : OkR (f_law_drawn_rule [pT p0 p1 p2, .d (.tuple [.int a, .int b, .int c])]) Q X := by
  unfold f_law_drawn_rule m_law_drawn_rule
  simp! only []
  refine coin_ok hp (by omega) ha (by omega) fun r u0 u1 u2 k0 k1 ku => ?_
  simp! only []

  generalize hm : 1 + r = m
  have hm0 : 0 < m := by omega
  have hma : m ≤ a := by omega
  refine w_for (fun ds ts ρ => ds ++ ts = rangeT 0 m ∧ ∃ q0 q1 q2, ∃ rows : List PyData, rows.length = ds.length ∧ (∀ d ∈ rows, RowOk m.toNat d) ∧ Pu (n + 1 + 5 * ds.length) q0 q1 q2 ∧
    ρ = [some (pT q0 q1 q2, true), some (.d (.tuple [.int a, .int b, .int c]), true), some (.d (.int m), false), some (.ol (rows.map T.d), false), none, none, none]) ?_ ?_ ?_
  · simp! only []
    exact ⟨u0, u1, u2, [], rfl, fun _ h => (by cases h), ku, rfl⟩
  · rintro ds t ts ρ ⟨h1, q0, q1, q2, rows, h2, h3, hq, rfl⟩
    have hl : ds.length < m.toNat := by
      have := congrArg List.length h1
      rw [rg_len, List.length_append, List.length_cons] at this
      omega
    have ht := rg_get h1
    subst ht
    simp! only []
    refine coin_ok hq (by omega) (by omega) (by omega) fun r u0 u1 u2 k0 k1 ku => ?_
    simp! only []
    refine draw_row ku (by omega) hm0 (by omega) fun v0 v1 v2 x1 x2 x3 x4 kv y1 y2 y3 y4 => ?_
    have em : (m.toNat : Int) = m := by omega
    simp! only []
    refine ⟨by simpa using h1, v0, v1, v2, rows ++ [_], by simp [h2], fun d hd => ?_, kv.mono (by simp; omega), by simp; rfl⟩
    rcases List.mem_append.mp hd with hd | hd
    · exact h3 d hd
    · simp only [List.mem_singleton] at hd
      subst hd
      exact ⟨_, x1, x2, x3, x4, rfl, by rw [em]; exact y1, by rw [em]; exact y2, by rw [em]; exact y3, by rw [em]; exact y4⟩
  · rintro ds ρ ⟨h1, q0, q1, q2, rows, h2, h3, hq, rfl⟩
    have hl : ds.length = m.toNat := by
      have := congrArg List.length h1
      rw [rg_len, List.append_nil] at this
      exact this
    simp! only []
    refine coin_ok hq (by omega) hb (by omega) fun r1 u0 u1 u2 k0 k1 ku => ?_
    simp! only []
    refine coin_ok ku (by omega) (by omega) (by omega) fun r2 w0 w1 w2 k2 k3 kw => ?_
    simp! only []
    refine k w0 w1 w2 _ _ rows (kw.mono (by omega)) (by omega) (by omega) k2 (by omega) (by omega) (by omega) fun d hd => ?_
    rw [h2, hl]
    exact h3 d hd

end Lw

set_option Elab.async false
set_option linter.all false
set_option maxRecDepth 100000
namespace Lw
open FL PySem
local macro_rules | `(tactic| dsimp! only [$xs,*]) => `(tactic| try simp (implicitDefEqProofs := false) only [↓w_ok, w_exc, ↓w_some, w_none, ↓w_obind, ↓w_omap, w_oite, ↓w_bind, w_pure, w_lift, ↓w_brT, ↓w_brF, ↓w_late, ↓w_oV, ↓w_op2, ↓w_op1, ↓w_var, ↓w_move, ↓w_c, ↓w_aNil, ↓w_aCons, ↓w_osNil, ↓w_osCons, ↓w_osApp, ↓w_tup, ↓w_lst, ↓w_bTru, ↓w_bVal, ↓w_bNot, ↓w_bAnd, ↓w_bOr, ↓w_eIf, ↓w_eAnd, ↓w_eOr, ↓w_eNot, ↓w_call, ↓w_chain, ↓w_fun, ↓w_funB, ↓w_sl, ↓w_pNo, ↓w_pAt, ↓w_run, w_nx, w_rt, w_bk, w_ct, w_xc, w_nil, ↓w_kill, ↓w_asg, ↓w_expr, ↓w_ret, ↓w_retN, ↓w_if, andP_T, andP_F, orP_T, orP_F, eIfP_T, eIfP_F, eAndP_T, eAndP_F, eOrP_T, eOrP_F, chP_T, chP_F, ifP_T, ifP_F, sq_R, sq_B, sq_C, sq_X, ty_N, ty_R, ty_B, ty_C, ty_X, wp_N, wp_R, wp_B, wp_C, md_N, md_R, md_B, md_C, md_X, kp_N, kp_R, kp_B, kp_C, kp_X, rn_N, rn_R, rn_B, rn_C, rn_X, tp_N, tp_R, tp_B, tp_C, tp_X, ↓w_setI, ↓w_par2, ↓w_par3, ↓w_raise, ↓w_fld, ↓w_try, ↓w_thru, ↓w_wipe, ↓w_turn, ↓w_eMut, ↓w_m1, ↓w_join, ↓w_jNil, ↓w_jC, ↓w_jF, ↓w_iStr, ↓w_star, ↓w_consOs, ↓w_meth, ↓w_get, ↓w_aug, v_int2, v_instOb, v_instIs, v_slot0, v_slotN, v_slotS, v_resL, v_resR, v_ressN, v_ressC, v_killN, v_killC, v_takeN, v_takeL, v_takeR, v_flag, v_putN, v_putL, v_putR, v_putO, v_outs0, v_outsT, v_outsF, v_outsN, v_start, v_gSlot, v_gTup, v_gsN, v_gsC, v_add, v_sub, v_mul, v_fdiv, v_mod, v_pow, v_lt, v_le, v_gt, v_ge, v_neg, v_boolT, v_truB, v_truI, v_truN, v_truL, v_isN, v_isI, v_notN, v_notI, v_int, v_intB, v_abs, v_max, v_lenL, v_lenD, v_lenT, v_lenS, v_share, v_shareS, v_shareO, v_mkT, ix_ol0, ix_ol1, ix_ol2, ix_t0, ix_t1, ix_t2, v_ixN0, v_ixN1, v_ixN2, v_olOf, v_intOf, w_xv, w_perm, v_pickN, v_pickC, Option.elim_some, v_any, v_mk1, v_mk2, v_mk3, v_mk4, v_mk5, v_mk2o, v_mk3o, v_shOl, v_shTp, v_toDs, v_toDsN, v_toDsC, v_toDd, v_toDl, v_toDt, v_toFs, v_toFsN, v_toFsC, v_toFd, v_toFl, v_toFt, v_shareB, v_itT, v_itP, v_itL, v_itRl, v_itRt, v_itRD, v_itRo, v_itRb, v_it0o, v_it0p, v_it0l, v_it0t, v_itTb, v_unBb, v_unBo, v_unBp, v_unBd, v_borD, v_borO, v_borP, v_borB, v_borI, v_borX, v_borS, v_borM, v_lenB, v_lstB, v_lstO, v_lstD, v_cld, v_clo, v_clp, v_clb, v_cls, v_clsN, v_clsC, v_clsD, v_isLo, v_isLd, v_tbN, v_tbL, v_tbT, v_tbF, v_pbN, v_pbL, v_pbT, v_pbF, v_pbX, v_cbN, v_cbE, v_cbT, v_cbF, v_cbX, enumT_d, v_append, v_insert0, v_dOf, v_statO, v_statB, v_eqNil, v_neNil, v_boolsN, v_boolsC, v_mkOt, v_mkOf, v_frzN, v_frzC, v_mkO2, v_addO, v_addDO, v_addOD, v_stat, v_allD, v_dats, v_datsN, v_datsC, v_addT, v_tupO, v_tupD, v_tupT, v_listO, v_listD, v_listT, v_rg1, v_rg2, v_eqI, v_neI, v_eqS, v_neS, ↓v_iOf, ↓v_iCall, ↓v_iEnum, List.any_cons, List.any_nil, Bool.or_false, Bool.false_or, id, List.isEmpty_cons, List.isEmpty_nil, v_c0, v_c1, v_c2, v_c3, v_c4, v_c5, v_c6, v_c7, v_c8, v_c9, v_c10, Nat.reduceAdd, Int.reduceEq, Int.reduceLT, Int.reduceLE, Int.reduceNe, Nat.reduceLT, Nat.reduceEqDiff, List.length_map, List.length_reverse, List.length_replicate, List.length_set, List.getElem?_cons_zero, List.getElem?_cons_succ, List.set_cons_zero, List.set_cons_succ, Option.join_some, Option.join_none, Option.bind_some, Option.map_some, List.map_cons, List.map_nil, List.length_cons, List.length_nil, List.replicate_succ, List.replicate_zero, List.cons_append, List.nil_append, List.append_nil, Option.some.injEq, List.all_cons, List.all_nil, Bool.true_and, Bool.and_true, Bool.and_self, eq_self, decide_true, decide_false, Bool.not_true, Bool.not_false, List.tail_cons, v_starO, v_starD, v_starT, w_prop, v_isiO, ↓ap_c_law_purse_1, ↓ap_c_law_coin_1, ↓ap_c_law_coin_2, ↓ap_c_law_coin_3, ↓ap_b_law_drawn_rule_2, ↓ap_c_law_drawn_rule_2, ↓ap_b_first_loose_2, ↓ap_c_law_refused_1, ↓ap_c_law_refused_2, ↓ap_c_law_wrong_row_1, ↓ap_c_law_wrong_row_2, ↓ap_b_law_wrong_row_1, ↓ap_c_law_right_1, ↓ap_c_law_right_2, ↓ap_b_law_right_1, ↓ap_c_law_right_4, ↓ap_c_law_right_6, ↓ap_c_law_right_8, ↓ap_b_law_1, ↓ap_b_law_2, $xs,*])
local macro_rules | `(tactic| simp! only [$xs,*]) => `(tactic| ((try simp (implicitDefEqProofs := false) only [↓w_ok, w_exc, ↓w_some, w_none, ↓w_obind, ↓w_omap, w_oite, ↓w_bind, w_pure, w_lift, ↓w_brT, ↓w_brF, ↓w_late, ↓w_oV, ↓w_op2, ↓w_op1, ↓w_var, ↓w_move, ↓w_c, ↓w_aNil, ↓w_aCons, ↓w_osNil, ↓w_osCons, ↓w_osApp, ↓w_tup, ↓w_lst, ↓w_bTru, ↓w_bVal, ↓w_bNot, ↓w_bAnd, ↓w_bOr, ↓w_eIf, ↓w_eAnd, ↓w_eOr, ↓w_eNot, ↓w_call, ↓w_chain, ↓w_fun, ↓w_funB, ↓w_sl, ↓w_pNo, ↓w_pAt, ↓w_run, w_nx, w_rt, w_bk, w_ct, w_xc, ↓w_seq, w_nil, ↓w_kill, ↓w_asg, ↓w_expr, ↓w_ret, ↓w_retN, ↓w_if, andP_T, andP_F, orP_T, orP_F, eIfP_T, eIfP_F, eAndP_T, eAndP_F, eOrP_T, eOrP_F, chP_T, chP_F, ifP_T, ifP_F, sq_R, sq_B, sq_C, sq_X, ty_N, ty_R, ty_B, ty_C, ty_X, wp_N, wp_R, wp_B, wp_C, md_N, md_R, md_B, md_C, md_X, kp_N, kp_R, kp_B, kp_C, kp_X, rn_N, rn_R, rn_B, rn_C, rn_X, tp_N, tp_R, tp_B, tp_C, tp_X, ↓w_setI, ↓w_par2, ↓w_par3, ↓w_raise, ↓w_fld, ↓w_try, ↓w_thru, ↓w_wipe, ↓w_turn, ↓w_eMut, ↓w_m1, ↓w_join, ↓w_jNil, ↓w_jC, ↓w_jF, ↓w_iStr, ↓w_star, ↓w_consOs, ↓w_meth, ↓w_get, ↓w_aug, v_int2, v_instOb, v_instIs, v_slot0, v_slotN, v_slotS, v_resL, v_resR, v_ressN, v_ressC, v_killN, v_killC, v_takeN, v_takeL, v_takeR, v_flag, v_putN, v_putL, v_putR, v_putO, v_outs0, v_outsT, v_outsF, v_outsN, v_start, v_gSlot, v_gTup, v_gsN, v_gsC, v_add, v_sub, v_mul, v_fdiv, v_mod, v_pow, v_lt, v_le, v_gt, v_ge, v_neg, v_boolT, v_truB, v_truI, v_truN, v_truL, v_isN, v_isI, v_notN, v_notI, v_int, v_intB, v_abs, v_max, v_lenL, v_lenD, v_lenT, v_lenS, v_share, v_shareS, v_shareO, v_mkT, ix_ol0, ix_ol1, ix_ol2, ix_t0, ix_t1, ix_t2, v_ixN0, v_ixN1, v_ixN2, v_olOf, v_intOf, w_xv, w_perm, v_pickN, v_pickC, Option.elim_some, v_any, v_mk1, v_mk2, v_mk3, v_mk4, v_mk5, v_mk2o, v_mk3o, v_shOl, v_shTp, v_toDs, v_toDsN, v_toDsC, v_toDd, v_toDl, v_toDt, v_toFs, v_toFsN, v_toFsC, v_toFd, v_toFl, v_toFt, v_shareB, v_itT, v_itP, v_itL, v_itRl, v_itRt, v_itRD, v_itRo, v_itRb, v_it0o, v_it0p, v_it0l, v_it0t, v_itTb, v_unBb, v_unBo, v_unBp, v_unBd, v_borD, v_borO, v_borP, v_borB, v_borI, v_borX, v_borS, v_borM, v_lenB, v_lstB, v_lstO, v_lstD, v_cld, v_clo, v_clp, v_clb, v_cls, v_clsN, v_clsC, v_clsD, v_isLo, v_isLd, v_tbN, v_tbL, v_tbT, v_tbF, v_pbN, v_pbL, v_pbT, v_pbF, v_pbX, v_cbN, v_cbE, v_cbT, v_cbF, v_cbX, enumT_d, v_append, v_insert0, v_dOf, v_statO, v_statB, v_eqNil, v_neNil, v_boolsN, v_boolsC, v_mkOt, v_mkOf, v_frzN, v_frzC, v_mkO2, v_addO, v_addDO, v_addOD, v_stat, v_allD, v_dats, v_datsN, v_datsC, v_addT, v_tupO, v_tupD, v_tupT, v_listO, v_listD, v_listT, v_rg1, v_rg2, v_eqI, v_neI, v_eqS, v_neS, ↓v_iOf, ↓v_iCall, ↓v_iEnum, List.any_cons, List.any_nil, Bool.or_false, Bool.false_or, id, List.isEmpty_cons, List.isEmpty_nil, v_c0, v_c1, v_c2, v_c3, v_c4, v_c5, v_c6, v_c7, v_c8, v_c9, v_c10, Nat.reduceAdd, Int.reduceEq, Int.reduceLT, Int.reduceLE, Int.reduceNe, Nat.reduceLT, Nat.reduceEqDiff, List.length_map, List.length_reverse, List.length_replicate, List.length_set, List.getElem?_cons_zero, List.getElem?_cons_succ, List.set_cons_zero, List.set_cons_succ, Option.join_some, Option.join_none, Option.bind_some, Option.map_some, List.map_cons, List.map_nil, List.length_cons, List.length_nil, List.replicate_succ, List.replicate_zero, List.cons_append, List.nil_append, List.append_nil, Option.some.injEq, List.all_cons, List.all_nil, Bool.true_and, Bool.and_true, Bool.and_self, eq_self, decide_true, decide_false, Bool.not_true, Bool.not_false, List.tail_cons, v_starO, v_starD, v_starT, w_prop, v_isiO, ↓ap_c_law_purse_1, ↓ap_c_law_coin_1, ↓ap_c_law_coin_2, ↓ap_c_law_coin_3, ↓ap_b_law_drawn_rule_2, ↓ap_c_law_drawn_rule_2, ↓ap_b_first_loose_2, ↓ap_c_law_refused_1, ↓ap_c_law_refused_2, ↓ap_c_law_wrong_row_1, ↓ap_c_law_wrong_row_2, ↓ap_b_law_wrong_row_1, ↓ap_c_law_right_1, ↓ap_c_law_right_2, ↓ap_b_law_right_1, ↓ap_c_law_right_4, ↓ap_c_law_right_6, ↓ap_c_law_right_8, ↓ap_b_law_1, ↓ap_b_law_2, $xs,*]); (repeat ((first | (with_reducible refine sqN ?_) | ((with_reducible refine And.intro ?_ ?_); first | (with_reducible exact True.intro) | ((with_reducible refine v_small ?_); omega) | ((with_reducible refine v_big ?_ ?_) <;> omega) | (with_reducible exact ⟨True.intro, by decide⟩))); try simp (implicitDefEqProofs := false) only [↓w_ok, w_exc, ↓w_some, w_none, ↓w_obind, ↓w_omap, w_oite, ↓w_bind, w_pure, w_lift, ↓w_brT, ↓w_brF, ↓w_late, ↓w_oV, ↓w_op2, ↓w_op1, ↓w_var, ↓w_move, ↓w_c, ↓w_aNil, ↓w_aCons, ↓w_osNil, ↓w_osCons, ↓w_osApp, ↓w_tup, ↓w_lst, ↓w_bTru, ↓w_bVal, ↓w_bNot, ↓w_bAnd, ↓w_bOr, ↓w_eIf, ↓w_eAnd, ↓w_eOr, ↓w_eNot, ↓w_call, ↓w_chain, ↓w_fun, ↓w_funB, ↓w_sl, ↓w_pNo, ↓w_pAt, ↓w_run, w_nx, w_rt, w_bk, w_ct, w_xc, ↓w_seq, w_nil, ↓w_kill, ↓w_asg, ↓w_expr, ↓w_ret, ↓w_retN, ↓w_if, andP_T, andP_F, orP_T, orP_F, eIfP_T, eIfP_F, eAndP_T, eAndP_F, eOrP_T, eOrP_F, chP_T, chP_F, ifP_T, ifP_F, sq_R, sq_B, sq_C, sq_X, ty_N, ty_R, ty_B, ty_C, ty_X, wp_N, wp_R, wp_B, wp_C, md_N, md_R, md_B, md_C, md_X, kp_N, kp_R, kp_B, kp_C, kp_X, rn_N, rn_R, rn_B, rn_C, rn_X, tp_N, tp_R, tp_B, tp_C, tp_X, ↓w_setI, ↓w_par2, ↓w_par3, ↓w_raise, ↓w_fld, ↓w_try, ↓w_thru, ↓w_wipe, ↓w_turn, ↓w_eMut, ↓w_m1, ↓w_join, ↓w_jNil, ↓w_jC, ↓w_jF, ↓w_iStr, ↓w_star, ↓w_consOs, ↓w_meth, ↓w_get, ↓w_aug, v_int2, v_instOb, v_instIs, v_slot0, v_slotN, v_slotS, v_resL, v_resR, v_ressN, v_ressC, v_killN, v_killC, v_takeN, v_takeL, v_takeR, v_flag, v_putN, v_putL, v_putR, v_putO, v_outs0, v_outsT, v_outsF, v_outsN, v_start, v_gSlot, v_gTup, v_gsN, v_gsC, v_add, v_sub, v_mul, v_fdiv, v_mod, v_pow, v_lt, v_le, v_gt, v_ge, v_neg, v_boolT, v_truB, v_truI, v_truN, v_truL, v_isN, v_isI, v_notN, v_notI, v_int, v_intB, v_abs, v_max, v_lenL, v_lenD, v_lenT, v_lenS, v_share, v_shareS, v_shareO, v_mkT, ix_ol0, ix_ol1, ix_ol2, ix_t0, ix_t1, ix_t2, v_ixN0, v_ixN1, v_ixN2, v_olOf, v_intOf, w_xv, w_perm, v_pickN, v_pickC, Option.elim_some, v_any, v_mk1, v_mk2, v_mk3, v_mk4, v_mk5, v_mk2o, v_mk3o, v_shOl, v_shTp, v_toDs, v_toDsN, v_toDsC, v_toDd, v_toDl, v_toDt, v_toFs, v_toFsN, v_toFsC, v_toFd, v_toFl, v_toFt, v_shareB, v_itT, v_itP, v_itL, v_itRl, v_itRt, v_itRD, v_itRo, v_itRb, v_it0o, v_it0p, v_it0l, v_it0t, v_itTb, v_unBb, v_unBo, v_unBp, v_unBd, v_borD, v_borO, v_borP, v_borB, v_borI, v_borX, v_borS, v_borM, v_lenB, v_lstB, v_lstO, v_lstD, v_cld, v_clo, v_clp, v_clb, v_cls, v_clsN, v_clsC, v_clsD, v_isLo, v_isLd, v_tbN, v_tbL, v_tbT, v_tbF, v_pbN, v_pbL, v_pbT, v_pbF, v_pbX, v_cbN, v_cbE, v_cbT, v_cbF, v_cbX, enumT_d, v_append, v_insert0, v_dOf, v_statO, v_statB, v_eqNil, v_neNil, v_boolsN, v_boolsC, v_mkOt, v_mkOf, v_frzN, v_frzC, v_mkO2, v_addO, v_addDO, v_addOD, v_stat, v_allD, v_dats, v_datsN, v_datsC, v_addT, v_tupO, v_tupD, v_tupT, v_listO, v_listD, v_listT, v_rg1, v_rg2, v_eqI, v_neI, v_eqS, v_neS, ↓v_iOf, ↓v_iCall, ↓v_iEnum, List.any_cons, List.any_nil, Bool.or_false, Bool.false_or, id, List.isEmpty_cons, List.isEmpty_nil, v_c0, v_c1, v_c2, v_c3, v_c4, v_c5, v_c6, v_c7, v_c8, v_c9, v_c10, Nat.reduceAdd, Int.reduceEq, Int.reduceLT, Int.reduceLE, Int.reduceNe, Nat.reduceLT, Nat.reduceEqDiff, List.length_map, List.length_reverse, List.length_replicate, List.length_set, List.getElem?_cons_zero, List.getElem?_cons_succ, List.set_cons_zero, List.set_cons_succ, Option.join_some, Option.join_none, Option.bind_some, Option.map_some, List.map_cons, List.map_nil, List.length_cons, List.length_nil, List.replicate_succ, List.replicate_zero, List.cons_append, List.nil_append, List.append_nil, Option.some.injEq, List.all_cons, List.all_nil, Bool.true_and, Bool.and_true, Bool.and_self, eq_self, decide_true, decide_false, Bool.not_true, Bool.not_false, List.tail_cons, v_starO, v_starD, v_starT, w_prop, v_isiO, ↓ap_c_law_purse_1, ↓ap_c_law_coin_1, ↓ap_c_law_coin_2, ↓ap_c_law_coin_3, ↓ap_b_law_drawn_rule_2, ↓ap_c_law_drawn_rule_2, ↓ap_b_first_loose_2, ↓ap_c_law_refused_1, ↓ap_c_law_refused_2, ↓ap_c_law_wrong_row_1, ↓ap_c_law_wrong_row_2, ↓ap_b_law_wrong_row_1, ↓ap_c_law_right_1, ↓ap_c_law_right_2, ↓ap_b_law_right_1, ↓ap_c_law_right_4, ↓ap_c_law_right_6, ↓ap_c_law_right_8, ↓ap_b_law_1, ↓ap_b_law_2, $xs,*])); (try (have hfin := True.intro; clear hfin))))
local macro_rules | `(tactic| simp_all! only [$xs,*]) => `(tactic| ((try simp (implicitDefEqProofs := false) only [↓w_ok, w_exc, ↓w_some, w_none, ↓w_obind, ↓w_omap, w_oite, ↓w_bind, w_pure, w_lift, ↓w_brT, ↓w_brF, ↓w_late, ↓w_oV, ↓w_op2, ↓w_op1, ↓w_var, ↓w_move, ↓w_c, ↓w_aNil, ↓w_aCons, ↓w_osNil, ↓w_osCons, ↓w_osApp, ↓w_tup, ↓w_lst, ↓w_bTru, ↓w_bVal, ↓w_bNot, ↓w_bAnd, ↓w_bOr, ↓w_eIf, ↓w_eAnd, ↓w_eOr, ↓w_eNot, ↓w_call, ↓w_chain, ↓w_fun, ↓w_funB, ↓w_sl, ↓w_pNo, ↓w_pAt, ↓w_run, w_nx, w_rt, w_bk, w_ct, w_xc, ↓w_seq, w_nil, ↓w_kill, ↓w_asg, ↓w_expr, ↓w_ret, ↓w_retN, ↓w_if, andP_T, andP_F, orP_T, orP_F, eIfP_T, eIfP_F, eAndP_T, eAndP_F, eOrP_T, eOrP_F, chP_T, chP_F, ifP_T, ifP_F, sq_R, sq_B, sq_C, sq_X, ty_N, ty_R, ty_B, ty_C, ty_X, wp_N, wp_R, wp_B, wp_C, md_N, md_R, md_B, md_C, md_X, kp_N, kp_R, kp_B, kp_C, kp_X, rn_N, rn_R, rn_B, rn_C, rn_X, tp_N, tp_R, tp_B, tp_C, tp_X, ↓w_setI, ↓w_par2, ↓w_par3, ↓w_raise, ↓w_fld, ↓w_try, ↓w_thru, ↓w_wipe, ↓w_turn, ↓w_eMut, ↓w_m1, ↓w_join, ↓w_jNil, ↓w_jC, ↓w_jF, ↓w_iStr, ↓w_star, ↓w_consOs, ↓w_meth, ↓w_get, ↓w_aug, v_int2, v_instOb, v_instIs, v_slot0, v_slotN, v_slotS, v_resL, v_resR, v_ressN, v_ressC, v_killN, v_killC, v_takeN, v_takeL, v_takeR, v_flag, v_putN, v_putL, v_putR, v_putO, v_outs0, v_outsT, v_outsF, v_outsN, v_start, v_gSlot, v_gTup, v_gsN, v_gsC, v_add, v_sub, v_mul, v_fdiv, v_mod, v_pow, v_lt, v_le, v_gt, v_ge, v_neg, v_boolT, v_truB, v_truI, v_truN, v_truL, v_isN, v_isI, v_notN, v_notI, v_int, v_intB, v_abs, v_max, v_lenL, v_lenD, v_lenT, v_lenS, v_share, v_shareS, v_shareO, v_mkT, ix_ol0, ix_ol1, ix_ol2, ix_t0, ix_t1, ix_t2, v_ixN0, v_ixN1, v_ixN2, v_olOf, v_intOf, w_xv, w_perm, v_pickN, v_pickC, Option.elim_some, v_any, v_mk1, v_mk2, v_mk3, v_mk4, v_mk5, v_mk2o, v_mk3o, v_shOl, v_shTp, v_toDs, v_toDsN, v_toDsC, v_toDd, v_toDl, v_toDt, v_toFs, v_toFsN, v_toFsC, v_toFd, v_toFl, v_toFt, v_shareB, v_itT, v_itP, v_itL, v_itRl, v_itRt, v_itRD, v_itRo, v_itRb, v_it0o, v_it0p, v_it0l, v_it0t, v_itTb, v_unBb, v_unBo, v_unBp, v_unBd, v_borD, v_borO, v_borP, v_borB, v_borI, v_borX, v_borS, v_borM, v_lenB, v_lstB, v_lstO, v_lstD, v_cld, v_clo, v_clp, v_clb, v_cls, v_clsN, v_clsC, v_clsD, v_isLo, v_isLd, v_tbN, v_tbL, v_tbT, v_tbF, v_pbN, v_pbL, v_pbT, v_pbF, v_pbX, v_cbN, v_cbE, v_cbT, v_cbF, v_cbX, enumT_d, v_append, v_insert0, v_dOf, v_statO, v_statB, v_eqNil, v_neNil, v_boolsN, v_boolsC, v_mkOt, v_mkOf, v_frzN, v_frzC, v_mkO2, v_addO, v_addDO, v_addOD, v_stat, v_allD, v_dats, v_datsN, v_datsC, v_addT, v_tupO, v_tupD, v_tupT, v_listO, v_listD, v_listT, v_rg1, v_rg2, v_eqI, v_neI, v_eqS, v_neS, ↓v_iOf, ↓v_iCall, ↓v_iEnum, List.any_cons, List.any_nil, Bool.or_false, Bool.false_or, id, List.isEmpty_cons, List.isEmpty_nil, v_c0, v_c1, v_c2, v_c3, v_c4, v_c5, v_c6, v_c7, v_c8, v_c9, v_c10, Nat.reduceAdd, Int.reduceEq, Int.reduceLT, Int.reduceLE, Int.reduceNe, Nat.reduceLT, Nat.reduceEqDiff, List.length_map, List.length_reverse, List.length_replicate, List.length_set, List.getElem?_cons_zero, List.getElem?_cons_succ, List.set_cons_zero, List.set_cons_succ, Option.join_some, Option.join_none, Option.bind_some, Option.map_some, List.map_cons, List.map_nil, List.length_cons, List.length_nil, List.replicate_succ, List.replicate_zero, List.cons_append, List.nil_append, List.append_nil, Option.some.injEq, List.all_cons, List.all_nil, Bool.true_and, Bool.and_true, Bool.and_self, eq_self, decide_true, decide_false, Bool.not_true, Bool.not_false, List.tail_cons, v_starO, v_starD, v_starT, w_prop, v_isiO, ↓ap_c_law_purse_1, ↓ap_c_law_coin_1, ↓ap_c_law_coin_2, ↓ap_c_law_coin_3, ↓ap_k_law_drawn_rule_1, ↓ap_b_law_drawn_rule_2, ↓ap_c_law_drawn_rule_2, ↓ap_k_first_loose_1, ↓ap_b_first_loose_2, ↓ap_c_law_refused_1, ↓ap_c_law_refused_2, ↓ap_c_law_wrong_row_1, ↓ap_c_law_wrong_row_2, ↓ap_b_law_wrong_row_1, ↓ap_c_law_right_1, ↓ap_c_law_right_2, ↓ap_b_law_right_1, ↓ap_c_law_right_4, ↓ap_c_law_right_6, ↓ap_c_law_right_8, ↓ap_b_law_1, ↓ap_b_law_2, ↓w_eComp, w_cN, w_cC, $xs,*]); (repeat ((first | (with_reducible refine sqN ?_) | ((with_reducible refine And.intro ?_ ?_); first | (with_reducible exact True.intro) | ((with_reducible refine v_small ?_); omega) | ((with_reducible refine v_big ?_ ?_) <;> omega) | (with_reducible exact ⟨True.intro, by decide⟩))); try simp (implicitDefEqProofs := false) only [↓w_ok, w_exc, ↓w_some, w_none, ↓w_obind, ↓w_omap, w_oite, ↓w_bind, w_pure, w_lift, ↓w_brT, ↓w_brF, ↓w_late, ↓w_oV, ↓w_op2, ↓w_op1, ↓w_var, ↓w_move, ↓w_c, ↓w_aNil, ↓w_aCons, ↓w_osNil, ↓w_osCons, ↓w_osApp, ↓w_tup, ↓w_lst, ↓w_bTru, ↓w_bVal, ↓w_bNot, ↓w_bAnd, ↓w_bOr, ↓w_eIf, ↓w_eAnd, ↓w_eOr, ↓w_eNot, ↓w_call, ↓w_chain, ↓w_fun, ↓w_funB, ↓w_sl, ↓w_pNo, ↓w_pAt, ↓w_run, w_nx, w_rt, w_bk, w_ct, w_xc, ↓w_seq, w_nil, ↓w_kill, ↓w_asg, ↓w_expr, ↓w_ret, ↓w_retN, ↓w_if, andP_T, andP_F, orP_T, orP_F, eIfP_T, eIfP_F, eAndP_T, eAndP_F, eOrP_T, eOrP_F, chP_T, chP_F, ifP_T, ifP_F, sq_R, sq_B, sq_C, sq_X, ty_N, ty_R, ty_B, ty_C, ty_X, wp_N, wp_R, wp_B, wp_C, md_N, md_R, md_B, md_C, md_X, kp_N, kp_R, kp_B, kp_C, kp_X, rn_N, rn_R, rn_B, rn_C, rn_X, tp_N, tp_R, tp_B, tp_C, tp_X, ↓w_setI, ↓w_par2, ↓w_par3, ↓w_raise, ↓w_fld, ↓w_try, ↓w_thru, ↓w_wipe, ↓w_turn, ↓w_eMut, ↓w_m1, ↓w_join, ↓w_jNil, ↓w_jC, ↓w_jF, ↓w_iStr, ↓w_star, ↓w_consOs, ↓w_meth, ↓w_get, ↓w_aug, v_int2, v_instOb, v_instIs, v_slot0, v_slotN, v_slotS, v_resL, v_resR, v_ressN, v_ressC, v_killN, v_killC, v_takeN, v_takeL, v_takeR, v_flag, v_putN, v_putL, v_putR, v_putO, v_outs0, v_outsT, v_outsF, v_outsN, v_start, v_gSlot, v_gTup, v_gsN, v_gsC, v_add, v_sub, v_mul, v_fdiv, v_mod, v_pow, v_lt, v_le, v_gt, v_ge, v_neg, v_boolT, v_truB, v_truI, v_truN, v_truL, v_isN, v_isI, v_notN, v_notI, v_int, v_intB, v_abs, v_max, v_lenL, v_lenD, v_lenT, v_lenS, v_share, v_shareS, v_shareO, v_mkT, ix_ol0, ix_ol1, ix_ol2, ix_t0, ix_t1, ix_t2, v_ixN0, v_ixN1, v_ixN2, v_olOf, v_intOf, w_xv, w_perm, v_pickN, v_pickC, Option.elim_some, v_any, v_mk1, v_mk2, v_mk3, v_mk4, v_mk5, v_mk2o, v_mk3o, v_shOl, v_shTp, v_toDs, v_toDsN, v_toDsC, v_toDd, v_toDl, v_toDt, v_toFs, v_toFsN, v_toFsC, v_toFd, v_toFl, v_toFt, v_shareB, v_itT, v_itP, v_itL, v_itRl, v_itRt, v_itRD, v_itRo, v_itRb, v_it0o, v_it0p, v_it0l, v_it0t, v_itTb, v_unBb, v_unBo, v_unBp, v_unBd, v_borD, v_borO, v_borP, v_borB, v_borI, v_borX, v_borS, v_borM, v_lenB, v_lstB, v_lstO, v_lstD, v_cld, v_clo, v_clp, v_clb, v_cls, v_clsN, v_clsC, v_clsD, v_isLo, v_isLd, v_tbN, v_tbL, v_tbT, v_tbF, v_pbN, v_pbL, v_pbT, v_pbF, v_pbX, v_cbN, v_cbE, v_cbT, v_cbF, v_cbX, enumT_d, v_append, v_insert0, v_dOf, v_statO, v_statB, v_eqNil, v_neNil, v_boolsN, v_boolsC, v_mkOt, v_mkOf, v_frzN, v_frzC, v_mkO2, v_addO, v_addDO, v_addOD, v_stat, v_allD, v_dats, v_datsN, v_datsC, v_addT, v_tupO, v_tupD, v_tupT, v_listO, v_listD, v_listT, v_rg1, v_rg2, v_eqI, v_neI, v_eqS, v_neS, ↓v_iOf, ↓v_iCall, ↓v_iEnum, List.any_cons, List.any_nil, Bool.or_false, Bool.false_or, id, List.isEmpty_cons, List.isEmpty_nil, v_c0, v_c1, v_c2, v_c3, v_c4, v_c5, v_c6, v_c7, v_c8, v_c9, v_c10, Nat.reduceAdd, Int.reduceEq, Int.reduceLT, Int.reduceLE, Int.reduceNe, Nat.reduceLT, Nat.reduceEqDiff, List.length_map, List.length_reverse, List.length_replicate, List.length_set, List.getElem?_cons_zero, List.getElem?_cons_succ, List.set_cons_zero, List.set_cons_succ, Option.join_some, Option.join_none, Option.bind_some, Option.map_some, List.map_cons, List.map_nil, List.length_cons, List.length_nil, List.replicate_succ, List.replicate_zero, List.cons_append, List.nil_append, List.append_nil, Option.some.injEq, List.all_cons, List.all_nil, Bool.true_and, Bool.and_true, Bool.and_self, eq_self, decide_true, decide_false, Bool.not_true, Bool.not_false, List.tail_cons, v_starO, v_starD, v_starT, w_prop, v_isiO, ↓ap_c_law_purse_1, ↓ap_c_law_coin_1, ↓ap_c_law_coin_2, ↓ap_c_law_coin_3, ↓ap_k_law_drawn_rule_1, ↓ap_b_law_drawn_rule_2, ↓ap_c_law_drawn_rule_2, ↓ap_k_first_loose_1, ↓ap_b_first_loose_2, ↓ap_c_law_refused_1, ↓ap_c_law_refused_2, ↓ap_c_law_wrong_row_1, ↓ap_c_law_wrong_row_2, ↓ap_b_law_wrong_row_1, ↓ap_c_law_right_1, ↓ap_c_law_right_2, ↓ap_b_law_right_1, ↓ap_c_law_right_4, ↓ap_c_law_right_6, ↓ap_c_law_right_8, ↓ap_b_law_1, ↓ap_b_law_2, ↓w_eComp, w_cN, w_cC, $xs,*])); (try (have hfin := True.intro; clear hfin))))
/-! ### rules -/
def LV (t : T) (rows : List PyData) : Prop := t = .ol (rows.map T.d) ∨ t = .d (.list rows) ∨ t = .bw (.ol (rows.map T.d))
/-- .. as it is read: frozen or lent -/
def LS (t : T) (rows : List PyData) : Prop := t = .d (.list rows) ∨ t = .bw (.ol (rows.map T.d))
theorem LV.share {t : T} {rows : List PyData} (h : LV t rows) : ∃ u, t.share = some u ∧ LS u rows := by
  rcases h with rfl | rfl | rfl
  · exact ⟨.d (.list rows), by rw [v_shOl, v_toFs]; rfl, .inl rfl⟩
  · exact ⟨_, rfl, .inl rfl⟩
  · exact ⟨_, rfl, .inr rfl⟩
theorem LV.bor {t : T} {rows : List PyData} (h : LV t rows) : LV (bor t) rows := by
  rcases h with rfl | rfl | rfl
  · exact .inr (.inr rfl)
  · exact .inr (.inl rfl)
  · exact .inr (.inr rfl)
theorem LV.len {t : T} {rows : List PyData} (h : LV t rows) : lenT [t] = some (.d (.int rows.length)) := by
  rcases h with rfl | rfl | rfl
  · rw [v_lenL, List.length_map]
  · exact v_lenD
  · rw [v_lenB, List.length_map]
theorem LV.tup {t : T} {rows : List PyData} (h : LV t rows) : tupleT [t] = some (.d (.tuple rows)) := by
  rcases h with rfl | rfl | rfl
  · show (dats (rows.map T.d)).map _ = _
    rw [v_dats]; rfl
  · exact v_tupD
  · show (dats ((rows.map T.d).map FL.bor)).map _ = _
    rw [v_borM, v_dats]; rfl
theorem LV.toD {t : T} {rows : List PyData} (h : LV t rows) : t.toD = some (.list rows) := by
  rcases h with rfl | rfl | rfl
  · rw [v_toDl, v_toDs]; rfl
  · rfl
  · show (T.toDs (rows.map T.d)).map _ = _
    rw [v_toDs]; rfl
theorem LS.len {t : T} {rows : List PyData} (h : LS t rows) : lenT [t] = some (.d (.int rows.length)) := LV.len (h.elim (fun h => .inr (.inl h)) fun h => .inr (.inr h))
theorem LS.it {t : T} {rows : List PyData} (h : LS t rows) : itemsR t = some (rows.map T.d) := by
  rcases h with rfl | rfl
  · rfl
  · show some ((rows.map T.d).map bor) = _
    rw [v_borM]
theorem LS.isL {t : T} {rows : List PyData} (h : LS t rows) : isLst (unB t) = true := by
  rcases h with rfl | rfl <;> rfl
theorem LS.share {t : T} {rows : List PyData} (h : LS t rows) : t.share = some t := by
  rcases h with rfl | rfl <;> rfl
theorem loose_turn {t : T} {rows : List PyData} {m : Nat} {d : PyData} {i : Int} {Q : Post} (ht : LS t rows) (hd : RowOk m d) (hm : rows.length = m) (k : Q.N [some (t, true), none, none, none]) :
    OkF (turnF [1, 2] (gTupT 2 (gsCons (gSlot 1) (gsCons (gSlot 2) (gsNil)))) b_first_loose_2 (.d (.tuple [.int i, d])) [some (t, true), none, none, none]) Q := by
  obtain ⟨s, a, b, c, e, rfl, ha, hb, hc, he⟩ := hd
  have hs : sliceT (some 1) none (.d (.tuple [.bool s, .int a, .int b, .int c, .int e])) = some (.d (.tuple [.int a, .int b, .int c, .int e])) := rfl
  have d1 : ∀ x : Int, 0 ≤ x ∧ x < m → decide (0 ≤ x) = true := fun x h => decide_eq_true h.1
  have d2 : ∀ x : Int, 0 ≤ x ∧ x < m → decide (x < (m : Int)) = true := fun x h => decide_eq_true h.2
  simp_all! only [hs, hm, ht.len, d1 a ha, d1 b hb, d1 c hc, d1 e he, d2 a ha, d2 b hb, d2 c hc, d2 e he]
  exact k
theorem loose_ok {t : T} {rows : List PyData} {Q : T → List (Option T) → Prop} {X : XR} (h : LV t rows) (hr : ∀ d ∈ rows, RowOk rows.length d) (k : ∀ o, Q (.d .none) [o]) : OkR (f_first_loose [t]) Q X := by
  obtain ⟨u, hu, hs⟩ := h.share
  unfold f_first_loose m_first_loose
  simp! only [hu]
  refine w_for (fun ds ts ρ => (∃ i : Nat, ∃ xs, ts = enumD i xs ∧ ∀ d ∈ xs, d ∈ rows) ∧ ρ = [some (u, true), none, none, none]) ?_ ?_ ?_
  · simp! only [hu, hs.it, hs.isL]
    exact ⟨⟨0, rows, rfl, fun _ h => h⟩, trivial⟩
  · rintro ds t ts ρ ⟨⟨i, xs, e, hx⟩, rfl⟩
    cases xs with
    | nil => cases e
    | cons x xs =>
      cases e
      exact loose_turn hs (hr x (hx x List.mem_cons_self)) rfl ⟨⟨i + 1, xs, rfl, fun d hd => hx d (List.mem_cons_of_mem _ hd)⟩, rfl⟩
  · rintro ds ρ ⟨_, rfl⟩
    simp! only []
    exact k _
abbrev ruleT (ev lo : Int) (rows : List PyData) : T := .ob "Rule" [("kept_every", .int ev), ("kept_losses", .int lo), ("kept_states", .tuple rows)]
theorem rule_ok {ev lo : Int} {t : T} {rows : List PyData} {Q : T → List (Option T) → Prop} {X : XR} (h : LV t rows) (h1 : 1 ≤ ev) (h2 : 0 ≤ lo) (h3 : 1 ≤ rows.length) (hr : ∀ d ∈ rows, RowOk rows.length d)
    (k : ∀ o1 o2 o3, Q (ruleT ev lo rows) [o1, o2, o3]) : OkR (makeFn "Rule" true f_Rule_init [.d (.int ev), .d (.int lo), t]) Q X := by
  have e1 : decide (ev < 1) = false := decide_eq_false (by omega)
  have e2 : decide (lo < 0) = false := decide_eq_false (by omega)
  have e3 : decide ((rows.length : Int) = 0) = false := decide_eq_false (by omega)
  unfold f_Rule_init m_Rule_init
  simp! only [w_make, e1, e2, h.len, e3]
  refine loose_ok h.bor hr fun o => ?_
  have n1 : ¬ (("kept_every" : Str) = "kept_losses") := by decide +kernel
  have n2 : ¬ (("kept_every" : Str) = "kept_states") := by decide +kernel
  have n3 : ¬ (("kept_losses" : Str) = "kept_states") := by decide +kernel
  simp! only [h.tup, putT, if_neg n1, if_neg n2, if_neg n3]
  exact k _ _ _
end Lw

set_option Elab.async false
set_option linter.all false
set_option maxRecDepth 100000
namespace Lw
open FL PySem
local macro_rules | `(tactic| dsimp! only [$xs,*]) => `(tactic| try simp (implicitDefEqProofs := false) only [↓w_ok, w_exc, ↓w_some, w_none, ↓w_obind, ↓w_omap, w_oite, ↓w_bind, w_pure, w_lift, ↓w_brT, ↓w_brF, ↓w_late, ↓w_oV, ↓w_op2, ↓w_op1, ↓w_var, ↓w_move, ↓w_c, ↓w_aNil, ↓w_aCons, ↓w_osNil, ↓w_osCons, ↓w_osApp, ↓w_tup, ↓w_lst, ↓w_bTru, ↓w_bVal, ↓w_bNot, ↓w_bAnd, ↓w_bOr, ↓w_eIf, ↓w_eAnd, ↓w_eOr, ↓w_eNot, ↓w_call, ↓w_chain, ↓w_fun, ↓w_funB, ↓w_sl, ↓w_pNo, ↓w_pAt, ↓w_run, w_nx, w_rt, w_bk, w_ct, w_xc, w_nil, ↓w_kill, ↓w_asg, ↓w_expr, ↓w_ret, ↓w_retN, ↓w_if, andP_T, andP_F, orP_T, orP_F, eIfP_T, eIfP_F, eAndP_T, eAndP_F, eOrP_T, eOrP_F, chP_T, chP_F, ifP_T, ifP_F, sq_R, sq_B, sq_C, sq_X, ty_N, ty_R, ty_B, ty_C, ty_X, wp_N, wp_R, wp_B, wp_C, md_N, md_R, md_B, md_C, md_X, kp_N, kp_R, kp_B, kp_C, kp_X, rn_N, rn_R, rn_B, rn_C, rn_X, tp_N, tp_R, tp_B, tp_C, tp_X, ↓w_setI, ↓w_par2, ↓w_par3, ↓w_raise, ↓w_fld, ↓w_try, ↓w_thru, ↓w_wipe, ↓w_turn, ↓w_eMut, ↓w_m1, ↓w_join, ↓w_jNil, ↓w_jC, ↓w_jF, ↓w_iStr, ↓w_star, ↓w_consOs, ↓w_meth, ↓w_get, ↓w_aug, v_int2, v_instOb, v_instIs, v_slot0, v_slotN, v_slotS, v_resL, v_resR, v_ressN, v_ressC, v_killN, v_killC, v_takeN, v_takeL, v_takeR, v_flag, v_putN, v_putL, v_putR, v_putO, v_outs0, v_outsT, v_outsF, v_outsN, v_start, v_gSlot, v_gTup, v_gsN, v_gsC, v_add, v_sub, v_mul, v_fdiv, v_mod, v_pow, v_lt, v_le, v_gt, v_ge, v_neg, v_boolT, v_truB, v_truI, v_truN, v_truL, v_isN, v_isI, v_notN, v_notI, v_int, v_intB, v_abs, v_max, v_lenL, v_lenD, v_lenT, v_lenS, v_share, v_shareS, v_shareO, v_mkT, ix_ol0, ix_ol1, ix_ol2, ix_t0, ix_t1, ix_t2, v_ixN0, v_ixN1, v_ixN2, v_olOf, v_intOf, w_xv, w_perm, v_pickN, v_pickC, Option.elim_some, v_any, v_mk1, v_mk2, v_mk3, v_mk4, v_mk5, v_mk2o, v_mk3o, v_shOl, v_shTp, v_toDs, v_toDsN, v_toDsC, v_toDd, v_toDl, v_toDt, v_toFs, v_toFsN, v_toFsC, v_toFd, v_toFl, v_toFt, v_shareB, v_itT, v_itP, v_itL, v_itRl, v_itRt, v_itRD, v_itRo, v_itRb, v_it0o, v_it0p, v_it0l, v_it0t, v_itTb, v_unBb, v_unBo, v_unBp, v_unBd, v_borD, v_borO, v_borP, v_borB, v_borI, v_borX, v_borS, v_borM, v_lenB, v_lstB, v_lstO, v_lstD, v_cld, v_clo, v_clp, v_clb, v_cls, v_clsN, v_clsC, v_clsD, v_isLo, v_isLd, v_tbN, v_tbL, v_tbT, v_tbF, v_pbN, v_pbL, v_pbT, v_pbF, v_pbX, v_cbN, v_cbE, v_cbT, v_cbF, v_cbX, enumT_d, v_append, v_insert0, v_dOf, v_statO, v_statB, v_eqNil, v_neNil, v_boolsN, v_boolsC, v_mkOt, v_mkOf, v_frzN, v_frzC, v_mkO2, v_addO, v_addDO, v_addOD, v_stat, v_allD, v_dats, v_datsN, v_datsC, v_addT, v_tupO, v_tupD, v_tupT, v_listO, v_listD, v_listT, v_rg1, v_rg2, v_eqI, v_neI, v_eqS, v_neS, ↓v_iOf, ↓v_iCall, ↓v_iEnum, List.any_cons, List.any_nil, Bool.or_false, Bool.false_or, id, List.isEmpty_cons, List.isEmpty_nil, v_c0, v_c1, v_c2, v_c3, v_c4, v_c5, v_c6, v_c7, v_c8, v_c9, v_c10, Nat.reduceAdd, Int.reduceEq, Int.reduceLT, Int.reduceLE, Int.reduceNe, Nat.reduceLT, Nat.reduceEqDiff, List.length_map, List.length_reverse, List.length_replicate, List.length_set, List.getElem?_cons_zero, List.getElem?_cons_succ, List.set_cons_zero, List.set_cons_succ, Option.join_some, Option.join_none, Option.bind_some, Option.map_some, List.map_cons, List.map_nil, List.length_cons, List.length_nil, List.replicate_succ, List.replicate_zero, List.cons_append, List.nil_append, List.append_nil, Option.some.injEq, List.all_cons, List.all_nil, Bool.true_and, Bool.and_true, Bool.and_self, eq_self, decide_true, decide_false, Bool.not_true, Bool.not_false, List.tail_cons, v_starO, v_starD, v_starT, w_prop, v_isiO, ↓ap_c_law_purse_1, ↓ap_c_law_coin_1, ↓ap_c_law_coin_2, ↓ap_c_law_coin_3, ↓ap_b_law_drawn_rule_2, ↓ap_c_law_drawn_rule_2, ↓ap_b_first_loose_2, ↓ap_c_law_refused_1, ↓ap_c_law_refused_2, ↓ap_c_law_wrong_row_1, ↓ap_c_law_wrong_row_2, ↓ap_b_law_wrong_row_1, ↓ap_c_law_right_1, ↓ap_c_law_right_2, ↓ap_b_law_right_1, ↓ap_c_law_right_4, ↓ap_c_law_right_6, ↓ap_c_law_right_8, ↓ap_b_law_1, ↓ap_b_law_2, $xs,*])
local macro_rules | `(tactic| simp! only [$xs,*]) => `(tactic| ((try simp (implicitDefEqProofs := false) only [↓w_ok, w_exc, ↓w_some, w_none, ↓w_obind, ↓w_omap, w_oite, ↓w_bind, w_pure, w_lift, ↓w_brT, ↓w_brF, ↓w_late, ↓w_oV, ↓w_op2, ↓w_op1, ↓w_var, ↓w_move, ↓w_c, ↓w_aNil, ↓w_aCons, ↓w_osNil, ↓w_osCons, ↓w_osApp, ↓w_tup, ↓w_lst, ↓w_bTru, ↓w_bVal, ↓w_bNot, ↓w_bAnd, ↓w_bOr, ↓w_eIf, ↓w_eAnd, ↓w_eOr, ↓w_eNot, ↓w_call, ↓w_chain, ↓w_fun, ↓w_funB, ↓w_sl, ↓w_pNo, ↓w_pAt, ↓w_run, w_nx, w_rt, w_bk, w_ct, w_xc, ↓w_seq, w_nil, ↓w_kill, ↓w_asg, ↓w_expr, ↓w_ret, ↓w_retN, ↓w_if, andP_T, andP_F, orP_T, orP_F, eIfP_T, eIfP_F, eAndP_T, eAndP_F, eOrP_T, eOrP_F, chP_T, chP_F, ifP_T, ifP_F, sq_R, sq_B, sq_C, sq_X, ty_N, ty_R, ty_B, ty_C, ty_X, wp_N, wp_R, wp_B, wp_C, md_N, md_R, md_B, md_C, md_X, kp_N, kp_R, kp_B, kp_C, kp_X, rn_N, rn_R, rn_B, rn_C, rn_X, tp_N, tp_R, tp_B, tp_C, tp_X, ↓w_setI, ↓w_par2, ↓w_par3, ↓w_raise, ↓w_fld, ↓w_try, ↓w_thru, ↓w_wipe, ↓w_turn, ↓w_eMut, ↓w_m1, ↓w_join, ↓w_jNil, ↓w_jC, ↓w_jF, ↓w_iStr, ↓w_star, ↓w_consOs, ↓w_meth, ↓w_get, ↓w_aug, v_int2, v_instOb, v_instIs, v_slot0, v_slotN, v_slotS, v_resL, v_resR, v_ressN, v_ressC, v_killN, v_killC, v_takeN, v_takeL, v_takeR, v_flag, v_putN, v_putL, v_putR, v_putO, v_outs0, v_outsT, v_outsF, v_outsN, v_start, v_gSlot, v_gTup, v_gsN, v_gsC, v_add, v_sub, v_mul, v_fdiv, v_mod, v_pow, v_lt, v_le, v_gt, v_ge, v_neg, v_boolT, v_truB, v_truI, v_truN, v_truL, v_isN, v_isI, v_notN, v_notI, v_int, v_intB, v_abs, v_max, v_lenL, v_lenD, v_lenT, v_lenS, v_share, v_shareS, v_shareO, v_mkT, ix_ol0, ix_ol1, ix_ol2, ix_t0, ix_t1, ix_t2, v_ixN0, v_ixN1, v_ixN2, v_olOf, v_intOf, w_xv, w_perm, v_pickN, v_pickC, Option.elim_some, v_any, v_mk1, v_mk2, v_mk3, v_mk4, v_mk5, v_mk2o, v_mk3o, v_shOl, v_shTp, v_toDs, v_toDsN, v_toDsC, v_toDd, v_toDl, v_toDt, v_toFs, v_toFsN, v_toFsC, v_toFd, v_toFl, v_toFt, v_shareB, v_itT, v_itP, v_itL, v_itRl, v_itRt, v_itRD, v_itRo, v_itRb, v_it0o, v_it0p, v_it0l, v_it0t, v_itTb, v_unBb, v_unBo, v_unBp, v_unBd, v_borD, v_borO, v_borP, v_borB, v_borI, v_borX, v_borS, v_borM, v_lenB, v_lstB, v_lstO, v_lstD, v_cld, v_clo, v_clp, v_clb, v_cls, v_clsN, v_clsC, v_clsD, v_isLo, v_isLd, v_tbN, v_tbL, v_tbT, v_tbF, v_pbN, v_pbL, v_pbT, v_pbF, v_pbX, v_cbN, v_cbE, v_cbT, v_cbF, v_cbX, enumT_d, v_append, v_insert0, v_dOf, v_statO, v_statB, v_eqNil, v_neNil, v_boolsN, v_boolsC, v_mkOt, v_mkOf, v_frzN, v_frzC, v_mkO2, v_addO, v_addDO, v_addOD, v_stat, v_allD, v_dats, v_datsN, v_datsC, v_addT, v_tupO, v_tupD, v_tupT, v_listO, v_listD, v_listT, v_rg1, v_rg2, v_eqI, v_neI, v_eqS, v_neS, ↓v_iOf, ↓v_iCall, ↓v_iEnum, List.any_cons, List.any_nil, Bool.or_false, Bool.false_or, id, List.isEmpty_cons, List.isEmpty_nil, v_c0, v_c1, v_c2, v_c3, v_c4, v_c5, v_c6, v_c7, v_c8, v_c9, v_c10, Nat.reduceAdd, Int.reduceEq, Int.reduceLT, Int.reduceLE, Int.reduceNe, Nat.reduceLT, Nat.reduceEqDiff, List.length_map, List.length_reverse, List.length_replicate, List.length_set, List.getElem?_cons_zero, List.getElem?_cons_succ, List.set_cons_zero, List.set_cons_succ, Option.join_some, Option.join_none, Option.bind_some, Option.map_some, List.map_cons, List.map_nil, List.length_cons, List.length_nil, List.replicate_succ, List.replicate_zero, List.cons_append, List.nil_append, List.append_nil, Option.some.injEq, List.all_cons, List.all_nil, Bool.true_and, Bool.and_true, Bool.and_self, eq_self, decide_true, decide_false, Bool.not_true, Bool.not_false, List.tail_cons, v_starO, v_starD, v_starT, w_prop, v_isiO, ↓ap_c_law_purse_1, ↓ap_c_law_coin_1, ↓ap_c_law_coin_2, ↓ap_c_law_coin_3, ↓ap_b_law_drawn_rule_2, ↓ap_c_law_drawn_rule_2, ↓ap_b_first_loose_2, ↓ap_c_law_refused_1, ↓ap_c_law_refused_2, ↓ap_c_law_wrong_row_1, ↓ap_c_law_wrong_row_2, ↓ap_b_law_wrong_row_1, ↓ap_c_law_right_1, ↓ap_c_law_right_2, ↓ap_b_law_right_1, ↓ap_c_law_right_4, ↓ap_c_law_right_6, ↓ap_c_law_right_8, ↓ap_b_law_1, ↓ap_b_law_2, $xs,*]); (repeat ((first | (with_reducible refine sqN ?_) | ((with_reducible refine And.intro ?_ ?_); first | (with_reducible exact True.intro) | ((with_reducible refine v_small ?_); omega) | ((with_reducible refine v_big ?_ ?_) <;> omega) | (with_reducible exact ⟨True.intro, by decide⟩))); try simp (implicitDefEqProofs := false) only [↓w_ok, w_exc, ↓w_some, w_none, ↓w_obind, ↓w_omap, w_oite, ↓w_bind, w_pure, w_lift, ↓w_brT, ↓w_brF, ↓w_late, ↓w_oV, ↓w_op2, ↓w_op1, ↓w_var, ↓w_move, ↓w_c, ↓w_aNil, ↓w_aCons, ↓w_osNil, ↓w_osCons, ↓w_osApp, ↓w_tup, ↓w_lst, ↓w_bTru, ↓w_bVal, ↓w_bNot, ↓w_bAnd, ↓w_bOr, ↓w_eIf, ↓w_eAnd, ↓w_eOr, ↓w_eNot, ↓w_call, ↓w_chain, ↓w_fun, ↓w_funB, ↓w_sl, ↓w_pNo, ↓w_pAt, ↓w_run, w_nx, w_rt, w_bk, w_ct, w_xc, ↓w_seq, w_nil, ↓w_kill, ↓w_asg, ↓w_expr, ↓w_ret, ↓w_retN, ↓w_if, andP_T, andP_F, orP_T, orP_F, eIfP_T, eIfP_F, eAndP_T, eAndP_F, eOrP_T, eOrP_F, chP_T, chP_F, ifP_T, ifP_F, sq_R, sq_B, sq_C, sq_X, ty_N, ty_R, ty_B, ty_C, ty_X, wp_N, wp_R, wp_B, wp_C, md_N, md_R, md_B, md_C, md_X, kp_N, kp_R, kp_B, kp_C, kp_X, rn_N, rn_R, rn_B, rn_C, rn_X, tp_N, tp_R, tp_B, tp_C, tp_X, ↓w_setI, ↓w_par2, ↓w_par3, ↓w_raise, ↓w_fld, ↓w_try, ↓w_thru, ↓w_wipe, ↓w_turn, ↓w_eMut, ↓w_m1, ↓w_join, ↓w_jNil, ↓w_jC, ↓w_jF, ↓w_iStr, ↓w_star, ↓w_consOs, ↓w_meth, ↓w_get, ↓w_aug, v_int2, v_instOb, v_instIs, v_slot0, v_slotN, v_slotS, v_resL, v_resR, v_ressN, v_ressC, v_killN, v_killC, v_takeN, v_takeL, v_takeR, v_flag, v_putN, v_putL, v_putR, v_putO, v_outs0, v_outsT, v_outsF, v_outsN, v_start, v_gSlot, v_gTup, v_gsN, v_gsC, v_add, v_sub, v_mul, v_fdiv, v_mod, v_pow, v_lt, v_le, v_gt, v_ge, v_neg, v_boolT, v_truB, v_truI, v_truN, v_truL, v_isN, v_isI, v_notN, v_notI, v_int, v_intB, v_abs, v_max, v_lenL, v_lenD, v_lenT, v_lenS, v_share, v_shareS, v_shareO, v_mkT, ix_ol0, ix_ol1, ix_ol2, ix_t0, ix_t1, ix_t2, v_ixN0, v_ixN1, v_ixN2, v_olOf, v_intOf, w_xv, w_perm, v_pickN, v_pickC, Option.elim_some, v_any, v_mk1, v_mk2, v_mk3, v_mk4, v_mk5, v_mk2o, v_mk3o, v_shOl, v_shTp, v_toDs, v_toDsN, v_toDsC, v_toDd, v_toDl, v_toDt, v_toFs, v_toFsN, v_toFsC, v_toFd, v_toFl, v_toFt, v_shareB, v_itT, v_itP, v_itL, v_itRl, v_itRt, v_itRD, v_itRo, v_itRb, v_it0o, v_it0p, v_it0l, v_it0t, v_itTb, v_unBb, v_unBo, v_unBp, v_unBd, v_borD, v_borO, v_borP, v_borB, v_borI, v_borX, v_borS, v_borM, v_lenB, v_lstB, v_lstO, v_lstD, v_cld, v_clo, v_clp, v_clb, v_cls, v_clsN, v_clsC, v_clsD, v_isLo, v_isLd, v_tbN, v_tbL, v_tbT, v_tbF, v_pbN, v_pbL, v_pbT, v_pbF, v_pbX, v_cbN, v_cbE, v_cbT, v_cbF, v_cbX, enumT_d, v_append, v_insert0, v_dOf, v_statO, v_statB, v_eqNil, v_neNil, v_boolsN, v_boolsC, v_mkOt, v_mkOf, v_frzN, v_frzC, v_mkO2, v_addO, v_addDO, v_addOD, v_stat, v_allD, v_dats, v_datsN, v_datsC, v_addT, v_tupO, v_tupD, v_tupT, v_listO, v_listD, v_listT, v_rg1, v_rg2, v_eqI, v_neI, v_eqS, v_neS, ↓v_iOf, ↓v_iCall, ↓v_iEnum, List.any_cons, List.any_nil, Bool.or_false, Bool.false_or, id, List.isEmpty_cons, List.isEmpty_nil, v_c0, v_c1, v_c2, v_c3, v_c4, v_c5, v_c6, v_c7, v_c8, v_c9, v_c10, Nat.reduceAdd, Int.reduceEq, Int.reduceLT, Int.reduceLE, Int.reduceNe, Nat.reduceLT, Nat.reduceEqDiff, List.length_map, List.length_reverse, List.length_replicate, List.length_set, List.getElem?_cons_zero, List.getElem?_cons_succ, List.set_cons_zero, List.set_cons_succ, Option.join_some, Option.join_none, Option.bind_some, Option.map_some, List.map_cons, List.map_nil, List.length_cons, List.length_nil, List.replicate_succ, List.replicate_zero, List.cons_append, List.nil_append, List.append_nil, Option.some.injEq, List.all_cons, List.all_nil, Bool.true_and, Bool.and_true, Bool.and_self, eq_self, decide_true, decide_false, Bool.not_true, Bool.not_false, List.tail_cons, v_starO, v_starD, v_starT, w_prop, v_isiO, ↓ap_c_law_purse_1, ↓ap_c_law_coin_1, ↓ap_c_law_coin_2, ↓ap_c_law_coin_3, ↓ap_b_law_drawn_rule_2, ↓ap_c_law_drawn_rule_2, ↓ap_b_first_loose_2, ↓ap_c_law_refused_1, ↓ap_c_law_refused_2, ↓ap_c_law_wrong_row_1, ↓ap_c_law_wrong_row_2, ↓ap_b_law_wrong_row_1, ↓ap_c_law_right_1, ↓ap_c_law_right_2, ↓ap_b_law_right_1, ↓ap_c_law_right_4, ↓ap_c_law_right_6, ↓ap_c_law_right_8, ↓ap_b_law_1, ↓ap_b_law_2, $xs,*])); (try (have hfin := True.intro; clear hfin))))
local macro_rules | `(tactic| simp_all! only [$xs,*]) => `(tactic| ((try simp (implicitDefEqProofs := false) only [↓w_ok, w_exc, ↓w_some, w_none, ↓w_obind, ↓w_omap, w_oite, ↓w_bind, w_pure, w_lift, ↓w_brT, ↓w_brF, ↓w_late, ↓w_oV, ↓w_op2, ↓w_op1, ↓w_var, ↓w_move, ↓w_c, ↓w_aNil, ↓w_aCons, ↓w_osNil, ↓w_osCons, ↓w_osApp, ↓w_tup, ↓w_lst, ↓w_bTru, ↓w_bVal, ↓w_bNot, ↓w_bAnd, ↓w_bOr, ↓w_eIf, ↓w_eAnd, ↓w_eOr, ↓w_eNot, ↓w_call, ↓w_chain, ↓w_fun, ↓w_funB, ↓w_sl, ↓w_pNo, ↓w_pAt, ↓w_run, w_nx, w_rt, w_bk, w_ct, w_xc, ↓w_seq, w_nil, ↓w_kill, ↓w_asg, ↓w_expr, ↓w_ret, ↓w_retN, ↓w_if, andP_T, andP_F, orP_T, orP_F, eIfP_T, eIfP_F, eAndP_T, eAndP_F, eOrP_T, eOrP_F, chP_T, chP_F, ifP_T, ifP_F, sq_R, sq_B, sq_C, sq_X, ty_N, ty_R, ty_B, ty_C, ty_X, wp_N, wp_R, wp_B, wp_C, md_N, md_R, md_B, md_C, md_X, kp_N, kp_R, kp_B, kp_C, kp_X, rn_N, rn_R, rn_B, rn_C, rn_X, tp_N, tp_R, tp_B, tp_C, tp_X, ↓w_setI, ↓w_par2, ↓w_par3, ↓w_raise, ↓w_fld, ↓w_try, ↓w_thru, ↓w_wipe, ↓w_turn, ↓w_eMut, ↓w_m1, ↓w_join, ↓w_jNil, ↓w_jC, ↓w_jF, ↓w_iStr, ↓w_star, ↓w_consOs, ↓w_meth, ↓w_get, ↓w_aug, v_int2, v_instOb, v_instIs, v_slot0, v_slotN, v_slotS, v_resL, v_resR, v_ressN, v_ressC, v_killN, v_killC, v_takeN, v_takeL, v_takeR, v_flag, v_putN, v_putL, v_putR, v_putO, v_outs0, v_outsT, v_outsF, v_outsN, v_start, v_gSlot, v_gTup, v_gsN, v_gsC, v_add, v_sub, v_mul, v_fdiv, v_mod, v_pow, v_lt, v_le, v_gt, v_ge, v_neg, v_boolT, v_truB, v_truI, v_truN, v_truL, v_isN, v_isI, v_notN, v_notI, v_int, v_intB, v_abs, v_max, v_lenL, v_lenD, v_lenT, v_lenS, v_share, v_shareS, v_shareO, v_mkT, ix_ol0, ix_ol1, ix_ol2, ix_t0, ix_t1, ix_t2, v_ixN0, v_ixN1, v_ixN2, v_olOf, v_intOf, w_xv, w_perm, v_pickN, v_pickC, Option.elim_some, v_any, v_mk1, v_mk2, v_mk3, v_mk4, v_mk5, v_mk2o, v_mk3o, v_shOl, v_shTp, v_toDs, v_toDsN, v_toDsC, v_toDd, v_toDl, v_toDt, v_toFs, v_toFsN, v_toFsC, v_toFd, v_toFl, v_toFt, v_shareB, v_itT, v_itP, v_itL, v_itRl, v_itRt, v_itRD, v_itRo, v_itRb, v_it0o, v_it0p, v_it0l, v_it0t, v_itTb, v_unBb, v_unBo, v_unBp, v_unBd, v_borD, v_borO, v_borP, v_borB, v_borI, v_borX, v_borS, v_borM, v_lenB, v_lstB, v_lstO, v_lstD, v_cld, v_clo, v_clp, v_clb, v_cls, v_clsN, v_clsC, v_clsD, v_isLo, v_isLd, v_tbN, v_tbL, v_tbT, v_tbF, v_pbN, v_pbL, v_pbT, v_pbF, v_pbX, v_cbN, v_cbE, v_cbT, v_cbF, v_cbX, enumT_d, v_append, v_insert0, v_dOf, v_statO, v_statB, v_eqNil, v_neNil, v_boolsN, v_boolsC, v_mkOt, v_mkOf, v_frzN, v_frzC, v_mkO2, v_addO, v_addDO, v_addOD, v_stat, v_allD, v_dats, v_datsN, v_datsC, v_addT, v_tupO, v_tupD, v_tupT, v_listO, v_listD, v_listT, v_rg1, v_rg2, v_eqI, v_neI, v_eqS, v_neS, ↓v_iOf, ↓v_iCall, ↓v_iEnum, List.any_cons, List.any_nil, Bool.or_false, Bool.false_or, id, List.isEmpty_cons, List.isEmpty_nil, v_c0, v_c1, v_c2, v_c3, v_c4, v_c5, v_c6, v_c7, v_c8, v_c9, v_c10, Nat.reduceAdd, Int.reduceEq, Int.reduceLT, Int.reduceLE, Int.reduceNe, Nat.reduceLT, Nat.reduceEqDiff, List.length_map, List.length_reverse, List.length_replicate, List.length_set, List.getElem?_cons_zero, List.getElem?_cons_succ, List.set_cons_zero, List.set_cons_succ, Option.join_some, Option.join_none, Option.bind_some, Option.map_some, List.map_cons, List.map_nil, List.length_cons, List.length_nil, List.replicate_succ, List.replicate_zero, List.cons_append, List.nil_append, List.append_nil, Option.some.injEq, List.all_cons, List.all_nil, Bool.true_and, Bool.and_true, Bool.and_self, eq_self, decide_true, decide_false, Bool.not_true, Bool.not_false, List.tail_cons, v_starO, v_starD, v_starT, w_prop, v_isiO, ↓ap_c_law_purse_1, ↓ap_c_law_coin_1, ↓ap_c_law_coin_2, ↓ap_c_law_coin_3, ↓ap_k_law_drawn_rule_1, ↓ap_b_law_drawn_rule_2, ↓ap_c_law_drawn_rule_2, ↓ap_k_first_loose_1, ↓ap_b_first_loose_2, ↓ap_c_law_refused_1, ↓ap_c_law_refused_2, ↓ap_c_law_wrong_row_1, ↓ap_c_law_wrong_row_2, ↓ap_b_law_wrong_row_1, ↓ap_c_law_right_1, ↓ap_c_law_right_2, ↓ap_b_law_right_1, ↓ap_c_law_right_4, ↓ap_c_law_right_6, ↓ap_c_law_right_8, ↓ap_b_law_1, ↓ap_b_law_2, ↓w_eComp, w_cN, w_cC, $xs,*]); (repeat ((first | (with_reducible refine sqN ?_) | ((with_reducible refine And.intro ?_ ?_); first | (with_reducible exact True.intro) | ((with_reducible refine v_small ?_); omega) | ((with_reducible refine v_big ?_ ?_) <;> omega) | (with_reducible exact ⟨True.intro, by decide⟩))); try simp (implicitDefEqProofs := false) only [↓w_ok, w_exc, ↓w_some, w_none, ↓w_obind, ↓w_omap, w_oite, ↓w_bind, w_pure, w_lift, ↓w_brT, ↓w_brF, ↓w_late, ↓w_oV, ↓w_op2, ↓w_op1, ↓w_var, ↓w_move, ↓w_c, ↓w_aNil, ↓w_aCons, ↓w_osNil, ↓w_osCons, ↓w_osApp, ↓w_tup, ↓w_lst, ↓w_bTru, ↓w_bVal, ↓w_bNot, ↓w_bAnd, ↓w_bOr, ↓w_eIf, ↓w_eAnd, ↓w_eOr, ↓w_eNot, ↓w_call, ↓w_chain, ↓w_fun, ↓w_funB, ↓w_sl, ↓w_pNo, ↓w_pAt, ↓w_run, w_nx, w_rt, w_bk, w_ct, w_xc, ↓w_seq, w_nil, ↓w_kill, ↓w_asg, ↓w_expr, ↓w_ret, ↓w_retN, ↓w_if, andP_T, andP_F, orP_T, orP_F, eIfP_T, eIfP_F, eAndP_T, eAndP_F, eOrP_T, eOrP_F, chP_T, chP_F, ifP_T, ifP_F, sq_R, sq_B, sq_C, sq_X, ty_N, ty_R, ty_B, ty_C, ty_X, wp_N, wp_R, wp_B, wp_C, md_N, md_R, md_B, md_C, md_X, kp_N, kp_R, kp_B, kp_C, kp_X, rn_N, rn_R, rn_B, rn_C, rn_X, tp_N, tp_R, tp_B, tp_C, tp_X, ↓w_setI, ↓w_par2, ↓w_par3, ↓w_raise, ↓w_fld, ↓w_try, ↓w_thru, ↓w_wipe, ↓w_turn, ↓w_eMut, ↓w_m1, ↓w_join, ↓w_jNil, ↓w_jC, ↓w_jF, ↓w_iStr, ↓w_star, ↓w_consOs, ↓w_meth, ↓w_get, ↓w_aug, v_int2, v_instOb, v_instIs, v_slot0, v_slotN, v_slotS, v_resL, v_resR, v_ressN, v_ressC, v_killN, v_killC, v_takeN, v_takeL, v_takeR, v_flag, v_putN, v_putL, v_putR, v_putO, v_outs0, v_outsT, v_outsF, v_outsN, v_start, v_gSlot, v_gTup, v_gsN, v_gsC, v_add, v_sub, v_mul, v_fdiv, v_mod, v_pow, v_lt, v_le, v_gt, v_ge, v_neg, v_boolT, v_truB, v_truI, v_truN, v_truL, v_isN, v_isI, v_notN, v_notI, v_int, v_intB, v_abs, v_max, v_lenL, v_lenD, v_lenT, v_lenS, v_share, v_shareS, v_shareO, v_mkT, ix_ol0, ix_ol1, ix_ol2, ix_t0, ix_t1, ix_t2, v_ixN0, v_ixN1, v_ixN2, v_olOf, v_intOf, w_xv, w_perm, v_pickN, v_pickC, Option.elim_some, v_any, v_mk1, v_mk2, v_mk3, v_mk4, v_mk5, v_mk2o, v_mk3o, v_shOl, v_shTp, v_toDs, v_toDsN, v_toDsC, v_toDd, v_toDl, v_toDt, v_toFs, v_toFsN, v_toFsC, v_toFd, v_toFl, v_toFt, v_shareB, v_itT, v_itP, v_itL, v_itRl, v_itRt, v_itRD, v_itRo, v_itRb, v_it0o, v_it0p, v_it0l, v_it0t, v_itTb, v_unBb, v_unBo, v_unBp, v_unBd, v_borD, v_borO, v_borP, v_borB, v_borI, v_borX, v_borS, v_borM, v_lenB, v_lstB, v_lstO, v_lstD, v_cld, v_clo, v_clp, v_clb, v_cls, v_clsN, v_clsC, v_clsD, v_isLo, v_isLd, v_tbN, v_tbL, v_tbT, v_tbF, v_pbN, v_pbL, v_pbT, v_pbF, v_pbX, v_cbN, v_cbE, v_cbT, v_cbF, v_cbX, enumT_d, v_append, v_insert0, v_dOf, v_statO, v_statB, v_eqNil, v_neNil, v_boolsN, v_boolsC, v_mkOt, v_mkOf, v_frzN, v_frzC, v_mkO2, v_addO, v_addDO, v_addOD, v_stat, v_allD, v_dats, v_datsN, v_datsC, v_addT, v_tupO, v_tupD, v_tupT, v_listO, v_listD, v_listT, v_rg1, v_rg2, v_eqI, v_neI, v_eqS, v_neS, ↓v_iOf, ↓v_iCall, ↓v_iEnum, List.any_cons, List.any_nil, Bool.or_false, Bool.false_or, id, List.isEmpty_cons, List.isEmpty_nil, v_c0, v_c1, v_c2, v_c3, v_c4, v_c5, v_c6, v_c7, v_c8, v_c9, v_c10, Nat.reduceAdd, Int.reduceEq, Int.reduceLT, Int.reduceLE, Int.reduceNe, Nat.reduceLT, Nat.reduceEqDiff, List.length_map, List.length_reverse, List.length_replicate, List.length_set, List.getElem?_cons_zero, List.getElem?_cons_succ, List.set_cons_zero, List.set_cons_succ, Option.join_some, Option.join_none, Option.bind_some, Option.map_some, List.map_cons, List.map_nil, List.length_cons, List.length_nil, List.replicate_succ, List.replicate_zero, List.cons_append, List.nil_append, List.append_nil, Option.some.injEq, List.all_cons, List.all_nil, Bool.true_and, Bool.and_true, Bool.and_self, eq_self, decide_true, decide_false, Bool.not_true, Bool.not_false, List.tail_cons, v_starO, v_starD, v_starT, w_prop, v_isiO, ↓ap_c_law_purse_1, ↓ap_c_law_coin_1, ↓ap_c_law_coin_2, ↓ap_c_law_coin_3, ↓ap_k_law_drawn_rule_1, ↓ap_b_law_drawn_rule_2, ↓ap_c_law_drawn_rule_2, ↓ap_k_first_loose_1, ↓ap_b_first_loose_2, ↓ap_c_law_refused_1, ↓ap_c_law_refused_2, ↓ap_c_law_wrong_row_1, ↓ap_c_law_wrong_row_2, ↓ap_b_law_wrong_row_1, ↓ap_c_law_right_1, ↓ap_c_law_right_2, ↓ap_b_law_right_1, ↓ap_c_law_right_4, ↓ap_c_law_right_6, ↓ap_c_law_right_8, ↓ap_b_law_1, ↓ap_b_law_2, ↓w_eComp, w_cN, w_cC, $xs,*])); (try (have hfin := True.intro; clear hfin))))
theorem kept_eq {ev lo : Int} {rows : List PyData} : fldT "Rule" "kept_states" (ruleT ev lo rows) = some (.d (.tuple rows)) := rfl
theorem states_ok {ev lo : Int} {rows : List PyData} {Q : T → Prop} (k : Q (.ol (rows.map T.d))) : okO (propT "Rule" f_Rule_states (ruleT ev lo rows)) Q := by
  unfold f_Rule_states m_Rule_states
  simp! only [kept_eq]
  exact k
theorem states_eq {ev lo : Int} {rows : List PyData} : propT "Rule" f_Rule_states (ruleT ev lo rows) = some (.ol (rows.map T.d)) :=
  okO_eq (states_ok rfl)
end Lw

set_option Elab.async false
set_option linter.all false
set_option maxRecDepth 100000
namespace Lw
open FL PySem
local macro_rules | `(tactic| dsimp! only [$xs,*]) => `(tactic| try simp (implicitDefEqProofs := false) only [↓w_ok, w_exc, ↓w_some, w_none, ↓w_obind, ↓w_omap, w_oite, ↓w_bind, w_pure, w_lift, ↓w_brT, ↓w_brF, ↓w_late, ↓w_oV, ↓w_op2, ↓w_op1, ↓w_var, ↓w_move, ↓w_c, ↓w_aNil, ↓w_aCons, ↓w_osNil, ↓w_osCons, ↓w_osApp, ↓w_tup, ↓w_lst, ↓w_bTru, ↓w_bVal, ↓w_bNot, ↓w_bAnd, ↓w_bOr, ↓w_eIf, ↓w_eAnd, ↓w_eOr, ↓w_eNot, ↓w_call, ↓w_chain, ↓w_fun, ↓w_funB, ↓w_sl, ↓w_pNo, ↓w_pAt, ↓w_run, w_nx, w_rt, w_bk, w_ct, w_xc, w_nil, ↓w_kill, ↓w_asg, ↓w_expr, ↓w_ret, ↓w_retN, ↓w_if, andP_T, andP_F, orP_T, orP_F, eIfP_T, eIfP_F, eAndP_T, eAndP_F, eOrP_T, eOrP_F, chP_T, chP_F, ifP_T, ifP_F, sq_R, sq_B, sq_C, sq_X, ty_N, ty_R, ty_B, ty_C, ty_X, wp_N, wp_R, wp_B, wp_C, md_N, md_R, md_B, md_C, md_X, kp_N, kp_R, kp_B, kp_C, kp_X, rn_N, rn_R, rn_B, rn_C, rn_X, tp_N, tp_R, tp_B, tp_C, tp_X, ↓w_setI, ↓w_par2, ↓w_par3, ↓w_raise, ↓w_fld, ↓w_try, ↓w_thru, ↓w_wipe, ↓w_turn, ↓w_eMut, ↓w_m1, ↓w_join, ↓w_jNil, ↓w_jC, ↓w_jF, ↓w_iStr, ↓w_star, ↓w_consOs, ↓w_meth, ↓w_get, ↓w_aug, v_int2, v_instOb, v_instIs, v_slot0, v_slotN, v_slotS, v_resL, v_resR, v_ressN, v_ressC, v_killN, v_killC, v_takeN, v_takeL, v_takeR, v_flag, v_putN, v_putL, v_putR, v_putO, v_outs0, v_outsT, v_outsF, v_outsN, v_start, v_gSlot, v_gTup, v_gsN, v_gsC, v_add, v_sub, v_mul, v_fdiv, v_mod, v_pow, v_lt, v_le, v_gt, v_ge, v_neg, v_boolT, v_truB, v_truI, v_truN, v_truL, v_isN, v_isI, v_notN, v_notI, v_int, v_intB, v_abs, v_max, v_lenL, v_lenD, v_lenT, v_lenS, v_share, v_shareS, v_shareO, v_mkT, ix_ol0, ix_ol1, ix_ol2, ix_t0, ix_t1, ix_t2, v_ixN0, v_ixN1, v_ixN2, v_olOf, v_intOf, w_xv, w_perm, v_pickN, v_pickC, Option.elim_some, v_any, v_mk1, v_mk2, v_mk3, v_mk4, v_mk5, v_mk2o, v_mk3o, v_shOl, v_shTp, v_toDs, v_toDsN, v_toDsC, v_toDd, v_toDl, v_toDt, v_toFs, v_toFsN, v_toFsC, v_toFd, v_toFl, v_toFt, v_shareB, v_itT, v_itP, v_itL, v_itRl, v_itRt, v_itRD, v_itRo, v_itRb, v_it0o, v_it0p, v_it0l, v_it0t, v_itTb, v_unBb, v_unBo, v_unBp, v_unBd, v_borD, v_borO, v_borP, v_borB, v_borI, v_borX, v_borS, v_borM, v_lenB, v_lstB, v_lstO, v_lstD, v_cld, v_clo, v_clp, v_clb, v_cls, v_clsN, v_clsC, v_clsD, v_isLo, v_isLd, v_tbN, v_tbL, v_tbT, v_tbF, v_pbN, v_pbL, v_pbT, v_pbF, v_pbX, v_cbN, v_cbE, v_cbT, v_cbF, v_cbX, enumT_d, v_append, v_insert0, v_dOf, v_statO, v_statB, v_eqNil, v_neNil, v_boolsN, v_boolsC, v_mkOt, v_mkOf, v_frzN, v_frzC, v_mkO2, v_addO, v_addDO, v_addOD, v_stat, v_allD, v_dats, v_datsN, v_datsC, v_addT, v_tupO, v_tupD, v_tupT, v_listO, v_listD, v_listT, v_rg1, v_rg2, v_eqI, v_neI, v_eqS, v_neS, ↓v_iOf, ↓v_iCall, ↓v_iEnum, List.any_cons, List.any_nil, Bool.or_false, Bool.false_or, id, List.isEmpty_cons, List.isEmpty_nil, v_c0, v_c1, v_c2, v_c3, v_c4, v_c5, v_c6, v_c7, v_c8, v_c9, v_c10, Nat.reduceAdd, Int.reduceEq, Int.reduceLT, Int.reduceLE, Int.reduceNe, Nat.reduceLT, Nat.reduceEqDiff, List.length_map, List.length_reverse, List.length_replicate, List.length_set, List.getElem?_cons_zero, List.getElem?_cons_succ, List.set_cons_zero, List.set_cons_succ, Option.join_some, Option.join_none, Option.bind_some, Option.map_some, List.map_cons, List.map_nil, List.length_cons, List.length_nil, List.replicate_succ, List.replicate_zero, List.cons_append, List.nil_append, List.append_nil, Option.some.injEq, List.all_cons, List.all_nil, Bool.true_and, Bool.and_true, Bool.and_self, eq_self, decide_true, decide_false, Bool.not_true, Bool.not_false, List.tail_cons, v_starO, v_starD, v_starT, w_prop, v_isiO, ↓ap_c_law_purse_1, ↓ap_c_law_coin_1, ↓ap_c_law_coin_2, ↓ap_c_law_coin_3, ↓ap_b_law_drawn_rule_2, ↓ap_c_law_drawn_rule_2, ↓ap_b_first_loose_2, ↓ap_c_law_refused_1, ↓ap_c_law_refused_2, ↓ap_c_law_wrong_row_1, ↓ap_c_law_wrong_row_2, ↓ap_b_law_wrong_row_1, ↓ap_c_law_right_1, ↓ap_c_law_right_2, ↓ap_b_law_right_1, ↓ap_c_law_right_4, ↓ap_c_law_right_6, ↓ap_c_law_right_8, ↓ap_b_law_1, ↓ap_b_law_2, $xs,*])
local macro_rules | `(tactic| simp! only [$xs,*]) => `(tactic| ((try simp (implicitDefEqProofs := false) only [↓w_ok, w_exc, ↓w_some, w_none, ↓w_obind, ↓w_omap, w_oite, ↓w_bind, w_pure, w_lift, ↓w_brT, ↓w_brF, ↓w_late, ↓w_oV, ↓w_op2, ↓w_op1, ↓w_var, ↓w_move, ↓w_c, ↓w_aNil, ↓w_aCons, ↓w_osNil, ↓w_osCons, ↓w_osApp, ↓w_tup, ↓w_lst, ↓w_bTru, ↓w_bVal, ↓w_bNot, ↓w_bAnd, ↓w_bOr, ↓w_eIf, ↓w_eAnd, ↓w_eOr, ↓w_eNot, ↓w_call, ↓w_chain, ↓w_fun, ↓w_funB, ↓w_sl, ↓w_pNo, ↓w_pAt, ↓w_run, w_nx, w_rt, w_bk, w_ct, w_xc, ↓w_seq, w_nil, ↓w_kill, ↓w_asg, ↓w_expr, ↓w_ret, ↓w_retN, ↓w_if, andP_T, andP_F, orP_T, orP_F, eIfP_T, eIfP_F, eAndP_T, eAndP_F, eOrP_T, eOrP_F, chP_T, chP_F, ifP_T, ifP_F, sq_R, sq_B, sq_C, sq_X, ty_N, ty_R, ty_B, ty_C, ty_X, wp_N, wp_R, wp_B, wp_C, md_N, md_R, md_B, md_C, md_X, kp_N, kp_R, kp_B, kp_C, kp_X, rn_N, rn_R, rn_B, rn_C, rn_X, tp_N, tp_R, tp_B, tp_C, tp_X, ↓w_setI, ↓w_par2, ↓w_par3, ↓w_raise, ↓w_fld, ↓w_try, ↓w_thru, ↓w_wipe, ↓w_turn, ↓w_eMut, ↓w_m1, ↓w_join, ↓w_jNil, ↓w_jC, ↓w_jF, ↓w_iStr, ↓w_star, ↓w_consOs, ↓w_meth, ↓w_get, ↓w_aug, v_int2, v_instOb, v_instIs, v_slot0, v_slotN, v_slotS, v_resL, v_resR, v_ressN, v_ressC, v_killN, v_killC, v_takeN, v_takeL, v_takeR, v_flag, v_putN, v_putL, v_putR, v_putO, v_outs0, v_outsT, v_outsF, v_outsN, v_start, v_gSlot, v_gTup, v_gsN, v_gsC, v_add, v_sub, v_mul, v_fdiv, v_mod, v_pow, v_lt, v_le, v_gt, v_ge, v_neg, v_boolT, v_truB, v_truI, v_truN, v_truL, v_isN, v_isI, v_notN, v_notI, v_int, v_intB, v_abs, v_max, v_lenL, v_lenD, v_lenT, v_lenS, v_share, v_shareS, v_shareO, v_mkT, ix_ol0, ix_ol1, ix_ol2, ix_t0, ix_t1, ix_t2, v_ixN0, v_ixN1, v_ixN2, v_olOf, v_intOf, w_xv, w_perm, v_pickN, v_pickC, Option.elim_some, v_any, v_mk1, v_mk2, v_mk3, v_mk4, v_mk5, v_mk2o, v_mk3o, v_shOl, v_shTp, v_toDs, v_toDsN, v_toDsC, v_toDd, v_toDl, v_toDt, v_toFs, v_toFsN, v_toFsC, v_toFd, v_toFl, v_toFt, v_shareB, v_itT, v_itP, v_itL, v_itRl, v_itRt, v_itRD, v_itRo, v_itRb, v_it0o, v_it0p, v_it0l, v_it0t, v_itTb, v_unBb, v_unBo, v_unBp, v_unBd, v_borD, v_borO, v_borP, v_borB, v_borI, v_borX, v_borS, v_borM, v_lenB, v_lstB, v_lstO, v_lstD, v_cld, v_clo, v_clp, v_clb, v_cls, v_clsN, v_clsC, v_clsD, v_isLo, v_isLd, v_tbN, v_tbL, v_tbT, v_tbF, v_pbN, v_pbL, v_pbT, v_pbF, v_pbX, v_cbN, v_cbE, v_cbT, v_cbF, v_cbX, enumT_d, v_append, v_insert0, v_dOf, v_statO, v_statB, v_eqNil, v_neNil, v_boolsN, v_boolsC, v_mkOt, v_mkOf, v_frzN, v_frzC, v_mkO2, v_addO, v_addDO, v_addOD, v_stat, v_allD, v_dats, v_datsN, v_datsC, v_addT, v_tupO, v_tupD, v_tupT, v_listO, v_listD, v_listT, v_rg1, v_rg2, v_eqI, v_neI, v_eqS, v_neS, ↓v_iOf, ↓v_iCall, ↓v_iEnum, List.any_cons, List.any_nil, Bool.or_false, Bool.false_or, id, List.isEmpty_cons, List.isEmpty_nil, v_c0, v_c1, v_c2, v_c3, v_c4, v_c5, v_c6, v_c7, v_c8, v_c9, v_c10, Nat.reduceAdd, Int.reduceEq, Int.reduceLT, Int.reduceLE, Int.reduceNe, Nat.reduceLT, Nat.reduceEqDiff, List.length_map, List.length_reverse, List.length_replicate, List.length_set, List.getElem?_cons_zero, List.getElem?_cons_succ, List.set_cons_zero, List.set_cons_succ, Option.join_some, Option.join_none, Option.bind_some, Option.map_some, List.map_cons, List.map_nil, List.length_cons, List.length_nil, List.replicate_succ, List.replicate_zero, List.cons_append, List.nil_append, List.append_nil, Option.some.injEq, List.all_cons, List.all_nil, Bool.true_and, Bool.and_true, Bool.and_self, eq_self, decide_true, decide_false, Bool.not_true, Bool.not_false, List.tail_cons, v_starO, v_starD, v_starT, w_prop, v_isiO, ↓ap_c_law_purse_1, ↓ap_c_law_coin_1, ↓ap_c_law_coin_2, ↓ap_c_law_coin_3, ↓ap_b_law_drawn_rule_2, ↓ap_c_law_drawn_rule_2, ↓ap_b_first_loose_2, ↓ap_c_law_refused_1, ↓ap_c_law_refused_2, ↓ap_c_law_wrong_row_1, ↓ap_c_law_wrong_row_2, ↓ap_b_law_wrong_row_1, ↓ap_c_law_right_1, ↓ap_c_law_right_2, ↓ap_b_law_right_1, ↓ap_c_law_right_4, ↓ap_c_law_right_6, ↓ap_c_law_right_8, ↓ap_b_law_1, ↓ap_b_law_2, $xs,*]); (repeat ((first | (with_reducible refine sqN ?_) | ((with_reducible refine And.intro ?_ ?_); first | (with_reducible exact True.intro) | ((with_reducible refine v_small ?_); omega) | ((with_reducible refine v_big ?_ ?_) <;> omega) | (with_reducible exact ⟨True.intro, by decide⟩))); try simp (implicitDefEqProofs := false) only [↓w_ok, w_exc, ↓w_some, w_none, ↓w_obind, ↓w_omap, w_oite, ↓w_bind, w_pure, w_lift, ↓w_brT, ↓w_brF, ↓w_late, ↓w_oV, ↓w_op2, ↓w_op1, ↓w_var, ↓w_move, ↓w_c, ↓w_aNil, ↓w_aCons, ↓w_osNil, ↓w_osCons, ↓w_osApp, ↓w_tup, ↓w_lst, ↓w_bTru, ↓w_bVal, ↓w_bNot, ↓w_bAnd, ↓w_bOr, ↓w_eIf, ↓w_eAnd, ↓w_eOr, ↓w_eNot, ↓w_call, ↓w_chain, ↓w_fun, ↓w_funB, ↓w_sl, ↓w_pNo, ↓w_pAt, ↓w_run, w_nx, w_rt, w_bk, w_ct, w_xc, ↓w_seq, w_nil, ↓w_kill, ↓w_asg, ↓w_expr, ↓w_ret, ↓w_retN, ↓w_if, andP_T, andP_F, orP_T, orP_F, eIfP_T, eIfP_F, eAndP_T, eAndP_F, eOrP_T, eOrP_F, chP_T, chP_F, ifP_T, ifP_F, sq_R, sq_B, sq_C, sq_X, ty_N, ty_R, ty_B, ty_C, ty_X, wp_N, wp_R, wp_B, wp_C, md_N, md_R, md_B, md_C, md_X, kp_N, kp_R, kp_B, kp_C, kp_X, rn_N, rn_R, rn_B, rn_C, rn_X, tp_N, tp_R, tp_B, tp_C, tp_X, ↓w_setI, ↓w_par2, ↓w_par3, ↓w_raise, ↓w_fld, ↓w_try, ↓w_thru, ↓w_wipe, ↓w_turn, ↓w_eMut, ↓w_m1, ↓w_join, ↓w_jNil, ↓w_jC, ↓w_jF, ↓w_iStr, ↓w_star, ↓w_consOs, ↓w_meth, ↓w_get, ↓w_aug, v_int2, v_instOb, v_instIs, v_slot0, v_slotN, v_slotS, v_resL, v_resR, v_ressN, v_ressC, v_killN, v_killC, v_takeN, v_takeL, v_takeR, v_flag, v_putN, v_putL, v_putR, v_putO, v_outs0, v_outsT, v_outsF, v_outsN, v_start, v_gSlot, v_gTup, v_gsN, v_gsC, v_add, v_sub, v_mul, v_fdiv, v_mod, v_pow, v_lt, v_le, v_gt, v_ge, v_neg, v_boolT, v_truB, v_truI, v_truN, v_truL, v_isN, v_isI, v_notN, v_notI, v_int, v_intB, v_abs, v_max, v_lenL, v_lenD, v_lenT, v_lenS, v_share, v_shareS, v_shareO, v_mkT, ix_ol0, ix_ol1, ix_ol2, ix_t0, ix_t1, ix_t2, v_ixN0, v_ixN1, v_ixN2, v_olOf, v_intOf, w_xv, w_perm, v_pickN, v_pickC, Option.elim_some, v_any, v_mk1, v_mk2, v_mk3, v_mk4, v_mk5, v_mk2o, v_mk3o, v_shOl, v_shTp, v_toDs, v_toDsN, v_toDsC, v_toDd, v_toDl, v_toDt, v_toFs, v_toFsN, v_toFsC, v_toFd, v_toFl, v_toFt, v_shareB, v_itT, v_itP, v_itL, v_itRl, v_itRt, v_itRD, v_itRo, v_itRb, v_it0o, v_it0p, v_it0l, v_it0t, v_itTb, v_unBb, v_unBo, v_unBp, v_unBd, v_borD, v_borO, v_borP, v_borB, v_borI, v_borX, v_borS, v_borM, v_lenB, v_lstB, v_lstO, v_lstD, v_cld, v_clo, v_clp, v_clb, v_cls, v_clsN, v_clsC, v_clsD, v_isLo, v_isLd, v_tbN, v_tbL, v_tbT, v_tbF, v_pbN, v_pbL, v_pbT, v_pbF, v_pbX, v_cbN, v_cbE, v_cbT, v_cbF, v_cbX, enumT_d, v_append, v_insert0, v_dOf, v_statO, v_statB, v_eqNil, v_neNil, v_boolsN, v_boolsC, v_mkOt, v_mkOf, v_frzN, v_frzC, v_mkO2, v_addO, v_addDO, v_addOD, v_stat, v_allD, v_dats, v_datsN, v_datsC, v_addT, v_tupO, v_tupD, v_tupT, v_listO, v_listD, v_listT, v_rg1, v_rg2, v_eqI, v_neI, v_eqS, v_neS, ↓v_iOf, ↓v_iCall, ↓v_iEnum, List.any_cons, List.any_nil, Bool.or_false, Bool.false_or, id, List.isEmpty_cons, List.isEmpty_nil, v_c0, v_c1, v_c2, v_c3, v_c4, v_c5, v_c6, v_c7, v_c8, v_c9, v_c10, Nat.reduceAdd, Int.reduceEq, Int.reduceLT, Int.reduceLE, Int.reduceNe, Nat.reduceLT, Nat.reduceEqDiff, List.length_map, List.length_reverse, List.length_replicate, List.length_set, List.getElem?_cons_zero, List.getElem?_cons_succ, List.set_cons_zero, List.set_cons_succ, Option.join_some, Option.join_none, Option.bind_some, Option.map_some, List.map_cons, List.map_nil, List.length_cons, List.length_nil, List.replicate_succ, List.replicate_zero, List.cons_append, List.nil_append, List.append_nil, Option.some.injEq, List.all_cons, List.all_nil, Bool.true_and, Bool.and_true, Bool.and_self, eq_self, decide_true, decide_false, Bool.not_true, Bool.not_false, List.tail_cons, v_starO, v_starD, v_starT, w_prop, v_isiO, ↓ap_c_law_purse_1, ↓ap_c_law_coin_1, ↓ap_c_law_coin_2, ↓ap_c_law_coin_3, ↓ap_b_law_drawn_rule_2, ↓ap_c_law_drawn_rule_2, ↓ap_b_first_loose_2, ↓ap_c_law_refused_1, ↓ap_c_law_refused_2, ↓ap_c_law_wrong_row_1, ↓ap_c_law_wrong_row_2, ↓ap_b_law_wrong_row_1, ↓ap_c_law_right_1, ↓ap_c_law_right_2, ↓ap_b_law_right_1, ↓ap_c_law_right_4, ↓ap_c_law_right_6, ↓ap_c_law_right_8, ↓ap_b_law_1, ↓ap_b_law_2, $xs,*])); (try (have hfin := True.intro; clear hfin))))
local macro_rules | `(tactic| simp_all! only [$xs,*]) => `(tactic| ((try simp (implicitDefEqProofs := false) only [↓w_ok, w_exc, ↓w_some, w_none, ↓w_obind, ↓w_omap, w_oite, ↓w_bind, w_pure, w_lift, ↓w_brT, ↓w_brF, ↓w_late, ↓w_oV, ↓w_op2, ↓w_op1, ↓w_var, ↓w_move, ↓w_c, ↓w_aNil, ↓w_aCons, ↓w_osNil, ↓w_osCons, ↓w_osApp, ↓w_tup, ↓w_lst, ↓w_bTru, ↓w_bVal, ↓w_bNot, ↓w_bAnd, ↓w_bOr, ↓w_eIf, ↓w_eAnd, ↓w_eOr, ↓w_eNot, ↓w_call, ↓w_chain, ↓w_fun, ↓w_funB, ↓w_sl, ↓w_pNo, ↓w_pAt, ↓w_run, w_nx, w_rt, w_bk, w_ct, w_xc, ↓w_seq, w_nil, ↓w_kill, ↓w_asg, ↓w_expr, ↓w_ret, ↓w_retN, ↓w_if, andP_T, andP_F, orP_T, orP_F, eIfP_T, eIfP_F, eAndP_T, eAndP_F, eOrP_T, eOrP_F, chP_T, chP_F, ifP_T, ifP_F, sq_R, sq_B, sq_C, sq_X, ty_N, ty_R, ty_B, ty_C, ty_X, wp_N, wp_R, wp_B, wp_C, md_N, md_R, md_B, md_C, md_X, kp_N, kp_R, kp_B, kp_C, kp_X, rn_N, rn_R, rn_B, rn_C, rn_X, tp_N, tp_R, tp_B, tp_C, tp_X, ↓w_setI, ↓w_par2, ↓w_par3, ↓w_raise, ↓w_fld, ↓w_try, ↓w_thru, ↓w_wipe, ↓w_turn, ↓w_eMut, ↓w_m1, ↓w_join, ↓w_jNil, ↓w_jC, ↓w_jF, ↓w_iStr, ↓w_star, ↓w_consOs, ↓w_meth, ↓w_get, ↓w_aug, v_int2, v_instOb, v_instIs, v_slot0, v_slotN, v_slotS, v_resL, v_resR, v_ressN, v_ressC, v_killN, v_killC, v_takeN, v_takeL, v_takeR, v_flag, v_putN, v_putL, v_putR, v_putO, v_outs0, v_outsT, v_outsF, v_outsN, v_start, v_gSlot, v_gTup, v_gsN, v_gsC, v_add, v_sub, v_mul, v_fdiv, v_mod, v_pow, v_lt, v_le, v_gt, v_ge, v_neg, v_boolT, v_truB, v_truI, v_truN, v_truL, v_isN, v_isI, v_notN, v_notI, v_int, v_intB, v_abs, v_max, v_lenL, v_lenD, v_lenT, v_lenS, v_share, v_shareS, v_shareO, v_mkT, ix_ol0, ix_ol1, ix_ol2, ix_t0, ix_t1, ix_t2, v_ixN0, v_ixN1, v_ixN2, v_olOf, v_intOf, w_xv, w_perm, v_pickN, v_pickC, Option.elim_some, v_any, v_mk1, v_mk2, v_mk3, v_mk4, v_mk5, v_mk2o, v_mk3o, v_shOl, v_shTp, v_toDs, v_toDsN, v_toDsC, v_toDd, v_toDl, v_toDt, v_toFs, v_toFsN, v_toFsC, v_toFd, v_toFl, v_toFt, v_shareB, v_itT, v_itP, v_itL, v_itRl, v_itRt, v_itRD, v_itRo, v_itRb, v_it0o, v_it0p, v_it0l, v_it0t, v_itTb, v_unBb, v_unBo, v_unBp, v_unBd, v_borD, v_borO, v_borP, v_borB, v_borI, v_borX, v_borS, v_borM, v_lenB, v_lstB, v_lstO, v_lstD, v_cld, v_clo, v_clp, v_clb, v_cls, v_clsN, v_clsC, v_clsD, v_isLo, v_isLd, v_tbN, v_tbL, v_tbT, v_tbF, v_pbN, v_pbL, v_pbT, v_pbF, v_pbX, v_cbN, v_cbE, v_cbT, v_cbF, v_cbX, enumT_d, v_append, v_insert0, v_dOf, v_statO, v_statB, v_eqNil, v_neNil, v_boolsN, v_boolsC, v_mkOt, v_mkOf, v_frzN, v_frzC, v_mkO2, v_addO, v_addDO, v_addOD, v_stat, v_allD, v_dats, v_datsN, v_datsC, v_addT, v_tupO, v_tupD, v_tupT, v_listO, v_listD, v_listT, v_rg1, v_rg2, v_eqI, v_neI, v_eqS, v_neS, ↓v_iOf, ↓v_iCall, ↓v_iEnum, List.any_cons, List.any_nil, Bool.or_false, Bool.false_or, id, List.isEmpty_cons, List.isEmpty_nil, v_c0, v_c1, v_c2, v_c3, v_c4, v_c5, v_c6, v_c7, v_c8, v_c9, v_c10, Nat.reduceAdd, Int.reduceEq, Int.reduceLT, Int.reduceLE, Int.reduceNe, Nat.reduceLT, Nat.reduceEqDiff, List.length_map, List.length_reverse, List.length_replicate, List.length_set, List.getElem?_cons_zero, List.getElem?_cons_succ, List.set_cons_zero, List.set_cons_succ, Option.join_some, Option.join_none, Option.bind_some, Option.map_some, List.map_cons, List.map_nil, List.length_cons, List.length_nil, List.replicate_succ, List.replicate_zero, List.cons_append, List.nil_append, List.append_nil, Option.some.injEq, List.all_cons, List.all_nil, Bool.true_and, Bool.and_true, Bool.and_self, eq_self, decide_true, decide_false, Bool.not_true, Bool.not_false, List.tail_cons, v_starO, v_starD, v_starT, w_prop, v_isiO, ↓ap_c_law_purse_1, ↓ap_c_law_coin_1, ↓ap_c_law_coin_2, ↓ap_c_law_coin_3, ↓ap_k_law_drawn_rule_1, ↓ap_b_law_drawn_rule_2, ↓ap_c_law_drawn_rule_2, ↓ap_k_first_loose_1, ↓ap_b_first_loose_2, ↓ap_c_law_refused_1, ↓ap_c_law_refused_2, ↓ap_c_law_wrong_row_1, ↓ap_c_law_wrong_row_2, ↓ap_b_law_wrong_row_1, ↓ap_c_law_right_1, ↓ap_c_law_right_2, ↓ap_b_law_right_1, ↓ap_c_law_right_4, ↓ap_c_law_right_6, ↓ap_c_law_right_8, ↓ap_b_law_1, ↓ap_b_law_2, ↓w_eComp, w_cN, w_cC, $xs,*]); (repeat ((first | (with_reducible refine sqN ?_) | ((with_reducible refine And.intro ?_ ?_); first | (with_reducible exact True.intro) | ((with_reducible refine v_small ?_); omega) | ((with_reducible refine v_big ?_ ?_) <;> omega) | (with_reducible exact ⟨True.intro, by decide⟩))); try simp (implicitDefEqProofs := false) only [↓w_ok, w_exc, ↓w_some, w_none, ↓w_obind, ↓w_omap, w_oite, ↓w_bind, w_pure, w_lift, ↓w_brT, ↓w_brF, ↓w_late, ↓w_oV, ↓w_op2, ↓w_op1, ↓w_var, ↓w_move, ↓w_c, ↓w_aNil, ↓w_aCons, ↓w_osNil, ↓w_osCons, ↓w_osApp, ↓w_tup, ↓w_lst, ↓w_bTru, ↓w_bVal, ↓w_bNot, ↓w_bAnd, ↓w_bOr, ↓w_eIf, ↓w_eAnd, ↓w_eOr, ↓w_eNot, ↓w_call, ↓w_chain, ↓w_fun, ↓w_funB, ↓w_sl, ↓w_pNo, ↓w_pAt, ↓w_run, w_nx, w_rt, w_bk, w_ct, w_xc, ↓w_seq, w_nil, ↓w_kill, ↓w_asg, ↓w_expr, ↓w_ret, ↓w_retN, ↓w_if, andP_T, andP_F, orP_T, orP_F, eIfP_T, eIfP_F, eAndP_T, eAndP_F, eOrP_T, eOrP_F, chP_T, chP_F, ifP_T, ifP_F, sq_R, sq_B, sq_C, sq_X, ty_N, ty_R, ty_B, ty_C, ty_X, wp_N, wp_R, wp_B, wp_C, md_N, md_R, md_B, md_C, md_X, kp_N, kp_R, kp_B, kp_C, kp_X, rn_N, rn_R, rn_B, rn_C, rn_X, tp_N, tp_R, tp_B, tp_C, tp_X, ↓w_setI, ↓w_par2, ↓w_par3, ↓w_raise, ↓w_fld, ↓w_try, ↓w_thru, ↓w_wipe, ↓w_turn, ↓w_eMut, ↓w_m1, ↓w_join, ↓w_jNil, ↓w_jC, ↓w_jF, ↓w_iStr, ↓w_star, ↓w_consOs, ↓w_meth, ↓w_get, ↓w_aug, v_int2, v_instOb, v_instIs, v_slot0, v_slotN, v_slotS, v_resL, v_resR, v_ressN, v_ressC, v_killN, v_killC, v_takeN, v_takeL, v_takeR, v_flag, v_putN, v_putL, v_putR, v_putO, v_outs0, v_outsT, v_outsF, v_outsN, v_start, v_gSlot, v_gTup, v_gsN, v_gsC, v_add, v_sub, v_mul, v_fdiv, v_mod, v_pow, v_lt, v_le, v_gt, v_ge, v_neg, v_boolT, v_truB, v_truI, v_truN, v_truL, v_isN, v_isI, v_notN, v_notI, v_int, v_intB, v_abs, v_max, v_lenL, v_lenD, v_lenT, v_lenS, v_share, v_shareS, v_shareO, v_mkT, ix_ol0, ix_ol1, ix_ol2, ix_t0, ix_t1, ix_t2, v_ixN0, v_ixN1, v_ixN2, v_olOf, v_intOf, w_xv, w_perm, v_pickN, v_pickC, Option.elim_some, v_any, v_mk1, v_mk2, v_mk3, v_mk4, v_mk5, v_mk2o, v_mk3o, v_shOl, v_shTp, v_toDs, v_toDsN, v_toDsC, v_toDd, v_toDl, v_toDt, v_toFs, v_toFsN, v_toFsC, v_toFd, v_toFl, v_toFt, v_shareB, v_itT, v_itP, v_itL, v_itRl, v_itRt, v_itRD, v_itRo, v_itRb, v_it0o, v_it0p, v_it0l, v_it0t, v_itTb, v_unBb, v_unBo, v_unBp, v_unBd, v_borD, v_borO, v_borP, v_borB, v_borI, v_borX, v_borS, v_borM, v_lenB, v_lstB, v_lstO, v_lstD, v_cld, v_clo, v_clp, v_clb, v_cls, v_clsN, v_clsC, v_clsD, v_isLo, v_isLd, v_tbN, v_tbL, v_tbT, v_tbF, v_pbN, v_pbL, v_pbT, v_pbF, v_pbX, v_cbN, v_cbE, v_cbT, v_cbF, v_cbX, enumT_d, v_append, v_insert0, v_dOf, v_statO, v_statB, v_eqNil, v_neNil, v_boolsN, v_boolsC, v_mkOt, v_mkOf, v_frzN, v_frzC, v_mkO2, v_addO, v_addDO, v_addOD, v_stat, v_allD, v_dats, v_datsN, v_datsC, v_addT, v_tupO, v_tupD, v_tupT, v_listO, v_listD, v_listT, v_rg1, v_rg2, v_eqI, v_neI, v_eqS, v_neS, ↓v_iOf, ↓v_iCall, ↓v_iEnum, List.any_cons, List.any_nil, Bool.or_false, Bool.false_or, id, List.isEmpty_cons, List.isEmpty_nil, v_c0, v_c1, v_c2, v_c3, v_c4, v_c5, v_c6, v_c7, v_c8, v_c9, v_c10, Nat.reduceAdd, Int.reduceEq, Int.reduceLT, Int.reduceLE, Int.reduceNe, Nat.reduceLT, Nat.reduceEqDiff, List.length_map, List.length_reverse, List.length_replicate, List.length_set, List.getElem?_cons_zero, List.getElem?_cons_succ, List.set_cons_zero, List.set_cons_succ, Option.join_some, Option.join_none, Option.bind_some, Option.map_some, List.map_cons, List.map_nil, List.length_cons, List.length_nil, List.replicate_succ, List.replicate_zero, List.cons_append, List.nil_append, List.append_nil, Option.some.injEq, List.all_cons, List.all_nil, Bool.true_and, Bool.and_true, Bool.and_self, eq_self, decide_true, decide_false, Bool.not_true, Bool.not_false, List.tail_cons, v_starO, v_starD, v_starT, w_prop, v_isiO, ↓ap_c_law_purse_1, ↓ap_c_law_coin_1, ↓ap_c_law_coin_2, ↓ap_c_law_coin_3, ↓ap_k_law_drawn_rule_1, ↓ap_b_law_drawn_rule_2, ↓ap_c_law_drawn_rule_2, ↓ap_k_first_loose_1, ↓ap_b_first_loose_2, ↓ap_c_law_refused_1, ↓ap_c_law_refused_2, ↓ap_c_law_wrong_row_1, ↓ap_c_law_wrong_row_2, ↓ap_b_law_wrong_row_1, ↓ap_c_law_right_1, ↓ap_c_law_right_2, ↓ap_b_law_right_1, ↓ap_c_law_right_4, ↓ap_c_law_right_6, ↓ap_c_law_right_8, ↓ap_b_law_1, ↓ap_b_law_2, ↓w_eComp, w_cN, w_cC, $xs,*])); (try (have hfin := True.intro; clear hfin))))
/-- how dear a row is -/
def Cheap (d : PyData) : Prop := cost d ≤ 400 ∧ d.depth ≤ 2
theorem RowOk.cheap {m : Nat} {d : PyData} (h : RowOk m d) (hm : m ≤ 1000) : Cheap d := by
  obtain ⟨s, a, b, c, e, rfl, ha, hb, hc, he⟩ := h
  refine ⟨?_, by simp only [PyData.depth, PyData.depthAll]; decide⟩
  simp only [cost, costs]
  rw [if_pos (by omega), if_pos (by omega), if_pos (by omega), if_pos (by omega)]
  decide
theorem Cheap.fit {d : PyData} (h : Cheap d) : Fit d := ⟨Nat.le_trans h.1 (by decide), Nat.le_trans h.2 (by decide)⟩
theorem cheap_fit {rows : List PyData} (h : ∀ d ∈ rows, Cheap d) (hl : rows.length ≤ 1000) : Fit (.list rows) := by
  refine ⟨?_, ?_⟩
  · simp only [cost]
    have := costs_le fun x hx => (h x hx).1
    have h2 : (400 + 2) * rows.length ≤ 402 * 1000 := Nat.mul_le_mul_left _ hl
    omega
  · simp only [PyData.depth]
    have := depths_le fun x hx => (h x hx).2
    omega
end Lw

set_option Elab.async false
set_option linter.all false
set_option maxRecDepth 100000
namespace Lw
open FL PySem
local macro_rules | `(tactic| dsimp! only [$xs,*]) => `(tactic| try simp (implicitDefEqProofs := false) only [↓w_ok, w_exc, ↓w_some, w_none, ↓w_obind, ↓w_omap, w_oite, ↓w_bind, w_pure, w_lift, ↓w_brT, ↓w_brF, ↓w_late, ↓w_oV, ↓w_op2, ↓w_op1, ↓w_var, ↓w_move, ↓w_c, ↓w_aNil, ↓w_aCons, ↓w_osNil, ↓w_osCons, ↓w_osApp, ↓w_tup, ↓w_lst, ↓w_bTru, ↓w_bVal, ↓w_bNot, ↓w_bAnd, ↓w_bOr, ↓w_eIf, ↓w_eAnd, ↓w_eOr, ↓w_eNot, ↓w_call, ↓w_chain, ↓w_fun, ↓w_funB, ↓w_sl, ↓w_pNo, ↓w_pAt, ↓w_run, w_nx, w_rt, w_bk, w_ct, w_xc, w_nil, ↓w_kill, ↓w_asg, ↓w_expr, ↓w_ret, ↓w_retN, ↓w_if, andP_T, andP_F, orP_T, orP_F, eIfP_T, eIfP_F, eAndP_T, eAndP_F, eOrP_T, eOrP_F, chP_T, chP_F, ifP_T, ifP_F, sq_R, sq_B, sq_C, sq_X, ty_N, ty_R, ty_B, ty_C, ty_X, wp_N, wp_R, wp_B, wp_C, md_N, md_R, md_B, md_C, md_X, kp_N, kp_R, kp_B, kp_C, kp_X, rn_N, rn_R, rn_B, rn_C, rn_X, tp_N, tp_R, tp_B, tp_C, tp_X, ↓w_setI, ↓w_par2, ↓w_par3, ↓w_raise, ↓w_fld, ↓w_try, ↓w_thru, ↓w_wipe, ↓w_turn, ↓w_eMut, ↓w_m1, ↓w_join, ↓w_jNil, ↓w_jC, ↓w_jF, ↓w_iStr, ↓w_star, ↓w_consOs, ↓w_meth, ↓w_get, ↓w_aug, v_int2, v_instOb, v_instIs, v_slot0, v_slotN, v_slotS, v_resL, v_resR, v_ressN, v_ressC, v_killN, v_killC, v_takeN, v_takeL, v_takeR, v_flag, v_putN, v_putL, v_putR, v_putO, v_outs0, v_outsT, v_outsF, v_outsN, v_start, v_gSlot, v_gTup, v_gsN, v_gsC, v_add, v_sub, v_mul, v_fdiv, v_mod, v_pow, v_lt, v_le, v_gt, v_ge, v_neg, v_boolT, v_truB, v_truI, v_truN, v_truL, v_isN, v_isI, v_notN, v_notI, v_int, v_intB, v_abs, v_max, v_lenL, v_lenD, v_lenT, v_lenS, v_share, v_shareS, v_shareO, v_mkT, ix_ol0, ix_ol1, ix_ol2, ix_t0, ix_t1, ix_t2, v_ixN0, v_ixN1, v_ixN2, v_olOf, v_intOf, w_xv, w_perm, v_pickN, v_pickC, Option.elim_some, v_any, v_mk1, v_mk2, v_mk3, v_mk4, v_mk5, v_mk2o, v_mk3o, v_shOl, v_shTp, v_toDs, v_toDsN, v_toDsC, v_toDd, v_toDl, v_toDt, v_toFs, v_toFsN, v_toFsC, v_toFd, v_toFl, v_toFt, v_shareB, v_itT, v_itP, v_itL, v_itRl, v_itRt, v_itRD, v_itRo, v_itRb, v_it0o, v_it0p, v_it0l, v_it0t, v_itTb, v_unBb, v_unBo, v_unBp, v_unBd, v_borD, v_borO, v_borP, v_borB, v_borI, v_borX, v_borS, v_borM, v_lenB, v_lstB, v_lstO, v_lstD, v_cld, v_clo, v_clp, v_clb, v_cls, v_clsN, v_clsC, v_clsD, v_isLo, v_isLd, v_tbN, v_tbL, v_tbT, v_tbF, v_pbN, v_pbL, v_pbT, v_pbF, v_pbX, v_cbN, v_cbE, v_cbT, v_cbF, v_cbX, enumT_d, v_append, v_insert0, v_dOf, v_statO, v_statB, v_eqNil, v_neNil, v_boolsN, v_boolsC, v_mkOt, v_mkOf, v_frzN, v_frzC, v_mkO2, v_addO, v_addDO, v_addOD, v_stat, v_allD, v_dats, v_datsN, v_datsC, v_addT, v_tupO, v_tupD, v_tupT, v_listO, v_listD, v_listT, v_rg1, v_rg2, v_eqI, v_neI, v_eqS, v_neS, ↓v_iOf, ↓v_iCall, ↓v_iEnum, List.any_cons, List.any_nil, Bool.or_false, Bool.false_or, id, List.isEmpty_cons, List.isEmpty_nil, v_c0, v_c1, v_c2, v_c3, v_c4, v_c5, v_c6, v_c7, v_c8, v_c9, v_c10, Nat.reduceAdd, Int.reduceEq, Int.reduceLT, Int.reduceLE, Int.reduceNe, Nat.reduceLT, Nat.reduceEqDiff, List.length_map, List.length_reverse, List.length_replicate, List.length_set, List.getElem?_cons_zero, List.getElem?_cons_succ, List.set_cons_zero, List.set_cons_succ, Option.join_some, Option.join_none, Option.bind_some, Option.map_some, List.map_cons, List.map_nil, List.length_cons, List.length_nil, List.replicate_succ, List.replicate_zero, List.cons_append, List.nil_append, List.append_nil, Option.some.injEq, List.all_cons, List.all_nil, Bool.true_and, Bool.and_true, Bool.and_self, eq_self, decide_true, decide_false, Bool.not_true, Bool.not_false, List.tail_cons, v_starO, v_starD, v_starT, w_prop, v_isiO, ↓ap_c_law_purse_1, ↓ap_c_law_coin_1, ↓ap_c_law_coin_2, ↓ap_c_law_coin_3, ↓ap_b_law_drawn_rule_2, ↓ap_c_law_drawn_rule_2, ↓ap_b_first_loose_2, ↓ap_c_law_refused_1, ↓ap_c_law_refused_2, ↓ap_c_law_wrong_row_1, ↓ap_c_law_wrong_row_2, ↓ap_b_law_wrong_row_1, ↓ap_c_law_right_1, ↓ap_c_law_right_2, ↓ap_b_law_right_1, ↓ap_c_law_right_4, ↓ap_c_law_right_6, ↓ap_c_law_right_8, ↓ap_b_law_1, ↓ap_b_law_2, $xs,*])
local macro_rules | `(tactic| simp! only [$xs,*]) => `(tactic| ((try simp (implicitDefEqProofs := false) only [↓w_ok, w_exc, ↓w_some, w_none, ↓w_obind, ↓w_omap, w_oite, ↓w_bind, w_pure, w_lift, ↓w_brT, ↓w_brF, ↓w_late, ↓w_oV, ↓w_op2, ↓w_op1, ↓w_var, ↓w_move, ↓w_c, ↓w_aNil, ↓w_aCons, ↓w_osNil, ↓w_osCons, ↓w_osApp, ↓w_tup, ↓w_lst, ↓w_bTru, ↓w_bVal, ↓w_bNot, ↓w_bAnd, ↓w_bOr, ↓w_eIf, ↓w_eAnd, ↓w_eOr, ↓w_eNot, ↓w_call, ↓w_chain, ↓w_fun, ↓w_funB, ↓w_sl, ↓w_pNo, ↓w_pAt, ↓w_run, w_nx, w_rt, w_bk, w_ct, w_xc, ↓w_seq, w_nil, ↓w_kill, ↓w_asg, ↓w_expr, ↓w_ret, ↓w_retN, ↓w_if, andP_T, andP_F, orP_T, orP_F, eIfP_T, eIfP_F, eAndP_T, eAndP_F, eOrP_T, eOrP_F, chP_T, chP_F, ifP_T, ifP_F, sq_R, sq_B, sq_C, sq_X, ty_N, ty_R, ty_B, ty_C, ty_X, wp_N, wp_R, wp_B, wp_C, md_N, md_R, md_B, md_C, md_X, kp_N, kp_R, kp_B, kp_C, kp_X, rn_N, rn_R, rn_B, rn_C, rn_X, tp_N, tp_R, tp_B, tp_C, tp_X, ↓w_setI, ↓w_par2, ↓w_par3, ↓w_raise, ↓w_fld, ↓w_try, ↓w_thru, ↓w_wipe, ↓w_turn, ↓w_eMut, ↓w_m1, ↓w_join, ↓w_jNil, ↓w_jC, ↓w_jF, ↓w_iStr, ↓w_star, ↓w_consOs, ↓w_meth, ↓w_get, ↓w_aug, v_int2, v_instOb, v_instIs, v_slot0, v_slotN, v_slotS, v_resL, v_resR, v_ressN, v_ressC, v_killN, v_killC, v_takeN, v_takeL, v_takeR, v_flag, v_putN, v_putL, v_putR, v_putO, v_outs0, v_outsT, v_outsF, v_outsN, v_start, v_gSlot, v_gTup, v_gsN, v_gsC, v_add, v_sub, v_mul, v_fdiv, v_mod, v_pow, v_lt, v_le, v_gt, v_ge, v_neg, v_boolT, v_truB, v_truI, v_truN, v_truL, v_isN, v_isI, v_notN, v_notI, v_int, v_intB, v_abs, v_max, v_lenL, v_lenD, v_lenT, v_lenS, v_share, v_shareS, v_shareO, v_mkT, ix_ol0, ix_ol1, ix_ol2, ix_t0, ix_t1, ix_t2, v_ixN0, v_ixN1, v_ixN2, v_olOf, v_intOf, w_xv, w_perm, v_pickN, v_pickC, Option.elim_some, v_any, v_mk1, v_mk2, v_mk3, v_mk4, v_mk5, v_mk2o, v_mk3o, v_shOl, v_shTp, v_toDs, v_toDsN, v_toDsC, v_toDd, v_toDl, v_toDt, v_toFs, v_toFsN, v_toFsC, v_toFd, v_toFl, v_toFt, v_shareB, v_itT, v_itP, v_itL, v_itRl, v_itRt, v_itRD, v_itRo, v_itRb, v_it0o, v_it0p, v_it0l, v_it0t, v_itTb, v_unBb, v_unBo, v_unBp, v_unBd, v_borD, v_borO, v_borP, v_borB, v_borI, v_borX, v_borS, v_borM, v_lenB, v_lstB, v_lstO, v_lstD, v_cld, v_clo, v_clp, v_clb, v_cls, v_clsN, v_clsC, v_clsD, v_isLo, v_isLd, v_tbN, v_tbL, v_tbT, v_tbF, v_pbN, v_pbL, v_pbT, v_pbF, v_pbX, v_cbN, v_cbE, v_cbT, v_cbF, v_cbX, enumT_d, v_append, v_insert0, v_dOf, v_statO, v_statB, v_eqNil, v_neNil, v_boolsN, v_boolsC, v_mkOt, v_mkOf, v_frzN, v_frzC, v_mkO2, v_addO, v_addDO, v_addOD, v_stat, v_allD, v_dats, v_datsN, v_datsC, v_addT, v_tupO, v_tupD, v_tupT, v_listO, v_listD, v_listT, v_rg1, v_rg2, v_eqI, v_neI, v_eqS, v_neS, ↓v_iOf, ↓v_iCall, ↓v_iEnum, List.any_cons, List.any_nil, Bool.or_false, Bool.false_or, id, List.isEmpty_cons, List.isEmpty_nil, v_c0, v_c1, v_c2, v_c3, v_c4, v_c5, v_c6, v_c7, v_c8, v_c9, v_c10, Nat.reduceAdd, Int.reduceEq, Int.reduceLT, Int.reduceLE, Int.reduceNe, Nat.reduceLT, Nat.reduceEqDiff, List.length_map, List.length_reverse, List.length_replicate, List.length_set, List.getElem?_cons_zero, List.getElem?_cons_succ, List.set_cons_zero, List.set_cons_succ, Option.join_some, Option.join_none, Option.bind_some, Option.map_some, List.map_cons, List.map_nil, List.length_cons, List.length_nil, List.replicate_succ, List.replicate_zero, List.cons_append, List.nil_append, List.append_nil, Option.some.injEq, List.all_cons, List.all_nil, Bool.true_and, Bool.and_true, Bool.and_self, eq_self, decide_true, decide_false, Bool.not_true, Bool.not_false, List.tail_cons, v_starO, v_starD, v_starT, w_prop, v_isiO, ↓ap_c_law_purse_1, ↓ap_c_law_coin_1, ↓ap_c_law_coin_2, ↓ap_c_law_coin_3, ↓ap_b_law_drawn_rule_2, ↓ap_c_law_drawn_rule_2, ↓ap_b_first_loose_2, ↓ap_c_law_refused_1, ↓ap_c_law_refused_2, ↓ap_c_law_wrong_row_1, ↓ap_c_law_wrong_row_2, ↓ap_b_law_wrong_row_1, ↓ap_c_law_right_1, ↓ap_c_law_right_2, ↓ap_b_law_right_1, ↓ap_c_law_right_4, ↓ap_c_law_right_6, ↓ap_c_law_right_8, ↓ap_b_law_1, ↓ap_b_law_2, $xs,*]); (repeat ((first | (with_reducible refine sqN ?_) | ((with_reducible refine And.intro ?_ ?_); first | (with_reducible exact True.intro) | ((with_reducible refine v_small ?_); omega) | ((with_reducible refine v_big ?_ ?_) <;> omega) | (with_reducible exact ⟨True.intro, by decide⟩))); try simp (implicitDefEqProofs := false) only [↓w_ok, w_exc, ↓w_some, w_none, ↓w_obind, ↓w_omap, w_oite, ↓w_bind, w_pure, w_lift, ↓w_brT, ↓w_brF, ↓w_late, ↓w_oV, ↓w_op2, ↓w_op1, ↓w_var, ↓w_move, ↓w_c, ↓w_aNil, ↓w_aCons, ↓w_osNil, ↓w_osCons, ↓w_osApp, ↓w_tup, ↓w_lst, ↓w_bTru, ↓w_bVal, ↓w_bNot, ↓w_bAnd, ↓w_bOr, ↓w_eIf, ↓w_eAnd, ↓w_eOr, ↓w_eNot, ↓w_call, ↓w_chain, ↓w_fun, ↓w_funB, ↓w_sl, ↓w_pNo, ↓w_pAt, ↓w_run, w_nx, w_rt, w_bk, w_ct, w_xc, ↓w_seq, w_nil, ↓w_kill, ↓w_asg, ↓w_expr, ↓w_ret, ↓w_retN, ↓w_if, andP_T, andP_F, orP_T, orP_F, eIfP_T, eIfP_F, eAndP_T, eAndP_F, eOrP_T, eOrP_F, chP_T, chP_F, ifP_T, ifP_F, sq_R, sq_B, sq_C, sq_X, ty_N, ty_R, ty_B, ty_C, ty_X, wp_N, wp_R, wp_B, wp_C, md_N, md_R, md_B, md_C, md_X, kp_N, kp_R, kp_B, kp_C, kp_X, rn_N, rn_R, rn_B, rn_C, rn_X, tp_N, tp_R, tp_B, tp_C, tp_X, ↓w_setI, ↓w_par2, ↓w_par3, ↓w_raise, ↓w_fld, ↓w_try, ↓w_thru, ↓w_wipe, ↓w_turn, ↓w_eMut, ↓w_m1, ↓w_join, ↓w_jNil, ↓w_jC, ↓w_jF, ↓w_iStr, ↓w_star, ↓w_consOs, ↓w_meth, ↓w_get, ↓w_aug, v_int2, v_instOb, v_instIs, v_slot0, v_slotN, v_slotS, v_resL, v_resR, v_ressN, v_ressC, v_killN, v_killC, v_takeN, v_takeL, v_takeR, v_flag, v_putN, v_putL, v_putR, v_putO, v_outs0, v_outsT, v_outsF, v_outsN, v_start, v_gSlot, v_gTup, v_gsN, v_gsC, v_add, v_sub, v_mul, v_fdiv, v_mod, v_pow, v_lt, v_le, v_gt, v_ge, v_neg, v_boolT, v_truB, v_truI, v_truN, v_truL, v_isN, v_isI, v_notN, v_notI, v_int, v_intB, v_abs, v_max, v_lenL, v_lenD, v_lenT, v_lenS, v_share, v_shareS, v_shareO, v_mkT, ix_ol0, ix_ol1, ix_ol2, ix_t0, ix_t1, ix_t2, v_ixN0, v_ixN1, v_ixN2, v_olOf, v_intOf, w_xv, w_perm, v_pickN, v_pickC, Option.elim_some, v_any, v_mk1, v_mk2, v_mk3, v_mk4, v_mk5, v_mk2o, v_mk3o, v_shOl, v_shTp, v_toDs, v_toDsN, v_toDsC, v_toDd, v_toDl, v_toDt, v_toFs, v_toFsN, v_toFsC, v_toFd, v_toFl, v_toFt, v_shareB, v_itT, v_itP, v_itL, v_itRl, v_itRt, v_itRD, v_itRo, v_itRb, v_it0o, v_it0p, v_it0l, v_it0t, v_itTb, v_unBb, v_unBo, v_unBp, v_unBd, v_borD, v_borO, v_borP, v_borB, v_borI, v_borX, v_borS, v_borM, v_lenB, v_lstB, v_lstO, v_lstD, v_cld, v_clo, v_clp, v_clb, v_cls, v_clsN, v_clsC, v_clsD, v_isLo, v_isLd, v_tbN, v_tbL, v_tbT, v_tbF, v_pbN, v_pbL, v_pbT, v_pbF, v_pbX, v_cbN, v_cbE, v_cbT, v_cbF, v_cbX, enumT_d, v_append, v_insert0, v_dOf, v_statO, v_statB, v_eqNil, v_neNil, v_boolsN, v_boolsC, v_mkOt, v_mkOf, v_frzN, v_frzC, v_mkO2, v_addO, v_addDO, v_addOD, v_stat, v_allD, v_dats, v_datsN, v_datsC, v_addT, v_tupO, v_tupD, v_tupT, v_listO, v_listD, v_listT, v_rg1, v_rg2, v_eqI, v_neI, v_eqS, v_neS, ↓v_iOf, ↓v_iCall, ↓v_iEnum, List.any_cons, List.any_nil, Bool.or_false, Bool.false_or, id, List.isEmpty_cons, List.isEmpty_nil, v_c0, v_c1, v_c2, v_c3, v_c4, v_c5, v_c6, v_c7, v_c8, v_c9, v_c10, Nat.reduceAdd, Int.reduceEq, Int.reduceLT, Int.reduceLE, Int.reduceNe, Nat.reduceLT, Nat.reduceEqDiff, List.length_map, List.length_reverse, List.length_replicate, List.length_set, List.getElem?_cons_zero, List.getElem?_cons_succ, List.set_cons_zero, List.set_cons_succ, Option.join_some, Option.join_none, Option.bind_some, Option.map_some, List.map_cons, List.map_nil, List.length_cons, List.length_nil, List.replicate_succ, List.replicate_zero, List.cons_append, List.nil_append, List.append_nil, Option.some.injEq, List.all_cons, List.all_nil, Bool.true_and, Bool.and_true, Bool.and_self, eq_self, decide_true, decide_false, Bool.not_true, Bool.not_false, List.tail_cons, v_starO, v_starD, v_starT, w_prop, v_isiO, ↓ap_c_law_purse_1, ↓ap_c_law_coin_1, ↓ap_c_law_coin_2, ↓ap_c_law_coin_3, ↓ap_b_law_drawn_rule_2, ↓ap_c_law_drawn_rule_2, ↓ap_b_first_loose_2, ↓ap_c_law_refused_1, ↓ap_c_law_refused_2, ↓ap_c_law_wrong_row_1, ↓ap_c_law_wrong_row_2, ↓ap_b_law_wrong_row_1, ↓ap_c_law_right_1, ↓ap_c_law_right_2, ↓ap_b_law_right_1, ↓ap_c_law_right_4, ↓ap_c_law_right_6, ↓ap_c_law_right_8, ↓ap_b_law_1, ↓ap_b_law_2, $xs,*])); (try (have hfin := True.intro; clear hfin))))
local macro_rules | `(tactic| simp_all! only [$xs,*]) => `(tactic| ((try simp (implicitDefEqProofs := false) only [↓w_ok, w_exc, ↓w_some, w_none, ↓w_obind, ↓w_omap, w_oite, ↓w_bind, w_pure, w_lift, ↓w_brT, ↓w_brF, ↓w_late, ↓w_oV, ↓w_op2, ↓w_op1, ↓w_var, ↓w_move, ↓w_c, ↓w_aNil, ↓w_aCons, ↓w_osNil, ↓w_osCons, ↓w_osApp, ↓w_tup, ↓w_lst, ↓w_bTru, ↓w_bVal, ↓w_bNot, ↓w_bAnd, ↓w_bOr, ↓w_eIf, ↓w_eAnd, ↓w_eOr, ↓w_eNot, ↓w_call, ↓w_chain, ↓w_fun, ↓w_funB, ↓w_sl, ↓w_pNo, ↓w_pAt, ↓w_run, w_nx, w_rt, w_bk, w_ct, w_xc, ↓w_seq, w_nil, ↓w_kill, ↓w_asg, ↓w_expr, ↓w_ret, ↓w_retN, ↓w_if, andP_T, andP_F, orP_T, orP_F, eIfP_T, eIfP_F, eAndP_T, eAndP_F, eOrP_T, eOrP_F, chP_T, chP_F, ifP_T, ifP_F, sq_R, sq_B, sq_C, sq_X, ty_N, ty_R, ty_B, ty_C, ty_X, wp_N, wp_R, wp_B, wp_C, md_N, md_R, md_B, md_C, md_X, kp_N, kp_R, kp_B, kp_C, kp_X, rn_N, rn_R, rn_B, rn_C, rn_X, tp_N, tp_R, tp_B, tp_C, tp_X, ↓w_setI, ↓w_par2, ↓w_par3, ↓w_raise, ↓w_fld, ↓w_try, ↓w_thru, ↓w_wipe, ↓w_turn, ↓w_eMut, ↓w_m1, ↓w_join, ↓w_jNil, ↓w_jC, ↓w_jF, ↓w_iStr, ↓w_star, ↓w_consOs, ↓w_meth, ↓w_get, ↓w_aug, v_int2, v_instOb, v_instIs, v_slot0, v_slotN, v_slotS, v_resL, v_resR, v_ressN, v_ressC, v_killN, v_killC, v_takeN, v_takeL, v_takeR, v_flag, v_putN, v_putL, v_putR, v_putO, v_outs0, v_outsT, v_outsF, v_outsN, v_start, v_gSlot, v_gTup, v_gsN, v_gsC, v_add, v_sub, v_mul, v_fdiv, v_mod, v_pow, v_lt, v_le, v_gt, v_ge, v_neg, v_boolT, v_truB, v_truI, v_truN, v_truL, v_isN, v_isI, v_notN, v_notI, v_int, v_intB, v_abs, v_max, v_lenL, v_lenD, v_lenT, v_lenS, v_share, v_shareS, v_shareO, v_mkT, ix_ol0, ix_ol1, ix_ol2, ix_t0, ix_t1, ix_t2, v_ixN0, v_ixN1, v_ixN2, v_olOf, v_intOf, w_xv, w_perm, v_pickN, v_pickC, Option.elim_some, v_any, v_mk1, v_mk2, v_mk3, v_mk4, v_mk5, v_mk2o, v_mk3o, v_shOl, v_shTp, v_toDs, v_toDsN, v_toDsC, v_toDd, v_toDl, v_toDt, v_toFs, v_toFsN, v_toFsC, v_toFd, v_toFl, v_toFt, v_shareB, v_itT, v_itP, v_itL, v_itRl, v_itRt, v_itRD, v_itRo, v_itRb, v_it0o, v_it0p, v_it0l, v_it0t, v_itTb, v_unBb, v_unBo, v_unBp, v_unBd, v_borD, v_borO, v_borP, v_borB, v_borI, v_borX, v_borS, v_borM, v_lenB, v_lstB, v_lstO, v_lstD, v_cld, v_clo, v_clp, v_clb, v_cls, v_clsN, v_clsC, v_clsD, v_isLo, v_isLd, v_tbN, v_tbL, v_tbT, v_tbF, v_pbN, v_pbL, v_pbT, v_pbF, v_pbX, v_cbN, v_cbE, v_cbT, v_cbF, v_cbX, enumT_d, v_append, v_insert0, v_dOf, v_statO, v_statB, v_eqNil, v_neNil, v_boolsN, v_boolsC, v_mkOt, v_mkOf, v_frzN, v_frzC, v_mkO2, v_addO, v_addDO, v_addOD, v_stat, v_allD, v_dats, v_datsN, v_datsC, v_addT, v_tupO, v_tupD, v_tupT, v_listO, v_listD, v_listT, v_rg1, v_rg2, v_eqI, v_neI, v_eqS, v_neS, ↓v_iOf, ↓v_iCall, ↓v_iEnum, List.any_cons, List.any_nil, Bool.or_false, Bool.false_or, id, List.isEmpty_cons, List.isEmpty_nil, v_c0, v_c1, v_c2, v_c3, v_c4, v_c5, v_c6, v_c7, v_c8, v_c9, v_c10, Nat.reduceAdd, Int.reduceEq, Int.reduceLT, Int.reduceLE, Int.reduceNe, Nat.reduceLT, Nat.reduceEqDiff, List.length_map, List.length_reverse, List.length_replicate, List.length_set, List.getElem?_cons_zero, List.getElem?_cons_succ, List.set_cons_zero, List.set_cons_succ, Option.join_some, Option.join_none, Option.bind_some, Option.map_some, List.map_cons, List.map_nil, List.length_cons, List.length_nil, List.replicate_succ, List.replicate_zero, List.cons_append, List.nil_append, List.append_nil, Option.some.injEq, List.all_cons, List.all_nil, Bool.true_and, Bool.and_true, Bool.and_self, eq_self, decide_true, decide_false, Bool.not_true, Bool.not_false, List.tail_cons, v_starO, v_starD, v_starT, w_prop, v_isiO, ↓ap_c_law_purse_1, ↓ap_c_law_coin_1, ↓ap_c_law_coin_2, ↓ap_c_law_coin_3, ↓ap_k_law_drawn_rule_1, ↓ap_b_law_drawn_rule_2, ↓ap_c_law_drawn_rule_2, ↓ap_k_first_loose_1, ↓ap_b_first_loose_2, ↓ap_c_law_refused_1, ↓ap_c_law_refused_2, ↓ap_c_law_wrong_row_1, ↓ap_c_law_wrong_row_2, ↓ap_b_law_wrong_row_1, ↓ap_c_law_right_1, ↓ap_c_law_right_2, ↓ap_b_law_right_1, ↓ap_c_law_right_4, ↓ap_c_law_right_6, ↓ap_c_law_right_8, ↓ap_b_law_1, ↓ap_b_law_2, ↓w_eComp, w_cN, w_cC, $xs,*]); (repeat ((first | (with_reducible refine sqN ?_) | ((with_reducible refine And.intro ?_ ?_); first | (with_reducible exact True.intro) | ((with_reducible refine v_small ?_); omega) | ((with_reducible refine v_big ?_ ?_) <;> omega) | (with_reducible exact ⟨True.intro, by decide⟩))); try simp (implicitDefEqProofs := false) only [↓w_ok, w_exc, ↓w_some, w_none, ↓w_obind, ↓w_omap, w_oite, ↓w_bind, w_pure, w_lift, ↓w_brT, ↓w_brF, ↓w_late, ↓w_oV, ↓w_op2, ↓w_op1, ↓w_var, ↓w_move, ↓w_c, ↓w_aNil, ↓w_aCons, ↓w_osNil, ↓w_osCons, ↓w_osApp, ↓w_tup, ↓w_lst, ↓w_bTru, ↓w_bVal, ↓w_bNot, ↓w_bAnd, ↓w_bOr, ↓w_eIf, ↓w_eAnd, ↓w_eOr, ↓w_eNot, ↓w_call, ↓w_chain, ↓w_fun, ↓w_funB, ↓w_sl, ↓w_pNo, ↓w_pAt, ↓w_run, w_nx, w_rt, w_bk, w_ct, w_xc, ↓w_seq, w_nil, ↓w_kill, ↓w_asg, ↓w_expr, ↓w_ret, ↓w_retN, ↓w_if, andP_T, andP_F, orP_T, orP_F, eIfP_T, eIfP_F, eAndP_T, eAndP_F, eOrP_T, eOrP_F, chP_T, chP_F, ifP_T, ifP_F, sq_R, sq_B, sq_C, sq_X, ty_N, ty_R, ty_B, ty_C, ty_X, wp_N, wp_R, wp_B, wp_C, md_N, md_R, md_B, md_C, md_X, kp_N, kp_R, kp_B, kp_C, kp_X, rn_N, rn_R, rn_B, rn_C, rn_X, tp_N, tp_R, tp_B, tp_C, tp_X, ↓w_setI, ↓w_par2, ↓w_par3, ↓w_raise, ↓w_fld, ↓w_try, ↓w_thru, ↓w_wipe, ↓w_turn, ↓w_eMut, ↓w_m1, ↓w_join, ↓w_jNil, ↓w_jC, ↓w_jF, ↓w_iStr, ↓w_star, ↓w_consOs, ↓w_meth, ↓w_get, ↓w_aug, v_int2, v_instOb, v_instIs, v_slot0, v_slotN, v_slotS, v_resL, v_resR, v_ressN, v_ressC, v_killN, v_killC, v_takeN, v_takeL, v_takeR, v_flag, v_putN, v_putL, v_putR, v_putO, v_outs0, v_outsT, v_outsF, v_outsN, v_start, v_gSlot, v_gTup, v_gsN, v_gsC, v_add, v_sub, v_mul, v_fdiv, v_mod, v_pow, v_lt, v_le, v_gt, v_ge, v_neg, v_boolT, v_truB, v_truI, v_truN, v_truL, v_isN, v_isI, v_notN, v_notI, v_int, v_intB, v_abs, v_max, v_lenL, v_lenD, v_lenT, v_lenS, v_share, v_shareS, v_shareO, v_mkT, ix_ol0, ix_ol1, ix_ol2, ix_t0, ix_t1, ix_t2, v_ixN0, v_ixN1, v_ixN2, v_olOf, v_intOf, w_xv, w_perm, v_pickN, v_pickC, Option.elim_some, v_any, v_mk1, v_mk2, v_mk3, v_mk4, v_mk5, v_mk2o, v_mk3o, v_shOl, v_shTp, v_toDs, v_toDsN, v_toDsC, v_toDd, v_toDl, v_toDt, v_toFs, v_toFsN, v_toFsC, v_toFd, v_toFl, v_toFt, v_shareB, v_itT, v_itP, v_itL, v_itRl, v_itRt, v_itRD, v_itRo, v_itRb, v_it0o, v_it0p, v_it0l, v_it0t, v_itTb, v_unBb, v_unBo, v_unBp, v_unBd, v_borD, v_borO, v_borP, v_borB, v_borI, v_borX, v_borS, v_borM, v_lenB, v_lstB, v_lstO, v_lstD, v_cld, v_clo, v_clp, v_clb, v_cls, v_clsN, v_clsC, v_clsD, v_isLo, v_isLd, v_tbN, v_tbL, v_tbT, v_tbF, v_pbN, v_pbL, v_pbT, v_pbF, v_pbX, v_cbN, v_cbE, v_cbT, v_cbF, v_cbX, enumT_d, v_append, v_insert0, v_dOf, v_statO, v_statB, v_eqNil, v_neNil, v_boolsN, v_boolsC, v_mkOt, v_mkOf, v_frzN, v_frzC, v_mkO2, v_addO, v_addDO, v_addOD, v_stat, v_allD, v_dats, v_datsN, v_datsC, v_addT, v_tupO, v_tupD, v_tupT, v_listO, v_listD, v_listT, v_rg1, v_rg2, v_eqI, v_neI, v_eqS, v_neS, ↓v_iOf, ↓v_iCall, ↓v_iEnum, List.any_cons, List.any_nil, Bool.or_false, Bool.false_or, id, List.isEmpty_cons, List.isEmpty_nil, v_c0, v_c1, v_c2, v_c3, v_c4, v_c5, v_c6, v_c7, v_c8, v_c9, v_c10, Nat.reduceAdd, Int.reduceEq, Int.reduceLT, Int.reduceLE, Int.reduceNe, Nat.reduceLT, Nat.reduceEqDiff, List.length_map, List.length_reverse, List.length_replicate, List.length_set, List.getElem?_cons_zero, List.getElem?_cons_succ, List.set_cons_zero, List.set_cons_succ, Option.join_some, Option.join_none, Option.bind_some, Option.map_some, List.map_cons, List.map_nil, List.length_cons, List.length_nil, List.replicate_succ, List.replicate_zero, List.cons_append, List.nil_append, List.append_nil, Option.some.injEq, List.all_cons, List.all_nil, Bool.true_and, Bool.and_true, Bool.and_self, eq_self, decide_true, decide_false, Bool.not_true, Bool.not_false, List.tail_cons, v_starO, v_starD, v_starT, w_prop, v_isiO, ↓ap_c_law_purse_1, ↓ap_c_law_coin_1, ↓ap_c_law_coin_2, ↓ap_c_law_coin_3, ↓ap_k_law_drawn_rule_1, ↓ap_b_law_drawn_rule_2, ↓ap_c_law_drawn_rule_2, ↓ap_k_first_loose_1, ↓ap_b_first_loose_2, ↓ap_c_law_refused_1, ↓ap_c_law_refused_2, ↓ap_c_law_wrong_row_1, ↓ap_c_law_wrong_row_2, ↓ap_b_law_wrong_row_1, ↓ap_c_law_right_1, ↓ap_c_law_right_2, ↓ap_b_law_right_1, ↓ap_c_law_right_4, ↓ap_c_law_right_6, ↓ap_c_law_right_8, ↓ap_b_law_1, ↓ap_b_law_2, ↓w_eComp, w_cN, w_cC, $xs,*])); (try (have hfin := True.intro; clear hfin))))
/-- a row with a next state that does not exist -/
def RowBad (m : Nat) (d : PyData) : Prop := ∃ (s : Bool) (a b c e : Int), d = .tuple [.bool s, .int a, .int b, .int c, .int e] ∧ ¬ ((0 ≤ a ∧ a < m) ∧ (0 ≤ b ∧ b < m) ∧ (0 ≤ c ∧ c < m) ∧ 0 ≤ e ∧ e < m)
theorem bools_map (f : Int → Bool) : ∀ xs : List Int, boolsOf (xs.map fun x => T.d (.bool (f x))) = some (xs.map f)
  | [] => rfl
  | x :: xs => by
    show (boolsOf (xs.map fun x => T.d (.bool (f x)))).map _ = _
    rw [bools_map f xs]; rfl
theorem loose_bad {t : T} {rows : List PyData} {m : Nat} {d : PyData} {i : Int} {Q : Post} (ht : LS t rows) (hd : RowBad m d) (hm : rows.length = m) (k : ∀ o1 o2 o3, Q.R (.d (.int i)) [some (t, true), o1, o2, o3]) :
    OkF (turnF [1, 2] (gTupT 2 (gsCons (gSlot 1) (gsCons (gSlot 2) (gsNil)))) b_first_loose_2 (.d (.tuple [.int i, d])) [some (t, true), none, none, none]) Q := by
  obtain ⟨s, a, b, c, e, rfl, hbad⟩ := hd
  have hs : sliceT (some 1) none (.d (.tuple [.bool s, .int a, .int b, .int c, .int e])) = some (.d (.tuple [.int a, .int b, .int c, .int e])) := rfl
  have hany : (!decide (0 ≤ a ∧ a < (m : Int)) || (!decide (0 ≤ b ∧ b < (m : Int)) || (!decide (0 ≤ c ∧ c < (m : Int)) || !decide (0 ≤ e ∧ e < (m : Int))))) = true := by
    by_cases h1 : 0 ≤ a ∧ a < m
    · by_cases h2 : 0 ≤ b ∧ b < m
      · by_cases h3 : 0 ≤ c ∧ c < m
        · by_cases h4 : 0 ≤ e ∧ e < m
          · exact absurd ⟨h1, h2, h3, h4⟩ hbad
          · rw [decide_eq_false h4]; simp
        · rw [decide_eq_false h3]; simp
      · rw [decide_eq_false h2]; simp
    · rw [decide_eq_false h1]; simp
  simp! only []
  refine w_compA [a, b, c, e] (fun x => .d (.int x)) (fun x => .d (.bool (!decide (0 ≤ x ∧ x < (m : Int))))) [some (t, true), some (.d (.int i), false), some (.d (.tuple [.bool s, .int a, .int b, .int c, .int e]), false), none] ?_ (by simp) (fun x hx => ?_) ?_
  · simp! only [hs]
  · by_cases h0 : 0 ≤ x
    · have d1 : decide (0 ≤ x) = true := decide_eq_true h0
      by_cases h1 : x < (m : Int)
      · have d2 : decide (x < (m : Int)) = true := decide_eq_true h1
        have d3 : decide (0 ≤ x ∧ x < (m : Int)) = true := decide_eq_true ⟨h0, h1⟩
        simp! only [d1, d2, d3, ht.len, hm]
      · have d2 : decide (x < (m : Int)) = false := decide_eq_false h1
        have d3 : decide (0 ≤ x ∧ x < (m : Int)) = false := decide_eq_false fun z => h1 z.2
        simp! only [d1, d2, d3, ht.len, hm]
    · have d1 : decide (0 ≤ x) = false := decide_eq_false h0
      have d3 : decide (0 ≤ x ∧ x < (m : Int)) = false := decide_eq_false fun z => h0 z.1
      simp! only [d1, d3, ht.len]
  · simp! only [v_any, hany]
    exact k _ _ _
theorem loose_first {t : T} {rows : List PyData} {i : Nat} {d : PyData} {Q : T → List (Option T) → Prop} {X : XR} (h : LV t rows) (hi : rows[i]? = some d) (hb : RowBad rows.length d) (hr : ∀ j e, j < i → rows[j]? = some e → RowOk rows.length e) (k : ∀ o, Q (.d (.int i)) [o]) : OkR (f_first_loose [t]) Q X := by
  obtain ⟨u, hu, hs⟩ := h.share
  unfold f_first_loose m_first_loose
  simp! only []
  have hil := (List.getElem?_eq_some_iff.mp hi).1
  refine w_for (fun ds ts ρ => (∃ j : Nat, j ≤ i ∧ ts = enumD j (rows.drop j)) ∧ ρ = [some (u, true), none, none, none]) ?_ ?_ ?_
  · simp! only [hu, hs.it, hs.isL]
    exact ⟨⟨0, Nat.zero_le _, rfl⟩, trivial⟩
  · rintro ds t ts ρ ⟨⟨j, hj, e⟩, rfl⟩
    have hjl : j < rows.length := by omega
    rw [List.drop_eq_getElem_cons hjl] at e
    cases e
    by_cases hji : j = i
    · subst hji
      have e2 : rows[j] = d := by
        rw [List.getElem?_eq_getElem hjl] at hi
        exact Option.some.inj hi
      rw [e2]
      refine loose_bad hs hb rfl fun o1 o2 o3 => ?_
      simp! only []
      exact k _
    · exact loose_turn hs (hr j _ (by omega) (List.getElem?_eq_getElem hjl)) rfl ⟨⟨j + 1, by omega, rfl⟩, rfl⟩
  · rintro ds ρ ⟨⟨j, hj, e⟩, rfl⟩
    rw [List.drop_eq_getElem_cons (by omega)] at e
    cases e
theorem rule_bad0 {ev lo : Int} {t : T} {Q : T → List (Option T) → Prop} {X : XR} (h : LV t []) (h1 : 1 ≤ ev) (h2 : 0 ≤ lo) (k : ∀ o1 o2 o3, X "InvalidState" (.int 0) [o1, o2, o3]) : OkR (makeFn "Rule" true f_Rule_init [.d (.int ev), .d (.int lo), t]) Q X := by
  have e1 : decide (ev < 1) = false := decide_eq_false (by omega)
  have e2 : decide (lo < 0) = false := decide_eq_false (by omega)
  unfold f_Rule_init m_Rule_init
  simp! only [w_make, e1, e2, h.len, tlO]
  exact k _ _ _
theorem rule_badN {ev lo : Int} {t : T} {rows : List PyData} {i : Nat} {d : PyData} {Q : T → List (Option T) → Prop} {X : XR} (h : LV t rows) (h1 : 1 ≤ ev) (h2 : 0 ≤ lo) (hi : rows[i]? = some d) (hb : RowBad rows.length d) (hr : ∀ j e, j < i → rows[j]? = some e → RowOk rows.length e)
    (k : ∀ o1 o2 o3, X "InvalidState" (.int i) [o1, o2, o3]) : OkR (makeFn "Rule" true f_Rule_init [.d (.int ev), .d (.int lo), t]) Q X := by
  have hil := (List.getElem?_eq_some_iff.mp hi).1
  have e1 : decide (ev < 1) = false := decide_eq_false (by omega)
  have e2 : decide (lo < 0) = false := decide_eq_false (by omega)
  have e3 : decide ((rows.length : Int) = 0) = false := decide_eq_false (by omega)
  unfold f_Rule_init m_Rule_init
  simp! only [w_make, e1, e2, h.len, e3]
  refine loose_first h.bor hi hb hr fun o => ?_
  simp! only [tlO]
  exact k _ _ _
theorem err_st : subE "InvalidState" "InvalidNumber" = false ∧ subE "InvalidState" "InvalidState" = true := by decide +kernel
theorem err_in2 : (("InvalidState" : Str) ∈ (["StreamError", "InvalidNumber", "InvalidState"] : List Str) ∧ ("InvalidNumber" : Str) ∈ (["StreamError", "InvalidNumber", "InvalidState"] : List Str)) := by decide +kernel
theorem err_in3 : (("InvalidState" : Str) ∈ (["StreamError", "InvalidNumber", "InvalidState"] : List Str) ∧ ("InvalidState" : Str) ∈ (["StreamError", "InvalidNumber", "InvalidState"] : List Str)) := by decide +kernel
theorem refused_0 {ev lo : Int} {t : T} {b : Bool} {Q : T → List (Option T) → Prop} {X : XR} (h : LV t []) (h1 : 1 ≤ ev) (h2 : 0 ≤ lo) (k : ∀ o0 o1 o2 o3, Q (.d (.tuple [.str "state", .int 0])) [o0, o1, o2, o3]) : OkR (f_law_refused [.d (.int ev), .d (.int lo), t, .d (.bool b)]) Q X := by
  unfold f_law_refused m_law_refused
  cases b with
  | true =>
    simp! only []
    refine rule_bad0 h h1 h2 fun o1 o2 o3 => ?_
    simp! only [h_miss err_in2 err_st.1, h_hit err_in3 err_st.2]
    exact k _ _ _ _
  | false =>
    simp! only []
    refine rule_bad0 h h1 h2 fun o1 o2 o3 => ?_
    simp! only [h_miss err_in2 err_st.1, h_hit err_in3 err_st.2]
    exact k _ _ _ _
theorem refused_N {ev lo : Int} {t : T} {b : Bool} {rows : List PyData} {i : Nat} {d : PyData} {Q : T → List (Option T) → Prop} {X : XR} (h : LV t rows) (h1 : 1 ≤ ev) (h2 : 0 ≤ lo) (hi : rows[i]? = some d) (hb : RowBad rows.length d) (hr : ∀ j e, j < i → rows[j]? = some e → RowOk rows.length e)
    (k : ∀ o0 o1 o2 o3, Q (.d (.tuple [.str "state", .int i])) [o0, o1, o2, o3]) : OkR (f_law_refused [.d (.int ev), .d (.int lo), t, .d (.bool b)]) Q X := by
  unfold f_law_refused m_law_refused
  cases b with
  | true =>
    simp! only []
    refine rule_badN h h1 h2 hi hb hr fun o1 o2 o3 => ?_
    simp! only [h_miss err_in2 err_st.1, h_hit err_in3 err_st.2]
    exact k _ _ _ _
  | false =>
    simp! only []
    refine rule_badN h h1 h2 hi hb hr fun o1 o2 o3 => ?_
    simp! only [h_miss err_in2 err_st.1, h_hit err_in3 err_st.2]
    exact k _ _ _ _
theorem refused_ok {ev lo : Int} {t : T} {b : Bool} {rows : List PyData} {Q : T → List (Option T) → Prop} {X : XR} (h : LV t rows) (h1 : 1 ≤ ev) (h2 : 0 ≤ lo) (h3 : 1 ≤ rows.length) (hr : ∀ d ∈ rows, RowOk rows.length d)
    (k : ∀ o0 o1 o2 o3, Q (ruleT ev lo rows) [o0, o1, o2, o3]) : OkR (f_law_refused [.d (.int ev), .d (.int lo), t, .d (.bool b)]) Q X := by
  unfold f_law_refused m_law_refused
  cases b with
  | true =>
    simp! only []
    refine rule_ok h h1 h2 h3 hr fun o1 o2 o3 => ?_
    simp! only []
    exact k _ _ _ _
  | false =>
    simp! only []
    refine rule_ok h h1 h2 h3 hr fun o1 o2 o3 => ?_
    simp! only []
    exact k _ _ _ _
abbrev Big (x : Int) : Prop := -(10 ^ 50) < x ∧ x < 10 ^ 50
theorem big_cheap {s : Bool} {a b c e : Int} (ha : Big a) (hb : Big b) (hc : Big c) (he : Big e) : Cheap (.tuple [.bool s, .int a, .int b, .int c, .int e]) := by
  refine ⟨?_, by simp only [PyData.depth, PyData.depthAll]; decide⟩
  simp only [cost, costs]
  rw [if_pos (by omega), if_pos (by omega), if_pos (by omega), if_pos (by omega)]
  decide
theorem wrong_ok {n : Nat} {p0 p1 p2 m : Int} {row : PyData} {Q : T → List (Option T) → Prop} {X : XR} (hp : Pu n p0 p1 p2) (hn : n + 100 < 1000000000) (hm : 0 < m) (hm2 : m ≤ 40) (hr : RowOk m.toNat row)
    (k : ∀ d q0 q1 q2 o1 o2, RowBad m.toNat d → Cheap d → Pu (n + 50) q0 q1 q2 → Q (.d d) [some (pT q0 q1 q2), o1, o2]) : OkR (f_law_wrong_row [pT p0 p1 p2, .d row, .d (.int m)]) Q X := by
  obtain ⟨s, a, b, c, e, rfl, ha, hb, hc, he⟩ := hr
  have em : (m.toNat : Int) = m := by omega
  rw [em] at ha hb hc he
  have b40 : bitsOk 10 40 = true := by decide +kernel
  unfold f_law_wrong_row m_law_wrong_row
  simp! only [b40]
  refine coin_ok hp (by omega) (by decide) (by decide) fun tp v0 v1 v2 k2 k3 hv => ?_
  simp! only []
  refine ix_any k2 k3 rfl fun t ht => ?_
  obtain ⟨top, rfl, ht0, ht1⟩ : ∃ top : Int, t = .d (.int top) ∧ 0 < top ∧ top < 10 ^ 45 := by
    simp only [List.mem_cons, List.not_mem_nil, or_false] at ht
    rcases ht with rfl | rfl
    · exact ⟨_, rfl, by decide +kernel, by decide +kernel⟩
    · exact ⟨_, rfl, by decide +kernel, by decide +kernel⟩
  simp! only []
  refine w_for (fun ds ts ρ => ∃ z : Int, 1 ≤ z ∧ z ≤ 2 ∧ ds ++ ts = rangeT 0 z ∧ ∃ (x1 x2 x3 x4 q0 q1 q2 : Int), (ds ≠ [] → ¬ ((0 ≤ x1 ∧ x1 < m) ∧ (0 ≤ x2 ∧ x2 < m) ∧ (0 ≤ x3 ∧ x3 < m) ∧ 0 ≤ x4 ∧ x4 < m)) ∧ Big x1 ∧ Big x2 ∧ Big x3 ∧ Big x4 ∧ Pu (n + 2 + 10 * ds.length) q0 q1 q2 ∧
    ρ = [some (pT q0 q1 q2, true), some (.d (.tuple [.bool s, .int a, .int b, .int c, .int e]), true), some (.d (.int m), true), some (.ol [.d (.bool s), .d (.int x1), .d (.int x2), .d (.int x3), .d (.int x4)], false), some (.d (.int top), false), none, none]) ?_ ?_ ?_
  · simp! only []
    refine coin_ok hv (by omega) (by decide) (by decide) fun r u0 u1 u2 l0 l1 hu => ?_
    simp! only []
    exact ⟨_, by omega, by omega, rfl, a, b, c, e, u0, u1, u2, fun h => absurd rfl h, by omega, by omega, by omega, by omega, hu.mono (by omega), rfl⟩
  · rintro ds t ts ρ ⟨z, hz1, hz2, h1, x1, x2, x3, x4, q0, q1, q2, hbad, b1, b2, b3, b4, hq, rfl⟩
    have hl : ds.length < 2 := by
      have := congrArg List.length h1
      rw [rg_len, List.length_append, List.length_cons] at this
      omega
    have ht := rg_get h1
    subst ht
    simp! only []
    refine coin_ok hq (by omega) ht0 (by omega) fun r1 u0 u1 u2 l0 l1 hu => ?_
    simp! only []
    refine coin_ok hu (by omega) ht0 (by omega) fun r2 w0 w1 w2 l2 l3 hw => ?_
    simp! only []
    refine coin_ok hw (by omega) (by decide) (by decide) fun r3 y0 y1 y2 l4 l5 hy => ?_
    simp! only []
    refine ix_any l4 l5 rfl fun t ht => ?_
    obtain ⟨num, rfl, hn0, hn1⟩ : ∃ num : Int, t = .d (.int num) ∧ ¬ (0 ≤ num ∧ num < m) ∧ Big num := by
      simp only [List.mem_cons, List.not_mem_nil, or_false] at ht
      rcases ht with rfl | rfl | rfl
      · exact ⟨_, rfl, by omega, by omega⟩
      · exact ⟨_, rfl, by omega, by omega⟩
      · exact ⟨_, rfl, by omega, by omega⟩
    simp! only []
    refine coin_ok hy (by omega) (by decide) (by decide) fun r4 g0 g1 g2 l6 l7 hg => ?_
    have hr4 : r4 = 0 ∨ r4 = 1 ∨ r4 = 2 ∨ r4 = 3 := by omega
    have h1' : ds ++ [T.d (.int (0 + ds.length))] ++ ts = rangeT 0 z := by simpa using h1
    have hg' := hg.mono (m := n + 2 + 10 * (ds ++ [T.d (.int (0 + ds.length))]).length) (by simp; omega)
    have i1 : L2.ixN 5 (1 + 0) = some 1 := by decide
    have i2 : L2.ixN 5 (1 + 1) = some 2 := by decide
    have i3 : L2.ixN 5 (1 + 2) = some 3 := by decide
    have i4 : L2.ixN 5 (1 + 3) = some 4 := by decide
    rcases hr4 with rfl | rfl | rfl | rfl
    · simp! only [i1]
      exact ⟨z, hz1, hz2, h1', num, x2, x3, x4, g0, g1, g2, fun _ q => hn0 q.1, hn1, b2, b3, b4, hg', rfl⟩
    · simp! only [i2]
      exact ⟨z, hz1, hz2, h1', x1, num, x3, x4, g0, g1, g2, fun _ q => hn0 q.2.1, b1, hn1, b3, b4, hg', rfl⟩
    · simp! only [i3]
      exact ⟨z, hz1, hz2, h1', x1, x2, num, x4, g0, g1, g2, fun _ q => hn0 q.2.2.1, b1, b2, hn1, b4, hg', rfl⟩
    · simp! only [i4]
      exact ⟨z, hz1, hz2, h1', x1, x2, x3, num, g0, g1, g2, fun _ q => hn0 q.2.2.2, b1, b2, b3, hn1, hg', rfl⟩
  · rintro ds ρ ⟨z, hz1, hz2, h1, x1, x2, x3, x4, q0, q1, q2, hbad, b1, b2, b3, b4, hq, rfl⟩
    have hl : ds.length = z.toNat := by
      have := congrArg List.length h1
      rw [rg_len, List.append_nil] at this
      exact this
    have hne : ds ≠ [] := fun e => by rw [e] at hl; simp at hl; omega
    simp! only []
    exact k _ q0 q1 q2 _ _ ⟨s, x1, x2, x3, x4, rfl, by rw [em]; exact hbad hne⟩ (big_cheap b1 b2 b3 b4) (hq.mono (by omega))
theorem state_fit {v : Int} (h : v.natAbs < 10 ^ 60) : Fit (.tuple [.str "state", .int v]) := by
  refine ⟨?_, by simp only [PyData.depth, PyData.depthAll]; decide⟩
  simp only [cost, costs]
  rw [if_pos h]
  decide +kernel
theorem bad_ne {m : Nat} {d e : PyData} (h : RowOk m d) (hb : RowBad m e) : PyData.eqv e d = false := by
  obtain ⟨s, a, b, c, f, rfl, ha, hb1, hc, hf⟩ := h
  obtain ⟨s2, a2, b2, c2, f2, rfl, hbad⟩ := hb
  cases q : PyData.eqv (.tuple [.bool s2, .int a2, .int b2, .int c2, .int f2]) (.tuple [.bool s, .int a, .int b, .int c, .int f]) with
  | false => rfl
  | true =>
    simp only [PyData.eqv, PyData.eqvAll, Bool.and_eq_true, beq_iff_eq] at q
    obtain ⟨_, rfl, rfl, rfl, rfl, _⟩ := q
    exact absurd ⟨ha, hb1, hc, hf⟩ hbad
theorem ne_rows {d e : PyData} (hd : Cheap d) : neT (.d e) (.d d) = some (.d (.bool (!PyData.eqv e d))) := by
  show (if shal e || shal d then _ else _) = _
  rw [if_pos (by
    have : shal d = true := by simp only [shal, decide_eq_true_eq]; have := hd.2; omega
    rw [this, Bool.or_true])]
/-- rows some of which are bad -/
structure Mix (rows rs : List PyData) (lo : Nat) : Prop where
  len : rs.length = rows.length
  mix : ∀ (i : Nat) (d e : PyData), rows[i]? = some d → rs[i]? = some e → e = d ∨ (lo ≤ i ∧ RowBad rows.length e)
  chp : ∀ d ∈ rs, Cheap d
abbrev planD (ev lo : Int) (rows : List PyData) : PyData := .tuple [.int ev, .int lo, .list rows]
theorem right_ok {n : Nat} {p0 p1 p2 : Int} {Q : T → List (Option T) → Prop} {X : XR} (hp : Pu n p0 p1 p2) (hn : n + 20000 < 1000000000)
    (k : ∀ q0 q1 q2, Pu (n + 20000) q0 q1 q2 → Q (.d (.bool true)) [some (pT q0 q1 q2)]) : OkR (f_law_right [pT p0 p1 p2]) Q X := by
  unfold f_law_right m_law_right
  simp! only []
  refine coin_ok hp (by omega) (by decide) (by decide) fun r u0 u1 u2 r0 r1 hu => ?_
  simp! only []
  refine ix_any r0 (by simpa using r1) rfl fun t ht => ?_
  obtain ⟨a, b, c, rfl, a1, a2, b1, b2, c1, c2⟩ : ∃ a b c : Int, t = T.d (.tuple [.int a, .int b, .int c]) ∧ 0 < a ∧ a ≤ 40 ∧ 0 < b ∧ b < 100 ∧ 0 ≤ c ∧ c < 100 := by
    simp only [List.mem_cons, List.not_mem_nil, or_false] at ht
    rcases ht with rfl | rfl <;> exact ⟨_, _, _, rfl, by decide, by decide, by decide, by decide, by decide, by decide⟩
  simp! only []
  refine drawn_ok hu (by omega) a1 a2 b1 (by omega) c1 (by omega) fun v0 v1 v2 ev lo rows hv hev hev2 hlo hlo2 hr1 hr2 hro => ?_
  have hsh : T.share (.tp [.d (.int ev), .d (.int lo), .ol (rows.map T.d)]) = some (.d (planD ev lo rows)) := by
    rw [v_shTp, v_toFsC, v_toFsC, v_toFsC, v_toFsN, v_toFl, v_toFs]; rfl
  have f0 := (state_fit (v := 0) (by decide)).repr (t := .d (.tuple [.str "state", .int 0])) rfl
  have hch : ∀ d ∈ rows, Cheap d := fun d hd => (hro d hd).cheap (by omega)
  simp! only [hsh]
  refine coin_ok hv (by omega) (by decide) (by decide) fun r u0 u1 u2 l0 l1 hu => ?_
  simp! only []
  refine refused_0 (.inl rfl) hev hlo fun o0 o1 o2 o3 => ?_
  simp! only [f0]
  refine m_seq (fun ρ => ∃ (rs : List PyData) (c0 c1 c2 : Int), Mix rows rs 0 ∧ Pu (n + 2000) c0 c1 c2 ∧ ρ = [some (pT c0 c1 c2, true), some (.d (planD ev lo rows), false), some (.ol (rs.map T.d), false), some (.d (.int rows.length), false), none, none, none, none, none]) ?_ ?_
  · refine w_for (fun ds ts ρ => ∃ z : Int, z ≤ 3 ∧ ds ++ ts = rangeT 0 z ∧ ∃ (rs : List PyData) (c0 c1 c2 : Int), Mix rows rs 0 ∧ Pu (n + 1500 + 100 * ds.length) c0 c1 c2 ∧ ρ = [some (pT c0 c1 c2, true), some (.d (planD ev lo rows), false), some (.ol (rs.map T.d), false), some (.d (.int rows.length), false), none, none, none, none, none]) ?_ ?_ ?_
    · simp! only []
      refine coin_ok hu (by omega) (by decide) (by decide) fun r1 w0 w1 w2 m0 m1 hw => ?_
      simp! only []
      refine ⟨_, by omega, rfl, rows, w0, w1, w2, ⟨rfl, fun i d e h1 h2 => .inl ?_, hch⟩, hw.mono (by omega), rfl⟩
      rw [h1] at h2; cases h2; rfl
    · rintro ds t ts ρ ⟨z, hz, h1, rs, c0, c1, c2, hmx, hcp, rfl⟩
      have hl : ds.length < 3 := by
        have := congrArg List.length h1
        rw [rg_len, List.length_append, List.length_cons] at this
        omega
      have ht := rg_get h1
      subst ht
      simp! only []
      refine coin_ok hcp (by omega) (by omega) (by omega) fun r1 w0 w1 w2 m0 m1 hw => ?_
      obtain ⟨j, rfl⟩ := Int.eq_ofNat_of_zero_le m0
      have hj : j < rows.length := by omega
      have hj2 : j < rs.length := by rw [hmx.len]; exact hj
      have e1 : ixT (.d (.list rows)) (.d (.int (j : Int))) = some (.d rows[j]) := ix_lst (List.getElem?_eq_getElem hj)
      have e2 : L2.ixN rs.length (j : Int) = some j := ixN_nat hj2
      simp! only [e1]
      refine wrong_ok hw (by omega) (by omega) (by omega) (by simpa using hro _ (List.getElem_mem hj)) fun d y0 y1 y2 o1 o2 hbd hcd hy => ?_
      simp! only [e2]
      refine ⟨z, hz, by simpa using h1, rs.set j d, y0, y1, y2, ⟨by rw [List.length_set]; exact hmx.len, fun i x y hx hy => ?_, fun x hx => ?_⟩, hy.mono (by simp; omega), by rw [← List.map_set]⟩
      · by_cases hij : j = i
        · subst hij
          rw [List.getElem?_set_self hj2] at hy
          cases hy
          exact .inr ⟨Nat.zero_le _, by simpa using hbd⟩
        · rw [List.getElem?_set_ne hij] at hy
          exact hmx.mix i x y hx hy
      · rcases List.mem_or_eq_of_mem_set hx with hx | rfl
        · exact hmx.chp x hx
        · exact hcd
    · rintro ds ρ ⟨z, hz, h1, rs, c0, c1, c2, hmx, hcp, rfl⟩
      have hl : ds.length ≤ 3 := by
        have := congrArg List.length h1
        rw [rg_len, List.append_nil] at this
        omega
      simp! only []
      exact ⟨rs, c0, c1, c2, hmx, hcp.mono (by omega), rfl⟩
  rintro _ ⟨rs, c0, c1, c2, hmx, hcp, rfl⟩
  simp! only []
  refine m_seq (fun ρ => ∃ (d0 d1 d2 : Int) (rs : List PyData), Mix rows rs rows.length ∧ Pu (n + 3000) d0 d1 d2 ∧ ρ = [some (pT d0 d1 d2, true), some (.d (planD ev lo rows), false), some (.ol (rs.map T.d), false), some (.d (.int rows.length), false), none, none, none, none, none]) ?_ ?_
  · refine w_forN 0 rows.length (fun j ρ => ∃ (rs : List PyData) (d0 d1 d2 : Int), Mix rows rs j ∧ Pu (n + 2000 + j) d0 d1 d2 ∧ ρ = [some (pT d0 d1 d2, true), some (.d (planD ev lo rows), false), some (.ol (rs.map T.d), false), some (.d (.int rows.length), false), none, none, none, none, none]) ?_ ?_ ?_
    · simp! only []
      exact ⟨rs, c0, c1, c2, hmx, hcp, rfl⟩
    · clear hmx hcp rs
      rintro j ρ hj ⟨rs, d0, d1, d2, hmx, hd, rfl⟩
      rw [Int.zero_add]
      have hj : j < rows.length := by omega
      have hj2 : j < rs.length := by rw [hmx.len]; exact hj
      have e1 : ixT (.d (.list rows)) (.d (.int (j : Int))) = some (.d rows[j]) := ix_lst (List.getElem?_eq_getElem hj)
      have e3 : ixT (.ol (rs.map T.d)) (.d (.int (j : Int))) = some (.d rs[j]) := ix_ol (by rw [List.getElem?_map, List.getElem?_eq_getElem hj2]; rfl) rfl
      have e2 : L2.ixN rs.length (j : Int) = some j := ixN_nat hj2
      have hcj := hch _ (List.getElem_mem hj)
      have keep : ∀ rs' : List PyData, rs'.length = rs.length → (∀ i, i ≠ j → rs'[i]? = rs[i]?) → rs'[j]? = some rows[j] → Mix rows rs' (j + 1) := fun rs' q1 q2 q3 => by
        refine ⟨by rw [q1]; exact hmx.len, fun i x y hx hy => ?_, fun x hx => ?_⟩
        · by_cases hij : i = j
          · subst hij
            rw [q3] at hy; cases hy
            rw [List.getElem?_eq_getElem hj] at hx; cases hx
            exact .inl rfl
          · rw [q2 i hij] at hy
            rcases hmx.mix i x y hx hy with h | ⟨h, h'⟩
            · exact .inl h
            · exact .inr ⟨by omega, h'⟩
        · obtain ⟨i, hi⟩ := List.mem_iff_getElem?.mp hx
          by_cases hij : i = j
          · subst hij
            rw [q3] at hi; cases hi
            exact hcj
          · rw [q2 i hij] at hi
            exact hmx.chp x (List.mem_of_getElem? hi)
      simp! only [e1, e3, ne_rows hcj]
      refine w_if2 (fun hne => ?_) (fun heq => ?_)
      · have hbad : RowBad rows.length rs[j] := by
          rcases hmx.mix j _ _ (List.getElem?_eq_getElem hj) (List.getElem?_eq_getElem hj2) with h | ⟨_, h⟩
          · rw [h, eqv_cost _ (by have := hcj.1; omega)] at hne; cases hne
          · exact h
        simp! only [v_allD]
        refine coin_ok hd (by omega) (by decide) (by decide) fun r1 w0 w1 w2 m0 m1 hw => ?_
        have f1 := (state_fit (v := (j : Int)) (by omega)).repr (t := .d (.tuple [.str "state", .int (j : Int)])) rfl
        have f2 := (cheap_fit hmx.chp (by rw [hmx.len]; omega)).repr (toD_map rs)
        simp! only []
        refine m_seq (fun ρ => ρ = [some (pT w0 w1 w2, true), some (.d (planD ev lo rows), false), some (.ol (rs.map T.d), false), some (.d (.int rows.length), false), none, some (.d (.int j), false), some (.ol (rs.map T.d), false), some (.d (.bool (decide (r1 = 0))), false), none]) ?_ ?_
        · refine w_forN 0 2 (fun _ ρ => ρ = [some (pT w0 w1 w2, true), some (.d (planD ev lo rows), false), some (.ol (rs.map T.d), false), some (.d (.int rows.length), false), none, some (.d (.int j), false), some (.ol (rs.map T.d), false), some (.d (.bool (decide (r1 = 0))), false), none]) ?_ ?_ ?_
          · simp! only []
          · rintro i ρ hi rfl
            simp! only []
            refine refused_N (.inr (.inr rfl)) hev hlo (List.getElem?_eq_getElem hj2) (by rw [hmx.len]; exact hbad) (fun i x hi hx => ?_) fun o0 o1 o2 o3 => ?_
            · have hi2 : i < rows.length := by omega
              rcases hmx.mix i _ x (List.getElem?_eq_getElem hi2) hx with h | ⟨h, _⟩
              · rw [h, hmx.len]; exact hro _ (List.getElem_mem hi2)
              · omega
            · simp! only [f1]
          · rintro ρ rfl
            simp! only []
        rintro _ rfl
        simp! only [f2, e1, e2]
        refine ⟨rs.set j rows[j], w0, w1, w2, keep (rs.set j rows[j]) (by rw [List.length_set]) (fun i hij => List.getElem?_set_ne (Ne.symm hij)) (List.getElem?_set_self hj2), hw.mono (by omega), by rw [← List.map_set]⟩
      · have hsame : rs[j] = rows[j] := by
          rcases hmx.mix j _ _ (List.getElem?_eq_getElem hj) (List.getElem?_eq_getElem hj2) with h | ⟨_, h⟩
          · exact h
          · rw [bad_ne (hro _ (List.getElem_mem hj)) h] at heq; cases heq
        simp! only []
        exact ⟨rs, d0, d1, d2, keep rs rfl (fun _ _ => rfl) (by rw [List.getElem?_eq_getElem hj2, hsame]), hd.mono (by omega), rfl⟩
    · rintro ρ ⟨rs, d0, d1, d2, hmx, hd, rfl⟩
      simp! only []
      exact ⟨d0, d1, d2, rs, by simpa using hmx, hd.mono (by omega), rfl⟩
  clear hmx hcp rs
  rintro _ ⟨d0, d1, d2, rs, hmx, hd, rfl⟩
  have hsame : rs = rows := by
    refine List.ext_getElem? fun i => ?_
    by_cases hi : i < rows.length
    · have hi2 : i < rs.length := by rw [hmx.len]; exact hi
      rcases hmx.mix i _ _ (List.getElem?_eq_getElem hi) (List.getElem?_eq_getElem hi2) with h | ⟨h, _⟩
      · rw [List.getElem?_eq_getElem hi, List.getElem?_eq_getElem hi2, h]
      · omega
    · rw [List.getElem?_eq_none (l := rs) (by rw [hmx.len]; omega), List.getElem?_eq_none (l := rows) (by omega)]
  subst hsame
  have f4 := (cheap_fit hch (by omega)).repr (toD_map rs)
  have f5 := (cheap_fit hch (by omega)).repr (t := .d (.list rs)) rfl
  simp! only []
  refine coin_ok hd (by omega) (by decide) (by decide) fun r1 w0 w1 w2 m0 m1 hw => ?_
  simp! only []
  refine refused_ok (rows := rs) (.inl rfl) hev hlo hr1 hro fun o0 o1 o2 o3 => ?_
  simp! only [states_eq, f4, f5]
  exact k w0 w1 w2 (hw.mono (by omega))
end Lw

set_option Elab.async false
set_option linter.all false
set_option maxRecDepth 100000
namespace Lw
open FL PySem
local macro_rules | `(tactic| dsimp! only [$xs,*]) => `(tactic| try simp (implicitDefEqProofs := false) only [↓w_ok, w_exc, ↓w_some, w_none, ↓w_obind, ↓w_omap, w_oite, ↓w_bind, w_pure, w_lift, ↓w_brT, ↓w_brF, ↓w_late, ↓w_oV, ↓w_op2, ↓w_op1, ↓w_var, ↓w_move, ↓w_c, ↓w_aNil, ↓w_aCons, ↓w_osNil, ↓w_osCons, ↓w_osApp, ↓w_tup, ↓w_lst, ↓w_bTru, ↓w_bVal, ↓w_bNot, ↓w_bAnd, ↓w_bOr, ↓w_eIf, ↓w_eAnd, ↓w_eOr, ↓w_eNot, ↓w_call, ↓w_chain, ↓w_fun, ↓w_funB, ↓w_sl, ↓w_pNo, ↓w_pAt, ↓w_run, w_nx, w_rt, w_bk, w_ct, w_xc, w_nil, ↓w_kill, ↓w_asg, ↓w_expr, ↓w_ret, ↓w_retN, ↓w_if, andP_T, andP_F, orP_T, orP_F, eIfP_T, eIfP_F, eAndP_T, eAndP_F, eOrP_T, eOrP_F, chP_T, chP_F, ifP_T, ifP_F, sq_R, sq_B, sq_C, sq_X, ty_N, ty_R, ty_B, ty_C, ty_X, wp_N, wp_R, wp_B, wp_C, md_N, md_R, md_B, md_C, md_X, kp_N, kp_R, kp_B, kp_C, kp_X, rn_N, rn_R, rn_B, rn_C, rn_X, tp_N, tp_R, tp_B, tp_C, tp_X, ↓w_setI, ↓w_par2, ↓w_par3, ↓w_raise, ↓w_fld, ↓w_try, ↓w_thru, ↓w_wipe, ↓w_turn, ↓w_eMut, ↓w_m1, ↓w_join, ↓w_jNil, ↓w_jC, ↓w_jF, ↓w_iStr, ↓w_star, ↓w_consOs, ↓w_meth, ↓w_get, ↓w_aug, v_int2, v_instOb, v_instIs, v_slot0, v_slotN, v_slotS, v_resL, v_resR, v_ressN, v_ressC, v_killN, v_killC, v_takeN, v_takeL, v_takeR, v_flag, v_putN, v_putL, v_putR, v_putO, v_outs0, v_outsT, v_outsF, v_outsN, v_start, v_gSlot, v_gTup, v_gsN, v_gsC, v_add, v_sub, v_mul, v_fdiv, v_mod, v_pow, v_lt, v_le, v_gt, v_ge, v_neg, v_boolT, v_truB, v_truI, v_truN, v_truL, v_isN, v_isI, v_notN, v_notI, v_int, v_intB, v_abs, v_max, v_lenL, v_lenD, v_lenT, v_lenS, v_share, v_shareS, v_shareO, v_mkT, ix_ol0, ix_ol1, ix_ol2, ix_t0, ix_t1, ix_t2, v_ixN0, v_ixN1, v_ixN2, v_olOf, v_intOf, w_xv, w_perm, v_pickN, v_pickC, Option.elim_some, v_any, v_mk1, v_mk2, v_mk3, v_mk4, v_mk5, v_mk2o, v_mk3o, v_shOl, v_shTp, v_toDs, v_toDsN, v_toDsC, v_toDd, v_toDl, v_toDt, v_toFs, v_toFsN, v_toFsC, v_toFd, v_toFl, v_toFt, v_shareB, v_itT, v_itP, v_itL, v_itRl, v_itRt, v_itRD, v_itRo, v_itRb, v_it0o, v_it0p, v_it0l, v_it0t, v_itTb, v_unBb, v_unBo, v_unBp, v_unBd, v_borD, v_borO, v_borP, v_borB, v_borI, v_borX, v_borS, v_borM, v_lenB, v_lstB, v_lstO, v_lstD, v_cld, v_clo, v_clp, v_clb, v_cls, v_clsN, v_clsC, v_clsD, v_isLo, v_isLd, v_tbN, v_tbL, v_tbT, v_tbF, v_pbN, v_pbL, v_pbT, v_pbF, v_pbX, v_cbN, v_cbE, v_cbT, v_cbF, v_cbX, enumT_d, v_append, v_insert0, v_dOf, v_statO, v_statB, v_eqNil, v_neNil, v_boolsN, v_boolsC, v_mkOt, v_mkOf, v_frzN, v_frzC, v_mkO2, v_addO, v_addDO, v_addOD, v_stat, v_allD, v_dats, v_datsN, v_datsC, v_addT, v_tupO, v_tupD, v_tupT, v_listO, v_listD, v_listT, v_rg1, v_rg2, v_eqI, v_neI, v_eqS, v_neS, ↓v_iOf, ↓v_iCall, ↓v_iEnum, List.any_cons, List.any_nil, Bool.or_false, Bool.false_or, id, List.isEmpty_cons, List.isEmpty_nil, v_c0, v_c1, v_c2, v_c3, v_c4, v_c5, v_c6, v_c7, v_c8, v_c9, v_c10, Nat.reduceAdd, Int.reduceEq, Int.reduceLT, Int.reduceLE, Int.reduceNe, Nat.reduceLT, Nat.reduceEqDiff, List.length_map, List.length_reverse, List.length_replicate, List.length_set, List.getElem?_cons_zero, List.getElem?_cons_succ, List.set_cons_zero, List.set_cons_succ, Option.join_some, Option.join_none, Option.bind_some, Option.map_some, List.map_cons, List.map_nil, List.length_cons, List.length_nil, List.replicate_succ, List.replicate_zero, List.cons_append, List.nil_append, List.append_nil, Option.some.injEq, List.all_cons, List.all_nil, Bool.true_and, Bool.and_true, Bool.and_self, eq_self, decide_true, decide_false, Bool.not_true, Bool.not_false, List.tail_cons, v_starO, v_starD, v_starT, w_prop, v_isiO, ↓ap_c_law_purse_1, ↓ap_c_law_coin_1, ↓ap_c_law_coin_2, ↓ap_c_law_coin_3, ↓ap_b_law_drawn_rule_2, ↓ap_c_law_drawn_rule_2, ↓ap_b_first_loose_2, ↓ap_c_law_refused_1, ↓ap_c_law_refused_2, ↓ap_c_law_wrong_row_1, ↓ap_c_law_wrong_row_2, ↓ap_b_law_wrong_row_1, ↓ap_c_law_right_1, ↓ap_c_law_right_2, ↓ap_b_law_right_1, ↓ap_c_law_right_4, ↓ap_c_law_right_6, ↓ap_c_law_right_8, ↓ap_b_law_1, ↓ap_b_law_2, $xs,*])
local macro_rules | `(tactic| simp! only [$xs,*]) => `(tactic| ((try simp (implicitDefEqProofs := false) only [↓w_ok, w_exc, ↓w_some, w_none, ↓w_obind, ↓w_omap, w_oite, ↓w_bind, w_pure, w_lift, ↓w_brT, ↓w_brF, ↓w_late, ↓w_oV, ↓w_op2, ↓w_op1, ↓w_var, ↓w_move, ↓w_c, ↓w_aNil, ↓w_aCons, ↓w_osNil, ↓w_osCons, ↓w_osApp, ↓w_tup, ↓w_lst, ↓w_bTru, ↓w_bVal, ↓w_bNot, ↓w_bAnd, ↓w_bOr, ↓w_eIf, ↓w_eAnd, ↓w_eOr, ↓w_eNot, ↓w_call, ↓w_chain, ↓w_fun, ↓w_funB, ↓w_sl, ↓w_pNo, ↓w_pAt, ↓w_run, w_nx, w_rt, w_bk, w_ct, w_xc, ↓w_seq, w_nil, ↓w_kill, ↓w_asg, ↓w_expr, ↓w_ret, ↓w_retN, ↓w_if, andP_T, andP_F, orP_T, orP_F, eIfP_T, eIfP_F, eAndP_T, eAndP_F, eOrP_T, eOrP_F, chP_T, chP_F, ifP_T, ifP_F, sq_R, sq_B, sq_C, sq_X, ty_N, ty_R, ty_B, ty_C, ty_X, wp_N, wp_R, wp_B, wp_C, md_N, md_R, md_B, md_C, md_X, kp_N, kp_R, kp_B, kp_C, kp_X, rn_N, rn_R, rn_B, rn_C, rn_X, tp_N, tp_R, tp_B, tp_C, tp_X, ↓w_setI, ↓w_par2, ↓w_par3, ↓w_raise, ↓w_fld, ↓w_try, ↓w_thru, ↓w_wipe, ↓w_turn, ↓w_eMut, ↓w_m1, ↓w_join, ↓w_jNil, ↓w_jC, ↓w_jF, ↓w_iStr, ↓w_star, ↓w_consOs, ↓w_meth, ↓w_get, ↓w_aug, v_int2, v_instOb, v_instIs, v_slot0, v_slotN, v_slotS, v_resL, v_resR, v_ressN, v_ressC, v_killN, v_killC, v_takeN, v_takeL, v_takeR, v_flag, v_putN, v_putL, v_putR, v_putO, v_outs0, v_outsT, v_outsF, v_outsN, v_start, v_gSlot, v_gTup, v_gsN, v_gsC, v_add, v_sub, v_mul, v_fdiv, v_mod, v_pow, v_lt, v_le, v_gt, v_ge, v_neg, v_boolT, v_truB, v_truI, v_truN, v_truL, v_isN, v_isI, v_notN, v_notI, v_int, v_intB, v_abs, v_max, v_lenL, v_lenD, v_lenT, v_lenS, v_share, v_shareS, v_shareO, v_mkT, ix_ol0, ix_ol1, ix_ol2, ix_t0, ix_t1, ix_t2, v_ixN0, v_ixN1, v_ixN2, v_olOf, v_intOf, w_xv, w_perm, v_pickN, v_pickC, Option.elim_some, v_any, v_mk1, v_mk2, v_mk3, v_mk4, v_mk5, v_mk2o, v_mk3o, v_shOl, v_shTp, v_toDs, v_toDsN, v_toDsC, v_toDd, v_toDl, v_toDt, v_toFs, v_toFsN, v_toFsC, v_toFd, v_toFl, v_toFt, v_shareB, v_itT, v_itP, v_itL, v_itRl, v_itRt, v_itRD, v_itRo, v_itRb, v_it0o, v_it0p, v_it0l, v_it0t, v_itTb, v_unBb, v_unBo, v_unBp, v_unBd, v_borD, v_borO, v_borP, v_borB, v_borI, v_borX, v_borS, v_borM, v_lenB, v_lstB, v_lstO, v_lstD, v_cld, v_clo, v_clp, v_clb, v_cls, v_clsN, v_clsC, v_clsD, v_isLo, v_isLd, v_tbN, v_tbL, v_tbT, v_tbF, v_pbN, v_pbL, v_pbT, v_pbF, v_pbX, v_cbN, v_cbE, v_cbT, v_cbF, v_cbX, enumT_d, v_append, v_insert0, v_dOf, v_statO, v_statB, v_eqNil, v_neNil, v_boolsN, v_boolsC, v_mkOt, v_mkOf, v_frzN, v_frzC, v_mkO2, v_addO, v_addDO, v_addOD, v_stat, v_allD, v_dats, v_datsN, v_datsC, v_addT, v_tupO, v_tupD, v_tupT, v_listO, v_listD, v_listT, v_rg1, v_rg2, v_eqI, v_neI, v_eqS, v_neS, ↓v_iOf, ↓v_iCall, ↓v_iEnum, List.any_cons, List.any_nil, Bool.or_false, Bool.false_or, id, List.isEmpty_cons, List.isEmpty_nil, v_c0, v_c1, v_c2, v_c3, v_c4, v_c5, v_c6, v_c7, v_c8, v_c9, v_c10, Nat.reduceAdd, Int.reduceEq, Int.reduceLT, Int.reduceLE, Int.reduceNe, Nat.reduceLT, Nat.reduceEqDiff, List.length_map, List.length_reverse, List.length_replicate, List.length_set, List.getElem?_cons_zero, List.getElem?_cons_succ, List.set_cons_zero, List.set_cons_succ, Option.join_some, Option.join_none, Option.bind_some, Option.map_some, List.map_cons, List.map_nil, List.length_cons, List.length_nil, List.replicate_succ, List.replicate_zero, List.cons_append, List.nil_append, List.append_nil, Option.some.injEq, List.all_cons, List.all_nil, Bool.true_and, Bool.and_true, Bool.and_self, eq_self, decide_true, decide_false, Bool.not_true, Bool.not_false, List.tail_cons, v_starO, v_starD, v_starT, w_prop, v_isiO, ↓ap_c_law_purse_1, ↓ap_c_law_coin_1, ↓ap_c_law_coin_2, ↓ap_c_law_coin_3, ↓ap_b_law_drawn_rule_2, ↓ap_c_law_drawn_rule_2, ↓ap_b_first_loose_2, ↓ap_c_law_refused_1, ↓ap_c_law_refused_2, ↓ap_c_law_wrong_row_1, ↓ap_c_law_wrong_row_2, ↓ap_b_law_wrong_row_1, ↓ap_c_law_right_1, ↓ap_c_law_right_2, ↓ap_b_law_right_1, ↓ap_c_law_right_4, ↓ap_c_law_right_6, ↓ap_c_law_right_8, ↓ap_b_law_1, ↓ap_b_law_2, $xs,*]); (repeat ((first | (with_reducible refine sqN ?_) | ((with_reducible refine And.intro ?_ ?_); first | (with_reducible exact True.intro) | ((with_reducible refine v_small ?_); omega) | ((with_reducible refine v_big ?_ ?_) <;> omega) | (with_reducible exact ⟨True.intro, by decide⟩))); try simp (implicitDefEqProofs := false) only [↓w_ok, w_exc, ↓w_some, w_none, ↓w_obind, ↓w_omap, w_oite, ↓w_bind, w_pure, w_lift, ↓w_brT, ↓w_brF, ↓w_late, ↓w_oV, ↓w_op2, ↓w_op1, ↓w_var, ↓w_move, ↓w_c, ↓w_aNil, ↓w_aCons, ↓w_osNil, ↓w_osCons, ↓w_osApp, ↓w_tup, ↓w_lst, ↓w_bTru, ↓w_bVal, ↓w_bNot, ↓w_bAnd, ↓w_bOr, ↓w_eIf, ↓w_eAnd, ↓w_eOr, ↓w_eNot, ↓w_call, ↓w_chain, ↓w_fun, ↓w_funB, ↓w_sl, ↓w_pNo, ↓w_pAt, ↓w_run, w_nx, w_rt, w_bk, w_ct, w_xc, ↓w_seq, w_nil, ↓w_kill, ↓w_asg, ↓w_expr, ↓w_ret, ↓w_retN, ↓w_if, andP_T, andP_F, orP_T, orP_F, eIfP_T, eIfP_F, eAndP_T, eAndP_F, eOrP_T, eOrP_F, chP_T, chP_F, ifP_T, ifP_F, sq_R, sq_B, sq_C, sq_X, ty_N, ty_R, ty_B, ty_C, ty_X, wp_N, wp_R, wp_B, wp_C, md_N, md_R, md_B, md_C, md_X, kp_N, kp_R, kp_B, kp_C, kp_X, rn_N, rn_R, rn_B, rn_C, rn_X, tp_N, tp_R, tp_B, tp_C, tp_X, ↓w_setI, ↓w_par2, ↓w_par3, ↓w_raise, ↓w_fld, ↓w_try, ↓w_thru, ↓w_wipe, ↓w_turn, ↓w_eMut, ↓w_m1, ↓w_join, ↓w_jNil, ↓w_jC, ↓w_jF, ↓w_iStr, ↓w_star, ↓w_consOs, ↓w_meth, ↓w_get, ↓w_aug, v_int2, v_instOb, v_instIs, v_slot0, v_slotN, v_slotS, v_resL, v_resR, v_ressN, v_ressC, v_killN, v_killC, v_takeN, v_takeL, v_takeR, v_flag, v_putN, v_putL, v_putR, v_putO, v_outs0, v_outsT, v_outsF, v_outsN, v_start, v_gSlot, v_gTup, v_gsN, v_gsC, v_add, v_sub, v_mul, v_fdiv, v_mod, v_pow, v_lt, v_le, v_gt, v_ge, v_neg, v_boolT, v_truB, v_truI, v_truN, v_truL, v_isN, v_isI, v_notN, v_notI, v_int, v_intB, v_abs, v_max, v_lenL, v_lenD, v_lenT, v_lenS, v_share, v_shareS, v_shareO, v_mkT, ix_ol0, ix_ol1, ix_ol2, ix_t0, ix_t1, ix_t2, v_ixN0, v_ixN1, v_ixN2, v_olOf, v_intOf, w_xv, w_perm, v_pickN, v_pickC, Option.elim_some, v_any, v_mk1, v_mk2, v_mk3, v_mk4, v_mk5, v_mk2o, v_mk3o, v_shOl, v_shTp, v_toDs, v_toDsN, v_toDsC, v_toDd, v_toDl, v_toDt, v_toFs, v_toFsN, v_toFsC, v_toFd, v_toFl, v_toFt, v_shareB, v_itT, v_itP, v_itL, v_itRl, v_itRt, v_itRD, v_itRo, v_itRb, v_it0o, v_it0p, v_it0l, v_it0t, v_itTb, v_unBb, v_unBo, v_unBp, v_unBd, v_borD, v_borO, v_borP, v_borB, v_borI, v_borX, v_borS, v_borM, v_lenB, v_lstB, v_lstO, v_lstD, v_cld, v_clo, v_clp, v_clb, v_cls, v_clsN, v_clsC, v_clsD, v_isLo, v_isLd, v_tbN, v_tbL, v_tbT, v_tbF, v_pbN, v_pbL, v_pbT, v_pbF, v_pbX, v_cbN, v_cbE, v_cbT, v_cbF, v_cbX, enumT_d, v_append, v_insert0, v_dOf, v_statO, v_statB, v_eqNil, v_neNil, v_boolsN, v_boolsC, v_mkOt, v_mkOf, v_frzN, v_frzC, v_mkO2, v_addO, v_addDO, v_addOD, v_stat, v_allD, v_dats, v_datsN, v_datsC, v_addT, v_tupO, v_tupD, v_tupT, v_listO, v_listD, v_listT, v_rg1, v_rg2, v_eqI, v_neI, v_eqS, v_neS, ↓v_iOf, ↓v_iCall, ↓v_iEnum, List.any_cons, List.any_nil, Bool.or_false, Bool.false_or, id, List.isEmpty_cons, List.isEmpty_nil, v_c0, v_c1, v_c2, v_c3, v_c4, v_c5, v_c6, v_c7, v_c8, v_c9, v_c10, Nat.reduceAdd, Int.reduceEq, Int.reduceLT, Int.reduceLE, Int.reduceNe, Nat.reduceLT, Nat.reduceEqDiff, List.length_map, List.length_reverse, List.length_replicate, List.length_set, List.getElem?_cons_zero, List.getElem?_cons_succ, List.set_cons_zero, List.set_cons_succ, Option.join_some, Option.join_none, Option.bind_some, Option.map_some, List.map_cons, List.map_nil, List.length_cons, List.length_nil, List.replicate_succ, List.replicate_zero, List.cons_append, List.nil_append, List.append_nil, Option.some.injEq, List.all_cons, List.all_nil, Bool.true_and, Bool.and_true, Bool.and_self, eq_self, decide_true, decide_false, Bool.not_true, Bool.not_false, List.tail_cons, v_starO, v_starD, v_starT, w_prop, v_isiO, ↓ap_c_law_purse_1, ↓ap_c_law_coin_1, ↓ap_c_law_coin_2, ↓ap_c_law_coin_3, ↓ap_b_law_drawn_rule_2, ↓ap_c_law_drawn_rule_2, ↓ap_b_first_loose_2, ↓ap_c_law_refused_1, ↓ap_c_law_refused_2, ↓ap_c_law_wrong_row_1, ↓ap_c_law_wrong_row_2, ↓ap_b_law_wrong_row_1, ↓ap_c_law_right_1, ↓ap_c_law_right_2, ↓ap_b_law_right_1, ↓ap_c_law_right_4, ↓ap_c_law_right_6, ↓ap_c_law_right_8, ↓ap_b_law_1, ↓ap_b_law_2, $xs,*])); (try (have hfin := True.intro; clear hfin))))
local macro_rules | `(tactic| simp_all! only [$xs,*]) => `(tactic| ((try simp (implicitDefEqProofs := false) only [↓w_ok, w_exc, ↓w_some, w_none, ↓w_obind, ↓w_omap, w_oite, ↓w_bind, w_pure, w_lift, ↓w_brT, ↓w_brF, ↓w_late, ↓w_oV, ↓w_op2, ↓w_op1, ↓w_var, ↓w_move, ↓w_c, ↓w_aNil, ↓w_aCons, ↓w_osNil, ↓w_osCons, ↓w_osApp, ↓w_tup, ↓w_lst, ↓w_bTru, ↓w_bVal, ↓w_bNot, ↓w_bAnd, ↓w_bOr, ↓w_eIf, ↓w_eAnd, ↓w_eOr, ↓w_eNot, ↓w_call, ↓w_chain, ↓w_fun, ↓w_funB, ↓w_sl, ↓w_pNo, ↓w_pAt, ↓w_run, w_nx, w_rt, w_bk, w_ct, w_xc, ↓w_seq, w_nil, ↓w_kill, ↓w_asg, ↓w_expr, ↓w_ret, ↓w_retN, ↓w_if, andP_T, andP_F, orP_T, orP_F, eIfP_T, eIfP_F, eAndP_T, eAndP_F, eOrP_T, eOrP_F, chP_T, chP_F, ifP_T, ifP_F, sq_R, sq_B, sq_C, sq_X, ty_N, ty_R, ty_B, ty_C, ty_X, wp_N, wp_R, wp_B, wp_C, md_N, md_R, md_B, md_C, md_X, kp_N, kp_R, kp_B, kp_C, kp_X, rn_N, rn_R, rn_B, rn_C, rn_X, tp_N, tp_R, tp_B, tp_C, tp_X, ↓w_setI, ↓w_par2, ↓w_par3, ↓w_raise, ↓w_fld, ↓w_try, ↓w_thru, ↓w_wipe, ↓w_turn, ↓w_eMut, ↓w_m1, ↓w_join, ↓w_jNil, ↓w_jC, ↓w_jF, ↓w_iStr, ↓w_star, ↓w_consOs, ↓w_meth, ↓w_get, ↓w_aug, v_int2, v_instOb, v_instIs, v_slot0, v_slotN, v_slotS, v_resL, v_resR, v_ressN, v_ressC, v_killN, v_killC, v_takeN, v_takeL, v_takeR, v_flag, v_putN, v_putL, v_putR, v_putO, v_outs0, v_outsT, v_outsF, v_outsN, v_start, v_gSlot, v_gTup, v_gsN, v_gsC, v_add, v_sub, v_mul, v_fdiv, v_mod, v_pow, v_lt, v_le, v_gt, v_ge, v_neg, v_boolT, v_truB, v_truI, v_truN, v_truL, v_isN, v_isI, v_notN, v_notI, v_int, v_intB, v_abs, v_max, v_lenL, v_lenD, v_lenT, v_lenS, v_share, v_shareS, v_shareO, v_mkT, ix_ol0, ix_ol1, ix_ol2, ix_t0, ix_t1, ix_t2, v_ixN0, v_ixN1, v_ixN2, v_olOf, v_intOf, w_xv, w_perm, v_pickN, v_pickC, Option.elim_some, v_any, v_mk1, v_mk2, v_mk3, v_mk4, v_mk5, v_mk2o, v_mk3o, v_shOl, v_shTp, v_toDs, v_toDsN, v_toDsC, v_toDd, v_toDl, v_toDt, v_toFs, v_toFsN, v_toFsC, v_toFd, v_toFl, v_toFt, v_shareB, v_itT, v_itP, v_itL, v_itRl, v_itRt, v_itRD, v_itRo, v_itRb, v_it0o, v_it0p, v_it0l, v_it0t, v_itTb, v_unBb, v_unBo, v_unBp, v_unBd, v_borD, v_borO, v_borP, v_borB, v_borI, v_borX, v_borS, v_borM, v_lenB, v_lstB, v_lstO, v_lstD, v_cld, v_clo, v_clp, v_clb, v_cls, v_clsN, v_clsC, v_clsD, v_isLo, v_isLd, v_tbN, v_tbL, v_tbT, v_tbF, v_pbN, v_pbL, v_pbT, v_pbF, v_pbX, v_cbN, v_cbE, v_cbT, v_cbF, v_cbX, enumT_d, v_append, v_insert0, v_dOf, v_statO, v_statB, v_eqNil, v_neNil, v_boolsN, v_boolsC, v_mkOt, v_mkOf, v_frzN, v_frzC, v_mkO2, v_addO, v_addDO, v_addOD, v_stat, v_allD, v_dats, v_datsN, v_datsC, v_addT, v_tupO, v_tupD, v_tupT, v_listO, v_listD, v_listT, v_rg1, v_rg2, v_eqI, v_neI, v_eqS, v_neS, ↓v_iOf, ↓v_iCall, ↓v_iEnum, List.any_cons, List.any_nil, Bool.or_false, Bool.false_or, id, List.isEmpty_cons, List.isEmpty_nil, v_c0, v_c1, v_c2, v_c3, v_c4, v_c5, v_c6, v_c7, v_c8, v_c9, v_c10, Nat.reduceAdd, Int.reduceEq, Int.reduceLT, Int.reduceLE, Int.reduceNe, Nat.reduceLT, Nat.reduceEqDiff, List.length_map, List.length_reverse, List.length_replicate, List.length_set, List.getElem?_cons_zero, List.getElem?_cons_succ, List.set_cons_zero, List.set_cons_succ, Option.join_some, Option.join_none, Option.bind_some, Option.map_some, List.map_cons, List.map_nil, List.length_cons, List.length_nil, List.replicate_succ, List.replicate_zero, List.cons_append, List.nil_append, List.append_nil, Option.some.injEq, List.all_cons, List.all_nil, Bool.true_and, Bool.and_true, Bool.and_self, eq_self, decide_true, decide_false, Bool.not_true, Bool.not_false, List.tail_cons, v_starO, v_starD, v_starT, w_prop, v_isiO, ↓ap_c_law_purse_1, ↓ap_c_law_coin_1, ↓ap_c_law_coin_2, ↓ap_c_law_coin_3, ↓ap_k_law_drawn_rule_1, ↓ap_b_law_drawn_rule_2, ↓ap_c_law_drawn_rule_2, ↓ap_k_first_loose_1, ↓ap_b_first_loose_2, ↓ap_c_law_refused_1, ↓ap_c_law_refused_2, ↓ap_c_law_wrong_row_1, ↓ap_c_law_wrong_row_2, ↓ap_b_law_wrong_row_1, ↓ap_c_law_right_1, ↓ap_c_law_right_2, ↓ap_b_law_right_1, ↓ap_c_law_right_4, ↓ap_c_law_right_6, ↓ap_c_law_right_8, ↓ap_b_law_1, ↓ap_b_law_2, ↓w_eComp, w_cN, w_cC, $xs,*]); (repeat ((first | (with_reducible refine sqN ?_) | ((with_reducible refine And.intro ?_ ?_); first | (with_reducible exact True.intro) | ((with_reducible refine v_small ?_); omega) | ((with_reducible refine v_big ?_ ?_) <;> omega) | (with_reducible exact ⟨True.intro, by decide⟩))); try simp (implicitDefEqProofs := false) only [↓w_ok, w_exc, ↓w_some, w_none, ↓w_obind, ↓w_omap, w_oite, ↓w_bind, w_pure, w_lift, ↓w_brT, ↓w_brF, ↓w_late, ↓w_oV, ↓w_op2, ↓w_op1, ↓w_var, ↓w_move, ↓w_c, ↓w_aNil, ↓w_aCons, ↓w_osNil, ↓w_osCons, ↓w_osApp, ↓w_tup, ↓w_lst, ↓w_bTru, ↓w_bVal, ↓w_bNot, ↓w_bAnd, ↓w_bOr, ↓w_eIf, ↓w_eAnd, ↓w_eOr, ↓w_eNot, ↓w_call, ↓w_chain, ↓w_fun, ↓w_funB, ↓w_sl, ↓w_pNo, ↓w_pAt, ↓w_run, w_nx, w_rt, w_bk, w_ct, w_xc, ↓w_seq, w_nil, ↓w_kill, ↓w_asg, ↓w_expr, ↓w_ret, ↓w_retN, ↓w_if, andP_T, andP_F, orP_T, orP_F, eIfP_T, eIfP_F, eAndP_T, eAndP_F, eOrP_T, eOrP_F, chP_T, chP_F, ifP_T, ifP_F, sq_R, sq_B, sq_C, sq_X, ty_N, ty_R, ty_B, ty_C, ty_X, wp_N, wp_R, wp_B, wp_C, md_N, md_R, md_B, md_C, md_X, kp_N, kp_R, kp_B, kp_C, kp_X, rn_N, rn_R, rn_B, rn_C, rn_X, tp_N, tp_R, tp_B, tp_C, tp_X, ↓w_setI, ↓w_par2, ↓w_par3, ↓w_raise, ↓w_fld, ↓w_try, ↓w_thru, ↓w_wipe, ↓w_turn, ↓w_eMut, ↓w_m1, ↓w_join, ↓w_jNil, ↓w_jC, ↓w_jF, ↓w_iStr, ↓w_star, ↓w_consOs, ↓w_meth, ↓w_get, ↓w_aug, v_int2, v_instOb, v_instIs, v_slot0, v_slotN, v_slotS, v_resL, v_resR, v_ressN, v_ressC, v_killN, v_killC, v_takeN, v_takeL, v_takeR, v_flag, v_putN, v_putL, v_putR, v_putO, v_outs0, v_outsT, v_outsF, v_outsN, v_start, v_gSlot, v_gTup, v_gsN, v_gsC, v_add, v_sub, v_mul, v_fdiv, v_mod, v_pow, v_lt, v_le, v_gt, v_ge, v_neg, v_boolT, v_truB, v_truI, v_truN, v_truL, v_isN, v_isI, v_notN, v_notI, v_int, v_intB, v_abs, v_max, v_lenL, v_lenD, v_lenT, v_lenS, v_share, v_shareS, v_shareO, v_mkT, ix_ol0, ix_ol1, ix_ol2, ix_t0, ix_t1, ix_t2, v_ixN0, v_ixN1, v_ixN2, v_olOf, v_intOf, w_xv, w_perm, v_pickN, v_pickC, Option.elim_some, v_any, v_mk1, v_mk2, v_mk3, v_mk4, v_mk5, v_mk2o, v_mk3o, v_shOl, v_shTp, v_toDs, v_toDsN, v_toDsC, v_toDd, v_toDl, v_toDt, v_toFs, v_toFsN, v_toFsC, v_toFd, v_toFl, v_toFt, v_shareB, v_itT, v_itP, v_itL, v_itRl, v_itRt, v_itRD, v_itRo, v_itRb, v_it0o, v_it0p, v_it0l, v_it0t, v_itTb, v_unBb, v_unBo, v_unBp, v_unBd, v_borD, v_borO, v_borP, v_borB, v_borI, v_borX, v_borS, v_borM, v_lenB, v_lstB, v_lstO, v_lstD, v_cld, v_clo, v_clp, v_clb, v_cls, v_clsN, v_clsC, v_clsD, v_isLo, v_isLd, v_tbN, v_tbL, v_tbT, v_tbF, v_pbN, v_pbL, v_pbT, v_pbF, v_pbX, v_cbN, v_cbE, v_cbT, v_cbF, v_cbX, enumT_d, v_append, v_insert0, v_dOf, v_statO, v_statB, v_eqNil, v_neNil, v_boolsN, v_boolsC, v_mkOt, v_mkOf, v_frzN, v_frzC, v_mkO2, v_addO, v_addDO, v_addOD, v_stat, v_allD, v_dats, v_datsN, v_datsC, v_addT, v_tupO, v_tupD, v_tupT, v_listO, v_listD, v_listT, v_rg1, v_rg2, v_eqI, v_neI, v_eqS, v_neS, ↓v_iOf, ↓v_iCall, ↓v_iEnum, List.any_cons, List.any_nil, Bool.or_false, Bool.false_or, id, List.isEmpty_cons, List.isEmpty_nil, v_c0, v_c1, v_c2, v_c3, v_c4, v_c5, v_c6, v_c7, v_c8, v_c9, v_c10, Nat.reduceAdd, Int.reduceEq, Int.reduceLT, Int.reduceLE, Int.reduceNe, Nat.reduceLT, Nat.reduceEqDiff, List.length_map, List.length_reverse, List.length_replicate, List.length_set, List.getElem?_cons_zero, List.getElem?_cons_succ, List.set_cons_zero, List.set_cons_succ, Option.join_some, Option.join_none, Option.bind_some, Option.map_some, List.map_cons, List.map_nil, List.length_cons, List.length_nil, List.replicate_succ, List.replicate_zero, List.cons_append, List.nil_append, List.append_nil, Option.some.injEq, List.all_cons, List.all_nil, Bool.true_and, Bool.and_true, Bool.and_self, eq_self, decide_true, decide_false, Bool.not_true, Bool.not_false, List.tail_cons, v_starO, v_starD, v_starT, w_prop, v_isiO, ↓ap_c_law_purse_1, ↓ap_c_law_coin_1, ↓ap_c_law_coin_2, ↓ap_c_law_coin_3, ↓ap_k_law_drawn_rule_1, ↓ap_b_law_drawn_rule_2, ↓ap_c_law_drawn_rule_2, ↓ap_k_first_loose_1, ↓ap_b_first_loose_2, ↓ap_c_law_refused_1, ↓ap_c_law_refused_2, ↓ap_c_law_wrong_row_1, ↓ap_c_law_wrong_row_2, ↓ap_b_law_wrong_row_1, ↓ap_c_law_right_1, ↓ap_c_law_right_2, ↓ap_b_law_right_1, ↓ap_c_law_right_4, ↓ap_c_law_right_6, ↓ap_c_law_right_8, ↓ap_b_law_1, ↓ap_b_law_2, ↓w_eComp, w_cN, w_cC, $xs,*])); (try (have hfin := True.intro; clear hfin))))
theorem purse_ok {ns : List Int} {i : Int} {Q : T → List (Option T) → Prop} {X : XR} (h0 : 0 ≤ i) (hi : i < 100) (k : ∀ p0 p1 p2 o1 o2, Pu 0 p0 p1 p2 → Q (pT p0 p1 p2) [o1, o2]) : OkR (f_law_purse [.scr ns, .d (.int i)]) Q X := by
  unfold f_law_purse m_law_purse
  rw [w_run, w_seq]
  refine m_seq (fun ρ => ∃ c : Int, ρ = [some (.scr ns, true), some (.d (.int i), true), some (.d (.int c), false)]) ?_ ?_
  · simp! only []
    refine w_br (fun h => ?_) (fun h => ?_)
    · have h := of_decide_eq_true h
      have hl : i.toNat < ns.length := by omega
      have hx := ix_scr (List.getElem?_eq_getElem hl)
      rw [Int.toNat_of_nonneg h0] at hx
      simp! only [hx]
      exact ⟨_, rfl⟩
    · simp! only []
      exact ⟨_, rfl⟩
  rintro _ ⟨c, rfl⟩
  have e : (10 : Int) ^ Int.toNat 24 + 7 = 1000000000000000000000007 := by decide +kernel
  have b1 : bitsOk 10 18 = true := by decide +kernel
  have m1 : mulOk c 30011 = true := by simp only [mulOk, Bool.or_eq_true, Bool.and_eq_true, decide_eq_true_eq]; omega
  have m2 : mulOk i 7368787 = true := by simp only [mulOk, Bool.or_eq_true, Bool.and_eq_true, decide_eq_true_eq]; omega
  have b2 : bitsOk 10 24 = true := by decide +kernel
  simp! only [e]
  refine ⟨b1, m1, m2, b2, ?_⟩
  simp! only [e]
  refine k _ _ _ _ _ ⟨?_, Int.emod_nonneg _ (by omega), Int.emod_lt_of_pos _ (by omega), Int.le_refl _, Int.le_refl _⟩
  generalize (10 : Int) ^ Int.toNat 18 = z
  split <;> omega
theorem law_true (ns : List Int) (h : ns.length ≤ 63) (hb : ∀ z ∈ ns, Builtin.Int.intBits z ≤ 1048576) : ∃ outs, f_law [.scr ns] = .ok (.d (.bool true)) outs := by
  suffices k : OkR (f_law [.scr ns]) (fun t _ => t = .d (.bool true)) noR from okR_eq k
  unfold f_law m_law
  simp! only []
  refine w_for (fun ds ts ρ => (∃ a b : Int, ds ++ ts = rangeT a b ∧ a = 0 ∧ b ≤ 6) ∧ ρ = [some (.scr ns, true), none, none, none]) ?_ ?_ ?_
  · simp! only [v_min]
    have hz : ∀ (a : Int), a ≤ 6 → (if (if (ns.length : Int) < a then (ns.length : Int) else a) > 1 then (if (ns.length : Int) < a then (ns.length : Int) else a) else 1) ≤ 6 ∧ 0 < (if (if (ns.length : Int) < a then (ns.length : Int) else a) > 1 then (if (ns.length : Int) < a then (ns.length : Int) else a) else 1) := fun a ha => by split <;> split <;> omega
    exact ⟨⟨_, _, rfl, rfl, (hz _ (by decide)).1⟩, trivial⟩
  · rintro ds t ts ρ ⟨⟨a, b, h1, rfl, h2⟩, rfl⟩
    have hl : ds.length < 100 := by
      have := congrArg List.length h1
      rw [rg_len, List.length_append, List.length_cons] at this
      omega
    have ht := rg_get h1
    subst ht
    rw [Int.zero_add] at h1 ⊢
    simp! only []
    refine purse_ok (by omega) (by omega) fun p0 p1 p2 o1 o2 hp => ?_
    simp! only []
    refine w_forN 0 2 (fun i ρ => ∃ q0 q1 q2 o, Pu (20000 * i) q0 q1 q2 ∧ ρ = [some (.scr ns, true), o, some (pT q0 q1 q2, false), none]) ?_ ?_ ?_
    · simp! only []
      exact ⟨p0, p1, p2, _, hp.mono (by omega), rfl⟩
    · rintro i ρ hi ⟨q0, q1, q2, o, hq, rfl⟩
      simp! only []
      refine right_ok hq (by omega) fun r0 r1 r2 hr => ?_
      simp! only []
      exact ⟨r0, r1, r2, _, hr.mono (by omega), rfl⟩
    · rintro ρ ⟨q0, q1, q2, o, hq, rfl⟩
      simp! only []
      exact ⟨⟨0, b, by simpa using h1, rfl, h2⟩, trivial⟩
  · rintro ds ρ ⟨_, rfl⟩
    simp! only []
end Lw

open PySem PySem.W PyProof.Rows
set_option maxRecDepth 100000 in
set_option maxHeartbeats 0 in
theorem PySem.Challenge.cw_oneforall_k03_states_refused_holds : PySem.Challenge.rw_oneforall_k03_states_refused.Holds := by
  w_on
  o_law
  k_head
  (case hw => w_witness2)
  k_fill
  refine FL.walk_fl (l := PySem.Challenge.rw_oneforall_k03_states_refused) (n := 63) (k := 7) (x := "script") (fn := fun _ => Lw.f_law) rfl (by decide) rfl ⟨rfl, by decide, by decide⟩ (fun w h Y => PySem.W.kIn_of Y) ?F ?mth
  case F =>
    intro w mg fa h KX G hmg
    refine' Lw.all_mk KX G hmg ?a_law_purse ?l_law_purse ?c_law_purse ?k_law_purse ?a_law_coin ?l_law_coin ?c_law_coin ?k_law_coin ?a_law_drawn_rule ?l_law_drawn_rule ?c_law_drawn_rule ?k_law_drawn_rule ?a_first_loose ?l_first_loose ?c_first_loose ?k_first_loose ?a_law_refused ?l_law_refused ?c_law_refused ?k_law_refused ?a_law_wrong_row ?l_law_wrong_row ?c_law_wrong_row ?k_law_wrong_row ?a_law_right ?l_law_right ?c_law_right ?k_law_right ?a_law ?l_law ?c_law ?k_law ?a_Rule ?pg_Rule ?hd_Rule ?po_Rule ?sa_Rule ?mk_Rule ?kc_Rule ?no_Rule_kept_every ?no_Rule_kept_losses ?no_Rule_kept_states ?i1_Rule ?i4_Rule ?ic_Rule ?ty_Rule ?i_NoneType_Rule ?i_bool_Rule ?i_int_Rule ?i_str_Rule ?i_list_Rule ?i_tuple_Rule ?i2 ?i3 ?a_Rule_init ?i_Rule_init ?l_Rule_init ?c_Rule_init ?k_Rule_init ?a_Rule_states ?g_Rule_states ?t_Rule_states ?r_Rule_states ?l_Rule_states ?c_Rule_states ?k_Rule_states ?a_StreamError ?x_StreamError ?b_StreamError ?ic_StreamError ?sa_StreamError ?ec_StreamError ?ty_StreamError ?ke_StreamError ?ga_StreamError ?gg_StreamError ?hd_StreamError ?in_StreamError ?no_StreamError ?a_InvalidNumber ?x_InvalidNumber ?b_InvalidNumber ?ic_InvalidNumber ?sa_InvalidNumber ?ec_InvalidNumber ?ty_InvalidNumber ?ke_InvalidNumber ?ga_InvalidNumber ?gg_InvalidNumber ?hd_InvalidNumber ?in_InvalidNumber ?no_InvalidNumber ?a_InvalidState ?x_InvalidState ?b_InvalidState ?ic_InvalidState ?sa_InvalidState ?ec_InvalidState ?ty_InvalidState ?ke_InvalidState ?ga_InvalidState ?gg_InvalidState ?hd_InvalidState ?in_InvalidState ?no_InvalidState ?ti ?l_errIni ?c_errIni ?k_errIni ?xm_StreamError_StreamError ?xm_StreamError_InvalidNumber ?xm_StreamError_InvalidState ?xm_InvalidNumber_StreamError ?xm_InvalidNumber_InvalidNumber ?xm_InvalidNumber_InvalidState ?xm_InvalidState_StreamError ?xm_InvalidState_InvalidNumber ?xm_InvalidState_InvalidState ?z_abs ?z_any ?z_enumerate ?z_int ?z_isinstance ?z_len ?z_list ?z_max ?z_min ?z_range ?z_repr ?z_tuple
    (case a_law_purse => k_is); (case l_law_purse => k_is); (case c_law_purse => k_is); (case k_law_purse => k_is); (case a_law_coin => k_is); (case l_law_coin => k_is)
    (case c_law_coin => k_is); (case k_law_coin => k_is); (case a_law_drawn_rule => k_is); (case l_law_drawn_rule => k_is); (case c_law_drawn_rule => k_is); (case k_law_drawn_rule => k_is)
    (case a_first_loose => k_is); (case l_first_loose => k_is); (case c_first_loose => k_is); (case k_first_loose => k_is); (case a_law_refused => k_is); (case l_law_refused => k_is)
    (case c_law_refused => k_is); (case k_law_refused => k_is); (case a_law_wrong_row => k_is); (case l_law_wrong_row => k_is); (case c_law_wrong_row => k_is); (case k_law_wrong_row => k_is)
    (case a_law_right => k_is); (case l_law_right => k_is); (case c_law_right => k_is); (case k_law_right => k_is); (case a_law => k_is); (case l_law => k_is)
    (case c_law => k_is); (case k_law => k_is); (case a_Rule => k_is); (case pg_Rule => k_is); (case hd_Rule => k_is); (case po_Rule => k_is)
    (case sa_Rule => k_is); (case mk_Rule => k_is); (case kc_Rule => k_is); (case no_Rule_kept_every => k_is); (case no_Rule_kept_losses => k_is); (case no_Rule_kept_states => k_is)
    (case i1_Rule => k_is); (case i4_Rule => k_is); (case ic_Rule => k_is); (case ty_Rule => k_is); (case i_NoneType_Rule => k_is); (case i_bool_Rule => k_is)
    (case i_int_Rule => k_is); (case i_str_Rule => k_is); (case i_list_Rule => k_is); (case i_tuple_Rule => k_is); (case i2 => k_is); (case i3 => k_is)
    (case a_Rule_init => k_is); (case i_Rule_init => k_is); (case l_Rule_init => k_is); (case c_Rule_init => k_is); (case k_Rule_init => k_is); (case a_Rule_states => k_is)
    (case g_Rule_states => k_is); (case t_Rule_states => k_is); (case r_Rule_states => k_is); (case l_Rule_states => k_is); (case c_Rule_states => k_is); (case k_Rule_states => k_is)
    (case a_StreamError => k_is); (case x_StreamError => k_is); (case b_StreamError => rfl); (case ic_StreamError => k_is); (case sa_StreamError => k_is); (case ec_StreamError => k_is)
    (case ty_StreamError => k_is); (case ke_StreamError => k_is); (case ga_StreamError => k_is); (case gg_StreamError => k_is); (case hd_StreamError => k_is); (case in_StreamError => k_is)
    (case no_StreamError => k_is); (case a_InvalidNumber => k_is); (case x_InvalidNumber => k_is); (case b_InvalidNumber => rfl); (case ic_InvalidNumber => k_is); (case sa_InvalidNumber => k_is)
    (case ec_InvalidNumber => k_is); (case ty_InvalidNumber => k_is); (case ke_InvalidNumber => k_is); (case ga_InvalidNumber => k_is); (case gg_InvalidNumber => k_is); (case hd_InvalidNumber => k_is)
    (case in_InvalidNumber => k_is); (case no_InvalidNumber => k_is); (case a_InvalidState => k_is); (case x_InvalidState => k_is); (case b_InvalidState => rfl); (case ic_InvalidState => k_is)
    (case sa_InvalidState => k_is); (case ec_InvalidState => k_is); (case ty_InvalidState => k_is); (case ke_InvalidState => k_is); (case ga_InvalidState => k_is); (case gg_InvalidState => k_is)
    (case hd_InvalidState => k_is); (case in_InvalidState => k_is); (case no_InvalidState => k_is); (case ti => k_is); (case l_errIni => k_is); (case c_errIni => k_is)
    (case k_errIni => k_is); (case xm_StreamError_StreamError => k_is); (case xm_StreamError_InvalidNumber => k_is); (case xm_StreamError_InvalidState => k_is); (case xm_InvalidNumber_StreamError => k_is); (case xm_InvalidNumber_InvalidNumber => k_is)
    (case xm_InvalidNumber_InvalidState => k_is); (case xm_InvalidState_StreamError => k_is); (case xm_InvalidState_InvalidNumber => k_is); (case xm_InvalidState_InvalidState => k_is); (case z_abs => k_is); (case z_any => k_is)
    (case z_enumerate => k_is); (case z_int => k_is); (case z_isinstance => k_is); (case z_len => k_is); (case z_list => k_is); (case z_max => k_is)
    (case z_min => k_is); (case z_range => k_is); (case z_repr => k_is); (case z_tuple => k_is)
  case mth => exact fun w ns hl hb => Lw.law_true ns hl hb

