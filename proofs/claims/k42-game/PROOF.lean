import PyProof.Rows.All
import Wide.All
import OpenK.AllK
import Wide.FinOn
import KE.DataEq
import HandS.ForMost
import HandS.Lambda
import HandS.Deep
import HandS.TupAny
import HandS.Style
import HandS.IsInst
import HandS.Conv
import HandS.SortInts
import HandS.More
import HandS.Evl
import HandS.Iter
import HandS.Defaults
import KE.GoesEnum
import HandS.TupMul
import HandS.SortRule
import KE.KSortTupAny
import KE.KTupSum
import KE.DataMinMax
import HandS.Strs
import HandS.RaiseMore
import HandS.SetBool
import HandS.HeadHook4
import HandS.EndTab
import PySem.Challenge.RW_waryrig_k42_whole_the_game_of_settings_a
import KE.KStateDown
import HandS.Exc
import HandS.WordsExc
import HandS.Head0
import HandS.Head1
import HandS.Head2
import HandS.HeadEnd
import HandS.HeadHook1
import HandS.HeadHook2
import HandS.HeadHook3
import HandS.HeadWalk
import HandS.NestedK
set_option Elab.async false
set_option linter.all false
set_option maxRecDepth 100000
set_option maxHeartbeats 2000000
/-! Data in the place of addresses: a def's names hold data (Da), the objects that change are cells (Cel) of a ghost map (Om); all else of the heap only grows. -/
namespace Dl
open PySem PySem.Spec PyProof.Rows L2

inductive Da where
  | non | bl (b : Bool) | int (i : Int) | str (x : Str) | tup (l : List Da) | lst (l : List Da) | ptr (a : Addr) | tupN (l : List Da) | fdct (kvs : List (Int × Int)) | lam (f c : Addr) (q : Str)
inductive Cel where
  | lst (l : List Da) | dct (kvs : List (Int × Da)) | src | ins (C dx : Addr) (fs : List (Str × Da))
abbrev Om := Addr → Option Cel
def Om.set (w : Om) (p : Addr) (c : Cel) : Om := fun a => if a = p then some c else w a
def Om.del (w : Om) (p : Addr) : Om := fun a => if a = p then none else w a
theorem Om.set_same {w : Om} {p : Addr} {c : Cel} : w.set p c p = some c := if_pos rfl
theorem Om.set_ne {w : Om} {p a : Addr} {c : Cel} (h : a ≠ p) : w.set p c a = w a := if_neg h
theorem Om.del_same {w : Om} {p : Addr} : w.del p p = none := if_pos rfl
theorem Om.del_ne {w : Om} {p a : Addr} (h : a ≠ p) : w.del p a = w a := if_neg h
theorem Om.set_set {w : Om} {p : Addr} {c d : Cel} : (w.set p c).set p d = w.set p d := by
  funext a; unfold Om.set; split <;> rfl
theorem Om.set_del {w : Om} {p : Addr} {c : Cel} (h : w p = none) : (w.set p c).del p = w := by
  funext a
  show (if a = p then none else (if a = p then some c else w a)) = w a
  by_cases e : a = p
  · rw [if_pos e, e, h]
  · rw [if_neg e, if_neg e]
theorem Om.set_self {w : Om} {p : Addr} {c : Cel} (h : w p = some c) : w.set p c = w := by
  funext a; unfold Om.set
  by_cases e : a = p
  · rw [if_pos e, e, h]
  · rw [if_neg e]
/-- the heap without the cells -/
def hid (w : Om) (H : Hp) : Hp := fun a => match w a with
  | none => H a
  | some _ => none
theorem hid_some {w : Om} {H : Hp} {a : Addr} {o : HO} (h : hid w H a = some o) : w a = none ∧ H a = some o := by
  unfold hid at h
  cases e : w a with
  | none => rw [e] at h; exact ⟨rfl, h⟩
  | some c => rw [e] at h; cases h
theorem hid_of {w : Om} {H : Hp} {a : Addr} {o : HO} (h : w a = none) (e : H a = some o) : hid w H a = some o := by
  unfold hid; rw [h]; exact e
/-- no table of code objects -/
abbrev NT (o : HO) : Prop := ∀ ps, o ≠ .tbl ps
abbrev Kp (H H' : Hp) : Prop := ∀ a o, H a = some o → NT o → H' a = some o

abbrev kvI (kvs : List (Int × Int)) : List (Key × V) := kvs.map fun p => (Sum.inl p.1, V.int p.2)
mutual
/-- the value v stands for the datum -/
inductive Dv (K : PySem.W.Frag) (H : Hp) : V → Da → Prop
  | non : Dv K H .non .non
  | bl (b : Bool) : Dv K H (.bl b) (.bl b)
  | int (i : Int) : Dv K H (.int i) (.int i)
  | str (x : Str) : Dv K H (.str x) (.str x)
  | tup {a : Addr} {xs : List V} {ds : List Da} : SqT K H a xs → DvAll K H xs ds → Dv K H (.ref a) (.tup ds)
  | lst {a : Addr} {xs : List V} {ds : List Da} : SqL K H a xs → DvAll K H xs ds → Dv K H (.ref a) (.lst ds)
  | ptr (a : Addr) : Dv K H (.ref a) (.ptr a)
  | tupN {a : Addr} {o : Obj} {xs : List V} {ds : List Da} : H a = some (.frz o (.tup xs)) → o.dict = none → DvAll K H xs ds → Dv K H (.ref a) (.tupN ds)
  | fdct {a : Addr} {o : Obj} {kvs : List (Int × Int)} : H a = some (.frz o (.dK (kvI kvs))) → Dv K H (.ref a) (.fdct kvs)
  | lam {f c : Addr} {q : Str} : H c = some (LamX.CodeO c q) → Dv K H (.ref f) (.lam f c q)
inductive DvAll (K : PySem.W.Frag) (H : Hp) : List V → List Da → Prop
  | nil : DvAll K H [] []
  | cons {v : V} {vs : List V} {d : Da} {ds : List Da} : Dv K H v d → DvAll K H vs ds → DvAll K H (v :: vs) (d :: ds)
end
theorem rd_mono {H H' : Hp} (e : Kp H H') {a : Addr} {u : HO} (nt : NT u) (h : Rd H a u) : Rd H' a u := by
  rcases h with h | ⟨o, h⟩
  · exact .inl (e a _ h nt)
  · exact .inr ⟨o, e a _ h (fun ps z => by cases z)⟩
theorem sqL_mono {K : PySem.W.Frag} {H H' : Hp} (e : Kp H H') {a : Addr} {xs : List V} (h : SqL K H a xs) : SqL K H' a xs := by
  rcases h with h | h
  · exact .inl (rd_mono e (fun ps z => by cases z) h)
  · exact .inr h
theorem sqT_mono {K : PySem.W.Frag} {H H' : Hp} (e : Kp H H') {a : Addr} {xs : List V} (h : SqT K H a xs) : SqT K H' a xs := by
  rcases h with h | h
  · exact .inl (rd_mono e (fun ps z => by cases z) h)
  · exact .inr h
section
variable {K : PySem.W.Frag} {H H' : Hp}
mutual
theorem Dv.mono (e : Kp H H') : ∀ (d : Da) (v : V), Dv K H v d → Dv K H' v d
  | .non, _, h => by cases h; exact .non
  | .bl _, _, h => by cases h; exact .bl _
  | .int _, _, h => by cases h; exact .int _
  | .str _, _, h => by cases h; exact .str _
  | .tup ds, _, h => by
    cases h with
    | tup hs ha => exact .tup (sqT_mono e hs) (DvAll.mono e ds _ ha)
  | .lst ds, _, h => by
    cases h with
    | lst hs ha => exact .lst (sqL_mono e hs) (DvAll.mono e ds _ ha)
  | .ptr _, _, h => by cases h; exact .ptr _
  | .tupN ds, _, h => by
    cases h with
    | tupN hs hd ha => exact .tupN (e _ _ hs (fun ps z => by cases z)) hd (DvAll.mono e ds _ ha)
  | .fdct _, _, h => by
    cases h with
    | fdct hs => exact .fdct (e _ _ hs (fun ps z => by cases z))
  | .lam _ _ _, _, h => by
    cases h with
    | lam hs => exact .lam (e _ _ hs LamX.codeO_ne)
theorem DvAll.mono (e : Kp H H') : ∀ (ds : List Da) (vs : List V), DvAll K H vs ds → DvAll K H' vs ds
  | [], _, h => by cases h; exact .nil
  | d :: ds, _, h => by
    cases h with
    | cons h1 h2 => exact .cons (Dv.mono e d _ h1) (DvAll.mono e ds _ h2)
end
theorem DvAll.length : ∀ {vs : List V} {ds : List Da}, DvAll K H vs ds → vs.length = ds.length
  | _, _, .nil => rfl
  | _, _, .cons _ t => congrArg Nat.succ (DvAll.length t)
theorem DvAll.append : ∀ {vs ws : List V} {ds es : List Da}, DvAll K H vs ds → DvAll K H ws es → DvAll K H (vs ++ ws) (ds ++ es)
  | _, _, _, _, .nil, s => s
  | _, _, _, _, .cons r t, s => .cons r (DvAll.append t s)
theorem DvAll.get : ∀ {vs : List V} {ds : List Da} {i : Nat} {v : V}, DvAll K H vs ds → vs[i]? = some v → ∃ d, ds[i]? = some d ∧ Dv K H v d
  | _, _, _, _, .nil, e => by simp at e
  | _, _, 0, _, .cons r _, e => by simp at e; subst e; exact ⟨_, rfl, r⟩
  | _, _, i + 1, v, .cons _ t, e => by
    obtain ⟨d, h1, h2⟩ := DvAll.get (i := i) (v := v) t (by simpa using e)
    exact ⟨d, by simpa using h1, h2⟩
theorem DvAll.get' : ∀ {vs : List V} {ds : List Da} {i : Nat} {d : Da}, DvAll K H vs ds → ds[i]? = some d → ∃ v, vs[i]? = some v ∧ Dv K H v d
  | _, _, _, _, .nil, e => by simp at e
  | _, _, 0, _, .cons r _, e => by simp at e; subst e; exact ⟨_, rfl, r⟩
  | _, _, i + 1, v, .cons _ t, e => by
    obtain ⟨d, h1, h2⟩ := DvAll.get' (i := i) (d := v) t (by simpa using e)
    exact ⟨d, by simpa using h1, h2⟩
theorem DvAll.set {v : V} {d : Da} (r : Dv K H v d) : ∀ {vs : List V} {ds : List Da} (i : Nat), DvAll K H vs ds → DvAll K H (vs.set i v) (ds.set i d)
  | _, _, _, .nil => .nil
  | _, _, 0, .cons _ t => .cons r t
  | _, _, i + 1, .cons q t => .cons q (DvAll.set r i t)
theorem DvAll.take : ∀ {vs : List V} {ds : List Da} (n : Nat), DvAll K H vs ds → DvAll K H (vs.take n) (ds.take n)
  | _, _, 0, _ => .nil
  | _, _, _ + 1, .nil => .nil
  | _, _, n + 1, .cons r t => .cons r (DvAll.take n t)
theorem DvAll.drop : ∀ {vs : List V} {ds : List Da} (n : Nat), DvAll K H vs ds → DvAll K H (vs.drop n) (ds.drop n)
  | _, _, 0, r => r
  | _, _, _ + 1, .nil => .nil
  | _, _, n + 1, .cons _ t => DvAll.drop n t
theorem DvAll.dropLast : ∀ {vs : List V} {ds : List Da}, DvAll K H vs ds → DvAll K H vs.dropLast ds.dropLast
  | _, _, .nil => .nil
  | _, _, .cons r .nil => .nil
  | _, _, .cons r (.cons r2 t) => .cons r (DvAll.dropLast (.cons r2 t))
theorem DvAll.eraseIdx : ∀ {vs : List V} {ds : List Da} (i : Nat), DvAll K H vs ds → DvAll K H (vs.eraseIdx i) (ds.eraseIdx i)
  | _, _, _, .nil => .nil
  | _, _, 0, .cons _ t => t
  | _, _, i + 1, .cons q t => .cons q (DvAll.eraseIdx i t)
theorem DvAll.ints : ∀ {ns : List Int} {vs : List V}, DvAll K H vs (ns.map Da.int) → vs = ns.map V.int
  | [], _, h => by cases h; rfl
  | n :: ns, _, h => by
    cases h with
    | cons h1 h2 => cases h1; rw [DvAll.ints h2]; rfl
theorem dvAll_ints : ∀ ns : List Int, DvAll K H (ns.map V.int) (ns.map Da.int)
  | [] => .nil
  | n :: ns => .cons (.int n) (dvAll_ints ns)
theorem DvAll.bls : ∀ {bs : List Bool} {vs : List V}, DvAll K H vs (bs.map Da.bl) → vs = bs.map V.bl
  | [], _, h => by cases h; rfl
  | b :: bs, _, h => by
    cases h with
    | cons h1 h2 => cases h1; rw [DvAll.bls h2]; rfl
end

/-! ### cells -/
def KvD (K : PySem.W.Frag) (H : Hp) : List (Key × V) → List (Int × Da) → Prop := Paired fun (p : Key × V) (q : Int × Da) => p.1 = .inl q.1 ∧ Dv K H p.2 q.2
def FsD (K : PySem.W.Frag) (H : Hp) : List (Str × V) → List (Str × Da) → Prop := Paired fun (p : Str × V) (q : Str × Da) => p.1 = q.1 ∧ Dv K H p.2 q.2
def CellOk (K : PySem.W.Frag) (w : Om) (H : Hp) (a : Addr) : Cel → Prop
  | .lst l => ∃ xs, H a = some (.lst xs) ∧ DvAll K (hid w H) xs l
  | .dct kvs => ∃ ks, H a = some (.dK ks) ∧ KvD K (hid w H) ks kvs
  | .src => ∃ i j : Int, H a = some (.lst [.int i, .int j]) ∧ 0 ≤ i ∧ 0 ≤ j ∧ j < 2147483647
  | .ins C dx fs => ∃ gs, H a = some (.ins C dx gs) ∧ FsD K (hid w H) gs fs
def Cells (K : PySem.W.Frag) (w : Om) (H : Hp) : Prop := ∀ a c, w a = some c → CellOk K w H a c
theorem KvD.mono {K : PySem.W.Frag} {H H' : Hp} (e : Kp H H') {ks : List (Key × V)} {kvs : List (Int × Da)} (h : KvD K H ks kvs) : KvD K H' ks kvs := Paired.mapP h fun _ _ r => ⟨r.1, Dv.mono e _ _ r.2⟩
theorem FsD.mono {K : PySem.W.Frag} {H H' : Hp} (e : Kp H H') {ks : List (Str × V)} {kvs : List (Str × Da)} (h : FsD K H ks kvs) : FsD K H' ks kvs := Paired.mapP h fun _ _ r => ⟨r.1, Dv.mono e _ _ r.2⟩
theorem CellOk.mono {K : PySem.W.Frag} {w w' : Om} {H H' : Hp} {a : Addr} {c : Cel} (e : Kp (hid w H) (hid w' H')) (ea : ∀ o, H a = some o → H' a = some o) (h : CellOk K w H a c) : CellOk K w' H' a c := by
  cases c with
  | lst l => obtain ⟨xs, h1, h2⟩ := h; exact ⟨xs, ea _ h1, DvAll.mono e _ _ h2⟩
  | dct kvs => obtain ⟨ks, h1, h2⟩ := h; exact ⟨ks, ea _ h1, h2.mono e⟩
  | src => obtain ⟨i, j, h1, h2⟩ := h; exact ⟨i, j, ea _ h1, h2⟩
  | ins C dx fs => obtain ⟨gs, h1, h2⟩ := h; exact ⟨gs, ea _ h1, h2.mono e⟩
theorem CellOk.some {K : PySem.W.Frag} {w : Om} {H : Hp} {a : Addr} {c : Cel} (h : CellOk K w H a c) : ∃ o, H a = some o ∧ NT o ∧ (∀ φ, o ≠ .ext φ) := by
  cases c with
  | lst l => obtain ⟨xs, h1, h2⟩ := h; exact ⟨_, h1, fun ps z => by (cases z), fun ps z => by (cases z)⟩
  | dct kvs => obtain ⟨ks, h1, h2⟩ := h; exact ⟨_, h1, fun ps z => by (cases z), fun ps z => by (cases z)⟩
  | src => obtain ⟨i, j, h1, h2⟩ := h; exact ⟨_, h1, fun ps z => by (cases z), fun ps z => by (cases z)⟩
  | ins C dx fs => obtain ⟨gs, h1, h2⟩ := h; exact ⟨_, h1, fun ps z => by (cases z), fun ps z => by (cases z)⟩
theorem Cells.free {K : PySem.W.Frag} {w : Om} {H : Hp} {p : Addr} (c : Cells K w H) (h : H p = none) : w p = none := by
  cases e : w p with
  | none => rfl
  | some x =>
    obtain ⟨o, q, _⟩ := (c p x e).some
    rw [h] at q; cases q
theorem Cells.nil {K : PySem.W.Frag} {H : Hp} : Cells K (fun _ => none) H := fun a c e => by cases e

/-! ### a step -/
abbrev Tb := List (Addr × Str)
theorem tabs_keep {T : Tb} {H H' : Hp} (t : LamX.Tabs T H) (e : ∀ b o, H b = some o → ((∃ ps, o = .tbl ps) ∨ ∃ φ, o = .ext φ) → H' b = some o) : LamX.Tabs T H' := fun p hp => by
  obtain ⟨ps, h1, h2, h3⟩ := t p hp
  refine ⟨ps, e _ _ h1 (.inl ⟨ps, rfl⟩), h2, fun pos cv hc => ?_⟩
  obtain ⟨c, e1, e2⟩ := h3 pos cv hc
  exact ⟨c, e1, e _ _ e2 (.inr ⟨_, rfl⟩)⟩
structure Go (K : PySem.W.Frag) (T : Tb) (w w' : Om) (H H' : Hp) : Prop where
  keep : Kp (hid w H) (hid w' H')
  cells : Cells K w' H'
  tabs : LamX.Tabs T H'
section
variable {K : PySem.W.Frag} {T : Tb} {w w1 w2 : Om} {H H1 H2 : Hp} {p : Addr}
theorem Go.refl (c : Cells K w H) (t : LamX.Tabs T H) : Go K T w w H H := ⟨fun _ _ h _ => h, c, t⟩
theorem Go.trans (a : Go K T w w1 H H1) (b : Go K T w1 w2 H1 H2) : Go K T w w2 H H2 := ⟨fun x o h n => b.keep x o (a.keep x o h n) n, b.cells, b.tabs⟩
/-- a new object that is no cell -/
theorem Go.new (c : Cells K w H) (t : LamX.Tabs T H) {o : HO} (h : H p = none) : Go K T w w H (upd H p o) := by
  have ne : ∀ {b u}, H b = some u → b ≠ p := fun e => ne_of_none e h
  have k : Kp (hid w H) (hid w (upd H p o)) := fun a u e _ => by
    obtain ⟨e1, e2⟩ := hid_some e
    exact hid_of e1 (by rw [upd_ne (ne e2)]; exact e2)
  refine ⟨k, fun a x e => (c a x e).mono k fun u q => by rw [upd_ne (ne q)]; exact q, t.ext fun b u e => by rw [upd_ne (ne e)]; exact e⟩
theorem hid_new (c : Cells K w H) {o : HO} (h : H p = none) : hid w (upd H p o) p = some o := hid_of (c.free h) upd_same
/-- a new object that is a cell -/
theorem Go.newCell (c : Cells K w H) (t : LamX.Tabs T H) {o : HO} {x : Cel} (h : H p = none) (hx : Kp (hid w H) (hid (w.set p x) (upd H p o)) → CellOk K (w.set p x) (upd H p o) p x) : Go K T w (w.set p x) H (upd H p o) := by
  have ne : ∀ {b u}, H b = some u → b ≠ p := fun e => ne_of_none e h
  have k : Kp (hid w H) (hid (w.set p x) (upd H p o)) := fun a u e _ => by
    obtain ⟨e1, e2⟩ := hid_some e
    exact hid_of (by rw [Om.set_ne (ne e2)]; exact e1) (by rw [upd_ne (ne e2)]; exact e2)
  refine ⟨k, fun a y e => ?_, t.ext fun b u e => by rw [upd_ne (ne e)]; exact e⟩
  by_cases ha : a = p
  · subst ha; rw [Om.set_same] at e; cases e; exact hx k
  · rw [Om.set_ne ha] at e
    exact (c a y e).mono k fun u q => by rw [upd_ne ha]; exact q
/-- a cell is written -/
theorem Go.write (c : Cells K w H) (t : LamX.Tabs T H) {o : HO} {x y : Cel} (h : w p = some y) (hx : Kp (hid w H) (hid (w.set p x) (upd H p o)) → CellOk K (w.set p x) (upd H p o) p x) : Go K T w (w.set p x) H (upd H p o) := by
  have k : Kp (hid w H) (hid (w.set p x) (upd H p o)) := fun a u e _ => by
    obtain ⟨e1, e2⟩ := hid_some e
    have ne : a ≠ p := fun z => by subst z; rw [h] at e1; cases e1
    exact hid_of (by rw [Om.set_ne ne]; exact e1) (by rw [upd_ne ne]; exact e2)
  obtain ⟨u, q1, q2, q3⟩ := (c p y h).some
  refine ⟨k, fun a z e => ?_, tabs_keep t fun b v e hv => ?_⟩
  · by_cases ha : a = p
    · subst ha; rw [Om.set_same] at e; cases e; exact hx k
    · rw [Om.set_ne ha] at e
      exact (c a z e).mono k fun u q => by rw [upd_ne ha]; exact q
  · have ne : b ≠ p := fun z => by
      subst z; rw [q1] at e; cases e
      rcases hv with ⟨ps, e⟩ | ⟨φ, e⟩
      · exact q2 ps e
      · exact q3 φ e
    rw [upd_ne ne]; exact e
/-- a cell is forgotten -/
theorem Go.del (c : Cells K w H) (t : LamX.Tabs T H) : Go K T w (w.del p) H H := by
  have k : Kp (hid w H) (hid (w.del p) H) := fun a u e _ => by
    obtain ⟨e1, e2⟩ := hid_some e
    refine hid_of ?_ e2
    unfold Om.del
    by_cases ha : a = p
    · rw [if_pos ha]
    · rw [if_neg ha]; exact e1
  refine ⟨k, fun a y e => ?_, t⟩
  by_cases ha : a = p
  · subst ha; rw [Om.del_same] at e; cases e
  · rw [Om.del_ne ha] at e
    exact (c a y e).mono k fun u q => q
theorem hid_le : Kp (hid w H) H := fun a o h _ => (hid_some h).2
end

/-! ### the names -/
abbrev Rho := List (Option Da)
def SlotR (K : PySem.W.Frag) (H : Hp) (d : Option Da) (v : Option V) : Prop := ∀ x, d = some x → ∃ u, v = some u ∧ Dv K H u x
structure Wd (K : PySem.W.Frag) (T : Tb) (σ : L2.St) (ρ : Rho) (w : Om) (H : Hp) : Prop where
  slots : Paired (SlotR K (hid w H)) ρ σ
  cells : Cells K w H
  tabs : LamX.Tabs T H
section
variable {K : PySem.W.Frag} {T : Tb} {w w1 w2 : Om} {H H1 H2 : Hp} {p : Addr} {σ : L2.St} {ρ : Rho}
theorem Wd.go (a : Wd K T σ ρ w H) (g : Go K T w w1 H H1) : Wd K T σ ρ w1 H1 := ⟨Paired.mapP a.slots fun _ _ r x e => let ⟨u, h1, h2⟩ := r x e; ⟨u, h1, Dv.mono g.keep _ _ h2⟩, g.cells, g.tabs⟩
theorem Wd.rfl' (a : Wd K T σ ρ w H) : Go K T w w H H := Go.refl a.cells a.tabs
theorem paired_get {α β : Type} {F : α → β → Prop} : ∀ {l : List α} {m : List β} {i : Nat} {x : α}, Paired F l m → l[i]? = some x → ∃ y, m[i]? = some y ∧ F x y
  | _, _, _, _, .nil, e => by simp at e
  | _, _, 0, _, .cons r _, e => by simp at e; subst e; exact ⟨_, rfl, r⟩
  | _, _, i + 1, x, .cons _ t, e => by
    obtain ⟨u, h1, h2⟩ := paired_get (i := i) (x := x) t (by simpa using e)
    exact ⟨u, by simpa using h1, h2⟩
theorem paired_set {α β : Type} {F : α → β → Prop} {x : α} {y : β} (r : F x y) : ∀ {l : List α} {m : List β} (i : Nat), Paired F l m → Paired F (l.set i x) (m.set i y)
  | _, _, _, .nil => .nil
  | _, _, 0, .cons _ t => .cons r t
  | _, _, i + 1, .cons q t => .cons q (paired_set r i t)
theorem Wd.get (a : Wd K T σ ρ w H) {i : Nat} {d : Da} (h : ρ[i]? = some (some d)) : ∃ v, σ[i]? = some (some v) ∧ Dv K (hid w H) v d := by
  obtain ⟨y, h1, h2⟩ := paired_get a.slots h
  obtain ⟨u, e, h3⟩ := h2 d rfl
  subst e
  exact ⟨u, h1, h3⟩
theorem Wd.set (a : Wd K T σ ρ w H) {v : V} {d : Da} (r : Dv K (hid w H) v d) (i : Nat) : Wd K T (σ.set i (some v)) (ρ.set i (some d)) w H := ⟨paired_set (fun x e => ⟨v, rfl, by cases e; exact r⟩) i a.slots, a.cells, a.tabs⟩
/-- fewer names are known -/
theorem Wd.forget {ρ' : Rho} (a : Wd K T σ ρ w H) (h : Paired (fun (d' d : Option Da) => ∀ x, d' = some x → d = some x) ρ' ρ) : Wd K T σ ρ' w H := by
  refine ⟨?_, a.cells, a.tabs⟩
  have key : ∀ {l m : Rho} {s : L2.St}, Paired (fun (d' d : Option Da) => ∀ x, d' = some x → d = some x) l m → Paired (SlotR K (hid w H)) m s → Paired (SlotR K (hid w H)) l s := by
    intro l m s h
    induction h generalizing s with
    | nil => intro q; exact q
    | cons r _ ih =>
      intro q
      cases q with
      | cons q1 q2 => exact .cons (fun x e => q1 x (r x e)) (ih q2)
  exact key h a.slots
end

/-! ### sequences, plain data -/
def seqOf (w : Om) : Da → Option (List Da)
  | .tup l => some l
  | .lst l => some l
  | .ptr p => match w p with
    | some (.lst l) => some l
    | _ => none
  | _ => none
def lstOf (w : Om) : Da → Option (List Da)
  | .lst l => some l
  | .ptr p => match w p with
    | some (.lst l) => some l
    | _ => none
  | _ => none
section
variable {K : PySem.W.Frag} {T : Tb} {w : Om} {H : Hp} {v : V} {d : Da} {l : List Da}
theorem lst_sq (c : Cells K w H) (r : Dv K (hid w H) v d) (h : lstOf w d = some l) : ∃ a xs, v = .ref a ∧ SqL K H a xs ∧ DvAll K (hid w H) xs l := by
  cases r with
  | lst hs ha => cases h; exact ⟨_, _, rfl, sqL_mono hid_le hs, ha⟩
  | ptr a =>
    unfold lstOf at h
    cases e : w a with
    | none => simp only [e] at h; cases h
    | some x =>
      have q := c a x e
      cases x with
      | lst l' =>
        simp only [e] at h
        cases h
        obtain ⟨xs, h1, h2⟩ := q
        exact ⟨a, xs, rfl, SqL.of h1, h2⟩
      | _ => simp only [e] at h; cases h
  | _ => cases h
theorem seq_sq (c : Cells K w H) (r : Dv K (hid w H) v d) (h : seqOf w d = some l) : ∃ a xs, v = .ref a ∧ (SqL K H a xs ∨ SqT K H a xs) ∧ DvAll K (hid w H) xs l := by
  cases r with
  | tup hs ha => cases h; exact ⟨_, _, rfl, .inr (sqT_mono hid_le hs), ha⟩
  | lst hs ha => cases h; exact ⟨_, _, rfl, .inl (sqL_mono hid_le hs), ha⟩
  | ptr a =>
    obtain ⟨a, xs, e, h1, h2⟩ := lst_sq (d := .ptr a) c (.ptr a) h
    exact ⟨a, xs, e, .inl h1, h2⟩
  | _ => cases h
end
/-- the datum without a pointer at its top -/
def res (w : Om) : Da → Da
  | .ptr p => match w p with
    | some (.lst l) => .lst l
    | _ => .ptr p
  | d => d
mutual
/-- clean: no truth, no pointer -/
def Da.cl : Da → Bool
  | .non | .int _ | .str _ => true
  | .bl _ | .ptr _ | .tupN _ | .fdct _ | .lam _ _ _ => false
  | .tup l | .lst l => clAll l
def clAll : List Da → Bool
  | [] => true
  | d :: l => d.cl && clAll l
end
mutual
def Da.py : Da → PyData
  | .non => .none
  | .bl b => .bool b
  | .int i => .int i
  | .str x => .str x
  | .tup l => .tuple (pyAll l)
  | .lst l => .list (pyAll l)
  | .ptr _ | .tupN _ | .fdct _ | .lam _ _ _ => .none
def pyAll : List Da → List PyData
  | [] => []
  | d :: l => d.py :: pyAll l
end
mutual
/-- no pointer -/
def Da.np : Da → Bool
  | .non | .int _ | .str _ | .bl _ => true
  | .ptr _ | .tupN _ | .fdct _ | .lam _ _ _ => false
  | .tup l | .lst l => npAll l
def npAll : List Da → Bool
  | [] => true
  | d :: l => d.np && npAll l
end
mutual
def Da.dep : Da → Nat
  | .tup l | .lst l => depAll l + 1
  | _ => 0
def depAll : List Da → Nat
  | [] => 0
  | d :: l => max d.dep (depAll l)
end
mutual
theorem np_of_cl : ∀ d : Da, d.cl = true → d.np = true
  | .non, _ => rfl
  | .int _, _ => rfl
  | .str _, _ => rfl
  | .bl _, h => by cases h
  | .ptr _, h => by cases h
  | .tupN _, h => by cases h
  | .fdct _, h => by cases h
  | .lam _ _ _, h => by cases h
  | .tup l, h => npAll_of_cl l h
  | .lst l, h => npAll_of_cl l h
theorem npAll_of_cl : ∀ l : List Da, clAll l = true → npAll l = true
  | [], _ => rfl
  | d :: l, h => by
    have h' : d.cl = true ∧ clAll l = true := by simpa [clAll] using h
    simp only [npAll, np_of_cl d h'.1, npAll_of_cl l h'.2, Bool.and_self]
end
mutual
theorem dep_py : ∀ d : Da, d.py.depth = d.dep
  | .non => rfl
  | .int _ => rfl
  | .str _ => rfl
  | .bl _ => rfl
  | .ptr _ => rfl
  | .tupN _ => rfl
  | .fdct _ => rfl
  | .lam _ _ _ => rfl
  | .tup l => by simp only [Da.py, PyData.depth, Da.dep, depAll_py l]
  | .lst l => by simp only [Da.py, PyData.depth, Da.dep, depAll_py l]
theorem depAll_py : ∀ l : List Da, PyData.depthAll (pyAll l) = depAll l
  | [] => rfl
  | d :: l => by simp only [pyAll, PyData.depthAll, depAll, dep_py d, depAll_py l]
end
mutual
theorem plain_py : ∀ d : Da, d.py.plain = true
  | .non => rfl
  | .int _ => rfl
  | .str _ => rfl
  | .bl _ => rfl
  | .ptr _ => rfl
  | .tupN _ => rfl
  | .fdct _ => rfl
  | .lam _ _ _ => rfl
  | .tup l => by simp only [Da.py, PyData.plain, plainAll_py l]
  | .lst l => by simp only [Da.py, PyData.plain, plainAll_py l]
theorem plainAll_py : ∀ l : List Da, PyData.plainAll (pyAll l) = true
  | [] => rfl
  | d :: l => by simp only [pyAll, PyData.plainAll, plain_py d, plainAll_py l, Bool.and_self]
end
mutual
/-- clean data are equal to Python exactly if they are the same -/
theorem eqv_cl : ∀ d e : Da, d.cl = true → e.cl = true → (PyData.eqv d.py e.py = true ↔ d = e)
  | .non, .non, _, _ => by simp [Da.py, PyData.eqv]
  | .non, .int _, _, _ => by simp [Da.py, PyData.eqv]
  | .non, .str _, _, _ => by simp [Da.py, PyData.eqv]
  | .non, .tup _, _, _ => by simp [Da.py, PyData.eqv]
  | .non, .lst _, _, _ => by simp [Da.py, PyData.eqv]
  | .int _, .non, _, _ => by simp [Da.py, PyData.eqv]
  | .int i, .int j, _, _ => by simp [Da.py, PyData.eqv]
  | .int _, .str _, _, _ => by simp [Da.py, PyData.eqv]
  | .int _, .tup _, _, _ => by simp [Da.py, PyData.eqv]
  | .int _, .lst _, _, _ => by simp [Da.py, PyData.eqv]
  | .str _, .non, _, _ => by simp [Da.py, PyData.eqv]
  | .str _, .int _, _, _ => by simp [Da.py, PyData.eqv]
  | .str _, .str _, _, _ => by simp [Da.py, PyData.eqv]
  | .str _, .tup _, _, _ => by simp [Da.py, PyData.eqv]
  | .str _, .lst _, _, _ => by simp [Da.py, PyData.eqv]
  | .tup _, .non, _, _ => by simp [Da.py, PyData.eqv]
  | .tup _, .int _, _, _ => by simp [Da.py, PyData.eqv]
  | .tup _, .str _, _, _ => by simp [Da.py, PyData.eqv]
  | .tup l, .tup m, h, k => by
    have q := eqvAll_cl l m h k
    simp only [Da.py, PyData.eqv, q, Da.tup.injEq]
  | .tup _, .lst _, _, _ => by simp [Da.py, PyData.eqv]
  | .lst _, .non, _, _ => by simp [Da.py, PyData.eqv]
  | .lst _, .int _, _, _ => by simp [Da.py, PyData.eqv]
  | .lst _, .str _, _, _ => by simp [Da.py, PyData.eqv]
  | .lst _, .tup _, _, _ => by simp [Da.py, PyData.eqv]
  | .lst l, .lst m, h, k => by
    have q := eqvAll_cl l m h k
    simp only [Da.py, PyData.eqv, q, Da.lst.injEq]
  | .bl _, _, h, _ => by cases h
  | .ptr _, _, h, _ => by cases h
  | .tupN _, _, h, _ => by cases h
  | .fdct _, _, h, _ => by cases h
  | .lam _ _ _, _, h, _ => by cases h
  | _, .bl _, _, h => by cases h
  | _, .ptr _, _, h => by cases h
  | _, .tupN _, _, h => by cases h
  | _, .fdct _, _, h => by cases h
  | _, .lam _ _ _, _, h => by cases h
theorem eqvAll_cl : ∀ l m : List Da, clAll l = true → clAll m = true → (PyData.eqvAll (pyAll l) (pyAll m) = true ↔ l = m)
  | [], [], _, _ => by simp [pyAll, PyData.eqvAll]
  | [], _ :: _, _, _ => by simp [pyAll, PyData.eqvAll]
  | _ :: _, [], _, _ => by simp [pyAll, PyData.eqvAll]
  | d :: l, e :: m, h, k => by
    have h' : d.cl = true ∧ clAll l = true := by simpa [clAll] using h
    have k' : e.cl = true ∧ clAll m = true := by simpa [clAll] using k
    simp only [pyAll, PyData.eqvAll, Bool.and_eq_true, eqv_cl d e h'.1 k'.1, eqvAll_cl l m h'.2 k'.2, List.cons.injEq]
end
section
variable {K : PySem.W.Frag} {H : Hp}
mutual
theorem Dv.dp : ∀ (d : Da) (v : V), d.np = true → Dv K H v d → Dp K H v d.py
  | .non, _, _, h => by cases h; exact .non
  | .bl _, _, _, h => by cases h; exact .bl _
  | .int _, _, _, h => by cases h; exact .int _
  | .str _, _, _, h => by cases h; exact .str _
  | .tup ds, _, n, h => by
    cases h with
    | tup hs ha => exact .tup hs (DvAll.dp ds _ n ha)
  | .lst ds, _, n, h => by
    cases h with
    | lst hs ha => exact .lst hs (DvAll.dp ds _ n ha)
  | .ptr _, _, n, _ => by cases n
  | .tupN _, _, n, _ => by cases n
  | .fdct _, _, n, _ => by cases n
  | .lam _ _ _, _, n, _ => by cases n
theorem DvAll.dp : ∀ (ds : List Da) (vs : List V), npAll ds = true → DvAll K H vs ds → DpAll K H vs (pyAll ds)
  | [], _, _, h => by cases h; exact .nil
  | d :: ds, _, n, h => by
    have n' : d.np = true ∧ npAll ds = true := by simpa [npAll] using n
    cases h with
    | cons h1 h2 => exact .cons (Dv.dp d _ n'.1 h1) (DvAll.dp ds _ n'.2 h2)
end
end
/-- the datum read at the whole heap -/
theorem dp_res {K : PySem.W.Frag} {w : Om} {H : Hp} {v : V} {d : Da} (c : Cells K w H) (r : Dv K (hid w H) v d) (n : (res w d).np = true) : Dp K H v (res w d).py := by
  have plain : ∀ {d' : Da}, Dv K (hid w H) v d' → d'.np = true → Dp K H v d'.py := fun r' n' => Dv.dp _ _ n' (Dv.mono hid_le _ _ r')
  cases d with
  | ptr p =>
    unfold res at n ⊢
    cases e : w p with
    | none => simp only [e] at n; cases n
    | some x =>
      have q := c p x e
      cases x with
      | lst l =>
        simp only [e] at n ⊢
        obtain ⟨xs, h1, h2⟩ := q
        cases r
        exact .lst (SqL.of h1) (DvAll.dp _ _ n (DvAll.mono hid_le _ _ h2))
      | _ => simp only [e] at n; cases n
  | _ => exact plain r n
/-- a tuple that is known to have no dict, as any tuple -/
def unN : Da → Da
  | .tupN l => .tup l
  | d => d
theorem Dv.un {K : PySem.W.Frag} {H : Hp} {v : V} {d : Da} (h : Dv K H v d) : Dv K H v (unN d) := by
  cases h with
  | tupN hs hd ha => exact .tup (.inl (.inr ⟨_, hs⟩)) ha
  | non => exact .non
  | bl b => exact .bl b
  | int i => exact .int i
  | str x => exact .str x
  | tup a b => exact .tup a b
  | lst a b => exact .lst a b
  | ptr a => exact .ptr a
  | fdct a => exact .fdct a
  | lam a => exact .lam a
end Dl
set_option maxHeartbeats 2000000
/-! What an expression makes of data: XE, XT, XA; a rule for each construct. -/
namespace Dl
open PySem PySem.Spec PyProof.Rows L2

abbrev WE := Rho → Om → (Da → Om → Prop) → Prop
abbrev WT := Rho → Om → (Bool → Om → Prop) → Prop
abbrev WA := Rho → Om → (List Da → Om → Prop) → Prop
def EvD (K : PySem.W.Frag) (T : Tb) (t : TE) (w : WE) : Prop := ∀ (σ : L2.St) (H : Hp) (ρ : Rho) (ω : Om) (R : Da → Om → Prop) (Q : VK), Wd K T σ ρ ω H → w ρ ω R → (∀ v H' d ω', Go K T ω ω' H H' → Dv K (hid ω' H') v d → R d ω' → Q v H') → t σ H Q
def EvT (K : PySem.W.Frag) (T : Tb) (t : TT) (w : WT) : Prop := ∀ (σ : L2.St) (H : Hp) (ρ : Rho) (ω : Om) (R : Bool → Om → Prop) (Q : Bool → Hp → Prop), Wd K T σ ρ ω H → w ρ ω R → (∀ b H' ω', Go K T ω ω' H H' → R b ω' → Q b H') → t σ H Q
def EvA (K : PySem.W.Frag) (T : Tb) (n : Nat) (t : TA) (w : WA) : Prop := ∀ (σ : L2.St) (H : Hp) (ρ : Rho) (ω : Om) (R : List Da → Om → Prop) (Q : List V → Hp → Prop), Wd K T σ ρ ω H → w ρ ω R → (∀ vs H' ds ω', Go K T ω ω' H H' → DvAll K (hid ω' H') vs ds → ds.length = n → R ds ω' → Q vs H') → t σ H Q
structure XE (T : Tb) (X : Cx) (e : Expr) (w : WE) : Prop where
  ex : ∃ t, PE X e t ∧ EvD X.K T t w
structure XT (T : Tb) (X : Cx) (e : Expr) (w : WT) : Prop where
  ex : ∃ t, PT X e t ∧ EvT X.K T t w
structure XW (T : Tb) (X : Cx) (e : Expr) (w : WT) : Prop where
  ex : ∃ t, PW X e t ∧ EvT X.K T t w
structure XA (T : Tb) (X : Cx) (es : List Expr) (w : WA) : Prop where
  ex : ∃ t, PA X es t ∧ EvA X.K T es.length t w

section
variable {T : Tb} {X : Cx} {a b c e o : Expr} {es rest : List Expr} {pos p : Pos} {wa wb wc : WE} {K : PySem.W.Frag}
theorem XE.imp {w w' : WE} (h : XE T X e w) (i : ∀ ρ ω R, w' ρ ω R → w ρ ω R) : XE T X e w' := by
  obtain ⟨t, h1, h2⟩ := h.ex
  exact ⟨t, h1, fun σ H ρ ω R Q W q k => h2 σ H ρ ω R Q W (i _ _ _ q) k⟩

/-! ### names, constants -/
def wVar (i : Nat) : WE := fun ρ ω R => ∃ d, ρ[i]? = some (some d) ∧ R d ω
def wC (d : Da) : WE := fun _ ω R => R d ω
theorem evD_var (i : Nat) : EvD K T (tVar i) (wVar i) := fun σ H ρ ω R Q W ⟨d, h1, h2⟩ k => by
  obtain ⟨v, h3, h4⟩ := W.get h1
  exact ⟨v, h3, k v H d ω W.rfl' h4 h2⟩
theorem evD_c {v : V} {d : Da} (h : ∀ H, Dv K H v d) : EvD K T (tC v) (wC d) := fun σ H ρ ω R Q W q k => k v H d ω W.rfl' (h _) q
theorem xv (i : Nat) {x : Str} (hN : X.N[i]? = some x := by rfl) (hv : Vis X.env.scope x := by first | exact Or.inl rfl | exact Or.inr (Or.inl rfl) | exact Or.inr (Or.inr rfl)) (hd : (x == ("__debug__" : Str)) = false := by decide)
    (hcd : (x == ("__classdict__" : Str)) = false := by decide) : XE T X (.Name x pos) (wVar i) := ⟨_, pe_var hN hv hd hcd, evD_var i⟩
theorem xint {i : Int} {j : Nat} : XE T X (.Constant (.int i) j pos) (wC (.int i)) := ⟨_, pe_int, evD_c fun _ => .int _⟩
theorem xbl {i : Bool} {j : Nat} : XE T X (.Constant (.bool i) j pos) (wC (.bl i)) := ⟨_, pe_bl, evD_c fun _ => .bl _⟩
theorem xnon {j : Nat} : XE T X (.Constant .none j pos) (wC .non) := ⟨_, pe_non, evD_c fun _ => .non⟩
theorem xstr {x : Str} {j : Nat} : XE T X (.Constant (.str x) j pos) (wC (.str x)) := ⟨_, pe_str, evD_c fun _ => .str _⟩
theorem xglob {x : Str} {i : Int} (hm : ∃ t, X.mg x = some (.int i t)) (hg : Gl X x := by rfl) (hd : (x == ("__debug__" : Str)) = false := by decide) : XE T X (.Name x pos) (wC (.int i)) := by
  obtain ⟨t, hm⟩ := hm
  exact ⟨_, pe_glob (v := .int i) hg hm ⟨t, rfl⟩ hd, evD_c fun _ => .int _⟩

/-! ### operators by values -/
abbrev F2 := Da → Da → Om → (Da → Om → Prop) → Prop
abbrev F1 := Da → Om → (Da → Om → Prop) → Prop
def OpD (K : PySem.W.Frag) (T : Tb) (r : R2) (f : F2) : Prop := ∀ (x y : V) (H : Hp) (d e : Da) (ω : Om) (R : Da → Om → Prop) (Q : VK), Cells K ω H → LamX.Tabs T H → Dv K (hid ω H) x d → Dv K (hid ω H) y e → f d e ω R →
  (∀ v H' d' ω', Go K T ω ω' H H' → Dv K (hid ω' H') v d' → R d' ω' → Q v H') → r x y H Q
def w2 (f : F2) (wa wb : WE) : WE := fun ρ ω R => wa ρ ω fun d ω1 => wb ρ ω1 fun e ω2 => f d e ω2 R
def w1 (f : F1) (wa : WE) : WE := fun ρ ω R => wa ρ ω fun d ω1 => f d ω1 R
theorem evD_2 {ta tb : TE} {r : R2} {f : F2} (ha : EvD K T ta wa) (hb : EvD K T tb wb) (hf : OpD K T r f) : EvD K T (tOp r ta tb) (w2 f wa wb) := fun σ H ρ ω R Q W q k => by
  refine ha σ H ρ ω _ _ W q fun x H1 d ω1 g1 dx q1 => ?_
  refine hb σ H1 ρ ω1 _ _ (W.go g1) q1 fun y H2 e ω2 g2 dy q2 => ?_
  exact hf x y H2 d e ω2 R Q g2.cells g2.tabs (Dv.mono g2.keep _ _ dx) dy q2 fun v H3 d' ω3 g3 dv q3 => k v H3 d' ω3 ((g1.trans g2).trans g3) dv q3
theorem xop {op : Operator} {r : R2} {f : F2} (ho : OpR X (binaryOp op) r) (hf : OpD X.K T r f) (ha : XE T X a wa) (hb : XE T X b wb) : XE T X (.BinOp a op b pos) (w2 f wa wb) := by
  obtain ⟨ta, a1, a2⟩ := ha.ex
  obtain ⟨tb, b1, b2⟩ := hb.ex
  exact ⟨_, pe_op ho a1 b1, evD_2 a2 b2 hf⟩
theorem xcmp {op : CmpOp} {r : R2} {f : F2} (ho : OpR X (compareOp op) r) (hf : OpD X.K T r f) (ha : XE T X a wa) (hb : XE T X b wb) (hm : behindInMarks op b = false) : XE T X (.Compare a [op] [b] pos) (w2 f wa wb) := by
  obtain ⟨ta, a1, a2⟩ := ha.ex
  obtain ⟨tb, b1, b2⟩ := hb.ex
  exact ⟨_, pe_cmpR ho a1 b1 hm, evD_2 a2 b2 hf⟩
/-- two ints -/
def fI (C : Int → Int → Prop) (g : Int → Int → Da) : F2 := fun d e ω R => ∃ i j, d = .int i ∧ e = .int j ∧ C i j ∧ R (g i j) ω
def fI0 (g : Int → Int → Da) : F2 := fun d e ω R => ∃ i j, d = .int i ∧ e = .int j ∧ R (g i j) ω
theorem opD_I0 {g : Int → Int → V} {g' : Int → Int → Da} (h : ∀ i j H, Dv K H (g i j) (g' i j)) : OpD K T (rI0 g) (fI0 g') := fun x y H d e ω R Q c t dx dy ⟨i, j, e1, e2, q⟩ k => by
  subst e1 e2
  cases dx
  cases dy
  exact ⟨i, j, rfl, rfl, k _ H _ ω (Go.refl c t) (h i j _) q⟩
theorem opD_I {C : Int → Int → Prop} {g : Int → Int → V} {g' : Int → Int → Da} (h : ∀ i j H, Dv K H (g i j) (g' i j)) : OpD K T (rI C g) (fI C g') := fun x y H d e ω R Q c t dx dy ⟨i, j, e1, e2, hc, q⟩ k => by
  subst e1 e2
  cases dx
  cases dy
  exact ⟨i, j, rfl, rfl, hc, k _ H _ ω (Go.refl c t) (h i j _) q⟩
abbrev fAdd : F2 := fI0 fun i j => .int (i + j)
abbrev fSub : F2 := fI0 fun i j => .int (i - j)
abbrev fMul : F2 := fI CMul fun i j => .int (i * j)
abbrev fDiv : F2 := fI CDiv fun i j => .int (i / j)
abbrev fMod : F2 := fI (fun _ j => 0 < j) fun i j => .int (i % j)
abbrev fPow : F2 := fI CPow fun i j => .int (i ^ j.toNat)
theorem xadd (ha : XE T X a wa) (hb : XE T X b wb) : XE T X (.BinOp a .Add b pos) (w2 fAdd wa wb) := xop op_add (opD_I0 fun _ _ _ => .int _) ha hb
theorem xsub (ha : XE T X a wa) (hb : XE T X b wb) : XE T X (.BinOp a .Sub b pos) (w2 fSub wa wb) := xop op_sub (opD_I0 fun _ _ _ => .int _) ha hb
theorem xmul (ha : XE T X a wa) (hb : XE T X b wb) : XE T X (.BinOp a .Mult b pos) (w2 fMul wa wb) := xop op_mul (opD_I fun _ _ _ => .int _) ha hb
theorem xdiv (ha : XE T X a wa) (hb : XE T X b wb) : XE T X (.BinOp a .FloorDiv b pos) (w2 fDiv wa wb) := xop op_fdiv (opD_I fun _ _ _ => .int _) ha hb
theorem xmod (ha : XE T X a wa) (hb : XE T X b wb) : XE T X (.BinOp a .Mod b pos) (w2 fMod wa wb) := xop op_mod (opD_I fun _ _ _ => .int _) ha hb
theorem xpow (ha : XE T X a wa) (hb : XE T X b wb) : XE T X (.BinOp a .Pow b pos) (w2 fPow wa wb) := xop op_pow (opD_I fun _ _ _ => .int _) ha hb
/-- tuple + tuple -/
def fCat : F2 := fun d e ω R => ∃ l m, d = .tup l ∧ e = .tup m ∧ l.length + m.length ≤ 100000 ∧ R (.tup (l ++ m)) ω
theorem big_line {n : Nat} (h : n ≤ 100000) : n ≤ sizeLine := Nat.le_trans h (by decide)
theorem big_lt {n : Nat} (h : n < 100000) : n < sizeLine := Nat.lt_of_lt_of_le h (by decide)
theorem opD_cat : OpD K T (rCatA K) fCat := fun x y H d e ω R Q c t dx dy ⟨l, m, e1, e2, hl, q⟩ k => by
  subst e1 e2
  cases dx with
  | @tup b1 xs1 _ s1 a1 =>
    cases dy with
    | @tup b2 xs2 _ s2 a2 =>
      have hz := big_line hl
      rw [← a1.length, ← a2.length] at hz
      refine ⟨_, _, _, _, rfl, rfl, sqT_mono hid_le s1, sqT_mono hid_le s2, hz, fun z => ?_, fun z1 z2 => ?_, fun z1 z2 p hp => ?_⟩
      · subst z; cases a1
        exact k _ H _ ω (Go.refl c t) (.tup s2 a2) q
      · subst z2; cases a2
        rw [List.append_nil] at q
        exact k _ H _ ω (Go.refl c t) (.tup s1 a1) q
      · have g := Go.new (o := .tup (xs1 ++ xs2)) c t hp
        exact k _ _ _ ω g (.tup (SqT.of (hid_new c hp)) (DvAll.mono g.keep _ _ (a1.append a2))) q
theorem xcat (ha : XE T X a wa) (hb : XE T X b wb) : XE T X (.BinOp a .Add b pos) (w2 fCat wa wb) := xop op_catA opD_cat ha hb
/-- comparisons of ints -/
abbrev fLt : F2 := fI0 fun i j => .bl (decide (i < j))
abbrev fLe : F2 := fI0 fun i j => .bl (decide (i ≤ j))
abbrev fGt : F2 := fI0 fun i j => .bl (decide (j < i))
abbrev fGe : F2 := fI0 fun i j => .bl (decide (j ≤ i))
theorem xlt (ha : XE T X a wa) (hb : XE T X b wb) : XE T X (.Compare a [.Lt] [b] pos) (w2 fLt wa wb) := xcmp op_lt (opD_I0 fun _ _ _ => .bl _) ha hb (nomark _)
theorem xle (ha : XE T X a wa) (hb : XE T X b wb) : XE T X (.Compare a [.LtE] [b] pos) (w2 fLe wa wb) := xcmp op_le (opD_I0 fun _ _ _ => .bl _) ha hb (nomark _)
theorem xgt (ha : XE T X a wa) (hb : XE T X b wb) : XE T X (.Compare a [.Gt] [b] pos) (w2 fGt wa wb) := xcmp op_gt (opD_I0 fun _ _ _ => .bl _) ha hb (nomark _)
theorem xge (ha : XE T X a wa) (hb : XE T X b wb) : XE T X (.Compare a [.GtE] [b] pos) (w2 fGe wa wb) := xcmp op_ge (opD_I0 fun _ _ _ => .bl _) ha hb (nomark _)
/-- tuples of ints by < -/
structure fLtT (d e : Da) (ω : Om) (R : Da → Om → Prop) : Prop where
  ex : ∃ ns ms : List Int, d = .tup (ns.map .int) ∧ e = .tup (ms.map .int) ∧ R (.bl (HT.lexLt ns ms)) ω
theorem opD_ltT : OpD K T (rLtT K) fLtT := fun x y H d e ω R Q c t dx dy ⟨l, m, e1, e2, q⟩ k => by
  subst e1 e2
  cases dx with
  | tup s1 a1 =>
    cases dy with
    | tup s2 a2 =>
      have z1 := a1.ints
      have z2 := a2.ints
      subst z1 z2
      exact ⟨_, _, l, m, rfl, rfl, sqT_mono hid_le s1, sqT_mono hid_le s2, k _ H _ ω (Go.refl c t) (.bl _) q⟩
theorem xltT {k : Nat} (hr : Room k X.A) (ha : XE T X a wa) (hb : XE T X b wb) : XE T X (.Compare a [.Lt] [b] pos) (w2 fLtT wa wb) := xcmp (op_ltT hr.units0) opD_ltT ha hb (nomark _)
/-- == and != of clean data -/
structure fEq (d e : Da) (ω : Om) (R : Da → Om → Prop) : Prop where
  ex : (res ω d).cl = true ∧ (res ω e).cl = true ∧ (res ω d).dep ≤ 60 ∧ ∀ b : Bool, (b = true ↔ res ω d = res ω e) → R (.bl b) ω
structure fNe (d e : Da) (ω : Om) (R : Da → Om → Prop) : Prop where
  ex : (res ω d).cl = true ∧ (res ω e).cl = true ∧ (res ω d).dep ≤ 60 ∧ ∀ b : Bool, (b = true ↔ ¬ res ω d = res ω e) → R (.bl b) ω
def rEqP (K : PySem.W.Frag) : R2 := fun x y H Q => ∃ d e, Dp K H x d ∧ Dp K H y e ∧ d.plain = true ∧ e.plain = true ∧ d.depth ≤ 60 ∧ Q (.bl (PyData.eqv d e)) H
def rNeP (K : PySem.W.Frag) : R2 := fun x y H Q => ∃ d e, Dp K H x d ∧ Dp K H y e ∧ d.plain = true ∧ e.plain = true ∧ d.depth ≤ 60 ∧ Q (.bl (!PyData.eqv d e)) H
theorem op_eqP (hu : X.A.units + 64 < cLine) : OpR X (compareOp .Eq) (rEqP X.K) := by
  intro pins s σ H x y v u Q I rx ry h
  obtain ⟨d, e, hd, he, sd, se, hz, q⟩ := h
  obtain ⟨as, r1⟩ := Dp.reads I d x v hd rx
  obtain ⟨bs, r2⟩ := Dp.reads I e y u he ry
  exact SeqAt.eq_plain r1 r2 sd se (by have := Nat.min_le_left d.depth e.depth; omega) ⟨.bl _, H, I, rfl, q⟩
theorem op_neP (hu : X.A.units + 64 < cLine) : OpR X (compareOp .NotEq) (rNeP X.K) := by
  intro pins s σ H x y v u Q I rx ry h
  obtain ⟨d, e, hd, he, sd, se, hz, q⟩ := h
  obtain ⟨as, r1⟩ := Dp.reads I d x v hd rx
  obtain ⟨bs, r2⟩ := Dp.reads I e y u he ry
  exact SeqAt.ne_plain r1 r2 sd se (by have := Nat.min_le_left d.depth e.depth; omega) ⟨.bl _, H, I, rfl, q⟩
theorem opD_eq : OpD K T (rEqP K) fEq := fun x y H d e ω R Q c t dx dy ⟨h1, h2, h3, q⟩ k =>
  ⟨_, _, dp_res c dx (np_of_cl _ h1), dp_res c dy (np_of_cl _ h2), plain_py _, plain_py _, by rw [dep_py]; exact h3, k _ H _ ω (Go.refl c t) (.bl _) (q _ (eqv_cl _ _ h1 h2))⟩
theorem opD_ne : OpD K T (rNeP K) fNe := fun x y H d e ω R Q c t dx dy ⟨h1, h2, h3, q⟩ k =>
  ⟨_, _, dp_res c dx (np_of_cl _ h1), dp_res c dy (np_of_cl _ h2), plain_py _, plain_py _, by rw [dep_py]; exact h3, k _ H _ ω (Go.refl c t) (.bl _) (q _ (by rw [Bool.not_eq_true', ← eqv_cl _ _ h1 h2, Bool.not_eq_true]))⟩
theorem xeq {k : Nat} (hr : Room k X.A) (ha : XE T X a wa) (hb : XE T X b wb) : XE T X (.Compare a [.Eq] [b] pos) (w2 fEq wa wb) := xcmp (op_eqP hr.units) opD_eq ha hb (nomark _)
theorem xne {k : Nat} (hr : Room k X.A) (ha : XE T X a wa) (hb : XE T X b wb) : XE T X (.Compare a [.NotEq] [b] pos) (w2 fNe wa wb) := xcmp (op_neP hr.units) opD_ne ha hb (nomark _)
/-- in, not in: a list or a tuple of clean data -/
structure fIn (neg : Bool) (d e : Da) (ω : Om) (R : Da → Om → Prop) : Prop where
  ex : ∃ l, seqOf ω e = some l ∧ (res ω d).cl = true ∧ clAll l = true ∧ (res ω d).dep ≤ 60 ∧ ∀ b : Bool, (b = true ↔ (if neg then ¬ res ω d ∈ l else res ω d ∈ l)) → R (.bl b) ω
def rInP (K : PySem.W.Frag) (neg : Bool) : R2 := fun x y H Q => ∃ d ds, Dp K H x d ∧ (Dp K H y (.list ds) ∨ Dp K H y (.tuple ds)) ∧ d.plain = true ∧ PyData.plainAll ds = true ∧ d.depth ≤ 60 ∧ Q (.bl (if neg then !ds.any fun z => PyData.eqv z d else ds.any fun z => PyData.eqv z d)) H
theorem op_inP (hu : X.A.units + 64 < cLine) : OpR X (compareOp .In) (rInP X.K false) := by
  intro pins s σ H x y v u Q I rx ry h
  obtain ⟨d, ds, hd, he, sd, se, hz, q⟩ := h
  obtain ⟨as, r1⟩ := Dp.reads I d x v hd rx
  rcases he with he | he
  · obtain ⟨bs, r2⟩ := Dp.reads I _ y u he ry
    exact SeqAt.in_list_data r2 r1 se sd (by have := Nat.min_le_right (PyData.depthAll ds) d.depth; omega) ⟨.bl _, H, I, rfl, q⟩
  · obtain ⟨bs, r2⟩ := Dp.reads I _ y u he ry
    exact SeqAt.in_tuple_data r2 r1 se sd (by have := Nat.min_le_right (PyData.depthAll ds) d.depth; omega) ⟨.bl _, H, I, rfl, q⟩
theorem op_notInP (hu : X.A.units + 64 < cLine) : OpR X (compareOp .NotIn) (rInP X.K true) := by
  intro pins s σ H x y v u Q I rx ry h
  obtain ⟨d, ds, hd, he, sd, se, hz, q⟩ := h
  obtain ⟨as, r1⟩ := Dp.reads I d x v hd rx
  rcases he with he | he
  · obtain ⟨bs, r2⟩ := Dp.reads I _ y u he ry
    exact SeqAt.notIn_list_data r2 r1 se sd (by have := Nat.min_le_right (PyData.depthAll ds) d.depth; omega) ⟨.bl _, H, I, rfl, q⟩
  · obtain ⟨bs, r2⟩ := Dp.reads I _ y u he ry
    exact SeqAt.notIn_tuple_data r2 r1 se sd (by have := Nat.min_le_right (PyData.depthAll ds) d.depth; omega) ⟨.bl _, H, I, rfl, q⟩
theorem any_mem : ∀ (l : List Da) (d : Da), d.cl = true → clAll l = true → (((pyAll l).any fun z => PyData.eqv z d.py) = true ↔ d ∈ l)
  | [], d, _, _ => by simp [pyAll]
  | e :: l, d, h, k => by
    have k' : e.cl = true ∧ clAll l = true := by simpa [clAll] using k
    simp only [pyAll, List.any_cons, Bool.or_eq_true, List.mem_cons, eqv_cl e d k'.1 h, any_mem l d h k'.2]
    exact or_congr eq_comm Iff.rfl
theorem seq_dp {ω : Om} {H : Hp} {v : V} {d : Da} {l : List Da} (c : Cells K ω H) (r : Dv K (hid ω H) v d) (h : seqOf ω d = some l) (n : npAll l = true) : Dp K H v (.list (pyAll l)) ∨ Dp K H v (.tuple (pyAll l)) := by
  obtain ⟨a, xs, rfl, hs, ha⟩ := seq_sq c r h
  have q := DvAll.dp _ _ n (DvAll.mono hid_le _ _ ha)
  rcases hs with hs | hs
  · exact .inl (.lst hs q)
  · exact .inr (.tup hs q)
theorem opD_in {neg : Bool} : OpD K T (rInP K neg) (fIn neg) := fun x y H d e ω R Q c t dx dy ⟨l, h0, h1, h2, h3, q⟩ k => by
  refine ⟨_, _, dp_res c dx (np_of_cl _ h1), seq_dp c dy h0 (npAll_of_cl _ h2), plain_py _, plainAll_py _, by rw [dep_py]; exact h3, k _ H _ ω (Go.refl c t) (.bl _) (q _ ?_)⟩
  cases neg with
  | false => exact any_mem l _ h1 h2
  | true =>
    show (!_) = true ↔ ¬ _
    rw [Bool.not_eq_true', ← any_mem l _ h1 h2, Bool.not_eq_true]
theorem xin {k : Nat} (hr : Room k X.A) (ha : XE T X a wa) (hb : XE T X b wb) (hm : behindInMarks .In b = false := by rfl) : XE T X (.Compare a [.In] [b] pos) (w2 (fIn false) wa wb) := xcmp (op_inP hr.units) opD_in ha hb hm
theorem xnin {k : Nat} (hr : Room k X.A) (ha : XE T X a wa) (hb : XE T X b wb) (hm : behindInMarks .NotIn b = false := by rfl) : XE T X (.Compare a [.NotIn] [b] pos) (w2 (fIn true) wa wb) := xcmp (op_notInP hr.units) opD_in ha hb hm
/-- is None, is not None; is True -/
def Da.isN : Da → Bool
  | .non => true
  | _ => false
theorem isN_v {H : Hp} {v : V} {d : Da} (r : Dv K H v d) : decide (v = .non) = d.isN := by
  cases r <;> first | rfl | exact decide_eq_false (fun z => by cases z)
def fIsN : F2 := fun d e ω R => e = .non ∧ R (.bl d.isN) ω
def fNotN : F2 := fun d e ω R => e = .non ∧ R (.bl (!d.isN)) ω
def fIsB : F2 := fun d e ω R => ∃ i j, d = .bl i ∧ e = .bl j ∧ R (.bl (decide (i = j))) ω
theorem xisN (ha : XE T X a wa) (hb : XE T X b wb) : XE T X (.Compare a [.Is] [b] pos) (w2 fIsN wa wb) := xcmp op_isN (fun x y H d e ω R Q c t dx dy ⟨e1, q⟩ k => by
  subst e1
  cases dy
  refine ⟨rfl, ?_⟩
  rw [isN_v dx]
  exact k _ H _ ω (Go.refl c t) (.bl _) q) ha hb (nomark _)
theorem xnotN (ha : XE T X a wa) (hb : XE T X b wb) : XE T X (.Compare a [.IsNot] [b] pos) (w2 fNotN wa wb) := xcmp op_notN (fun x y H d e ω R Q c t dx dy ⟨e1, q⟩ k => by
  subst e1
  cases dy
  refine ⟨rfl, ?_⟩
  rw [isN_v dx]
  exact k _ H _ ω (Go.refl c t) (.bl _) q) ha hb (nomark _)
theorem xisB (ha : XE T X a wa) (hb : XE T X b wb) : XE T X (.Compare a [.Is] [b] pos) (w2 fIsB wa wb) := xcmp op_isBl (fun x y H d e ω R Q c t dx dy ⟨i, j, e1, e2, q⟩ k => by
  subst e1 e2
  cases dx
  cases dy
  exact ⟨i, j, rfl, rfl, k _ H _ ω (Go.refl c t) (.bl _) q⟩) ha hb (nomark _)
/-- a <= b <= c of ints -/
def wCh (f f' : F2) (wa wb wc : WE) : WE := fun ρ ω R => wa ρ ω fun d ω1 => wb ρ ω1 fun e ω2 => f d e ω2 fun z ω3 => ∃ k, z = .bl k ∧ if k = true then wc ρ ω3 fun g ω4 => f' e g ω4 R else R (.bl false) ω3
theorem xchain {op op' : CmpOp} {r r' : R2} {f f' : F2} (ho : OpR X (compareOp op) r) (ho' : OpR X (compareOp op') r') (hf : OpD X.K T r f) (hf' : OpD X.K T r' f') (ha : XE T X a wa) (hb : XE T X b wb) (hc : XE T X c wc)
    (hx : ∀ {ta tb tc : TE}, PE X a ta → PE X b tb → PE X c tc → PE X (.Compare a [op, op'] [b, c] pos) (tChain r r' ta tb tc)) : XE T X (.Compare a [op, op'] [b, c] pos) (wCh f f' wa wb wc) := by
  obtain ⟨ta, a1, a2⟩ := ha.ex
  obtain ⟨tb, b1, b2⟩ := hb.ex
  obtain ⟨tc, c1, c2⟩ := hc.ex
  refine ⟨_, hx a1 b1 c1, fun σ H ρ ω R Q W q k => ?_⟩
  refine a2 σ H ρ ω _ _ W q fun x H1 d ω1 g1 dx q1 => ?_
  refine b2 σ H1 ρ ω1 _ _ (W.go g1) q1 fun y H2 e ω2 g2 dy q2 => ?_
  refine hf x y H2 d e ω2 _ _ g2.cells g2.tabs (Dv.mono g2.keep _ _ dx) dy q2 fun z H3 d' ω3 g3 dv q3 => ?_
  obtain ⟨kb, e1, q3⟩ := q3
  subst e1
  cases dv
  refine ⟨kb, rfl, ?_⟩
  have g123 := (g1.trans g2).trans g3
  cases kb with
  | true =>
    refine c2 σ H3 ρ ω3 _ _ (W.go g123) q3 fun w' H4 e4 ω4 g4 dw q4 => ?_
    exact hf' y w' H4 e e4 ω4 R Q g4.cells g4.tabs (Dv.mono (g3.trans g4).keep _ _ dy) dw q4 fun v H5 d5 ω5 g5 dv5 q5 => k v H5 d5 ω5 ((g123.trans g4).trans g5) dv5 q5
  | false => exact k _ H3 _ ω3 g123 (.bl _) q3
theorem xlele (ha : XE T X a wa) (hb : XE T X b wb) (hc : XE T X c wc) (hm : lastMarks [.LtE, .LtE] [b, c] = false := by with_unfolding_all rfl) : XE T X (.Compare a [.LtE, .LtE] [b, c] pos) (wCh fLe fLe wa wb wc) :=
  xchain op_le op_le (opD_I0 fun _ _ _ => .bl _) (opD_I0 fun _ _ _ => .bl _) ha hb hc fun x y z => pe_chain op_le op_le x y z (hm := hm)

/-! ### and, or, not, if -/
def wAnd (wa wb : WE) : WE := fun ρ ω R => wa ρ ω fun d ω1 => ∃ k, d = .bl k ∧ if k = true then wb ρ ω1 R else R (.bl false) ω1
def wOr (wa wb : WE) : WE := fun ρ ω R => wa ρ ω fun d ω1 => ∃ k, d = .bl k ∧ if k = true then R (.bl true) ω1 else wb ρ ω1 R
def wNot (wa : WE) : WE := fun ρ ω R => wa ρ ω fun d ω1 => ∃ k, d = .bl k ∧ R (.bl (!k)) ω1
theorem xone {op : BoolOp} (h : XE T X a wa) : XE T X (.BoolOp op [a] pos) wa := by
  obtain ⟨t, h1, h2⟩ := h.ex
  exact ⟨t, pe_one h1, h2⟩
theorem xand (ha : XE T X a wa) (hb : XE T X (.BoolOp .And (b :: rest) pos) wb) : XE T X (.BoolOp .And (a :: b :: rest) pos) (wAnd wa wb) := by
  obtain ⟨ta, a1, a2⟩ := ha.ex
  obtain ⟨tb, b1, b2⟩ := hb.ex
  refine ⟨_, pe_and a1 b1, fun σ H ρ ω R Q W q k => ?_⟩
  refine a2 σ H ρ ω _ _ W q fun x H1 d ω1 g1 dx q1 => ?_
  obtain ⟨kb, e1, q1⟩ := q1
  subst e1
  cases dx
  refine ⟨kb, rfl, ?_⟩
  cases kb with
  | true => exact b2 σ H1 ρ ω1 R Q (W.go g1) q1 fun v H2 e ω2 g2 dv q2 => k v H2 e ω2 (g1.trans g2) dv q2
  | false => exact k _ H1 _ ω1 g1 (.bl _) q1
theorem xor (ha : XE T X a wa) (hb : XE T X (.BoolOp .Or (b :: rest) pos) wb) : XE T X (.BoolOp .Or (a :: b :: rest) pos) (wOr wa wb) := by
  obtain ⟨ta, a1, a2⟩ := ha.ex
  obtain ⟨tb, b1, b2⟩ := hb.ex
  refine ⟨_, pe_or a1 b1, fun σ H ρ ω R Q W q k => ?_⟩
  refine a2 σ H ρ ω _ _ W q fun x H1 d ω1 g1 dx q1 => ?_
  obtain ⟨kb, e1, q1⟩ := q1
  subst e1
  cases dx
  refine ⟨kb, rfl, ?_⟩
  cases kb with
  | true => exact k _ H1 _ ω1 g1 (.bl _) q1
  | false => exact b2 σ H1 ρ ω1 R Q (W.go g1) q1 fun v H2 e ω2 g2 dv q2 => k v H2 e ω2 (g1.trans g2) dv q2
theorem xnot (ha : XE T X a wa) : XE T X (.UnaryOp .Not a pos) (wNot wa) := by
  obtain ⟨ta, a1, a2⟩ := ha.ex
  refine ⟨_, pe_not a1, fun σ H ρ ω R Q W q k => ?_⟩
  refine a2 σ H ρ ω _ _ W q fun x H1 d ω1 g1 dx q1 => ?_
  obtain ⟨kb, e1, q1⟩ := q1
  subst e1
  cases dx
  exact ⟨kb, rfl, k _ H1 _ ω1 g1 (.bl _) q1⟩
theorem xneg (ha : XE T X a wa) : XE T X (.UnaryOp .USub a pos) (w1 (fun d ω R => ∃ i, d = .int i ∧ R (.int (-i)) ω) wa) := by
  obtain ⟨ta, a1, a2⟩ := ha.ex
  refine ⟨_, pe_un un_neg a1, fun σ H ρ ω R Q W q k => ?_⟩
  refine a2 σ H ρ ω _ _ W q fun x H1 d ω1 g1 dx q1 => ?_
  obtain ⟨i, e1, q1⟩ := q1
  subst e1
  cases dx
  exact ⟨i, rfl, k _ H1 _ ω1 g1 (.int _) q1⟩
/-- tests -/
def wTB (w : WE) : WT := fun ρ ω R => w ρ ω fun d ω1 => ∃ k, d = .bl k ∧ R k ω1
theorem xtest {t : TE} {w : WE} (h : EvD K T t w) : EvT K T (tB t) (wTB w) := fun σ H ρ ω R Q W q k => h σ H ρ ω _ _ W q fun x H1 d ω1 g1 dx q1 => by
  obtain ⟨kb, e1, q1⟩ := q1
  subst e1
  cases dx
  exact ⟨kb, rfl, k _ H1 ω1 g1 q1⟩
/-- an expression that gives a truth, as a test: not for comparisons, and, or, not -/
theorem tval {w : WE} (h : XE T X e w) (he : ∀ whole, isTrue e X.env whole = (do let v ← whole; standAt e.pos; holding [v] (truthy v)) := by intro _; rfl) : XT T X e (wTB w) := by
  obtain ⟨t, h1, h2⟩ := h.ex
  exact ⟨_, pt_val h1 he, xtest h2⟩
/-- a list by its truth -/
theorem ttruth {w : WE} (h : XE T X e w) (he : ∀ whole, isTrue e X.env whole = (do let v ← whole; standAt e.pos; holding [v] (truthy v)) := by intro _; rfl) : XT T X e (fun ρ ω R => w ρ ω fun d ω1 => ∃ l, lstOf ω1 d = some l ∧ R (!l.isEmpty) ω1) := by
  obtain ⟨t, h1, h2⟩ := h.ex
  refine ⟨_, pt_truth h1 he, fun σ H ρ ω R Q W q k => h2 σ H ρ ω _ _ W q fun x H1 d ω1 g1 dx q1 => ?_⟩
  obtain ⟨l, e1, q1⟩ := q1
  obtain ⟨a, xs, rfl, hs, ha⟩ := lst_sq g1.cells dx e1
  refine ⟨!l.isEmpty, .inl ⟨xs, hs, ?_⟩, k _ H1 ω1 g1 q1⟩
  cases ha <;> rfl
theorem tcmp {op : CmpOp} {r : R2} {f : F2} (ho : OpR X (compareOp op) r) (hf : OpD X.K T r f) (ha : XE T X a wa) (hb : XE T X b wb) (hm : behindInMarks op b = false) : XT T X (.Compare a [op] [b] pos) (wTB (w2 f wa wb)) := by
  obtain ⟨ta, a1, a2⟩ := ha.ex
  obtain ⟨tb, b1, b2⟩ := hb.ex
  exact ⟨_, pt_cmpR ho a1 b1 hm, xtest (evD_2 a2 b2 hf)⟩
theorem tlt (ha : XE T X a wa) (hb : XE T X b wb) : XT T X (.Compare a [.Lt] [b] pos) (wTB (w2 fLt wa wb)) := tcmp op_lt (opD_I0 fun _ _ _ => .bl _) ha hb (nomark _)
theorem tle (ha : XE T X a wa) (hb : XE T X b wb) : XT T X (.Compare a [.LtE] [b] pos) (wTB (w2 fLe wa wb)) := tcmp op_le (opD_I0 fun _ _ _ => .bl _) ha hb (nomark _)
theorem tgt (ha : XE T X a wa) (hb : XE T X b wb) : XT T X (.Compare a [.Gt] [b] pos) (wTB (w2 fGt wa wb)) := tcmp op_gt (opD_I0 fun _ _ _ => .bl _) ha hb (nomark _)
theorem tge (ha : XE T X a wa) (hb : XE T X b wb) : XT T X (.Compare a [.GtE] [b] pos) (wTB (w2 fGe wa wb)) := tcmp op_ge (opD_I0 fun _ _ _ => .bl _) ha hb (nomark _)
theorem tltT {k : Nat} (hr : Room k X.A) (ha : XE T X a wa) (hb : XE T X b wb) : XT T X (.Compare a [.Lt] [b] pos) (wTB (w2 fLtT wa wb)) := tcmp (op_ltT hr.units0) opD_ltT ha hb (nomark _)
theorem teq {k : Nat} (hr : Room k X.A) (ha : XE T X a wa) (hb : XE T X b wb) : XT T X (.Compare a [.Eq] [b] pos) (wTB (w2 fEq wa wb)) := tcmp (op_eqP hr.units) opD_eq ha hb (nomark _)
theorem tne {k : Nat} (hr : Room k X.A) (ha : XE T X a wa) (hb : XE T X b wb) : XT T X (.Compare a [.NotEq] [b] pos) (wTB (w2 fNe wa wb)) := tcmp (op_neP hr.units) opD_ne ha hb (nomark _)
theorem tin {k : Nat} (hr : Room k X.A) (ha : XE T X a wa) (hb : XE T X b wb) (hm : behindInMarks .In b = false := by rfl) : XT T X (.Compare a [.In] [b] pos) (wTB (w2 (fIn false) wa wb)) := tcmp (op_inP hr.units) opD_in ha hb hm
theorem tnin {k : Nat} (hr : Room k X.A) (ha : XE T X a wa) (hb : XE T X b wb) (hm : behindInMarks .NotIn b = false := by rfl) : XT T X (.Compare a [.NotIn] [b] pos) (wTB (w2 (fIn true) wa wb)) := tcmp (op_notInP hr.units) opD_in ha hb hm
theorem tisN (ha : XE T X a wa) (hb : XE T X b wb) : XT T X (.Compare a [.Is] [b] pos) (wTB (w2 fIsN wa wb)) := tcmp op_isN (fun x y H d e ω R Q c t dx dy ⟨e1, q⟩ k => by
  subst e1
  cases dy
  refine ⟨rfl, ?_⟩
  rw [isN_v dx]
  exact k _ H _ ω (Go.refl c t) (.bl _) q) ha hb (nomark _)
theorem tnotN (ha : XE T X a wa) (hb : XE T X b wb) : XT T X (.Compare a [.IsNot] [b] pos) (wTB (w2 fNotN wa wb)) := tcmp op_notN (fun x y H d e ω R Q c t dx dy ⟨e1, q⟩ k => by
  subst e1
  cases dy
  refine ⟨rfl, ?_⟩
  rw [isN_v dx]
  exact k _ H _ ω (Go.refl c t) (.bl _) q) ha hb (nomark _)
def wtAnd (u v : WT) : WT := fun ρ ω R => u ρ ω fun b ω1 => if b = true then v ρ ω1 R else R false ω1
def wtOr (u v : WT) : WT := fun ρ ω R => u ρ ω fun b ω1 => if b = true then R true ω1 else v ρ ω1 R
def wtNot (u : WT) : WT := fun ρ ω R => u ρ ω fun b ω1 => R (!b) ω1
theorem twand1 {u : WT} (h : XT T X a u) : XW T X (.BoolOp .And [a] pos) u := by
  obtain ⟨t, h1, h2⟩ := h.ex
  exact ⟨_, pw_and1 h1, h2⟩
theorem twor1 {u : WT} (h : XT T X a u) : XW T X (.BoolOp .Or [a] pos) u := by
  obtain ⟨t, h1, h2⟩ := h.ex
  exact ⟨_, pw_or1 h1, h2⟩
theorem twand {u v : WT} (h : XT T X a u) (k : XW T X (.BoolOp .And (b :: rest) pos) v) : XW T X (.BoolOp .And (a :: b :: rest) pos) (wtAnd u v) := by
  obtain ⟨t, h1, h2⟩ := h.ex
  obtain ⟨s, k1, k2⟩ := k.ex
  refine ⟨_, pw_and h1 k1, fun σ H ρ ω R Q W q j => h2 σ H ρ ω _ _ W q fun b H1 ω1 g1 q1 => ?_⟩
  cases b with
  | true => exact k2 σ H1 ρ ω1 R Q (W.go g1) q1 fun c H2 ω2 g2 q2 => j c H2 ω2 (g1.trans g2) q2
  | false => exact j _ H1 ω1 g1 q1
theorem twor {u v : WT} (h : XT T X a u) (k : XW T X (.BoolOp .Or (b :: rest) pos) v) : XW T X (.BoolOp .Or (a :: b :: rest) pos) (wtOr u v) := by
  obtain ⟨t, h1, h2⟩ := h.ex
  obtain ⟨s, k1, k2⟩ := k.ex
  refine ⟨_, pw_or h1 k1, fun σ H ρ ω R Q W q j => h2 σ H ρ ω _ _ W q fun b H1 ω1 g1 q1 => ?_⟩
  cases b with
  | true => exact j _ H1 ω1 g1 q1
  | false => exact k2 σ H1 ρ ω1 R Q (W.go g1) q1 fun c H2 ω2 g2 q2 => j c H2 ω2 (g1.trans g2) q2
theorem tw {u : WT} (h : XW T X e u) : XT T X e u := by
  obtain ⟨t, h1, h2⟩ := h.ex
  exact ⟨_, h1.pt, h2⟩
theorem tnot {u : WT} (h : XT T X a u) : XT T X (.UnaryOp .Not a pos) (wtNot u) := by
  obtain ⟨t, h1, h2⟩ := h.ex
  exact ⟨_, pt_not h1, fun σ H ρ ω R Q W q j => h2 σ H ρ ω _ _ W q fun b H1 ω1 g1 q1 => j _ H1 ω1 g1 q1⟩
def wIf (u : WT) (wa wb : WE) : WE := fun ρ ω R => u ρ ω fun b ω1 => if b = true then wa ρ ω1 R else wb ρ ω1 R
theorem xif {u : WT} (hc : XT T X c u) (ha : XE T X a wa) (hb : XE T X b wb) : XE T X (.IfExp c a b pos) (wIf u wa wb) := by
  obtain ⟨t, h1, h2⟩ := hc.ex
  obtain ⟨ta, a1, a2⟩ := ha.ex
  obtain ⟨tb, b1, b2⟩ := hb.ex
  refine ⟨_, pe_ifExp h1 a1 b1, fun σ H ρ ω R Q W q j => h2 σ H ρ ω _ _ W q fun b H1 ω1 g1 q1 => ?_⟩
  cases b with
  | true => exact a2 σ H1 ρ ω1 R Q (W.go g1) q1 fun v H2 d ω2 g2 dv q2 => j v H2 d ω2 (g1.trans g2) dv q2
  | false => exact b2 σ H1 ρ ω1 R Q (W.go g1) q1 fun v H2 d ω2 g2 dv q2 => j v H2 d ω2 (g1.trans g2) dv q2

/-! ### arguments, displays -/
def waN : WA := fun _ ω R => R [] ω
def waC (w : WE) (r : WA) : WA := fun ρ ω R => w ρ ω fun d ω1 => r ρ ω1 fun ds ω2 => R (d :: ds) ω2
theorem xan : XA T X [] waN := ⟨_, pa_nil, fun σ H ρ ω R Q W q k => k [] H [] ω W.rfl' .nil rfl q⟩
theorem xac {w : WE} {r : WA} (he : XE T X e w) (hr : XA T X es r) (hs : starEach (e :: es) X.env = (false, eval e X.env) :: starEach es X.env := by rfl) : XA T X (e :: es) (waC w r) := by
  obtain ⟨t, h1, h2⟩ := he.ex
  obtain ⟨s, k1, k2⟩ := hr.ex
  refine ⟨_, pa_cons h1 k1 hs, fun σ H ρ ω R Q W q k => h2 σ H ρ ω _ _ W q fun v H1 d ω1 g1 dv q1 => ?_⟩
  exact k2 σ H1 ρ ω1 _ _ (W.go g1) q1 fun vs H2 ds ω2 g2 dvs hl q2 => k (v :: vs) H2 (d :: ds) ω2 (g1.trans g2) (.cons (Dv.mono g2.keep _ _ dv) dvs) (congrArg Nat.succ hl) q2
def wTup (w : WA) : WE := fun ρ ω R => w ρ ω fun ds ω1 => R (.tup ds) ω1
def wLst (w : WA) : WE := fun ρ ω R => w ρ ω fun ds ω1 => R (.lst ds) ω1
def wNew (w : WA) : WE := fun ρ ω R => w ρ ω fun ds ω1 => ∀ p, ω1 p = none → R (.ptr p) (ω1.set p (.lst ds))
theorem xtup {w : WA} {x1} (h : XA T X es w) (hl : es.length ≤ 100000 := by decide) : XE T X (.Tuple es x1 pos) (wTup w) := by
  obtain ⟨t, h1, h2⟩ := h.ex
  refine ⟨_, pe_tup h1, fun σ H ρ ω R Q W q k => h2 σ H ρ ω _ _ W q fun vs H1 ds ω1 g1 dvs hn q1 => ⟨big_line (by rw [dvs.length, hn]; exact hl), fun p hp => ?_⟩⟩
  have g := Go.new (o := .tup vs) g1.cells g1.tabs hp
  exact k _ _ _ ω1 (g1.trans g) (.tup (SqT.of (hid_new g1.cells hp)) (DvAll.mono g.keep _ _ dvs)) q1
theorem xlst {w : WA} (h : XA T X es w) (hl : es.length ≤ 100000 := by decide) : XE T X (.List es pos) (wLst w) := by
  obtain ⟨t, h1, h2⟩ := h.ex
  refine ⟨_, pe_lst h1, fun σ H ρ ω R Q W q k => h2 σ H ρ ω _ _ W q fun vs H1 ds ω1 g1 dvs hn q1 => ⟨big_line (by rw [dvs.length, hn]; exact hl), fun p hp => ?_⟩⟩
  have g := Go.new (o := .lst vs) g1.cells g1.tabs hp
  exact k _ _ _ ω1 (g1.trans g) (.lst (SqL.of (hid_new g1.cells hp)) (DvAll.mono g.keep _ _ dvs)) q1
theorem xnew {w : WA} (h : XA T X es w) (hl : es.length ≤ 100000 := by decide) : XE T X (.List es pos) (wNew w) := by
  obtain ⟨t, h1, h2⟩ := h.ex
  refine ⟨_, pe_lst h1, fun σ H ρ ω R Q W q k => h2 σ H ρ ω _ _ W q fun vs H1 ds ω1 g1 dvs hn q1 => ⟨big_line (by rw [dvs.length, hn]; exact hl), fun p hp => ?_⟩⟩
  have g := Go.newCell (o := .lst vs) (x := .lst ds) g1.cells g1.tabs hp fun kp => ⟨vs, upd_same, DvAll.mono kp _ _ dvs⟩
  exact k _ _ _ _ (g1.trans g) (.ptr p) (q1 p (g1.cells.free hp))
/-- a list that will not be changed any more -/
def FzK (R : Da → Om → Prop) : Da → Om → Prop := fun d ω1 => ∃ p l, d = .ptr p ∧ ω1 p = some (.lst l) ∧ R (.lst l) (ω1.del p)
def wFz (w : WE) : WE := fun ρ ω R => w ρ ω (FzK R)
theorem xfz {w : WE} (h : XE T X e w) : XE T X e (wFz w) := by
  obtain ⟨t, h1, h2⟩ := h.ex
  refine ⟨t, h1, fun σ H ρ ω R Q W q k => h2 σ H ρ ω _ _ W q fun v H1 d ω1 g1 dv q1 => ?_⟩
  obtain ⟨p, l, rfl, e1, q1⟩ := q1
  cases dv
  obtain ⟨xs, h3, h4⟩ := g1.cells p _ e1
  have g := Go.del (p := p) g1.cells g1.tabs
  exact k _ H1 _ _ (g1.trans g) (.lst (SqL.of (hid_of Om.del_same h3)) (DvAll.mono g.keep _ _ h4)) q1

/-! ### subscripts -/
def fIx : F2 := fun d e ω R => ∃ l i x, seqOf ω d = some l ∧ e = .int i ∧ atI l i = some x ∧ R x ω
theorem atI_dv {H : Hp} {xs : List V} {l : List Da} {i : Int} {x : Da} (h : DvAll K H xs l) (e : atI l i = some x) : ∃ v, atI xs i = some v ∧ Dv K H v x := by
  unfold atI at e ⊢
  rw [h.length]
  cases q : ixN l.length i with
  | none => rw [q] at e; cases e
  | some j =>
    rw [q] at e
    exact h.get' e
theorem opD_ix : OpD K T (rIx K) fIx := fun x y H d e ω R Q c t dx dy ⟨l, i, z, h1, h2, h3, q⟩ k => by
  subst h2
  cases dy
  obtain ⟨a, xs, rfl, hs, ha⟩ := seq_sq c dx h1
  obtain ⟨v, e1, dv⟩ := atI_dv ha h3
  rcases hs with hs | hs
  · exact .inl ⟨a, xs, i, v, rfl, rfl, hs, e1, k v H z ω (Go.refl c t) dv q⟩
  · exact .inr (.inl ⟨a, xs, i, v, rfl, rfl, hs, e1, k v H z ω (Go.refl c t) dv q⟩)
theorem xix (ha : XE T X a wa) (hb : XE T X b wb) (hs : PlainIx b := by exact fun _ _ => rfl) : XE T X (.Subscript a b pos) (w2 fIx wa wb) := by
  obtain ⟨ta, a1, a2⟩ := ha.ex
  obtain ⟨tb, b1, b2⟩ := hb.ex
  exact ⟨_, pe_ix ix_seq a1 b1 hs, evD_2 a2 b2 opD_ix⟩
end
end Dl
set_option maxHeartbeats 2000000
/-! Calls: defs by their promises over data, built-ins, methods of lists, slices, dicts. -/
namespace Dl
open PySem PySem.Spec PyProof.Rows L2

/-! ### defs -/
abbrev Dsp := List Da → Om → (Da → Om → Prop) → Prop
def spD (K : PySem.W.Frag) (T : Tb) (s : Dsp) : Sp := fun vs H Q _ => ∃ (ds : List Da) (ω : Om) (R : Da → Om → Prop), DvAll K (hid ω H) vs ds ∧ Cells K ω H ∧ LamX.Tabs T H ∧ s ds ω R ∧ ∀ v H' d ω', Go K T ω ω' H H' → Dv K (hid ω' H') v d → R d ω' → Q v H'
/-- the module's name x is a def of n parameters that keeps the promise s -/
structure Df (P : Program) (w : World) (K : PySem.W.Frag) (mg : Str → Option Value) (base : Heap) (T : Tb) (x : Str) (k : Nat) (s : Dsp) : Prop where
  ex : ∃ f fd ps, FnOk P w K mg base CX0 k f fd ps (spD K T s) ∧ Binds K fd ps [] ∧ mg x = some (.ref f) ∧ PySem.W.keepIn K (.ref f) = true
section
variable {T : Tb} {X : Cx} {a b c e o : Expr} {es rest : List Expr} {pos p : Pos} {wa wb wc : WE} {K : PySem.W.Frag}
def wCall (s : Dsp) (w : WA) : WE := fun ρ ω R => w ρ ω fun ds ω1 => s ds ω1 R
theorem evD_call {s : Dsp} {t : TA} {n : Nat} {w : WA} (h : EvA K T n t w) : EvD K T (tCall (spD K T s) [] E0 t) (wCall s w) := fun σ H ρ ω R Q W q k => h σ H ρ ω _ _ W q fun vs H1 ds ω1 g1 dvs hn q1 =>
  ⟨ds, ω1, R, by rw [List.append_nil]; exact dvs, g1.cells, g1.tabs, q1, fun v H2 d ω2 g2 dv q2 => k v H2 d ω2 (g1.trans g2) dv q2⟩
theorem xcall {x : Str} {k : Nat} {s : Dsp} {w : WA} (D : Df X.prog X.w X.K X.mg X.base T x k s) (hr : Room k X.A) (ha : XA T X (e :: es) w) (hg : Gl X x := by rfl) (hdb : (x == ("__debug__" : Str)) = false := by decide)
    (he : starEach (e :: es) X.env = (false, eval e X.env) :: starEach es X.env := by rfl) (hpl : (backTo pos (starEach es X.env)).any (·.1) = false := by rfl) : XE T X (.Call (.Name x p) (e :: es) [] pos) (wCall s w) := by
  obtain ⟨f, fd, ps, F, hb, hm, hk⟩ := D.ex
  obtain ⟨t, h1, h2⟩ := ha.ex
  exact ⟨_, pe_call F hr hg hm hk hb .nil pass0 h1 hdb he hpl, evD_call h2⟩
theorem Df.up {P : Program} {w : World} {mg : Str → Option Value} {base : Heap} {x : Str} {j k : Nat} {s : Dsp} (D : Df P w K mg base T x j s) (h : j ≤ k) : Df P w K mg base T x k s := by
  obtain ⟨f, fd, ps, F, r⟩ := D.ex
  exact ⟨f, fd, ps, F.mono h, r⟩
theorem Df.imp {P : Program} {w : World} {mg : Str → Option Value} {base : Heap} {x : Str} {k : Nat} {s s' : Dsp} (D : Df P w K mg base T x k s) (h : ∀ ds ω R, s' ds ω R → s ds ω R) : Df P w K mg base T x k s' := by
  obtain ⟨f, fd, ps, F, r⟩ := D.ex
  exact ⟨f, fd, ps, F.imp fun vs H Q E ⟨ds, ω, R, h1, h2, h3, h4, h5⟩ => ⟨ds, ω, R, h1, h2, h3, h _ _ _ h4, h5⟩, r⟩

/-! ### built-ins -/
abbrev FA := List Da → Om → (Da → Om → Prop) → Prop
def CallD (K : PySem.W.Frag) (T : Tb) (r : List V → Hp → VK → Prop) (f : FA) : Prop := ∀ (vs : List V) (H : Hp) (ds : List Da) (ω : Om) (R : Da → Om → Prop) (Q : VK), Cells K ω H → LamX.Tabs T H → DvAll K (hid ω H) vs ds → f ds ω R →
  (∀ v H' d' ω', Go K T ω ω' H H' → Dv K (hid ω' H') v d' → R d' ω' → Q v H') → r vs H Q
def wB (f : FA) (w : WA) : WE := fun ρ ω R => w ρ ω fun ds ω1 => f ds ω1 R
theorem evD_B {r : List V → Hp → VK → Prop} {f : FA} {t : TA} {n : Nat} {w : WA} (h : EvA K T n t w) (hf : CallD K T r f) : EvD K T (tCB r t) (wB f w) := fun σ H ρ ω R Q W q k => h σ H ρ ω _ _ W q fun vs H1 ds ω1 g1 dvs hn q1 =>
  hf vs H1 ds ω1 R Q g1.cells g1.tabs dvs q1 fun v H2 d ω2 g2 dv q2 => k v H2 d ω2 (g1.trans g2) dv q2
theorem xcallB {x : Str} {id : String} {r : List V → Hp → VK → Prop} {f : FA} {w : WA} (hc : CallR X (.builtin id) r) (hf : CallD X.K T r f) (hm : X.mg x = none) (hv : bootBuiltins x = some (.builtin id)) (ha : XA T X (e :: es) w) (hg : Gl X x) (hn : x ≠ "__name__" := by decide) (hdb : (x == ("__debug__" : Str)) = false := by decide)
    (he : starEach (e :: es) X.env = (false, eval e X.env) :: starEach es X.env := by rfl) (hpl : (backTo pos (starEach es X.env)).any (·.1) = false := by rfl) : XE T X (.Call (.Name x p) (e :: es) [] pos) (wB f w) := by
  obtain ⟨t, h1, h2⟩ := ha.ex
  exact ⟨_, pe_callB hc hg hm hv h1 hn hdb he hpl, evD_B h2 hf⟩
theorem xcallTy {x : Str} {id : String} {r : List V → Hp → VK → Prop} {f : FA} {w : WA} (hc : CallR X (.type id) r) (hf : CallD X.K T r f) (hm : X.mg x = none) (hv : bootBuiltins x = some (.type id)) (ha : XA T X (e :: es) w) (hg : Gl X x) (hn : x ≠ "__name__" := by decide) (hdb : (x == ("__debug__" : Str)) = false := by decide)
    (he : starEach (e :: es) X.env = (false, eval e X.env) :: starEach es X.env := by rfl) (hpl : (backTo pos (starEach es X.env)).any (·.1) = false := by rfl) : XE T X (.Call (.Name x p) (e :: es) [] pos) (wB f w) := by
  obtain ⟨t, h1, h2⟩ := ha.ex
  exact ⟨_, pe_callTy hc hg hm hv h1 hn hdb he hpl, evD_B h2 hf⟩
/-- the built-in x, called with at least one argument -/
def BiB (T : Tb) (X : Cx) (x : Str) (f : FA) : Prop :=
  X.mg x = none ∧ ((∃ id r, CallR X (.builtin id) r ∧ CallD X.K T r f ∧ bootBuiltins x = some (.builtin id)) ∨ ∃ id r, CallR X (.type id) r ∧ CallD X.K T r f ∧ bootBuiltins x = some (.type id))
theorem xbi {x : Str} {f : FA} {w : WA} (B : BiB T X x f) (ha : XA T X (e :: es) w) (hg : Gl X x := by rfl) (hn : x ≠ "__name__" := by decide) (hdb : (x == ("__debug__" : Str)) = false := by decide)
    (he : starEach (e :: es) X.env = (false, eval e X.env) :: starEach es X.env := by rfl) (hpl : (backTo pos (starEach es X.env)).any (·.1) = false := by rfl) : XE T X (.Call (.Name x p) (e :: es) [] pos) (wB f w) := by
  obtain ⟨hm, B⟩ := B
  rcases B with ⟨id, r, hc, hf, hv⟩ | ⟨id, r, hc, hf, hv⟩
  · exact xcallB hc hf hm hv ha hg hn hdb he hpl
  · exact xcallTy hc hf hm hv ha hg hn hdb he hpl
/-- len -/
def fLen : FA := fun ds ω R => ∃ d l, ds = [d] ∧ seqOf ω d = some l ∧ R (.int (l.length : Int)) ω
theorem dvAll1 {H : Hp} {vs : List V} {d : Da} (h : DvAll K H vs [d]) : ∃ v, vs = [v] ∧ Dv K H v d := by
  cases h with
  | cons h1 h2 => cases h2; exact ⟨_, rfl, h1⟩
theorem dvAll2 {H : Hp} {vs : List V} {d e : Da} (h : DvAll K H vs [d, e]) : ∃ v u, vs = [v, u] ∧ Dv K H v d ∧ Dv K H u e := by
  cases h with
  | cons h1 h2 =>
    obtain ⟨u, rfl, h3⟩ := dvAll1 h2
    exact ⟨_, u, rfl, h1, h3⟩
theorem callD_len : CallD K T (Evl.rLenS K) fLen := fun vs H ds ω R Q c t dvs ⟨d, l, e1, h1, q⟩ k => by
  subst e1
  obtain ⟨v, rfl, dv⟩ := dvAll1 dvs
  obtain ⟨a, xs, rfl, hs, ha⟩ := seq_sq c dv h1
  refine ⟨a, xs, rfl, hs, ?_⟩
  rw [ha.length]
  exact k _ H _ ω (Go.refl c t) (.int _) q
theorem bi_len (hm : X.mg "len" = none) : BiB T X "len" fLen := ⟨hm, .inl ⟨_, _, call_len_seq, callD_len, PySem.boot_len⟩⟩
/-- max, min of two, int -/
def fII (g : Int → Int → Int) : FA := fun ds ω R => ∃ i j, ds = [.int i, .int j] ∧ R (.int (g i j)) ω
theorem callD_II {g : Int → Int → Int} : CallD K T (fun xs H Q => ∃ i j, xs = [.int i, .int j] ∧ Q (.int (g i j)) H) (fII g) := fun vs H ds ω R Q c t dvs ⟨i, j, e1, q⟩ k => by
  subst e1
  obtain ⟨v, u, rfl, d1, d2⟩ := dvAll2 dvs
  cases d1
  cases d2
  exact ⟨i, j, rfl, k _ H _ ω (Go.refl c t) (.int _) q⟩
abbrev gMax (i j : Int) : Int := if j > i then j else i
abbrev gMin (i j : Int) : Int := if j < i then j else i
theorem bi_max2 (hc : X.calm = true) (hm : X.mg "max" = none) : BiB T X "max" (fII gMax) := ⟨hm, .inl ⟨_, _, call_max2 hc, callD_II, PyProof.Rows.boot_max⟩⟩
theorem bi_min2 (hc : X.calm = true) (hm : X.mg "min" = none) : BiB T X "min" (fII gMin) := ⟨hm, .inl ⟨_, _, call_min2 hc, callD_II, PyProof.Rows.boot_min⟩⟩
def b2 (k : Bool) : Int := if k then 1 else 0
def fInt : FA := fun ds ω R => (∃ i, ds = [.int i] ∧ R (.int i) ω) ∨ ∃ k, ds = [.bl k] ∧ R (.int (b2 k)) ω
theorem bi_int (hm : X.mg "int" = none) : BiB T X "int" fInt := ⟨hm, .inr ⟨_, _, call_int1, fun vs H ds ω R Q c t dvs q k => by
  rcases q with ⟨i, e1, q⟩ | ⟨i, e1, q⟩
  · subst e1
    obtain ⟨v, rfl, dv⟩ := dvAll1 dvs
    cases dv
    exact .inl ⟨i, rfl, k _ H _ ω (Go.refl c t) (.int _) q⟩
  · subst e1
    obtain ⟨v, rfl, dv⟩ := dvAll1 dvs
    cases dv
    exact .inr ⟨i, rfl, k _ H _ ω (Go.refl c t) (.int _) q⟩, PyProof.Rows.boot_int⟩⟩
/-- all of a list of truths -/
structure fAll (ds : List Da) (ω : Om) (R : Da → Om → Prop) : Prop where
  ex : ∃ d, ∃ bs : List Bool, ds = [d] ∧ lstOf ω d = some (bs.map .bl) ∧ R (.bl (bs.all id)) ω
theorem bi_all (hc : X.calm = true) (hm : X.mg "all" = none) : BiB T X "all" fAll := ⟨hm, .inl ⟨_, _, cr_all hc, fun vs H ds ω R Q c t dvs ⟨d, bs, e1, h1, q⟩ k => by
  subst e1
  obtain ⟨v, rfl, dv⟩ := dvAll1 dvs
  obtain ⟨a, xs, rfl, hs, ha⟩ := lst_sq c dv h1
  have z := ha.bls
  subst z
  exact ⟨a, bs, rfl, hs, k _ H _ ω (Go.refl c t) (.bl _) q⟩, PyProof.Rows.boot_all⟩⟩
/-- tuple(x) -/
theorem seq_cases {ω : Om} {d : Da} {l : List Da} (h : seqOf ω d = some l) : d = .tup l ∨ lstOf ω d = some l := by
  cases d with
  | tup m => cases h; exact .inl rfl
  | lst m => exact .inr h
  | ptr p => exact .inr h
  | _ => cases h
def fTuple : FA := fun ds ω R => ∃ d l, ds = [d] ∧ seqOf ω d = some l ∧ R (.tup l) ω
theorem bi_tuple (hm : X.mg "tuple" = none) : BiB T X "tuple" fTuple := ⟨hm, .inr ⟨_, _, call_tuple_of, fun vs H ds ω R Q c t dvs ⟨d, l, e1, h1, q⟩ k => by
  subst e1
  obtain ⟨v, rfl, dv⟩ := dvAll1 dvs
  rcases seq_cases h1 with e2 | h2
  · subst e2
    cases dv with
    | tup s1 a1 => exact ⟨_, _, rfl, .inr ⟨sqT_mono hid_le s1, k _ H _ ω (Go.refl c t) (.tup s1 a1) q⟩⟩
  · obtain ⟨a, xs, rfl, hs, ha⟩ := lst_sq c dv h2
    refine ⟨a, xs, rfl, .inl ⟨hs, fun p hp => ?_⟩⟩
    have g := Go.new (o := .tup xs) c t hp
    exact k _ _ _ ω g (.tup (SqT.of (hid_new c hp)) (DvAll.mono g.keep _ _ ha)) q, PyProof.Rows.boot_tuple⟩⟩
/-- list(x) of a list or a tuple: a new cell -/
def fList : FA := fun ds ω R => ∃ d l, ds = [d] ∧ seqOf ω d = some l ∧ ∀ p, ω p = none → R (.ptr p) (ω.set p (.lst l))
theorem bi_list (hm : X.mg "list" = none) : BiB T X "list" fList := ⟨hm, .inr ⟨_, _, call_list_of, fun vs H ds ω R Q c t dvs ⟨d, l, e1, h1, q⟩ k => by
  subst e1
  obtain ⟨v, rfl, dv⟩ := dvAll1 dvs
  obtain ⟨a, xs, rfl, hs, ha⟩ := seq_sq c dv h1
  refine ⟨a, xs, rfl, hs, fun p hp => ?_⟩
  have g := Go.newCell (o := .lst xs) (x := .lst l) c t hp fun kp => ⟨xs, upd_same, DvAll.mono kp _ _ ha⟩
  exact k _ _ _ _ g (.ptr p) (q p (c.free hp)), PyProof.Rows.boot_list⟩⟩
/-- list(d), sorted(d) of a dict's keys -/
def dctOf (ω : Om) : Da → Option (List (Int × Da))
  | .ptr p => match ω p with
    | some (.dct kvs) => some kvs
    | _ => none
  | _ => none
theorem dct_dk {ω : Om} {H : Hp} {v : V} {d : Da} {kvs : List (Int × Da)} (c : Cells K ω H) (r : Dv K (hid ω H) v d) (h : dctOf ω d = some kvs) : ∃ a ks, d = .ptr a ∧ v = .ref a ∧ ω a = some (.dct kvs) ∧ H a = some (.dK ks) ∧ KvD K (hid ω H) ks kvs := by
  cases r with
  | ptr a =>
    unfold dctOf at h
    cases e : ω a with
    | none => simp only [e] at h; cases h
    | some x =>
      have q := c a x e
      cases x with
      | dct l' =>
        simp only [e] at h
        cases h
        obtain ⟨xs, h1, h2⟩ := q
        exact ⟨a, xs, rfl, rfl, e, h1, h2⟩
      | _ => simp only [e] at h; cases h
  | _ => cases h
theorem KvD.keys {H : Hp} : ∀ {ks : List (Key × V)} {kvs : List (Int × Da)}, KvD K H ks kvs → ks.map (·.1) = (kvs.map (·.1)).map Sum.inl
  | _, _, .nil => rfl
  | _, _, .cons r t => by
    have e := KvD.keys t
    simp only [List.map_cons, e, r.1]
theorem KvD.kV {H : Hp} : ∀ {ks : List (Key × V)} {kvs : List (Int × Da)}, KvD K H ks kvs → (ks.map fun kv => kV kv.1) = (kvs.map (·.1)).map V.int
  | _, _, .nil => rfl
  | _, _, .cons r t => by
    have e := KvD.kV t
    simp only [List.map_cons, e, r.1]
    rfl
def fListD : FA := fun ds ω R => ∃ d kvs, ds = [d] ∧ dctOf ω d = some kvs ∧ R (.lst ((kvs.map (·.1)).map .int)) ω
theorem bi_listD (hc : X.calm = true) (hm : X.mg "list" = none) : BiB T X "list" fListD := ⟨hm, .inr ⟨_, _, call_list_dK hc, fun vs H ds ω R Q c t dvs ⟨d, kvs, e1, h1, q⟩ k => by
  subst e1
  obtain ⟨v, rfl, dv⟩ := dvAll1 dvs
  obtain ⟨a, ks, rfl, rfl, _, hk, hkv⟩ := dct_dk c dv h1
  refine ⟨a, ks, rfl, hk, fun p hp => ?_⟩
  rw [hkv.kV]
  have g := Go.new (o := .lst ((kvs.map (·.1)).map V.int)) c t hp
  exact k _ _ _ ω g (.lst (SqL.of (hid_new c hp)) (dvAll_ints _)) q, PyProof.Rows.boot_list⟩⟩
/-- sorted of ints: the list stands still from now on -/
structure fSortedI (ds : List Da) (ω : Om) (R : Da → Om → Prop) : Prop where
  ex : ∃ d, ∃ ns : List Int, ds = [d] ∧ lstOf ω d = some (ns.map .int) ∧ ∀ ns' : List Int, ns'.Perm ns → ns'.Pairwise (· ≤ ·) → R (.lst (ns'.map .int)) ω
theorem bi_sortedI (hm : X.mg "sorted" = none) : BiB T X "sorted" fSortedI := ⟨hm, .inl ⟨_, _, cr_sortedI, fun vs H ds ω R Q c t dvs ⟨d, ns, e1, h1, q⟩ k => by
  subst e1
  obtain ⟨v, rfl, dv⟩ := dvAll1 dvs
  obtain ⟨a, xs, rfl, hs, ha⟩ := lst_sq c dv h1
  have z := ha.ints
  subst z
  refine ⟨a, ns, rfl, hs, fun ns' p h2 h3 hp => ?_⟩
  have g := Go.new (o := .lst (ns'.map V.int)) c t hp
  exact k _ _ _ ω g (.lst (SqL.of (hid_new c hp)) (dvAll_ints _)) (q ns' h2 h3), PyProof.Rows.boot_sorted⟩⟩
def fSortedD : FA := fun ds ω R => ∃ d kvs, ds = [d] ∧ dctOf ω d = some kvs ∧ kvs.length < 64 ∧ ∀ ns' : List Int, ns'.Perm (kvs.map (·.1)) → ns'.Pairwise (· ≤ ·) → R (.lst (ns'.map .int)) ω
theorem bi_sortedD (hc : X.calm = true) (hm : X.mg "sorted" = none) : BiB T X "sorted" fSortedD := ⟨hm, .inl ⟨_, _, call_sortedDI hc, fun vs H ds ω R Q c t dvs ⟨d, kvs, e1, h1, hl, q⟩ k => by
  subst e1
  obtain ⟨v, rfl, dv⟩ := dvAll1 dvs
  obtain ⟨a, ks, rfl, rfl, _, hk, hkv⟩ := dct_dk c dv h1
  refine ⟨a, ks, kvs.map (·.1), rfl, .inl hk, hkv.keys, by rw [List.length_map]; exact hl, fun ns' p h2 h3 hp => ?_⟩
  have g := Go.new (o := .lst (ns'.map V.int)) c t hp
  exact k _ _ _ ω g (.lst (SqL.of (hid_new c hp)) (dvAll_ints _)) (q ns' h2 h3), PyProof.Rows.boot_sorted⟩⟩
/-- isinstance(x, T): T a built-in class -/
def tyOf (ω : Om) : Da → Option String
  | .non => some "NoneType"
  | .bl _ => some "bool"
  | .int _ => some "int"
  | .str _ => some "str"
  | .tup _ => some "tuple"
  | .lst _ => some "list"
  | .ptr _ => none
  | .tupN _ => none
  | .fdct _ => none
  | .lam _ _ _ => none
theorem tyX_of {ω : Om} {H : Hp} {v : V} {d : Da} {s : String} (r : Dv K (hid ω H) v d) (h : tyOf ω d = some s) : TyX K H v (.type s) := by
  cases r with
  | non => cases h; exact .base .non
  | bl _ => cases h; exact .base (.bl _)
  | int _ => cases h; exact .base (.int _)
  | str _ => cases h; exact .base (.str _)
  | tup hs _ =>
    cases h
    rcases sqT_mono hid_le hs with (h | ⟨o, h⟩) | ⟨o, its, n, h1, h2, _⟩
    · exact .base (.tup h)
    · exact .fTuple h
    · exact .kTuple h1 h2
  | lst hs _ =>
    cases h
    rcases sqL_mono hid_le hs with (h | ⟨o, h⟩) | ⟨o, its, n, h1, h2, _⟩
    · exact .base (.lst h)
    · exact .base (.frz h)
    · exact .kList h1 h2
  | ptr _ => cases h
  | tupN _ _ _ => cases h
  | fdct _ => cases h
  | lam _ => cases h
def fIsi (B : String) : F1 := fun d ω R => ∃ s b, tyOf ω d = some s ∧ kitB s B = some b ∧ R (.bl b) ω
theorem xisi {B : String} {x2 : Str} {p2 : Pos} (hm : X.mg "isinstance" = none) (hm2 : X.mg x2 = none) (hv : bootBuiltins x2 = some (.type B)) (ha : XE T X a wa) (hg : Gl X "isinstance" := by rfl) (hg2 : Gl X x2 := by rfl) (hn2 : x2 ≠ "__name__" := by decide) (hd2 : (x2 == ("__debug__" : Str)) = false := by decide)
    (he : starEach (a :: [.Name x2 p2]) X.env = (false, eval a X.env) :: starEach [.Name x2 p2] X.env := by rfl) (he2 : starEach [.Name x2 p2] X.env = (false, eval (.Name x2 p2) X.env) :: starEach [] X.env := by rfl) (hpl : (backTo pos (starEach [.Name x2 p2] X.env)).any (·.1) = false := by rfl) :
    XE T X (.Call (.Name "isinstance" p) [a, .Name x2 p2] [] pos) (w1 (fIsi B) wa) := by
  obtain ⟨ta, a1, a2⟩ := ha.ex
  refine ⟨_, pe_callB call_isi hg hm PyProof.Rows.boot_isinstance (pa_cons a1 (pa_cons (pe_bltn (v := .ty B) hg2 hm2 hv rfl hn2 hd2) pa_nil he2) he) (he := he) (hpl := hpl), fun σ H ρ ω R Q W q k => ?_⟩
  refine a2 σ H ρ ω _ _ W q fun x H1 d ω1 g1 dx q1 => ?_
  obtain ⟨s, b, h1, h2, q1⟩ := q1
  exact ⟨x, .ty B, .type s, .type B, b, rfl, .ty B, tyX_of dx h1, kit_ty h2, k _ H1 _ ω1 g1 (.bl _) q1⟩

/-! ### tuple(range(a)) -/
def wTRg (wa : WE) : WE := fun ρ ω R => wa ρ ω fun d ω1 => ∃ n : Int, d = .int n ∧ 0 ≤ n ∧ n ≤ 100000 ∧ R (.tup ((List.range n.toNat).map fun i => .int (i : Nat))) ω1
theorem xtupRg {p1 pos1 : Pos} (hc : X.calm = true) (hm : X.mg "tuple" = none) (hm2 : X.mg "range" = none) (ha : XE T X a wa) (hg : Gl X "tuple" := by rfl) (hg2 : Gl X "range" := by rfl) (na : starEach [a] X.env = (false, eval a X.env) :: starEach [] X.env := by rfl)
    (ne : starEach [.Call (.Name "range" p1) [a] [] pos1] X.env = (false, eval (.Call (.Name "range" p1) [a] [] pos1) X.env) :: starEach [] X.env := by rfl) : XE T X (.Call (.Name "tuple" p) [.Call (.Name "range" p1) [a] [] pos1] [] pos) (wTRg wa) := by
  obtain ⟨ta, a1, a2⟩ := ha.ex
  refine ⟨_, pe_tupRg hc hg hm (prg_1 hg2 hm2 a1 na) ne, fun σ H ρ ω R Q W q k => ?_⟩
  refine a2 σ H ρ ω _ _ W q fun x H1 d ω1 g1 dx q1 => ?_
  obtain ⟨n, rfl, h0, h1, q1⟩ := q1
  cases dx
  refine ⟨n, rfl, RgOk.of_le (Int.le_refl 0) (by omega) (by omega) h0, fun p hp => ?_⟩
  have g := Go.new (o := .tup (rgV 0 n)) g1.cells g1.tabs hp
  refine k _ _ _ ω1 (g1.trans g) (.tup (SqT.of (hid_new g1.cells hp)) ?_) q1
  have e : rgV 0 n = ((List.range n.toNat).map fun i => ((i : Nat) : Int)).map V.int := by
    unfold rgV
    rw [List.map_map, Int.sub_zero]
    exact List.map_congr_left fun i _ => by show V.int (0 + (i : Int)) = V.int (i : Int); rw [Int.zero_add]
  have e2 : ((List.range n.toNat).map fun i => Da.int (i : Nat)) = ((List.range n.toNat).map fun i => ((i : Nat) : Int)).map Da.int := by
    rw [List.map_map]; rfl
  rw [e, e2]
  exact dvAll_ints _

/-! ### methods of lists -/
def MtD (K : PySem.W.Frag) (T : Tb) (r : V → List V → Hp → VK → Prop) (f : Da → List Da → Om → (Da → Om → Prop) → Prop) : Prop := ∀ (x : V) (vs : List V) (H : Hp) (d : Da) (ds : List Da) (ω : Om) (R : Da → Om → Prop) (Q : VK), Cells K ω H → LamX.Tabs T H → Dv K (hid ω H) x d → DvAll K (hid ω H) vs ds → f d ds ω R →
  (∀ v H' d' ω', Go K T ω ω' H H' → Dv K (hid ω' H') v d' → R d' ω' → Q v H') → r x vs H Q
/-- o.m(e, ..), o a list; its kind is looked at ahead of the arguments -/
def wM (f : Da → List Da → Om → (Da → Om → Prop) → Prop) (wo : WE) (w : WA) : WE := fun ρ ω R => wo ρ ω fun d ω1 => (∃ l, lstOf ω1 d = some l) ∧ w ρ ω1 fun ds ω2 => f d ds ω2 R
def wM0 (f : Da → List Da → Om → (Da → Om → Prop) → Prop) (wo : WE) : WE := fun ρ ω R => wo ρ ω fun d ω1 => (∃ l, lstOf ω1 d = some l) ∧ f d [] ω1 R
theorem xmeth {name : Str} {apos : Pos} {id : String} {r : V → List V → Hp → VK → Prop} {f : Da → List Da → Om → (Da → Om → Prop) → Prop} {wo : WE} {w : WA} (slot : Slot "list" name id) (hty : typeOf (.builtin id) = pure (.type "method_descriptor")) (hm : MtR X id r) (hf : MtD X.K T r f) (ho : XE T X o wo) (ha : XA T X (e :: es) w)
    (hbase : attributeBase o name X.env (eval o X.env) = eval o X.env := by rfl)
    (hfew : ((backTo pos (starEach (e :: es) X.env)).all (fun x => !x.1) && (backToKw pos (keywordEach [] X.env)).all (fun x => x.1.isSome)
      && decide ((e :: es).length + ([] : List Keyword).length + (if ([] : List Keyword).isEmpty then 0 else 1) < 30)) = true := by rfl)
    (hline : (apos.endLine == pos.line) = true := by rfl) (hs : starEach (e :: es) X.env = (false, eval e X.env) :: starEach es X.env := by rfl) (hplain : (backTo pos (starEach es X.env)).any (·.1) = false := by rfl) :
    XE T X (.Call (.Attribute o name apos) (e :: es) [] pos) (wM f wo w) := by
  obtain ⟨t, o1, o2⟩ := ho.ex
  obtain ⟨s, a1, a2⟩ := ha.ex
  refine ⟨_, pe_bm PySem.F.plainAttrs_list slot hty hm o1 a1 hbase hfew hline hs hplain, fun σ H ρ ω R Q W q k => ?_⟩
  refine o2 σ H ρ ω _ _ W q fun x H1 d ω1 g1 dx q1 => ?_
  obtain ⟨⟨l, hl⟩, q1⟩ := q1
  obtain ⟨a, xs, rfl, hsq, _⟩ := lst_sq g1.cells dx hl
  refine ⟨.inl ⟨rfl, xs, hsq⟩, ?_⟩
  refine a2 σ H1 ρ ω1 _ _ (W.go g1) q1 fun vs H2 ds ω2 g2 dvs hn q2 => ?_
  exact hf _ vs H2 d ds ω2 R Q g2.cells g2.tabs (Dv.mono g2.keep _ _ dx) dvs q2 fun v H3 d3 ω3 g3 dv q3 => k v H3 d3 ω3 ((g1.trans g2).trans g3) dv q3
theorem xmeth0 {name : Str} {apos : Pos} {id : String} {r : V → List V → Hp → VK → Prop} {f : Da → List Da → Om → (Da → Om → Prop) → Prop} {wo : WE} (slot : Slot "list" name id) (hty : typeOf (.builtin id) = pure (.type "method_descriptor")) (hm : MtR X id r) (hf : MtD X.K T r f) (ho : XE T X o wo)
    (hbase : attributeBase o name X.env (eval o X.env) = eval o X.env := by rfl) (hline : (apos.endLine == pos.line) = true := by rfl) :
    XE T X (.Call (.Attribute o name apos) [] [] pos) (wM0 f wo) := by
  obtain ⟨t, o1, o2⟩ := ho.ex
  refine ⟨_, pe_bm0 PySem.F.plainAttrs_list slot hty hm o1 hbase hline, fun σ H ρ ω R Q W q k => ?_⟩
  refine o2 σ H ρ ω _ _ W q fun x H1 d ω1 g1 dx q1 => ?_
  obtain ⟨⟨l, hl⟩, q1⟩ := q1
  obtain ⟨a, xs, rfl, hsq, _⟩ := lst_sq g1.cells dx hl
  refine ⟨.inl ⟨rfl, xs, hsq⟩, ?_⟩
  exact hf _ [] H1 d [] ω1 R Q g1.cells g1.tabs dx .nil q1 fun v H3 d3 ω3 g3 dv q3 => k v H3 d3 ω3 (g1.trans g3) dv q3
theorem cell_lst {ω : Om} {H : Hp} {p : Addr} {l : List Da} (c : Cells K ω H) (h : ω p = some (.lst l)) : ∃ xs, H p = some (.lst xs) ∧ DvAll K (hid ω H) xs l := c p _ h
theorem kp_dv {ω : Om} {H : Hp} {p : Addr} {c y : Cel} {o : HO} (h : ω p = some y) : Kp (hid ω H) (hid (ω.set p c) (upd H p o)) := fun a u e _ => by
  obtain ⟨e1, e2⟩ := hid_some e
  have ne : a ≠ p := fun z => by subst z; rw [h] at e1; cases e1
  exact hid_of (by rw [Om.set_ne ne]; exact e1) (by rw [upd_ne ne]; exact e2)
def fAppend : Da → List Da → Om → (Da → Om → Prop) → Prop := fun d ds ω R => ∃ p l e, d = .ptr p ∧ ds = [e] ∧ ω p = some (.lst l) ∧ l.length < 100000 ∧ R .non (ω.set p (.lst (l ++ [e])))
theorem mtD_append : MtD K T rAppend fAppend := fun x vs H d ds ω R Q c t dx dvs ⟨p, l, e, e1, e2, h1, hl, q⟩ k => by
  subst e1 e2
  cases dx
  obtain ⟨v, rfl, dv⟩ := dvAll1 dvs
  obtain ⟨xs, hx, ha⟩ := cell_lst c h1
  have g := Go.write (o := .lst (xs ++ [v])) (x := .lst (l ++ [e])) c t h1 fun kp => ⟨_, upd_same, DvAll.mono kp _ _ (ha.append (.cons dv .nil))⟩
  exact ⟨p, xs, v, rfl, rfl, hx, by rw [ha.length]; exact big_lt hl, k _ _ _ _ g .non q⟩
def fExtend : Da → List Da → Om → (Da → Om → Prop) → Prop := fun d ds ω R => ∃ p l m, d = .ptr p ∧ ds = [.lst m] ∧ ω p = some (.lst l) ∧ l.length + m.length ≤ 100000 ∧ R .non (ω.set p (.lst (l ++ m)))
def fPop : Da → List Da → Om → (Da → Om → Prop) → Prop := fun d ds ω R => ∃ p l e, d = .ptr p ∧ ds = [] ∧ ω p = some (.lst (l ++ [e])) ∧ R e (ω.set p (.lst l))
theorem mtD_pop : MtD K T rPop fPop := fun x vs H d ds ω R Q c t dx dvs ⟨p, l, e, e1, e2, h1, q⟩ k => by
  subst e1 e2
  cases dx
  cases dvs
  obtain ⟨xs, hx, ha⟩ := cell_lst c h1
  have hn : xs.length = l.length + 1 := by rw [ha.length, List.length_append]; rfl
  obtain ⟨v, hv, dv⟩ := ha.get' (i := xs.length - 1) (d := e) (by rw [hn, Nat.add_sub_cancel, List.getElem?_append_right (Nat.le_refl _), Nat.sub_self]; rfl)
  have hd : DvAll K (hid ω H) xs.dropLast l := by
    have z := ha.dropLast
    rw [List.dropLast_concat] at z
    exact z
  have g := Go.write (o := .lst xs.dropLast) (x := .lst l) c t h1 fun kp => ⟨_, upd_same, DvAll.mono kp _ _ hd⟩
  exact ⟨p, xs, v, rfl, rfl, hx, hv, k _ _ _ _ g (Dv.mono g.keep _ _ dv) q⟩
def fPopAt : Da → List Da → Om → (Da → Om → Prop) → Prop := fun d ds ω R => ∃ p l i e, ∃ j : Nat, d = .ptr p ∧ ds = [.int i] ∧ i = (j : Int) ∧ j < 100000 ∧ ω p = some (.lst l) ∧ l[j]? = some e ∧ R e (ω.set p (.lst (l.eraseIdx j)))
theorem mtD_popAt : MtD K T rPopAt fPopAt := fun x vs H d ds ω R Q c t dx dvs ⟨p, l, i, e, j, e1, e2, e3, hj, h1, h2, q⟩ k => by
  subst e1 e2 e3
  cases dx
  obtain ⟨v, rfl, dv⟩ := dvAll1 dvs
  cases dv
  obtain ⟨xs, hx, ha⟩ := cell_lst c h1
  obtain ⟨y, hy, dy⟩ := ha.get' h2
  have hlt : j < xs.length := (List.getElem?_eq_some_iff.mp hy).1
  have g := Go.write (o := .lst (xs.eraseIdx j)) (x := .lst (l.eraseIdx j)) c t h1 fun kp => ⟨_, upd_same, DvAll.mono kp _ _ (ha.eraseIdx j)⟩
  refine ⟨p, xs, j, j, y, rfl, rfl, hx, by omega, by omega, (ixN_seq (n := xs.length) (i := (j : Int)) (j := j) ?_).1, hy, k _ _ _ _ g (Dv.mono g.keep _ _ dy) q⟩
  unfold ixN
  rw [if_pos (Int.natCast_nonneg j), if_pos (by omega), Int.toNat_natCast]
theorem xappend {apos : Pos} {wo : WE} {w : WA} (ho : XE T X o wo) (ha : XA T X [e] w) (hbase : attributeBase o "append" X.env (eval o X.env) = eval o X.env := by rfl)
    (hfew : ((backTo pos (starEach (e :: []) X.env)).all (fun x => !x.1) && (backToKw pos (keywordEach [] X.env)).all (fun x => x.1.isSome)
      && decide ((e :: ([] : List Expr)).length + ([] : List Keyword).length + (if ([] : List Keyword).isEmpty then 0 else 1) < 30)) = true := by rfl)
    (hline : (apos.endLine == pos.line) = true := by rfl) (hs : starEach (e :: []) X.env = (false, eval e X.env) :: starEach [] X.env := by rfl) :
    XE T X (.Call (.Attribute o "append" apos) [e] [] pos) (wM fAppend wo w) := xmeth PySem.F.slot_list_append PySem.F.type_list_append mt_append mtD_append ho ha hbase hfew hline hs rfl
theorem xpop {apos : Pos} {wo : WE} (ho : XE T X o wo) (hbase : attributeBase o "pop" X.env (eval o X.env) = eval o X.env := by rfl) (hline : (apos.endLine == pos.line) = true := by rfl) :
    XE T X (.Call (.Attribute o "pop" apos) [] [] pos) (wM0 fPop wo) := xmeth0 PySem.F.slot_list_pop PySem.F.type_list_pop mt_pop mtD_pop ho hbase hline
theorem xpopAt {apos : Pos} {wo : WE} {w : WA} (ho : XE T X o wo) (ha : XA T X [e] w) (hbase : attributeBase o "pop" X.env (eval o X.env) = eval o X.env := by rfl)
    (hfew : ((backTo pos (starEach (e :: []) X.env)).all (fun x => !x.1) && (backToKw pos (keywordEach [] X.env)).all (fun x => x.1.isSome)
      && decide ((e :: ([] : List Expr)).length + ([] : List Keyword).length + (if ([] : List Keyword).isEmpty then 0 else 1) < 30)) = true := by rfl)
    (hline : (apos.endLine == pos.line) = true := by rfl) (hs : starEach (e :: []) X.env = (false, eval e X.env) :: starEach [] X.env := by rfl) :
    XE T X (.Call (.Attribute o "pop" apos) [e] [] pos) (wM fPopAt wo w) := xmeth PySem.F.slot_list_pop PySem.F.type_list_pop mt_popAt mtD_popAt ho ha hbase hfew hline hs rfl
end
end Dl
set_option maxHeartbeats 2000000
/-! Statements, targets, loops, comprehensions, a def's body. -/
namespace Dl
open PySem PySem.Spec PyProof.Rows L2

structure En where
  nx : Rho → Om → Prop
  rt : Da → Om → Prop
  bk : Rho → Om → Prop := fun _ _ => False
  ct : Rho → Om → Prop := fun _ _ => False
abbrev WS := En → Rho → Om → Prop
structure Cov (K : PySem.W.Frag) (T : Tb) (E : En) (D : Ends) (ω : Om) (H : Hp) : Prop where
  nx : ∀ σ' H' ρ' ω', Go K T ω ω' H H' → Wd K T σ' ρ' ω' H' → E.nx ρ' ω' → D.nx σ' H'
  rt : ∀ v H' d ω', Go K T ω ω' H H' → Dv K (hid ω' H') v d → E.rt d ω' → D.rt v H'
  bk : ∀ σ' H' ρ' ω', Go K T ω ω' H H' → Wd K T σ' ρ' ω' H' → E.bk ρ' ω' → D.bk σ' H'
  ct : ∀ σ' H' ρ' ω', Go K T ω ω' H H' → Wd K T σ' ρ' ω' H' → E.ct ρ' ω' → D.ct σ' H'
def EvS (K : PySem.W.Frag) (T : Tb) (t : TS) (w : WS) : Prop := ∀ (σ : L2.St) (H : Hp) (ρ : Rho) (ω : Om) (E : En) (D : Ends), Wd K T σ ρ ω H → w E ρ ω → Cov K T E D ω H → t D σ H
structure XS (T : Tb) (X : Cx) (st : Stmt) (w : WS) : Prop where
  ex : ∃ t, PS X st t ∧ EvS X.K T t w
structure XSs (T : Tb) (X : Cx) (st : List Stmt) (w : WS) : Prop where
  ex : ∃ t, PSs X st t ∧ EvS X.K T t w
section
variable {K : PySem.W.Frag} {T : Tb} {E : En} {D : Ends} {ω ω' : Om} {H H' : Hp}
theorem Cov.go (c : Cov K T E D ω H) (g : Go K T ω ω' H H') : Cov K T E D ω' H' :=
  ⟨fun σ H2 ρ ω2 h => c.nx σ H2 ρ ω2 (g.trans h), fun v H2 d ω2 h => c.rt v H2 d ω2 (g.trans h), fun σ H2 ρ ω2 h => c.bk σ H2 ρ ω2 (g.trans h), fun σ H2 ρ ω2 h => c.ct σ H2 ρ ω2 (g.trans h)⟩
end
section
variable {T : Tb} {X : Cx} {a b c e o : Expr} {es : List Expr} {pos p pos' : Pos} {wa wb wc we : WE} {K : PySem.W.Frag} {st : Stmt} {sts rest : List Stmt}

/-! ### blocks -/
def wSeq (w r : WS) : WS := fun E ρ ω => w { E with nx := fun ρ' ω' => r E ρ' ω' } ρ ω
def wSkip : WS := fun E ρ ω => E.nx ρ ω
theorem ssn : XSs T X [] wSkip := ⟨_, pss_nil, fun σ H ρ ω E D W q c => c.nx σ H ρ ω W.rfl' W q⟩
theorem ss1 {w : WS} (h : XS T X st w) : XSs T X [st] w := by
  obtain ⟨t, h1, h2⟩ := h.ex
  exact ⟨_, pss_one h1, h2⟩
theorem ssc {w r : WS} (h : XS T X st w) (k : XSs T X rest r) : XSs T X (st :: rest) (wSeq w r) := by
  obtain ⟨t, h1, h2⟩ := h.ex
  obtain ⟨s, k1, k2⟩ := k.ex
  refine ⟨_, pss_cons h1 k1, fun σ H ρ ω E D W q c => h2 σ H ρ ω _ _ W q ⟨fun σ' H' ρ' ω' g W' q' => ?_, c.rt, c.bk, c.ct⟩⟩
  exact k2 σ' H' ρ' ω' E D W' q' (c.go g)
theorem snever : XS T X st (fun _ _ _ => False) := ⟨_, ps_never, fun σ H ρ ω E D W q c => q⟩
def wRet (w : WE) : WS := fun E ρ ω => w ρ ω E.rt
theorem sret {w : WE} (h : XE T X e w) : XS T X (.Return (some e) pos) (wRet w) := by
  obtain ⟨t, h1, h2⟩ := h.ex
  exact ⟨_, ps_ret h1, fun σ H ρ ω E D W q c => h2 σ H ρ ω _ _ W q fun v H' d ω' g dv q' => c.rt v H' d ω' g dv q'⟩
theorem spass : XS T X (.Pass pos) wSkip := ⟨_, ps_pass, fun σ H ρ ω E D W q c => c.nx σ H ρ ω W.rfl' W q⟩
def wDrop (w : WE) : WS := fun E ρ ω => w ρ ω fun _ ω' => E.nx ρ ω'
theorem sexpr {w : WE} (h : XE T X e w) (hs : swapsWith e none pos.line X.env = pure false := by rfl) : XS T X (.Expr e pos) (wDrop w) := by
  obtain ⟨t, h1, h2⟩ := h.ex
  exact ⟨_, ps_expr h1 hs, fun σ H ρ ω E D W q c => h2 σ H ρ ω _ _ W q fun v H' d ω' g dv q' => c.nx σ H' ρ ω' g (W.go g) q'⟩
def wIfS (u : WT) (w r : WS) : WS := fun E ρ ω => u ρ ω fun b ω1 => if b = true then w E ρ ω1 else r E ρ ω1
theorem sif {u : WT} {sa sb : List Stmt} {w r : WS} (h : XT T X c u) (ha : XSs T X sa w) (hb : XSs T X sb r) : XS T X (.If c sa sb pos) (wIfS u w r) := by
  obtain ⟨t, h1, h2⟩ := h.ex
  obtain ⟨ta, a1, a2⟩ := ha.ex
  obtain ⟨tb, b1, b2⟩ := hb.ex
  refine ⟨_, ps_if h1 a1 b1, fun σ H ρ ω E D W q c => h2 σ H ρ ω _ _ W q fun b H' ω' g q' => ?_⟩
  cases b with
  | true => exact a2 σ H' ρ ω' E D (W.go g) q' (c.go g)
  | false => exact b2 σ H' ρ ω' E D (W.go g) q' (c.go g)

/-! ### targets -/
abbrev WG := Da → Rho → (Rho → Prop) → Prop
abbrev WGs := List Da → Rho → (Rho → Prop) → Prop
def wipeR (ρ : Rho) : List Nat → Rho
  | [] => ρ
  | v :: vs => (wipeR ρ vs).set v none
/-- the target stores at the places «is» -/
structure XG (T : Tb) (X : Cx) (tg : Expr) (is : List Nat) (w : WG) : Prop where
  ex : ∃ g, PG X tg g ∧ ∀ (v : V) (d : Da) (σ : L2.St) (H : Hp) (ρ : Rho) (ω : Om) (R : Rho → Prop) (Q : L2.St → Hp → Prop), Wd X.K T σ ρ ω H → Dv X.K (hid ω H) v d → w d ρ R →
    (∀ σ' ρ', Wd X.K T σ' ρ' ω H → (∀ vs, (∀ i ∈ is, i ∈ vs) → wipe σ' vs = wipe σ vs) → R ρ' → Q σ' H) → g v σ H Q
structure XGs (T : Tb) (X : Cx) (tg : List Expr) (is : List Nat) (w : WGs) : Prop where
  ex : ∃ g, PGs X tg g ∧ ∀ (vs : List V) (ds : List Da) (σ : L2.St) (H : Hp) (ρ : Rho) (ω : Om) (R : Rho → Prop) (Q : L2.St → Hp → Prop), Wd X.K T σ ρ ω H → DvAll X.K (hid ω H) vs ds → w ds ρ R →
    (∀ σ' ρ', Wd X.K T σ' ρ' ω H → (∀ vs, (∀ i ∈ is, i ∈ vs) → wipe σ' vs = wipe σ vs) → R ρ' → Q σ' H) → g vs σ H Q
theorem set_none_set {α : Type} {l : List (Option α)} {i : Nat} {x y : Option α} : (l.set i x).set i y = l.set i y := by rw [List.set_set]
theorem wipe_set {σ : L2.St} {i : Nat} {x : Option V} : ∀ {vs : List Nat}, i ∈ vs → wipe (σ.set i x) vs = wipe σ vs
  | [], h => by cases h
  | v :: vs, h => by
    unfold wipe
    by_cases hi : i ∈ vs
    · rw [wipe_set hi]
    · have e : i = v := by
        rcases List.mem_cons.mp h with e | e
        · exact e
        · exact absurd e hi
      subst e
      have key : ∀ ws : List Nat, i ∉ ws → wipe (σ.set i x) ws = (wipe σ ws).set i x := by
        intro ws
        induction ws with
        | nil => intro _; rfl
        | cons u us ih =>
          intro hu
          have h1 : i ≠ u := fun z => hu (by rw [z]; exact List.mem_cons_self)
          have h2 : i ∉ us := fun z => hu (List.mem_cons_of_mem _ z)
          unfold wipe
          rw [ih h2, List.set_comm _ _ h1]
      rw [key vs hi, List.set_set]
def gN (i : Nat) : WG := fun d ρ R => R (ρ.set i (some d))
theorem xg (i : Nat) {x : Str} (hN : X.N.Nodup) (hi : X.N[i]? = some x := by rfl) (hx : Loc X.env.scope x := by first | exact .inl rfl | exact .inr rfl) (hf : X.fn x = true ∨ X.env.scope.names.lookup x = some .local := by first | exact .inl rfl | exact .inr rfl) : XG T X (.Name x pos) [i] (gN i) :=
  ⟨_, pg_name hN hi hx hf, fun v d σ H ρ ω R Q W dv q k => k _ _ (W.set dv i) (fun vs h => wipe_set (h i (by simp))) q⟩
def gsN : WGs := fun ds ρ R => ds = [] ∧ R ρ
def gsC (w : WG) (r : WGs) : WGs := fun ds ρ R => ∃ d es, ds = d :: es ∧ w d ρ fun ρ' => r es ρ' R
theorem xgn : XGs T X [] [] gsN := ⟨_, pgs_nil, fun vs ds σ H ρ ω R Q W dv ⟨e, q⟩ k => by
  subst e
  cases dv
  exact ⟨rfl, k σ ρ W (fun vs _ => rfl) q⟩⟩
theorem xgc {is js : List Nat} {w : WG} {r : WGs} (h : XG T X e is w) (k : XGs T X es js r) (hs : (assignEach (e :: es) X.env).map (·.2) = assign e X.env :: (assignEach es X.env).map (·.2) := by rfl) : XGs T X (e :: es) (is ++ js) (gsC w r) := by
  obtain ⟨g, h1, h2⟩ := h.ex
  obtain ⟨g', k1, k2⟩ := k.ex
  refine ⟨_, pgs_cons h1 k1 hs, fun vs ds σ H ρ ω R Q W dv q j => ?_⟩
  obtain ⟨d, es', e, q⟩ := q
  subst e
  cases dv with
  | cons d1 d2 =>
    refine ⟨_, _, rfl, h2 _ d σ H ρ ω _ _ W d1 q fun σ' ρ' W' hw q' => ?_⟩
    exact k2 _ es' σ' H ρ' ω R Q W' d2 q' fun σ2 ρ2 W2 hw2 q2 => j σ2 ρ2 W2 (fun vs hv => by
      rw [hw2 vs (fun i hi => hv i (List.mem_append_right _ hi)), hw vs (fun i hi => hv i (List.mem_append_left _ hi))]) q2
def gTp (n : Nat) (r : WGs) : WG := fun d ρ R => ∃ ds, d = .tup ds ∧ ds.length = n ∧ r ds ρ R
theorem xgtp {k : Nat} {is : List Nat} {r : WGs} (hc : X.calm = true) (h : XGs T X es is r) (hn : (assignEach es X.env).length = es.length := by rfl) (hst : (assignEach es X.env).findIdx? (·.1) = none := by rfl) : XG T X (.Tuple es k pos) is (gTp es.length r) := by
  obtain ⟨g, h1, h2⟩ := h.ex
  refine ⟨_, pg_tup hc h1 hn hst, fun v d σ H ρ ω R Q W dv q j => ?_⟩
  obtain ⟨ds, rfl, hl, q⟩ := q
  cases dv with
  | tup hs ha => exact ⟨_, _, rfl, sqT_mono hid_le hs, by rw [ha.length]; exact hl, h2 _ ds σ H ρ ω R Q W ha q j⟩

/-! ### assignments -/
def wAsg (w : WE) (g : WG) : WS := fun E ρ ω => w ρ ω fun d ω1 => g d ρ fun ρ' => E.nx ρ' ω1
theorem evS_asg {te : TE} {g : TG} {w : WE} {wg : WG} (h : EvD K T te w) (hg : ∀ (v : V) (d : Da) (σ : L2.St) (H : Hp) (ρ : Rho) (ω : Om) (R : Rho → Prop) (Q : L2.St → Hp → Prop), Wd K T σ ρ ω H → Dv K (hid ω H) v d → wg d ρ R → (∀ σ' ρ', Wd K T σ' ρ' ω H → R ρ' → Q σ' H) → g v σ H Q) :
    EvS K T (tAsg te g) (wAsg w wg) := fun σ H ρ ω E D W q c => h σ H ρ ω _ _ W q fun v H' d ω' g1 dv q' => hg v d σ H' ρ ω' _ _ (W.go g1) dv q' fun σ2 ρ2 W2 q2 => c.nx σ2 H' ρ2 ω' g1 W2 q2
theorem sasg {tg : Expr} {is : List Nat} {w : WE} {wg : WG} (he : XE T X e w) (hg : XG T X tg is wg) (hs : swapsWithSole [tg] e pos.line X.env = pure false := by rfl) (hw : swappedStores [tg] e X.env = pure none := by rfl) (hq : (assignEach [tg] X.env).map (·.2) = [assign tg X.env] := by rfl) : XS T X (.Assign [tg] e pos) (wAsg w wg) := by
  obtain ⟨t, h1, h2⟩ := he.ex
  obtain ⟨g, g1, g2⟩ := hg.ex
  exact ⟨_, ps_asg h1 g1 hs hw hq, evS_asg h2 fun v d σ H ρ ω R Q W dv q k => g2 v d σ H ρ ω R Q W dv q fun σ' ρ' W' _ q' => k σ' ρ' W' q'⟩
theorem sset (i : Nat) {x : Str} {w : WE} (hN : X.N.Nodup) (he : XE T X e w) (hi : X.N[i]? = some x := by rfl) (hx : Loc X.env.scope x := by first | exact .inl rfl | exact .inr rfl) (hs : swapsWith e (some (.Name x pos')) pos.line X.env = pure false := by rfl) (hf : X.fn x = true ∨ X.env.scope.names.lookup x = some .local := by first | exact .inl rfl | exact .inr rfl) :
    XS T X (.Assign [.Name x pos'] e pos) (wAsg w (gN i)) := by
  obtain ⟨t, h1, h2⟩ := he.ex
  exact ⟨_, ps_set hN hi hx h1 hs hf, evS_asg h2 fun v d σ H ρ ω R Q W dv q k => k _ _ (W.set dv i) q⟩
def wPar (i j : Nat) (w : WA) : WS := fun E ρ ω => w ρ ω fun ds ω1 => ∃ d e, ds = [d, e] ∧ E.nx ((ρ.set i (some d)).set j (some e)) ω1
theorem spar (i j : Nat) {x y : Str} {w : WA} {px py pt : Pos} {kt k2 : Nat} {pt2 : Pos} (hc : X.calm = true) (hN : X.N.Nodup) (ha : XA T X [a, b] w) (hij : i ≠ j := by decide) (hi : X.N[i]? = some x := by rfl) (hj : X.N[j]? = some y := by rfl)
    (hx : X.env.scope.names.lookup x = some .local := by rfl) (hy : X.env.scope.names.lookup y = some .local := by rfl)
    (hw : swappedStores [.Tuple [.Name x px, .Name y py] kt pt] (.Tuple [a, b] k2 pt2) X.env = pure (some [x, y]) := by rfl)
    (hs : swapsWithSole [.Tuple [.Name x px, .Name y py] kt pt] (.Tuple [a, b] k2 pt2) pos.line X.env = pure false := by rfl) :
    XS T X (.Assign [.Tuple [.Name x px, .Name y py] kt pt] (.Tuple [a, b] k2 pt2) pos) (wPar i j w) := by
  obtain ⟨t, h1, h2⟩ := ha.ex
  refine ⟨_, ps_par hc hN hi hj hij hx hy h1 hw hs, fun σ H ρ ω E D W q c => h2 σ H ρ ω _ _ W q fun vs H' ds ω' g dv hl q' => ?_⟩
  obtain ⟨d, e, rfl, q'⟩ := q'
  obtain ⟨v, u, rfl, d1, d2⟩ := dvAll2 dv
  exact ⟨v, u, rfl, c.nx _ H' _ ω' g (((W.go g).set d1 i).set d2 j) q'⟩
def wPar3 (i j l : Nat) (w : WA) : WS := fun E ρ ω => w ρ ω fun ds ω1 => ∃ d e f, ds = [d, e, f] ∧ E.nx (((ρ.set i (some d)).set j (some e)).set l (some f)) ω1
theorem spar3 (i j l : Nat) {x y z : Str} {w : WA} {px py pz pt : Pos} {kt k2 : Nat} {pt2 : Pos} (hc : X.calm = true) (hN : X.N.Nodup) (ha : XA T X [a, b, c] w) (hij : i ≠ j := by decide) (hil : i ≠ l := by decide) (hjl : j ≠ l := by decide) (hi : X.N[i]? = some x := by rfl) (hj : X.N[j]? = some y := by rfl) (hl : X.N[l]? = some z := by rfl)
    (hx : X.env.scope.names.lookup x = some .local := by rfl) (hy : X.env.scope.names.lookup y = some .local := by rfl) (hz : X.env.scope.names.lookup z = some .local := by rfl)
    (hw : swappedStores [.Tuple [.Name x px, .Name y py, .Name z pz] kt pt] (.Tuple [a, b, c] k2 pt2) X.env = pure (some [x, y, z]) := by rfl)
    (hs : swapsWithSole [.Tuple [.Name x px, .Name y py, .Name z pz] kt pt] (.Tuple [a, b, c] k2 pt2) pos.line X.env = pure false := by rfl) :
    XS T X (.Assign [.Tuple [.Name x px, .Name y py, .Name z pz] kt pt] (.Tuple [a, b, c] k2 pt2) pos) (wPar3 i j l w) := by
  obtain ⟨t, h1, h2⟩ := ha.ex
  refine ⟨_, ps_par3 hc hN hi hj hl hij hil hjl hx hy hz h1 hw hs, fun σ H ρ ω E D W q c => h2 σ H ρ ω _ _ W q fun vs H' ds ω' g dv hn q' => ?_⟩
  obtain ⟨d, e, f, rfl, q'⟩ := q'
  cases dv with
  | cons d1 dv =>
    obtain ⟨v, u, rfl, d2, d3⟩ := dvAll2 dv
    exact ⟨_, v, u, rfl, c.nx _ H' _ ω' g ((((W.go g).set d1 i).set d2 j).set d3 l) q'⟩
/-- xs[k] = e, a list that is a cell -/
def wSetIx (w wo wi : WE) : WS := fun E ρ ω => w ρ ω fun d ω1 => wo ρ ω1 fun o ω2 => wi ρ ω2 fun i ω3 => ∃ p l, ∃ j : Nat, o = .ptr p ∧ i = .int (j : Int) ∧ ω3 p = some (.lst l) ∧ j < l.length ∧ E.nx ρ (ω3.set p (.lst (l.set j d)))
theorem ssetix {i : Expr} {w wo wi : WE} (he : XE T X e w) (ho : XE T X o wo) (hi : XE T X i wi) (hs : swapsWithSole [.Subscript o i pos'] e pos.line X.env = pure false := by rfl) (hw : swappedStores [.Subscript o i pos'] e X.env = pure none := by rfl)
    (hq : ∀ v, assign (.Subscript o i pos') X.env v = (do
      let ov ← holding [v] (eval o X.env)
      let iv ← holding [v, ov] (eval i X.env)
      standAt pos'
      holding [v, ov, iv] (setItem ov iv v)
      release [v, ov, iv] []) := by intro _; rfl) : XS T X (.Assign [.Subscript o i pos'] e pos) (wSetIx w wo wi) := by
  obtain ⟨t, h1, h2⟩ := he.ex
  obtain ⟨u, o1, o2⟩ := ho.ex
  obtain ⟨s, i1, i2⟩ := hi.ex
  refine ⟨_, ps_asg h1 (pg_sub o1 i1 set_list hq) hs hw, fun σ H ρ ω E D W q c => h2 σ H ρ ω _ _ W q fun v H1 d ω1 g1 dv q1 => ?_⟩
  refine o2 σ H1 ρ ω1 _ _ (W.go g1) q1 fun x H2 od ω2 g2 dx q2 => ?_
  refine i2 σ H2 ρ ω2 _ _ (W.go (g1.trans g2)) q2 fun y H3 id ω3 g3 dy q3 => ?_
  obtain ⟨p, l, j, rfl, rfl, h3, hj, q3⟩ := q3
  cases dx
  cases dy
  obtain ⟨xs, hx, ha⟩ := cell_lst g3.cells h3
  have dv' : Dv X.K (hid ω3 H3) v d := Dv.mono (g2.trans g3).keep _ _ dv
  have g := Go.write (o := .lst (xs.set j v)) (x := .lst (l.set j d)) g3.cells g3.tabs h3 fun kp => ⟨_, upd_same, DvAll.mono kp _ _ (ha.set dv' j)⟩
  refine ⟨p, xs, j, j, rfl, rfl, hx, ?_, c.nx _ _ _ _ (((g1.trans g2).trans g3).trans g) (W.go (((g1.trans g2).trans g3).trans g)) q3⟩
  unfold ixN
  rw [if_pos (Int.natCast_nonneg j), if_pos (by rw [ha.length]; omega), Int.toNat_natCast]
/-- a cell of another kind is a list, too: the source -/
def wSetSrc (b : Bool) (w wo : WE) : WS := fun E ρ ω => w ρ ω fun d ω1 => wo ρ ω1 fun o ω2 => ∃ p, ∃ i : Int, o = .ptr p ∧ d = .int i ∧ ω2 p = some .src ∧ 0 ≤ i ∧ (b = true → i < 2147483647) ∧ E.nx ρ ω2
theorem ssetsrc {b : Bool} {j2 : Nat} {p2 : Pos} {w wo : WE} (he : XE T X e w) (ho : XE T X o wo) (hs : swapsWithSole [.Subscript o (.Constant (.int (b2 b)) j2 p2) pos'] e pos.line X.env = pure false := by rfl) (hw : swappedStores [.Subscript o (.Constant (.int (b2 b)) j2 p2) pos'] e X.env = pure none := by rfl)
    (hq : ∀ v, assign (.Subscript o (.Constant (.int (b2 b)) j2 p2) pos') X.env v = (do
      let ov ← holding [v] (eval o X.env)
      let iv ← holding [v, ov] (eval (.Constant (.int (b2 b)) j2 p2) X.env)
      standAt pos'
      holding [v, ov, iv] (setItem ov iv v)
      release [v, ov, iv] []) := by intro _; rfl) : XS T X (.Assign [.Subscript o (.Constant (.int (b2 b)) j2 p2) pos'] e pos) (wSetSrc b w wo) := by
  obtain ⟨t, h1, h2⟩ := he.ex
  obtain ⟨u, o1, o2⟩ := ho.ex
  refine ⟨_, ps_asg h1 (pg_sub o1 pe_int set_list hq) hs hw, fun σ H ρ ω E D W q c => h2 σ H ρ ω _ _ W q fun v H1 d ω1 g1 dv q1 => ?_⟩
  refine o2 σ H1 ρ ω1 _ _ (W.go g1) q1 fun x H2 od ω2 g2 dx q2 => ?_
  obtain ⟨p0, i, e0, e1, h3, h0, hb, q3⟩ := q2
  subst e0 e1
  cases dx
  cases dv
  obtain ⟨m, n, hx, hm, hn, hn2⟩ := g2.cells p0 _ h3
  cases b with
  | true =>
    have g := Go.write (o := .lst [.int m, .int i]) (x := .src) g2.cells g2.tabs h3 fun kp => ⟨m, i, upd_same, hm, h0, hb rfl⟩
    rw [Om.set_self h3] at g
    exact ⟨p0, _, 1, 1, rfl, rfl, hx, rfl, c.nx _ _ _ _ ((g1.trans g2).trans g) (W.go ((g1.trans g2).trans g)) q3⟩
  | false =>
    have g := Go.write (o := .lst [.int i, .int n]) (x := .src) g2.cells g2.tabs h3 fun kp => ⟨i, n, upd_same, h0, hn, hn2⟩
    rw [Om.set_self h3] at g
    exact ⟨p0, _, 0, 0, rfl, rfl, hx, rfl, c.nx _ _ _ _ ((g1.trans g2).trans g) (W.go ((g1.trans g2).trans g)) q3⟩
/-- reading the source -/
def wSrc (b : Bool) (wo : WE) : WE := fun ρ ω R => wo ρ ω fun o ω1 => ∃ p, o = .ptr p ∧ ω1 p = some .src ∧ ∀ i : Int, 0 ≤ i → (b = true → i < 2147483647) → R (.int i) ω1
theorem xsrc {b : Bool} {j2 : Nat} {p2 : Pos} {wo : WE} (ho : XE T X o wo) : XE T X (.Subscript o (.Constant (.int (b2 b)) j2 p2) pos) (wSrc b wo) := by
  obtain ⟨u, o1, o2⟩ := ho.ex
  refine ⟨_, pe_ix ix_list o1 pe_int (fun _ _ => rfl), fun σ H ρ ω R Q W q k => o2 σ H ρ ω _ _ W q fun x H1 d ω1 g1 dx q1 => ?_⟩
  obtain ⟨p0, e0, h1, q1⟩ := q1
  subst e0
  cases dx
  obtain ⟨m, n, hx, hm, hn, hn2⟩ := g1.cells p0 _ h1
  cases b with
  | true => exact ⟨p0, [.int m, .int n], 1, .int n, rfl, rfl, SqL.of hx, rfl, k _ H1 _ ω1 g1 (.int _) (q1 n hn fun _ => hn2)⟩
  | false => exact ⟨p0, [.int m, .int n], 0, .int m, rfl, rfl, SqL.of hx, rfl, k _ H1 _ ω1 g1 (.int _) (q1 m hm fun z => by cases z)⟩

/-! ### while -/
structure Nxt (I : Nat → Rho → Om → Prop) (m : Nat) (ρ : Rho) (ω : Om) : Prop where
  ex : ∃ m', m' < m ∧ I m' ρ ω
/-- the reading of a while: the body's invariant I is chosen freely -/
structure WhB (u : WT) (w : WS) (E : En) (ρ : Rho) (ω : Om) : Prop where
  ex : ∃ I : Nat → Rho → Om → Prop, (∃ m, I m ρ ω) ∧ ∀ m ρ' ω', I m ρ' ω' → u ρ' ω' fun b ω1 =>
    if b = true then w ⟨Nxt I m, E.rt, E.nx, Nxt I m⟩ ρ' ω1 else E.nx ρ' ω1
def wWhile (u : WT) (w : WS) : WS := fun E ρ ω => WhB u w E ρ ω
theorem swhile {u : WT} {w : WS} (hp : PassesOwn (model X.prog X.w) X.A X.env X.xe) (hc : XT T X c u) (hb : XSs T X sts w) : XS T X (.While c sts [] pos) (wWhile u w) := by
  obtain ⟨t, h1, h2⟩ := hc.ex
  obtain ⟨s, k1, k2⟩ := hb.ex
  refine ⟨_, ps_while hp h1 k1, fun σ H ρ ω E D W q c => ?_⟩
  obtain ⟨⟨I, ⟨m0, i0⟩, turn⟩⟩ := q
  refine ⟨fun m σ' H' => ∃ ρ' ω', Go X.K T ω ω' H H' ∧ Wd X.K T σ' ρ' ω' H' ∧ I m ρ' ω', ⟨m0, ρ, ω, W.rfl', W, i0⟩, ?_⟩
  rintro m σ1 H1 ⟨ρ1, ω1, g1, W1, i1⟩
  refine h2 σ1 H1 ρ1 ω1 _ _ W1 (turn m ρ1 ω1 i1) fun b H2 ω2 g2 q2 => ?_
  cases b with
  | true =>
    refine ⟨fun σ' H' => ∃ m', m' < m ∧ ∃ ρ' ω', Go X.K T ω ω' H H' ∧ Wd X.K T σ' ρ' ω' H' ∧ I m' ρ' ω', fun σ' H' h => h, ?_⟩
    refine k2 σ1 H2 ρ1 ω2 _ _ (W1.go g2) q2 ⟨fun σ' H' ρ' ω' g W' q' => ?_, fun v H' d ω' g => c.rt v H' d ω' ((g1.trans g2).trans g), fun σ' H' ρ' ω' g => c.nx σ' H' ρ' ω' ((g1.trans g2).trans g), fun σ' H' ρ' ω' g W' q' => ?_⟩
    · obtain ⟨m', hm, i'⟩ := q'
      exact ⟨m', hm, ρ', ω', (g1.trans g2).trans g, W', i'⟩
    · obtain ⟨m', hm, i'⟩ := q'
      exact ⟨m', hm, ρ', ω', (g1.trans g2).trans g, W', i'⟩
  | false => exact c.nx σ1 H2 ρ1 ω2 (g1.trans g2) (W1.go g2) q2

/-! ### what is walked -/
abbrev WI := Rho → Om → (List Da → Om → Prop) → Prop
def Wk (K : PySem.W.Frag) (T : Tb) (J : It) (ds : List Da) (ω1 : Om) (H1 : Hp) : Prop := ∀ ω2 H2, Go K T ω1 ω2 H1 H2 → ∀ i : Nat, (i < ds.length → J.go i H2 ∧ ∀ x H3, J.yld i H2 x H3 → ∃ d, ds[i]? = some d ∧ Go K T ω2 ω2 H2 H3 ∧ Dv K (hid ω2 H3) x d) ∧ (ds.length ≤ i → J.stop i H2)
structure XI (T : Tb) (X : Cx) (tg iter : Expr) (w : WI) : Prop where
  ex : ∃ t, PI X tg iter t ∧ ∀ (σ : L2.St) (H : Hp) (ρ : Rho) (ω : Om) (R : List Da → Om → Prop) (Q : It → Hp → Prop), Wd X.K T σ ρ ω H → w ρ ω R → (∀ J H' ds ω', Go X.K T ω ω' H H' → Wk X.K T J ds ω' H' → R ds ω' → Q J H') → t σ H Q
theorem wk_list {a : Addr} {xs : List V} {ds : List Da} {ω : Om} {H : Hp} (hs : SqL K (hid ω H) a xs) (ha : DvAll K (hid ω H) xs ds) : Wk K T (Itl K a) ds ω H := fun ω2 H2 g i => by
  have h2 : SqL K H2 a xs := sqL_mono hid_le (sqL_mono g.keep hs)
  have a2 := DvAll.mono g.keep _ _ ha
  refine ⟨fun hi => ?_, fun hi => ⟨xs, h2, by rw [ha.length]; exact hi⟩⟩
  obtain ⟨v, e, dv⟩ := a2.get' (List.getElem?_eq_getElem hi)
  refine ⟨⟨xs, v, h2, e⟩, fun x H3 y => ?_⟩
  obtain ⟨rfl, y⟩ := y
  have e2 := y xs h2
  rw [e] at e2
  cases e2
  exact ⟨_, List.getElem?_eq_getElem hi, Go.refl g.cells g.tabs, dv⟩
theorem wk_tup {a : Addr} {xs : List V} {ds : List Da} {ω : Om} {H : Hp} (hs : SqT K (hid ω H) a xs) (ha : DvAll K (hid ω H) xs ds) : Wk K T (Itt K a) ds ω H := fun ω2 H2 g i => by
  have h2 : SqT K H2 a xs := sqT_mono hid_le (sqT_mono g.keep hs)
  have a2 := DvAll.mono g.keep _ _ ha
  refine ⟨fun hi => ?_, fun hi => ⟨xs, h2, by rw [ha.length]; exact hi⟩⟩
  obtain ⟨v, e, dv⟩ := a2.get' (List.getElem?_eq_getElem hi)
  refine ⟨⟨xs, v, h2, e⟩, fun x H3 y => ?_⟩
  obtain ⟨rfl, y⟩ := y
  have e2 := y xs h2
  rw [e] at e2
  cases e2
  exact ⟨_, List.getElem?_eq_getElem hi, Go.refl g.cells g.tabs, dv⟩
def wiL (w : WE) : WI := fun ρ ω R => w ρ ω fun d ω1 => ∃ l, d = .lst l ∧ R l ω1
def wiT (w : WE) : WI := fun ρ ω R => w ρ ω fun d ω1 => ∃ l, d = .tup l ∧ R l ω1
variable {tg iter : Expr}
theorem xil {w : WE} (h : XE T X iter w) : XI T X tg iter (wiL w) := by
  obtain ⟨t, h1, h2⟩ := h.ex
  refine ⟨_, pi_list h1, fun σ H ρ ω R Q W q k => h2 σ H ρ ω _ _ W q fun v H' d ω' g dv q' => ?_⟩
  obtain ⟨l, rfl, q'⟩ := q'
  cases dv with
  | lst hs ha => exact ⟨_, rfl, ⟨_, sqL_mono hid_le hs⟩, k _ H' l ω' g (wk_list hs ha) q'⟩
theorem xit {w : WE} (h : XE T X iter w) : XI T X tg iter (wiT w) := by
  obtain ⟨t, h1, h2⟩ := h.ex
  refine ⟨_, pi_tup h1, fun σ H ρ ω R Q W q k => h2 σ H ρ ω _ _ W q fun v H' d ω' g dv q' => ?_⟩
  obtain ⟨l, rfl, q'⟩ := q'
  cases dv with
  | tup hs ha => exact ⟨_, rfl, ⟨_, sqT_mono hid_le hs⟩, k _ H' l ω' g (wk_tup hs ha) q'⟩
/-- the ints lo, lo + 1, .. -/
def rgD (lo : Int) (n : Nat) : List Da := (List.range n).map fun i => .int (lo + (i : Nat))
theorem rgD_length (lo : Int) (n : Nat) : (rgD lo n).length = n := by unfold rgD; rw [List.length_map, List.length_range]
theorem rgD_get {lo : Int} {n i : Nat} (h : i < n) : (rgD lo n)[i]? = some (.int (lo + (i : Nat))) := by
  unfold rgD
  rw [List.getElem?_map, List.getElem?_range h]
  rfl
theorem wk_rg {lo : Int} {n : Nat} {ω : Om} {H : Hp} : Wk K T (Itr lo n) (rgD lo n) ω H := fun ω2 H2 g i => by
  rw [rgD_length]
  refine ⟨fun hi => ⟨hi, fun x H3 y => ?_⟩, fun hi => hi⟩
  obtain ⟨rfl, rfl⟩ := y
  exact ⟨_, rgD_get hi, Go.refl g.cells g.tabs, .int _⟩
def wiR (w : WE) : WI := fun ρ ω R => w ρ ω fun d ω1 => ∃ n : Int, d = .int n ∧ -100000 ≤ n ∧ n ≤ 100000 ∧ R (rgD 0 n.toNat) ω1
def wiR2 (w w' : WE) : WI := fun ρ ω R => w ρ ω fun d ω1 => w' ρ ω1 fun e ω2 => ∃ m n : Int, d = .int m ∧ e = .int n ∧ (-100000 ≤ m ∧ m ≤ 100000 ∧ -100000 ≤ n ∧ n ≤ 100000) ∧ R (rgD m (n - m).toNat) ω2
theorem xir {w : WE} {p1 : Pos} (hm : X.mg "range" = none) (h : XE T X a w) (hg : Gl X "range" := by rfl) (ha : starEach (a :: []) X.env = (false, eval a X.env) :: starEach [] X.env := by rfl) (hs : starEach [a] X.env = [(false, eval a X.env)] := by rfl) : XI T X tg (.Call (.Name "range" p1) [a] [] pos) (wiR w) := by
  obtain ⟨t, h1, h2⟩ := h.ex
  refine ⟨_, pi_range1 hg hm (pa_cons h1 pa_nil ha) hs, fun σ H ρ ω R Q W q k => h2 σ H ρ ω _ _ W q fun v H' d ω' g dv q' => ?_⟩
  obtain ⟨n, rfl, h0, hn, q'⟩ := q'
  cases dv
  exact ⟨n, rfl, by omega, by omega, k _ H' _ ω' g wk_rg q'⟩
theorem xir2 {w w' : WE} {p1 : Pos} (hm : X.mg "range" = none) (h : XE T X a w) (h' : XE T X b w') (hg : Gl X "range" := by rfl) (ha : starEach (a :: [b]) X.env = (false, eval a X.env) :: starEach [b] X.env := by rfl) (hb : starEach (b :: []) X.env = (false, eval b X.env) :: starEach [] X.env := by rfl)
    (hs : starEach [a, b] X.env = [(false, eval a X.env), (false, eval b X.env)] := by rfl) (hs2 : starEach [b] X.env = [(false, eval b X.env)] := by rfl) : XI T X tg (.Call (.Name "range" p1) [a, b] [] pos) (wiR2 w w') := by
  obtain ⟨t, h1, h2⟩ := h.ex
  obtain ⟨t', h1', h2'⟩ := h'.ex
  refine ⟨_, pi_range2 hg hm (pa_cons h1 (pa_cons h1' pa_nil hb) ha) hs hs2, fun σ H ρ ω R Q W q k => h2 σ H ρ ω _ _ W q fun v H' d ω' g dv q' => ?_⟩
  refine h2' σ H' ρ ω' _ _ (W.go g) q' fun v2 H2 d2 ω2 g2 dv2 q2 => ?_
  obtain ⟨m, n, rfl, rfl, hn, q2⟩ := q2
  cases dv
  cases dv2
  exact ⟨m, n, rfl, ⟨by omega, by omega, by omega, by omega⟩, k _ H2 _ ω2 (g.trans g2) wk_rg q2⟩

/-! ### for -/
structure ForB (g : WG) (w : WS) (E : En) (ρ : Rho) (ds : List Da) (ω1 : Om) : Prop where
  ex : ∃ I : Nat → Rho → Om → Prop, I 0 ρ ω1 ∧ (∀ i d ρ' ω', ds[i]? = some d → I i ρ' ω' → g d ρ' fun ρ2 => w ⟨I (i + 1), E.rt, E.nx, I (i + 1)⟩ ρ2 ω') ∧ ∀ ρ' ω', I ds.length ρ' ω' → E.nx ρ' ω'
def wFor (wi : WI) (g : WG) (w : WS) : WS := fun E ρ ω => wi ρ ω fun ds ω1 => ForB g w E ρ ds ω1
theorem sfor {wi : WI} {is : List Nat} {g : WG} {w : WS} (hp : PassesOwn (model X.prog X.w) X.A X.env X.xe) (hc : X.calm = true) (hi : XI T X tg iter wi) (hg : XG T X tg is g) (hb : XSs T X sts w) (hs : ∀ x, foldedSetIterable iter X.env x = pure x := by intro _; rfl) : XS T X (.For tg iter sts [] pos) (wFor wi g w) := by
  obtain ⟨ti, i1, i2⟩ := hi.ex
  obtain ⟨tg', g1, g2⟩ := hg.ex
  obtain ⟨ts, s1, s2⟩ := hb.ex
  refine ⟨_, ps_for hp hc i1 g1 s1 hs, fun σ H ρ ω E D W q c => i2 σ H ρ ω _ _ W q fun J H1 ds ω1 go1 wk q1 => ?_⟩
  obtain ⟨⟨I, h0, turn, fin⟩⟩ := q1
  refine ⟨fun i m σ' H' => m = ds.length - i ∧ i ≤ ds.length ∧ ∃ ρ' ω', Go X.K T ω1 ω' H1 H' ∧ Wd X.K T σ' ρ' ω' H' ∧ I i ρ' ω', ⟨_, rfl, Nat.zero_le _, ρ, ω1, Go.refl go1.cells go1.tabs, W.go go1, h0⟩, ?_⟩
  rintro i m σ' H' ⟨rfl, hle, ρ', ω', go2, W', hI⟩
  obtain ⟨w1, w2⟩ := wk ω' H' go2 i
  by_cases hlt : i < ds.length
  · obtain ⟨hgo, hy⟩ := w1 hlt
    refine .inr ⟨hgo, fun σ2 H2 => ∃ ρ2 ω2, Go X.K T ω1 ω2 H1 H2 ∧ Wd X.K T σ2 ρ2 ω2 H2 ∧ I (i + 1) ρ2 ω2, fun σ2 H2 ⟨ρ2, ω2, a1, a2, a3⟩ => ⟨ds.length - (i + 1), by omega, rfl, hlt, ρ2, ω2, a1, a2, a3⟩, fun x H3 y => ?_⟩
    obtain ⟨d, hd, go3, dv⟩ := hy x H3 y
    have go13 := go2.trans go3
    refine g2 x d σ' H3 ρ' ω' _ _ (W'.go go3) dv (turn i d ρ' ω' hd hI) fun σ4 ρ4 W4 _ q4 => ?_
    refine s2 σ4 H3 ρ4 ω' _ _ W4 q4 ⟨fun σ5 H5 ρ5 ω5 go5 W5 q5 => ⟨ρ5, ω5, go13.trans go5, W5, q5⟩, fun v H5 d5 ω5 go5 => c.rt v H5 d5 ω5 ((go1.trans go13).trans go5), fun σ5 H5 ρ5 ω5 go5 => c.nx σ5 H5 ρ5 ω5 ((go1.trans go13).trans go5), fun σ5 H5 ρ5 ω5 go5 W5 q5 => ⟨ρ5, ω5, go13.trans go5, W5, q5⟩⟩
  · have e : i = ds.length := by omega
    subst e
    exact .inl ⟨w2 (Nat.le_refl _), c.nx σ' H' ρ' ω' (go1.trans go2) W' (fin ρ' ω' hI)⟩

/-! ### comprehensions -/
structure XTs (T : Tb) (X : Cx) (ifs : List Expr) (w : WT) : Prop where
  ex : ∃ t, PTs X ifs t ∧ EvT X.K T t w
def wtYes : WT := fun _ ω R => R true ω
theorem xtn : XTs T X [] wtYes := ⟨_, pts_nil, fun σ H ρ ω R Q W q k => k true H ω W.rfl' q⟩
theorem xt1 {u : WT} (h : XT T X c u) : XTs T X [c] u := by
  obtain ⟨t, h1, h2⟩ := h.ex
  exact ⟨_, pts_one h1, h2⟩
theorem Wd.wipe {σ : L2.St} {ρ : Rho} {ω : Om} {H : Hp} (W : Wd K T σ ρ ω H) : ∀ vs : List Nat, Wd K T (wipe σ vs) (wipeR ρ vs) ω H
  | [] => W
  | v :: vs => by
    have q := Wd.wipe W vs
    exact ⟨paired_set (fun x e => by cases e) v q.slots, q.cells, q.tabs⟩
theorem wipe_wipe {σ : L2.St} : ∀ {vs ws : List Nat}, (∀ i ∈ vs, i ∈ ws) → wipe (wipe σ vs) ws = wipe σ ws
  | [], _, _ => rfl
  | v :: vs, ws, h => by
    show wipe ((wipe σ vs).set v none) ws = _
    rw [wipe_set (h v List.mem_cons_self)]
    exact wipe_wipe fun i hi => h i (List.mem_cons_of_mem _ hi)
/-- the new list is the cell at D -/
structure LcB (g : WG) (u : WT) (w : WE) (vs : List Nat) (ρ : Rho) (ds : List Da) (ω1 : Om) (R : Da → Om → Prop) : Prop where
  ex : ds.length ≤ 90000 ∧ ∀ D, ω1 D = none → ∃ I : Nat → List Da → Om → Prop, I 0 [] (ω1.set D (.lst [])) ∧ (∀ i acc ω2, I i acc ω2 → ω2 D = some (.lst acc) ∧ acc.length ≤ i) ∧
    (∀ i d acc ω2, ds[i]? = some d → I i acc ω2 → g d (wipeR ρ vs) fun ρ2 => u ρ2 ω2 fun b ω3 => if b = true then w ρ2 ω3 fun e ω4 => ω4 D = some (.lst acc) ∧ I (i + 1) (acc ++ [e]) (ω4.set D (.lst (acc ++ [e]))) else I (i + 1) acc ω3) ∧
    ∀ acc ω2, I ds.length acc ω2 → R (.ptr D) ω2
def wLc (wi : WI) (g : WG) (u : WT) (w : WE) (vs : List Nat) : WE := fun ρ ω R => wi ρ ω fun ds ω1 => LcB g u w vs ρ ds ω1 R
theorem evD_lc {ti : TI} {tgg : TG} {tt : TT} {te : TE} {wi : WI} {g : WG} {u : WT} {w : WE} {is vs : List Nat} (his : ∀ i ∈ is, i ∈ vs)
    (i2 : ∀ (σ : L2.St) (H : Hp) (ρ : Rho) (ω : Om) (R : List Da → Om → Prop) (Q : It → Hp → Prop), Wd K T σ ρ ω H → wi ρ ω R → (∀ J H' ds ω', Go K T ω ω' H H' → Wk K T J ds ω' H' → R ds ω' → Q J H') → ti σ H Q)
    (g2 : ∀ (v : V) (d : Da) (σ : L2.St) (H : Hp) (ρ : Rho) (ω : Om) (R : Rho → Prop) (Q : L2.St → Hp → Prop), Wd K T σ ρ ω H → Dv K (hid ω H) v d → g d ρ R → (∀ σ' ρ', Wd K T σ' ρ' ω H → (∀ vs, (∀ i ∈ is, i ∈ vs) → wipe σ' vs = wipe σ vs) → R ρ' → Q σ' H) → tgg v σ H Q)
    (u2 : EvT K T tt u) (w2' : EvD K T te w) : EvD K T (tLc ti tgg tt te vs) (wLc wi g u w vs) := fun σ H ρ ω R Q W q k => by
  refine i2 σ H ρ ω _ _ W q fun J H1 ds ω1 go1 wk q1 D hD => ?_
  obtain ⟨⟨hlen, q1⟩⟩ := q1
  obtain ⟨I, h0, hcell, turn, fin⟩ := q1 D (go1.cells.free hD)
  have goN : Go K T ω1 (ω1.set D (.lst [])) H1 (upd H1 D (.lst [])) := Go.newCell go1.cells go1.tabs hD fun kp => ⟨[], upd_same, .nil⟩
  refine ⟨fun i m H' => m = ds.length - i ∧ i ≤ ds.length ∧ ∃ acc ω', Go K T ω1 ω' H1 H' ∧ I i acc ω', ⟨_, rfl, Nat.zero_le _, [], _, goN, h0⟩, ?_⟩
  rintro i m H' ⟨rfl, hle, acc, ω', go2, hI⟩
  obtain ⟨w1, w2⟩ := wk ω' H' go2 i
  by_cases hlt : i < ds.length
  · obtain ⟨hgo, hy⟩ := w1 hlt
    refine .inr ⟨hgo, fun H2 => ∃ acc ω2, Go K T ω1 ω2 H1 H2 ∧ I (i + 1) acc ω2, fun H2 ⟨acc, ω2, a1, a3⟩ => ⟨ds.length - (i + 1), by omega, rfl, hlt, acc, ω2, a1, a3⟩, fun x H3 y => ?_⟩
    obtain ⟨d, hd, go3, dv⟩ := hy x H3 y
    have go13 := go2.trans go3
    have W3 : Wd K T (wipe σ vs) (wipeR ρ vs) ω' H3 := (W.go (go1.trans go13)).wipe vs
    refine g2 x d _ H3 _ ω' _ _ W3 dv (turn i d acc ω' hd hI) fun σ4 ρ4 W4 hw q4 => ?_
    refine ⟨by rw [hw vs his, wipe_wipe fun i hi => hi], u2 σ4 H3 ρ4 ω' _ _ W4 q4 fun b H5 ω5 go5 q5 => ?_⟩
    cases b with
    | true =>
      refine w2' σ4 H5 ρ4 ω5 _ _ (W4.go go5) q5 fun z H6 e ω6 go6 dz q6 => ?_
      obtain ⟨hc6, q6⟩ := q6
      obtain ⟨xs, hx, ha⟩ := cell_lst go6.cells hc6
      have go16 := (go13.trans go5).trans go6
      have g7 := Go.write (o := .lst (xs ++ [z])) (x := .lst (acc ++ [e])) go6.cells go6.tabs hc6 fun kp => ⟨_, upd_same, DvAll.mono kp _ _ (ha.append (.cons dz .nil))⟩
      refine ⟨xs, hx, ?_, acc ++ [e], _, go16.trans g7, q6⟩
      rw [ha.length]
      have := (hcell i acc ω' hI).2
      exact big_lt (by omega)
    | false => exact ⟨acc, ω5, go13.trans go5, q5⟩
  · have e : i = ds.length := by omega
    subst e
    exact .inl ⟨w2 (Nat.le_refl _), k _ H' _ ω' (go1.trans go2) (.ptr D) (fin acc ω' hI)⟩
end
/-! ### the readings that data have -/
def tD (K : PySem.W.Frag) (T : Tb) (w : WE) : TE := fun σ H Q => ∃ (ρ : Rho) (ω : Om) (R : Da → Om → Prop), Wd K T σ ρ ω H ∧ w ρ ω R ∧ ∀ v H' d ω', Go K T ω ω' H H' → Dv K (hid ω' H') v d → R d ω' → Q v H'
def tDT (K : PySem.W.Frag) (T : Tb) (w : WT) : TT := fun σ H Q => ∃ (ρ : Rho) (ω : Om) (R : Bool → Om → Prop), Wd K T σ ρ ω H ∧ w ρ ω R ∧ ∀ b H' ω', Go K T ω ω' H H' → R b ω' → Q b H'
def tDG (K : PySem.W.Frag) (T : Tb) (is : List Nat) (w : WG) : TG := fun v σ H Q => ∃ (d : Da) (ρ : Rho) (ω : Om) (R : Rho → Prop), Wd K T σ ρ ω H ∧ Dv K (hid ω H) v d ∧ w d ρ R ∧ ∀ σ' ρ', Wd K T σ' ρ' ω H → (∀ vs, (∀ i ∈ is, i ∈ vs) → wipe σ' vs = wipe σ vs) → R ρ' → Q σ' H
def tDI (K : PySem.W.Frag) (T : Tb) (w : WI) : TI := fun σ H Q => ∃ (ρ : Rho) (ω : Om) (R : List Da → Om → Prop), Wd K T σ ρ ω H ∧ w ρ ω R ∧ ∀ J H' ds ω', Go K T ω ω' H H' → Wk K T J ds ω' H' → R ds ω' → Q J H'
section
variable {T : Tb} {X : Cx} {a b c e o tg iter elt : Expr} {pos p pos' : Pos}
theorem XE.pe {w : WE} (h : XE T X e w) : PE X e (tD X.K T w) := by
  obtain ⟨t, h1, h2⟩ := h.ex
  exact ⟨fun pins s σ H Q I ⟨ρ, ω, R, W, q, k⟩ => h1.run pins s σ H Q I (h2 σ H ρ ω R Q W q k)⟩
theorem XTs.pts {ifs : List Expr} {w : WT} (h : XTs T X ifs w) : PTs X ifs (tDT X.K T w) := by
  obtain ⟨t, h1, h2⟩ := h.ex
  exact ⟨fun pins s σ H Q I ⟨ρ, ω, R, W, q, k⟩ => h1.run pins s σ H Q I (h2 σ H ρ ω R Q W q k)⟩
theorem XG.pg {is : List Nat} {w : WG} (h : XG T X tg is w) : PG X tg (tDG X.K T is w) := by
  obtain ⟨t, h1, h2⟩ := h.ex
  exact ⟨fun pins s σ H v u Q I r ⟨d, ρ, ω, R, W, dv, q, k⟩ => h1.run pins s σ H v u Q I r (h2 v d σ H ρ ω R Q W dv q k)⟩
theorem XI.pi {w : WI} (h : XI T X tg iter w) : PI X tg iter (tDI X.K T w) := by
  obtain ⟨t, h1, h2⟩ := h.ex
  exact ⟨fun pins s σ H Q I ⟨ρ, ω, R, W, q, k⟩ => h1.run pins s σ H Q I (h2 σ H ρ ω R Q W q k)⟩
abbrev blkX (X : Cx) (scope : Scope) (s : Shared) (H : Hp) (C : Addr) (cl : List (Str × Addr)) (fp : List Addr) : Cx := X.blk s H scope (compEnvC scope cl C X.env) fp
/-- [elt for tg in iter if ..]: the new list is a cell -/
theorem xlcN {ifs : List Expr} {scope : Scope} {own : List (Str × Nat)} {wi : WI} {is : List Nat} {g : WG} {u : WT} {w : WE} (hc : X.calm = true) (hN : X.N.Nodup) (ok : blkC X.N X.env.scope scope own = true) (hi : XI T X tg iter wi)
    (hg : ∀ s H C cl fp, XG T (blkX X scope s H C cl fp) tg is g) (ht : ∀ s H C cl fp, XTs T (blkX X scope s H C cl fp) ifs u) (he : ∀ s H C cl fp, XE T (blkX X scope s H C cl fp) elt w)
    (his : ∀ i ∈ is, i ∈ own.map (·.2) := by decide) (hs : ∀ x, foldedSetIterable iter X.env x = pure x := by intro _; rfl) : XE T X (.ListComp elt [⟨tg, iter, ifs, 0⟩] scope pos) (wLc wi g u w (own.map (·.2))) :=
  ⟨_, pe_lc (wi := tDI X.K T wi) (g := tDG X.K T is g) (tt := tDT X.K T u) (te := tD X.K T w) hc hN hi.pi (blkOk_by ok) (fun s H C cl fp => (hg s H C cl fp).pg) (fun s H C cl fp => (ht s H C cl fp).pts) (fun s H C cl fp => (he s H C cl fp).pe) hs,
    evD_lc his (fun σ H ρ ω R Q W q k => ⟨ρ, ω, R, W, q, k⟩) (fun v d σ H ρ ω R Q W dv q k => ⟨d, ρ, ω, R, W, dv, q, k⟩) (fun σ H ρ ω R Q W q k => ⟨ρ, ω, R, W, q, k⟩) (fun σ H ρ ω R Q W q k => ⟨ρ, ω, R, W, q, k⟩)⟩
/-- .. and stands still from now on -/
theorem xlc {ifs : List Expr} {scope : Scope} {own : List (Str × Nat)} {wi : WI} {is : List Nat} {g : WG} {u : WT} {w : WE} (hc : X.calm = true) (hN : X.N.Nodup) (ok : blkC X.N X.env.scope scope own = true) (hi : XI T X tg iter wi)
    (hg : ∀ s H C cl fp, XG T (blkX X scope s H C cl fp) tg is g) (ht : ∀ s H C cl fp, XTs T (blkX X scope s H C cl fp) ifs u) (he : ∀ s H C cl fp, XE T (blkX X scope s H C cl fp) elt w)
    (his : ∀ i ∈ is, i ∈ own.map (·.2) := by decide) (hs : ∀ x, foldedSetIterable iter X.env x = pure x := by intro _; rfl) : XE T X (.ListComp elt [⟨tg, iter, ifs, 0⟩] scope pos) (wFz (wLc wi g u w (own.map (·.2)))) := xfz (xlcN hc hN ok hi hg ht he his hs)
/-- name = [..] -/
theorem ssetLcN (i : Nat) {y : Str} {py spos : Pos} {ifs : List Expr} {scope : Scope} {own : List (Str × Nat)} {wi : WI} {is : List Nat} {g : WG} {u : WT} {w : WE} (hc : X.calm = true) (hN : X.N.Nodup) (ok : blkC X.N X.env.scope scope own = true) (hi : XI T X tg iter wi)
    (hg : ∀ s H C cl fp, XG T (blkX X scope s H C cl fp) tg is g) (ht : ∀ s H C cl fp, XTs T (blkX X scope s H C cl fp) ifs u) (he : ∀ s H C cl fp, XE T (blkX X scope s H C cl fp) elt w) (hy : X.N[i]? = some y := by rfl) (hyl : X.env.scope.names.lookup y = some .local := by rfl)
    (hsw : swapsWith (.ListComp elt [⟨tg, iter, ifs, 0⟩] scope pos) (some (.Name y py)) spos.line X.env = pure true := by exact sw_true rfl rfl rfl (by decide +kernel))
    (his : ∀ i ∈ is, i ∈ own.map (·.2) := by decide) (hs : ∀ x, foldedSetIterable iter X.env x = pure x := by intro _; rfl) : XS T X (.Assign [.Name y py] (.ListComp elt [⟨tg, iter, ifs, 0⟩] scope pos) spos) (wAsg (wLc wi g u w (own.map (·.2))) (gN i)) :=
  ⟨_, ps_setLc (wi := tDI X.K T wi) (g := tDG X.K T is g) (tt := tDT X.K T u) (te := tD X.K T w) hc hN hy hyl hsw hi.pi (blkOk_by ok) (fun s H C cl fp => (hg s H C cl fp).pg) (fun s H C cl fp => (ht s H C cl fp).pts) (fun s H C cl fp => (he s H C cl fp).pe) hs,
    evS_asg (evD_lc his (fun σ H ρ ω R Q W q k => ⟨ρ, ω, R, W, q, k⟩) (fun v d σ H ρ ω R Q W dv q k => ⟨d, ρ, ω, R, W, dv, q, k⟩) (fun σ H ρ ω R Q W q k => ⟨ρ, ω, R, W, q, k⟩) (fun σ H ρ ω R Q W q k => ⟨ρ, ω, R, W, q, k⟩)) fun v d σ H ρ ω R Q W dv q k => k _ _ (W.set dv i) q⟩
theorem evD_fz {K : PySem.W.Frag} {t : TE} {w : WE} (h : EvD K T t w) : EvD K T t (wFz w) := fun σ H ρ ω R Q W q k => h σ H ρ ω _ _ W q fun v H1 d ω1 g1 dv q1 => by
  obtain ⟨p, l, rfl, e1, q1⟩ := q1
  cases dv
  obtain ⟨xs, h3, h4⟩ := g1.cells p _ e1
  have g := Go.del (p := p) g1.cells g1.tabs
  exact k _ H1 _ _ (g1.trans g) (.lst (SqL.of (hid_of Om.del_same h3)) (DvAll.mono g.keep _ _ h4)) q1
theorem ssetLc (i : Nat) {y : Str} {py spos : Pos} {ifs : List Expr} {scope : Scope} {own : List (Str × Nat)} {wi : WI} {is : List Nat} {g : WG} {u : WT} {w : WE} (hc : X.calm = true) (hN : X.N.Nodup) (ok : blkC X.N X.env.scope scope own = true) (hi : XI T X tg iter wi)
    (hg : ∀ s H C cl fp, XG T (blkX X scope s H C cl fp) tg is g) (ht : ∀ s H C cl fp, XTs T (blkX X scope s H C cl fp) ifs u) (he : ∀ s H C cl fp, XE T (blkX X scope s H C cl fp) elt w) (hy : X.N[i]? = some y := by rfl) (hyl : X.env.scope.names.lookup y = some .local := by rfl)
    (hsw : swapsWith (.ListComp elt [⟨tg, iter, ifs, 0⟩] scope pos) (some (.Name y py)) spos.line X.env = pure true := by exact sw_true rfl rfl rfl (by decide +kernel))
    (his : ∀ i ∈ is, i ∈ own.map (·.2) := by decide) (hs : ∀ x, foldedSetIterable iter X.env x = pure x := by intro _; rfl) : XS T X (.Assign [.Name y py] (.ListComp elt [⟨tg, iter, ifs, 0⟩] scope pos) spos) (wAsg (wFz (wLc wi g u w (own.map (·.2)))) (gN i)) :=
  ⟨_, ps_setLc (wi := tDI X.K T wi) (g := tDG X.K T is g) (tt := tDT X.K T u) (te := tD X.K T w) hc hN hy hyl hsw hi.pi (blkOk_by ok) (fun s H C cl fp => (hg s H C cl fp).pg) (fun s H C cl fp => (ht s H C cl fp).pts) (fun s H C cl fp => (he s H C cl fp).pe) hs,
    evS_asg (evD_fz (evD_lc his (fun σ H ρ ω R Q W q k => ⟨ρ, ω, R, W, q, k⟩) (fun v d σ H ρ ω R Q W dv q k => ⟨d, ρ, ω, R, W, dv, q, k⟩) (fun σ H ρ ω R Q W q k => ⟨ρ, ω, R, W, q, k⟩) (fun σ H ρ ω R Q W q k => ⟨ρ, ω, R, W, q, k⟩))) fun v d σ H ρ ω R Q W dv q k => k _ _ (W.set dv i) q⟩
end

/-! ### a comprehension whose parts leave the cells as they are -/
def Sub (ω ω' : Om) : Prop := ∀ a c, ω a = some c → ω' a = some c
theorem Sub.refl (ω : Om) : Sub ω ω := fun _ _ h => h
theorem Sub.set {ω : Om} {D : Addr} {c : Cel} (h : ω D = none) : Sub ω (ω.set D c) := fun a x e => by
  rw [Om.set_ne (fun z => by subst z; rw [h] at e; cases e)]; exact e
theorem Sub.trans {ω ω' ω'' : Om} (h : Sub ω ω') (k : Sub ω' ω'') : Sub ω ω'' := fun a c e => k a c (h a c e)
theorem Sub.no {ω ω' : Om} {a : Addr} (h : Sub ω ω') (e : ω' a = none) : ω a = none := by
  cases q : ω a with
  | none => rfl
  | some c => rw [h a c q] at e; cases e
theorem Sub.put {ω ω' : Om} {D : Addr} {c : Cel} (h : Sub ω ω') (e : ω D = none) : Sub ω (ω'.set D c) := fun a x q => by
  rw [Om.set_ne (fun z => by subst z; rw [e] at q; cases q)]; exact h a x q
theorem Sub.new {ω ω' : Om} {D : Addr} {c : Cel} (h : Sub ω ω') (e : ω' D = none) : Sub ω (ω'.set D c) := h.put (h.no e)
theorem Sub.del {ω ω' : Om} {D : Addr} (h : Sub ω ω') (e : ω D = none) : Sub ω (ω'.del D) := fun a x q => by
  rw [Om.del_ne (fun z => by subst z; rw [e] at q; cases q)]; exact h a x q
/-- cells that are forgotten -/
theorem Go.shr {K : PySem.W.Frag} {T : Tb} {ω ω' : Om} {H : Hp} (h : Sub ω ω') (c : Cells K ω' H) (t : LamX.Tabs T H) : Go K T ω' ω H H := by
  have k : Kp (hid ω' H) (hid ω H) := fun a o e _ => by
    obtain ⟨e1, e2⟩ := hid_some e
    exact hid_of (h.no e1) e2
  exact ⟨k, fun a y e => (c a y (h a y e)).mono k fun u q => q, t⟩
structure Shr (R : Da → Om → Prop) (d : Da) (ω' : Om) : Prop where
  ex : ∃ ω0, Sub ω0 ω' ∧ R d ω0
/-- a claim that is not looked into -/
structure Hold (p : Prop) : Prop where
  h : p
end Dl
set_option maxHeartbeats 2000000
/-! A def by its body; comprehensions by what they do to each item. -/
namespace Dl
open PySem PySem.Spec PyProof.Rows L2
def startD (N : List Str) (ds : List Da) : Rho := ds.map some ++ List.replicate (N.length - ds.length) none
theorem wd_start {K : PySem.W.Frag} {T : Tb} {N : List Str} {ω : Om} {H : Hp} (c : Cells K ω H) (t : LamX.Tabs T H) {vs : List V} {ds : List Da} (h : DvAll K (hid ω H) vs ds) : Wd K T (L2.start N vs) (startD N ds) ω H := by
  refine ⟨?_, c, t⟩
  have hl := h.length
  unfold L2.start startD
  rw [hl]
  have app : ∀ {l1 l2 : Rho} {m1 m2 : L2.St}, Paired (SlotR K (hid ω H)) l1 m1 → Paired (SlotR K (hid ω H)) l2 m2 → Paired (SlotR K (hid ω H)) (l1 ++ l2) (m1 ++ m2) := by
    intro l1 l2 m1 m2 a
    induction a with
    | nil => intro b; exact b
    | cons r _ ih => intro b; exact .cons r (ih b)
  have pre : ∀ {vs : List V} {ds : List Da}, DvAll K (hid ω H) vs ds → Paired (SlotR K (hid ω H)) (ds.map some) (vs.map some) := by
    intro vs
    induction vs with
    | nil => intro ds h; cases h; exact .nil
    | cons v vs ih =>
      intro ds h
      cases h with
      | cons h1 h2 => exact .cons (fun x e => ⟨v, rfl, by cases e; exact h1⟩) (ih h2)
  have rep : ∀ n : Nat, Paired (SlotR K (hid ω H)) (List.replicate n none) (List.replicate n none) := by
    intro n
    induction n with
    | zero => exact .nil
    | succ n ih => exact .cons (fun x e => by cases e) ih
  exact app (pre h) (rep _)
/-- THE RULE for a def -/
theorem def_ok {P : Program} {wo : World} {K : PySem.W.Frag} {mg : Str → Option Value} {base : Heap} {T : Tb} {x qual : Str} {params : Arguments} {body : List Stmt} {scope : Scope} {f : Addr} {fd : FuncData} {N ps : List Str} {k : Nat} {s : Dsp}
    (F : FunD K x qual params body scope [] [] f fd) (S : FnScope N ps scope) (hm : mg x = some (.ref f))
    (hb : ∀ (kV doc pm : Value) (an : Option Addr) (cdv ct : Value) (us : List Value), us.length = ps.length → bindArgs (PySem.W.fnOf x qual params body scope .none kV doc pm an cdv ct) ⟨us, []⟩ = pure (ps.zip us))
    (hlen : ∀ ds ω R, s ds ω R → ds.length = ps.length)
    (hbody : ∀ (cdv : Value) (A : Around) (outer : List Env) (st : Shared) (H : Hp) (E : XK), Room k (A.deeper (envOfC qual scope st.heap.objs.size f cdv)) →
      ∃ w, XSs T (cxOf CX0 P wo K mg base N qual scope f cdv A outer st H E).nox body w ∧ ∀ ds ω R, s ds ω R → w ⟨fun _ ω' => R .non ω', R, fun _ _ => False, fun _ _ => False⟩ (startD N ds) ω) : Df P wo K mg base T x (k + 1) s := by
  refine ⟨f, fd, ps, F.ok S (fun vs H Q E ⟨ds, ω, R, h1, h2, h3, h4, h5⟩ => by rw [h1.length]; exact hlen ds ω R h4) (fun cdv A outer st H vs Q E hr ⟨ds, ω, R, h1, h2, h3, h4, h5⟩ => ?_), F.bindsN hb, hm, F.kp⟩
  obtain ⟨w, hw, q⟩ := hbody cdv A outer st H E hr
  obtain ⟨t, t1, t2⟩ := hw.ex
  refine ⟨t, t1.nox, t2 _ H _ ω _ _ (wd_start h2 h3 h1) (q ds ω R h4) ⟨fun σ' H' ρ' ω' g W q' => h5 _ H' _ ω' g .non q', fun v H' d ω' g dv q' => h5 v H' d ω' g dv q', fun σ' H' ρ' ω' g W q' => q'.elim, fun σ' H' ρ' ω' g W q' => q'.elim⟩⟩

/-- .. cells that the def made may be forgotten at its end -/
theorem def_okS {P : Program} {wo : World} {K : PySem.W.Frag} {mg : Str → Option Value} {base : Heap} {T : Tb} {x qual : Str} {params : Arguments} {body : List Stmt} {scope : Scope} {f : Addr} {fd : FuncData} {N ps : List Str} {k : Nat} {s : Dsp}
    (F : FunD K x qual params body scope [] [] f fd) (S : FnScope N ps scope) (hm : mg x = some (.ref f))
    (hb : ∀ (kV doc pm : Value) (an : Option Addr) (cdv ct : Value) (us : List Value), us.length = ps.length → bindArgs (PySem.W.fnOf x qual params body scope .none kV doc pm an cdv ct) ⟨us, []⟩ = pure (ps.zip us))
    (hlen : ∀ ds ω R, s ds ω R → ds.length = ps.length)
    (hbody : ∀ (cdv : Value) (A : Around) (outer : List Env) (st : Shared) (H : Hp) (E : XK), Room k (A.deeper (envOfC qual scope st.heap.objs.size f cdv)) →
      ∃ w, XSs T (cxOf CX0 P wo K mg base N qual scope f cdv A outer st H E).nox body w ∧ ∀ ds ω R, s ds ω R → w ⟨fun _ ω' => Shr R .non ω', Shr R, fun _ _ => False, fun _ _ => False⟩ (startD N ds) ω) : Df P wo K mg base T x (k + 1) s := by
  refine ⟨f, fd, ps, F.ok S (fun vs H Q E ⟨ds, ω, R, h1, h2, h3, h4, h5⟩ => by rw [h1.length]; exact hlen ds ω R h4) (fun cdv A outer st H vs Q E hr ⟨ds, ω, R, h1, h2, h3, h4, h5⟩ => ?_), F.bindsN hb, hm, F.kp⟩
  obtain ⟨w, hw, q⟩ := hbody cdv A outer st H E hr
  obtain ⟨t, t1, t2⟩ := hw.ex
  refine ⟨t, t1.nox, t2 _ H _ ω _ _ (wd_start h2 h3 h1) (q ds ω R h4) ⟨fun σ' H' ρ' ω' g W q' => ?_, fun v H' d ω' g dv q' => ?_, fun σ' H' ρ' ω' g W q' => q'.elim, fun σ' H' ρ' ω' g W q' => q'.elim⟩⟩
  · obtain ⟨ω0, hs, q'⟩ := q'
    exact h5 _ H' _ ω0 (g.trans (Go.shr hs g.cells g.tabs)) .non q'
  · obtain ⟨ω0, hs, q'⟩ := q'
    have g2 := Go.shr hs g.cells g.tabs
    exact h5 v H' d ω0 (g.trans g2) (Dv.mono g2.keep _ _ dv) q'

/-! ### the end of a comprehension's reading -/
theorem wLc_eq {wi : WI} {g : WG} {u : WT} {w : WE} {vs : List Nat} {ρ : Rho} {ω : Om} {R : Da → Om → Prop} : wLc wi g u w vs ρ ω R = wi ρ ω (fun ds ω1 => LcB g u w vs ρ ds ω1 R) := rfl
section
variable {g : WG} {u : WT} {w : WE} {vs : List Nat} {ρ : Rho} {ds : List Da} {ω1 : Om} {R : Da → Om → Prop}
/-- P i acc tells what may stand in the new list behind i items; the cells stay as they are -/
theorem lcN_rel (P : Nat → List Da → Prop) (hl : ds.length ≤ 90000) (p0 : P 0 [])
    (turn : ∀ i d acc ω' (Q1 : Da → Om → Prop) (Q2 : Om → Prop), ds[i]? = some d → P i acc → Sub ω1 ω' → (∀ e, P (i + 1) (acc ++ [e]) → Q1 e ω') → (P (i + 1) acc → Q2 ω') → g d (wipeR ρ vs) fun ρ2 => u ρ2 ω' fun b ω3 => if b = true then w ρ2 ω3 Q1 else Q2 ω3)
    (fin : ∀ acc p, acc.length ≤ ds.length → P ds.length acc → ω1 p = none → R (.ptr p) (ω1.set p (.lst acc))) : LcB g u w vs ρ ds ω1 R := by
  refine ⟨⟨hl, fun D hD => ⟨fun i acc ω2 => ω2 = ω1.set D (.lst acc) ∧ acc.length ≤ i ∧ P i acc, ⟨rfl, Nat.le_refl _, p0⟩, fun i acc ω2 ⟨e, h1, _⟩ => ⟨by rw [e]; exact Om.set_same, h1⟩, fun i d acc ω2 hd ⟨e, h1, h2⟩ => ?_, fun acc ω2 ⟨e, h1, h2⟩ => ?_⟩⟩⟩
  · subst e
    refine turn i d acc _ _ (fun ω3 => ω3 = ω1.set D (.lst acc) ∧ acc.length ≤ i + 1 ∧ P (i + 1) acc) hd h2 (Sub.set hD) (fun e he => ⟨Om.set_same, Om.set_set, ?_, he⟩) (fun he => ⟨rfl, by omega, he⟩)
    rw [List.length_append]
    show acc.length + 1 ≤ i + 1
    omega
  · subst e
    exact fin acc D h1 h2 hD
theorem lc_rel' (P : Nat → List Da → Prop) (hl : ds.length ≤ 90000) (p0 : P 0 [])
    (turn : ∀ i d acc ω' (Q1 : Da → Om → Prop) (Q2 : Om → Prop), ds[i]? = some d → P i acc → Sub ω1 ω' → (∀ e, P (i + 1) (acc ++ [e]) → Q1 e ω') → (P (i + 1) acc → Q2 ω') → g d (wipeR ρ vs) fun ρ2 => u ρ2 ω' fun b ω3 => if b = true then w ρ2 ω3 Q1 else Q2 ω3)
    (fin : ∀ acc, acc.length ≤ ds.length → P ds.length acc → R (.lst acc) ω1) : LcB g u w vs ρ ds ω1 (FzK R) :=
  lcN_rel P hl p0 turn fun acc p h1 h2 h3 => ⟨p, acc, rfl, Om.set_same, by rw [Om.set_del h3]; exact fin acc h1 h2⟩
theorem take_next' {α : Type} {l : List α} {i : Nat} {x : α} (h : l[i]? = some x) : l.take (i + 1) = l.take i ++ [x] := by rw [List.take_add_one, h]; rfl
/-- F tells each item's part of the new list -/
theorem lcN_fun (F : Da → Option Da) (hl : ds.length ≤ 90000)
    (turn : ∀ d ω' (Q1 : Da → Om → Prop) (Q2 : Om → Prop), d ∈ ds → Sub ω1 ω' → (∀ e, F d = some e → Q1 e ω') → (F d = none → Q2 ω') → g d (wipeR ρ vs) fun ρ2 => u ρ2 ω' fun b ω3 => if b = true then w ρ2 ω3 Q1 else Q2 ω3)
    (fin : ∀ p, ω1 p = none → R (.ptr p) (ω1.set p (.lst (ds.filterMap F)))) : LcB g u w vs ρ ds ω1 R :=
  lcN_rel (fun i acc => acc = (ds.take i).filterMap F) hl (by rw [List.take_zero]; rfl) (fun i d acc ω' Q1 Q2 hd hP hs h1 h2 => turn d ω' Q1 Q2 (List.mem_of_getElem? hd) hs (fun e he => h1 e (by rw [hP, take_next' hd, List.filterMap_append]; simp [he])) (fun he => h2 (by rw [hP, take_next' hd, List.filterMap_append]; simp [he])))
    fun acc p _ hP hp => by
      rw [List.take_length] at hP
      rw [hP]; exact fin p hp
theorem lc_fun (F : Da → Option Da) (hl : ds.length ≤ 90000)
    (turn : ∀ d ω' (Q1 : Da → Om → Prop) (Q2 : Om → Prop), d ∈ ds → Sub ω1 ω' → (∀ e, F d = some e → Q1 e ω') → (F d = none → Q2 ω') → g d (wipeR ρ vs) fun ρ2 => u ρ2 ω' fun b ω3 => if b = true then w ρ2 ω3 Q1 else Q2 ω3)
    (fin : R (.lst (ds.filterMap F)) ω1) : LcB g u w vs ρ ds ω1 (FzK R) :=
  lcN_fun F hl turn fun p hp => ⟨p, _, rfl, Om.set_same, by rw [Om.set_del hp]; exact fin⟩
end
end Dl
set_option maxHeartbeats 2000000
/-! More rules: enumerate of a tuple, slices, dicts, extend, list + list. -/
namespace Dl
open PySem PySem.Spec PyProof.Rows L2
open AutoSeq1 (wpAny_loadPart')

/-! ### enumerate(t), t a tuple -/
set_option maxHeartbeats 1000000 in
theorem meets_enum_newB {v : Value} {o : Obj} {H : Heap → Prop} (B : Begins v o H) :
    Meets (Builtin.«enumerate.__new__» ⟨[.type "enumerate", v], []⟩) (fun _ R s => H s.heap ∧
      R (.ok (.ret (.ref (s.heap.push o).objs.size))) { s with heap := (s.heap.push o).push { cls := .type "enumerate", data := .fields #[.none, .bool false, .ref s.heap.objs.size, rawInt 0, .none, .none] } }) :=
  .of_wp fun prog w A R s h => by
    obtain ⟨hp, g, d, tk, os⟩ := s; obtain ⟨h1, h⟩ := h
    have hsub := sub_enumerate
    have q1 : ∀ {A' : Around} {E : Value → Shared → Prop} {Q : Value → Shared → Prop}, Q (.ref hp.objs.size) ⟨hp.push o, g, d, tk, os⟩ → wpAny (model prog w) A' (pyIter v) Q E ⟨hp, g, d, tk, os⟩ :=
      fun q => B.iter prog w _ _ ⟨hp, g, d, tk, os⟩ _ h1 q
    wp_walk using q1
    refine wpAny_stack_any fun st => wpAny_pure ?_
    split
    · rename_i c _ _ _ _ _
      cases (c == Value.type "enumerate")
      · wp_walk using q1
        exact ⟨_, rfl, h⟩
      · wp_walk using q1
        exact ⟨_, rfl, h⟩
    · wp_walk using q1
      exact ⟨_, rfl, h⟩
theorem call_enum_begins {prog : Program} {w : World} {A : Around} {E : Value → Shared → Prop} {s : Shared} {v : Value} {o : Obj} {H : Heap → Prop} {Q : Value → Shared → Prop} (B : Begins v o H) (h1 : H s.heap)
    (h : ∀ h', IsEnum h' (s.heap.objs.size + 1) s.heap.objs.size 0 .none → h'.get? s.heap.objs.size = some o → h'.objs.size = s.heap.objs.size + 2 →
      (∀ b o, s.heap.get? b = some o → h'.get? b = some o) → Q (.ref (s.heap.objs.size + 1)) { s with heap := h' }) :
    wpAny (model prog w) A (call (.type "enumerate") [v]) Q E s := by
  refine callType_new PySem.F.called_enumerate (by decide) (PySem.F.typeCall_enumerate_1 _) (PySem.F.newCall_enumerate_1 _) (fun obj => PySem.F.args_object_init_2 obj _) PySem.F.entry_enumerate_new (meets_enum_newB B) ⟨h1, ?_⟩
  have hz : (s.heap.push o).objs.size = s.heap.objs.size + 1 := Heap.size_push ..
  show _ ∧ _
  rw [hz]
  have he : IsEnum ((s.heap.push o).push { cls := .type "enumerate", data := .fields #[.none, .bool false, .ref s.heap.objs.size, rawInt 0, .none, .none] }) (s.heap.objs.size + 1) s.heap.objs.size 0 .none := by
    have := Heap.get?_push_size (s.heap.push o) (o := { cls := .type "enumerate", data := .fields #[.none, .bool false, .ref s.heap.objs.size, rawInt 0, .none, .none] }) rfl
    rw [hz] at this; exact this
  exact ⟨⟨_, he, rfl⟩, h _ he (Heap.get?_push_of_some _ (Heap.get?_push_size _ B.free)) (by rw [Heap.size_push, hz]) fun b o x => Heap.get?_push_of_some _ (Heap.get?_push_of_some _ x)⟩
theorem wpAny_pyNext_enum_endT {prog : Program} {w : World} {A : Around} {E : Value → Shared → Prop} {s : Shared} {e it l : Addr} {i : Nat} {items : Array Value} {old : Value} {Q : Option Value → Shared → Prop} (hh : A.handled = none)
    (he : IsEnum s.heap e it i old) (hit : s.heap.IsTupleIter it l i) (hl : s.heap.IsTuple l items) (hx : items[i]? = none)
    (hQ : ∀ h', Heap.ExtBut it s.heap h' → Q none { s with heap := h' }) : wpAny (model prog w) A (pyNext (.ref e)) Q E s := by
  have hT : s.TypeIs (.ref e) "enumerate" := ⟨_, he, rfl⟩
  unfold pyNext
  refine wpAny_bind (wpAny_attempt (wpAny_callSpecial?_slot (name := Str.ofString "__next__") hT PySem.F.slot_enumerate_next
    (wpAny_call_entry PySem.F.slot_enumerate_next hT PySem.F.entry_enumerate_next ?_ (PySem.F.args_enumerate_next_1 _))))
  show wpAny _ _ (field (.ref e) 2 >>= _) _ _ _
  refine wpAny_bind (wpAny_field he rfl (x := .ref it) rfl ?_)
  refine wpAny_bind (wpAny_nextOf_tuple_end hh hit hl hx fun h' x he' hx' => ?_)
  obtain ⟨o, ho, hc⟩ := hx'
  refine wpAny_bind (wpAny_isInstance (T := "StopIteration") (b := true) ⟨o, ho, hc⟩ isSubtype_stop ?_)
  exact wpAny_pure (hQ _ he')
/-- the tuple at a, each item in a new pair with its number -/
def Itet (K : PySem.W.Frag) (a : Addr) : It :=
  ⟨fun i H => ∃ xs x, SqT K H a xs ∧ xs[i]? = some x, fun i H v H' => ∃ p x, v = .ref p ∧ H p = none ∧ H' = upd H p (.tup [.int (i : Nat), x]) ∧ ∀ xs, SqT K H a xs → xs[i]? = some x, fun i H => ∃ xs, SqT K H a xs ∧ xs.length ≤ i⟩
theorem turn_enumT {P : Program} {w : World} {K : PySem.W.Frag} {elts : List Expr} {kk : Nat} {tpos : Pos} (a e it : Addr) (hat : a ≠ it) :
    Turn P w K (.Tuple elts kk tpos) (Itet K a) [e, it] e (fun i h => (∃ old, IsEnum h e it ((i : Nat) : Int) old) ∧ h.IsTupleIter it a i ∧ e ≠ it ∧ e ≠ a) where
  mem := by simp
  obj := fun i h st b hb => by
    obtain ⟨⟨old, he⟩, ⟨o, ho, hc, hd⟩, _⟩ := st
    have e' : b = e ∨ b = it := by simpa using hb
    rcases e' with z | z
    · rw [z]; exact ⟨_, he, fun v q => nomatch q⟩
    · rw [z]; exact ⟨o, ho, fun v q => by rw [hd] at q; cases q⟩
  keep := fun i h h' st k => let ⟨⟨old, he⟩, hi, hne⟩ := st; ⟨⟨old, k e (by simp) _ he⟩, hi.at fun o q => k it (by simp) o q, hne⟩
  item := by
    intro X hP hw hK hc i pins s σ H E I hf st hg
    subst hP hw hK
    obtain ⟨⟨old, he⟩, hit, hne, hea⟩ := st
    obtain ⟨xs, x, hq, hx⟩ := hg
    obtain ⟨its, rv, p, hz⟩ := I.tuple hq
    obtain ⟨u, hu, ru⟩ := rv.get hx
    have hel : e < s.heap.objs.size := Heap.lt_size he
    have hil : it < s.heap.objs.size := by obtain ⟨_, q, _⟩ := hit; exact Heap.lt_size q
    have hi : i < its.toArray.size := by
      have := (List.getElem?_eq_some_iff.mp hu).1
      rw [List.size_toArray]; exact this
    have DR := Draws.tuple (prog := X.prog) (w := X.w) (A := X.A.in1) (I.ok.hd hc) it a hat its.toArray
    refine wpAny_pyNext_enum_itemC DR he ⟨hit, p⟩ hi hne (by simp [hne, hea]) fun y h' tk hP ho hs' hT hsz hk => ?_
    have ey : y = u := by
      have q : its.toArray[i]? = some y := hP
      have q2 : its.toArray[i]? = some u := by simpa using hu
      rw [q] at q2; exact Option.some.inj q2
    subst ey
    refine ⟨_, rfl, wpAny_letOwnedTupleGo_enum (s := { s with heap := h', toks := tk + 1 }) ho fun h'' he' sb => ?_⟩
    have hT2 : h''.get? s.heap.objs.size = some { cls := .type "tuple", data := .seq #[.int i tk, y] } := (sb.2 _ (Nat.ne_of_gt hel)).trans hT
    have new : ObjOk X.prog X.w (upd H s.heap.objs.size (.tup [.int (i : Nat), x])) h'' s.heap.objs.size (.tup [.int (i : Nat), x]) :=
      ⟨by show 2 ≤ sizeLine; decide, [.int i tk, y], .cons ⟨_, rfl⟩ (.cons ru .nil), ⟨_, hT2, rfl, _, rfl⟩⟩
    have I1 : Inv X pins σ (upd H s.heap.objs.size (.tup [.int (i : Nat), x])) { s with heap := h'', toks := tk + 1 } :=
      I.turnedNew (ch := [e, it]) (fun b ob hb q => (sb.2 b (fun z => hb (by simp [z]))).trans (hk b ob (fun z => hb (by simp [z])) (fun z => hb (by simp [z])) q)) hf (Nat.le_refl _) new
    refine ⟨.ref s.heap.objs.size, _, I1, rfl, ⟨_, x, rfl, I.hok.fresh (Nat.le_refl _), rfl, fun ys hy => by rw [I.tuple_inj hy hq]; exact hx⟩, ⟨⟨y, ?_⟩, hs'.1.at fun o q => (sb.2 it (Ne.symm hne)).trans q, hne, hea⟩, fun b hb => ?_⟩
    · have e1 : ((i + 1 : Nat) : Int) = (i : Int) + 1 := by omega
      rw [e1]; exact he'
    · have hb' : b < s.heap.objs.size := by
        have e' : b = e ∨ b = it := by simpa using hb
        rcases e' with z | z
        · rw [z]; exact hel
        · rw [z]; exact hil
      rw [upd_ne (Nat.ne_of_lt hb')]
      exact (hf b hb).1
  done := by
    intro X hP hw hK hc i pins s σ H E I hf st hg
    subst hP hw hK
    obtain ⟨⟨old, he⟩, hit, hne, hea⟩ := st
    obtain ⟨xs, hq, hx⟩ := hg
    obtain ⟨its, rv, p, hz⟩ := I.tuple hq
    obtain ⟨f0, f1, f2, f3, f4, f5⟩ := hf it (by simp)
    have hl := rv.length
    exact wpAny_pyNext_enum_endT (I.ok.hd hc) he hit p (by simp; omega) fun h' eb => ⟨rfl, I.turned (t' := s.toks) (fun b o hb q => eb b o hb q) f0 f1 f3 f4 f5⟩
  self := fun A i s Q E st h => let ⟨⟨_, he⟩, _⟩ := st; wpAny_pyIter_enum he h
def iEnumT (K : PySem.W.Frag) (ta : TE) : TI := fun σ H R => ta σ H fun v H1 => ∃ a xs, v = .ref a ∧ SqT K H1 a xs ∧ R (Itet K a) H1
theorem pi_enumT {X : Cx} {e : Expr} {ta : TE} {p pos tpos : Pos} {elts : List Expr} {kk : Nat} (hg : Gl X "enumerate") (hm : X.mg "enumerate" = none) (ha : PE X e ta) (hs : starEach [e] X.env = (false, eval e X.env) :: starEach [] X.env) :
    PI X (.Tuple elts kk tpos) (.Call (.Name "enumerate" p) [e] [] pos) (iEnumT X.K ta) := by
  refine ⟨fun pins s σ H R I h => ?_⟩
  refine Call_ (ld_blt I hg hm boot_enumerate (PyProof.Rows.callWith_type1 (one_arg ha I h (fun v s1 x H1 I1 r1 q1 => ?_) hs) hs))
  obtain ⟨a, xs, ex, hq, q⟩ := q1
  subst ex
  cases r1
  obtain ⟨its, rv, p', hz⟩ := I1.tuple hq
  refine call_enum_begins (begins_tuple a its.toArray) p' fun h' he ho hsz hk => wpAny_pyIter_enum he ?_
  have I2 : Inv X pins σ H1 { s1 with heap := h' } := I1.kept (t' := s1.toks) hk
  have lt : a < s1.heap.objs.size := p'.lt
  have n1 : a ≠ s1.heap.objs.size := Nat.ne_of_lt lt
  have n2 : s1.heap.objs.size + 1 ≠ a := Nat.ne_of_gt (Nat.lt_succ_of_lt lt)
  refine ⟨s1.heap.objs.size + 1, [s1.heap.objs.size + 1, s1.heap.objs.size], _, _, H1, rfl, I2, turn_enumT a (s1.heap.objs.size + 1) s1.heap.objs.size n1, ⟨⟨.none, he⟩, ⟨_, ho, rfl, rfl⟩, Nat.succ_ne_self _, n2⟩, fun b hb => ?_, q⟩
  have e' : b = s1.heap.objs.size + 1 ∨ b = s1.heap.objs.size := by simpa using hb
  have hle : s1.heap.objs.size ≤ b := by
    rcases e' with z | z
    · rw [z]; exact Nat.le_add_right _ _
    · rw [z]; exact Nat.le_refl _
  exact I1.fpOk hle (I1.hok.fresh hle)
section
variable {T : Tb} {X : Cx} {a b c e o tg iter elt : Expr} {pos p pos' : Pos} {K : PySem.W.Frag} {wa wb : WE}
def enD (l : List Da) : List Da := (List.range l.length).filterMap fun i => l[i]?.map fun d => .tup [.int (i : Nat), d]
theorem enD_length (l : List Da) : (enD l).length = l.length := by
  unfold enD
  have key : ∀ n : Nat, n ≤ l.length → ((List.range n).filterMap fun i => l[i]?.map fun d => Da.tup [.int (i : Nat), d]).length = n := by
    intro n
    induction n with
    | zero => intro _; rfl
    | succ n ih =>
      intro h
      rw [List.range_succ, List.filterMap_append, List.length_append, ih (by omega)]
      simp [List.getElem?_eq_getElem (show n < l.length by omega)]
  exact key _ (Nat.le_refl _)
theorem enD_get {l : List Da} {i : Nat} {d : Da} (h : l[i]? = some d) : (enD l)[i]? = some (.tup [.int (i : Nat), d]) := by
  unfold enD
  have hi := (List.getElem?_eq_some_iff.mp h).1
  have key : ∀ n : Nat, n ≤ l.length → ((List.range n).filterMap fun i => l[i]?.map fun d => Da.tup [.int (i : Nat), d]).length = n := by
    intro n
    induction n with
    | zero => intro _; rfl
    | succ n ih =>
      intro h
      rw [List.range_succ, List.filterMap_append, List.length_append, ih (by omega)]
      simp [List.getElem?_eq_getElem (show n < l.length by omega)]
  have e : List.range l.length = List.range (i + 1) ++ (List.range (l.length - (i + 1))).map (fun j => (i + 1) + j) := by
    rw [← List.range_add]; congr 1; omega
  rw [e, List.filterMap_append, List.range_succ, List.filterMap_append]
  have k1 := key i (by omega)
  rw [List.getElem?_append_left (by rw [List.length_append, k1]; simp [h]), List.getElem?_append_right (by rw [k1]; exact Nat.le_refl _), k1, Nat.sub_self]
  simp [h]
theorem wk_enum {a : Addr} {xs : List V} {ds : List Da} {ω : Om} {H : Hp} (hs : SqT K (hid ω H) a xs) (ha : DvAll K (hid ω H) xs ds) : Wk K T (Itet K a) (enD ds) ω H := fun ω2 H2 g i => by
  have h2 : SqT K H2 a xs := sqT_mono hid_le (sqT_mono g.keep hs)
  have a2 := DvAll.mono g.keep _ _ ha
  rw [enD_length]
  refine ⟨fun hi => ?_, fun hi => ⟨xs, h2, by rw [ha.length]; exact hi⟩⟩
  have ed := List.getElem?_eq_getElem hi
  obtain ⟨v, e, dv⟩ := a2.get' ed
  refine ⟨⟨xs, v, h2, e⟩, fun x H3 y => ?_⟩
  obtain ⟨p, x2, rfl, hp, rfl, y⟩ := y
  have e2 := y xs h2
  rw [e] at e2
  cases e2
  have g3 := Go.new (o := .tup [.int (i : Nat), v]) g.cells g.tabs hp
  exact ⟨_, enD_get ed, g3, .tup (SqT.of (hid_new g.cells hp)) (.cons (.int _) (.cons (Dv.mono g3.keep _ _ dv) .nil))⟩
def wiE (w : WE) : WI := fun ρ ω R => w ρ ω fun d ω1 => ∃ l, d = .tup l ∧ R (enD l) ω1
theorem xienum {w : WE} {p1 tpos : Pos} {elts : List Expr} {kk : Nat} (hm : X.mg "enumerate" = none) (h : XE T X e w) (hg : Gl X "enumerate" := by rfl) (hs : starEach [e] X.env = (false, eval e X.env) :: starEach [] X.env := by rfl) : XI T X (.Tuple elts kk tpos) (.Call (.Name "enumerate" p1) [e] [] pos) (wiE w) := by
  obtain ⟨t, h1, h2⟩ := h.ex
  refine ⟨_, pi_enumT hg hm h1 hs, fun σ H ρ ω R Q W q k => h2 σ H ρ ω _ _ W q fun v H' d ω' g dv q' => ?_⟩
  obtain ⟨l, rfl, q'⟩ := q'
  cases dv with
  | tup hs ha => exact ⟨_, _, rfl, sqT_mono hid_le hs, k _ H' _ ω' g (wk_enum hs ha) q'⟩

/-! ### slices -/
abbrev WO := Rho → Om → (Option Int → Om → Prop) → Prop
def EvO (K : PySem.W.Frag) (T : Tb) (t : TO) (w : WO) : Prop := ∀ (σ : L2.St) (H : Hp) (ρ : Rho) (ω : Om) (R : Option Int → Om → Prop) (Q : Option Int → Hp → Prop), Wd K T σ ρ ω H → w ρ ω R → (∀ o H' ω', Go K T ω ω' H H' → R o ω' → Q o H') → t σ H Q
structure XO (T : Tb) (X : Cx) (e : Option Expr) (w : WO) : Prop where
  ex : ∃ t, PO X e t ∧ EvO X.K T t w
def woN : WO := fun _ ω R => R none ω
def woS (w : WE) : WO := fun ρ ω R => w ρ ω fun d ω1 => ∃ i, d = .int i ∧ R (some i) ω1
theorem xon : XO T X none woN := ⟨_, po_none, fun σ H ρ ω R Q W q k => k none H ω W.rfl' q⟩
theorem xos {w : WE} (h : XE T X e w) : XO T X (some e) (woS w) := by
  obtain ⟨t, h1, h2⟩ := h.ex
  refine ⟨_, po_some h1, fun σ H ρ ω R Q W q k => h2 σ H ρ ω _ _ W q fun v H' d ω' g dv q' => ?_⟩
  obtain ⟨i, rfl, q'⟩ := q'
  cases dv
  exact ⟨i, rfl, k _ H' ω' g q'⟩
def cutD (xs : List Da) (lo hi : Option Int) : List Da := (xs.drop (HT.sIx xs.length 0 lo)).take (HT.sIx xs.length xs.length hi - HT.sIx xs.length 0 lo)
theorem DvAll.cut {H : Hp} {xs : List V} {l : List Da} {lo hi : Option Int} (h : DvAll K H xs l) : DvAll K H (cutV xs lo hi) (cutD l lo hi) := by
  unfold cutV cutD
  rw [h.length]
  exact (h.drop _).take _
def wSl (tup : Bool) (w : WE) (wl wh : WO) : WE := fun ρ ω R => w ρ ω fun d ω1 => wl ρ ω1 fun lo ω2 => wh ρ ω2 fun hi ω3 => if tup = true then ∃ l, d = .tup l ∧ R (.tup (cutD l lo hi)) ω3 else ∃ l, lstOf ω3 d = some l ∧ R (.lst (cutD l lo hi)) ω3
theorem cutD_whole {l : List Da} {lo hi : Option Int} (h1 : HT.sIx l.length 0 lo = 0) (h2 : HT.sIx l.length l.length hi = l.length) : cutD l lo hi = l := by
  unfold cutD
  rw [h1, h2, Nat.sub_zero, List.drop_zero, List.take_length]
theorem xslT {lo hi : Option Expr} {w : WE} {wl wh : WO} {p2 : Pos} (he : XE T X e w) (hl : XO T X lo wl) (hu : XO T X hi wh) : XE T X (.Subscript e (.Slice lo hi none p2) pos) (wSl true w wl wh) := by
  obtain ⟨t, h1, h2⟩ := he.ex
  obtain ⟨tl, l1, l2⟩ := hl.ex
  obtain ⟨th, u1, u2⟩ := hu.ex
  refine ⟨_, pe_slice sl_tupA h1 l1 u1, fun σ H ρ ω R Q W q k => h2 σ H ρ ω _ _ W q fun v H1 d ω1 g1 dv q1 => ?_⟩
  refine l2 σ H1 ρ ω1 _ _ (W.go g1) q1 fun lo' H2 ω2 g2 q2 => u2 σ H2 ρ ω2 _ _ (W.go (g1.trans g2)) q2 fun hi' H3 ω3 g3 q3 => ?_
  obtain ⟨l, rfl, q3⟩ : ∃ l, d = .tup l ∧ R (.tup (cutD l lo' hi')) ω3 := q3
  have dv3 : Dv X.K (hid ω3 H3) v (.tup l) := Dv.mono (g2.trans g3).keep _ _ dv
  have g123 := (g1.trans g2).trans g3
  cases dv3 with
  | @tup a xs _ hs ha =>
    refine ⟨a, xs, rfl, sqT_mono hid_le hs, fun ⟨z1, z2⟩ => ?_, fun z p hp => ?_⟩
    · rw [ha.length] at z1 z2
      rw [cutD_whole z1 z2] at q3
      exact k _ H3 _ ω3 g123 (.tup hs ha) q3
    · have g := Go.new (o := .tup (cutV xs lo' hi')) g3.cells g3.tabs hp
      exact k _ _ _ ω3 (g123.trans g) (.tup (SqT.of (hid_new g3.cells hp)) (DvAll.mono g.keep _ _ ha.cut)) q3
theorem xslL {lo hi : Option Expr} {w : WE} {wl wh : WO} {p2 : Pos} (he : XE T X e w) (hl : XO T X lo wl) (hu : XO T X hi wh) : XE T X (.Subscript e (.Slice lo hi none p2) pos) (wSl false w wl wh) := by
  obtain ⟨t, h1, h2⟩ := he.ex
  obtain ⟨tl, l1, l2⟩ := hl.ex
  obtain ⟨th, u1, u2⟩ := hu.ex
  refine ⟨_, pe_slice sl_list h1 l1 u1, fun σ H ρ ω R Q W q k => h2 σ H ρ ω _ _ W q fun v H1 d ω1 g1 dv q1 => ?_⟩
  refine l2 σ H1 ρ ω1 _ _ (W.go g1) q1 fun lo' H2 ω2 g2 q2 => u2 σ H2 ρ ω2 _ _ (W.go (g1.trans g2)) q2 fun hi' H3 ω3 g3 q3 => ?_
  obtain ⟨l, e1, q3⟩ : ∃ l, lstOf ω3 d = some l ∧ R (.lst (cutD l lo' hi')) ω3 := q3
  have g123 := (g1.trans g2).trans g3
  obtain ⟨a, xs, rfl, hs, ha⟩ := lst_sq g3.cells (Dv.mono (g2.trans g3).keep _ _ dv) e1
  refine ⟨a, xs, rfl, hs, fun p hp => ?_⟩
  have g := Go.new (o := .lst (cutV xs lo' hi')) g3.cells g3.tabs hp
  exact k _ _ _ ω3 (g123.trans g) (.lst (SqL.of (hid_new g3.cells hp)) (DvAll.mono g.keep _ _ ha.cut)) q3

/-! ### extend, list + list, tuple * int -/
def fExt : Da → List Da → Om → (Da → Om → Prop) → Prop := fun d ds ω R => ∃ p q l m, d = .ptr p ∧ ds = [.ptr q] ∧ p ≠ q ∧ ω p = some (.lst l) ∧ ω q = some (.lst m) ∧ l.length + m.length ≤ 100000 ∧ R .non (ω.set p (.lst (l ++ m)))
theorem mtD_extend : MtD K T rExtend fExt := fun x vs H d ds ω R Q c t dx dvs ⟨p, q, l, m, e1, e2, hne, h1, h2, hl, q'⟩ k => by
  subst e1 e2
  cases dx
  obtain ⟨v, rfl, dv⟩ := dvAll1 dvs
  cases dv
  obtain ⟨xs, hx, ha⟩ := cell_lst c h1
  obtain ⟨ys, hy, hb⟩ := cell_lst c h2
  have g := Go.write (o := .lst (xs ++ ys)) (x := .lst (l ++ m)) c t h1 fun kp => ⟨_, upd_same, DvAll.mono kp _ _ (ha.append hb)⟩
  exact ⟨p, q, xs, ys, rfl, rfl, hx, hy, by rw [ha.length, hb.length]; exact big_line hl, k _ _ _ _ g .non q'⟩
theorem xextend {apos : Pos} {wo : WE} {w : WA} (ho : XE T X o wo) (ha : XA T X [e] w) (hbase : attributeBase o "extend" X.env (eval o X.env) = eval o X.env := by rfl)
    (hfew : ((backTo pos (starEach (e :: []) X.env)).all (fun x => !x.1) && (backToKw pos (keywordEach [] X.env)).all (fun x => x.1.isSome)
      && decide ((e :: ([] : List Expr)).length + ([] : List Keyword).length + (if ([] : List Keyword).isEmpty then 0 else 1) < 30)) = true := by rfl)
    (hline : (apos.endLine == pos.line) = true := by rfl) (hs : starEach (e :: []) X.env = (false, eval e X.env) :: starEach [] X.env := by rfl) :
    XE T X (.Call (.Attribute o "extend" apos) [e] [] pos) (wM fExt wo w) := xmeth PySem.F.slot_list_extend PySem.F.type_list_extend mt_extend mtD_extend ho ha hbase hfew hline hs rfl
/-- list + list, both cells: the new one is a cell -/
def fLcat : F2 := fun d e ω R => ∃ p q l m, d = .ptr p ∧ e = .ptr q ∧ ω p = some (.lst l) ∧ ω q = some (.lst m) ∧ l.length + m.length ≤ 100000 ∧ ∀ r, ω r = none → R (.ptr r) (ω.set r (.lst (l ++ m)))
theorem xlcat (ha : XE T X a wa) (hb : XE T X b wb) : XE T X (.BinOp a .Add b pos) (w2 fLcat wa wb) := xop op_cat (fun x y H d e ω R Q c t dx dy ⟨p, q, l, m, e1, e2, h1, h2, hl, q'⟩ k => by
  subst e1 e2
  cases dx
  cases dy
  obtain ⟨xs, hx, ha⟩ := cell_lst c h1
  obtain ⟨ys, hy, hb⟩ := cell_lst c h2
  refine ⟨p, q, xs, ys, rfl, rfl, hx, hy, by rw [ha.length, hb.length]; exact big_line hl, fun r hr => ?_⟩
  have g := Go.newCell (o := .lst (xs ++ ys)) (x := .lst (l ++ m)) c t hr fun kp => ⟨_, upd_same, DvAll.mono kp _ _ (ha.append hb)⟩
  exact k _ _ _ _ g (.ptr r) (q' r (c.free hr))) ha hb

/-! ### dicts with int keys -/
def dval (kvs : List (Int × Da)) (k : Int) : Option Da := (kvs.find? fun kv => decide (kv.1 = k)).map (·.2)
def dput (kvs : List (Int × Da)) (k : Int) (v : Da) : List (Int × Da) := if (kvs.any fun kv => decide (kv.1 = k)) = true then kvs.map fun kv => if kv.1 = k then (kv.1, v) else kv else kvs ++ [(k, v)]
theorem KvD.val {H : Hp} {ks : List (Key × V)} {kvs : List (Int × Da)} (h : KvD K H ks kvs) (k : Int) : (∃ v d, valV ks (.inl k) = some v ∧ dval kvs k = some d ∧ Dv K H v d) ∨ (valV ks (.inl k) = none ∧ dval kvs k = none) := by
  induction h with
  | nil => exact .inr ⟨rfl, rfl⟩
  | @cons p q l m r t ih =>
    obtain ⟨k1, v1⟩ := p
    obtain ⟨k2, d2⟩ := q
    obtain ⟨e, dv⟩ := r
    have e : k1 = Sum.inl k2 := e
    subst e
    by_cases hk : k2 = k
    · subst hk
      exact .inl ⟨v1, d2, by unfold valV; rw [List.find?_cons_of_pos (by simp)]; rfl, by unfold dval; rw [List.find?_cons_of_pos (by simp)]; rfl, dv⟩
    · have n1 : ¬ (Sum.inl k2 : Key) = Sum.inl k := fun z => hk (Sum.inl.inj z)
      have a1 : valV ((Sum.inl k2, v1) :: l) (Sum.inl k) = valV l (Sum.inl k) := valV_neg n1
      have a2 : dval ((k2, d2) :: m) k = dval m k := by unfold dval; rw [List.find?_cons_of_neg (by simp [hk])]
      rw [a1, a2]
      exact ih
def fDget : F2 := fun d e ω R => ∃ kvs i x, dctOf ω d = some kvs ∧ e = .int i ∧ dval kvs i = some x ∧ R x ω
theorem xdget {k : Nat} (hr : Room k X.A) (ha : XE T X a wa) (hb : XE T X b wb) (hs : NoSl b := by exact fun _ _ => rfl) : XE T X (.Subscript a b pos) (w2 fDget wa wb) := by
  obtain ⟨ta, a1, a2⟩ := ha.ex
  obtain ⟨tb, b1, b2⟩ := hb.ex
  refine ⟨_, pe_dget (hu_of hr) a1 b1 hs, fun σ H ρ ω R Q W q k => a2 σ H ρ ω _ _ W q fun x H1 d ω1 g1 dx q1 => b2 σ H1 ρ ω1 _ _ (W.go g1) q1 fun y H2 e ω2 g2 dy q2 => ?_⟩
  obtain ⟨kvs, i, z, h1, rfl, h3, q2⟩ := q2
  cases dy
  obtain ⟨p, ks, rfl, rfl, _, hk, hkv⟩ := dct_dk g2.cells (Dv.mono g2.keep _ _ dx) h1
  rcases hkv.val i with ⟨v, d', e1, e2, dv⟩ | ⟨_, e2⟩
  · rw [h3] at e2; cases e2
    refine ⟨p, v, rfl, ?_, k v H2 _ ω2 (g1.trans g2) dv q2⟩
    rw [← e1]
    exact DGet.k (k := .inl i) hk
  · rw [h3] at e2; cases e2
def fDin (neg : Bool) : F2 := fun d e ω R => ∃ kvs i, dctOf ω e = some kvs ∧ d = .int i ∧ R (.bl (if neg then !(dval kvs i).isSome else (dval kvs i).isSome)) ω
theorem isSome_val {H : Hp} {ks : List (Key × V)} {kvs : List (Int × Da)} (h : KvD K H ks kvs) (k : Int) : (valV ks (.inl k)).isSome = (dval kvs k).isSome := by
  rcases h.val k with ⟨v, d, e1, e2, _⟩ | ⟨e1, e2⟩
  · rw [e1, e2]; rfl
  · rw [e1, e2]; rfl
theorem evD_din {ta tb : TE} (a2 : EvD K T ta wa) (b2 : EvD K T tb wb) : EvD K T (tDIn ta tb) (w2 (fDin false) wa wb) := fun σ H ρ ω R Q W q k => a2 σ H ρ ω _ _ W q fun x H1 d ω1 g1 dx q1 => b2 σ H1 ρ ω1 _ _ (W.go g1) q1 fun y H2 e ω2 g2 dy q2 => by
  obtain ⟨kvs, i, h1, rfl, q2⟩ := q2
  cases dx
  obtain ⟨p, ks, rfl, rfl, _, hk, hkv⟩ := dct_dk g2.cells dy h1
  refine ⟨p, _, rfl, DGet.k (k := .inl i) hk, ?_⟩
  rw [isSome_val hkv i]
  exact k _ H2 _ ω2 (g1.trans g2) (.bl _) q2
theorem evD_dnin {ta tb : TE} (a2 : EvD K T ta wa) (b2 : EvD K T tb wb) : EvD K T (tDNotIn ta tb) (w2 (fDin true) wa wb) := fun σ H ρ ω R Q W q k => a2 σ H ρ ω _ _ W q fun x H1 d ω1 g1 dx q1 => b2 σ H1 ρ ω1 _ _ (W.go g1) q1 fun y H2 e ω2 g2 dy q2 => by
  obtain ⟨kvs, i, h1, rfl, q2⟩ := q2
  cases dx
  obtain ⟨p, ks, rfl, rfl, _, hk, hkv⟩ := dct_dk g2.cells dy h1
  refine ⟨p, _, rfl, DGet.k (k := .inl i) hk, ?_⟩
  rw [isSome_val hkv i]
  exact k _ H2 _ ω2 (g1.trans g2) (.bl _) q2
theorem tdin {k : Nat} (hr : Room k X.A) (ha : XE T X a wa) (hb : XE T X b wb) (hm : behindInMarks .In b = false := by rfl) : XT T X (.Compare a [.In] [b] pos) (wTB (w2 (fDin false) wa wb)) := by
  obtain ⟨ta, a1, a2⟩ := ha.ex
  obtain ⟨tb, b1, b2⟩ := hb.ex
  exact ⟨_, pt_cmp (pc_din (hu_of hr) a1 b1) hm, xtest (evD_din a2 b2)⟩
theorem tdnin {k : Nat} (hr : Room k X.A) (ha : XE T X a wa) (hb : XE T X b wb) (hm : behindInMarks .NotIn b = false := by rfl) : XT T X (.Compare a [.NotIn] [b] pos) (wTB (w2 (fDin true) wa wb)) := by
  obtain ⟨ta, a1, a2⟩ := ha.ex
  obtain ⟨tb, b1, b2⟩ := hb.ex
  exact ⟨_, pt_cmp (pc_dnotin (hu_of hr) a1 b1) hm, xtest (evD_dnin a2 b2)⟩
/-- {} -/
def wDnew : WE := fun _ ω R => ∀ p, ω p = none → R (.ptr p) (ω.set p (.dct []))
theorem xdnew : XE T X (.Dict [] [] pos) wDnew := ⟨_, pe_dnewK, fun σ H ρ ω R Q W q k p hp => by
  have g := Go.newCell (o := .dK []) (x := .dct []) W.cells W.tabs hp fun kp => ⟨[], upd_same, .nil⟩
  exact k _ _ _ _ g (.ptr p) (q p (W.cells.free hp))⟩
/-- d[k] = v, the key new -/
def wDput (wd wk w : WE) : WS := fun E ρ ω => w ρ ω fun d ω1 => wd ρ ω1 fun o ω2 => wk ρ ω2 fun i ω3 => ∃ p kvs j, o = .ptr p ∧ i = .int j ∧ ω3 p = some (.dct kvs) ∧ dval kvs j = none ∧ kvs.length < 100000 ∧ E.nx ρ (ω3.set p (.dct (kvs ++ [(j, d)])))
theorem sdput {k : Nat} {i : Expr} {wd wk w : WE} (hr : Room k X.A) (ho : XE T X o wd) (hi : XE T X i wk) (hv : XE T X e w) (hs : swapsWith e (some (.Subscript o i pos')) pos.line X.env = pure false := by rfl) : XS T X (.Assign [.Subscript o i pos'] e pos) (wDput wd wk w) := by
  obtain ⟨to, o1, o2⟩ := ho.ex
  obtain ⟨ti, i1, i2⟩ := hi.ex
  obtain ⟨tv, v1, v2⟩ := hv.ex
  refine ⟨_, ps_dput (hu_of hr) o1 i1 v1 hs, fun σ H ρ ω E D W q c => v2 σ H ρ ω _ _ W q fun v H1 d ω1 g1 dv q1 => o2 σ H1 ρ ω1 _ _ (W.go g1) q1 fun x H2 od ω2 g2 dx q2 => i2 σ H2 ρ ω2 _ _ (W.go (g1.trans g2)) q2 fun y H3 id ω3 g3 dy q3 => ?_⟩
  obtain ⟨p, kvs, j, rfl, rfl, h1, h2, hl, q3⟩ := q3
  cases dx
  cases dy
  obtain ⟨ks, hk, hkv⟩ : ∃ ks, H3 p = some (.dK ks) ∧ KvD X.K (hid ω3 H3) ks kvs := g3.cells p _ h1
  have hn : valV ks (.inl j) = none := by
    rcases hkv.val j with ⟨_, _, _, e2, _⟩ | ⟨e1, _⟩
    · rw [h2] at e2; cases e2
    · exact e1
  have hlen : ks.length = kvs.length := Paired.length hkv
  have dv3 : Dv X.K (hid ω3 H3) v d := Dv.mono (g2.trans g3).keep _ _ dv
  have app : ∀ {H : Hp} {l : List (Key × V)} {m : List (Int × Da)} {v d}, KvD X.K H l m → Dv X.K H v d → KvD X.K H (l ++ [(Sum.inl j, v)]) (m ++ [(j, d)]) := by
    intro H l m v d h dv
    induction h with
    | nil => exact .cons ⟨rfl, dv⟩ .nil
    | cons r _ ih => exact .cons r ih
  have ep := putK_new v hn
  have g := Go.write (o := .dK (ks ++ [(Sum.inl j, v)])) (x := .dct (kvs ++ [(j, d)])) g3.cells g3.tabs h1 fun kp => ⟨_, upd_same, (app hkv dv3).mono kp⟩
  have g' := ((g1.trans g2).trans g3).trans g
  refine ⟨p, _, rfl, DPut.k (k := .inl j) hk (by rw [hlen]; exact big_lt hl), ?_⟩
  rw [ep]
  exact c.nx _ _ _ _ g' (W.go g') q3
end
end Dl
set_option maxHeartbeats 4000000
/-! sorted of a list or a tuple of tuples of ints, of any length. -/
namespace SrtX
open PySem PyProof.Rows Srt SrtO
theorem lex_asym : ∀ (a b : List Int), HT.lexLt a b = true → HT.lexLt b a = false
  | [], [], _ => rfl
  | [], _ :: _, _ => rfl
  | _ :: _, [], h => by cases h
  | x :: a, y :: b, h => by
    rw [HT.lexLt_cons] at h ⊢
    by_cases e : x = y
    · rw [if_pos e] at h
      rw [if_pos e.symm]
      exact lex_asym a b h
    · rw [if_neg e] at h
      rw [if_neg fun z => e z.symm]
      have := of_decide_eq_true h
      exact decide_eq_false (by omega)
/-- y before x never, z before y never: z before x never -/
theorem lex_tr : ∀ (x y z : List Int), HT.lexLt y x = false → HT.lexLt z y = false → HT.lexLt z x = false
  | [], [], [], _, _ => rfl
  | [], [], _ :: _, _, _ => rfl
  | [], _ :: _, [], _, h => by cases h
  | [], _ :: _, _ :: _, _, _ => rfl
  | _ :: _, [], _, h, _ => by cases h
  | _ :: _, _ :: _, [], _, h => by cases h
  | a :: x, b :: y, c :: z, h1, h2 => by
    rw [HT.lexLt_cons] at h1 h2 ⊢
    by_cases e1 : b = a
    · by_cases e2 : c = b
      · rw [if_pos e1] at h1
        rw [if_pos e2] at h2
        rw [if_pos (e2.trans e1)]
        exact lex_tr x y z h1 h2
      · rw [if_neg e2] at h2
        rw [if_neg (fun q => e2 (q.trans e1.symm))]
        have := of_decide_eq_false h2
        exact decide_eq_false (by omega)
    · rw [if_neg e1] at h1
      have q1 := of_decide_eq_false h1
      by_cases e2 : c = b
      · rw [if_pos e2] at h2
        rw [if_neg (fun q => e1 (e2.symm.trans q))]
        exact decide_eq_false (by omega)
      · rw [if_neg e2] at h2
        have q2 := of_decide_eq_false h2
        rw [if_neg (by omega)]
        exact decide_eq_false (by omega)
theorem lex_item : ∀ (a b : List Int), PyProof.Rows.lexLt itemOrd (a.map Sum.inl) (b.map Sum.inl) = HT.lexLt a b
  | [], [] => rfl
  | [], _ :: _ => rfl
  | _ :: _, [] => rfl
  | x :: a, y :: b => by
    rw [List.map_cons, List.map_cons]
    by_cases e : x = y
    · subst e
      rw [PyProof.Rows.lex_self (O := itemOrd), HT.lexLt_cons, if_pos rfl]
      exact lex_item a b
    · rw [PyProof.Rows.lex_diff (O := itemOrd) (fun z => e (Sum.inl.inj z)), HT.lexLt_cons, if_neg e]
      rfl
def intOf : Value → Int
  | .int n _ => n
  | _ => 0
/-- the ints of the tuple that v names -/
def keyI (h : Heap) : Value → List Int
  | .ref a => match h.get? a with
    | some o => match o.data with
      | .seq xs _ => xs.toList.map intOf
      | _ => []
    | none => []
  | _ => []
def TupV (h : Heap) (v : Value) (ns : List Int) : Prop := ∃ a o xs n, v = .ref a ∧ h.get? a = some o ∧ o.cls = .type "tuple" ∧ o.data = .seq xs n ∧ IntsAre xs.toList ns
theorem ints_of : ∀ {xs : List Value} {ns : List Int}, IntsAre xs ns → xs.map intOf = ns
  | _, _, .nil => rfl
  | _, _, .cons _ _ t => by
    rw [List.map_cons, ints_of t]; rfl
theorem TupV.key {h : Heap} {v : Value} {ns : List Int} (t : TupV h v ns) : keyI h v = ns := by
  obtain ⟨a, o, xs, n, rfl, ho, _, hd, hi⟩ := t
  unfold keyI
  simp only [ho, hd]
  exact ints_of hi
theorem TupV.keeps {h h' : Heap} {v : Value} {ns : List Int} (t : TupV h v ns) (k : ∀ b o, h.get? b = some o → o.cls = .type "tuple" → h'.get? b = some o) : TupV h' v ns := by
  obtain ⟨a, o, xs, n, e, ho, hc, hd, hi⟩ := t
  exact ⟨a, o, xs, n, e, k a o ho hc, hc, hd, hi⟩
theorem items_of : ∀ {xs : List Value} {ns : List Int} (i : Nat), IntsAre xs ns → tupItems (fun _ => false) i xs = some (ns.map Sum.inl)
  | _, _, i, .nil => by simp [tupItems]
  | _, _, i, .cons _ _ t => by
    have e := items_of (i + 1) t
    simp [tupItems, e]
theorem TupV.tk {h : Heap} {v : Value} {ns : List Int} (t : TupV h v ns) : (tupKind h (fun _ => false)).keyOf v = some (ns.map Sum.inl) := by
  obtain ⟨a, o, xs, n, rfl, ho, hc, hd, hi⟩ := t
  have e : tupKey h (fun _ => false) (.ref a) = some (ns.map Sum.inl) := by
    unfold tupKey
    simp only [ho, hd]
    exact items_of 0 hi
  exact e
theorem swo_key (k : Value → List Int) : Swo fun v u => HT.lexLt (k v) (k u) := ⟨fun x y => lex_asym _ _, fun x y z => lex_tr _ _ _⟩
section
variable {prog : Program} {w : World} {A : Around} {E : Value → Shared → Prop} {s : Shared}
theorem tups_of {h : Heap} : ∀ {vs : List Value}, (∀ v ∈ vs, ∃ ns, TupV h v ns ∧ ns ≠ []) → ∃ fs, TupsOf h (fun _ => false) vs fs ∧ fs.length = vs.length
  | [], _ => ⟨[], .nil, rfl⟩
  | v :: vs, hp => by
    obtain ⟨fs, h1, h2⟩ := tups_of (vs := vs) fun v' hm => hp v' (List.mem_cons_of_mem _ hm)
    obtain ⟨ns, ⟨a, o, xs, n, e, ho, hc, hd, hi⟩, hne⟩ := hp v List.mem_cons_self
    have key : ∀ {l : List Value}, IntsAre l ns → ∃ k t, l[0]? = some (Value.int k t) := by
      intro l hl
      cases hl with
      | nil => exact absurd rfl hne
      | cons _ _ t => exact ⟨_, _, rfl⟩
    obtain ⟨k, t, ek⟩ := key hi
    rw [Array.getElem?_toList] at ek
    exact ⟨.int k t :: fs, .cons ⟨a, o, xs, n, e, ho, hc, hd, ek, fun _ => ⟨k, t, rfl⟩, fun z => by cases z⟩ h1, by rw [List.length_cons, List.length_cons, h2]⟩
theorem tups_sortable {a : Addr} {vs : List Value} (h0 : 0 < vs.length) (hp : ∀ v ∈ vs, ∃ ns, TupV s.heap v ns ∧ ns ≠ []) (ha : ∀ o, s.heap.get? a = some o → o.cls ≠ .type "tuple") : SortableO prog w A s a vs fun v u => HT.lexLt (keyI s.heap v) (keyI s.heap u) := by
  intro h' keep
  have kp : ∀ b o, s.heap.get? b = some o → o.cls = .type "tuple" → h'.get? b = some o := fun b o e c => keep b o (fun z => by subst z; exact ha o e c) e
  have hp' : ∀ v ∈ vs, ∃ ns, TupV h' v ns ∧ ns ≠ [] := fun v hm => by
    obtain ⟨ns, t, hn⟩ := hp v hm
    exact ⟨ns, t.keeps kp, hn⟩
  obtain ⟨fs, h1, h2⟩ := tups_of hp'
  refine ⟨tuples' true, fun Q E hq => tup_kind (by omega) h1 hq, fun p q hm hm' => ?_⟩
  obtain ⟨ns, t1, _⟩ := hp _ hm
  obtain ⟨ms, t2, _⟩ := hp _ hm'
  refine tup_ltAt (s := { s with heap := h' }) (shape := fun _ => false) true A _ p.1 q.1 _ _ (t1.keeps kp).tk (t2.keeps kp).tk ⟨rfl, ?_⟩
  show PyProof.Rows.lexLt itemOrd _ _ = HT.lexLt (keyI s.heap p.1) (keyI s.heap q.1)
  rw [lex_item, t1.key, t2.key]
/-- what a list or a tuple holds, and how far the heap reaches then -/
theorem collect_far {Q : List Value → Shared → Prop} (it : Addr) {T : String} {o : Obj} {items : Array Value} {n : Nat} (hT : T = "list" ∨ T = "tuple") (ho : s.heap.get? it = some o) (hc : o.cls = .type T) (hd : o.data = .seq items n) (hsz : items.size ≤ sizeLine)
    (hQ : ∀ h', (∀ b o', s.heap.get? b = some o' → h'.get? b = some o') → s.heap.objs.size ≤ h'.objs.size → Q items.toList { s with heap := h' }) : wpAny (model prog w) A (collect (.ref it)) Q E s := by
  unfold collect
  refine wpAny_bind (wpAny_runValue (codeAny_builtin F.entry_proto_collect ?_))
  rw [Around.under_plainId F.plain_proto_collect _]
  show wpAny _ A.in1 (newList [] >>= fun l => again (.builtin "list.__iadd__" ⟨[l, .ref it], []⟩)) _ _ s
  refine wpAny_bind (wpAny_newObj_type ?_)
  refine wpAny_pure ⟨plainId_quiet F.plain_list_iadd _, codeAny_builtin F.entry_list_iadd ?_⟩
  rw [Around.under_plainId F.plain_list_iadd _]
  have hS : (s.heap.push { cls := .type "list", data := .seq ([] : List Value).toArray }).get? s.heap.objs.size = some { cls := .type "list", data := .seq #[] 0 } := Heap.get?_push_size _ rfl
  have hS2 := Heap.get?_update_self (Obj.mapSeq (· ++ items)) hS rfl
  have fin' : wpAny (model prog w) A (match Value.ref s.heap.objs.size with
      | Value.ref a => do
        match (← load a).data with
          | Data.seq xs _ => pure xs.toList
          | _ => unsupported "internal:collect"
      | _ => unsupported "internal:collect") Q E { s with heap := (s.heap.push { cls := .type "list", data := .seq ([] : List Value).toArray }).update s.heap.objs.size (Obj.mapSeq (· ++ items)) } := by
    refine wpAny_bind (wpAny_load hS2 ?_)
    refine wpAny_pure ?_
    have e : ((#[] : Array Value) ++ items).toList = items.toList := by simp
    show Q ((#[] : Array Value) ++ items).toList _
    rw [e]
    refine hQ _ (fun b o' hb => (Heap.get?_update_other _ _ (Nat.ne_of_gt (Heap.lt_size hb))).trans (Heap.get?_push_of_some _ hb)) ?_
    rw [Heap.size_update, Heap.size_push]
    exact Nat.le_succ _
  refine wpAny_mono (wpAny_extend_seq (hsz := hsz) (A := A) (R := fun r s' => r = .ok (.ret (.ref s.heap.objs.size)) ∧ s' = { s with heap := (s.heap.push { cls := .type "list", data := .seq ([] : List Value).toArray }).update s.heap.objs.size (Obj.mapSeq (· ++ items)) })
    (s := { s with heap := s.heap.push { cls := .type "list", data := .seq ([] : List Value).toArray } }) _ it _ 0 hT hS (Heap.get?_push_of_some _ ho) hc hd ⟨rfl, rfl⟩) (fun fin s' h => ?_) (fun e s' h => ?_)
  · cases fin with
    | done f =>
      obtain ⟨e, rfl⟩ := h
      cases e
      exact fin'
    | again c' => exact ⟨h.1, codeAny_mono h.2 fun r s'' hr => by obtain ⟨rfl, rfl⟩ := hr; exact fin'⟩
  · exact absurd h.1 (by simp)
/-- sorted of a list or a tuple -/
theorem sorted_seq {l : Addr} {T : String} {o : Obj} {items : Array Value} {n : Nat} {ltv : Value → Value → Bool} {Q : Value → Shared → Prop} (O : Swo ltv) (hT : T = "list" ∨ T = "tuple") (ho : s.heap.get? l = some o) (hc : o.cls = .type T) (hd : o.data = .seq items n) (hz : items.size ≤ sizeLine)
    (hS : 2 ≤ items.toList.length → ∀ (h₁ : Heap) (a : Addr), h₁.get? a = some (seqObj "list" items 0) → (∀ b o, s.heap.get? b = some o → b ≠ a ∧ h₁.get? b = some o) → SortableO prog w A.in1.in1 { s with heap := h₁ } a items.toList ltv)
    (h : ∀ (h' : Heap) (d : Addr) (out : List Value), Srtd ltv out → Stb ltv out items.toList → (∀ b o, s.heap.get? b = some o → h'.get? b = some o) → s.heap.objs.size ≤ d → (∃ n, h'.get? d = some (seqObj "list" out.toArray n)) → Q (.ref d) { s with heap := h' }) :
    wpAny (model prog w) A (call (.builtin "sorted") [.ref l]) Q E s := by
  refine Calls.call_function_entry kind_sorted plain_sorted entry_sorted (args_sorted1 _) ?_
  unfold Builtin.«sorted»
  refine wpAny_bind (m := checkCount "sorted" 1 1 _) (wpAny_pure ?_)
  refine wpAny_bind (collect_far l hT ho hc hd hz fun h1 k1 ge => ?_)
  refine wpAny_bind (wpAny_newList ?_ (by rw [Array.length_toList]; exact hz))
  have hoL : (h1.push (seqObj "list" items.toList.toArray 0)).get? h1.objs.size = some (seqObj "list" items.toList.toArray 0) := Heap.get?_push_size _ rfl
  have keep : ∀ b o, s.heap.get? b = some o → b ≠ h1.objs.size ∧ (h1.push (seqObj "list" items.toList.toArray 0)).get? b = some o := fun b o q =>
    ⟨Nat.ne_of_lt (Heap.lt_size (k1 b o q)), Heap.get?_push_of_some _ (k1 b o q)⟩
  have ei : seqObj "list" items.toList.toArray 0 = seqObj "list" items 0 := by rw [Array.toArray_toList]
  have lt1 : h1.objs.size < (h1.push (seqObj "list" items.toList.toArray 0)).objs.size := by rw [size_push']; exact Nat.lt_succ_self _
  refine wpAny_bind (wpAny_holding (wpAny_call_entry slot_list_sort ⟨_, hoL, rfl⟩ entry_list_sort (list_sort_ord O hoL (by rw [Array.length_toList]; exact hz) (fun h2 => hS h2 _ _ (by rw [hoL, ei]) keep) fun out hs hb => ⟨_, rfl, ?_⟩) (args_list_sort _)))
  refine wpAny_pure ⟨_, rfl, ?_⟩
  refine h _ _ out hs hb (fun b o e => ?_) ge (sortedHeap_at hoL)
  rw [sortedHeap_old (keep b o e).1 (Nat.lt_trans (Heap.lt_size (k1 b o e)) lt1)]
  exact (keep b o e).2
end
end SrtX
namespace L2
open PySem PySem.Spec PyProof.Rows
/-- sorted(xs), xs a list or a tuple of tuples of ints, none of them empty -/
def rSortedX (K : PySem.W.Frag) : List V → Hp → VK → Prop := fun vs H Q => ∃ (a : Addr) (xs : List V), vs = [V.ref a] ∧ (SqL K H a xs ∨ SqT K H a xs) ∧ (∀ x ∈ xs, ∃ t ns, x = V.ref t ∧ SqT K H t (ns.map V.int) ∧ ns ≠ []) ∧
  ∀ ys p, ys.Perm xs → ys.Pairwise (fun x y => ∀ t ns u ms, x = V.ref t → SqT K H t (ns.map V.int) → y = V.ref u → SqT K H u (ms.map V.int) → HT.lexLt ms ns = false) → H p = none → Q (.ref p) (upd H p (.lst ys))
theorem vals_refsX : ∀ {xs : List V} {us : List Value}, Vals xs us → (∀ x ∈ xs, ∃ t, x = V.ref t) → ∀ u ∈ us, ∃ t, u = Value.ref t ∧ V.ref t ∈ xs
  | _, _, .nil, _, u, hu => absurd hu (by simp)
  | x :: xs, v :: us, .cons r t, h, u, hu => by
    obtain ⟨a, e⟩ := h x List.mem_cons_self
    subst e
    cases r
    rcases List.mem_cons.mp hu with e | hu
    · exact ⟨a, e, List.mem_cons_self⟩
    · obtain ⟨b, e1, e2⟩ := vals_refsX t (fun y hy => h y (List.mem_cons_of_mem _ hy)) u hu
      exact ⟨b, e1, List.mem_cons_of_mem _ e2⟩
section
variable {X : Cx}
theorem cr_sortedX : CallR X (.builtin "sorted") (rSortedX X.K) := by
  intro pins s σ H vs us Q I r h
  obtain ⟨a, xs, rfl, hs, hx, q⟩ := h
  obtain ⟨u, rfl, ru⟩ := vals1 r
  obtain rfl : u = Value.ref a := ru
  have src : ∃ (its : List Value) (T : String) (o : Obj) (n : Nat), Vals xs its ∧ (T = "list" ∨ T = "tuple") ∧ s.heap.get? a = some o ∧ o.cls = .type T ∧ o.data = .seq its.toArray n ∧ xs.length ≤ sizeLine := by
    rcases hs with hs | hs
    · obtain ⟨its, rv, hl, hz⟩ := I.list hs
      obtain ⟨o, e, hc, n, hd⟩ := hl.isList
      exact ⟨its, _, o, n, rv, .inl rfl, e, hc, hd, hz⟩
    · obtain ⟨its, rv, ⟨o, e, hc, n, hd⟩, hz⟩ := I.tuple hs
      exact ⟨its, _, o, n, rv, .inr rfl, e, hc, hd, hz⟩
  obtain ⟨its, T, o, n, rv, hT, ho, hc, hd, hz⟩ := src
  have rf := vals_refsX rv fun x m => let ⟨t, _, e, _⟩ := hx x m; ⟨t, e⟩
  obtain ⟨e1, e2⟩ := refs_back rv fun x m => let ⟨t, _, e, _⟩ := hx x m; ⟨t, e⟩
  have tv : ∀ {t : Addr} {ns : List Int}, SqT X.K H t (ns.map V.int) → SrtX.TupV s.heap (.ref t) ns := fun {t ns} h => by
    obtain ⟨its2, r2, ⟨o2, e, hc2, n2, hd2⟩, _⟩ := I.tuple h
    exact ⟨t, o2, _, n2, rfl, e, hc2, hd2, by simpa using intsAre_of r2⟩
  have hp : ∀ v ∈ its, ∃ ns, SrtX.TupV s.heap v ns ∧ ns ≠ [] := fun v hv => by
    obtain ⟨t, rfl, hm⟩ := rf v hv
    obtain ⟨t', ns, e, ht, hn⟩ := hx _ hm
    cases e
    exact ⟨ns, tv ht, hn⟩
  refine SrtX.sorted_seq (ltv := fun v u => HT.lexLt (SrtX.keyI s.heap v) (SrtX.keyI s.heap u)) (SrtX.swo_key _) hT ho hc hd (by rw [List.size_toArray, ← rv.length]; exact hz) (fun h2 h₁ b hb kk => ?_) fun h' d out h1 h2 kp hd hn => ?_
  · have kt : ∀ v ∈ its, SrtX.keyI h₁ v = SrtX.keyI s.heap v := fun v hv => by
      obtain ⟨ns, t, _⟩ := hp v hv
      rw [t.key, (t.keeps fun b o e _ => (kk b o e).2).key]
    have S := SrtX.tups_sortable (prog := X.prog) (w := X.w) (A := X.A.in1.in1) (s := { s with heap := h₁ }) (a := b) (vs := its) (by simpa using Nat.lt_of_lt_of_le Nat.zero_lt_two h2) (fun v hv => by
      obtain ⟨ns, t, hn⟩ := hp v hv
      exact ⟨ns, t.keeps fun b o e _ => (kk b o e).2, hn⟩) fun o e c => by
        rw [hb] at e; cases e
        exact absurd (Value.type.inj c) (by decide)
    intro h3 k3
    obtain ⟨κ, c1, c2⟩ := S h3 k3
    have et : its.toArray.toList = its := by simp
    refine ⟨κ, by rw [et]; exact c1, fun p q hm hm' => ?_⟩
    rw [et] at hm hm'
    have := c2 p q hm hm'
    refine wpAny_mono this (fun r s' ⟨z1, z2⟩ => ⟨z1, ?_⟩) fun _ _ z => z
    rw [z2]
    show HT.lexLt (SrtX.keyI h₁ p.1) (SrtX.keyI h₁ q.1) = HT.lexLt (SrtX.keyI s.heap p.1) (SrtX.keyI s.heap q.1)
    rw [kt _ hm, kt _ hm']
  · have et : its.toArray.toList = its := by simp
    rw [et] at h2
    have pm : out.Perm its := h2.perm
    have h3 : ∀ u ∈ out, ∃ a, u = Value.ref a := fun u hu => e2 u (pm.mem_iff.mp hu)
    obtain ⟨n, hn⟩ := hn
    have hb : (out.map backV).Perm xs := by rw [e1]; exact pm.map _
    refine ⟨.ref d, upd H d (.lst (out.map backV)), I.laid (t' := s.toks) kp hd ⟨?_, out, n, vals_back h3, hn⟩, rfl, q _ d hb ?_ (I.hok.fresh hd)⟩
    · rw [hb.length_eq]; exact hz
    · refine List.pairwise_map.mpr (List.Pairwise.imp_of_mem (fun {x y} mx my hlt => ?_) h1)
      intro t ns u ms ex hns ey hms
      obtain ⟨x', rfl⟩ := h3 _ mx
      obtain ⟨y', rfl⟩ := h3 _ my
      cases ex
      cases ey
      have k1 := (tv hns).key
      have k2 := (tv hms).key
      have hlt : HT.lexLt (SrtX.keyI s.heap (.ref u)) (SrtX.keyI s.heap (.ref t)) = false := hlt
      rw [k1, k2] at hlt
      exact hlt
end
end L2
set_option maxHeartbeats 4000000
/-! Rules: sorted, sum, min, index, repr, truths in a list, what is never reached, {k: v}. -/
namespace L2
open PySem PySem.Spec PyProof.Rows
section
variable {X : Cx}
/-- sum(t), t a tuple of ints -/
def rSumT (K : PySem.W.Frag) : List V → Hp → VK → Prop := fun vs H Q => ∃ (a : Addr) (ns : List Int), vs = [V.ref a] ∧ SqT K H a (ns.map V.int) ∧ Q (.int ns.sum) H
theorem cr_sumT (hc : X.calm = true) : CallR X (.builtin "sum") (rSumT X.K) := by
  intro pins s σ H vs us Q I r h
  obtain ⟨a, ns, rfl, hs, q⟩ := h
  obtain ⟨its, rv, hl, _⟩ := I.tuple hs
  rw [Vals.ref1 r]
  have hi := rv.ints
  obtain ⟨xs, e⟩ := hi.allInts.items
  have hn : numsOf (intItems xs).toList = ns := by rw [← e]; exact hi.numsOf
  rw [nums_intItems] at hn
  have hl : s.heap.IsTuple a its.toArray := hl
  rw [e] at hl
  refine PySem.W.ktm_sumG (I.ok.hd hc) hl fun h' tk t' hk => ?_
  rw [preSum_eq, List.take_of_length_le (by simp), hn]
  exact ⟨.int _, H, I.kept hk, ⟨_, rfl⟩, q⟩
/-- min of a list of pairs of ints: one of them -/
def rMinP (K : PySem.W.Frag) : List V → Hp → VK → Prop := fun vs H Q => ∃ (a : Addr) (xs : List V) (ps : List (Int × Int)), vs = [V.ref a] ∧ SqL K H a xs ∧ DpAll K H xs (ps.map fun p => .tuple [.int p.1, .int p.2]) ∧ ps ≠ [] ∧ ∀ x ∈ xs, Q x H
theorem alike_prs (ps : List (Int × Int)) : PySem.W.AlikeAll (ps.map fun p => PyData.tuple [.int p.1, .int p.2]) := by
  constructor
  · intro x hx y hy
    obtain ⟨p, _, rfl⟩ := List.mem_map.mp hx
    obtain ⟨q, _, rfl⟩ := List.mem_map.mp hy
    simp [PySem.W.alike, PySem.W.alikeAll]
  · intro x hx e
    obtain ⟨p, _, rfl⟩ := List.mem_map.mp hx
    cases e
theorem depth_prs (ps : List (Int × Int)) : PyData.depthAll (ps.map fun p => PyData.tuple [.int p.1, .int p.2]) ≤ 1 := by
  induction ps with
  | nil => simp [PyData.depthAll]
  | cons p ps ih =>
    rw [List.map_cons]
    simp only [PyData.depthAll, PyData.depth]
    omega
theorem cr_minP (hc : X.calm = true) (hu : X.A.units + 64 < cLine) : CallR X (.builtin "min") (rMinP X.K) := by
  intro pins s σ H vs us Q I r h
  obtain ⟨a, xs, ps, rfl, hs, hd, hne, q⟩ := h
  obtain ⟨its, rv, hl, _⟩ := I.list hs
  rw [Vals.ref1 r]
  obtain ⟨as, hr⟩ := Dp.readsAll I _ _ _ hd rv
  cases ps with
  | nil => exact absurd rfl hne
  | cons p ps =>
    rw [List.map_cons] at hr
    have ha := alike_prs (p :: ps)
    have hz := depth_prs (p :: ps)
    rw [List.map_cons] at ha hz
    refine PySem.W.min_list_data (I.ok.hd hc) hl.isList hr ha (by omega) fun i v h' tk bs hv _ hk => ?_
    have hv' : its[i]? = some v := by simpa using hv
    have hi : i < xs.length := by rw [rv.length]; exact (List.getElem?_eq_some_iff.mp hv').1
    obtain ⟨u, hu2, ru⟩ := rv.get (i := i) (x := xs[i]) (List.getElem?_eq_getElem hi)
    rw [hv'] at hu2
    cases hu2
    exact ⟨xs[i], H, I.kept hk, ru, q _ (List.getElem_mem hi)⟩
theorem call_repr_bool : CallR X (.builtin "repr") (fun xs H Q => ∃ b, xs = [.bl b] ∧ Q (.str (if b then "True" else "False")) H) := by
  intro pins s σ H xs us Q I r h
  obtain ⟨b, rfl, q⟩ := h
  obtain ⟨u, rfl, ru⟩ := vals1 r
  cases ru
  exact PySem.P.repr_of_bool ⟨.str _, H, I.tok _, ⟨_, rfl⟩, q⟩
/-- t.index(x), the first place, data of any depth -/
def rIndexT (K : PySem.W.Frag) : V → List V → Hp → VK → Prop := fun x xs H Q => ∃ (a : Addr) (y : V) (d : PyData) (ds : List PyData) (j : Nat) (z : PyData), x = V.ref a ∧ xs = [y] ∧ Dp K H (V.ref a) (.tuple ds) ∧ Dp K H y d ∧
  SeqAt.shaped (.list ds) = true ∧ SeqAt.shaped d = true ∧ ds[j]? = some z ∧ PyData.eqv z d = true ∧ (∀ (m : Nat) (z' : PyData), m < j → ds[m]? = some z' → PyData.eqv z' d = false) ∧ Q (.int (j : Nat)) H
theorem mt_indexT (hu : X.A.units + 65 < cLine) : MtR X "tuple.index" (rIndexT X.K) := by
  intro pins s σ H x xs v us Q I rx rxs h
  obtain ⟨a, y, d, ds, j, z, rfl, rfl, hl, hy, sl, sd, hz, hzj, hno, q⟩ := h
  cases rx
  cases rxs with
  | cons ry rt =>
    rename_i uy ut
    cases rt
    obtain ⟨bs, r1⟩ := Dp.reads I d y uy hy ry
    have hxs : PyData.canLayAll0 ds = true := SeqAt.canLay_of_shaped sl
    have hroom : X.A.units + 1 + min (PyData.depthAll ds) d.depth < cLine := room_in_shaped sd hu
    cases hl with
    | tup hs ha =>
      obtain ⟨its, rv, ⟨⟨cls, dd, data, sls⟩, ho, hc, n, hdt⟩, hlen⟩ := I.tuple hs
      simp only at hc hdt
      subst hc hdt
      obtain ⟨as, h4⟩ := Dp.readsAll I ds _ its ha rv
      have hn : its.length = ds.length := SeqAt.ReadsAll.length ds its as h4
      have hmap : its.map (SeqAt.readOf s.heap) = ds := SeqAt.readsAll_map ds its as hxs h4
      obtain ⟨hjd, _⟩ := List.getElem?_eq_some_iff.mp hz
      have hj : j < its.toArray.size := by rw [List.size_toArray]; omega
      have at_ : ∀ (m : Nat) (hm : m < its.toArray.size) (z' : PyData), ds[m]? = some z' → SeqAt.readOf s.heap its.toArray[m] = z' := by
        intro m hm z' hz'
        have hml : m < its.length := by simpa using hm
        rw [← hmap, List.getElem?_map, List.getElem?_eq_getElem hml] at hz'
        have e1 : SeqAt.readOf s.heap its[m] = z' := Option.some.inj (show some (SeqAt.readOf s.heap its[m]) = some z' from hz')
        simpa using e1
      refine call_meets PySem.F.slot_tuple_index ⟨_, ho, rfl⟩ PySem.F.entry_tuple_index (PySem.F.args_tuple_index_2 _ _)
        (TI.tuple_indexAt a its.toArray n dd sls uy (fun u => PyData.eqv (SeqAt.readOf s.heap u) d) j hj ?_ ?_) ⟨ho, SeqAt.items_eqAt (vs := its.toArray) (show ReadsAll s.heap its.toArray.toList ds as from h4) r1 hxs (SeqAt.canLay_of_shaped sd) hroom, ?_⟩
      · show PyData.eqv (SeqAt.readOf s.heap its.toArray[j]) d = true
        rw [at_ j hj z hz]
        exact hzj
      · intro m hm hmj
        have hz' : ds[m]? = some ds[m] := List.getElem?_eq_getElem (by omega)
        show PyData.eqv (SeqAt.readOf s.heap its.toArray[m]) d = false
        rw [at_ m hm _ hz']
        exact hno m _ hmj hz'
      · exact ⟨.int (j : Nat), H, I.tok _, ⟨_, rfl⟩, q⟩
theorem pe_tupN {es : List Expr} {t : TA} {x1} {pos : Pos} (h : PA X es t) : PE X (.Tuple es x1 pos) (fun σ H Q => t σ H fun xs H1 => xs.length ≤ sizeLine ∧ ∀ p o, H1 p = none → o.dict = none → Q (.ref p) (upd H1 p (.frz o (.tup xs)))) := by
  refine ⟨fun pins s σ H Q I hq => ?_⟩
  refine wpAny_Tuple_spliced (thn (h.run pos pins s σ H _ I hq) fun us s1 ⟨xs, H1, I1, r, z, q⟩ => ⟨by rw [← r.length]; exact z, ?_⟩)
  have hf : H1 s1.heap.objs.size = none := I1.hok.fresh (Nat.le_refl _)
  refine ⟨.ref s1.heap.objs.size, upd H1 s1.heap.objs.size (.frz _ (.tup xs)), I1.laid (t' := s1.toks) (fun b u e => Heap.get?_push_of_some _ e) (Nat.le_refl _) ⟨Heap.get?_push_size _ rfl, ?_⟩, rfl, q _ _ hf rfl⟩
  exact ⟨z, us, r, ⟨_, Heap.get?_push_size _ rfl, rfl, _, rfl⟩⟩
theorem call_tupleN : CallR X (.type "tuple") (fun xs H Q => ∃ p ys, xs = [.ref p] ∧ SqL X.K H p ys ∧ ∀ l o, H l = none → o.dict = none → Q (.ref l) (upd H l (.frz o (.tup ys)))) := by
  intro pins s σ H xs us Q I r h
  obtain ⟨p, ys, rfl, hq, q⟩ := h
  obtain ⟨u, rfl, rx⟩ := vals1 r
  cases rx
  obtain ⟨its, r', pl, hz⟩ := I.list hq
  have hlen := r'.length
  refine call_tuple_list pl.isList (fun h' kp => ?_) (by simp only [List.size_toArray] <;> omega)
  have I1 : Inv X pins σ H { s with heap := h' } := I.kept (t' := s.toks) kp
  have I2 : Inv X pins σ (upd H h'.objs.size (.frz { cls := .type "tuple", data := .seq its.toArray } (.tup ys))) { s with heap := h'.push { cls := .type "tuple", data := .seq its.toArray } } :=
    I1.laid (t' := s.toks) (fun b o e => Heap.get?_push_of_some _ e) (Nat.le_refl _) ⟨Heap.get?_push_size _ rfl, hz, its, r', IsTup.new _ _⟩
  exact ⟨.ref h'.objs.size, _, I2, rfl, q _ _ (I1.hok.fresh (Nat.le_refl _)) rfl⟩
/-- t.m(e, ..), t a tuple that is known to have no dict -/
theorem pe_tm {o e : Expr} {es : List Expr} {to : TE} {t : TA} {name : Str} {id : String} {apos cpos : Pos} {r : V → List V → Hp → VK → Prop} (slot : Slot "tuple" name id) (hty : typeOf (.builtin id) = pure (.type "method_descriptor")) (hm : MtR X id r) (ho : PE X o to) (ha : PA X (e :: es) t)
    (hbase : attributeBase o name X.env (eval o X.env) = eval o X.env := by rfl)
    (hfew : ((backTo cpos (starEach (e :: es) X.env)).all (fun x => !x.1) && (backToKw cpos (keywordEach [] X.env)).all (fun x => x.1.isSome)
      && decide ((e :: es).length + ([] : List Keyword).length + (if ([] : List Keyword).isEmpty then 0 else 1) < 30)) = true := by rfl)
    (hline : (apos.endLine == cpos.line) = true := by rfl) (hs : starEach (e :: es) X.env = (false, eval e X.env) :: starEach es X.env := by rfl) (hplain : (backTo cpos (starEach es X.env)).any (·.1) = false := by rfl) :
    PE X (.Call (.Attribute o name apos) (e :: es) [] cpos) (fun σ H Q => to σ H fun x H1 => (∃ a ob xs, x = .ref a ∧ H1 a = some (.frz ob (.tup xs)) ∧ ob.dict = none) ∧ t σ H1 fun xs H2 => r x xs H2 Q) := by
  refine ⟨fun pins s σ H Q I h => ?_⟩
  refine wpAny_Call_method_late hbase hfew hline rfl (thn (ho.run pins s σ H _ I h) fun v s1 ⟨x, H1, I1, r1, ⟨a, ob, xs, ex, hk, hd⟩, q1⟩ => ?_)
  subst ex
  cases r1
  obtain ⟨hob, z⟩ := I1.hok a _ hk
  obtain ⟨_, its, _, o2, e2, hc2, _⟩ := z
  rw [hob] at e2
  cases e2
  refine ⟨"tuple", id, PySem.F.plainAttrs_tuple, slot, hty, ⟨ob, hob, hc2⟩, fun b e => ?_, ?_⟩
  · cases e
    exact ⟨ob, hob, hd⟩
  · have hA := ha.run cpos pins s1 σ H1 _ I1 q1
    rw [hs] at hA ⊢
    refine Calls.callWith_builtin (by show (false || (backTo cpos (starEach es X.env)).any (·.1)) = false; rw [hplain] <;> rfl) (Calls.evalArgs_plain ?_)
    exact thn hA fun us s2 ⟨vs, H2, I2, r2, q2⟩ => hm pins s2 σ H2 (.ref a) vs (.ref a) us Q I2 rfl r2 q2
end
end L2
namespace Dl
open PySem PySem.Spec PyProof.Rows L2
section
variable {T : Tb} {X : Cx} {a b c e o : Expr} {es rest : List Expr} {pos p pos' : Pos} {wa wb wc : WE} {K : PySem.W.Frag}
/-- an expression that is not reached -/
def wNo : WE := fun _ _ _ => False
theorem xnever : XE T X e wNo := ⟨fun _ _ _ => False, ⟨fun pins s σ H Q I h => h.elim⟩, fun σ H ρ ω R Q W q k => q.elim⟩
/-! ### sorted -/
abbrev tI (ns : List Int) : Da := .tup (ns.map .int)
theorem dv_perm {H : Hp} {xs ys : List V} (p : ys.Perm xs) : ∀ {ds : List Da}, DvAll K H xs ds → ∃ es, es.Perm ds ∧ DvAll K H ys es := by
  induction p with
  | nil => intro ds h; exact ⟨ds, .refl _, h⟩
  | cons x _ ih =>
    intro ds h
    cases h with
    | cons h1 h2 =>
      obtain ⟨es, e1, e2⟩ := ih h2
      exact ⟨_ :: es, e1.cons _, .cons h1 e2⟩
  | swap x y l =>
    intro ds h
    cases h with
    | cons h1 h2 =>
      cases h2 with
      | cons h3 h4 => exact ⟨_, List.Perm.swap _ _ _, .cons h3 (.cons h1 h4)⟩
  | trans _ _ ih1 ih2 =>
    intro ds h
    obtain ⟨es, e1, e2⟩ := ih2 h
    obtain ⟨fs, f1, f2⟩ := ih1 e2
    exact ⟨fs, f1.trans e1, f2⟩
theorem dv_tI {H : Hp} {v : V} {ns : List Int} (h : Dv K H v (tI ns)) : ∃ t, v = .ref t ∧ SqT K H t (ns.map V.int) := by
  cases h with
  | tup hs ha =>
    have e := ha.ints
    subst e
    exact ⟨_, rfl, hs⟩
structure fSortedX (ds : List Da) (ω : Om) (R : Da → Om → Prop) : Prop where
  ex : ∃ d, ∃ l : List (List Int), ds = [d] ∧ seqOf ω d = some (l.map tI) ∧ (∀ x ∈ l, x ≠ []) ∧ ∀ m : List (List Int), m.Perm l → m.Pairwise (fun x y => HT.lexLt y x = false) → R (.lst (m.map tI)) ω
theorem perm_map {α β : Type} {f : α → β} (hf : ∀ x y, f x = f y → x = y) : ∀ {es : List β} {l : List α}, es.Perm (l.map f) → ∃ m : List α, m.Perm l ∧ es = m.map f := by
  intro es l h
  have : ∀ {es ds : List β}, es.Perm ds → ∀ l : List α, ds = l.map f → ∃ m : List α, m.Perm l ∧ es = m.map f := by
    intro es ds h
    induction h with
    | nil => intro l e; cases l with
      | nil => exact ⟨[], .refl _, rfl⟩
      | cons => cases e
    | cons x _ ih =>
      intro l e
      cases l with
      | nil => cases e
      | cons y l =>
        rw [List.map_cons] at e
        obtain ⟨e1, e2⟩ := List.cons.inj e
        obtain ⟨m, m1, m2⟩ := ih l e2
        exact ⟨y :: m, m1.cons _, by rw [List.map_cons, m2, e1]⟩
    | swap x y r =>
      intro l e
      match l, e with
      | u :: v :: l, e =>
        rw [List.map_cons, List.map_cons] at e
        obtain ⟨e1, e2⟩ := List.cons.inj e
        obtain ⟨e2, e3⟩ := List.cons.inj e2
        exact ⟨v :: u :: l, List.Perm.swap _ _ _, by rw [List.map_cons, List.map_cons, e1, e2, e3]⟩
    | trans _ _ ih1 ih2 =>
      intro l e
      obtain ⟨m, m1, m2⟩ := ih2 l e
      obtain ⟨n, n1, n2⟩ := ih1 m m2
      exact ⟨n, n1.trans m1, n2⟩
  exact this h l rfl
theorem int_inj : ∀ {l m : List Int}, l.map Da.int = m.map Da.int → l = m
  | [], [], _ => rfl
  | [], _ :: _, e => by cases e
  | _ :: _, [], e => by cases e
  | x :: l, y :: m, e => by
    rw [List.map_cons, List.map_cons] at e
    obtain ⟨e1, e2⟩ := List.cons.inj e
    rw [Da.int.inj e1, int_inj e2]
theorem tI_inj (x y : List Int) (h : tI x = tI y) : x = y := int_inj (Da.tup.inj h)
theorem dv_sorted {H : Hp} : ∀ {ys : List V} {m : List (List Int)}, DvAll K H ys (m.map tI) → ys.Pairwise (fun x y => ∀ t ns u ms, x = V.ref t → SqT K H t (ns.map V.int) → y = V.ref u → SqT K H u (ms.map V.int) → HT.lexLt ms ns = false) → m.Pairwise (fun x y => HT.lexLt y x = false)
  | _, [], _, _ => .nil
  | _, n :: m, h, hp => by
    rw [List.map_cons] at h
    cases h with
    | cons h1 h2 =>
      obtain ⟨p1, p2⟩ := List.pairwise_cons.mp hp
      obtain ⟨t, rfl, ht⟩ := dv_tI h1
      refine List.pairwise_cons.mpr ⟨fun k hk => ?_, dv_sorted h2 p2⟩
      obtain ⟨i, hi⟩ := List.mem_iff_getElem?.mp hk
      obtain ⟨v, hv, dv⟩ := h2.get' (i := i) (d := tI k) (by rw [List.getElem?_map, hi]; rfl)
      obtain ⟨u, rfl, hu⟩ := dv_tI dv
      exact p1 _ (List.mem_of_getElem? hv) t n u k rfl ht rfl hu
theorem bi_sortedX (hm : X.mg "sorted" = none) : BiB T X "sorted" fSortedX := ⟨hm, .inl ⟨_, _, cr_sortedX, fun vs H ds ω R Q c t dvs ⟨⟨d, l, e1, h1, hne, q⟩⟩ k => by
  subst e1
  obtain ⟨v, rfl, dv⟩ := dvAll1 dvs
  obtain ⟨a, xs, rfl, hs, ha⟩ := seq_sq c dv h1
  have haH := DvAll.mono hid_le _ _ ha
  refine ⟨a, xs, rfl, hs, fun x hx => ?_, fun ys p h2 h3 hp => ?_⟩
  · obtain ⟨i, hi⟩ := List.mem_iff_getElem?.mp hx
    obtain ⟨dd, hd, dx⟩ := haH.get hi
    rw [List.getElem?_map] at hd
    cases el : l[i]? with
    | none => rw [el] at hd; cases hd
    | some ns =>
      rw [el] at hd
      cases hd
      obtain ⟨t, rfl, ht⟩ := dv_tI dx
      exact ⟨t, ns, rfl, ht, hne _ (List.mem_of_getElem? el)⟩
  · obtain ⟨es, e1, e2⟩ := dv_perm h2 ha
    obtain ⟨m, m1, rfl⟩ := perm_map tI_inj e1
    have g := Go.new (o := .lst ys) c t hp
    exact k _ _ _ ω g (.lst (SqL.of (hid_new c hp)) (DvAll.mono g.keep _ _ e2)) (q m m1 (dv_sorted (DvAll.mono hid_le _ _ e2) h3)), PyProof.Rows.boot_sorted⟩⟩
/-! ### sum of a tuple, min of pairs, repr of a truth -/
def fSumT : FA := fun ds ω R => ∃ ns : List Int, ds = [tI ns] ∧ R (.int ns.sum) ω
theorem bi_sum (hc : X.calm = true) (hm : X.mg "sum" = none) : BiB T X "sum" fSumT := ⟨hm, .inl ⟨_, _, cr_sumT hc, fun vs H ds ω R Q c t dvs ⟨ns, e1, q⟩ k => by
  subst e1
  obtain ⟨v, rfl, dv⟩ := dvAll1 dvs
  obtain ⟨t', rfl, ht⟩ := dv_tI (Dv.mono hid_le _ _ dv)
  exact ⟨t', ns, rfl, ht, k _ H _ ω (Go.refl c t) (.int _) q⟩, PyProof.Rows.boot_sum⟩⟩
abbrev prI (p : Int × Int) : Da := .tup [.int p.1, .int p.2]
structure fMinP (ds : List Da) (ω : Om) (R : Da → Om → Prop) : Prop where
  ex : ∃ d, ∃ ps : List (Int × Int), ds = [d] ∧ lstOf ω d = some (ps.map prI) ∧ ps ≠ [] ∧ ∀ p ∈ ps, R (prI p) ω
theorem pyAll_map {α : Type} (f : α → Da) : ∀ l : List α, pyAll (l.map f) = l.map fun x => (f x).py
  | [] => rfl
  | x :: l => by rw [List.map_cons, List.map_cons, pyAll, pyAll_map f l]
theorem bi_minP {k : Nat} (hc : X.calm = true) (hr : Room k X.A) (hm : X.mg "min" = none) : BiB T X "min" fMinP := ⟨hm, .inl ⟨_, _, cr_minP hc hr.units, fun vs H ds ω R Q c t dvs ⟨⟨d, ps, e1, h1, hne, q⟩⟩ k => by
  subst e1
  obtain ⟨v, rfl, dv⟩ := dvAll1 dvs
  obtain ⟨a, xs, rfl, hs, ha⟩ := lst_sq c dv h1
  have np : npAll (ps.map prI) = true := by
    clear h1 hne q ha
    induction ps with
    | nil => rfl
    | cons p ps ih => show ((prI p).np && npAll (ps.map prI)) = true; rw [ih]; rfl
  have hd := DvAll.dp _ _ np (DvAll.mono hid_le _ _ ha)
  rw [pyAll_map] at hd
  refine ⟨a, xs, ps, rfl, hs, hd, hne, fun x hx => ?_⟩
  obtain ⟨i, hi⟩ := List.mem_iff_getElem?.mp hx
  obtain ⟨dd, hdd, dx⟩ := ha.get hi
  obtain ⟨p, hp, rfl⟩ := List.mem_map.mp (List.mem_of_getElem? hdd)
  exact k _ H _ ω (Go.refl c t) dx (q p hp), PyProof.Rows.boot_min⟩⟩
def fRepr : FA := fun ds ω R => ∃ b, ds = [.bl b] ∧ R (.str (if b then "True" else "False")) ω
theorem bi_repr (hm : X.mg "repr" = none) : BiB T X "repr" fRepr := ⟨hm, .inl ⟨_, _, call_repr_bool, fun vs H ds ω R Q c t dvs ⟨b, e1, q⟩ k => by
  subst e1
  obtain ⟨v, rfl, dv⟩ := dvAll1 dvs
  cases dv
  exact ⟨b, rfl, k _ H _ ω (Go.refl c t) (.str _) q⟩, PyProof.Rows.boot_repr⟩⟩
/-! ### True in a list of truths -/
def fInB : F2 := fun d e ω R => ∃ i, ∃ bs : List Bool, d = .bl i ∧ lstOf ω e = some (bs.map .bl) ∧ R (.bl (decide (i ∈ bs))) ω
theorem bls_flat (bs : List Bool) : (bs.map V.bl).all flatV = true := by
  rw [List.all_map]; exact List.all_eq_true.mpr fun _ _ => rfl
theorem inV_bls (i : Bool) (bs : List Bool) : inV (.bl i) (bs.map V.bl) = decide (i ∈ bs) := by
  unfold inV
  rw [List.any_map]
  induction bs with
  | nil => rfl
  | cons b bs ih =>
    rw [List.any_cons, ih]
    show ((b == i) || _) = _
    cases b <;> cases i <;> simp
theorem opD_inB : OpD K T (rIn K false) fInB := fun x y H d e ω R Q c t dx dy ⟨i, bs, e1, h1, q⟩ k => by
  subst e1
  cases dx
  obtain ⟨a, xs, rfl, hs, ha⟩ := lst_sq c dy h1
  have z := ha.bls
  subst z
  refine ⟨a, _, rfl, .inl hs, rfl, bls_flat bs, ?_⟩
  rw [if_neg (by decide), inV_bls]
  exact k _ H _ ω (Go.refl c t) (.bl _) q
theorem tinB (ha : XE T X a wa) (hb : XE T X b wb) (hm : behindInMarks .In b = false := by rfl) : XT T X (.Compare a [.In] [b] pos) (wTB (w2 fInB wa wb)) := tcmp op_in_seq opD_inB ha hb hm
/-! ### tuples without a dict -/
def wUn (w : WE) : WE := fun ρ ω R => w ρ ω fun d ω' => R (unN d) ω'
theorem xun {w : WE} (h : XE T X e w) : XE T X e (wUn w) := by
  obtain ⟨t, h1, h2⟩ := h.ex
  exact ⟨t, h1, fun σ H ρ ω R Q W q k => h2 σ H ρ ω _ _ W q fun v H' d ω' g dv q' => k v H' _ ω' g dv.un q'⟩
def wTupN (w : WA) : WE := fun ρ ω R => w ρ ω fun ds ω1 => R (.tupN ds) ω1
theorem xtupN {w : WA} {x1} (h : XA T X es w) (hl : es.length ≤ 100000 := by decide) : XE T X (.Tuple es x1 pos) (wTupN w) := by
  obtain ⟨t, h1, h2⟩ := h.ex
  refine ⟨_, pe_tupN h1, fun σ H ρ ω R Q W q k => h2 σ H ρ ω _ _ W q fun vs H1 ds ω1 g1 dvs hn q1 => ⟨big_line (by rw [dvs.length, hn]; exact hl), fun p o hp ho => ?_⟩⟩
  have g := Go.new (o := .frz o (.tup vs)) g1.cells g1.tabs hp
  exact k _ _ _ ω1 (g1.trans g) (.tupN (hid_new g1.cells hp) ho (DvAll.mono g.keep _ _ dvs)) q1
def fTupleN : FA := fun ds ω R => ∃ d l, ds = [d] ∧ lstOf ω d = some l ∧ R (.tupN l) ω
theorem bi_tupleN (hm : X.mg "tuple" = none) : BiB T X "tuple" fTupleN := ⟨hm, .inr ⟨_, _, call_tupleN, fun vs H ds ω R Q c t dvs ⟨d, l, e1, h1, q⟩ k => by
  subst e1
  obtain ⟨v, rfl, dv⟩ := dvAll1 dvs
  obtain ⟨a, xs, rfl, hs, ha⟩ := lst_sq c dv h1
  refine ⟨a, xs, rfl, hs, fun p o hp ho => ?_⟩
  have g := Go.new (o := .frz o (.tup xs)) c t hp
  exact k _ _ _ ω g (.tupN (hid_new c hp) ho (DvAll.mono g.keep _ _ ha)) q, PyProof.Rows.boot_tuple⟩⟩
/-! ### index -/
def laysAll (l : List Da) : Prop := PyData.canLayAll0 (pyAll l) = true
def lays (d : Da) : Prop := d.py.canLay0 = true
/-- o.index(e): the first place; the list or tuple is clean -/
structure fIndex (l : List Da) (e : Da) (ω : Om) (R : Da → Om → Prop) : Prop where
  ex : (res ω e).cl = true ∧ clAll l = true ∧ laysAll l ∧ lays (res ω e) ∧ depAll l ≤ 50 ∧ (res ω e).dep ≤ 50 ∧ ∃ j : Nat, l[j]? = some (res ω e) ∧ (∀ m, m < j → l[m]? ≠ some (res ω e)) ∧ R (.int (j : Nat)) ω
theorem pyAll_get : ∀ {l : List Da} {i : Nat}, (pyAll l)[i]? = (l[i]?).map Da.py
  | [], _ => by simp [pyAll]
  | d :: l, 0 => by simp [pyAll]
  | d :: l, i + 1 => by simp [pyAll, pyAll_get (l := l)]
theorem clAll_mem : ∀ {l : List Da} {d : Da}, clAll l = true → d ∈ l → d.cl = true
  | [], _, _, h => by cases h
  | e :: l, d, h, hm => by
    have h' : e.cl = true ∧ clAll l = true := by simpa [clAll] using h
    rcases List.mem_cons.mp hm with z | z
    · rw [z]; exact h'.1
    · exact clAll_mem h'.2 z
theorem index_core {H : Hp} {l : List Da} {e : Da} {ω : Om} {R : Da → Om → Prop} {v : V} (c : Cells K ω H) (de : Dv K (hid ω H) v e) (h : fIndex l e ω R) : ∃ (d : PyData) (j : Nat) (z : PyData), Dp K H v d ∧ SeqAt.shaped (.list (pyAll l)) = true ∧ SeqAt.shaped d = true ∧ (pyAll l)[j]? = some z ∧ PyData.eqv z d = true ∧ (∀ (m : Nat) (z' : PyData), m < j → (pyAll l)[m]? = some z' → PyData.eqv z' d = false) ∧ R (.int (j : Nat)) ω := by
  obtain ⟨h1, h2, h3, h4, h5, h6, j, h7, h8, q⟩ := h.ex
  refine ⟨(res ω e).py, j, (res ω e).py, dp_res c de (np_of_cl _ h1), ?_, ?_, by rw [pyAll_get, h7]; rfl, (eqv_cl _ _ h1 h1).mpr rfl, fun m z' hm hz => ?_, q⟩
  · unfold SeqAt.shaped
    rw [Bool.and_eq_true]
    refine ⟨h3, decide_eq_true ?_⟩
    simp only [PyData.depth]
    rw [depAll_py]
    omega
  · unfold SeqAt.shaped
    rw [Bool.and_eq_true]
    refine ⟨h4, decide_eq_true ?_⟩
    rw [dep_py]
    omega
  · rw [pyAll_get] at hz
    cases el : l[m]? with
    | none => rw [el] at hz; cases hz
    | some d =>
      rw [el] at hz
      cases hz
      have hne : d ≠ res ω e := fun z => h8 m hm (by rw [el, z])
      have hcl := clAll_mem h2 (List.mem_of_getElem? el)
      rw [← Bool.not_eq_true]
      exact fun z => hne ((eqv_cl _ _ hcl h1).mp z)
def fIndexL : Da → List Da → Om → (Da → Om → Prop) → Prop := fun d ds ω R => ∃ l e, ds = [e] ∧ lstOf ω d = some l ∧ fIndex l e ω R
theorem mtD_index : MtD K T (rIndexD K) fIndexL := fun x vs H d ds ω R Q c t dx dvs ⟨l, e, e1, h1, hx⟩ k => by
  subst e1
  obtain ⟨v, rfl, dv⟩ := dvAll1 dvs
  obtain ⟨d', j, z, q1, q2, q3, q4, q5, q6, q⟩ := index_core c dv hx
  obtain ⟨a, xs, rfl, hs, ha⟩ := lst_sq c dx h1
  have np : npAll l = true := npAll_of_cl _ hx.ex.2.1
  exact ⟨a, v, d', _, j, z, rfl, rfl, .lst hs (DvAll.dp _ _ np (DvAll.mono hid_le _ _ ha)), q1, q2, q3, q4, q5, q6, k _ H _ ω (Go.refl c t) (.int _) q⟩
theorem Room.units65 {k : Nat} {A : Around} (r : Room k A) : A.units + 65 < cLine := by have := r.un; omega
theorem xindex {k : Nat} {apos : Pos} {wo : WE} {w : WA} (hr : Room k X.A) (ho : XE T X o wo) (ha : XA T X [e] w) (hbase : attributeBase o "index" X.env (eval o X.env) = eval o X.env := by rfl)
    (hfew : ((backTo pos (starEach (e :: []) X.env)).all (fun x => !x.1) && (backToKw pos (keywordEach [] X.env)).all (fun x => x.1.isSome)
      && decide ((e :: ([] : List Expr)).length + ([] : List Keyword).length + (if ([] : List Keyword).isEmpty then 0 else 1) < 30)) = true := by rfl)
    (hline : (apos.endLine == pos.line) = true := by rfl) (hs : starEach (e :: []) X.env = (false, eval e X.env) :: starEach [] X.env := by rfl) :
    XE T X (.Call (.Attribute o "index" apos) [e] [] pos) (wM fIndexL wo w) := xmeth PySem.F.slot_list_index PySem.F.type_list_index (mt_indexD (Room.units65 hr)) mtD_index ho ha hbase hfew hline hs rfl
/-- t.index(e), t a tuple without a dict -/
def wIndexT (wo : WE) (w : WA) : WE := fun ρ ω R => wo ρ ω fun d ω1 => ∃ l, d = .tupN l ∧ w ρ ω1 fun ds ω2 => ∃ e, ds = [e] ∧ fIndex l e ω2 R
theorem xindexT {k : Nat} {apos : Pos} {wo : WE} {w : WA} (hr : Room k X.A) (ho : XE T X o wo) (ha : XA T X [e] w) (hbase : attributeBase o "index" X.env (eval o X.env) = eval o X.env := by rfl)
    (hfew : ((backTo pos (starEach (e :: []) X.env)).all (fun x => !x.1) && (backToKw pos (keywordEach [] X.env)).all (fun x => x.1.isSome)
      && decide ((e :: ([] : List Expr)).length + ([] : List Keyword).length + (if ([] : List Keyword).isEmpty then 0 else 1) < 30)) = true := by rfl)
    (hline : (apos.endLine == pos.line) = true := by rfl) (hs : starEach (e :: []) X.env = (false, eval e X.env) :: starEach [] X.env := by rfl) :
    XE T X (.Call (.Attribute o "index" apos) [e] [] pos) (wIndexT wo w) := by
  obtain ⟨t, o1, o2⟩ := ho.ex
  obtain ⟨s, a1, a2⟩ := ha.ex
  refine ⟨_, pe_tm PySem.F.slot_tuple_index PySem.F.type_tuple_index (mt_indexT (Room.units65 hr)) o1 a1 hbase hfew hline hs rfl, fun σ H ρ ω R Q W q k => ?_⟩
  refine o2 σ H ρ ω _ _ W q fun x H1 d ω1 g1 dx q1 => ?_
  obtain ⟨l, rfl, q1⟩ := q1
  have dx0 := dx
  cases dx with
  | @tupN a ob xs _ hf hd ha =>
    refine ⟨⟨a, ob, xs, rfl, (hid_some hf).2, hd⟩, ?_⟩
    refine a2 σ H1 ρ ω1 _ _ (W.go g1) q1 fun vs H2 ds ω2 g2 dvs hn q2 => ?_
    obtain ⟨e', rfl, hx⟩ := q2
    obtain ⟨v, rfl, dv⟩ := dvAll1 dvs
    obtain ⟨d', j, z, q1, q2, q3, q4, q5, q6, q⟩ := index_core g2.cells dv hx
    have np : npAll l = true := npAll_of_cl _ hx.ex.2.1
    have dx2 : Dv X.K (hid ω2 H2) (.ref a) (.tup l) := (Dv.mono g2.keep _ _ dx0).un
    have dp := Dv.dp (.tup l) _ np (Dv.mono hid_le _ _ dx2)
    have e : Da.py (.tup l) = .tuple (pyAll l) := by simp only [Da.py]
    rw [e] at dp
    exact ⟨a, v, d', _, j, z, rfl, rfl, dp, q1, q2, q3, q4, q5, q6, k _ H2 _ ω2 (g1.trans g2) (.int _) q⟩
/-! ### {i: v}, one int key -/
def wDone (wk wv : WE) : WE := fun ρ ω R => ∀ p, ω p = none → wk ρ ω fun d ω1 => ω1 = ω ∧ wv ρ ω fun e ω2 => ω2 = ω ∧ ∃ i, d = .int i ∧ R (.ptr p) (ω.set p (.dct [(i, e)]))
end
end Dl
set_option maxHeartbeats 4000000
/-! Dicts that stand still, {k: v}, tuple * int, comprehensions of two clauses. -/
namespace L2
open PySem PySem.Spec PyProof.Rows
section
variable {X : Cx} {e : Expr} {t : TE}
/-- the value is a thing that stays as it is from now on -/
theorem pe_lockstay (h : PE X e t) : PE X e (fun σ H Q => t σ H fun v H1 => ∃ d u, v = .ref d ∧ H1 d = some u ∧ Mut (some u) ∧ ∀ od, Q v (upd H1 d (.frz od u))) := by
  refine ⟨fun pins s σ H Q I hw => ?_⟩
  refine thn (h.run pins s σ H _ I hw) fun v s1 ⟨x, H1, I1, r, d, u, ex, hd, mu, q⟩ => ?_
  obtain ⟨od, I2⟩ := I1.lock hd mu
  exact ⟨x, _, I2, r, q od⟩
theorem call_list_dF (hc : X.calm = true) : CallR X (.type "list") (fun xs H Q => ∃ p kvs, xs = [.ref p] ∧ Rd H p (.dK kvs) ∧ ∀ q, H q = none → Q (.ref q) (upd H q (.lst (kvs.map fun kv => kV kv.1)))) := by
  intro pins s σ H xs us Q I r h
  obtain ⟨p, kvs, e, hk, q⟩ := h
  subst e
  obtain ⟨u, eu, rx⟩ := vals1 r
  subst eu
  obtain rfl : u = Value.ref p := rx
  obtain ⟨z, lo, vs, rk, hd⟩ := (show ObjOk X.prog X.w H s.heap p (.dK kvs) from hk.ok I.hok)
  obtain ⟨ep, hat⟩ := hd.dictAt
  have hl : kvs.length = vs.length := Paired.length rk
  refine PySem.W.kdl_call (PySem.W.kdl_dict (knd := mixKind X.prog X.w) (kvs := vs) (ep := ep) lo) (I.ok.hd hc) hat (by rw [← hl]; exact z) fun h' tk acc' c' hkeep hS hacc => ?_
  refine ⟨.ref s.heap.objs.size, upd H s.heap.objs.size (.lst (kvs.map fun kv => kV kv.1)), I.laid hkeep (Nat.le_refl _) (show ObjOk X.prog X.w _ _ _ (.lst (kvs.map fun kv => kV kv.1)) from ⟨?_, acc'.toList, c', ?_, ?_⟩), rfl, q _ (I.hok.fresh (Nat.le_refl _))⟩
  · rw [List.length_map]; exact z
  · have el : acc'.toList.length = acc'.size := by simp
    refine vals_of_at (by rw [List.length_map, el, hacc.1, hl]) fun j x w h1 h2 => ?_
    obtain ⟨k, y, hky, hi⟩ := hacc.2 j w (by rw [← Array.getElem?_toList]; exact h2)
    have e1 : (kvs.map (·.1))[j]? = some k := by
      rw [KV.keys rk, List.getElem?_map, hky] <;> rfl
    have e2 : (kvs.map fun kv => kV kv.1)[j]? = some (kV k) := by
      have e3 : (kvs.map fun kv => kV kv.1) = (kvs.map (·.1)).map kV := by rw [List.map_map] <;> rfl
      rw [e3, List.getElem?_map, e1] <;> rfl
    rw [e2] at h1
    cases h1
    exact keyIs_rel hi
  · rw [Array.toArray_toList]; exact hS
theorem tuple_mulE (l : Addr) (items : Array Value) (n : Nat) (dd : Option Addr) (sl : Array (Option Value)) (x : Int) (u : Tok) (c0 : (decide (x < -(2 ^ 63)) || decide (x ≥ 2 ^ 63)) = false) (c1 : (items.isEmpty || x == 1) = false) (c2 : (decide (x ≤ 0) || items.isEmpty) = true) :
    Meets (Builtin.«tuple.__mul__» ⟨[.ref l, .int x u], []⟩) (fun _ R s => s.heap.get? l = some { cls := .type "tuple", dict := dd, data := .seq items n, slots := sl } ∧
      R (.ok (.ret (Value.ref s.heap.objs.size))) { s with heap := s.heap.push { cls := Value.type "tuple", data := Data.seq #[] }, toks := s.toks }) :=
  .of_wp fun prog w A R s h => by
    obtain ⟨hp, g, d, tk, os⟩ := s
    obtain ⟨hl, h⟩ := h
    have f1 := AutoSeq1.idx_int
    wp_walk using wpAny_loadPart' hl
    repeat (first
      | (refine wpAny_ite_false (decide_eq_false (by rw [c0]; exact Bool.false_ne_true)) ?_; wp_walk using wpAny_loadPart' hl)
      | (refine wpAny_ite_false (decide_eq_false (by rw [c1]; exact Bool.false_ne_true)) ?_; wp_walk using wpAny_loadPart' hl)
      | (refine wpAny_ite_true (decide_eq_true (by rw [c2])) ?_; wp_walk using wpAny_loadPart' hl))
    exact ⟨_, rfl, h⟩
theorem tuple_mul1 (l : Addr) (items : Array Value) (n : Nat) (dd : Option Addr) (sl : Array (Option Value)) (x : Int) (u : Tok) (c0 : (decide (x < -(2 ^ 63)) || decide (x ≥ 2 ^ 63)) = false) (c1 : (items.isEmpty || x == 1) = true) :
    Meets (Builtin.«tuple.__mul__» ⟨[.ref l, .int x u], []⟩) (fun _ R s => s.heap.get? l = some { cls := .type "tuple", dict := dd, data := .seq items n, slots := sl } ∧ R (.ok (.ret (Value.ref l))) s) :=
  .of_wp fun prog w A R s h => by
    obtain ⟨hp, g, d, tk, os⟩ := s
    obtain ⟨hl, h⟩ := h
    have f1 := AutoSeq1.idx_int
    wp_walk using wpAny_loadPart' hl
    repeat (first
      | (refine wpAny_ite_false (decide_eq_false (by rw [c0]; exact Bool.false_ne_true)) ?_; wp_walk using wpAny_loadPart' hl)
      | (refine wpAny_ite_true (decide_eq_true (by rw [c1])) ?_; wp_walk using wpAny_loadPart' hl))
    exact ⟨_, rfl, h⟩
/-- t * k, k = 0 or 1, t not empty -/
def rRep01 (K : PySem.W.Frag) : R2 := fun x y H Q => ∃ l k xs, x = .ref l ∧ y = .int k ∧ SqT K H l xs ∧ xs ≠ [] ∧ ((k = 0 ∧ ∀ p, H p = none → Q (.ref p) (upd H p (.tup []))) ∨ (k = 1 ∧ Q (.ref l) H))
theorem op_rep01 : OpR X (binaryOp .Mult) (rRep01 X.K) := by
  intro pins s σ H x y v u Q I rx ry h
  obtain ⟨l, k, xs, rfl, rfl, hT, hne, q⟩ := h
  cases rx
  obtain ⟨t, rfl⟩ := ry
  obtain ⟨its, r, ⟨⟨cls, dd, data, sl⟩, ho, hc, n, hd⟩, hs⟩ := I.tuple hT
  simp only at hc hd
  subst hc hd
  have hle : its.length = xs.length := r.length.symm
  have hn : its ≠ [] := fun e => hne (by
    rw [e] at hle
    exact List.eq_nil_of_length_eq_zero hle.symm)
  have hi : its.toArray.isEmpty = false := by
    cases its with
    | nil => exact absurd rfl hn
    | cons a b => rfl
  rcases q with ⟨rfl, q⟩ | ⟨rfl, q⟩
  · refine wpAny_binaryOp_repeat_ref (T := "tuple") (U := "int") (by decide) ⟨_, ho, rfl⟩ (fun s' => typeIs_int s' 0 t) noFill_tuple_mul F.fills_int_mul F.slot_int_rmul repeat_tuple F.slot_int_index.lookup
      (call_meets F.slot_int_rmul (typeIs_int s 0 t) F.entry_int_rmul (F.args_int_rmul_2 _ _) (int_rmul_tuple 0 t l its.toArray n dd sl)
        ⟨ho, rfl, ⟨_, ho, rfl⟩, call_meets F.slot_tuple_mul ⟨_, ho, rfl⟩ F.entry_tuple_mul (F.args_tuple_mul_2 _ _) (tuple_mulE l its.toArray n dd sl 0 t (by decide) (by rw [hi]; decide) (by simp)) ⟨ho, ?_⟩⟩)
    refine ⟨.ref s.heap.objs.size, upd H s.heap.objs.size (.tup []), I.laid (t' := s.toks) (fun b ob q => Heap.get?_push_of_some _ q) (Nat.le_refl _) ⟨Nat.zero_le _, [], .nil, ⟨_, Heap.get?_push_size _ rfl, rfl, _, rfl⟩⟩, rfl, q _ (I.hok.fresh (Nat.le_refl _))⟩
  · refine wpAny_binaryOp_repeat_ref (T := "tuple") (U := "int") (by decide) ⟨_, ho, rfl⟩ (fun s' => typeIs_int s' 1 t) noFill_tuple_mul F.fills_int_mul F.slot_int_rmul repeat_tuple F.slot_int_index.lookup
      (call_meets F.slot_int_rmul (typeIs_int s 1 t) F.entry_int_rmul (F.args_int_rmul_2 _ _) (int_rmul_tuple 1 t l its.toArray n dd sl)
        ⟨ho, rfl, ⟨_, ho, rfl⟩, call_meets F.slot_tuple_mul ⟨_, ho, rfl⟩ F.entry_tuple_mul (F.args_tuple_mul_2 _ _) (tuple_mul1 l its.toArray n dd sl 1 t (by decide) (by simp)) ⟨ho, ?_⟩⟩)
    exact ⟨.ref l, H, I, rfl, q⟩
end
end L2
namespace Dl
open PySem PySem.Spec PyProof.Rows L2
section
variable {T : Tb} {X : Cx} {a b c e o tg iter elt tg1 iter1 : Expr} {es rest : List Expr} {pos p pos' : Pos} {wa wb wc : WE} {K : PySem.W.Frag}
/-! ### tuple * int, the tuple not empty -/
def fRep : F2 := fun d e ω R => ∃ l k, d = .tup l ∧ e = .int k ∧ l ≠ [] ∧ 0 ≤ k ∧ k ≤ 1000 ∧ l.length ≤ 1000 ∧ R (.tup (List.replicate k.toNat l).flatten) ω
theorem dvAll_flat {H : Hp} {xs : List V} {l : List Da} (h : DvAll K H xs l) : ∀ n : Nat, DvAll K H (List.replicate n xs).flatten (List.replicate n l).flatten
  | 0 => .nil
  | n + 1 => by
    rw [List.replicate_succ, List.replicate_succ, List.flatten_cons, List.flatten_cons]
    exact h.append (dvAll_flat h n)
theorem xrep (ha : XE T X a wa) (hb : XE T X b wb) : XE T X (.BinOp a .Mult b pos) (w2 fRep wa wb) := by
  have ho : OpR X (binaryOp .Mult) (fun x y H Q => rRepT X.K x y H Q ∨ rRep01 X.K x y H Q) := by
    intro pins s σ H x y v u Q I rx ry h
    rcases h with h | h
    · exact op_repT pins s σ H x y v u Q I rx ry h
    · exact op_rep01 pins s σ H x y v u Q I rx ry h
  refine xop ho (fun x y H d e ω R Q c t dx dy ⟨l, k, e1, e2, hne, h0, h1, hl, q⟩ kk => ?_) ha hb
  subst e1 e2
  cases dy
  cases dx with
  | @tup a xs _ hs hx =>
    have hs' := sqT_mono hid_le hs
    have hlen := hx.length
    have hne' : xs ≠ [] := fun z => by
      rw [z] at hlen
      exact hne (List.eq_nil_of_length_eq_zero hlen.symm)
    by_cases k0 : k = 0
    · subst k0
      refine .inr ⟨a, 0, xs, rfl, rfl, hs', hne', .inl ⟨rfl, fun p hp => ?_⟩⟩
      have g := Go.new (o := .tup []) c t hp
      exact kk _ _ _ ω g (.tup (SqT.of (hid_new c hp)) .nil) q
    · by_cases k1 : k = 1
      · subst k1
        refine .inr ⟨a, 1, xs, rfl, rfl, hs', hne', .inr ⟨rfl, ?_⟩⟩
        refine kk _ H _ ω (Go.refl c t) (.tup hs ?_) q
        have : (List.replicate (1 : Int).toNat l).flatten = l := by
          show (List.replicate 1 l).flatten = l
          simp
        rw [this]; exact hx
      · refine .inl ⟨a, k, xs, rfl, rfl, hs', hne', by omega, h1, by rw [hlen]; exact hl, fun p hp => ?_⟩
        have g := Go.new (o := .tup (List.replicate k.toNat xs).flatten) c t hp
        exact kk _ _ _ ω g (.tup (SqT.of (hid_new c hp)) (DvAll.mono g.keep _ _ (dvAll_flat hx _))) q
/-! ### {i: v} -/
def wDisp (wk wv : WE) : WE := fun ρ ω R => ∀ p, ω p = none → wk ρ (ω.set p (.dct [])) fun d ω1 => wv ρ ω1 fun e ω2 => ω2 p = some (.dct []) ∧ ∃ i, d = .int i ∧ R (.ptr p) (ω2.set p (.dct [(i, e)]))
theorem xdisp {k v : Expr} {wk wv : WE} (hk : XE T X k wk) (hv : XE T X v wv) : XE T X (.Dict [some k] [v] pos) (wDisp wk wv) := by
  obtain ⟨tk, k1, k2⟩ := hk.ex
  obtain ⟨tv, v1, v2⟩ := hv.ex
  refine ⟨_, pe_disp (pps_cons k1 v1 pps_nil) rfl rfl (by simp) (by simp), fun σ H ρ ω R Q W q kk p hp => ?_⟩
  have g0 : Go X.K T ω (ω.set p (.dct [])) H (upd H p (.dK [])) := Go.newCell (o := .dK []) (x := .dct []) W.cells W.tabs hp fun _ => ⟨[], upd_same, .nil⟩
  refine k2 σ _ ρ _ _ _ (W.go g0) (q p (W.cells.free hp)) fun x H1 d ω1 g1 dx q1 => ?_
  refine v2 σ H1 ρ ω1 _ _ (W.go (g0.trans g1)) q1 fun y H2 e ω2 g2 dy q2 => ?_
  obtain ⟨hc, i, rfl, q2⟩ := q2
  cases dx
  obtain ⟨ks, h1, h2⟩ : ∃ ks, H2 p = some (.dK ks) ∧ KvD X.K (hid ω2 H2) ks [] := g2.cells p _ hc
  cases h2
  refine ⟨h1, [(Sum.inl i, y)], rfl, by simp, ?_⟩
  have g3 := Go.write (o := .dK [(Sum.inl i, y)]) (x := .dct [(i, e)]) g2.cells g2.tabs hc fun kp => ⟨_, upd_same, .cons ⟨rfl, Dv.mono kp _ _ dy⟩ .nil⟩
  exact kk _ _ _ _ (((g0.trans g1).trans g2).trans g3) (.ptr p) q2
/-! ### dicts from ints to ints that stand still -/
def cI (kvs : List (Int × Int)) : List (Int × Da) := kvs.map fun p => (p.1, .int p.2)
theorem kvd_ints {H : Hp} : ∀ {ks : List (Key × V)} {kvs : List (Int × Int)}, KvD K H ks (cI kvs) → ks = kvI kvs
  | _, [], h => by cases h; rfl
  | _, p :: kvs, h => by
    cases h with
    | @cons q _ _ _ r t =>
      obtain ⟨r1, r2⟩ := r
      have e := kvd_ints t
      obtain ⟨q1, q2⟩ := q
      have r1 : q1 = Sum.inl p.1 := r1
      have r2 : Dv K H q2 (.int p.2) := r2
      subst r1
      cases r2
      rw [e]; rfl
def wFzD (w : WE) : WE := fun ρ ω R => w ρ ω fun d ω1 => ∃ p kvs, d = .ptr p ∧ ω1 p = some (.dct (cI kvs)) ∧ R (.fdct kvs) (ω1.del p)
theorem xfzD {w : WE} (h : XE T X e w) : XE T X e (wFzD w) := by
  obtain ⟨t, h1, h2⟩ := h.ex
  refine ⟨_, pe_lockstay h1, fun σ H ρ ω R Q W q k => h2 σ H ρ ω _ _ W q fun v H1 d ω1 g1 dv q1 => ?_⟩
  obtain ⟨p, kvs, rfl, e1, q1⟩ := q1
  cases dv
  obtain ⟨ks, h3, h4⟩ : ∃ ks, H1 p = some (.dK ks) ∧ KvD X.K (hid ω1 H1) ks (cI kvs) := g1.cells p _ e1
  have ek := kvd_ints h4
  subst ek
  refine ⟨p, _, rfl, h3, trivial, fun od => ?_⟩
  have g : Go X.K T ω1 (ω1.del p) H1 (upd H1 p (.frz od (.dK (kvI kvs)))) := by
    have kp : Kp (hid ω1 H1) (hid (ω1.del p) (upd H1 p (.frz od (.dK (kvI kvs))))) := fun a u e _ => by
      obtain ⟨z1, z2⟩ := hid_some e
      have ne : a ≠ p := fun z => by subst z; rw [e1] at z1; cases z1
      exact hid_of (by rw [Om.del_ne ne]; exact z1) (by rw [upd_ne ne]; exact z2)
    refine ⟨kp, fun a y e => ?_, tabs_keep g1.tabs fun b u e hu => ?_⟩
    · by_cases ha : a = p
      · subst ha; rw [Om.del_same] at e; cases e
      · rw [Om.del_ne ha] at e
        exact (g1.cells a y e).mono kp fun u q => by rw [upd_ne ha]; exact q
    · have ne : b ≠ p := fun z => by
        subst z
        rw [h3] at e
        cases e
        rcases hu with ⟨ps, e⟩ | ⟨φ, e⟩ <;> cases e
      rw [upd_ne ne]; exact e
  exact k _ _ _ _ (g1.trans g) (.fdct (hid_of Om.del_same upd_same)) q1
theorem fdct_rd {ω : Om} {H : Hp} {v : V} {kvs : List (Int × Int)} (h : Dv K (hid ω H) v (.fdct kvs)) : ∃ a o, v = .ref a ∧ (hid ω H) a = some (.frz o (.dK (kvI kvs))) ∧ H a = some (.frz o (.dK (kvI kvs))) := by
  cases h with
  | fdct hs => exact ⟨_, _, rfl, hs, (hid_some hs).2⟩
def ival (kvs : List (Int × Int)) (k : Int) : Option Int := (kvs.find? fun kv => decide (kv.1 = k)).map (·.2)
theorem valV_ints (kvs : List (Int × Int)) (k : Int) : valV (kvI kvs) (.inl k) = (ival kvs k).map V.int := by
  induction kvs with
  | nil => rfl
  | cons p kvs ih =>
    obtain ⟨k2, v⟩ := p
    show valV ((Sum.inl k2, V.int v) :: kvI kvs) (Sum.inl k) = _
    by_cases hk : k2 = k
    · subst hk
      unfold valV ival
      rw [List.find?_cons_of_pos (by simp), List.find?_cons_of_pos (by simp)]
      rfl
    · have n1 : ¬ (Sum.inl k2 : Key) = Sum.inl k := fun z => hk (Sum.inl.inj z)
      rw [valV_neg n1, ih]
      unfold ival
      rw [List.find?_cons_of_neg (by simp [hk])]
structure fDgetF (d e : Da) (ω : Om) (R : Da → Om → Prop) : Prop where
  ex : ∃ kvs i x, d = .fdct kvs ∧ e = .int i ∧ ival kvs i = some x ∧ R (.int x) ω
theorem xdgetF {k : Nat} (hr : Room k X.A) (ha : XE T X a wa) (hb : XE T X b wb) (hs : NoSl b := by exact fun _ _ => rfl) : XE T X (.Subscript a b pos) (w2 fDgetF wa wb) := by
  obtain ⟨ta, a1, a2⟩ := ha.ex
  obtain ⟨tb, b1, b2⟩ := hb.ex
  refine ⟨_, pe_dget (hu_of hr) a1 b1 hs, fun σ H ρ ω R Q W q k => a2 σ H ρ ω _ _ W q fun x H1 d ω1 g1 dx q1 => b2 σ H1 ρ ω1 _ _ (W.go g1) q1 fun y H2 e ω2 g2 dy q2 => ?_⟩
  obtain ⟨⟨kvs, i, z, rfl, rfl, h3, q2⟩⟩ := q2
  cases dy
  obtain ⟨a, o, rfl, _, hh⟩ := fdct_rd (Dv.mono g2.keep _ _ dx)
  refine ⟨a, .int z, rfl, ?_, k _ H2 _ ω2 (g1.trans g2) (.int _) q2⟩
  exact .inl ⟨_, .inl i, .inr ⟨o, hh⟩, rfl, by rw [valV_ints, h3]; rfl⟩
structure fDinF (neg : Bool) (d e : Da) (ω : Om) (R : Da → Om → Prop) : Prop where
  ex : ∃ kvs i, e = .fdct kvs ∧ d = .int i ∧ R (.bl (if neg then !(ival kvs i).isSome else (ival kvs i).isSome)) ω
theorem tdninF {k : Nat} (hr : Room k X.A) (ha : XE T X a wa) (hb : XE T X b wb) (hm : behindInMarks .NotIn b = false := by rfl) : XT T X (.Compare a [.NotIn] [b] pos) (wTB (w2 (fDinF true) wa wb)) := by
  obtain ⟨ta, a1, a2⟩ := ha.ex
  obtain ⟨tb, b1, b2⟩ := hb.ex
  refine ⟨_, pt_cmp (pc_dnotin (hu_of hr) a1 b1) hm, xtest fun σ H ρ ω R Q W q k => a2 σ H ρ ω _ _ W q fun x H1 d ω1 g1 dx q1 => b2 σ H1 ρ ω1 _ _ (W.go g1) q1 fun y H2 e ω2 g2 dy q2 => ?_⟩
  obtain ⟨⟨kvs, i, rfl, rfl, q2⟩⟩ := q2
  cases dx
  obtain ⟨a, o, rfl, _, hh⟩ := fdct_rd dy
  refine ⟨a, _, rfl, .inl ⟨_, .inl i, .inr ⟨o, hh⟩, rfl, rfl⟩, ?_⟩
  rw [valV_ints]
  have e : (!((ival kvs i).map V.int).isSome) = !(ival kvs i).isSome := by cases ival kvs i <;> rfl
  rw [e]
  exact k _ H2 _ ω2 (g1.trans g2) (.bl _) q2
def fListF : FA := fun ds ω R => ∃ kvs, ds = [.fdct kvs] ∧ R (.lst ((kvs.map (·.1)).map .int)) ω
theorem bi_listF (hc : X.calm = true) (hm : X.mg "list" = none) : BiB T X "list" fListF := ⟨hm, .inr ⟨_, _, call_list_dF hc, fun vs H ds ω R Q c t dvs ⟨kvs, e1, q⟩ k => by
  subst e1
  obtain ⟨v, rfl, dv⟩ := dvAll1 dvs
  obtain ⟨a, o, rfl, _, hh⟩ := fdct_rd dv
  refine ⟨a, _, rfl, .inr ⟨o, hh⟩, fun p hp => ?_⟩
  have e : ((kvI kvs).map fun kv => kV kv.1) = (kvs.map (·.1)).map V.int := by rw [List.map_map, List.map_map]; rfl
  rw [e]
  have g := Go.new (o := .lst ((kvs.map (·.1)).map V.int)) c t hp
  exact k _ _ _ ω g (.lst (SqL.of (hid_new c hp)) (dvAll_ints _)) q, PyProof.Rows.boot_list⟩⟩
def wiK (w : WE) : WI := fun ρ ω R => w ρ ω fun d ω1 => ∃ kvs, d = .fdct kvs ∧ R ((kvs.map (·.1)).map .int) ω1
theorem xik {w : WE} (h : XE T X iter w) : XI T X tg iter (wiK w) := by
  obtain ⟨t, h1, h2⟩ := h.ex
  refine ⟨_, pi_keys h1, fun σ H ρ ω R Q W q k => h2 σ H ρ ω _ _ W q fun v H1 d ω1 g1 dv q1 => ?_⟩
  obtain ⟨kvs, rfl, q1⟩ := q1
  obtain ⟨a, o, rfl, hf, hh⟩ := fdct_rd dv
  refine ⟨a, o, rfl, .inl ⟨_, hh, k _ H1 _ ω1 g1 (fun ω2 H2 g i => ?_) q1⟩⟩
  have hk : H2 a = some (.frz o (.dK (kvI kvs))) := (hid_some (g.keep a _ hf (fun ps z => by cases z))).2
  have hl : (kvI kvs).length = ((kvs.map (·.1)).map Da.int).length := by simp [kvI]
  refine ⟨fun hi => ⟨⟨hk, by rw [hl]; exact hi⟩, fun x H3 ⟨e3, k', v', h4, h5⟩ => ?_⟩, fun hi => ⟨hk, by rw [hl]; exact hi⟩⟩
  subst e3 h5
  rw [List.getElem?_map] at h4
  cases ek : kvs[i]? with
  | none => rw [ek] at h4; cases h4
  | some q =>
    rw [ek] at h4
    cases h4
    exact ⟨.int q.1, by rw [List.getElem?_map, List.getElem?_map, ek]; rfl, Go.refl g.cells g.tabs, .int _⟩
/-! ### comprehensions of two clauses, no tests -/
structure LcI (g1 : WG) (w : WE) (vs1 : List Nat) (ρ2 : Rho) (D : Addr) (es acc : List Da) (ω3 : Om) (N : List Da → Om → Prop) : Prop where
  ex : ∃ I1 : Nat → List Da → Om → Prop, I1 0 acc ω3 ∧ (∀ j acc ω4, I1 j acc ω4 → acc.length ≤ 50000) ∧
    (∀ j e acc ω4, es[j]? = some e → I1 j acc ω4 → g1 e (wipeR ρ2 vs1) fun ρ3 => w ρ3 ω4 fun y ω5 => ω5 D = some (.lst acc) ∧ I1 (j + 1) (acc ++ [y]) (ω5.set D (.lst (acc ++ [y])))) ∧
    ∀ acc ω4, I1 es.length acc ω4 → N acc ω4
structure LcB2 (g : WG) (wi1 : WI) (g1 : WG) (w : WE) (vs vs1 : List Nat) (ρ : Rho) (ds : List Da) (ω1 : Om) (R : Da → Om → Prop) : Prop where
  ex : ∀ D, ω1 D = none → ∃ I : Nat → List Da → Om → Prop, I 0 [] (ω1.set D (.lst [])) ∧
    (∀ i d acc ω2, ds[i]? = some d → I i acc ω2 → g d (wipeR ρ vs) fun ρ2 => wi1 ρ2 ω2 fun es ω3 => LcI g1 w vs1 ρ2 D es acc ω3 (I (i + 1))) ∧
    ∀ acc ω2, I ds.length acc ω2 → R (.ptr D) ω2
def wLc2 (wi : WI) (g : WG) (wi1 : WI) (g1 : WG) (w : WE) (vs vs1 : List Nat) : WE := fun ρ ω R => wi ρ ω fun ds ω1 => LcB2 g wi1 g1 w vs vs1 ρ ds ω1 R
theorem wipeR_len : ∀ {ρ : Rho} {vs : List Nat}, (wipeR ρ vs).length = ρ.length
  | ρ, [] => rfl
  | ρ, v :: vs => by
    show ((wipeR ρ vs).set v none).length = _
    rw [List.length_set, wipeR_len]
theorem xlc2N {scope : Scope} {own : List (Str × Nat)} {vs1 is is1 : List Nat} {wi wi1 : WI} {g g1 : WG} {w : WE} (hc : X.calm = true) (hN : X.N.Nodup) (ok : blkC X.N X.env.scope scope own = true) (hv : ∀ i ∈ vs1, i ∈ own.map (·.2)) (hi : XI T X tg iter wi)
    (hg : ∀ s H C cl fp, XG T (blkX X scope s H C cl fp) tg is g) (hi1 : ∀ s H C cl fp, XI T (blkX X scope s H C cl fp) tg1 iter1 wi1) (hg1 : ∀ s H C cl fp, XG T (blkX X scope s H C cl fp) tg1 is1 g1) (he : ∀ s H C cl fp, XE T (blkX X scope s H C cl fp) elt w)
    (his : ∀ i ∈ is, i ∈ own.map (·.2) := by decide) (his1 : ∀ i ∈ is1, i ∈ vs1 := by decide) (hs : ∀ x, foldedSetIterable iter X.env x = pure x := by intro _; rfl) (hs1 : ∀ env x, foldedSetIterable iter1 env x = pure x := by intro _ _; rfl) :
    XE T X (.ListComp elt [⟨tg, iter, [], 0⟩, ⟨tg1, iter1, [], 0⟩] scope pos) (wLc2 wi g wi1 g1 w (own.map (·.2)) vs1) := by
  refine ⟨_, pe_lc2 (wi := tDI X.K T wi) (g := tDG X.K T is g) (tt := tDT X.K T wtYes) (wi1 := tDI X.K T wi1) (g1 := tDG X.K T is1 g1) (tt1 := tDT X.K T wtYes) (te := tD X.K T w) hc hN hi.pi (blkOk_by ok) hv (fun s H C cl fp => (hg s H C cl fp).pg) (fun s H C cl fp => xtn.pts) (fun s H C cl fp => (hi1 s H C cl fp).pi) (fun s H C cl fp => (hg1 s H C cl fp).pg) (fun s H C cl fp => xtn.pts) (fun s H C cl fp => (he s H C cl fp).pe) hs hs1, fun σ H ρ ω R Q W q k => ?_⟩
  refine ⟨ρ, ω, _, W, q, fun J H1 ds ω1 go1 wk q1 D hD => ?_⟩
  obtain ⟨I, h0, turn, fin⟩ := q1.ex D (go1.cells.free hD)
  have goN : Go X.K T ω1 (ω1.set D (.lst [])) H1 (upd H1 D (.lst [])) := Go.newCell go1.cells go1.tabs hD fun kp => ⟨[], upd_same, .nil⟩
  refine ⟨fun i m H' => m = ds.length - i ∧ i ≤ ds.length ∧ ∃ acc ω', Go X.K T ω1 ω' H1 H' ∧ I i acc ω', ⟨_, rfl, Nat.zero_le _, [], _, goN, h0⟩, ?_⟩
  rintro i m H' ⟨rfl, hle, acc, ω', go2, hI⟩
  obtain ⟨w1, w2⟩ := wk ω' H' go2 i
  by_cases hlt : i < ds.length
  · obtain ⟨hgo, hy⟩ := w1 hlt
    refine .inr ⟨hgo, fun H2 => ∃ acc ω2, Go X.K T ω1 ω2 H1 H2 ∧ I (i + 1) acc ω2, fun H2 ⟨acc, ω2, a1, a3⟩ => ⟨ds.length - (i + 1), by omega, rfl, hlt, acc, ω2, a1, a3⟩, fun x H3 y => ?_⟩
    obtain ⟨d, hd, go3, dv⟩ := hy x H3 y
    have go13 := go2.trans go3
    have W3 : Wd X.K T (wipe σ (own.map (·.2))) (wipeR ρ (own.map (·.2))) ω' H3 := (W.go (go1.trans go13)).wipe _
    refine ⟨d, _, ω', _, W3, dv, turn i d acc ω' hd hI, fun σ4 ρ4 W4 hw q4 => ?_⟩
    refine ⟨by rw [hw _ his, wipe_wipe fun i hi => hi], ρ4, ω', fun b ω5 => b = true ∧ ω5 = ω', W4, ⟨rfl, rfl⟩, fun b H5 ω5 go5 ⟨eb, eo⟩ => ?_⟩
    subst eb eo
    refine ⟨ρ4, ω5, _, W4.go go5, q4, fun J1 H6 es ω6 go6 wk1 q6 => ?_⟩
    obtain ⟨I1, i0, icell, turn1, fin1⟩ := q6
    have W6 : Wd X.K T σ4 ρ4 ω6 H6 := (W4.go go5).go go6
    have go16 := (go13.trans go5).trans go6
    refine ⟨fun j k H' => k = es.length - j ∧ j ≤ es.length ∧ ∃ acc ω', Go X.K T ω6 ω' H6 H' ∧ I1 j acc ω', ⟨_, rfl, Nat.zero_le _, acc, _, Go.refl go6.cells go6.tabs, i0⟩, ?_⟩
    rintro j k' H7 ⟨rfl, hle1, acc7, ω7, go7, hI1⟩
    obtain ⟨v1, v2⟩ := wk1 ω7 H7 go7 j
    by_cases hlt1 : j < es.length
    · obtain ⟨hgo1, hy1⟩ := v1 hlt1
      refine .inr ⟨hgo1, fun H2 => ∃ acc ω2, Go X.K T ω6 ω2 H6 H2 ∧ I1 (j + 1) acc ω2, fun H2 ⟨acc, ω2, a1, a3⟩ => ⟨es.length - (j + 1), by omega, rfl, hlt1, acc, ω2, a1, a3⟩, fun x8 H8 y8 => ?_⟩
      obtain ⟨d8, hd8, go8, dv8⟩ := hy1 x8 H8 y8
      have W8 : Wd X.K T (wipe σ4 vs1) (wipeR ρ4 vs1) ω7 H8 := (W6.go (go7.trans go8)).wipe _
      refine ⟨d8, _, ω7, _, W8, dv8, turn1 j d8 acc7 ω7 hd8 hI1, fun σ9 ρ9 W9 hw9 q9 => ?_⟩
      refine ⟨by rw [hw9 _ his1, wipe_wipe fun i hi => hi], ρ9, ω7, fun b ω5 => b = true ∧ ω5 = ω7, W9, ⟨rfl, rfl⟩, fun b H10 ω10 go10 ⟨eb, eo⟩ => ?_⟩
      subst eb eo
      refine ⟨ρ9, ω10, _, W9.go go10, q9, fun z H11 e ω11 go11 dz q11 => ?_⟩
      obtain ⟨hc11, q11⟩ := q11
      obtain ⟨xs, hx, ha⟩ := cell_lst go11.cells hc11
      have g12 := Go.write (o := .lst (xs ++ [z])) (x := .lst (acc7 ++ [e])) go11.cells go11.tabs hc11 fun kp => ⟨_, upd_same, DvAll.mono kp _ _ (ha.append (.cons dz .nil))⟩
      refine ⟨xs, hx, ?_, acc7 ++ [e], _, (((go7.trans go8).trans go10).trans go11).trans g12, q11⟩
      rw [ha.length]
      have := icell j acc7 _ hI1
      exact big_lt (by omega)
    · have e : j = es.length := by omega
      subst e
      exact .inl ⟨v2 (Nat.le_refl _), acc7, ω7, go16.trans go7, fin1 acc7 ω7 hI1⟩
  · have e : i = ds.length := by omega
    subst e
    exact .inl ⟨w2 (Nat.le_refl _), k _ H' _ ω' (go1.trans go2) (.ptr D) (fin acc ω' hI)⟩
theorem xlc2 {scope : Scope} {own : List (Str × Nat)} {vs1 is is1 : List Nat} {wi wi1 : WI} {g g1 : WG} {w : WE} (hc : X.calm = true) (hN : X.N.Nodup) (ok : blkC X.N X.env.scope scope own = true) (hv : ∀ i ∈ vs1, i ∈ own.map (·.2)) (hi : XI T X tg iter wi)
    (hg : ∀ s H C cl fp, XG T (blkX X scope s H C cl fp) tg is g) (hi1 : ∀ s H C cl fp, XI T (blkX X scope s H C cl fp) tg1 iter1 wi1) (hg1 : ∀ s H C cl fp, XG T (blkX X scope s H C cl fp) tg1 is1 g1) (he : ∀ s H C cl fp, XE T (blkX X scope s H C cl fp) elt w)
    (his : ∀ i ∈ is, i ∈ own.map (·.2) := by decide) (his1 : ∀ i ∈ is1, i ∈ vs1 := by decide) (hs : ∀ x, foldedSetIterable iter X.env x = pure x := by intro _; rfl) (hs1 : ∀ env x, foldedSetIterable iter1 env x = pure x := by intro _ _; rfl) :
    XE T X (.ListComp elt [⟨tg, iter, [], 0⟩, ⟨tg1, iter1, [], 0⟩] scope pos) (wFz (wLc2 wi g wi1 g1 w (own.map (·.2)) vs1)) := xfz (xlc2N hc hN ok hv hi hg hi1 hg1 he his his1 hs hs1)
end
end Dl
set_option maxHeartbeats 4000000
/-! sorted({..}) of ints. -/
namespace L2
open PySem PySem.Spec PyProof.Rows
section
variable {X : Cx}
theorem addI_ok {pins : List (Addr × Obj)} {σ : L2.St} {H : Hp} {s : Shared} {E : Value → Shared → Prop} {D : Addr} {S : Int → Bool} {n : Nat} {y : Int} {tk : Tok} {Q : Value → Shared → Prop} (I : Inv X pins σ H s) (hD : H D = some (SetO X.w D S n)) (room : n + 1 < scanBound)
    (h : ∀ s', Inv X pins σ (upd H D (SetO X.w D (fun j => S j || decide (j = y)) (if S y = true then n else n + 1))) s' → Q .none s') : wpAny (model X.prog X.w) X.A (call (.builtin "set.add") [.ref D, .int y tk]) Q E s := by
  have R := setO_get I hD
  refine setR_add R room fun h' sb new => ?_
  have he : ∃ u, h'.get? D = some u := by
    have ⟨o, _, _, _, ho, _⟩ := new
    exact ⟨o, ho⟩
  exact h _ (I.write (e := D) (t' := s.toks + 1) (by rw [hD]; trivial) (.inl rfl) (fun b u hb hu => (sb.2 b hb).trans hu) he (setO_new new))
/-- {elt for target in iter if ..}, elt an int: D the new set -/
def tScI (w : World) (wi : TI) (g : TG) (tt : TT) (te : TE) (vs : List Nat) : TE := fun σ H Q => wi σ H fun J H1 => ∀ D, H1 D = none → ∃ W : Nat → Nat → Hp → Prop, (∃ m, W 0 m (upd H1 D (SetO w D (fun _ => false) 0))) ∧ ∀ i m H, W i m H →
  (J.stop i H ∧ Q (.ref D) H) ∨ (J.go i H ∧ ∃ Nx : Hp → Prop, (∀ H', Nx H' → ∃ m', m' < m ∧ W (i + 1) m' H') ∧ ∀ x H', J.yld i H x H' → g x (wipe σ vs) H' fun σ2 H2 => wipe σ2 vs = wipe σ vs ∧ tt σ2 H2 fun b H3 =>
    if b = true then te σ2 H3 fun y H4 => ∃ (c : Int) (S : Int → Bool) (n : Nat), y = .int c ∧ H4 D = some (SetO w D S n) ∧ n + 1 < scanBound ∧ Nx (upd H4 D (SetO w D (fun j => S j || decide (j = c)) (if S c = true then n else n + 1))) else Nx H3)
theorem scI_core {pins : List (Addr × Obj)} {s : Shared} {σ : L2.St} {H : Hp} {Q : VK} {elt tg iter : Expr} {ifs : List Expr} {scope : Scope} {own : List (Str × Nat)} {pos pos' : Pos} {wi : TI} {g : TG} {tt : TT} {te : TE} {use : Option (Value → Sem Unit)} {Qf : Value → Shared → Prop}
    (hc : X.calm = true) (hN : X.N.Nodup) (I : Inv X pins σ H s) (hi : PI X tg iter wi) (ok : BlkOk X.N X.env.scope scope own)
    (hg : ∀ (s : Shared) (H : Hp) (C : Addr) (cl : List (Str × Addr)) (fp : List Addr), PG (X.blk s H scope (compEnvC scope cl C X.env) fp) tg g) (ht : ∀ (s : Shared) (H : Hp) (C : Addr) (cl : List (Str × Addr)) (fp : List Addr), PTs (X.blk s H scope (compEnvC scope cl C X.env) fp) ifs tt)
    (he : ∀ (s : Shared) (H : Hp) (C : Addr) (cl : List (Str × Addr)) (fp : List Addr), PE (X.blk s H scope (compEnvC scope cl C X.env) fp) elt te) (hs : ∀ x, foldedSetIterable iter X.env x = pure x)
    (h : tScI X.w wi g tt te (own.map (·.2)) σ H Q)
    (hRR : ∀ D C s' m H', Inv X pins σ H' s' → Q (.ref D) H' → s'.heap.Ns C m → FpOk X pins H' C → compPost (model X.prog X.w) X.A X.xe use Qf (.ref D) C (.ok .next) s') :
    wpAny (model X.prog X.w) X.A (comprehension (.SetComp elt [⟨tg, iter, ifs, 0⟩] scope pos) scope X.env pos' (newSet (.type "set")) false (eval iter X.env) use) Qf X.xe s := by
  have hfree : ∀ y ∈ scope.names, y.2 = .free → ∃ c, X.env.cells.lookup y.1 = some c := fun y hy e => by
    rcases ok.free y hy e with k | k
    · exact I.ok.has _ (.inl k)
    · exact I.ok.has _ (.inr k)
  refine wpAny_comprehension_free (use := use) rfl hs (closure_ok hfree) ok.kind (fun y hy e => by rw [ok.uniq y hy, e])
    (thn (hi.run pins s σ H _ I h) fun xv s1 hx => thn hx fun itv s2 h2 => ?_)
  obtain ⟨it, fp, tn, J, H2, e, I2, T, st2, f2, q⟩ := h2
  subst e
  refine PpSet.newSet_ok (newEnv_comp ?_)
  generalize hD : s2.heap.objs.size = D
  have hDn : H2 D = none := I2.hok.fresh (Nat.le_of_eq hD)
  obtain ⟨W, ⟨m0, w0⟩, turn⟩ := q D hDn
  -- the new list
  generalize hs3 : ({ s2 with heap := s2.heap.push { cls := .type "set", dict := none, data := .set #[] 0 (.fresh 0 0 (!X.w.params.followText "set-order")) } } : Shared) = s3
  have I3 : Inv X pins σ (upd H2 D (SetO X.w D (fun _ => false) 0)) s3 := by
    rw [← hs3]
    refine I2.laid (t' := s2.toks) (fun b o e => Heap.get?_push_of_some _ e) (Nat.le_of_eq hD) ?_
    rw [← hD]
    exact setO_new (setR_fresh X.w)
  have h3 : s3.heap = s2.heap.push { cls := .type "set", dict := none, data := .set #[] 0 (.fresh 0 0 (!X.w.params.followText "set-order")) } := by rw [← hs3]
  have sz : ∀ b ∈ fp, b < s2.heap.objs.size := fun b hb => by
    obtain ⟨o, e, _⟩ := T.obj _ _ st2 b hb
    exact Heap.lt_size e
  have f3 : ∀ b ∈ fp, FpOk X pins (upd H2 D (SetO X.w D (fun _ => false) 0)) b ∧ b < s3.heap.objs.size := fun b hb => by
    have hlt := sz b hb
    refine ⟨⟨?_, (f2 b hb).2⟩, by rw [h3, Heap.size_push]; exact Nat.lt_succ_of_lt hlt⟩
    rw [upd_ne (by rw [← hD]; exact Nat.ne_of_lt hlt)]
    exact (f2 b hb).1
  have st3 : tn 0 s3.heap := T.keep _ _ _ st2 fun b _ o e => by rw [h3]; exact Heap.get?_push_of_some _ e
  have I4 := block_start I3 ok hN f3
  have pg := hg s3 (upd H2 D (SetO X.w D (fun _ => false) 0)) s3.heap.objs.size (cellsFrom (s3.heap.objs.size + 1) scope.names (cloFrom X.env.cells scope.names [])) fp
  have pt := ht s3 (upd H2 D (SetO X.w D (fun _ => false) 0)) s3.heap.objs.size (cellsFrom (s3.heap.objs.size + 1) scope.names (cloFrom X.env.cells scope.names [])) fp
  have pe := he s3 (upd H2 D (SetO X.w D (fun _ => false) 0)) s3.heap.objs.size (cellsFrom (s3.heap.objs.size + 1) scope.names (cloFrom X.env.cells scope.names [])) fp
  show codeAny _ _ (.compStart (.SetComp elt [⟨tg, iter, ifs, 0⟩] scope pos) 0 (.ref it) (.ref D) (compEnvC scope (cellsFrom (s3.heap.objs.size + 1) scope.names (cloFrom X.env.cells scope.names [])) s3.heap.objs.size X.env)) (compPost (model X.prog X.w) X.A X.xe use Qf (.ref D) s3.heap.objs.size) { s3 with heap := pushCells (s3.heap.push { cls := .type "dict", data := .dict #[] }) scope.names }
  have nfp : ∀ b ∈ fp, (upd H2 D (SetO X.w D (fun _ => false) 0)) b = none := fun b hb => (f3 b hb).1.1
  generalize hce : compEnvC scope (cellsFrom (s3.heap.objs.size + 1) scope.names (cloFrom X.env.cells scope.names [])) s3.heap.objs.size X.env = ce at I4 pg pt pe ⊢
  have cL : ce.locals = s3.heap.objs.size := by subst hce; rfl
  generalize hH3 : upd H2 D (SetO X.w D (fun _ => false) 0) = H3 at I3 I4 pg pt pe w0 nfp f3
  generalize hs4 : ({ s3 with heap := pushCells (s3.heap.push { cls := .type "dict", data := .dict #[] }) scope.names } : Shared) = s4 at I4 ⊢
  have st4 : tn 0 s4.heap := T.keep _ _ _ st3 fun b _ o e => by rw [← hs4]; exact pushCells_keeps _ _ _ _ (Heap.get?_push_of_some _ e)
  have stat : ∀ {σ' : L2.St} {H' : Hp} {s' : Shared}, Inv (X.blk s3 H3 scope ce fp) [] σ' H' s' → (∀ b ∈ fp, H' b = none) → ∀ b ∈ fp, FpOk (X.blk s3 H3 scope ce fp) [] H' b := fun {σ' H' s'} I' hn b hb =>
    ⟨hn b hb, (I'.ok.exf b hb).1, I'.ok.exfs b hb, .inl hb, fun x c e => (I'.ok.exf b hb).2 x c e, fun p hp => absurd (show p ∈ ([] : List (Addr × Obj)) ++ [] from hp) (by simp)⟩
  have loop : codeAny (model X.prog X.w) X.A (.compLoop (.SetComp elt [⟨tg, iter, ifs, 0⟩] scope pos) 0 (.ref it) (.ref D) ce) (compPost (model X.prog X.w) X.A X.xe use Qf (.ref D) s3.heap.objs.size) s4 := by
    refine PpSet.compLoopS_any (fun n s' => ∃ i H', Inv (X.blk s3 H3 scope ce fp) [] (wipe σ (own.map (·.2))) H' s' ∧ tn i s'.heap ∧ (∀ b ∈ fp, H' b = none) ∧ W i n H') ?_ m0 ⟨0, H3, I4, st4, nfp, w0⟩
    rintro n s5 ⟨i, H5, I5, st5, n5, w5⟩
    rcases turn i n H5 w5 with ⟨stop, qq⟩ | ⟨go, Nx, hNx, step⟩
    · have td := T.done (X.blk s3 H3 scope ce fp) rfl rfl rfl hc i [] s5 _ H5 (fun _ _ => False) I5 (stat I5 n5) st5 stop
      refine thnF td fun r s6 ⟨hr, I6⟩ => ?_
      subst hr
      -- back in the def's context
      have I7 : Inv X pins σ H5 s6 := I3.call' (ch := fp) I6.os I6.base I6.hok I6.bare fun b hb => ⟨(f3 b hb).1.2.2.2.1, (f3 b hb).1.2.1, (f3 b hb).1.2.2.2.2.1, (f3 b hb).1.2.2.2.2.2⟩
      have nC : H5 s3.heap.objs.size = none := by
        have z : H5 ce.locals = none := I6.free
        rw [cL] at z
        exact z
      obtain ⟨m, hn, _⟩ := I6.loc
      have hn : s6.heap.Ns ce.locals m := hn
      rw [cL] at hn
      exact hRR D s3.heap.objs.size s6 m H5 I7 qq hn (I3.fpOk (Nat.le_refl _) nC)
    · have ti := T.item (X.blk s3 H3 scope ce fp) rfl rfl rfl hc i [] s5 _ H5 (fun _ _ => False) I5 (stat I5 n5) st5 go
      refine thnF ti fun r s6 ⟨u, hr, h6⟩ => ?_
      subst hr
      refine thnF h6 fun _ s7 ⟨x, H7, I7, r7, y7, st7, n7⟩ => ?_
      have I7' := I7.pinned (stat I7 n7) (T.obj _ _ st7)
      refine thnF (pg.run _ s7 _ H7 x u _ I7' r7 (step x H7 y7)) fun _ s8 ⟨σ8, H8, I8, hw8, q8⟩ => ?_
      refine thnF (pt.run _ s8 σ8 H8 _ I8 q8) fun b s9 ⟨H9, I9, q9⟩ => ?_
      -- the turn's end
      have fin : ∀ {s' : Shared} {H' : Hp}, Inv (X.blk s3 H3 scope ce fp) ([] ++ pinsAt fp s7.heap) σ8 H' s' → Nx H' → ∃ m, m < n ∧ ∃ i H', Inv (X.blk s3 H3 scope ce fp) [] (wipe σ (own.map (·.2))) H' s' ∧ tn i s'.heap ∧ (∀ b ∈ fp, H' b = none) ∧ W i m H' := fun {s' H'} I' nx => by
        obtain ⟨m', hm, w'⟩ := hNx H' nx
        have pin' : ∀ b ∈ fp, ∀ o, s7.heap.get? b = some o → s'.heap.get? b = some o ∧ H' b = none := fun b hb o e =>
          let z := I'.pin (b, o) (List.mem_append_right _ (List.mem_append_right _ (mem_pinsAt hb e)))
          ⟨z.1, z.2.1⟩
        have hl : (wipe σ (own.map (·.2))).length = σ8.length := by rw [← hw8, wipe_length]
        refine ⟨m', hm, i + 1, H', (I'.unpinned (pins := [])).weak hl (fun j v e => ?_), T.keep _ _ _ st7 fun b hb o e => (pin' b hb o e).1, fun b hb => ?_, w'⟩
        · rw [← hw8] at e
          exact (wipe_some e).1
        · obtain ⟨o, e, _⟩ := T.obj _ _ st7 b hb
          exact (pin' b hb o e).2
      cases b with
      | false =>
        simp only [Bool.false_eq_true, if_false] at q9 ⊢
        exact fin I9 q9
      | true =>
        simp only [if_true] at q9 ⊢
        refine thnF (pe.run _ s9 σ8 H9 _ I9 q9) fun z s10 ⟨yv, H10, I10, r10, cb, S0, n0, ey, hD10, hz10, nx⟩ => ?_
        subst ey
        obtain ⟨tk, ez⟩ : ∃ t, z = Value.int cb t := r10
        subst ez
        exact addI_ok (X := X.blk s3 H3 scope ce fp) I10 hD10 hz10 fun s11 I11 => fin I11 nx
  exact PpSet.codeAny_compStart_set loop (T.self X.A 0 _ _ _ st4 loop)
/-- as a value -/
theorem pe_scI {elt tg iter : Expr} {ifs : List Expr} {scope : Scope} {own : List (Str × Nat)} {pos : Pos} {wi : TI} {g : TG} {tt : TT} {te : TE} (hc : X.calm = true) (hN : X.N.Nodup) (hi : PI X tg iter wi) (ok : BlkOk X.N X.env.scope scope own)
    (hg : ∀ (s : Shared) (H : Hp) (C : Addr) (cl : List (Str × Addr)) (fp : List Addr), PG (X.blk s H scope (compEnvC scope cl C X.env) fp) tg g) (ht : ∀ (s : Shared) (H : Hp) (C : Addr) (cl : List (Str × Addr)) (fp : List Addr), PTs (X.blk s H scope (compEnvC scope cl C X.env) fp) ifs tt)
    (he : ∀ (s : Shared) (H : Hp) (C : Addr) (cl : List (Str × Addr)) (fp : List Addr), PE (X.blk s H scope (compEnvC scope cl C X.env) fp) elt te) (hs : ∀ x, foldedSetIterable iter X.env x = pure x := by intro _; rfl) :
    PE X (.SetComp elt [⟨tg, iter, ifs, 0⟩] scope pos) (tScI X.w wi g tt te (own.map (·.2))) := by
  refine ⟨fun pins s σ H Q I h => ?_⟩
  rw [PpSet.eval_SetComp]
  refine scI_core hc hN I hi ok hg ht he hs h fun D C s' m H' I' q hn f => ⟨m, hn, fun h'' sb => ?_⟩
  obtain ⟨f0, f1, f2, f3, f4, f5⟩ := f
  exact ⟨.ref D, H', I'.turned (t' := s'.toks) (fun b o hb e => (sb.2 b hb).trans e) f0 f1 f3 f4 f5, rfl, q⟩
end
end L2
namespace Dl
open PySem PySem.Spec PyProof.Rows L2
/-- an expression that reads and makes nothing -/
abbrev WP := Rho → Om → (Da → Prop) → Prop
structure XP (T : Tb) (X : Cx) (e : Expr) (w : WP) : Prop where
  ex : ∃ t, PE X e t ∧ ∀ (σ : L2.St) (H H' : Hp) (ρ : Rho) (ω : Om) (R : Da → Prop) (Q : VK), Wd X.K T σ ρ ω H → (∀ a o, H a = some o → H' a = some o) → w ρ ω R → (∀ v d, Dv X.K (hid ω H) v d → R d → Q v H') → t σ H' Q
section
variable {T : Tb} {X : Cx} {a b : Expr} {pos p p1 : Pos}
def wpV (i : Nat) : WP := fun ρ _ R => ∃ d, ρ[i]? = some (some d) ∧ R d
def wpI (i : Int) : WP := fun _ _ R => R (.int i)
def wpIx (wa wb : WP) : WP := fun ρ ω R => wa ρ ω fun d => wb ρ ω fun e => ∃ l i x, d = .tup l ∧ e = .int i ∧ atI l i = some x ∧ R x
theorem ypv (i : Nat) {x : Str} (hN : X.N[i]? = some x := by rfl) (hv : Vis X.env.scope x := by first | exact Or.inl rfl | exact Or.inr (Or.inl rfl) | exact Or.inr (Or.inr rfl)) (hd : (x == ("__debug__" : Str)) = false := by decide)
    (hcd : (x == ("__classdict__" : Str)) = false := by decide) : XP T X (.Name x pos) (wpV i) := ⟨_, pe_var hN hv hd hcd, fun σ H H' ρ ω R Q W e ⟨d, h1, h2⟩ k => by
  obtain ⟨v, h3, h4⟩ := W.get h1
  exact ⟨v, h3, k v d h4 h2⟩⟩
theorem ypi {i : Int} {j : Nat} : XP T X (.Constant (.int i) j pos) (wpI i) := ⟨_, pe_int, fun σ H H' ρ ω R Q W e q k => k _ _ (.int i) q⟩
theorem ypx {wa wb : WP} (ha : XP T X a wa) (hb : XP T X b wb) (hs : PlainIx b := by exact fun _ _ => rfl) : XP T X (.Subscript a b pos) (wpIx wa wb) := by
  obtain ⟨ta, a1, a2⟩ := ha.ex
  obtain ⟨tb, b1, b2⟩ := hb.ex
  refine ⟨_, pe_ix ix_seq a1 b1 hs, fun σ H H' ρ ω R Q W e q k => ?_⟩
  refine a2 σ H H' ρ ω _ _ W e q fun x d dx q1 => b2 σ H H' ρ ω _ _ W e q1 fun y e2 dy q2 => ?_
  obtain ⟨l, i, z, rfl, rfl, h3, q2⟩ := q2
  cases dy
  cases dx with
  | tup hs ha =>
    obtain ⟨v, e1, dv⟩ := atI_dv ha h3
    exact .inr (.inl ⟨_, _, i, v, rfl, rfl, sqT_mono (fun a o h _ => e a o h) (sqT_mono hid_le hs), e1, k v z dv q2⟩)
def wSS (i j : Nat) (wp : WP) (vs : List Nat) : WE := fun ρ ω R => ∃ ds, ρ[i]? = some (some (.tup ds)) ∧ ds.length < 64 ∧ ∃ F : Da → Int, (∀ d ∈ ds, wp ((wipeR ρ vs).set j (some d)) ω fun e => e = .int (F d)) ∧
  ∀ ns : List Int, ns.Pairwise (· < ·) → (∀ k, k ∈ ns ↔ k ∈ ds.map F) → R (.lst (ns.map .int)) ω
theorem take_mem {α : Type} {l : List α} {i : Nat} {x : α} (h : l[i]? = some x) : l.take (i + 1) = l.take i ++ [x] := take_next' h
theorem xsortset (i j : Nat) {x y : Str} {elt : Expr} {scope : Scope} {own : List (Str × Nat)} {wp : WP} {pg : Pos} (hc : X.calm = true) (hm : X.mg "sorted" = none) (hN : X.N.Nodup) (ok : blkC X.N X.env.scope scope own = true) (hv : X.N[i]? = some x) (hvis : Vis X.env.scope x)
    (hg : ∀ s H C cl fp, PG (blkX X scope s H C cl fp) (.Name y pg) fun v σ H Q => Q (σ.set j (some v)) H) (he : ∀ s H C cl fp, XP T (blkX X scope s H C cl fp) elt wp) (hj : j ∈ own.map (·.2)) (hgl : Gl X "sorted" := by rfl)
    (hd : (x == ("__debug__" : Str)) = false := by decide) (hcd : (x == ("__classdict__" : Str)) = false := by decide) (hs : ∀ z, foldedSetIterable (.Name x p1) X.env z = pure z := by intro _; rfl)
    (hst : starEach [.SetComp elt [⟨.Name y pg, .Name x p1, [], 0⟩] scope pos] X.env = (false, eval (.SetComp elt [⟨.Name y pg, .Name x p1, [], 0⟩] scope pos) X.env) :: starEach [] X.env := by rfl) {p2 pos2 : Pos} :
    XE T X (.Call (.Name "sorted" p2) [.SetComp elt [⟨.Name y pg, .Name x p1, [], 0⟩] scope pos] [] pos2) (wSS i j wp (own.map (·.2))) := by
  have pe := pe_scI (te := fun σ H' Q => ∃ (H : Hp) (ρ : Rho) (ω : Om) (R : Da → Prop), Wd X.K T σ ρ ω H ∧ (∀ a o, H a = some o → H' a = some o) ∧ wp ρ ω R ∧ ∀ v d, Dv X.K (hid ω H) v d → R d → Q v H') (tt := tYes) (ifs := []) (pos := pos) hc hN (pi_tup (pe_var (pos := p1) hv hvis hd hcd)) (blkOk_by ok) hg (fun s H C cl fp => pts_nil) (fun s H C cl fp => by
    obtain ⟨t, h1, h2⟩ := (he s H C cl fp).ex
    exact ⟨fun pins s σ H' Q I ⟨H, ρ, ω, R, W, e, q, k⟩ => h1.run pins s σ H' Q I (h2 σ H H' ρ ω R Q W e q k)⟩) hs
  refine ⟨_, pe_callB (p := p2) (pos := pos2) (e := .SetComp elt [⟨.Name y pg, .Name x p1, [], 0⟩] scope pos) (es := []) (cr_sortedSet hc) hgl hm PyProof.Rows.boot_sorted (pa_cons pe pa_nil hst) (he := hst), fun σ H ρ ω R Q W q k => ?_⟩
  obtain ⟨ds, e1, hl, F, hF, q⟩ := q
  obtain ⟨v, e2, dv⟩ := W.get e1
  cases dv with
  | @tup a xs _ hs ha =>
    have hs' := sqT_mono hid_le hs
    have hlen := ha.length
    refine ⟨.ref a, e2, a, rfl, ⟨xs, hs'⟩, fun D hD => ?_⟩
    have up : ∀ o, ∀ b u, H b = some u → upd H D o b = some u := fun o b u e => by rw [upd_ne (ne_of_none e hD)]; exact e
    refine ⟨fun k m H' => m = xs.length - k ∧ k ≤ xs.length ∧ ∃ S n, H' = upd H D (SetO X.w D S n) ∧ (∀ z, S z = true ↔ z ∈ (ds.take k).map F) ∧ n ≤ k, ⟨_, rfl, Nat.zero_le _, fun _ => false, 0, rfl, fun z => by simp, Nat.le_refl _⟩, ?_⟩
    rintro k' m H' ⟨rfl, hle, S, n, rfl, hS, hn⟩
    by_cases hlt : k' < xs.length
    · refine .inr ⟨⟨xs, xs[k'], sqT_mono (fun b u h _ => up _ b u h) hs', by simp [hlt]⟩, fun H2 => ∃ S n, H2 = upd H D (SetO X.w D S n) ∧ (∀ z, S z = true ↔ z ∈ (ds.take (k' + 1)).map F) ∧ n ≤ k' + 1, fun H2 ⟨S, n, z1, z2, z3⟩ => ⟨xs.length - (k' + 1), by omega, rfl, hlt, S, n, z1, z2, z3⟩, fun x2 H2 hy => ?_⟩
      obtain ⟨rfl, hx⟩ := hy
      have hx := hx xs (sqT_mono (fun b u h _ => up _ b u h) hs')
      obtain ⟨d, hd2, dx⟩ := ha.get hx
      refine ⟨by rw [wipe_set hj, wipe_wipe fun i hi => hi], ?_⟩
      unfold tYes
      simp only [if_true]
      refine ⟨H, (wipeR ρ (own.map (·.2))).set j (some d), ω, _, (W.wipe _).set dx j, up _, hF d (List.mem_of_getElem? hd2), fun v2 d2 dv2 e3 => ?_⟩
      subst e3
      cases dv2
      refine ⟨F d, S, n, rfl, upd_same, by unfold scanBound; omega, _, _, by rw [upd_upd], fun z => ?_, ?_⟩
      · rw [Bool.or_eq_true, hS, take_next' hd2, List.map_append, List.mem_append, decide_eq_true_eq, List.map_cons, List.map_nil, List.mem_singleton]
      · split <;> omega
    · have e : k' = xs.length := by omega
      subst e
      refine .inl ⟨⟨xs, sqT_mono (fun b u h _ => up _ b u h) hs', Nat.le_refl _⟩, D, S, n, rfl, upd_same, by omega, fun ns p h1 h2 h3 hp => ?_⟩
      have g1 := Go.new (o := SetO X.w D S n) W.cells W.tabs hD
      have g2 := Go.new (o := .lst (ns.map V.int)) g1.cells g1.tabs hp
      refine k _ _ _ ω (g1.trans g2) (.lst (SqL.of (hid_new g1.cells hp)) (dvAll_ints _)) (q ns h1 fun z => ?_)
      rw [h2, hS, hlen, List.take_length]
end
end Dl
set_option maxHeartbeats 4000000
/-! A lambda with one parameter and captured names, handed to a def that calls it in a comprehension. -/
namespace L2
open PySem PySem.Spec PyProof.Rows
/-- how the block's start hangs on the def's start -/
def LinkL (X : Cx) (s : Shared) (H : Hp) (fp : List Addr) : Prop := ∃ pins, (∀ b ∈ fp, FpOk X pins H b) ∧ Un X.fs X.ex X.H_0 H X.s_0.heap s.heap
section
variable {X : Cx}
theorem lc_coreL {pins : List (Addr × Obj)} {s : Shared} {σ : St} {H : Hp} {Q : VK} {elt tg iter : Expr} {ifs : List Expr} {scope : Scope} {own : List (Str × Nat)} {pos pos' : Pos} {wi : TI} {g : TG} {tt : TT} {te : TE} {use : Option (Value → Sem Unit)} {Qf : Value → Shared → Prop}
    (hc : X.calm = true) (hN : X.N.Nodup) (I : Inv X pins σ H s) (hi : PI X tg iter wi) (ok : BlkOk X.N X.env.scope scope own)
    (hg : ∀ (s : Shared) (H : Hp) (C : Addr) (cl : List (Str × Addr)) (fp : List Addr), PG (X.blk s H scope (compEnvC scope cl C X.env) fp) tg g) (ht : ∀ (s : Shared) (H : Hp) (C : Addr) (cl : List (Str × Addr)) (fp : List Addr), PTs (X.blk s H scope (compEnvC scope cl C X.env) fp) ifs tt)
    (he : ∀ (s : Shared) (H : Hp) (C : Addr) (cl : List (Str × Addr)) (fp : List Addr), LinkL X s H fp → PE (X.blk s H scope (compEnvC scope cl C X.env) fp) elt te) (hs : ∀ x, foldedSetIterable iter X.env x = pure x)
    (h : tLc wi g tt te (own.map (·.2)) σ H Q)
    (hRR : ∀ D C s' m H', Inv X pins σ H' s' → Q (.ref D) H' → s'.heap.Ns C m → FpOk X pins H' C → compPost (model X.prog X.w) X.A X.xe use Qf (.ref D) C (.ok .next) s') :
    wpAny (model X.prog X.w) X.A (comprehension (.ListComp elt [⟨tg, iter, ifs, 0⟩] scope pos) scope X.env pos' (newList []) false (eval iter X.env) use) Qf X.xe s := by
  have hfree : ∀ y ∈ scope.names, y.2 = .free → ∃ c, X.env.cells.lookup y.1 = some c := fun y hy e => by
    rcases ok.free y hy e with k | k
    · exact I.ok.has _ (.inl k)
    · exact I.ok.has _ (.inr k)
  refine wpAny_comprehension_free (use := use) rfl hs (closure_ok hfree) ok.kind (fun y hy e => by rw [ok.uniq y hy, e])
    (thn (hi.run pins s σ H _ I h) fun xv s1 hx => thn hx fun itv s2 h2 => ?_)
  obtain ⟨it, fp, tn, J, H2, e, I2, T, st2, f2, q⟩ := h2
  subst e
  refine wpAny_newObj_type (newEnv_comp ?_) (by show 0 ≤ sizeLine; decide)
  generalize hD : s2.heap.objs.size = D
  have hDn : H2 D = none := I2.hok.fresh (Nat.le_of_eq hD)
  obtain ⟨W, ⟨m0, w0⟩, turn⟩ := q D hDn
  -- the new list
  generalize hs3 : ({ s2 with heap := s2.heap.push { cls := .type "list", data := .seq ([] : List Value).toArray } } : Shared) = s3
  have I3 : Inv X pins σ (upd H2 D (.lst [])) s3 := by
    rw [← hs3]
    refine I2.laid (t' := s2.toks) (fun b o e => Heap.get?_push_of_some _ e) (Nat.le_of_eq hD) ⟨Nat.zero_le _, [], 0, .nil, ?_⟩
    rw [← hD]
    exact Heap.get?_push_size _ rfl
  have h3 : s3.heap = s2.heap.push { cls := .type "list", data := .seq ([] : List Value).toArray } := by rw [← hs3]
  have sz : ∀ b ∈ fp, b < s2.heap.objs.size := fun b hb => by
    obtain ⟨o, e, _⟩ := T.obj _ _ st2 b hb
    exact Heap.lt_size e
  have f3 : ∀ b ∈ fp, FpOk X pins (upd H2 D (.lst [])) b ∧ b < s3.heap.objs.size := fun b hb => by
    have hlt := sz b hb
    refine ⟨⟨?_, (f2 b hb).2⟩, by rw [h3, Heap.size_push]; exact Nat.lt_succ_of_lt hlt⟩
    rw [upd_ne (by rw [← hD]; exact Nat.ne_of_lt hlt)]
    exact (f2 b hb).1
  have st3 : tn 0 s3.heap := T.keep _ _ _ st2 fun b _ o e => by rw [h3]; exact Heap.get?_push_of_some _ e
  have I4 := block_start I3 ok hN f3
  have pg := hg s3 (upd H2 D (.lst [])) s3.heap.objs.size (cellsFrom (s3.heap.objs.size + 1) scope.names (cloFrom X.env.cells scope.names [])) fp
  have pt := ht s3 (upd H2 D (.lst [])) s3.heap.objs.size (cellsFrom (s3.heap.objs.size + 1) scope.names (cloFrom X.env.cells scope.names [])) fp
  have pe := he s3 (upd H2 D (.lst [])) s3.heap.objs.size (cellsFrom (s3.heap.objs.size + 1) scope.names (cloFrom X.env.cells scope.names [])) fp ⟨pins, fun b hb => (f3 b hb).1, I3.base⟩
  show codeAny _ _ (.compStart (.ListComp elt [⟨tg, iter, ifs, 0⟩] scope pos) 0 (.ref it) (.ref D) (compEnvC scope (cellsFrom (s3.heap.objs.size + 1) scope.names (cloFrom X.env.cells scope.names [])) s3.heap.objs.size X.env)) (compPost (model X.prog X.w) X.A X.xe use Qf (.ref D) s3.heap.objs.size) { s3 with heap := pushCells (s3.heap.push { cls := .type "dict", data := .dict #[] }) scope.names }
  have nfp : ∀ b ∈ fp, (upd H2 D (.lst [])) b = none := fun b hb => (f3 b hb).1.1
  generalize hce : compEnvC scope (cellsFrom (s3.heap.objs.size + 1) scope.names (cloFrom X.env.cells scope.names [])) s3.heap.objs.size X.env = ce at I4 pg pt pe ⊢
  have cL : ce.locals = s3.heap.objs.size := by subst hce; rfl
  generalize hH3 : upd H2 D (.lst []) = H3 at I3 I4 pg pt pe w0 nfp f3
  generalize hs4 : ({ s3 with heap := pushCells (s3.heap.push { cls := .type "dict", data := .dict #[] }) scope.names } : Shared) = s4 at I4 ⊢
  have st4 : tn 0 s4.heap := T.keep _ _ _ st3 fun b _ o e => by rw [← hs4]; exact pushCells_keeps _ _ _ _ (Heap.get?_push_of_some _ e)
  have stat : ∀ {σ' : St} {H' : Hp} {s' : Shared}, Inv (X.blk s3 H3 scope ce fp) [] σ' H' s' → (∀ b ∈ fp, H' b = none) → ∀ b ∈ fp, FpOk (X.blk s3 H3 scope ce fp) [] H' b := fun {σ' H' s'} I' hn b hb =>
    ⟨hn b hb, (I'.ok.exf b hb).1, I'.ok.exfs b hb, .inl hb, fun x c e => (I'.ok.exf b hb).2 x c e, fun p hp => absurd (show p ∈ ([] : List (Addr × Obj)) ++ [] from hp) (by simp)⟩
  have loop : codeAny (model X.prog X.w) X.A (.compLoop (.ListComp elt [⟨tg, iter, ifs, 0⟩] scope pos) 0 (.ref it) (.ref D) ce) (compPost (model X.prog X.w) X.A X.xe use Qf (.ref D) s3.heap.objs.size) s4 := by
    refine compLoop_any (fun n s' => ∃ i H', Inv (X.blk s3 H3 scope ce fp) [] (wipe σ (own.map (·.2))) H' s' ∧ tn i s'.heap ∧ (∀ b ∈ fp, H' b = none) ∧ W i n H') ?_ m0 ⟨0, H3, I4, st4, nfp, w0⟩
    rintro n s5 ⟨i, H5, I5, st5, n5, w5⟩
    rcases turn i n H5 w5 with ⟨stop, qq⟩ | ⟨go, Nx, hNx, step⟩
    · have td := T.done (X.blk s3 H3 scope ce fp) rfl rfl rfl hc i [] s5 _ H5 (fun _ _ => False) I5 (stat I5 n5) st5 stop
      refine thnF td fun r s6 ⟨hr, I6⟩ => ?_
      subst hr
      -- back in the def's context
      have I7 : Inv X pins σ H5 s6 := I3.call' (ch := fp) I6.os I6.base I6.hok I6.bare fun b hb => ⟨(f3 b hb).1.2.2.2.1, (f3 b hb).1.2.1, (f3 b hb).1.2.2.2.2.1, (f3 b hb).1.2.2.2.2.2⟩
      have nC : H5 s3.heap.objs.size = none := by
        have z : H5 ce.locals = none := I6.free
        rw [cL] at z
        exact z
      obtain ⟨m, hn, _⟩ := I6.loc
      have hn : s6.heap.Ns ce.locals m := hn
      rw [cL] at hn
      exact hRR D s3.heap.objs.size s6 m H5 I7 qq hn (I3.fpOk (Nat.le_refl _) nC)
    · have ti := T.item (X.blk s3 H3 scope ce fp) rfl rfl rfl hc i [] s5 _ H5 (fun _ _ => False) I5 (stat I5 n5) st5 go
      refine thnF ti fun r s6 ⟨u, hr, h6⟩ => ?_
      subst hr
      refine thnF h6 fun _ s7 ⟨x, H7, I7, r7, y7, st7, n7⟩ => ?_
      have I7' := I7.pinned (stat I7 n7) (T.obj _ _ st7)
      refine thnF (pg.run _ s7 _ H7 x u _ I7' r7 (step x H7 y7)) fun _ s8 ⟨σ8, H8, I8, hw8, q8⟩ => ?_
      refine thnF (pt.run _ s8 σ8 H8 _ I8 q8) fun b s9 ⟨H9, I9, q9⟩ => ?_
      -- the turn's end
      have fin : ∀ {s' : Shared} {H' : Hp}, Inv (X.blk s3 H3 scope ce fp) ([] ++ pinsAt fp s7.heap) σ8 H' s' → Nx H' → ∃ m, m < n ∧ ∃ i H', Inv (X.blk s3 H3 scope ce fp) [] (wipe σ (own.map (·.2))) H' s' ∧ tn i s'.heap ∧ (∀ b ∈ fp, H' b = none) ∧ W i m H' := fun {s' H'} I' nx => by
        obtain ⟨m', hm, w'⟩ := hNx H' nx
        have pin' : ∀ b ∈ fp, ∀ o, s7.heap.get? b = some o → s'.heap.get? b = some o ∧ H' b = none := fun b hb o e =>
          let z := I'.pin (b, o) (List.mem_append_right _ (List.mem_append_right _ (mem_pinsAt hb e)))
          ⟨z.1, z.2.1⟩
        have hl : (wipe σ (own.map (·.2))).length = σ8.length := by rw [← hw8, wipe_length]
        refine ⟨m', hm, i + 1, H', (I'.unpinned (pins := [])).weak hl (fun j v e => ?_), T.keep _ _ _ st7 fun b hb o e => (pin' b hb o e).1, fun b hb => ?_, w'⟩
        · rw [← hw8] at e
          exact (wipe_some e).1
        · obtain ⟨o, e, _⟩ := T.obj _ _ st7 b hb
          exact (pin' b hb o e).2
      cases b with
      | false =>
        simp only [Bool.false_eq_true, if_false] at q9 ⊢
        exact fin I9 q9
      | true =>
        simp only [if_true] at q9 ⊢
        refine thnF (pe.run _ s9 σ8 H9 _ I9 q9) fun z s10 ⟨yv, H10, I10, r10, acc, hD10, hz10, nx⟩ => ?_
        exact app_ok (X := X.blk s3 H3 scope ce fp) I10 hD10 hz10 r10 fun s11 I11 => fin I11 nx
  exact codeAny_compStart_list loop (T.self X.A 0 _ _ _ st4 loop)
/-- as a value -/
theorem pe_lcL {elt tg iter : Expr} {ifs : List Expr} {scope : Scope} {own : List (Str × Nat)} {pos : Pos} {wi : TI} {g : TG} {tt : TT} {te : TE} (hc : X.calm = true) (hN : X.N.Nodup) (hi : PI X tg iter wi) (ok : BlkOk X.N X.env.scope scope own)
    (hg : ∀ (s : Shared) (H : Hp) (C : Addr) (cl : List (Str × Addr)) (fp : List Addr), PG (X.blk s H scope (compEnvC scope cl C X.env) fp) tg g) (ht : ∀ (s : Shared) (H : Hp) (C : Addr) (cl : List (Str × Addr)) (fp : List Addr), PTs (X.blk s H scope (compEnvC scope cl C X.env) fp) ifs tt)
    (he : ∀ (s : Shared) (H : Hp) (C : Addr) (cl : List (Str × Addr)) (fp : List Addr), LinkL X s H fp → PE (X.blk s H scope (compEnvC scope cl C X.env) fp) elt te) (hs : ∀ x, foldedSetIterable iter X.env x = pure x := by intro _; rfl) :
    PE X (.ListComp elt [⟨tg, iter, ifs, 0⟩] scope pos) (tLc wi g tt te (own.map (·.2))) := by
  refine ⟨fun pins s σ H Q I h => ?_⟩
  rw [eval_ListComp]
  refine lc_coreL hc hN I hi ok hg ht he hs h fun D C s' m H' I' q hn f => ⟨m, hn, fun h'' sb => ?_⟩
  obtain ⟨f0, f1, f2, f3, f4, f5⟩ := f
  exact ⟨.ref D, H', I'.turned (t' := s'.toks) (fun b o hb e => (sb.2 b hb).trans e) f0 f1 f3 f4 f5, rfl, q⟩end
end L2
namespace LamP
open PySem PySem.Spec PyProof.Rows L2 LamX
/-- the lambda's names: the parameter a, captured ones, globals -/
structure LamA (sc scope : Scope) (a : Str) : Prop where
  kind : scope.kind = .function
  co : scope.isCoroutine = false
  gen : scope.isGenerator = false
  own : ∀ y ∈ scope.names, y.2 ≠ .cell ∧ (y.2 = .local → y.1 = a)
  par : scope.names.lookup a = some .local
  free : ∀ y ∈ scope.names, y.2 = .free → sc.names.lookup y.1 = some .cell ∨ sc.names.lookup y.1 = some .free
def lamAB (sc scope : Scope) (a : Str) : Bool :=
  decide (scope.kind = .function) && !scope.isCoroutine && !scope.isGenerator && decide (scope.names.lookup a = some .local) && scope.names.all fun y => !decide (y.2 = .cell) && (!decide (y.2 = .local) || decide (y.1 = a)) && (!decide (y.2 = .free) || decide (sc.names.lookup y.1 = some .cell) || decide (sc.names.lookup y.1 = some .free))
theorem lamA_by {sc scope : Scope} {a : Str} (h : lamAB sc scope a = true) : LamA sc scope a := by
  unfold lamAB at h
  simp only [Bool.and_eq_true, Bool.or_eq_true, Bool.not_eq_true', decide_eq_true_eq, decide_eq_false_iff_not, List.all_eq_true] at h
  obtain ⟨⟨⟨⟨h1, h2⟩, h3⟩, h4⟩, h5⟩ := h
  refine ⟨h1, h2, h3, fun y hy => ⟨(h5 y hy).1.1, fun e => ?_⟩, h4, fun y hy e => ?_⟩
  · rcases (h5 y hy).1.2 with z | z
    · exact absurd e z
    · exact z
  · rcases (h5 y hy).2 with (z | z) | z
    · exact absurd e z
    · exact .inl z
    · exact .inr z
theorem LamA.has {X : Cx} {scope : Scope} {a : Str} (L : LamA X.env.scope scope a) (ok : X.Ok) : ∀ y ∈ scope.names, y.2 = .free → ∃ c, X.env.cells.lookup y.1 = some c := fun y hy e => by
  rcases L.free y hy e with k | k
  · exact ok.has _ (.inl k)
  · exact ok.has _ (.inr k)
/-- the context of the lambda's body, entered at s from the frames outer; nothing leaves it -/
def lamCy (X : Cx) (A : Around) (outer : List Env) (s : Shared) (H : Hp) (scope : Scope) (f c' : Addr) : Cx where
  prog := X.prog
  w := X.w
  K := X.K
  mg := X.mg
  base := X.base
  A := A.deeper (lamEnv X scope s.heap.objs.size f c')
  N := X.N
  s_0 := s
  H_0 := H
  env := lamEnv X scope s.heap.objs.size f c'
  outer := outer
  stack := lamEnv X scope s.heap.objs.size f c' :: outer
  ex := []
  fn := fun _ => false
  calm := true
  pn := []
  xe := fun _ _ => False
section
variable {X : Cx} {pins : List (Addr × Obj)} {σ : L2.St} {H HZ : Hp} {s s1 : Shared}
/-- what the lambda keeps of its maker: its cells, at the state of its call -/
structure Kept (X : Cx) (σ : L2.St) (H : Hp) (s : Shared) (HZ : Hp) (h : Heap) (scope : Scope) : Prop where
  cell : ∀ y c o, y ∈ scope.names.map (·.1) → X.env.cells.lookup y = some c → s.heap.get? c = some o → H c = none → (∃ v, o.data = .cell v) → (∃ sl, h.get? c = some { o with slots := sl }) ∧ HZ c = none
theorem lam_startP {A : Around} {outer : List Env} {scope : Scope} {a : Str} {f c' : Addr} {h₁ : Heap} {tk : Nat} {v : V} {u : Value} {j : Nat} (I : Inv X pins σ H s) (hN : X.N.Nodup) (hj : X.N[j]? = some a) (L : LamA X.env.scope scope a) (e0 : Env0 X.prog X.w X.K X.mg X.base A outer s1 HZ) (hd : A.handled = none)
    (un : Kept X σ H s HZ s1.heap scope) (rv : RelV v u) (hns : h₁.Ns s1.heap.objs.size fun y => ([(a, u)] : List (Str × Value)).reverse.lookup y) (kp : ∀ b o, s1.heap.get? b = some o → h₁.get? b = some o) :
    Inv (lamCy X A outer s1 HZ scope f c') [] (σ.set j (some v)) HZ { s1 with heap := h₁, toks := tk } := by
  have hfree := L.has I.ok
  have cm : ∀ {y c}, (cloFrom X.env.cells scope.names []).lookup y = some c → X.env.cells.lookup y = some c ∧ y ∈ scope.names.map (·.1) := fun {y c} e => by
    rcases cloFrom_mem (PySem.mem_of_lookup e) with hm | ⟨h1, h2⟩
    · cases hm
    · obtain ⟨c1, hc⟩ := hfree _ h1 rfl
      have hc : X.env.cells.lookup y = some c1 := hc
      have e2 : c = c1 := by
        rw [h2, hc] <;> rfl
      rw [e2]
      exact ⟨hc, List.mem_map.mpr ⟨_, h1, rfl⟩⟩
  have look : ∀ {y}, scope.names.lookup y = some .free → ∃ c, (cloFrom X.env.cells scope.names []).lookup y = some c := fun {y} hl => by
    have hy : (y, NameKind.free) ∈ scope.names := PySem.mem_of_lookup hl
    exact mem_lookup (cloFrom_has (cells := X.env.cells) (acc := []) hy)
  have cellK : ∀ {y : Str} {c : Addr} {v : Option Value}, y ∈ scope.names.map (·.1) → X.env.cells.lookup y = some c → s.heap.IsCell c v → h₁.IsCell c v ∧ HZ c = none := fun {y c v} hy e ⟨o, ho, hd⟩ => by
    obtain ⟨⟨sl, q⟩, z⟩ := un.cell y c o hy e ho (I.freeC y c e) ⟨_, hd⟩
    exact ⟨⟨_, kp _ _ q, hd⟩, z⟩
  have noA : ∀ b : Addr, b ∉ (lamCy X A outer s1 HZ scope f c').ex := fun b z => absurd (show b ∈ ([] : List Addr) from z) (by simp)
  refine ⟨⟨e0.mod, L.kind, rfl, rfl, Nat.le_refl _, fun y z c e1 e2 => I.ok.inj y z c (cm e1).1 (cm e2).1, fun y hy => ?_, fun y c z _ => ?_, fun _ => hd, Around.frames_deeper e0.frames, .inr ⟨rfl, rfl⟩, fun b z => absurd z (noA b), e0.bs, e0.bsz, fun b _ _ => noA b,
      fun b z => absurd z (noA b), e0.funs, e0.frf⟩,
    rfl, e0.bare, Un.kept kp, ⟨_, hns, fun i y w e1 e2 e3 => ?_⟩, fun y c e => ?_, e0.hok.fresh (Nat.le_refl _), fun y c e => ?_, fun q hq => absurd (show q ∈ ([] : List (Addr × Obj)) ++ [] from hq) (by simp), e0.hok.kept kp, by rw [List.length_set]; exact I.len⟩
  · have hy : scope.names.lookup y = some .cell ∨ scope.names.lookup y = some .free := hy
    rcases hy with hy | hy
    · exact absurd rfl (L.own _ (PySem.mem_of_lookup hy)).1
    · exact look hy
  · have z : false = true := z
    cases z
  · have e3 : Vis scope y := e3
    have e1 : X.N[i]? = some y := e1
    rcases e3 with k | k | k
    · have ey : y = a := (L.own _ (PySem.mem_of_lookup k)).2 rfl
      subst ey
      have eij : i = j := by
        obtain ⟨hi, p1⟩ := List.getElem?_eq_some_iff.mp e1
        obtain ⟨hj', p2⟩ := List.getElem?_eq_some_iff.mp hj
        rcases Nat.lt_trichotomy i j with z | z | z
        · exact absurd (p1.trans p2.symm) (List.pairwise_iff_getElem.mp hN i j hi hj' z)
        · exact z
        · exact absurd (p2.trans p1.symm) (List.pairwise_iff_getElem.mp hN j i hj' hi z)
      subst eij
      have hlt : i < σ.length := by
        rw [I.len]; exact (List.getElem?_eq_some_iff.mp e1).1
      rw [List.getElem?_set_self hlt] at e2
      cases e2
      exact ⟨u, rv, .inl ⟨k, by simp⟩⟩
    · exact absurd rfl (L.own _ (PySem.mem_of_lookup k)).1
    · have hne : i ≠ j := fun z => by
        subst z
        rw [hj] at e1
        cases e1
        rw [L.par] at k
        cases k
      rw [List.getElem?_set_ne (fun z => hne z.symm)] at e2
      obtain ⟨m, hn, hl⟩ := I.loc
      have hvis : Vis X.env.scope y := (L.free _ (PySem.mem_of_lookup k) rfl).elim (fun k => .inr (.inl k)) (fun k => .inr (.inr k))
      obtain ⟨w', r, q⟩ := hl i y w e1 e2 hvis
      obtain ⟨c2, h2⟩ := look k
      obtain ⟨c1, hm⟩ := cm h2
      refine ⟨w', r, .inr ⟨.inr k, c2, h2, ?_⟩⟩
      rcases q with ⟨k', _⟩ | ⟨_, c3, e', z⟩
      · have k' : X.env.scope.names.lookup y = some .local := k'
        rcases L.free _ (PySem.mem_of_lookup k) rfl with k2 | k2 <;> rw [show X.env.scope.names.lookup y = _ from k2] at k' <;> cases k'
      · rw [c1] at e'
        cases e'
        exact (cellK hm c1 z).1
  · obtain ⟨e1, hm⟩ := cm e
    obtain ⟨w', z⟩ := I.cell y c e1
    exact ⟨w', (cellK hm e1 z).1⟩
  · obtain ⟨e1, hm⟩ := cm e
    obtain ⟨w', z⟩ := I.cell y c e1
    exact (cellK hm e1 z).2
abbrev cxG (X : Cx) (Ng : List Str) (qg : Str) (sg : Scope) (g : Addr) (cdg : Value) (s : Shared) (H : Hp) : Cx := (cxOf CX0 X.prog X.w X.K X.mg X.base Ng qg sg g cdg X.A X.stack s H E0).nox
/-- a(e), in a comprehension of the def that got the lambda -/
theorem pe_actP {Ng : List Str} {qg : Str} {sg sb : Scope} {g f c' C : Addr} {cdg pm ctv : Value} {params : Arguments} {body e : Expr} {scope : Scope} {k i j : Nat} {a an : Str} {tb te : TE} {p1 p2 : Pos} {s2 : Shared} {H2 : Hp} {cl : List (Str × Addr)} {fp : List Addr}
    (I : Inv X pins σ H s) (hN : X.N.Nodup) (hj : X.N[j]? = some a) (L : LamA X.env.scope scope a) (hf : s.heap.get? f = some (PySem.W.kla_obj "<lambda>" (X.env.qual ++ "<lambda>") params body scope (cloFrom X.env.cells scope.names []) pm c' ctv)) (hfn : H f = none) (hfr : f ∉ frs X.stack)
    (hbind : ∀ u, bindArgs (PySem.W.kla_fn "<lambda>" (X.env.qual ++ "<lambda>") params body scope (cloFrom X.env.cells scope.names []) pm (.ref c') ctv) ⟨[u], []⟩ = pure [(a, u)])
    (hr : Room (k + 1) (X.A.deeper (envOfC qg sg s.heap.objs.size g cdg)))
    (hbody : ∀ (A : Around) (outer : List Env) (s : Shared) (H : Hp), Room k (A.deeper (lamEnv X scope s.heap.objs.size f c')) → PE (lamCy X A outer s H scope f c') body tb)
    (hU : LinkL (cxG X Ng qg sg g cdg s H) s2 H2 fp) (he : PE ((cxG X Ng qg sg g cdg s H).blk s2 H2 sb (compEnvC sb cl C (cxG X Ng qg sg g cdg s H).env) fp) e te)
    (hNg : Ng[i]? = some an) (hv : Vis ((cxG X Ng qg sg g cdg s H).blk s2 H2 sb (compEnvC sb cl C (cxG X Ng qg sg g cdg s H).env) fp).env.scope an)
    (hst : starEach [e] ((cxG X Ng qg sg g cdg s H).blk s2 H2 sb (compEnvC sb cl C (cxG X Ng qg sg g cdg s H).env) fp).env = (false, eval e ((cxG X Ng qg sg g cdg s H).blk s2 H2 sb (compEnvC sb cl C (cxG X Ng qg sg g cdg s H).env) fp).env) :: starEach [] ((cxG X Ng qg sg g cdg s H).blk s2 H2 sb (compEnvC sb cl C (cxG X Ng qg sg g cdg s H).env) fp).env)
    (hd : (an == ("__debug__" : Str)) = false := by decide) (hcd : (an == ("__classdict__" : Str)) = false := by decide) :
    PE ((cxG X Ng qg sg g cdg s H).blk s2 H2 sb (compEnvC sb cl C (cxG X Ng qg sg g cdg s H).env) fp) (.Call (.Name an p1) [e] [] p2)
      (fun σZ HZ Q => σZ[i]? = some (some (.ref f)) ∧ te σZ HZ fun v H1 => H1 c' = some (CodeO c' (X.env.qual ++ "<lambda>")) ∧ tb (σ.set j (some v)) H1 Q) := by
  obtain ⟨pins', hfp, un⟩ := hU
  have hlt : ∀ {c : Addr} {o : Obj}, s.heap.get? c = some o → c ∉ fp := fun {c o} e hc => by
    obtain ⟨_, _, _, z, _⟩ := hfp c hc
    rcases z with z | z
    · exact absurd (show c ∈ ([] : List Addr) from z) (by simp)
    · exact absurd (Heap.lt_size e) (Nat.not_lt.mpr z)
  have noX : ∀ c : Addr, c ∉ (cxG X Ng qg sg g cdg s H).ex := fun c z => absurd (show c ∈ ([] : List Addr) from z) (by simp)
  have fFr : f ∉ frs (envOfC qg sg s.heap.objs.size g cdg :: X.stack) := fun z => by
    have z : f ∈ s.heap.objs.size :: frs X.stack := z
    rcases List.mem_cons.mp z with z | z
    · exact absurd (Heap.lt_size hf) (by rw [z]; exact Nat.lt_irrefl _)
    · exact hfr z
  have at_f : ∀ {pinsZ σZ HZ sZ}, Inv ((cxG X Ng qg sg g cdg s H).blk s2 H2 sb (compEnvC sb cl C (cxG X Ng qg sg g cdg s H).env) fp) pinsZ σZ HZ sZ → sZ.heap.get? f = some (PySem.W.kla_obj "<lambda>" (X.env.qual ++ "<lambda>") params body scope (cloFrom X.env.cells scope.names []) pm c' ctv) := fun IZ =>
    IZ.base.keep f _ (un.keep f _ hf hfn hfr (noX f)) (un.free f _ hf hfn (noX f)) fFr (hlt hf)
  refine ⟨fun pinsZ sZ σZ HZ Q IZ h => ?_⟩
  obtain ⟨hs, ht⟩ := h
  refine wpAny_Call_Name_kw (thn ((pe_var (pos := p1) (i := i) hNg hv hd hcd).run pinsZ sZ σZ HZ (fun v H1 => v = .ref f ∧ H1 = HZ) IZ ⟨.ref f, hs, rfl, rfl⟩) fun u s1 ⟨v, H1, I1, r1, q1⟩ => ?_)
  obtain ⟨ev, eH⟩ := q1
  subst ev
  rw [eH] at I1
  obtain rfl : u = Value.ref f := r1
  refine PySem.W.callWith_F ⟨_, _, _, _, at_f I1⟩ (thn ((pa_cons he pa_nil hst).run p2 pinsZ s1 σZ HZ (fun vs H1 => match vs with
    | [v] => H1 c' = some (CodeO c' (X.env.qual ++ "<lambda>")) ∧ tb (σ.set j (some v)) H1 Q
    | _ => False) I1 ht) fun us s3 ⟨vs, H3, I3, r3, q3⟩ => ⟨⟨_, _, _, _, at_f I3⟩, ?_⟩) hst
  cases r3 with
  | nil => exact q3.elim
  | @cons v u vs us rv rt =>
    cases rt with
    | cons _ _ => exact q3.elim
    | nil =>
      obtain ⟨hc, ht3⟩ := q3
      obtain ⟨⟨oc, vs, t, hoc, hdc, hvc⟩, _, _⟩ := I3.hok c' _ hc
      have kept : Kept X σ H s H3 s3.heap scope := ⟨fun y c o hy e ho hn hcell => by
        obtain ⟨sl, e2⟩ := un.any ho hn (noX c)
        have hn2 := un.free c o ho hn (noX c)
        obtain ⟨sl3, e3⟩ := I3.base.any e2 hn2 (hlt ho)
        exact ⟨⟨sl3, e3⟩, I3.base.free c _ e2 hn2 (hlt ho)⟩⟩
      have rc : codeAny (model X.prog X.w) (X.A.deeper (envOfC qg sg s.heap.objs.size g cdg)) (.call (.ref f) ⟨[u], []⟩) (CR CX0 (envOfC qg sg s.heap.objs.size g cdg :: X.stack) X.prog X.w H3 s3 Q E0) s3 := by
        refine PySem.W.kla_callFunE hr.depth (at_f I3) rfl L.co L.gen rfl ⟨c', oc, vs, t, rfl, hoc, hdc, hvc⟩ ?_
        rw [hbind]
        refine wpAny_pure (wpAny_newFunctionEnv (fun y hy => (L.own y hy).1) (fun y hy => ?_) (fun h₁ hns hsb => ⟨I3.nolimit.fresh _ hsb, ?_⟩) L.kind)
        · rw [List.mem_singleton.mp hy]; exact L.par
        show codeAny _ _ (.expr body (lamEnv X scope s3.heap.objs.size f c')) _ _
        have kp : ∀ b o, s3.heap.get? b = some o → h₁.get? b = some o := fun b o e => hsb.extBut b o (Nat.ne_of_lt (Heap.lt_size e)) (Heap.get?_push_of_some _ e)
        have J : Inv (lamCy X (X.A.deeper (envOfC qg sg s.heap.objs.size g cdg)) (envOfC qg sg s.heap.objs.size g cdg :: X.stack) s3 H3 scope f c') [] (σ.set j (some v)) H3 { s3 with heap := h₁, toks := s3.toks + ([(a, u)] : List (Str × Value)).length } :=
          lam_startP I hN hj L I3.env0 hr.hd kept rv hns kp
        refine PySem.W.kla_codeExpr (wpAny_mono ((hbody _ _ s3 H3 (hr.deeper _)).run [] _ _ H3 Q J ht3) (fun v' s' hq => ?_) fun e s' hq => hq.elim)
        obtain ⟨w', H', J', rv', q⟩ := hq
        exact ⟨w', H', J'.os, J'.bare, J'.base, J'.hok, rv', q⟩
      refine wpAny_call (codeAny_mono rc fun r s' hq => ?_)
      cases r with
      | error e => exact (show False from hq).elim
      | ok fl =>
        cases fl with
        | ret u => exact I3.after hq
        | next => exact False.elim hq
        | brk => exact False.elim hq
        | cont => exact False.elim hq
end
end LamP
namespace Dl
open PySem PySem.Spec PyProof.Rows L2 LamX LamP
section
variable {X : Cx} {pins : List (Addr × Obj)} {σ : L2.St} {H HZ : Hp} {s s1 : Shared} {T : Tb}
/-- slots whose data mean the same at every heap -/
def Flat (ρ : Rho) (σ : L2.St) : Prop := Paired (fun (d : Option Da) (v : Option V) => ∀ x, d = some x → ∃ u, v = some u ∧ ∀ (K : PySem.W.Frag) (H : Hp), Dv K H u x) ρ σ
theorem Flat.wd {ρ : Rho} {σ : L2.St} {K : PySem.W.Frag} {ω : Om} {H : Hp} (h : Flat ρ σ) (c : Cells K ω H) (t : LamX.Tabs T H) : Wd K T σ ρ ω H := ⟨Paired.mapP h fun _ _ r x e => let ⟨u, h1, h2⟩ := r x e; ⟨u, h1, h2 _ _⟩, c, t⟩
def wAct (i : Nat) (f c' : Addr) (q : Str) (j : Nat) (ρ0 : Rho) (wa wb : WE) : WE := fun ρ ω R => ρ[i]? = some (some (.lam f c' q)) ∧ wa ρ ω fun d ω1 => wb (ρ0.set j (some d)) ω1 R
theorem xact {Ng : List Str} {qg : Str} {sg sb : Scope} {g f c' C : Addr} {cdg pm ctv : Value} {params : Arguments} {body e : Expr} {scope : Scope} {k i j : Nat} {a an : Str} {wa wb : WE} {ρ0 : Rho} {p1 p2 : Pos} {s2 : Shared} {H2 : Hp} {cl : List (Str × Addr)} {fp : List Addr}
    (I : L2.Inv X pins σ H s) (hN : X.N.Nodup) (hj : X.N[j]? = some a) (L : LamA X.env.scope scope a) (hf : s.heap.get? f = some (PySem.W.kla_obj "<lambda>" (X.env.qual ++ "<lambda>") params body scope (cloFrom X.env.cells scope.names []) pm c' ctv)) (hfn : H f = none) (hfr : f ∉ frs X.stack)
    (hbind : ∀ u, bindArgs (PySem.W.kla_fn "<lambda>" (X.env.qual ++ "<lambda>") params body scope (cloFrom X.env.cells scope.names []) pm (.ref c') ctv) ⟨[u], []⟩ = pure [(a, u)])
    (hr : Room (k + 1) (X.A.deeper (envOfC qg sg s.heap.objs.size g cdg))) (hfl : Flat ρ0 σ)
    (hbody : ∀ (A : Around) (outer : List Env) (s : Shared) (H : Hp), Room k (A.deeper (lamEnv X scope s.heap.objs.size f c')) → XE T (lamCy X A outer s H scope f c') body wb)
    (hU : LinkL (cxG X Ng qg sg g cdg s H) s2 H2 fp) (he : XE T (blkX (cxG X Ng qg sg g cdg s H) sb s2 H2 C cl fp) e wa)
    (hNg : Ng[i]? = some an) (hv : Vis (blkX (cxG X Ng qg sg g cdg s H) sb s2 H2 C cl fp).env.scope an)
    (hst : starEach [e] (blkX (cxG X Ng qg sg g cdg s H) sb s2 H2 C cl fp).env = (false, eval e (blkX (cxG X Ng qg sg g cdg s H) sb s2 H2 C cl fp).env) :: starEach [] (blkX (cxG X Ng qg sg g cdg s H) sb s2 H2 C cl fp).env)
    (hd : (an == ("__debug__" : Str)) = false := by decide) (hcd : (an == ("__classdict__" : Str)) = false := by decide) :
    XE T (blkX (cxG X Ng qg sg g cdg s H) sb s2 H2 C cl fp) (.Call (.Name an p1) [e] [] p2) (wAct i f c' (X.env.qual ++ "<lambda>") j ρ0 wa wb) := by
  refine ⟨_, pe_actP (tb := tD X.K T wb) (te := tD X.K T wa) I hN hj L hf hfn hfr hbind hr (fun A outer s H hr => (hbody A outer s H hr).pe) hU he.pe hNg hv hst hd hcd, fun σZ HZ ρ ω R Q W q kk => ?_⟩
  obtain ⟨h1, q⟩ := q
  obtain ⟨v, h3, h4⟩ := W.get h1
  cases h4 with
  | lam hc =>
    refine ⟨h3, ρ, ω, _, W, q, fun v H1 d ω1 g1 dv q1 => ?_⟩
    refine ⟨(hid_some (g1.keep _ _ hc LamX.codeO_ne)).2, ρ0.set j (some d), ω1, R, (Flat.wd hfl g1.cells g1.tabs).set dv j, q1, fun v2 H3 d2 ω2 g2 dv2 q2 => kk v2 H3 d2 ω2 (g1.trans g2) dv2 q2⟩
theorem xlcL {tg iter elt : Expr} {pos : Pos} {ifs : List Expr} {scope : Scope} {own : List (Str × Nat)} {wi : WI} {is : List Nat} {g : WG} {u : WT} {w : WE} (hc : X.calm = true) (hN : X.N.Nodup) (ok : blkC X.N X.env.scope scope own = true) (hi : XI T X tg iter wi)
    (hg : ∀ s H C cl fp, XG T (blkX X scope s H C cl fp) tg is g) (ht : ∀ s H C cl fp, XTs T (blkX X scope s H C cl fp) ifs u) (he : ∀ s H C cl fp, LinkL X s H fp → XE T (blkX X scope s H C cl fp) elt w)
    (his : ∀ i ∈ is, i ∈ own.map (·.2) := by decide) (hs : ∀ x, foldedSetIterable iter X.env x = pure x := by intro _; rfl) : XE T X (.ListComp elt [⟨tg, iter, ifs, 0⟩] scope pos) (wFz (wLc wi g u w (own.map (·.2)))) :=
  xfz ⟨_, pe_lcL (wi := tDI X.K T wi) (g := tDG X.K T is g) (tt := tDT X.K T u) (te := tD X.K T w) hc hN hi.pi (blkOk_by ok) (fun s H C cl fp => (hg s H C cl fp).pg) (fun s H C cl fp => (ht s H C cl fp).pts) (fun s H C cl fp hl => (he s H C cl fp hl).pe) hs,
    evD_lc his (fun σ H ρ ω R Q W q k => ⟨ρ, ω, R, W, q, k⟩) (fun v d σ H ρ ω R Q W dv q k => ⟨d, ρ, ω, R, W, dv, q, k⟩) (fun σ H ρ ω R Q W q k => ⟨ρ, ω, R, W, q, k⟩) (fun σ H ρ ω R Q W q k => ⟨ρ, ω, R, W, q, k⟩)⟩
end
/-- .. with the def's own code object at hand -/
theorem def_okC {P : Program} {wo : World} {K : PySem.W.Frag} {mg : Str → Option Value} {base : Heap} {T : Tb} {x qual : Str} {params : Arguments} {body : List Stmt} {scope : Scope} {at_ : Str × Option Str} {fd : FuncData} {N ps : List Str} {k : Nat} {s : Dsp}
    (F : FunD K x qual params body scope [] [] (He.fAd K at_) fd) (S : FnScope N ps scope) (hm : mg x = some (.ref (He.fAd K at_)))
    (hb : ∀ (kV doc pm : Value) (an : Option Addr) (cdv ct : Value) (us : List Value), us.length = ps.length → bindArgs (PySem.W.fnOf x qual params body scope .none kV doc pm an cdv ct) ⟨us, []⟩ = pure (ps.zip us))
    (hlen : ∀ ds ω R, s ds ω R → ds.length = ps.length)
    (hbody : ∀ (cdv : Value) (A : Around) (outer : List Env) (st : Shared) (H : Hp) (E : XK), cdv = .ref (He.codeOf K at_) → Room k (A.deeper (envOfC qual scope st.heap.objs.size (He.fAd K at_) cdv)) →
      ∃ w, XSs T (cxOf CX0 P wo K mg base N qual scope (He.fAd K at_) cdv A outer st H E).nox body w ∧ ∀ ds ω R, s ds ω R → w ⟨fun _ ω' => R .non ω', R, fun _ _ => False, fun _ _ => False⟩ (startD N ds) ω) : Df P wo K mg base T x (k + 1) s := by
  have bn := F.bindsN hb
  have kp := F.kp
  obtain ⟨oc, od, dV, kV, doc, pm, an, cdv, ct, osl, rfl, lk, hcd, _, _⟩ := F.ex
  obtain ⟨c, ec⟩ := He.codeIn_ref hcd
  have ecd : cdv = .ref (He.codeOf K at_) := by rw [He.codeOf_eq lk ec, ec]
  refine ⟨_, _, ps, fn_of lk hcd S (fun vs H Q E ⟨ds, ω, R, h1, h2, h3, h4, h5⟩ => by rw [h1.length]; exact hlen ds ω R h4) (fun A outer st H vs Q E hr ⟨ds, ω, R, h1, h2, h3, h4, h5⟩ => ?_), bn, hm, kp⟩
  obtain ⟨w, hw, q⟩ := hbody cdv A outer st H E ecd hr
  obtain ⟨t, t1, t2⟩ := hw.ex
  exact ⟨t, t1.nox, t2 _ H _ ω _ _ (wd_start h2 h3 h1) (q ds ω R h4) ⟨fun σ' H' ρ' ω' g W q' => h5 _ H' _ ω' g .non q', fun v H' d ω' g dv q' => h5 v H' d ω' g dv q', fun σ' H' ρ' ω' g W q' => q'.elim, fun σ' H' ρ' ω' g W q' => q'.elim⟩⟩
end Dl
set_option maxHeartbeats 2000000
/-! Objects of a class over data: fields read and written. -/
namespace Dl
open PySem PySem.Spec PyProof.Rows L2

theorem fsD_look {K : PySem.W.Frag} {H : Hp} {f : Str} {e : Da} : ∀ {gs : List (Str × V)} {fs : List (Str × Da)}, FsD K H gs fs → fs.lookup f = some e → ∃ v, gs.lookup f = some v ∧ Dv K H v e
  | _, _, .nil, h => by cases h
  | (n, v) :: gs, (n', d) :: fs, .cons r t, h => by
    obtain ⟨r1, r2⟩ := r
    dsimp only at r1 r2
    subst r1
    rw [List.lookup_cons] at h ⊢
    cases hb : (f == n) with
    | true => rw [hb] at h; cases h; exact ⟨v, rfl, r2⟩
    | false => rw [hb] at h; exact fsD_look t h
theorem fsD_none {K : PySem.W.Frag} {H : Hp} {f : Str} : ∀ {gs : List (Str × V)} {fs : List (Str × Da)}, FsD K H gs fs → fs.lookup f = none → gs.lookup f = none
  | _, _, .nil, _ => rfl
  | (n, v) :: gs, (n', d) :: fs, .cons r t, h => by
    obtain ⟨r1, r2⟩ := r
    dsimp only at r1 r2
    subst r1
    rw [List.lookup_cons] at h ⊢
    cases hb : (f == n) with
    | true => rw [hb] at h; cases h
    | false => rw [hb] at h; exact fsD_none t h
section
variable {T : Tb} {X : Cx} {e o : Expr} {es : List Expr} {pos p : Pos} {K : PySem.W.Frag}
/-- o.f -/
def wFld (C : Addr) (f : Str) (wo : WE) : WE := fun ρ ω R => wo ρ ω fun d ω1 => ∃ p dx fs e, d = .ptr p ∧ ω1 p = some (.ins C dx fs) ∧ fs.lookup f = some e ∧ R e ω1
theorem xfld {C : Addr} {f : Str} {wo : WE} (c : Cls X.K C) (n : NoAttr X.K C f) (ho : XE T X o wo) (hb : attributeBase o f X.env (eval o X.env) = eval o X.env := by rfl) : XE T X (.Attribute o f pos) (wFld C f wo) := by
  obtain ⟨t, h1, h2⟩ := ho.ex
  refine ⟨_, pe_fld h1 hb, fun σ H ρ ω R Q W q k => h2 σ H ρ ω _ _ W q fun v H1 d ω1 g1 dv ⟨p, dx, fs, e, e1, e2, e3, q1⟩ => ?_⟩
  subst e1
  cases dv
  obtain ⟨gs, a1, a2⟩ := g1.cells _ _ e2
  obtain ⟨u, b1, b2⟩ := fsD_look a2 e3
  exact ⟨p, C, dx, gs, u, rfl, a1, c, n, b1, k u H1 e ω1 g1 b2 q1⟩
/-- o.f = e, the first field of a new object -/
def sFld1 (C : Addr) (f : Str) (wo we : WE) : WS := fun E ρ ω => we ρ ω fun e ω1 => wo ρ ω1 fun d ω2 => ∃ p dx, d = .ptr p ∧ ω2 p = some (.ins C dx []) ∧ E.nx ρ (ω2.set p (.ins C dx [(f, e)]))
theorem sfld1 {C : Addr} {f : Str} {wo we : WE} {pos' : Pos} (c : Cls X.K C) (n : NoAttr X.K C f) (ho : XE T X o wo) (he : XE T X e we) (hs : swapsWith e (some (.Attribute o f pos')) pos.line X.env = pure false := by rfl) :
    XS T X (.Assign [.Attribute o f pos'] e pos) (sFld1 C f wo we) := by
  obtain ⟨t, h1, h2⟩ := ho.ex
  obtain ⟨t', h3, h4⟩ := he.ex
  refine ⟨_, ps_fld h1 h3 hs, fun σ H ρ ω E D W q k => h4 σ H ρ ω _ _ W q fun v H1 e ω1 g1 dv q1 => h2 σ H1 ρ ω1 _ _ (W.go g1) q1 fun u H2 d ω2 g2 du ⟨p, dx, e1, e2, q2⟩ => ?_⟩
  subst e1
  cases du
  obtain ⟨gs, a1, a2⟩ := g2.cells _ _ e2
  cases a2
  have g := Go.write (o := .ins C dx [(f, v)]) (x := .ins C dx [(f, e)]) g2.cells g2.tabs e2 fun kp => ⟨_, upd_same, .cons ⟨rfl, Dv.mono kp _ _ (Dv.mono g2.keep _ _ dv)⟩ .nil⟩
  exact ⟨p, C, dx, [], rfl, a1, c, n, (by decide), k.nx _ _ _ _ ((g1.trans g2).trans g) (W.go ((g1.trans g2).trans g)) q2⟩
end

/-- the function at f keeps the promise s (a method) -/
structure Dm (P : Program) (w : World) (K : PySem.W.Frag) (mg : Str → Option Value) (base : Heap) (T : Tb) (f : Addr) (k : Nat) (s : Dsp) : Prop where
  ex : ∃ fd ps, FnOk P w K mg base CX0 k f fd ps (spD K T s) ∧ Binds K fd ps []
theorem Dm.up {P : Program} {w : World} {K : PySem.W.Frag} {mg : Str → Option Value} {base : Heap} {T : Tb} {f : Addr} {j k : Nat} {s : Dsp} (D : Dm P w K mg base T f j s) (h : j ≤ k) : Dm P w K mg base T f k s := by
  obtain ⟨fd, ps, F, r⟩ := D.ex
  exact ⟨fd, ps, F.mono h, r⟩
theorem Dm.imp {P : Program} {w : World} {K : PySem.W.Frag} {mg : Str → Option Value} {base : Heap} {T : Tb} {f : Addr} {k : Nat} {s s' : Dsp} (D : Dm P w K mg base T f k s) (h : ∀ ds ω R, s' ds ω R → s ds ω R) : Dm P w K mg base T f k s' := by
  obtain ⟨fd, ps, F, r⟩ := D.ex
  exact ⟨fd, ps, F.imp fun vs H Q E ⟨ds, ω, R, h1, h2, h3, h4, h5⟩ => ⟨ds, ω, R, h1, h2, h3, h _ _ _ h4, h5⟩, r⟩
theorem def_okM {P : Program} {wo : World} {K : PySem.W.Frag} {mg : Str → Option Value} {base : Heap} {T : Tb} {x qual : Str} {params : Arguments} {body : List Stmt} {scope : Scope} {f : Addr} {fd : FuncData} {N ps : List Str} {k : Nat} {s : Dsp}
    (F : FunD K x qual params body scope [] [] f fd) (S : FnScope N ps scope)
    (hb : ∀ (kV doc pm : Value) (an : Option Addr) (cdv ct : Value) (us : List Value), us.length = ps.length → bindArgs (PySem.W.fnOf x qual params body scope .none kV doc pm an cdv ct) ⟨us, []⟩ = pure (ps.zip us))
    (hlen : ∀ ds ω R, s ds ω R → ds.length = ps.length)
    (hbody : ∀ (cdv : Value) (A : Around) (outer : List Env) (st : Shared) (H : Hp) (E : XK), Room k (A.deeper (envOfC qual scope st.heap.objs.size f cdv)) →
      ∃ w, XSs T (cxOf CX0 P wo K mg base N qual scope f cdv A outer st H E).nox body w ∧ ∀ ds ω R, s ds ω R → w ⟨fun _ ω' => Shr R .non ω', Shr R, fun _ _ => False, fun _ _ => False⟩ (startD N ds) ω) : Dm P wo K mg base T f (k + 1) s := by
  refine ⟨fd, ps, F.ok S (fun vs H Q E ⟨ds, ω, R, h1, h2, h3, h4, h5⟩ => by rw [h1.length]; exact hlen ds ω R h4) (fun cdv A outer st H vs Q E hr ⟨ds, ω, R, h1, h2, h3, h4, h5⟩ => ?_), F.bindsN hb⟩
  obtain ⟨w, hw, q⟩ := hbody cdv A outer st H E hr
  obtain ⟨t, t1, t2⟩ := hw.ex
  refine ⟨t, t1.nox, t2 _ H _ ω _ _ (wd_start h2 h3 h1) (q ds ω R h4) ⟨fun σ' H' ρ' ω' g W q' => ?_, fun v H' d ω' g dv q' => ?_, fun σ' H' ρ' ω' g W q' => q'.elim, fun σ' H' ρ' ω' g W q' => q'.elim⟩⟩
  · obtain ⟨ω0, hs, q'⟩ := q'
    exact h5 _ H' _ ω0 (g.trans (Go.shr hs g.cells g.tabs)) .non q'
  · obtain ⟨ω0, hs, q'⟩ := q'
    have g2 := Go.shr hs g.cells g.tabs
    exact h5 v H' d ω0 (g.trans g2) (Dv.mono g2.keep _ _ dv) q'
section
variable {T : Tb} {X : Cx} {e o : Expr} {es : List Expr} {pos p : Pos} {K : PySem.W.Frag}
/-- o.m(..) -/
def wMeth (C : Addr) (m : Str) (s : Dsp) (wo : WE) (w : WA) : WE := fun ρ ω R => wo ρ ω fun d ω1 => ∃ p dx fs, d = .ptr p ∧ ω1 p = some (.ins C dx fs) ∧ fs.lookup m = none ∧ w ρ ω1 fun ds ω2 => s (.ptr p :: ds) ω2 R
theorem xmethI {C f : Addr} {m : Str} {k : Nat} {s : Dsp} {wo : WE} {w : WA} {apos : Pos} {pl : Sem Bool} (c : Cls X.K C) (hm : Meth X.K C m f) (D : Dm X.prog X.w X.K X.mg X.base T f k s) (hr : Room k X.A) (ho : XE T X o wo) (ha : XA T X (e :: es) w)
    (hst : starEach (e :: es) X.env = (false, eval e X.env) :: starEach es X.env := by rfl) (hpl : (backTo pos (starEach es X.env)).any (·.1) = false := by rfl)
    (ht : eval (.Call (.Attribute o m apos) (e :: es) [] pos) X.env = (do
      let ov ← eval o X.env
      standAt apos.atName
      let (f, first) ← holding [ov] (getMethod ov m pl)
      callWith pos f first (backTo pos (starEach (e :: es) X.env)) (backToKw pos (keywordEach [] X.env))) := by rfl) : XE T X (.Call (.Attribute o m apos) (e :: es) [] pos) (wMeth C m s wo w) := by
  obtain ⟨t, h1, h2⟩ := ho.ex
  obtain ⟨t', h3, h4⟩ := ha.ex
  obtain ⟨fd, ps, F, hb⟩ := D.ex
  refine ⟨_, pe_meth (pl := pl) h1 c hm F hr hb .nil pass0 h3 hst hpl ht, fun σ H ρ ω R Q W q k => h2 σ H ρ ω _ _ W q fun v H1 d ω1 g1 dv ⟨p, dx, fs, e1, e2, e3, q1⟩ => ?_⟩
  subst e1
  cases dv
  obtain ⟨gs, a1, a2⟩ := g1.cells _ _ e2
  refine ⟨p, dx, gs, rfl, a1, fsD_none a2 e3, h4 σ H1 ρ ω1 _ _ (W.go g1) q1 fun vs H2 ds ω2 g2 dvs hn q2 => ?_⟩
  exact ⟨.ptr p :: ds, ω2, R, by rw [List.append_nil]; exact .cons (.ptr p) dvs, g2.cells, g2.tabs, q2, fun u H3 d ω3 g3 du q3 => k u H3 d ω3 ((g1.trans g2).trans g3) du q3⟩
/-- C() -/
def wMake0 (C : Addr) (s : Dsp) : WE := fun ρ ω R => ∀ x dx, ω x = none → s [.ptr x] (ω.set x (.ins C dx [])) fun d ω1 => d = .non ∧ R (.ptr x) ω1
theorem xmake0 {C f : Addr} {x : Str} {k : Nat} {s : Dsp} (M : Mk X.K C f) (hm : X.mg x = some (.ref C)) (D : Dm X.prog X.w X.K X.mg X.base T f k s) (hr : Room (k + 1) X.A) (hg : Gl X x := by rfl) (hdb : (x == ("__debug__" : Str)) = false := by decide) :
    XE T X (.Call (.Name x p) [] [] pos) (wMake0 C s) := by
  obtain ⟨fd, ps, F, hb⟩ := D.ex
  refine ⟨_, pe_make0 M F hr hg hm hb .nil pass0 hdb, fun σ H ρ ω R Q W q k => fun x dx hx hdx hne => ?_⟩
  have g1 : Go X.K T ω ω H (upd H dx (.own x)) := Go.new W.cells W.tabs hdx
  have hx1 : upd H dx (.own x) x = none := by rw [upd_ne (Ne.symm hne)]; exact hx
  have g2 := Go.newCell (o := .ins C dx []) (x := .ins C dx []) g1.cells g1.tabs hx1 fun kp => ⟨[], upd_same, .nil⟩
  exact ⟨[.ptr x], _, _, .cons (.ptr x) .nil, g2.cells, g2.tabs, q x dx (W.cells.free hx), fun v H2 d ω2 g3 dv ⟨e1, q2⟩ => by
    subst e1
    cases dv
    exact ⟨rfl, k _ H2 (.ptr x) ω2 ((g1.trans g2).trans g3) (.ptr x) q2⟩⟩
end
end Dl
set_option maxHeartbeats 2000000
/-! The text's places; what is known of the module's names. -/
namespace Wr
open PySem PySem.Spec PyProof.Rows L2 Dl
def top (i : Nat) : Stmt := PySem.Challenge.pw_waryrig_k42_whole_the_game_of_settings_a.main.body.getD i (.Pass ⟨0, 0, 0, 0⟩)
abbrev s_is_whole : Stmt := top 12
abbrev s_is_between : Stmt := top 13
abbrev s_is_below : Stmt := top 14
abbrev s_is_ascending : Stmt := top 15
abbrev s_is_tuple_of : Stmt := top 16
abbrev s_first_of : Stmt := top 17
abbrev s_wrong_in : Stmt := top 18
abbrev s_is_signs : Stmt := top 19
abbrev s_is_move : Stmt := top 20
abbrev s_wrong_move : Stmt := top 21
abbrev s_wrong_part : Stmt := top 22
abbrev s_made_rig : Stmt := top 23
abbrev s_is_rig : Stmt := top 24
abbrev s_is_setting : Stmt := top 25
abbrev s_neighbours_of : Stmt := top 26
abbrev s_is_lot : Stmt := top 28
abbrev s_every_fault : Stmt := top 29
abbrev s_cures_of : Stmt := top 30
abbrev s_is_done : Stmt := top 31
abbrev s_agreeing_in : Stmt := top 32
abbrev s_signs_in : Stmt := top 33
abbrev s_has_one_sign : Stmt := top 34
abbrev s_parts_at : Stmt := top 35
abbrev s_is_within : Stmt := top 36
abbrev s_is_bar : Stmt := top 40
abbrev s_are_bars : Stmt := top 41
abbrev s_wrong_bars : Stmt := top 42
abbrev s_made_book : Stmt := top 43
abbrev s_is_book : Stmt := top 44
abbrev s_bar_at : Stmt := top 46
abbrev s_is_free : Stmt := top 47
abbrev s_free_neighbours : Stmt := top 49
abbrev s_distances : Stmt := top 50
abbrev s_region_of : Stmt := top 51
abbrev s_way_of : Stmt := top 52
abbrev s_home_of : Stmt := top 54
abbrev s_is_start : Stmt := top 55
abbrev s_want_start : Stmt := top 56
abbrev s_made_start : Stmt := top 57
abbrev s_end_of : Stmt := top 58
abbrev s_joined : Stmt := top 60
abbrev s_flat : Stmt := top 62
abbrev s_coded : Stmt := top 63
abbrev s_nearest : Stmt := top 65
abbrev s_look_from : Stmt := top 66
abbrev s_tree_from : Stmt := top 67
abbrev s_code_from : Stmt := top 68
abbrev s_code_for : Stmt := top 69
abbrev s_can_end : Stmt := top 70
abbrev s_solvable : Stmt := top 71
abbrev s_closed : Stmt := top 73
abbrev s_tells_nothing : Stmt := top 74
abbrev s_is_bare_lot : Stmt := top 75
abbrev s_stuck_right : Stmt := top 76
abbrev s_stuck_from : Stmt := top 78
abbrev s_stuck : Stmt := top 79
abbrev s_law_pool : Stmt := top 81
abbrev s_law_take : Stmt := top 82
abbrev s_law_one : Stmt := top 83
abbrev s_law_mixed : Stmt := top 84
abbrev s_law_some : Stmt := top 85
abbrev s_law_all : Stmt := top 86
abbrev s_law_is_within : Stmt := top 87
abbrev s_law_cures_all : Stmt := top 88
abbrev s_law_is_done : Stmt := top 89
abbrev s_law_agree : Stmt := top 90
abbrev s_law_is_one_sign : Stmt := top 91
abbrev s_law_parts : Stmt := top 92
abbrev s_law_move_of : Stmt := top 93
abbrev s_law_bar_of : Stmt := top 94
abbrev s_law_next : Stmt := top 95
abbrev s_law_joined : Stmt := top 96
abbrev s_law_paths : Stmt := top 97
abbrev s_law_is_stuck_lot : Stmt := top 98
abbrev s_law_is_led : Stmt := top 99
abbrev s_law_came_by : Stmt := top 100
abbrev s_law_cures_each : Stmt := top 101
abbrev s_law_joined_moves : Stmt := top 102
abbrev s_law_signs : Stmt := top 103
abbrev s_law_cures : Stmt := top 104
abbrev s_law_rig : Stmt := top 105
abbrev s_law_bar : Stmt := top 106
abbrev s_law_bars : Stmt := top 107
abbrev s_law_drawn_book : Stmt := top 108
abbrev s_law_plan : Stmt := top 109
abbrev s_law_planted_book : Stmt := top 110
abbrev s_law_some_book : Stmt := top 111
abbrev s_law_with_one_bar : Stmt := top 112
abbrev s_law_game_from : Stmt := top 113
abbrev s_law_start_right : Stmt := top 114
abbrev s_law : Stmt := top 115
abbrev s_Rows_init : Stmt := inClass (top 61) 0
abbrev s_Rows_number : Stmt := inClass (top 61) 1
def d_is_whole : He.DefD := ⟨("is_whole", none), "is_whole", "is_whole", defArgs s_is_whole, defBody s_is_whole, defScope s_is_whole, [], []⟩
def d_is_between : He.DefD := ⟨("is_between", none), "is_between", "is_between", defArgs s_is_between, defBody s_is_between, defScope s_is_between, [], []⟩
def d_is_below : He.DefD := ⟨("is_below", none), "is_below", "is_below", defArgs s_is_below, defBody s_is_below, defScope s_is_below, [], []⟩
def d_is_ascending : He.DefD := ⟨("is_ascending", none), "is_ascending", "is_ascending", defArgs s_is_ascending, defBody s_is_ascending, defScope s_is_ascending, [], []⟩
def d_is_tuple_of : He.DefD := ⟨("is_tuple_of", none), "is_tuple_of", "is_tuple_of", defArgs s_is_tuple_of, defBody s_is_tuple_of, defScope s_is_tuple_of, [], []⟩
def d_first_of : He.DefD := ⟨("first_of", none), "first_of", "first_of", defArgs s_first_of, defBody s_first_of, defScope s_first_of, [], []⟩
def d_wrong_in : He.DefD := ⟨("wrong_in", none), "wrong_in", "wrong_in", defArgs s_wrong_in, defBody s_wrong_in, defScope s_wrong_in, [], []⟩
def d_is_signs : He.DefD := ⟨("is_signs", none), "is_signs", "is_signs", defArgs s_is_signs, defBody s_is_signs, defScope s_is_signs, [], []⟩
def d_is_move : He.DefD := ⟨("is_move", none), "is_move", "is_move", defArgs s_is_move, defBody s_is_move, defScope s_is_move, [], []⟩
def d_wrong_move : He.DefD := ⟨("wrong_move", none), "wrong_move", "wrong_move", defArgs s_wrong_move, defBody s_wrong_move, defScope s_wrong_move, [], []⟩
def d_wrong_part : He.DefD := ⟨("wrong_part", none), "wrong_part", "wrong_part", defArgs s_wrong_part, defBody s_wrong_part, defScope s_wrong_part, [], []⟩
def d_made_rig : He.DefD := ⟨("made_rig", none), "made_rig", "made_rig", defArgs s_made_rig, defBody s_made_rig, defScope s_made_rig, [], []⟩
def d_is_rig : He.DefD := ⟨("is_rig", none), "is_rig", "is_rig", defArgs s_is_rig, defBody s_is_rig, defScope s_is_rig, [], []⟩
def d_is_setting : He.DefD := ⟨("is_setting", none), "is_setting", "is_setting", defArgs s_is_setting, defBody s_is_setting, defScope s_is_setting, [], []⟩
def d_neighbours_of : He.DefD := ⟨("neighbours_of", none), "neighbours_of", "neighbours_of", defArgs s_neighbours_of, defBody s_neighbours_of, defScope s_neighbours_of, [], []⟩
def d_is_lot : He.DefD := ⟨("is_lot", none), "is_lot", "is_lot", defArgs s_is_lot, defBody s_is_lot, defScope s_is_lot, [], []⟩
def d_every_fault : He.DefD := ⟨("every_fault", none), "every_fault", "every_fault", defArgs s_every_fault, defBody s_every_fault, defScope s_every_fault, [], []⟩
def d_cures_of : He.DefD := ⟨("cures_of", none), "cures_of", "cures_of", defArgs s_cures_of, defBody s_cures_of, defScope s_cures_of, [], []⟩
def d_is_done : He.DefD := ⟨("is_done", none), "is_done", "is_done", defArgs s_is_done, defBody s_is_done, defScope s_is_done, [], []⟩
def d_agreeing_in : He.DefD := ⟨("agreeing_in", none), "agreeing_in", "agreeing_in", defArgs s_agreeing_in, defBody s_agreeing_in, defScope s_agreeing_in, [], []⟩
def d_signs_in : He.DefD := ⟨("signs_in", none), "signs_in", "signs_in", defArgs s_signs_in, defBody s_signs_in, defScope s_signs_in, [], []⟩
def d_has_one_sign : He.DefD := ⟨("has_one_sign", none), "has_one_sign", "has_one_sign", defArgs s_has_one_sign, defBody s_has_one_sign, defScope s_has_one_sign, [], []⟩
def d_parts_at : He.DefD := ⟨("parts_at", none), "parts_at", "parts_at", defArgs s_parts_at, defBody s_parts_at, defScope s_parts_at, [], []⟩
def d_is_within : He.DefD := ⟨("is_within", none), "is_within", "is_within", defArgs s_is_within, defBody s_is_within, defScope s_is_within, [], []⟩
def d_is_bar : He.DefD := ⟨("is_bar", none), "is_bar", "is_bar", defArgs s_is_bar, defBody s_is_bar, defScope s_is_bar, [], []⟩
def d_are_bars : He.DefD := ⟨("are_bars", none), "are_bars", "are_bars", defArgs s_are_bars, defBody s_are_bars, defScope s_are_bars, [], []⟩
def d_wrong_bars : He.DefD := ⟨("wrong_bars", none), "wrong_bars", "wrong_bars", defArgs s_wrong_bars, defBody s_wrong_bars, defScope s_wrong_bars, [], []⟩
def d_made_book : He.DefD := ⟨("made_book", none), "made_book", "made_book", defArgs s_made_book, defBody s_made_book, defScope s_made_book, [], []⟩
def d_is_book : He.DefD := ⟨("is_book", none), "is_book", "is_book", defArgs s_is_book, defBody s_is_book, defScope s_is_book, [], []⟩
def d_bar_at : He.DefD := ⟨("bar_at", none), "bar_at", "bar_at", defArgs s_bar_at, defBody s_bar_at, defScope s_bar_at, [], []⟩
def d_is_free : He.DefD := ⟨("is_free", none), "is_free", "is_free", defArgs s_is_free, defBody s_is_free, defScope s_is_free, [], []⟩
def d_free_neighbours : He.DefD := ⟨("free_neighbours", none), "free_neighbours", "free_neighbours", defArgs s_free_neighbours, defBody s_free_neighbours, defScope s_free_neighbours, [], []⟩
def d_distances : He.DefD := ⟨("distances", none), "distances", "distances", defArgs s_distances, defBody s_distances, defScope s_distances, [], []⟩
def d_region_of : He.DefD := ⟨("region_of", none), "region_of", "region_of", defArgs s_region_of, defBody s_region_of, defScope s_region_of, [], []⟩
def d_way_of : He.DefD := ⟨("way_of", none), "way_of", "way_of", defArgs s_way_of, defBody s_way_of, defScope s_way_of, [], []⟩
def d_home_of : He.DefD := ⟨("home_of", none), "home_of", "home_of", defArgs s_home_of, defBody s_home_of, defScope s_home_of, [], []⟩
def d_is_start : He.DefD := ⟨("is_start", none), "is_start", "is_start", defArgs s_is_start, defBody s_is_start, defScope s_is_start, [], []⟩
def d_want_start : He.DefD := ⟨("want_start", none), "want_start", "want_start", defArgs s_want_start, defBody s_want_start, defScope s_want_start, [], []⟩
def d_made_start : He.DefD := ⟨("made_start", none), "made_start", "made_start", defArgs s_made_start, defBody s_made_start, defScope s_made_start, [], []⟩
def d_end_of : He.DefD := ⟨("end_of", none), "end_of", "end_of", defArgs s_end_of, defBody s_end_of, defScope s_end_of, [], []⟩
def d_joined : He.DefD := ⟨("joined", none), "joined", "joined", defArgs s_joined, defBody s_joined, defScope s_joined, [], []⟩
def d_flat : He.DefD := ⟨("flat", none), "flat", "flat", defArgs s_flat, defBody s_flat, defScope s_flat, [], []⟩
def d_coded : He.DefD := ⟨("coded", none), "coded", "coded", defArgs s_coded, defBody s_coded, defScope s_coded, [], []⟩
def d_nearest : He.DefD := ⟨("nearest", none), "nearest", "nearest", defArgs s_nearest, defBody s_nearest, defScope s_nearest, [], []⟩
def d_look_from : He.DefD := ⟨("look_from", none), "look_from", "look_from", defArgs s_look_from, defBody s_look_from, defScope s_look_from, [], []⟩
def d_tree_from : He.DefD := ⟨("tree_from", none), "tree_from", "tree_from", defArgs s_tree_from, defBody s_tree_from, defScope s_tree_from, [], []⟩
def d_code_from : He.DefD := ⟨("code_from", none), "code_from", "code_from", defArgs s_code_from, defBody s_code_from, defScope s_code_from, [], []⟩
def d_code_for : He.DefD := ⟨("code_for", none), "code_for", "code_for", defArgs s_code_for, defBody s_code_for, defScope s_code_for, [], []⟩
def d_can_end : He.DefD := ⟨("can_end", none), "can_end", "can_end", defArgs s_can_end, defBody s_can_end, defScope s_can_end, [], []⟩
def d_solvable : He.DefD := ⟨("solvable", none), "solvable", "solvable", defArgs s_solvable, defBody s_solvable, defScope s_solvable, [], []⟩
def d_closed : He.DefD := ⟨("closed", none), "closed", "closed", defArgs s_closed, defBody s_closed, defScope s_closed, [], []⟩
def d_tells_nothing : He.DefD := ⟨("tells_nothing", none), "tells_nothing", "tells_nothing", defArgs s_tells_nothing, defBody s_tells_nothing, defScope s_tells_nothing, [], []⟩
def d_is_bare_lot : He.DefD := ⟨("is_bare_lot", none), "is_bare_lot", "is_bare_lot", defArgs s_is_bare_lot, defBody s_is_bare_lot, defScope s_is_bare_lot, [], []⟩
def d_stuck_right : He.DefD := ⟨("stuck_right", none), "stuck_right", "stuck_right", defArgs s_stuck_right, defBody s_stuck_right, defScope s_stuck_right, [], []⟩
def d_stuck_from : He.DefD := ⟨("stuck_from", none), "stuck_from", "stuck_from", defArgs s_stuck_from, defBody s_stuck_from, defScope s_stuck_from, [], []⟩
def d_stuck : He.DefD := ⟨("stuck", none), "stuck", "stuck", defArgs s_stuck, defBody s_stuck, defScope s_stuck, [], []⟩
def d_law_pool : He.DefD := ⟨("_law_pool", none), "_law_pool", "_law_pool", defArgs s_law_pool, defBody s_law_pool, defScope s_law_pool, [], []⟩
def d_law_take : He.DefD := ⟨("_law_take", none), "_law_take", "_law_take", defArgs s_law_take, defBody s_law_take, defScope s_law_take, [], []⟩
def d_law_one : He.DefD := ⟨("_law_one", none), "_law_one", "_law_one", defArgs s_law_one, defBody s_law_one, defScope s_law_one, [], []⟩
def d_law_mixed : He.DefD := ⟨("_law_mixed", none), "_law_mixed", "_law_mixed", defArgs s_law_mixed, defBody s_law_mixed, defScope s_law_mixed, [], []⟩
def d_law_some : He.DefD := ⟨("_law_some", none), "_law_some", "_law_some", defArgs s_law_some, defBody s_law_some, defScope s_law_some, [], []⟩
def d_law_all : He.DefD := ⟨("_law_all", none), "_law_all", "_law_all", defArgs s_law_all, defBody s_law_all, defScope s_law_all, [], []⟩
def d_law_is_within : He.DefD := ⟨("_law_is_within", none), "_law_is_within", "_law_is_within", defArgs s_law_is_within, defBody s_law_is_within, defScope s_law_is_within, [], []⟩
def d_law_cures_all : He.DefD := ⟨("_law_cures_all", none), "_law_cures_all", "_law_cures_all", defArgs s_law_cures_all, defBody s_law_cures_all, defScope s_law_cures_all, [], []⟩
def d_law_is_done : He.DefD := ⟨("_law_is_done", none), "_law_is_done", "_law_is_done", defArgs s_law_is_done, defBody s_law_is_done, defScope s_law_is_done, [], []⟩
def d_law_agree : He.DefD := ⟨("_law_agree", none), "_law_agree", "_law_agree", defArgs s_law_agree, defBody s_law_agree, defScope s_law_agree, [], []⟩
def d_law_is_one_sign : He.DefD := ⟨("_law_is_one_sign", none), "_law_is_one_sign", "_law_is_one_sign", defArgs s_law_is_one_sign, defBody s_law_is_one_sign, defScope s_law_is_one_sign, [], []⟩
def d_law_parts : He.DefD := ⟨("_law_parts", none), "_law_parts", "_law_parts", defArgs s_law_parts, defBody s_law_parts, defScope s_law_parts, [], []⟩
def d_law_move_of : He.DefD := ⟨("_law_move_of", none), "_law_move_of", "_law_move_of", defArgs s_law_move_of, defBody s_law_move_of, defScope s_law_move_of, [], []⟩
def d_law_bar_of : He.DefD := ⟨("_law_bar_of", none), "_law_bar_of", "_law_bar_of", defArgs s_law_bar_of, defBody s_law_bar_of, defScope s_law_bar_of, [], []⟩
def d_law_next : He.DefD := ⟨("_law_next", none), "_law_next", "_law_next", defArgs s_law_next, defBody s_law_next, defScope s_law_next, [], []⟩
def d_law_joined : He.DefD := ⟨("_law_joined", none), "_law_joined", "_law_joined", defArgs s_law_joined, defBody s_law_joined, defScope s_law_joined, [], []⟩
def d_law_paths : He.DefD := ⟨("_law_paths", none), "_law_paths", "_law_paths", defArgs s_law_paths, defBody s_law_paths, defScope s_law_paths, [], []⟩
def d_law_is_stuck_lot : He.DefD := ⟨("_law_is_stuck_lot", none), "_law_is_stuck_lot", "_law_is_stuck_lot", defArgs s_law_is_stuck_lot, defBody s_law_is_stuck_lot, defScope s_law_is_stuck_lot, [], []⟩
def d_law_is_led : He.DefD := ⟨("_law_is_led", none), "_law_is_led", "_law_is_led", defArgs s_law_is_led, defBody s_law_is_led, defScope s_law_is_led, [], []⟩
def d_law_came_by : He.DefD := ⟨("_law_came_by", none), "_law_came_by", "_law_came_by", defArgs s_law_came_by, defBody s_law_came_by, defScope s_law_came_by, [], []⟩
def d_law_cures_each : He.DefD := ⟨("_law_cures_each", none), "_law_cures_each", "_law_cures_each", defArgs s_law_cures_each, defBody s_law_cures_each, defScope s_law_cures_each, [], []⟩
def d_law_joined_moves : He.DefD := ⟨("_law_joined_moves", none), "_law_joined_moves", "_law_joined_moves", defArgs s_law_joined_moves, defBody s_law_joined_moves, defScope s_law_joined_moves, [], []⟩
def d_law_signs : He.DefD := ⟨("_law_signs", none), "_law_signs", "_law_signs", defArgs s_law_signs, defBody s_law_signs, defScope s_law_signs, [], []⟩
def d_law_cures : He.DefD := ⟨("_law_cures", none), "_law_cures", "_law_cures", defArgs s_law_cures, defBody s_law_cures, defScope s_law_cures, [], []⟩
def d_law_rig : He.DefD := ⟨("_law_rig", none), "_law_rig", "_law_rig", defArgs s_law_rig, defBody s_law_rig, defScope s_law_rig, [], []⟩
def d_law_bar : He.DefD := ⟨("_law_bar", none), "_law_bar", "_law_bar", defArgs s_law_bar, defBody s_law_bar, defScope s_law_bar, [], []⟩
def d_law_bars : He.DefD := ⟨("_law_bars", none), "_law_bars", "_law_bars", defArgs s_law_bars, defBody s_law_bars, defScope s_law_bars, [], []⟩
def d_law_drawn_book : He.DefD := ⟨("_law_drawn_book", none), "_law_drawn_book", "_law_drawn_book", defArgs s_law_drawn_book, defBody s_law_drawn_book, defScope s_law_drawn_book, [], []⟩
def d_law_plan : He.DefD := ⟨("_law_plan", none), "_law_plan", "_law_plan", defArgs s_law_plan, defBody s_law_plan, defScope s_law_plan, [], []⟩
def d_law_planted_book : He.DefD := ⟨("_law_planted_book", none), "_law_planted_book", "_law_planted_book", defArgs s_law_planted_book, defBody s_law_planted_book, defScope s_law_planted_book, [], []⟩
def d_law_some_book : He.DefD := ⟨("_law_some_book", none), "_law_some_book", "_law_some_book", defArgs s_law_some_book, defBody s_law_some_book, defScope s_law_some_book, [], []⟩
def d_law_with_one_bar : He.DefD := ⟨("_law_with_one_bar", none), "_law_with_one_bar", "_law_with_one_bar", defArgs s_law_with_one_bar, defBody s_law_with_one_bar, defScope s_law_with_one_bar, [], []⟩
def d_law_game_from : He.DefD := ⟨("_law_game_from", none), "_law_game_from", "_law_game_from", defArgs s_law_game_from, defBody s_law_game_from, defScope s_law_game_from, [], []⟩
def d_law_start_right : He.DefD := ⟨("_law_start_right", none), "_law_start_right", "_law_start_right", defArgs s_law_start_right, defBody s_law_start_right, defScope s_law_start_right, [], []⟩
def d_law : He.DefD := ⟨("law", none), "law", "law", defArgs s_law, defBody s_law, defScope s_law, [], []⟩
def d_Rows_init : He.DefD := ⟨("Rows", some "__init__"), "__init__", "Rows.__init__", defArgs s_Rows_init, defBody s_Rows_init, defScope s_Rows_init, [], []⟩
def d_Rows_number : He.DefD := ⟨("Rows", some "number"), "number", "Rows.number", defArgs s_Rows_number, defBody s_Rows_number, defScope s_Rows_number, [], []⟩
def fn : List He.DefD := [d_is_whole, d_is_between, d_is_below, d_is_ascending, d_is_tuple_of, d_first_of, d_wrong_in, d_is_signs, d_is_move, d_wrong_move, d_wrong_part, d_made_rig, d_is_rig, d_is_setting, d_neighbours_of, d_is_lot, d_every_fault, d_cures_of, d_is_done, d_agreeing_in, d_signs_in, d_has_one_sign, d_parts_at, d_is_within, d_is_bar, d_are_bars, d_wrong_bars, d_made_book, d_is_book, d_bar_at, d_is_free, d_free_neighbours, d_distances, d_region_of, d_way_of, d_home_of, d_is_start, d_want_start, d_made_start, d_end_of, d_joined, d_flat, d_coded, d_nearest, d_look_from, d_tree_from, d_code_from, d_code_for, d_can_end, d_solvable, d_closed, d_tells_nothing, d_is_bare_lot, d_stuck_right, d_stuck_from, d_stuck, d_law_pool, d_law_take, d_law_one, d_law_mixed, d_law_some, d_law_all, d_law_is_within, d_law_cures_all, d_law_is_done, d_law_agree, d_law_is_one_sign, d_law_parts, d_law_move_of, d_law_bar_of, d_law_next, d_law_joined, d_law_paths, d_law_is_stuck_lot, d_law_is_led, d_law_came_by, d_law_cures_each, d_law_joined_moves, d_law_signs, d_law_cures, d_law_rig, d_law_bar, d_law_bars, d_law_drawn_book, d_law_plan, d_law_planted_book, d_law_some_book, d_law_with_one_bar, d_law_game_from, d_law_start_right, d_law, d_Rows_init, d_Rows_number]
/-- what the module holds -/
structure Zp (K : PySem.W.Frag) (mg : Str → Option Value) (base : Heap) (T : Tb) : Prop where
  df : ∀ (i : Nat) (d : He.DefD), fn[i]? = some d → d.at_.2 = none → (∃ fd, FunD K d.name d.qual d.params d.body d.scope [] [] (He.fAd K d.at_) fd) ∧ mg d.name = some (.ref (He.fAd K d.at_))
  dm : ∀ (i : Nat) (d : He.DefD), fn[i]? = some d → ∃ fd, FunD K d.name d.qual d.params d.body d.scope [] [] (He.fAd K d.at_) fd
  isinstance : mg "isinstance" = none
  int : mg "int" = none
  bool : mg "bool" = none
  tuple : mg "tuple" = none
  len : mg "len" = none
  all : mg "all" = none
  range : mg "range" = none
  enumerate : mg "enumerate" = none
  sum : mg "sum" = none
  sorted : mg "sorted" = none
  list : mg "list" = none
  min : mg "min" = none
  max : mg "max" = none
  repr : mg "repr" = none
  MOST_FAULTS : ∃ t, mg "MOST_FAULTS" = some (.int 24 t)
  MOST_REMEDIES : ∃ t, mg "MOST_REMEDIES" = some (.int 16 t)
  MOST_SETTINGS : ∃ t, mg "MOST_SETTINGS" = some (.int 40 t)
  MOST_SIGN : ∃ t, mg "MOST_SIGN" = some (.int 9 t)
  MOST_MOVES : ∃ t, mg "MOST_MOVES" = some (.int 200 t)
  HOME : ∃ t, mg "HOME" = some (.int 0 t)
  MOST_BARS : ∃ t, mg "MOST_BARS" = some (.int 200 t)
  MOST_IN_BAR : ∃ t, mg "MOST_IN_BAR" = some (.int 3 t)
  rows : mg "Rows" = some (.ref (He.ga K "Rows"))
  rcls : Cls K (He.ga K "Rows")
  rmk : Mk K (He.ga K "Rows") (He.ma K (He.ga K "Rows") "__init__")
  rmeth : Meth K (He.ga K "Rows") "number" (He.ma K (He.ga K "Rows") "number")
  rnoat : NoAttr K (He.ga K "Rows") "rows"
  tb : LamX.TabB base mg (He.cT K ("wrong_part", none)).1 (He.cT K ("wrong_part", none)).2
  tT : T = [((He.cT K ("wrong_part", none)).2, ("wrong_part.<locals>.<lambda>" : Str))]
end Wr
set_option maxHeartbeats 2000000
/-! Rigs and books as plain data, and what the program makes of them. -/
namespace Wr
open PySem PySem.Spec PyProof.Rows L2 Dl

structure Rig where
  n : Nat
  q : Nat
  cures : List (List Nat)
  signs : List (List Nat)
  moves : List (Nat × Nat)
structure Book where
  rig : Rig
  bars : List (List (List Nat))
abbrev natD (k : Nat) : Da := .int (k : Int)
def natsD (l : List Nat) : Da := .tup (l.map natD)
def pairD (p : Nat × Nat) : Da := .tup [natD p.1, natD p.2]
def rigD (r : Rig) : Da := .tup [natD r.n, natD r.q, .tup (r.cures.map natsD), .tup (r.signs.map natsD), .tupN (r.moves.map pairD)]
def barsD (bs : List (List Nat)) : Da := .tup (bs.map natsD)
def bookD (b : Book) : Da := .tup [rigD b.rig, .tup (b.bars.map barsD)]
def startDa (lot : List Nat) (g : Nat) : Da := .tup [natsD lot, natD g]
def Asc (l : List Nat) : Prop := l.Pairwise (· < ·)
def Rig.m (r : Rig) : Nat := r.signs.length
/-- what a setting shows under a fault -/
def Rig.sg (r : Rig) (g x : Nat) : Nat := (r.signs.getD g []).getD x 0
def Rig.cu (r : Rig) (x : Nat) : List Nat := r.cures.getD x []
def natLt (l m : List Nat) : Prop := HT.lexLt (l.map Int.ofNat) (m.map Int.ofNat) = true
structure Rig.Ok (r : Rig) : Prop where
  n1 : 1 ≤ r.n
  n2 : r.n ≤ 4
  q1 : 1 ≤ r.q
  q2 : r.q ≤ 16
  cl : r.cures.length = r.n
  ca : ∀ c ∈ r.cures, Asc c ∧ ∀ x ∈ c, x < r.q
  m1 : 1 ≤ r.m
  m2 : r.m ≤ 4
  sl : ∀ s ∈ r.signs, s.length = r.n ∧ ∀ x ∈ s, x ≤ 9
  ma : ∀ p ∈ r.moves, p.1 < p.2 ∧ p.2 < r.m
  ms : r.moves.Pairwise fun p q => p.1 < q.1 ∨ (p.1 = q.1 ∧ p.2 < q.2)
  ml : r.moves.length ≤ 6
def LotOk (r : Rig) (l : List Nat) : Prop := Asc l ∧ ∀ x ∈ l, x < r.n
structure Book.Ok (b : Book) : Prop where
  rig : b.rig.Ok
  len : b.bars.length = b.rig.moves.length
  lots : ∀ bs ∈ b.bars, bs.length ≤ 10 ∧ (∀ l ∈ bs, LotOk b.rig l ∧ 1 ≤ l.length ∧ l.length ≤ 3) ∧ bs.Pairwise natLt
theorem asc_len {l : List Nat} {b : Nat} (h : Asc l) (hb : ∀ x ∈ l, x < b) : l.length ≤ b := by
  have key : ∀ (l : List Nat) (a b : Nat), Asc l → (∀ x ∈ l, a ≤ x ∧ x < b) → l.length ≤ b - a := by
    intro l
    induction l with
    | nil => intro a b _ _; exact Nat.zero_le _
    | cons x l ih =>
      intro a b h hb
      obtain ⟨h1, h2⟩ := List.pairwise_cons.mp h
      have hx := hb x List.mem_cons_self
      have q := ih (x + 1) b h2 fun y hy => ⟨h1 y hy, (hb y (List.mem_cons_of_mem _ hy)).2⟩
      rw [List.length_cons]
      omega
  exact key l 0 b h fun x hx => ⟨Nat.zero_le _, hb x hx⟩
theorem LotOk.len {r : Rig} {l : List Nat} (o : r.Ok) (h : LotOk r l) : l.length ≤ 4 := Nat.le_trans (asc_len h.1 h.2) o.n2
section
variable {r : Rig} {b : Book}
theorem Rig.Ok.sign (o : r.Ok) {g x : Nat} (hg : g < r.m) (hx : x < r.n) : ∃ row, r.signs[g]? = some row ∧ row[x]? = some (r.sg g x) := by
  have hg' : g < r.signs.length := hg
  refine ⟨r.signs[g], List.getElem?_eq_getElem hg', ?_⟩
  have hl := (o.sl _ (List.getElem_mem hg')).1
  have e : r.signs.getD g [] = r.signs[g] := by rw [List.getD_eq_getElem?_getD, List.getElem?_eq_getElem hg']; rfl
  unfold Rig.sg
  rw [e, List.getD_eq_getElem?_getD, List.getElem?_eq_getElem (by omega)]
  rfl
theorem Rig.Ok.sg9 (o : r.Ok) {g x : Nat} (hg : g < r.m) (hx : x < r.n) : r.sg g x ≤ 9 := by
  obtain ⟨row, h1, h2⟩ := o.sign hg hx
  exact (o.sl row (List.mem_of_getElem? h1)).2 _ (List.mem_of_getElem? h2)
theorem Rig.Ok.cure (o : r.Ok) {x : Nat} (hx : x < r.n) : r.cures[x]? = some (r.cu x) := by
  have hx' : x < r.cures.length := by rw [o.cl]; exact hx
  unfold Rig.cu
  rw [List.getD_eq_getElem?_getD, List.getElem?_eq_getElem hx']
  rfl
end

/-! ### reading -/
theorem ix_map {α : Type} {enc : α → Da} {l : List α} {i : Nat} {x : α} (h : l[i]? = some x) : atI (l.map enc) ((i : Nat) : Int) = some (enc x) := atI_nat (by rw [List.getElem?_map, h]; rfl)
section
variable {ρ : Rho} {ω : Om} {R : Da → Om → Prop}
theorem rd_ix {wa wb : WE} {d : Da} {l : List Da} {i : Int} {x : Da} (ha : ∀ Q : Da → Om → Prop, Q d ω → wa ρ ω Q) (hb : ∀ Q : Da → Om → Prop, Q (.int i) ω → wb ρ ω Q) (hl : seqOf ω d = some l) (hx : atI l i = some x) (q : R x ω) : w2 fIx wa wb ρ ω R :=
  ha _ (hb _ ⟨l, i, x, hl, rfl, hx, q⟩)
/-- rig[3][g][x] -/
theorem rd_sign {wr wg wx : WE} {r : Rig} {g x : Nat} (o : r.Ok) (hr : ∀ Q : Da → Om → Prop, Q (rigD r) ω → wr ρ ω Q) (hg : ∀ Q : Da → Om → Prop, Q (natD g) ω → wg ρ ω Q) (hx : ∀ Q : Da → Om → Prop, Q (natD x) ω → wx ρ ω Q) (h1 : g < r.m) (h2 : x < r.n) (q : R (natD (r.sg g x)) ω) :
    w2 fIx (w2 fIx (w2 fIx wr (wC (.int 3))) wg) wx ρ ω R := by
  obtain ⟨row, e1, e2⟩ := o.sign h1 h2
  refine hr _ ⟨_, 3, _, rfl, rfl, rfl, hg _ ⟨_, _, _, rfl, rfl, ix_map e1, hx _ ⟨_, _, _, rfl, rfl, ix_map e2, q⟩⟩⟩
theorem rd_var {i : Nat} {d : Da} (h : ρ[i]? = some (some d)) (Q : Da → Om → Prop) (q : Q d ω) : wVar i ρ ω Q := ⟨d, h, q⟩
end

/-! ### comprehensions over encoded lists -/
section
variable {α : Type} {g : WG} {u : WT} {w : WE} {vs : List Nat} {ρ : Rho} {ω1 : Om} {R : Da → Om → Prop}
theorem lc_on (l : List α) (enc : α → Da) (F : α → Option Da) (hl : l.length ≤ 90000)
    (turn : ∀ x ω' (Q1 : Da → Om → Prop) (Q2 : Om → Prop), x ∈ l → Sub ω1 ω' → (∀ e, F x = some e → Q1 e ω') → (F x = none → Q2 ω') → g (enc x) (wipeR ρ vs) fun ρ2 => u ρ2 ω' fun b ω3 => if b = true then w ρ2 ω3 Q1 else Q2 ω3)
    (fin : R (.lst (l.filterMap F)) ω1) : LcB g u w vs ρ (l.map enc) ω1 (FzK R) := by
  refine lc_rel' (fun i acc => acc = (l.take i).filterMap F) (by rw [List.length_map]; exact hl) (by rw [List.take_zero]; rfl) (fun i d acc ω' Q1 Q2 hd hP hs h1 h2 => ?_) fun acc _ hP => ?_
  · rw [List.getElem?_map] at hd
    cases e : l[i]? with
    | none => rw [e] at hd; cases hd
    | some x =>
      rw [e] at hd
      have hd' : enc x = d := Option.some.inj hd
      subst hd'
      exact turn x ω' Q1 Q2 (List.mem_of_getElem? e) hs (fun v hv => h1 v (by rw [hP, take_next' e, List.filterMap_append]; simp [hv])) (fun hv => h2 (by rw [hP, take_next' e, List.filterMap_append]; simp [hv]))
  · rw [List.length_map, List.take_length] at hP
    rw [hP]; exact fin
theorem lcN_on (l : List α) (enc : α → Da) (F : α → Option Da) (hl : l.length ≤ 90000)
    (turn : ∀ x ω' (Q1 : Da → Om → Prop) (Q2 : Om → Prop), x ∈ l → Sub ω1 ω' → (∀ e, F x = some e → Q1 e ω') → (F x = none → Q2 ω') → g (enc x) (wipeR ρ vs) fun ρ2 => u ρ2 ω' fun b ω3 => if b = true then w ρ2 ω3 Q1 else Q2 ω3)
    (fin : ∀ p, ω1 p = none → R (.ptr p) (ω1.set p (.lst (l.filterMap F)))) : LcB g u w vs ρ (l.map enc) ω1 R := by
  refine lcN_rel (fun i acc => acc = (l.take i).filterMap F) (by rw [List.length_map]; exact hl) (by rw [List.take_zero]; rfl) (fun i d acc ω' Q1 Q2 hd hP hs h1 h2 => ?_) fun acc p _ hP hp => ?_
  · rw [List.getElem?_map] at hd
    cases e : l[i]? with
    | none => rw [e] at hd; cases hd
    | some x =>
      rw [e] at hd
      have hd' : enc x = d := Option.some.inj hd
      subst hd'
      exact turn x ω' Q1 Q2 (List.mem_of_getElem? e) hs (fun v hv => h1 v (by rw [hP, take_next' e, List.filterMap_append]; simp [hv])) (fun hv => h2 (by rw [hP, take_next' e, List.filterMap_append]; simp [hv]))
  · rw [List.length_map, List.take_length] at hP
    rw [hP]; exact fin p hp
theorem fm_map {β : Type} (l : List α) (f : α → β) : l.filterMap (fun x => some (f x)) = l.map f := by
  rw [← List.filterMap_eq_map]; rfl
/-- no test -/
theorem lc_map (l : List α) (enc : α → Da) (f : α → Da) (hl : l.length ≤ 90000)
    (turn : ∀ x ω' (Q1 : Da → Om → Prop) (Q2 : Om → Prop), x ∈ l → Sub ω1 ω' → Q1 (f x) ω' → g (enc x) (wipeR ρ vs) fun ρ2 => u ρ2 ω' fun b ω3 => if b = true then w ρ2 ω3 Q1 else Q2 ω3)
    (fin : R (.lst (l.map f)) ω1) : LcB g u w vs ρ (l.map enc) ω1 (FzK R) :=
  lc_on l enc (fun x => some (f x)) hl (fun x ω' Q1 Q2 hx hs h1 h2 => turn x ω' Q1 Q2 hx hs (h1 _ rfl)) (by rw [fm_map]; exact fin)
theorem fm_ite (p : α → Bool) (enc : α → Da) : ∀ m : List α, m.filterMap (fun x => if p x = true then some (enc x) else none) = (m.filter p).map enc
  | [] => rfl
  | y :: m => by
    rw [List.filterMap_cons, List.filter_cons, fm_ite p enc m]
    cases p y with
    | true => rfl
    | false => rfl
/-- the items that pass a test -/
theorem lc_filter (l : List α) (enc : α → Da) (p : α → Bool) (hl : l.length ≤ 90000)
    (turn : ∀ x ω' (Q1 : Da → Om → Prop) (Q2 : Om → Prop), x ∈ l → Sub ω1 ω' → (p x = true → Q1 (enc x) ω') → (p x = false → Q2 ω') → g (enc x) (wipeR ρ vs) fun ρ2 => u ρ2 ω' fun b ω3 => if b = true then w ρ2 ω3 Q1 else Q2 ω3)
    (fin : R (.lst ((l.filter p).map enc)) ω1) : LcB g u w vs ρ (l.map enc) ω1 (FzK R) :=
  lc_on l enc (fun x => if p x = true then some (enc x) else none) hl (fun x ω' Q1 Q2 hx hs h1 h2 => turn x ω' Q1 Q2 hx hs (fun e => h1 _ (by rw [if_pos e])) (fun e => h2 (by rw [if_neg (by rw [e]; decide)]))) (by rw [fm_ite]; exact fin)
theorem rgD_nat (n : Nat) : rgD 0 n = (List.range n).map natD := by
  unfold rgD
  exact List.map_congr_left fun i _ => by show Da.int (0 + (i : Int)) = _; rw [Int.zero_add]
end
end Wr
set_option maxHeartbeats 2000000
/-! Clean data, their equality; helps for readings. -/
namespace Wr
open PySem PySem.Spec PyProof.Rows L2 Dl
theorem clAll_map {α : Type} {enc : α → Da} : ∀ {l : List α}, (∀ x ∈ l, (enc x).cl = true) → clAll (l.map enc) = true
  | [], _ => rfl
  | x :: l, h => by
    show ((enc x).cl && clAll (l.map enc)) = true
    rw [h x List.mem_cons_self, clAll_map fun y hy => h y (List.mem_cons_of_mem _ hy)]
    rfl
theorem depAll_map {α : Type} {enc : α → Da} {n : Nat} : ∀ {l : List α}, (∀ x ∈ l, (enc x).dep ≤ n) → depAll (l.map enc) ≤ n
  | [], _ => Nat.zero_le _
  | x :: l, h => by
    show max (enc x).dep (depAll (l.map enc)) ≤ n
    exact Nat.max_le.mpr ⟨h x List.mem_cons_self, depAll_map fun y hy => h y (List.mem_cons_of_mem _ hy)⟩
theorem cl_nats (l : List Nat) : (natsD l).cl = true := clAll_map fun _ _ => rfl
theorem dep_nats (l : List Nat) : (natsD l).dep ≤ 1 := Nat.succ_le_succ (depAll_map fun _ _ => Nat.le_refl _)
theorem cl_natss (l : List (List Nat)) : clAll (l.map natsD) = true := clAll_map fun _ _ => cl_nats _
theorem cl_natm (l : List Nat) : clAll (l.map natD) = true := clAll_map fun _ _ => rfl
theorem map_inj {α : Type} {enc : α → Da} (h : ∀ x y, enc x = enc y → x = y) : ∀ {l m : List α}, l.map enc = m.map enc → l = m
  | [], [], _ => rfl
  | [], _ :: _, e => by cases e
  | _ :: _, [], e => by cases e
  | x :: l, y :: m, e => by
    rw [List.map_cons, List.map_cons] at e
    obtain ⟨e1, e2⟩ := List.cons.inj e
    rw [h x y e1, map_inj h e2]
theorem natD_inj {x y : Nat} (h : natD x = natD y) : x = y := Int.ofNat.inj (Da.int.inj h)
theorem natsD_inj {l m : List Nat} (h : natsD l = natsD m) : l = m := map_inj (fun _ _ => natD_inj) (Da.tup.inj h)
theorem pairD_inj {p q : Nat × Nat} (h : pairD p = pairD q) : p = q := by
  have e := Da.tup.inj h
  injection e with e1 e2
  injection e2 with e2 _
  exact Prod.ext (natD_inj e1) (natD_inj e2)
theorem map_mem_inj {α : Type} {enc : α → Da} (h : ∀ x y, enc x = enc y → x = y) {l : List α} {x : α} : enc x ∈ l.map enc ↔ x ∈ l := by
  rw [List.mem_map]
  exact ⟨fun ⟨y, a, e⟩ => h _ _ e ▸ a, fun a => ⟨x, a, rfl⟩⟩
theorem pair_cl (p : Nat × Nat) : (pairD p).cl = true := rfl
theorem pair_dep (p : Nat × Nat) : (pairD p).dep ≤ 1 := Nat.le_refl 1
section
variable {ω : Om} {R : Da → Om → Prop} {d e : Da} {l : List Da} {p : Addr}
theorem lst_ptr (h : ω p = some (.lst l)) : lstOf ω (.ptr p) = some l := by unfold lstOf; simp only [h]
theorem seq_ptr (h : ω p = some (.lst l)) : seqOf ω (.ptr p) = some l := by unfold seqOf; simp only [h]
theorem res_ptr (h : ω p = some (.lst l)) : res ω (.ptr p) = .lst l := by unfold res; simp only [h]
theorem bool_of {b : Bool} {P : Prop} [Decidable P] (h : b = true ↔ P) : b = decide P := by
  by_cases q : P
  · rw [h.mpr q, decide_eq_true q]
  · rw [decide_eq_false q]
    cases b with
    | true => exact (q (h.mp rfl)).elim
    | false => rfl
theorem do_eq {P : Prop} [Decidable P] (h1 : (res ω d).cl = true) (h2 : (res ω e).cl = true) (h3 : (res ω d).dep ≤ 60) (h : (res ω d = res ω e) ↔ P) (q : R (.bl (decide P)) ω) : fEq d e ω R :=
  ⟨h1, h2, h3, fun b hb => by rw [bool_of (hb.trans h)]; exact q⟩
theorem do_ne {P : Prop} [Decidable P] (h1 : (res ω d).cl = true) (h2 : (res ω e).cl = true) (h3 : (res ω d).dep ≤ 60) (h : (res ω d = res ω e) ↔ P) (q : R (.bl (!decide P)) ω) : fNe d e ω R :=
  ⟨h1, h2, h3, fun b hb => by
    have e : b = decide ¬ P := bool_of (hb.trans (not_congr h))
    rw [e, decide_not]; exact q⟩
theorem do_in {P : Prop} [Decidable P] (hl : seqOf ω e = some l) (h1 : (res ω d).cl = true) (h2 : clAll l = true) (h3 : (res ω d).dep ≤ 60) (h : res ω d ∈ l ↔ P) (q : R (.bl (decide P)) ω) : fIn false d e ω R :=
  ⟨l, hl, h1, h2, h3, fun b hb => by
    rw [if_neg (by decide)] at hb
    rw [bool_of (hb.trans h)]; exact q⟩
theorem do_nin {P : Prop} [Decidable P] (hl : seqOf ω e = some l) (h1 : (res ω d).cl = true) (h2 : clAll l = true) (h3 : (res ω d).dep ≤ 60) (h : res ω d ∈ l ↔ P) (q : R (.bl (!decide P)) ω) : fIn true d e ω R :=
  ⟨l, hl, h1, h2, h3, fun b hb => by
    rw [if_pos rfl] at hb
    have e : b = decide ¬ P := bool_of (hb.trans (not_congr h))
    rw [e, decide_not]; exact q⟩
theorem eq_nat {x y : Nat} (q : R (.bl (decide (x = y))) ω) : fEq (natD x) (natD y) ω R := do_eq rfl rfl (Nat.zero_le _) ⟨natD_inj, fun e => by rw [e]⟩ q
theorem ne_nat {x y : Nat} (q : R (.bl (!decide (x = y))) ω) : fNe (natD x) (natD y) ω R := do_ne rfl rfl (Nat.zero_le _) ⟨natD_inj, fun e => by rw [e]⟩ q
theorem eq_nats {x y : List Nat} (q : R (.bl (decide (x = y))) ω) : fEq (natsD x) (natsD y) ω R := do_eq (cl_nats _) (cl_nats _) (Nat.le_trans (dep_nats _) (by decide)) ⟨natsD_inj, fun e => by rw [show x = y from e]⟩ q
theorem ne_nats {x y : List Nat} (q : R (.bl (!decide (x = y))) ω) : fNe (natsD x) (natsD y) ω R := do_ne (cl_nats _) (cl_nats _) (Nat.le_trans (dep_nats _) (by decide)) ⟨natsD_inj, fun e => by rw [show x = y from e]⟩ q
theorem in_natm {x : Nat} {m : List Nat} (hl : seqOf ω e = some (m.map natD)) (q : R (.bl (decide (x ∈ m))) ω) : fIn false (natD x) e ω R := do_in hl rfl (cl_natm _) (Nat.zero_le _) (map_mem_inj fun _ _ => natD_inj) q
theorem nin_natm {x : Nat} {m : List Nat} (hl : seqOf ω e = some (m.map natD)) (q : R (.bl (!decide (x ∈ m))) ω) : fIn true (natD x) e ω R := do_nin hl rfl (cl_natm _) (Nat.zero_le _) (map_mem_inj fun _ _ => natD_inj) q
theorem in_nats {x : Nat} {m : List Nat} (q : R (.bl (decide (x ∈ m))) ω) : fIn false (natD x) (natsD m) ω R := in_natm rfl q
theorem nin_nats {x : Nat} {m : List Nat} (q : R (.bl (!decide (x ∈ m))) ω) : fIn true (natD x) (natsD m) ω R := nin_natm rfl q
theorem nil_iff {α : Type} {enc : α → Da} {m : List α} : (res ω (.lst (m.map enc)) = res ω (.lst [])) ↔ m = [] := by
  constructor
  · intro e
    cases m with
    | nil => rfl
    | cons x m => exact nomatch Da.lst.inj e
  · intro e; rw [e]; rfl
/-- a list of encoded things against [] -/
theorem eq_nil {α : Type} {enc : α → Da} {m : List α} (h1 : clAll (m.map enc) = true) (h2 : depAll (m.map enc) ≤ 50) (q : R (.bl (decide (m = []))) ω) : fEq (.lst (m.map enc)) (.lst []) ω R := by
  have : (Da.lst (m.map enc)).dep ≤ 60 := Nat.le_trans (Nat.succ_le_succ h2) (by decide)
  exact do_eq h1 rfl this nil_iff q
theorem ne_nil {α : Type} {enc : α → Da} {m : List α} (h1 : clAll (m.map enc) = true) (h2 : depAll (m.map enc) ≤ 50) (q : R (.bl (!decide (m = []))) ω) : fNe (.lst (m.map enc)) (.lst []) ω R := by
  have : (Da.lst (m.map enc)).dep ≤ 60 := Nat.le_trans (Nat.succ_le_succ h2) (by decide)
  exact do_ne h1 rfl this nil_iff q
theorem dep_natm (m : List Nat) : depAll (m.map natD) ≤ 50 := depAll_map fun _ _ => Nat.zero_le _
theorem dep_natss (m : List (List Nat)) : depAll (m.map natsD) ≤ 50 := depAll_map fun _ _ => Nat.le_trans (dep_nats _) (by decide)
theorem eq_nilt {m : List Nat} (q : R (.bl (decide (m = []))) ω) : fEq (natsD m) (.tup []) ω R := eq_nats (y := []) q
theorem ne_nilt {m : List Nat} (q : R (.bl (!decide (m = []))) ω) : fNe (natsD m) (.tup []) ω R := ne_nats (y := []) q
end
/-! lists of truths -/
theorem all_bl {α : Type} (l : List α) (p : α → Bool) : (l.map fun x => Da.bl (p x)) = (l.map p).map Da.bl := by rw [List.map_map]; rfl
theorem all_id {α : Type} (l : List α) (p : α → Bool) : (l.map p).all id = l.all p := by rw [List.all_map]; rfl
/-- all([..]) over an encoded list -/
theorem do_all {α : Type} {ω : Om} {R : Da → Om → Prop} {d : Da} {l : List α} {p : α → Bool} (h : lstOf ω d = some (l.map fun x => Da.bl (p x))) (q : R (.bl (l.all p)) ω) : fAll [d] ω R := ⟨d, l.map p, rfl, by rw [h, all_bl], by rw [all_id]; exact q⟩
theorem all_on {α : Type} {l : List α} {p : α → Bool} (h : ∀ x ∈ l, p x = true) : l.all p = true := List.all_eq_true.mpr h
end Wr
set_option maxHeartbeats 2000000
/-! Numbers and forms: the first judges. -/
namespace Wr
open PySem PySem.Spec PyProof.Rows L2 Dl
local macro_rules
  | `(tactic| walk_at "len") => `(tactic| (intro ds ω R h; repeat (first | (obtain ⟨e, _⟩ := h; subst e; rfl) | (obtain ⟨_, h⟩ := h))))
  | `(tactic| walk_at "st1") => `(tactic| first
    | apply Exists.intro
    | refine And.intro rfl ?_ | refine iteT ?_ | refine iteF ?_
    | refine And.intro (lst_ptr (by assumption)) ?_ | refine And.intro (seq_ptr (by assumption)) ?_ | refine And.intro (dct_ptr (by assumption)) ?_
    | refine And.intro (lst_ptr Om.set_same) ?_ | refine And.intro (seq_ptr Om.set_same) ?_ | refine And.intro Om.set_same ?_
    | refine And.intro ⟨_, lst_ptr (by assumption)⟩ ?_ | refine And.intro ⟨_, lst_ptr Om.set_same⟩ ?_ | refine And.intro ⟨_, rfl⟩ ?_ | refine And.intro ⟨_, lst_ptr ((Om.set_ne (by assumption)).trans (by assumption))⟩ ?_
    | refine And.intro ((Om.set_ne (by assumption)).trans (by assumption)) ?_ | refine And.intro (lst_ptr ((Om.set_ne (by assumption)).trans (by assumption))) ?_
    | refine And.intro (by assumption) ?_ | refine And.intro (ix_map (by assumption)) ?_
    | refine And.intro (by omega) ?_
    | refine do_all (by rfl) ?_ | refine eq_nat ?_ | refine ne_nat ?_ | refine eq_nats ?_ | refine ne_nats ?_ | refine in_nats ?_ | refine nin_nats ?_)
  | `(tactic| walk_at "st") => `(tactic| repeat walk_at "st1")
section
variable {P : Program} {wo : World} {K : PySem.W.Frag} {mg : Str → Option Value} {base : Heap} {T : Tb}
def sp_is_whole : Dsp := fun ds ω R => ∃ i, ds = [.int i] ∧ R (.bl true) ω
theorem sc_is_whole : FnScope ["thing"] ["thing"] (defScope s_is_whole) := ⟨rfl, rfl, rfl, by decide +kernel, rfl, by decide +kernel, by decide +kernel⟩
theorem D_is_whole (Z : Zp K mg base T) : Df P wo K mg base T "is_whole" 1 sp_is_whole := by
  obtain ⟨⟨fd, F⟩, hm⟩ := Z.df 0 d_is_whole rfl rfl
  refine def_ok F sc_is_whole hm (fun _ _ _ _ _ _ us hl => match us, hl with | [_], _ => rfl) (by walk_at "len") fun cdv A outer st H E hr => ?_
  have nd := sc_is_whole.nd
  refine ⟨_, (ss1 (sret (xand (xisi Z.isinstance Z.int PyProof.Rows.boot_int (xv 0)) (xone (xnot (xisi Z.isinstance Z.bool PyProof.Rows.boot_bool (xv 0))))))), fun ds ω R h => ?_⟩
  obtain ⟨i, rfl, q⟩ := h
  walk_at "st"
  exact q
def sp_is_between : Dsp := fun ds ω R => ∃ i a b, ds = [.int i, .int a, .int b] ∧ R (.bl (decide (a ≤ i) && decide (i ≤ b))) ω
theorem sc_is_between : FnScope ["thing", "least", "most"] ["thing", "least", "most"] (defScope s_is_between) := ⟨rfl, rfl, rfl, by decide +kernel, rfl, by decide +kernel, by decide +kernel⟩
theorem D_is_between (Z : Zp K mg base T) : Df P wo K mg base T "is_between" 2 sp_is_between := by
  obtain ⟨⟨fd, F⟩, hm⟩ := Z.df 1 d_is_between rfl rfl
  have D_is_whole := D_is_whole (P := P) (wo := wo) Z
  refine def_ok F sc_is_between hm (fun _ _ _ _ _ _ us hl => match us, hl with | [_, _, _], _ => rfl) (by walk_at "len") fun cdv A outer st H E hr => ?_
  have nd := sc_is_between.nd
  refine ⟨_, (ss1 (sret (xand (xcall D_is_whole (hr.mono (by first | decide | omega)) (xac (xv 0) xan)) (xone (xlele (xv 1) (xv 0) (xv 2)))))), fun ds ω R h => ?_⟩
  obtain ⟨i, a, b, rfl, q⟩ := h
  walk_at "st"
  cases hk : decide (a ≤ i) with
  | true =>
    rw [hk, Bool.true_and] at q
    walk_at "st"
    exact q
  | false =>
    rw [hk, Bool.false_and] at q
    exact iteF q
def sp_is_below : Dsp := fun ds ω R => ∃ i b, ds = [.int i, .int b] ∧ R (.bl (decide (0 ≤ i) && decide (i ≤ b - 1))) ω
theorem sc_is_below : FnScope ["thing", "bound"] ["thing", "bound"] (defScope s_is_below) := ⟨rfl, rfl, rfl, by decide +kernel, rfl, by decide +kernel, by decide +kernel⟩
theorem D_is_below (Z : Zp K mg base T) : Df P wo K mg base T "is_below" 3 sp_is_below := by
  obtain ⟨⟨fd, F⟩, hm⟩ := Z.df 2 d_is_below rfl rfl
  have D_is_between := D_is_between (P := P) (wo := wo) Z
  refine def_ok F sc_is_below hm (fun _ _ _ _ _ _ us hl => match us, hl with | [_, _], _ => rfl) (by walk_at "len") fun cdv A outer st H E hr => ?_
  have nd := sc_is_below.nd
  refine ⟨_, (ss1 (sret (xcall D_is_between (hr.mono (by first | decide | omega)) (xac (xv 0) (xac xint (xac (xsub (xv 1) xint) xan)))))), fun ds ω R h => ?_⟩
  obtain ⟨i, b, rfl, q⟩ := h
  walk_at "st"
  exact q
def sp_is_tuple_of : Dsp := fun ds ω R => ∃ l a b, ds = [.tup l, .int a, .int b] ∧ R (.bl (decide (a ≤ (l.length : Int)) && decide ((l.length : Int) ≤ b))) ω
theorem sc_is_tuple_of : FnScope ["thing", "least", "most"] ["thing", "least", "most"] (defScope s_is_tuple_of) := ⟨rfl, rfl, rfl, by decide +kernel, rfl, by decide +kernel, by decide +kernel⟩
theorem D_is_tuple_of (Z : Zp K mg base T) : Df P wo K mg base T "is_tuple_of" 1 sp_is_tuple_of := by
  obtain ⟨⟨fd, F⟩, hm⟩ := Z.df 4 d_is_tuple_of rfl rfl
  refine def_ok F sc_is_tuple_of hm (fun _ _ _ _ _ _ us hl => match us, hl with | [_, _, _], _ => rfl) (by walk_at "len") fun cdv A outer st H E hr => ?_
  have nd := sc_is_tuple_of.nd
  refine ⟨_, (ss1 (sret (xand (xisi Z.isinstance Z.tuple PyProof.Rows.boot_tuple (xv 0)) (xone (xlele (xv 1) (xbi (bi_len Z.len) (xac (xv 0) xan)) (xv 2)))))), fun ds ω R h => ?_⟩
  obtain ⟨l, a, b, rfl, q⟩ := h
  walk_at "st"
  cases hk : decide (a ≤ (l.length : Int)) with
  | true =>
    rw [hk, Bool.true_and] at q
    walk_at "st"
    exact q
  | false =>
    rw [hk, Bool.false_and] at q
    exact iteF q
theorem asc_get {l : List Nat} (h : Asc l) {i : Nat} {x y : Nat} (h1 : l[i]? = some x) (h2 : l[i + 1]? = some y) : x < y := by
  obtain ⟨a, e⟩ := List.getElem?_eq_some_iff.mp h1
  obtain ⟨b, f⟩ := List.getElem?_eq_some_iff.mp h2
  rw [← e, ← f]
  exact List.pairwise_iff_getElem.mp h i (i + 1) a b (Nat.lt_succ_self i)
/-- items at neighbouring places -/
theorem near_ix {α : Type} {enc : α → Da} {l : List α} {i : Nat} (h : i < l.length - 1) : ∃ x y, l[i]? = some x ∧ l[i + 1]? = some y ∧ atI (l.map enc) (1 + (i : Int) - 1) = some (enc x) ∧ atI (l.map enc) (1 + (i : Int)) = some (enc y) := by
  have h1 : i < l.length := by omega
  have h2 : i + 1 < l.length := by omega
  refine ⟨l[i], l[i + 1], List.getElem?_eq_getElem h1, List.getElem?_eq_getElem h2, ?_, ?_⟩
  · rw [show (1 + (i : Int) - 1) = ((i : Nat) : Int) from by omega]; exact ix_map (List.getElem?_eq_getElem h1)
  · rw [show (1 + (i : Int)) = ((i + 1 : Nat) : Int) from by omega]; exact ix_map (List.getElem?_eq_getElem h2)
theorem rgD_1 (n : Nat) : rgD 1 n = (List.range n).map fun i => .int (1 + ((i : Nat) : Int)) := rfl
def sp_is_ascending : Dsp := fun ds ω R => ∃ (l : List Nat) (b : Nat), ds = [natsD l, natD b] ∧ l.length ≤ 1000 ∧ Asc l ∧ (∀ x ∈ l, x < b) ∧ R (.bl true) ω
theorem sc_is_ascending : FnScope ["thing", "bound", "at", "one"] ["thing", "bound"] (defScope s_is_ascending) := ⟨rfl, rfl, rfl, by decide +kernel, rfl, by decide +kernel, by decide +kernel⟩
theorem D_is_ascending (Z : Zp K mg base T) : Df P wo K mg base T "is_ascending" 4 sp_is_ascending := by
  obtain ⟨⟨fd, F⟩, hm⟩ := Z.df 3 d_is_ascending rfl rfl
  have D_is_below := D_is_below (P := P) (wo := wo) Z
  refine def_ok F sc_is_ascending hm (fun _ _ _ _ _ _ us hl => match us, hl with | [_, _], _ => rfl) (by walk_at "len") fun cdv A outer st H E hr => ?_
  have nd := sc_is_ascending.nd
  refine ⟨_, (ssc (sif (tw (twor (tnot (tval (xisi Z.isinstance Z.tuple PyProof.Rows.boot_tuple (xv 0)))) (twor1 (tnot (tval (xbi (bi_all rfl Z.all) (xac (xlc (own := [("one", 3)]) rfl nd (by rfl) (xit (xv 0)) (fun _ _ _ _ _ => (xg 3 nd)) (fun _ _ _ _ _ => xtn) (fun _ _ _ _ _ => (xcall D_is_below (hr.mono (by first | decide | omega)) (xac (xv 3) (xac (xv 1) xan))))) xan))))))) (ss1 (sret xbl)) ssn)
    (ss1 (sret (xbi (bi_all rfl Z.all) (xac (xlc (own := [("at", 2)]) rfl nd (by rfl) (xir2 Z.range xint (xbi (bi_len Z.len) (xac (xv 0) xan))) (fun _ _ _ _ _ => (xg 2 nd)) (fun _ _ _ _ _ => xtn) (fun _ _ _ _ _ => (xlt (xix (xv 0) (xsub (xv 2) xint)) (xix (xv 0) (xv 2))))) xan))))), fun ds ω R h => ?_⟩
  obtain ⟨l, b, rfl, hl, ha, hb, q⟩ := h
  walk_at "st"
  refine lc_map l natD (fun x => .bl (decide ((0 : Int) ≤ (x : Int)) && decide ((x : Int) ≤ (b : Int) - 1))) (by omega) (fun x ω' Q1 Q2 hx hs hq => by
    walk_at "st"
    exact hq) ?_
  walk_at "st"
  rw [all_on fun x hx => by have := hb x hx; rw [decide_eq_true (by omega), decide_eq_true (by omega)]; rfl]
  walk_at "st"
  refine ⟨⟨by omega, by omega, by rw [List.length_map]; omega, by rw [List.length_map]; omega⟩, ?_⟩
  rw [List.length_map, show ((l.length : Int) - 1).toNat = l.length - 1 from by omega, rgD_1]
  refine lc_map (List.range (l.length - 1)) _ (fun i => .bl true) (by rw [List.length_range]; omega) (fun i ω' Q1 Q2 hx hs hq => by
    obtain ⟨x, y, e1, e2, e3, e4⟩ := near_ix (enc := natD) (List.mem_range.mp hx)
    walk_at "st"
    have := asc_get ha e1 e2
    show Q1 (.bl (decide _)) _
    rw [decide_eq_true (by omega)]
    exact hq) ?_
  walk_at "st"
  rw [all_on fun x hx => rfl]
  exact q
end
end Wr
set_option maxHeartbeats 2000000
/-! Lots: cures, signs, parts, bars, free moves. -/
namespace Wr
open PySem PySem.Spec PyProof.Rows L2 Dl
def within (l m : List Nat) : Bool := l.all fun x => decide (x ∈ m)
theorem within_iff {l m : List Nat} : within l m = true ↔ ∀ x ∈ l, x ∈ m := by
  unfold within
  rw [List.all_eq_true]
  exact forall_congr' fun x => forall_congr' fun _ => decide_eq_true_iff
def cures (r : Rig) (lot : List Nat) : List Nat := (List.range r.q).filter fun c => lot.all fun x => decide (c ∈ r.cu x)
def done (r : Rig) (lot : List Nat) : Bool := !decide (cures r lot = [])
def agree (r : Rig) (lot : List Nat) (x : Nat) (gs : List Nat) : List Nat := lot.filter fun y => gs.all fun g => decide (r.sg g y = r.sg g x)
/-- the signs that show at g under the faults of the lot -/
def sgl (r : Rig) (lot : List Nat) (g : Nat) : List Nat := (List.range 10).filter fun s => lot.any fun x => decide (r.sg g x = s)
def part (r : Rig) (lot : List Nat) (g s : Nat) : List Nat := lot.filter fun x => decide (r.sg g x = s)
def parts (r : Rig) (lot : List Nat) (g : Nat) : List (Nat × List Nat) := (sgl r lot g).map fun s => (s, part r lot g s)
def oneSign (r : Rig) (lot : List Nat) (g : Nat) : Bool := decide ((sgl r lot g).length ≤ 1)
def partD (p : Nat × List Nat) : Da := .tup [natD p.1, natsD p.2]
def free (b : Book) (lot : List Nat) (k : Nat) : Bool := (b.bars.getD k []).all fun bar => !within bar lot
def barAt (b : Book) (lot : List Nat) (k : Nat) : Option (List Nat) := (b.bars.getD k []).find? fun bar => within bar lot
def optD : Option (List Nat) → Da
  | none => .non
  | some l => natsD l
def Ends (p : Nat × Nat) (g h : Nat) : Prop := (p.1 = g ∧ p.2 = h) ∨ (p.2 = g ∧ p.1 = h)
/-- the numbers of the moves at g, with their other ends -/
def nbl (r : Rig) (g : Nat) : List (Nat × Nat) := r.moves.zipIdx.filterMap fun p => if g = p.1.1 ∨ g = p.1.2 then some (p.1.1 + p.1.2 - g, p.2) else none
theorem zip_mem {α : Type} {l : List α} {p : α × Nat} : p ∈ l.zipIdx ↔ l[p.2]? = some p.1 := by
  obtain ⟨x, i⟩ := p
  constructor
  · intro h
    obtain ⟨j, hj⟩ := List.mem_iff_getElem?.mp h
    rw [List.getElem?_zipIdx] at hj
    cases q : l[j]? with
    | none => rw [q] at hj; cases hj
    | some y =>
      rw [q] at hj
      have hj : some (y, 0 + j) = some (x, i) := hj
      rw [Nat.zero_add] at hj
      cases hj
      exact q
  · intro h
    refine List.mem_iff_getElem?.mpr ⟨i, ?_⟩
    have h : l[i]? = some x := h
    rw [List.getElem?_zipIdx, h]
    show some (x, 0 + i) = _
    rw [Nat.zero_add]
def Adj (b : Book) (lot : List Nat) (g h : Nat) : Prop := ∃ k p, b.rig.moves[k]? = some p ∧ Ends p g h ∧ free b lot k = true
theorem mem_nbl {r : Rig} {g h k : Nat} : (h, k) ∈ nbl r g ↔ ∃ p, r.moves[k]? = some p ∧ Ends p g h := by
  unfold nbl
  rw [List.mem_filterMap]
  constructor
  · rintro ⟨⟨p, i⟩, hi, e⟩
    have e : (if g = p.1 ∨ g = p.2 then some (p.1 + p.2 - g, i) else none) = some (h, k) := e
    by_cases c : g = p.1 ∨ g = p.2
    · rw [if_pos c] at e
      cases e
      refine ⟨p, zip_mem.mp hi, ?_⟩
      unfold Ends
      rcases c with c | c
      · left; exact ⟨c.symm, by omega⟩
      · right; exact ⟨c.symm, by omega⟩
    · rw [if_neg c] at e; cases e
  · rintro ⟨p, hp, he⟩
    refine ⟨(p, k), zip_mem.mpr hp, ?_⟩
    show (if g = p.1 ∨ g = p.2 then some (p.1 + p.2 - g, k) else none) = _
    unfold Ends at he
    rcases he with ⟨e1, e2⟩ | ⟨e1, e2⟩
    · rw [if_pos (.inl e1.symm), ← e1, ← e2]
      congr 2
      omega
    · rw [if_pos (.inr e1.symm), ← e1, ← e2]
      congr 2
      omega
theorem nbl_len {r : Rig} {g : Nat} : (nbl r g).length ≤ r.moves.length := by
  unfold nbl
  exact Nat.le_trans (List.length_filterMap_le _ _) (by rw [List.length_zipIdx]; exact Nat.le_refl _)
section
variable {r : Rig} {b : Book} {lot m : List Nat} {g h k x : Nat}
theorem LotOk.filter (o : LotOk r lot) (p : Nat → Bool) : LotOk r (lot.filter p) := ⟨List.Pairwise.sublist List.filter_sublist o.1, fun x hx => o.2 x (List.mem_filter.mp hx).1⟩
theorem LotOk.agree (o : LotOk r lot) {gs : List Nat} : LotOk r (agree r lot x gs) := o.filter _
theorem LotOk.part (o : LotOk r lot) : LotOk r (part r lot g k) := o.filter _
theorem mem_agree {gs : List Nat} {y : Nat} : y ∈ agree r lot x gs ↔ y ∈ lot ∧ ∀ g ∈ gs, r.sg g y = r.sg g x := by
  unfold Wr.agree
  rw [List.mem_filter, List.all_eq_true]
  exact and_congr Iff.rfl (forall_congr' fun g => forall_congr' fun _ => decide_eq_true_iff)
theorem mem_part {y : Nat} : y ∈ part r lot g k ↔ y ∈ lot ∧ r.sg g y = k := by
  unfold Wr.part
  rw [List.mem_filter, decide_eq_true_iff]
theorem mem_sgl (o : r.Ok) (l : LotOk r lot) (hg : g < r.m) {s : Nat} : s ∈ sgl r lot g ↔ ∃ x ∈ lot, r.sg g x = s := by
  unfold sgl
  rw [List.mem_filter, List.any_eq_true, List.mem_range]
  constructor
  · rintro ⟨_, x, hx, e⟩
    exact ⟨x, hx, of_decide_eq_true e⟩
  · rintro ⟨x, hx, e⟩
    have := o.sg9 hg (l.2 x hx)
    exact ⟨by omega, x, hx, decide_eq_true e⟩
theorem sgl_asc : Asc (sgl r lot g) := List.Pairwise.sublist List.filter_sublist List.pairwise_lt_range
theorem mem_cures {c : Nat} : c ∈ cures r lot ↔ c < r.q ∧ ∀ x ∈ lot, c ∈ r.cu x := by
  unfold cures
  rw [List.mem_filter, List.mem_range, List.all_eq_true]
  exact and_congr Iff.rfl (forall_congr' fun g => forall_congr' fun _ => decide_eq_true_iff)
theorem done_iff : done r lot = true ↔ ∃ c, c < r.q ∧ ∀ x ∈ lot, c ∈ r.cu x := by
  unfold done
  rw [Bool.not_eq_true', decide_eq_false_iff_not]
  constructor
  · intro h
    obtain ⟨c, hc⟩ := List.exists_mem_of_ne_nil _ h
    exact ⟨c, mem_cures.mp hc⟩
  · rintro ⟨c, hc⟩ e
    have : c ∈ cures r lot := mem_cures.mpr hc
    rw [e] at this; cases this
theorem done_sub (h : ∀ x ∈ m, x ∈ lot) (d : done r lot = true) : done r m = true := by
  obtain ⟨c, h1, h2⟩ := done_iff.mp d
  exact done_iff.mpr ⟨c, h1, fun x hx => h2 x (h x hx)⟩
theorem done_nil (o : r.Ok) : done r [] = true := done_iff.mpr ⟨0, o.q1, fun x hx => by cases hx⟩
theorem free_iff : free b lot k = true ↔ ∀ bar ∈ b.bars.getD k [], ¬ ∀ x ∈ bar, x ∈ lot := by
  unfold free
  rw [List.all_eq_true]
  refine forall_congr' fun bar => forall_congr' fun _ => ?_
  rw [Bool.not_eq_true', ← Bool.not_eq_true, within_iff]
theorem free_sub (h : ∀ x ∈ m, x ∈ lot) (f : free b lot k = true) : free b m k = true := free_iff.mpr fun bar hb z => free_iff.mp f bar hb fun x hx => h x (z x hx)
theorem barAt_none : barAt b lot k = none ↔ free b lot k = true := by
  unfold barAt free
  rw [List.find?_eq_none, List.all_eq_true]
  refine forall_congr' fun bar => forall_congr' fun _ => ?_
  rw [Bool.not_eq_true', Bool.not_eq_true]
theorem Ends.symm {p : Nat × Nat} (e : Ends p g h) : Ends p h g := e.elim (fun ⟨a, c⟩ => .inr ⟨c, a⟩) fun ⟨a, c⟩ => .inl ⟨c, a⟩
theorem Adj.symm (a : Adj b lot g h) : Adj b lot h g := let ⟨k, p, h1, h2, h3⟩ := a; ⟨k, p, h1, h2.symm, h3⟩
theorem Adj.sub (s : ∀ x ∈ m, x ∈ lot) (a : Adj b lot g h) : Adj b m g h := let ⟨k, p, h1, h2, h3⟩ := a; ⟨k, p, h1, h2, free_sub s h3⟩
theorem Adj.lt (o : b.rig.Ok) (a : Adj b lot g h) : g < b.rig.m ∧ h < b.rig.m := by
  obtain ⟨k, p, h1, h2, _⟩ := a
  obtain ⟨q1, q2⟩ := o.ma p (List.mem_of_getElem? h1)
  rcases h2 with ⟨e1, e2⟩ | ⟨e1, e2⟩ <;> subst e1 e2 <;> constructor <;> omega
/-- one sign at most: all faults of the lot show the same -/
theorem oneSign_iff (o : r.Ok) (l : LotOk r lot) (hg : g < r.m) : oneSign r lot g = true ↔ ∀ x ∈ lot, ∀ y ∈ lot, r.sg g x = r.sg g y := by
  unfold oneSign
  rw [decide_eq_true_iff]
  constructor
  · intro hl x hx y hy
    have h1 := (mem_sgl o l hg).mpr ⟨x, hx, rfl⟩
    have h2 := (mem_sgl o l hg).mpr ⟨y, hy, rfl⟩
    generalize sgl r lot g = S at hl h1 h2
    match S, hl, h1, h2 with
    | [s], _, h1, h2 => rw [List.mem_singleton.mp h1, List.mem_singleton.mp h2]
    | _ :: _ :: _, hl, _, _ => exact absurd hl (by simp)
  · intro h
    have asc : Asc (sgl r lot g) := sgl_asc
    have key : ∀ s ∈ sgl r lot g, ∀ t ∈ sgl r lot g, s = t := fun s hs t ht => by
      obtain ⟨x, hx, e1⟩ := (mem_sgl o l hg).mp hs
      obtain ⟨y, hy, e2⟩ := (mem_sgl o l hg).mp ht
      rw [← e1, ← e2]; exact h x hx y hy
    generalize sgl r lot g = S at asc key
    match S, asc, key with
    | [], _, _ => exact Nat.zero_le _
    | [_], _, _ => exact Nat.le_refl _
    | s :: t :: _, asc, key =>
      have h1 : s < t := (List.pairwise_cons.mp asc).1 t (by simp)
      have h2 := key s (by simp) t (by simp)
      omega
theorem mem_parts (o : r.Ok) (l : LotOk r lot) (hg : g < r.m) {q : Nat × List Nat} : q ∈ parts r lot g ↔ (∃ x ∈ lot, r.sg g x = q.1) ∧ q.2 = part r lot g q.1 := by
  unfold parts
  rw [List.mem_map]
  constructor
  · rintro ⟨s, hs, e⟩
    subst e
    exact ⟨(mem_sgl o l hg).mp hs, rfl⟩
  · rintro ⟨h1, h2⟩
    exact ⟨q.1, (mem_sgl o l hg).mpr h1, by rw [← h2]⟩
theorem parts_len : (parts r lot g).length ≤ 10 := by
  unfold parts sgl
  rw [List.length_map]
  exact Nat.le_trans (List.length_filter_le _ _) (by rw [List.length_range]; exact Nat.le_refl _)
end
/-- strictly ascending lists of the same members are the same -/
theorem asc_uniq : ∀ {l m : List Int}, l.Pairwise (· < ·) → m.Pairwise (· < ·) → (∀ k, k ∈ l ↔ k ∈ m) → l = m
  | [], [], _, _, _ => rfl
  | [], y :: m, _, _, h => absurd ((h y).mpr (by simp)) (by simp)
  | x :: l, [], _, _, h => absurd ((h x).mp (by simp)) (by simp)
  | x :: l, y :: m, hl, hm, h => by
    obtain ⟨l1, l2⟩ := List.pairwise_cons.mp hl
    obtain ⟨m1, m2⟩ := List.pairwise_cons.mp hm
    have e : x = y := by
      have a := (h x).mp (by simp)
      have c := (h y).mpr (by simp)
      rcases List.mem_cons.mp a with a | a
      · exact a
      · rcases List.mem_cons.mp c with c | c
        · exact c.symm
        · have := m1 x a; have := l1 y c; omega
    subst e
    rw [asc_uniq l2 m2 fun k => ?_]
    constructor
    · intro hk
      rcases List.mem_cons.mp ((h k).mp (List.mem_cons_of_mem _ hk)) with e | e
      · have := l1 k hk; omega
      · exact e
    · intro hk
      rcases List.mem_cons.mp ((h k).mpr (List.mem_cons_of_mem _ hk)) with e | e
      · have := m1 k hk; omega
      · exact e
end Wr
set_option maxHeartbeats 2000000
/-! Rigs: forms, neighbours; lots: cures, agreement, signs, parts. -/
namespace Wr
open PySem PySem.Spec PyProof.Rows L2 Dl
local macro_rules
  | `(tactic| walk_at "len") => `(tactic| (intro ds ω R h; repeat (first | (obtain ⟨e, _⟩ := h; subst e; rfl) | (obtain ⟨_, h⟩ := h))))
  | `(tactic| walk_at "st1") => `(tactic| first
    | apply Exists.intro
    | refine And.intro rfl ?_ | refine iteT ?_ | refine iteF ?_
    | refine And.intro (lst_ptr (by assumption)) ?_ | refine And.intro (seq_ptr (by assumption)) ?_ | refine And.intro (dct_ptr (by assumption)) ?_
    | refine And.intro (lst_ptr Om.set_same) ?_ | refine And.intro (seq_ptr Om.set_same) ?_ | refine And.intro Om.set_same ?_
    | refine And.intro ⟨_, lst_ptr (by assumption)⟩ ?_ | refine And.intro ⟨_, lst_ptr Om.set_same⟩ ?_ | refine And.intro ⟨_, rfl⟩ ?_ | refine And.intro ⟨_, lst_ptr ((Om.set_ne (by assumption)).trans (by assumption))⟩ ?_
    | refine And.intro ((Om.set_ne (by assumption)).trans (by assumption)) ?_ | refine And.intro (lst_ptr ((Om.set_ne (by assumption)).trans (by assumption))) ?_
    | refine And.intro (by assumption) ?_ | refine And.intro (ix_map (by assumption)) ?_
    | refine And.intro (by omega) ?_
    | refine do_all (by rfl) ?_ | refine eq_nat ?_ | refine ne_nat ?_ | refine eq_nats ?_ | refine ne_nats ?_ | refine in_nats ?_ | refine nin_nats ?_)
  | `(tactic| walk_at "st") => `(tactic| repeat walk_at "st1")
section
variable {P : Program} {wo : World} {K : PySem.W.Frag} {mg : Str → Option Value} {base : Heap} {T : Tb}
/-- no truth of the list holds -/
def sp_first_of : Dsp := fun ds ω R => ∃ n : Nat, ds = [.lst ((List.replicate n false).map .bl)] ∧ R .non ω
theorem sc_first_of : FnScope ["wrong"] ["wrong"] (defScope s_first_of) := ⟨rfl, rfl, rfl, by decide +kernel, rfl, by decide +kernel, by decide +kernel⟩
theorem D_first_of (Z : Zp K mg base T) : Df P wo K mg base T "first_of" 1 sp_first_of := by
  obtain ⟨⟨fd, F⟩, hm⟩ := Z.df 5 d_first_of rfl rfl
  refine def_ok F sc_first_of hm (fun _ _ _ _ _ _ us hl => match us, hl with | [_], _ => rfl) (by walk_at "len") fun cdv A outer st H E hr => ?_
  have nd := sc_first_of.nd
  refine ⟨_, (ss1 (sret (xif (tinB xbl (xv 0)) xnever xnon))), fun ds ω R h => ?_⟩
  obtain ⟨n, rfl, q⟩ := h
  have e : decide (true ∈ List.replicate n false) = false := decide_eq_false fun z => by have := List.eq_of_mem_replicate z; cases this
  walk_at "st"
  rw [e]
  walk_at "st"
  exact q
def sp_is_signs : Dsp := fun ds ω R => ∃ (l : List Nat) (n : Nat), ds = [natsD l, natD n] ∧ l.length = n ∧ l.length ≤ 1000 ∧ (∀ x ∈ l, x ≤ 9) ∧ R (.bl true) ω
theorem sc_is_signs : FnScope ["thing", "n", "sign"] ["thing", "n"] (defScope s_is_signs) := ⟨rfl, rfl, rfl, by decide +kernel, rfl, by decide +kernel, by decide +kernel⟩
theorem D_is_signs (Z : Zp K mg base T) : Df P wo K mg base T "is_signs" 3 sp_is_signs := by
  obtain ⟨⟨fd, F⟩, hm⟩ := Z.df 7 d_is_signs rfl rfl
  have D_is_between := D_is_between (P := P) (wo := wo) Z
  have D_is_tuple_of := D_is_tuple_of (P := P) (wo := wo) Z
  refine def_ok F sc_is_signs hm (fun _ _ _ _ _ _ us hl => match us, hl with | [_, _], _ => rfl) (by walk_at "len") fun cdv A outer st H E hr => ?_
  have nd := sc_is_signs.nd
  refine ⟨_, (ss1 (sret (xand (xcall D_is_tuple_of (hr.mono (by first | decide | omega)) (xac (xv 0) (xac (xv 1) (xac (xv 1) xan)))) (xone (xbi (bi_all rfl Z.all) (xac (xlc (own := [("sign", 2)]) rfl nd (by rfl) (xit (xv 0)) (fun _ _ _ _ _ => (xg 2 nd)) (fun _ _ _ _ _ => xtn) (fun _ _ _ _ _ => (xcall D_is_between (hr.mono (by first | decide | omega)) (xac (xv 2) (xac xint (xac (xglob Z.MOST_SIGN) xan)))))) xan)))))), fun ds ω R h => ?_⟩
  obtain ⟨l, n, rfl, hn, hl, h9, q⟩ := h
  walk_at "st"
  rw [List.length_map, decide_eq_true (by omega), decide_eq_true (by omega)]
  walk_at "st"
  refine lc_map l natD (fun x => .bl (decide ((0 : Int) ≤ (x : Int)) && decide ((x : Int) ≤ 9))) (by omega) (fun x ω' Q1 Q2 hx hs hq => by
    walk_at "st"
    exact hq) ?_
  walk_at "st"
  rw [all_on fun x hx => by have := h9 x hx; rw [decide_eq_true (by omega), decide_eq_true (by omega)]; rfl]
  exact q
def sp_is_move : Dsp := fun ds ω R => ∃ (p : Nat × Nat) (m : Nat), ds = [pairD p, natD m] ∧ p.1 < p.2 ∧ p.2 < m ∧ R (.bl true) ω
theorem sc_is_move : FnScope ["thing", "many", "setting"] ["thing", "many"] (defScope s_is_move) := ⟨rfl, rfl, rfl, by decide +kernel, rfl, by decide +kernel, by decide +kernel⟩
theorem D_is_move (Z : Zp K mg base T) : Df P wo K mg base T "is_move" 3 sp_is_move := by
  obtain ⟨⟨fd, F⟩, hm⟩ := Z.df 8 d_is_move rfl rfl
  have D_is_between := D_is_between (P := P) (wo := wo) Z
  have D_is_tuple_of := D_is_tuple_of (P := P) (wo := wo) Z
  refine def_ok F sc_is_move hm (fun _ _ _ _ _ _ us hl => match us, hl with | [_, _], _ => rfl) (by walk_at "len") fun cdv A outer st H E hr => ?_
  have nd := sc_is_move.nd
  refine ⟨_, (ssc (sif (tw (twor (tnot (tval (xcall D_is_tuple_of (hr.mono (by first | decide | omega)) (xac (xv 0) (xac xint (xac xint xan)))))) (twor1 (tnot (tval (xbi (bi_all rfl Z.all) (xac (xlc (own := [("setting", 2)]) rfl nd (by rfl) (xit (xv 0)) (fun _ _ _ _ _ => (xg 2 nd)) (fun _ _ _ _ _ => xtn) (fun _ _ _ _ _ => (xcall D_is_between (hr.mono (by first | decide | omega)) (xac (xv 2) (xac xint (xac (xsub (xv 1) xint) xan)))))) xan))))))) (ss1 (sret xbl)) ssn)
    (ss1 (sret (xlt (xix (xv 0) xint) (xix (xv 0) xint))))), fun ds ω R h => ?_⟩
  obtain ⟨p, m, rfl, h1, h2, q⟩ := h
  walk_at "st"
  refine lc_map [p.1, p.2] natD (fun x => .bl (decide ((0 : Int) ≤ (x : Int)) && decide ((x : Int) ≤ (m : Int) - 1))) (by simp) (fun x ω' Q1 Q2 hx hs hq => by
    walk_at "st"
    exact hq) ?_
  walk_at "st"
  rw [all_on fun x hx => by
    have hx' : x = p.1 ∨ x = p.2 := by simpa using hx
    rcases hx' with e | e <;> subst e <;> rw [decide_eq_true (by omega), decide_eq_true (by omega)] <;> rfl]
  walk_at "st"
  show R (.bl (decide _)) _
  rw [decide_eq_true (by omega)]
  exact q
theorem enD_at (L : List Da) (i : Nat) : (enD L)[i]? = L[i]?.map fun d => .tup [natD i, d] := by
  cases h : L[i]? with
  | some d => rw [enD_get h]; rfl
  | none =>
    have : L.length ≤ i := List.getElem?_eq_none_iff.mp h
    exact List.getElem?_eq_none_iff.mpr (by rw [enD_length]; exact this)
def enPD {α : Type} (enc : α → Da) (p : α × Nat) : Da := .tup [natD p.2, enc p.1]
/-- enumerate of an encoded list -/
theorem enD_map {α : Type} (l : List α) (enc : α → Da) : enD (l.map enc) = l.zipIdx.map (enPD enc) := by
  refine List.ext_getElem? fun i => ?_
  rw [enD_at, List.getElem?_map, List.getElem?_map, List.getElem?_zipIdx]
  cases l[i]? with
  | none => rfl
  | some x =>
    show some (Da.tup [natD i, enc x]) = some (Da.tup [natD (0 + i), enc x])
    rw [Nat.zero_add]
/-- tuples of ints, told as lists of naturals -/
theorem tI_nats (l : List Nat) : natsD l = tI (l.map Int.ofNat) := by
  unfold natsD tI
  rw [List.map_map]; rfl
theorem tI_map (ls : List (List Nat)) : ls.map natsD = (ls.map fun l => l.map Int.ofNat).map tI := by
  rw [List.map_map]; exact List.map_congr_left fun l _ => tI_nats l
theorem ofNat_inj {l m : List Nat} (h : l.map Int.ofNat = m.map Int.ofNat) : l = m := by
  induction l generalizing m with
  | nil => cases m with
    | nil => rfl
    | cons => cases h
  | cons x l ih => cases m with
    | nil => cases h
    | cons y m =>
      rw [List.map_cons, List.map_cons] at h
      obtain ⟨e1, e2⟩ := List.cons.inj h
      rw [Int.ofNat.inj e1, ih e2]
/-- sorted of encoded lists of naturals, none of them empty -/
theorem do_sorted {ω : Om} {R : Da → Om → Prop} {d : Da} (ls : List (List Nat)) (hl : seqOf ω d = some (ls.map natsD)) (hne : ∀ l ∈ ls, l ≠ []) (q : ∀ ms : List (List Nat), ms.Perm ls → ms.Pairwise (fun l m => HT.lexLt (m.map Int.ofNat) (l.map Int.ofNat) = false) → R (.lst (ms.map natsD)) ω) : fSortedX [d] ω R := by
  refine ⟨d, ls.map fun l => l.map Int.ofNat, rfl, by rw [hl, tI_map], fun x hx e => ?_, fun m hp hs => ?_⟩
  · obtain ⟨l, hl, e2⟩ := List.mem_map.mp hx
    rw [e] at e2
    exact hne l hl (List.map_eq_nil_iff.mp e2)
  · obtain ⟨ms, p1, rfl⟩ := perm_map (fun x y => ofNat_inj) hp
    rw [← tI_map]
    exact q ms p1 (List.pairwise_map.mp hs)
def twoL (p : Nat × Nat) : List Nat := [p.1, p.2]
theorem two_inj (p q : Nat × Nat) (h : twoL p = twoL q) : p = q := by
  unfold twoL at h
  obtain ⟨e1, e2⟩ := List.cons.inj h
  obtain ⟨e2, _⟩ := List.cons.inj e2
  exact Prod.ext e1 e2
theorem pair_two (p : Nat × Nat) : pairD p = natsD (twoL p) := rfl
def sp_neighbours_of : Dsp := fun ds ω R => ∃ (r : Rig) (g : Nat), ds = [rigD r, natD g] ∧ r.moves.length ≤ 1000 ∧ ∀ ps : List (Nat × Nat), ps.Perm (nbl r g) → R (.tup (ps.map pairD)) ω
theorem sc_neighbours_of : FnScope ["rig", "g", "ends", "number", "pair"] ["rig", "g"] (defScope s_neighbours_of) := ⟨rfl, rfl, rfl, by decide +kernel, rfl, by decide +kernel, by decide +kernel⟩
theorem D_neighbours_of (Z : Zp K mg base T) : Df P wo K mg base T "neighbours_of" 1 sp_neighbours_of := by
  obtain ⟨⟨fd, F⟩, hm⟩ := Z.df 14 d_neighbours_of rfl rfl
  refine def_ok F sc_neighbours_of hm (fun _ _ _ _ _ _ us hl => match us, hl with | [_, _], _ => rfl) (by walk_at "len") fun cdv A outer st H E hr => ?_
  have nd := sc_neighbours_of.nd
  refine ⟨_, (ssc (ssetLc 2 (own := [("number", 3), ("pair", 4)]) rfl nd (by rfl) (xienum Z.enumerate (xun (xix (xv 0) xint))) (fun _ _ _ _ _ => (xgtp rfl (xgc (xg 3 nd) (xgc (xg 4 nd) xgn)))) (fun _ _ _ _ _ => (xt1 (tin hr (xv 1) (xv 4)))) (fun _ _ _ _ _ => (xtup (xac (xsub (xbi (bi_sum rfl Z.sum) (xac (xv 4) xan)) (xv 1)) (xac (xv 3) xan)))))
    (ss1 (sret (xbi (bi_tuple Z.tuple) (xac (xbi (bi_sortedX Z.sorted) (xac (xv 2) xan)) xan))))), fun ds ω R h => ?_⟩
  obtain ⟨r, g, rfl, hl, q⟩ := h
  walk_at "st"
  rw [enD_map]
  refine lc_on r.moves.zipIdx (enPD pairD) (fun p => if g = p.1.1 ∨ g = p.1.2 then some (pairD (p.1.1 + p.1.2 - g, p.2)) else none) (by rw [List.length_zipIdx]; omega) (fun x ω' Q1 Q2 hx hs h1 h2 => by
    obtain ⟨⟨a, b⟩, i⟩ := x
    walk_at "st"
    refine do_in (P := g = a ∨ g = b) (l := [natD a, natD b]) rfl rfl rfl (Nat.zero_le _) ?_ ?_
    · show natD g ∈ [natD a, natD b] ↔ _
      rw [List.mem_cons, List.mem_singleton]
      exact or_congr ⟨natD_inj, fun e => by rw [e]⟩ ⟨natD_inj, fun e => by rw [e]⟩
    walk_at "st"
    by_cases c : g = a ∨ g = b
    · rw [decide_eq_true c]
      refine iteT ⟨_, rfl, [(a : Int), (b : Int)], rfl, ?_⟩
      walk_at "st"
      have e := h1 (pairD (a + b - g, i)) (by rw [if_pos c])
      have e2 : ([(a : Int), (b : Int)].sum - (g : Int)) = ((a + b - g : Nat) : Int) := by
        simp only [List.sum_cons, List.sum_nil]
        omega
      show Q1 (.tup [.int ([(a : Int), (b : Int)].sum - (g : Int)), natD i]) _
      rw [e2]
      exact e
    · rw [decide_eq_false c]
      exact iteF (h2 (by rw [if_neg c]))) ?_
  have e : (r.moves.zipIdx.filterMap fun p => if g = p.1.1 ∨ g = p.1.2 then some (pairD (p.1.1 + p.1.2 - g, p.2)) else none) = ((nbl r g).map twoL).map natsD := by
    rw [List.map_map]
    unfold nbl
    rw [List.map_filterMap]
    refine congrArg (fun f => r.moves.zipIdx.filterMap f) (funext fun p => ?_)
    by_cases c : g = p.1.1 ∨ g = p.1.2
    · rw [if_pos c, if_pos c]; rfl
    · rw [if_neg c, if_neg c]; rfl
  rw [e]
  walk_at "st"
  refine do_sorted ((nbl r g).map twoL) rfl (fun l hl e => by obtain ⟨p, _, e2⟩ := List.mem_map.mp hl; rw [e] at e2; cases e2) fun ms hp _ => ?_
  obtain ⟨ps, p1, rfl⟩ := perm_map two_inj hp
  walk_at "st"
  have e3 : (ps.map twoL).map natsD = ps.map pairD := by rw [List.map_map]; rfl
  rw [e3]
  exact q ps p1
/-! ### lots -/
def sp_is_lot : Dsp := fun ds ω R => ∃ (r : Rig) (l : List Nat), ds = [rigD r, natsD l] ∧ r.n ≤ 1000 ∧ LotOk r l ∧ R (.bl true) ω
theorem sc_is_lot : FnScope ["rig", "thing"] ["rig", "thing"] (defScope s_is_lot) := ⟨rfl, rfl, rfl, by decide +kernel, rfl, by decide +kernel, by decide +kernel⟩
theorem D_is_lot (Z : Zp K mg base T) : Df P wo K mg base T "is_lot" 5 sp_is_lot := by
  obtain ⟨⟨fd, F⟩, hm⟩ := Z.df 15 d_is_lot rfl rfl
  have D_is_ascending := D_is_ascending (P := P) (wo := wo) Z
  refine def_ok F sc_is_lot hm (fun _ _ _ _ _ _ us hl => match us, hl with | [_, _], _ => rfl) (by walk_at "len") fun cdv A outer st H E hr => ?_
  have nd := sc_is_lot.nd
  refine ⟨_, (ss1 (sret (xcall D_is_ascending (hr.mono (by first | decide | omega)) (xac (xv 1) (xac (xix (xv 0) xint) xan))))), fun ds ω R h => ?_⟩
  obtain ⟨r, l, rfl, hn, hl, q⟩ := h
  walk_at "st"
  exact ⟨by have := asc_len hl.1 hl.2; omega, hl.1, hl.2, q⟩
def sp_every_fault : Dsp := fun ds ω R => ∃ (r : Rig), ds = [rigD r] ∧ r.n ≤ 1000 ∧ R (natsD (List.range r.n)) ω
theorem sc_every_fault : FnScope ["rig"] ["rig"] (defScope s_every_fault) := ⟨rfl, rfl, rfl, by decide +kernel, rfl, by decide +kernel, by decide +kernel⟩
theorem D_every_fault (Z : Zp K mg base T) : Df P wo K mg base T "every_fault" 1 sp_every_fault := by
  obtain ⟨⟨fd, F⟩, hm⟩ := Z.df 16 d_every_fault rfl rfl
  refine def_ok F sc_every_fault hm (fun _ _ _ _ _ _ us hl => match us, hl with | [_], _ => rfl) (by walk_at "len") fun cdv A outer st H E hr => ?_
  have nd := sc_every_fault.nd
  refine ⟨_, (ss1 (sret (xtupRg rfl Z.tuple Z.range (xix (xv 0) xint)))), fun ds ω R h => ?_⟩
  obtain ⟨r, rfl, hn, q⟩ := h
  walk_at "st"
  exact q
/-- rig[2][x] -/
theorem rd_cure {ρ : Rho} {ω : Om} {R : Da → Om → Prop} {wr wx : WE} {r : Rig} {x : Nat} (o : r.Ok) (hr : ∀ Q : Da → Om → Prop, Q (rigD r) ω → wr ρ ω Q) (hx : ∀ Q : Da → Om → Prop, Q (natD x) ω → wx ρ ω Q) (h2 : x < r.n) (q : R (natsD (r.cu x)) ω) :
    w2 fIx (w2 fIx wr (wC (.int 2))) wx ρ ω R := by
  have e2 := o.cure h2
  exact hr _ ⟨_, 2, _, rfl, rfl, rfl, hx _ ⟨_, _, _, rfl, rfl, ix_map e2, q⟩⟩
def sp_cures_of : Dsp := fun ds ω R => ∃ (r : Rig) (l : List Nat), ds = [rigD r, natsD l] ∧ r.Ok ∧ LotOk r l ∧ R (natsD (cures r l)) ω
theorem sc_cures_of : FnScope ["rig", "lot", "r", "x"] ["rig", "lot"] (defScope s_cures_of) := ⟨rfl, rfl, rfl, by decide +kernel, rfl, by decide +kernel, by decide +kernel⟩
theorem D_cures_of (Z : Zp K mg base T) : Df P wo K mg base T "cures_of" 1 sp_cures_of := by
  obtain ⟨⟨fd, F⟩, hm⟩ := Z.df 17 d_cures_of rfl rfl
  refine def_ok F sc_cures_of hm (fun _ _ _ _ _ _ us hl => match us, hl with | [_, _], _ => rfl) (by walk_at "len") fun cdv A outer st H E hr => ?_
  have nd := sc_cures_of.nd
  refine ⟨_, (ss1 (sret (xbi (bi_tuple Z.tuple) (xac (xlc (own := [("r", 2)]) rfl nd (by rfl) (xir Z.range (xix (xv 0) xint)) (fun _ _ _ _ _ => (xg 2 nd)) (fun _ _ _ _ _ => (xt1 (tval (xbi (bi_all rfl Z.all) (xac (xlc (own := [("x", 3)]) rfl nd (by rfl) (xit (xv 1)) (fun _ _ _ _ _ => (xg 3 nd)) (fun _ _ _ _ _ => xtn) (fun _ _ _ _ _ => (xin hr (xv 2) (xix (xix (xv 0) xint) (xv 3))))) xan))))) (fun _ _ _ _ _ => (xv 2))) xan)))), fun ds ω R h => ?_⟩
  obtain ⟨r, l, rfl, o, hl, q⟩ := h
  have hq := o.q2
  walk_at "st"
  rw [rgD_nat]
  refine lc_filter (List.range r.q) natD (fun c => l.all fun x => decide (c ∈ r.cu x)) (by rw [List.length_range]; have := o.q2; omega) (fun c ω' Q1 Q2 hc hs h1 h2 => by
    walk_at "st"
    refine lc_map l natD (fun x => .bl (decide (c ∈ r.cu x))) (by have := hl.len o; omega) (fun x ω' Q1 Q2 hx hs hq => by
      have e2 := o.cure (hl.2 x hx)
      walk_at "st"
      exact hq) ?_
    walk_at "st"
    cases e : (l.all fun x => decide (c ∈ r.cu x)) with
    | true => exact iteT (by walk_at "st"; exact h1 e)
    | false => exact iteF (h2 e)) ?_
  walk_at "st"
  exact q
def sp_is_done : Dsp := fun ds ω R => ∃ (r : Rig) (l : List Nat), ds = [rigD r, natsD l] ∧ r.Ok ∧ LotOk r l ∧ R (.bl (done r l)) ω
theorem sc_is_done : FnScope ["rig", "lot"] ["rig", "lot"] (defScope s_is_done) := ⟨rfl, rfl, rfl, by decide +kernel, rfl, by decide +kernel, by decide +kernel⟩
theorem D_is_done (Z : Zp K mg base T) : Df P wo K mg base T "is_done" 2 sp_is_done := by
  obtain ⟨⟨fd, F⟩, hm⟩ := Z.df 18 d_is_done rfl rfl
  have D_cures_of := D_cures_of (P := P) (wo := wo) Z
  refine def_ok F sc_is_done hm (fun _ _ _ _ _ _ us hl => match us, hl with | [_, _], _ => rfl) (by walk_at "len") fun cdv A outer st H E hr => ?_
  have nd := sc_is_done.nd
  refine ⟨_, (ss1 (sret (xne hr (xcall D_cures_of (hr.mono (by first | decide | omega)) (xac (xv 0) (xac (xv 1) xan))) (xtup xan)))), fun ds ω R h => ?_⟩
  obtain ⟨r, l, rfl, o, hl, q⟩ := h
  walk_at "st"
  refine ne_nilt ?_
  exact q
end
end Wr
set_option maxHeartbeats 2000000
/-! Lots: agreement, signs, parts; bars, free moves. -/
namespace Wr
open PySem PySem.Spec PyProof.Rows L2 Dl
local macro_rules
  | `(tactic| walk_at "len") => `(tactic| (intro ds ω R h; repeat (first | (obtain ⟨e, _⟩ := h; subst e; rfl) | (obtain ⟨_, h⟩ := h))))
  | `(tactic| walk_at "st1") => `(tactic| first
    | apply Exists.intro
    | refine And.intro rfl ?_ | refine iteT ?_ | refine iteF ?_
    | refine And.intro (lst_ptr (by assumption)) ?_ | refine And.intro (seq_ptr (by assumption)) ?_ | refine And.intro (dct_ptr (by assumption)) ?_
    | refine And.intro (lst_ptr Om.set_same) ?_ | refine And.intro (seq_ptr Om.set_same) ?_ | refine And.intro Om.set_same ?_
    | refine And.intro ⟨_, lst_ptr (by assumption)⟩ ?_ | refine And.intro ⟨_, lst_ptr Om.set_same⟩ ?_ | refine And.intro ⟨_, rfl⟩ ?_ | refine And.intro ⟨_, lst_ptr ((Om.set_ne (by assumption)).trans (by assumption))⟩ ?_
    | refine And.intro ((Om.set_ne (by assumption)).trans (by assumption)) ?_ | refine And.intro (lst_ptr ((Om.set_ne (by assumption)).trans (by assumption))) ?_
    | refine And.intro (by assumption) ?_ | refine And.intro (ix_map (by assumption)) ?_
    | refine And.intro (by omega) ?_
    | refine do_all (by rfl) ?_ | refine eq_nat ?_ | refine ne_nat ?_ | refine eq_nats ?_ | refine ne_nats ?_ | refine in_nats ?_ | refine nin_nats ?_)
  | `(tactic| walk_at "st") => `(tactic| repeat walk_at "st1")
section
variable {P : Program} {wo : World} {K : PySem.W.Frag} {mg : Str → Option Value} {base : Heap} {T : Tb}
theorem for_on {α : Type} {g : WG} {w : WS} {E : En} {ρ : Rho} {ω1 : Om} (l : List α) (enc : α → Da) (I : Nat → Rho → Om → Prop) (h0 : I 0 ρ ω1) (turn : ∀ i x ρ' ω', l[i]? = some x → I i ρ' ω' → g (enc x) ρ' fun ρ2 => w ⟨I (i + 1), E.rt, E.nx, I (i + 1)⟩ ρ2 ω')
    (fin : ∀ ρ' ω', I l.length ρ' ω' → E.nx ρ' ω') : ForB g w E ρ (l.map enc) ω1 := by
  refine ⟨I, h0, fun i d ρ' ω' hd hI => ?_, fun ρ' ω' hI => fin ρ' ω' (by rw [List.length_map] at hI; exact hI)⟩
  rw [List.getElem?_map] at hd
  cases e : l[i]? with
  | none => rw [e] at hd; cases hd
  | some x =>
    rw [e] at hd
    cases hd
    exact turn i x ρ' ω' e hI
def sp_is_setting : Dsp := fun ds ω R => ∃ (r : Rig) (g : Nat), ds = [rigD r, natD g] ∧ g < r.m ∧ R (.bl true) ω
theorem sc_is_setting : FnScope ["rig", "g"] ["rig", "g"] (defScope s_is_setting) := ⟨rfl, rfl, rfl, by decide +kernel, rfl, by decide +kernel, by decide +kernel⟩
theorem D_is_setting (Z : Zp K mg base T) : Df P wo K mg base T "is_setting" 3 sp_is_setting := by
  obtain ⟨⟨fd, F⟩, hm⟩ := Z.df 13 d_is_setting rfl rfl
  have D_is_between := D_is_between (P := P) (wo := wo) Z
  refine def_ok F sc_is_setting hm (fun _ _ _ _ _ _ us hl => match us, hl with | [_, _], _ => rfl) (by walk_at "len") fun cdv A outer st H E hr => ?_
  have nd := sc_is_setting.nd
  refine ⟨_, (ss1 (sret (xcall D_is_between (hr.mono (by first | decide | omega)) (xac (xv 1) (xac xint (xac (xsub (xbi (bi_len Z.len) (xac (xix (xv 0) xint) xan)) xint) xan)))))), fun ds ω R h => ?_⟩
  obtain ⟨r, g, rfl, hg, q⟩ := h
  walk_at "st"
  have hg' : g < r.signs.length := hg
  rw [List.length_map, decide_eq_true (by omega), decide_eq_true (by omega)]
  exact q
theorem lt_pair {p q : Nat × Nat} {ω : Om} {R : Da → Om → Prop} (h : R (.bl (HT.lexLt [(p.1 : Int), (p.2 : Int)] [(q.1 : Int), (q.2 : Int)])) ω) : fLtT (pairD p) (pairD q) ω R := ⟨[(p.1 : Int), (p.2 : Int)], [(q.1 : Int), (q.2 : Int)], rfl, rfl, h⟩
theorem lt_nats {l m : List Nat} {ω : Om} {R : Da → Om → Prop} (h : R (.bl (HT.lexLt (l.map Int.ofNat) (m.map Int.ofNat))) ω) : fLtT (natsD l) (natsD m) ω R := ⟨l.map Int.ofNat, m.map Int.ofNat, tI_nats l, tI_nats m, h⟩
def sp_wrong_move : Dsp := fun ds ω R => ∃ (l : List (Nat × Nat)) (m : Nat), ds = [.tup (l.map pairD), natD m] ∧ (∀ p ∈ l, p.1 < p.2 ∧ p.2 < m) ∧ l.Pairwise (fun p q => p.1 < q.1 ∨ (p.1 = q.1 ∧ p.2 < q.2)) ∧ R .non ω
theorem sc_wrong_move : FnScope ["moves", "many", "at", "move"] ["moves", "many"] (defScope s_wrong_move) := ⟨rfl, rfl, rfl, by decide +kernel, rfl, by decide +kernel, by decide +kernel⟩
theorem D_wrong_move (Z : Zp K mg base T) : Df P wo K mg base T "wrong_move" 4 sp_wrong_move := by
  obtain ⟨⟨fd, F⟩, hm⟩ := Z.df 9 d_wrong_move rfl rfl
  have D_is_move := D_is_move (P := P) (wo := wo) Z
  refine def_ok F sc_wrong_move hm (fun _ _ _ _ _ _ us hl => match us, hl with | [_, _], _ => rfl) (by walk_at "len") fun cdv A outer st H E hr => ?_
  have nd := sc_wrong_move.nd
  refine ⟨_, (ssc (sfor PassesOwn.never rfl (xienum Z.enumerate (xv 0)) (xgtp rfl (xgc (xg 2 nd) (xgc (xg 3 nd) xgn))) (ss1 (sif (tw (twor (tnot (tval (xcall D_is_move (hr.mono (by first | decide | omega)) (xac (xv 3) (xac (xv 1) xan))))) (twor1 (tw (twand (tgt (xv 2) xint) (twand1 (tnot (tltT hr (xix (xv 0) (xsub (xv 2) xint)) (xv 3))))))))) (ss1 (sret (xtup (xac xint (xac (xv 2) xan))))) ssn)))
    (ss1 (sret xnon))), fun ds ω R h => ?_⟩
  obtain ⟨l, m, rfl, h1, h2, q⟩ := h
  walk_at "st"
  rw [enD_map]
  refine for_on l.zipIdx (enPD pairD) (fun i ρ' ω' => ∃ a b, ρ' = [some (.tup (l.map pairD)), some (natD m), a, b] ∧ ω' = ω) ⟨_, _, rfl, rfl⟩ (fun i x ρ' ω' hx hI => ?_) fun ρ' ω' hI => ?_
  · obtain ⟨a, b, rfl, rfl⟩ := hI
    obtain ⟨p, k⟩ := x
    have hk : l[k]? = some p := zip_mem.mp (List.mem_of_getElem? hx)
    obtain ⟨m1, m2⟩ := h1 p (List.mem_of_getElem? hk)
    walk_at "st"
    by_cases c : 0 < k
    · obtain ⟨k', rfl⟩ : ∃ k', k = k' + 1 := ⟨k - 1, by omega⟩
      have hlt : k' < l.length := by have := (List.getElem?_eq_some_iff.mp hk).1; omega
      have hk2 : l[k']? = some l[k'] := List.getElem?_eq_getElem hlt
      have hlt2 := (List.getElem?_eq_some_iff.mp hk)
      have ord := List.pairwise_iff_getElem.mp h2 k' (k' + 1) hlt hlt2.1 (Nat.lt_succ_self _)
      rw [hlt2.2] at ord
      have ea : atI (l.map pairD) ((((k' + 1 : Nat) : Int)) - 1) = some (pairD l[k']) := by
        rw [show (((k' + 1 : Nat) : Int)) - 1 = ((k' : Nat) : Int) from by omega]
        exact ix_map hk2
      walk_at "st"
      rw [decide_eq_true (by omega)]
      refine iteT ?_
      walk_at "st"
      refine lt_pair ?_
      have e : HT.lexLt [(l[k'].1 : Int), (l[k'].2 : Int)] [(p.1 : Int), (p.2 : Int)] = true := by
        rw [HT.lexLt_cons, HT.lexLt_cons]
        rcases ord with z | ⟨z1, z2⟩
        · rw [if_neg (by omega)]; exact decide_eq_true (by omega)
        · rw [if_pos (by omega), if_neg (by omega)]; exact decide_eq_true (by omega)
      rw [e]
      walk_at "st"
      rfl
    · have ek : k = 0 := by omega
      subst ek
      walk_at "st"
      rfl
  · obtain ⟨a, b, rfl, rfl⟩ := hI
    walk_at "st"
    exact q
def sp_is_within : Dsp := fun ds ω R => ∃ (l m : List Nat), ds = [natsD l, natsD m] ∧ l.length ≤ 1000 ∧ R (.bl (within l m)) ω
theorem sc_is_within : FnScope ["lot", "other", "x"] ["lot", "other"] (defScope s_is_within) := ⟨rfl, rfl, rfl, by decide +kernel, rfl, by decide +kernel, by decide +kernel⟩
theorem D_is_within (Z : Zp K mg base T) : Df P wo K mg base T "is_within" 1 sp_is_within := by
  obtain ⟨⟨fd, F⟩, hm⟩ := Z.df 23 d_is_within rfl rfl
  refine def_ok F sc_is_within hm (fun _ _ _ _ _ _ us hl => match us, hl with | [_, _], _ => rfl) (by walk_at "len") fun cdv A outer st H E hr => ?_
  have nd := sc_is_within.nd
  refine ⟨_, (ss1 (sret (xbi (bi_all rfl Z.all) (xac (xlc (own := [("x", 2)]) rfl nd (by rfl) (xit (xv 0)) (fun _ _ _ _ _ => (xg 2 nd)) (fun _ _ _ _ _ => xtn) (fun _ _ _ _ _ => (xin hr (xv 2) (xv 1)))) xan)))), fun ds ω R h => ?_⟩
  obtain ⟨l, m, rfl, hl, q⟩ := h
  walk_at "st"
  refine lc_map l natD (fun x => .bl (decide (x ∈ m))) (by omega) (fun x ω' Q1 Q2 hx hs hq => by
    walk_at "st"
    exact hq) ?_
  walk_at "st"
  exact q
def sp_agreeing_in : Dsp := fun ds ω R => ∃ (r : Rig) (l : List Nat) (x : Nat) (gs : List Nat), ds = [rigD r, natsD l, natD x, natsD gs] ∧ r.Ok ∧ LotOk r l ∧ x < r.n ∧ (∀ g ∈ gs, g < r.m) ∧ gs.length ≤ 1000 ∧ R (natsD (agree r l x gs)) ω
theorem sc_agreeing_in : FnScope ["rig", "lot", "x", "settings", "y", "g"] ["rig", "lot", "x", "settings"] (defScope s_agreeing_in) := ⟨rfl, rfl, rfl, by decide +kernel, rfl, by decide +kernel, by decide +kernel⟩
theorem D_agreeing_in (Z : Zp K mg base T) : Df P wo K mg base T "agreeing_in" 1 sp_agreeing_in := by
  obtain ⟨⟨fd, F⟩, hm⟩ := Z.df 19 d_agreeing_in rfl rfl
  refine def_ok F sc_agreeing_in hm (fun _ _ _ _ _ _ us hl => match us, hl with | [_, _, _, _], _ => rfl) (by walk_at "len") fun cdv A outer st H E hr => ?_
  have nd := sc_agreeing_in.nd
  refine ⟨_, (ss1 (sret (xbi (bi_tuple Z.tuple) (xac (xlc (own := [("y", 4)]) rfl nd (by rfl) (xit (xv 1)) (fun _ _ _ _ _ => (xg 4 nd)) (fun _ _ _ _ _ => (xt1 (tval (xbi (bi_all rfl Z.all) (xac (xlc (own := [("g", 5)]) rfl nd (by rfl) (xit (xv 3)) (fun _ _ _ _ _ => (xg 5 nd)) (fun _ _ _ _ _ => xtn) (fun _ _ _ _ _ => (xeq hr (xix (xix (xix (xv 0) xint) (xv 5)) (xv 4)) (xix (xix (xix (xv 0) xint) (xv 5)) (xv 2))))) xan))))) (fun _ _ _ _ _ => (xv 4))) xan)))), fun ds ω R h => ?_⟩
  obtain ⟨r, l, x, gs, rfl, o, hl, hx, hgs, hgl, q⟩ := h
  walk_at "st"
  refine lc_filter l natD (fun y => gs.all fun g => decide (r.sg g y = r.sg g x)) (by have := hl.len o; omega) (fun y ω' Q1 Q2 hy hs h1 h2 => by
    walk_at "st"
    refine lc_map gs natD (fun g => .bl (decide (r.sg g y = r.sg g x))) (by omega) (fun g ω' Q1 Q2 hg hs hq => by
      obtain ⟨row, e1, e2⟩ := o.sign (hgs g hg) (hl.2 y hy)
      obtain ⟨row2, e3, e4⟩ := o.sign (hgs g hg) hx
      rw [e1] at e3
      cases e3
      walk_at "st"
      exact hq) ?_
    walk_at "st"
    cases e : (gs.all fun g => decide (r.sg g y = r.sg g x)) with
    | true => exact iteT (by walk_at "st"; exact h1 e)
    | false => exact iteF (h2 e)) ?_
  walk_at "st"
  exact q
def sp_signs_in : Dsp := fun ds ω R => ∃ (r : Rig) (l : List Nat) (g : Nat), ds = [rigD r, natsD l, natD g] ∧ r.Ok ∧ LotOk r l ∧ g < r.m ∧ R (.lst ((sgl r l g).map natD)) ω
theorem sc_signs_in : FnScope ["rig", "lot", "g", "x"] ["rig", "lot", "g"] (defScope s_signs_in) := ⟨rfl, rfl, rfl, by decide +kernel, rfl, by decide +kernel, by decide +kernel⟩
theorem D_signs_in (Z : Zp K mg base T) : Df P wo K mg base T "signs_in" 1 sp_signs_in := by
  obtain ⟨⟨fd, F⟩, hm⟩ := Z.df 20 d_signs_in rfl rfl
  refine def_ok F sc_signs_in hm (fun _ _ _ _ _ _ us hl => match us, hl with | [_, _, _], _ => rfl) (by walk_at "len") fun cdv A outer st H E hr => ?_
  have nd := sc_signs_in.nd
  refine ⟨_, (ss1 (sret (xsortset (own := [("x", 3)]) 1 3 rfl Z.sorted nd (by rfl) rfl (by first | exact Or.inl rfl | exact Or.inr (Or.inl rfl)) (fun _ _ _ _ _ => pg_name nd rfl (by first | exact Or.inl rfl | exact Or.inr rfl) (by first | exact Or.inl rfl | exact Or.inr rfl)) (fun _ _ _ _ _ => (ypx (ypx (ypx (ypv 0) ypi) (ypv 2)) (ypv 3))) (by decide)))), fun ds ω R h => ?_⟩
  obtain ⟨r, l, g, rfl, o, hl, hg, q⟩ := h
  refine ⟨l.map natD, rfl, by rw [List.length_map]; have := hl.len o; omega, fun d => match d with | .int i => (r.sg g i.toNat : Int) | _ => 0, fun d hd => ?_, fun ns h1 h2 => ?_⟩
  · obtain ⟨x, hx, rfl⟩ := List.mem_map.mp hd
    obtain ⟨row, e1, e2⟩ := o.sign hg (hl.2 x hx)
    walk_at "st"
    rfl
  · have e : ns = (sgl r l g).map Int.ofNat := by
      refine asc_uniq h1 (List.pairwise_map.mpr (List.Pairwise.imp (fun h => Int.ofNat_lt.mpr h) sgl_asc)) fun k => ?_
      rw [h2, List.mem_map, List.mem_map]
      constructor
      · rintro ⟨d, hd, e⟩
        obtain ⟨x, hx, rfl⟩ := List.mem_map.mp hd
        exact ⟨r.sg g x, (mem_sgl o hl hg).mpr ⟨x, hx, rfl⟩, e⟩
      · rintro ⟨s, hs, e⟩
        obtain ⟨x, hx, e2⟩ := (mem_sgl o hl hg).mp hs
        refine ⟨natD x, List.mem_map.mpr ⟨x, hx, rfl⟩, ?_⟩
        rw [← e, ← e2]; rfl
    have e2 : ns.map Da.int = (sgl r l g).map natD := by rw [e, List.map_map]; rfl
    rw [e2]
    exact q
def sp_has_one_sign : Dsp := fun ds ω R => ∃ (r : Rig) (l : List Nat) (g : Nat), ds = [rigD r, natsD l, natD g] ∧ r.Ok ∧ LotOk r l ∧ g < r.m ∧ R (.bl (oneSign r l g)) ω
theorem sc_has_one_sign : FnScope ["rig", "lot", "g"] ["rig", "lot", "g"] (defScope s_has_one_sign) := ⟨rfl, rfl, rfl, by decide +kernel, rfl, by decide +kernel, by decide +kernel⟩
theorem D_has_one_sign (Z : Zp K mg base T) : Df P wo K mg base T "has_one_sign" 2 sp_has_one_sign := by
  obtain ⟨⟨fd, F⟩, hm⟩ := Z.df 21 d_has_one_sign rfl rfl
  have D_signs_in := D_signs_in (P := P) (wo := wo) Z
  refine def_ok F sc_has_one_sign hm (fun _ _ _ _ _ _ us hl => match us, hl with | [_, _, _], _ => rfl) (by walk_at "len") fun cdv A outer st H E hr => ?_
  have nd := sc_has_one_sign.nd
  refine ⟨_, (ss1 (sret (xle (xbi (bi_len Z.len) (xac (xcall D_signs_in (hr.mono (by first | decide | omega)) (xac (xv 0) (xac (xv 1) (xac (xv 2) xan)))) xan)) xint))), fun ds ω R h => ?_⟩
  obtain ⟨r, l, g, rfl, o, hl, hg, q⟩ := h
  walk_at "st"
  have e : oneSign r l g = decide ((((sgl r l g).map natD).length : Int) ≤ 1) := by
    unfold oneSign
    rw [List.length_map]
    by_cases c : (sgl r l g).length ≤ 1
    · rw [decide_eq_true c, decide_eq_true (by omega)]
    · rw [decide_eq_false c, decide_eq_false (by omega)]
  rw [e] at q
  exact q
def sp_parts_at : Dsp := fun ds ω R => ∃ (r : Rig) (l : List Nat) (g : Nat), ds = [rigD r, natsD l, natD g] ∧ r.Ok ∧ LotOk r l ∧ g < r.m ∧ R (.tup ((parts r l g).map partD)) ω
theorem sc_parts_at : FnScope ["rig", "lot", "g", "sign", "x"] ["rig", "lot", "g"] (defScope s_parts_at) := ⟨rfl, rfl, rfl, by decide +kernel, rfl, by decide +kernel, by decide +kernel⟩
theorem D_parts_at (Z : Zp K mg base T) : Df P wo K mg base T "parts_at" 2 sp_parts_at := by
  obtain ⟨⟨fd, F⟩, hm⟩ := Z.df 22 d_parts_at rfl rfl
  have D_signs_in := D_signs_in (P := P) (wo := wo) Z
  refine def_ok F sc_parts_at hm (fun _ _ _ _ _ _ us hl => match us, hl with | [_, _, _], _ => rfl) (by walk_at "len") fun cdv A outer st H E hr => ?_
  have nd := sc_parts_at.nd
  refine ⟨_, (ss1 (sret (xbi (bi_tuple Z.tuple) (xac (xlc (own := [("sign", 3)]) rfl nd (by rfl) (xil (xcall D_signs_in (hr.mono (by first | decide | omega)) (xac (xv 0) (xac (xv 1) (xac (xv 2) xan))))) (fun _ _ _ _ _ => (xg 3 nd)) (fun _ _ _ _ _ => xtn) (fun _ _ _ _ _ => (xtup (xac (xv 3) (xac (xbi (bi_tuple Z.tuple) (xac (xlc (own := [("x", 4)]) rfl nd (by rfl) (xit (xv 1)) (fun _ _ _ _ _ => (xg 4 nd)) (fun _ _ _ _ _ => (xt1 (teq hr (xix (xix (xix (xv 0) xint) (xv 2)) (xv 4)) (xv 3)))) (fun _ _ _ _ _ => (xv 4))) xan)) xan))))) xan)))), fun ds ω R h => ?_⟩
  obtain ⟨r, l, g, rfl, o, hl, hg, q⟩ := h
  walk_at "st"
  refine lc_map (sgl r l g) natD (fun s => partD (s, part r l g s)) (by have := parts_len (r := r) (lot := l) (g := g); unfold parts at this; rw [List.length_map] at this; omega) (fun s ω' Q1 Q2 hs _ hq => by
    walk_at "st"
    refine lc_filter l natD (fun x => decide (r.sg g x = s)) (by have := hl.len o; omega) (fun x ω' Q1 Q2 hx _ h1 h2 => by
      obtain ⟨row, e1, e2⟩ := o.sign hg (hl.2 x hx)
      walk_at "st"
      cases e : decide (r.sg g x = s) with
      | true => exact iteT (by walk_at "st"; exact h1 e)
      | false => exact iteF (h2 e)) ?_
    walk_at "st"
    exact hq) ?_
  walk_at "st"
  have e : (sgl r l g).map (fun s => partD (s, part r l g s)) = (parts r l g).map partD := by unfold parts; rw [List.map_map]; rfl
  rw [e]
  exact q
end
end Wr
set_option maxHeartbeats 4000000
/-! wrong_in with a lambda, wrong_part, made_rig. -/
namespace Wr
open PySem PySem.Spec PyProof.Rows L2 Dl LamX LamP
local macro_rules
  | `(tactic| walk_at "len") => `(tactic| (intro ds ω R h; repeat (first | (obtain ⟨e, _⟩ := h; subst e; rfl) | (obtain ⟨_, h⟩ := h))))
  | `(tactic| walk_at "st1") => `(tactic| first
    | apply Exists.intro
    | refine And.intro rfl ?_ | refine iteT ?_ | refine iteF ?_
    | refine And.intro (lst_ptr (by assumption)) ?_ | refine And.intro (seq_ptr (by assumption)) ?_ | refine And.intro (dct_ptr (by assumption)) ?_
    | refine And.intro (lst_ptr Om.set_same) ?_ | refine And.intro (seq_ptr Om.set_same) ?_ | refine And.intro Om.set_same ?_
    | refine And.intro ⟨_, lst_ptr (by assumption)⟩ ?_ | refine And.intro ⟨_, lst_ptr Om.set_same⟩ ?_ | refine And.intro ⟨_, rfl⟩ ?_ | refine And.intro ⟨_, lst_ptr ((Om.set_ne (by assumption)).trans (by assumption))⟩ ?_
    | refine And.intro ((Om.set_ne (by assumption)).trans (by assumption)) ?_ | refine And.intro (lst_ptr ((Om.set_ne (by assumption)).trans (by assumption))) ?_
    | refine And.intro (by assumption) ?_ | refine And.intro (ix_map (by assumption)) ?_
    | refine And.intro (by omega) ?_
    | refine do_all (by rfl) ?_ | refine eq_nat ?_ | refine ne_nat ?_ | refine eq_nats ?_ | refine ne_nats ?_ | refine in_nats ?_ | refine nin_nats ?_)
  | `(tactic| walk_at "st") => `(tactic| repeat walk_at "st1")
def flatR (ρ : Rho) : Rho := ρ.map fun d => match d with
  | some (.int i) => some (.int i)
  | _ => none
theorem flat_of {K : PySem.W.Frag} {H : Hp} : ∀ {ρ : Rho} {σ : L2.St}, Paired (SlotR K H) ρ σ → Flat (flatR ρ) σ
  | _, _, .nil => .nil
  | _, _, .cons r t => by
    refine .cons (fun x e => ?_) (flat_of t)
    rename_i d v _ _
    cases d with
    | none => cases e
    | some d =>
      cases d with
      | int i =>
        cases e
        obtain ⟨u, h1, h2⟩ := r _ rfl
        cases h2
        exact ⟨_, h1, fun _ _ => .int _⟩
      | _ => cases e
def wLam (j : Nat) (w1 w2 wb : WE) : WE := fun ρ ω R => w1 ρ ω fun d1 ω1 => w2 ρ ω1 fun d2 ω2 => ∃ l : List Da, d2 = .tup l ∧ l.length ≤ 90000 ∧ (∀ x ∈ l, ∀ ω' (Q : Da → Om → Prop), Q (.bl false) ω' → wb ((flatR ρ).set j (some x)) ω' Q) ∧ R .non ω2
theorem go_extN {K : PySem.W.Frag} {T : Tb} {ω : Om} {H H' : Hp} (c : Cells K ω H) (e : ExtN H H') (t : Tabs T H') : Go K T ω ω H H' := by
  have k : Kp (hid ω H) (hid ω H') := fun a o h n => by
    obtain ⟨e1, e2⟩ := hid_some h
    exact hid_of e1 (e a o e2 n)
  refine ⟨k, fun a x h => ?_, t⟩
  obtain ⟨o, h1, h2, _⟩ := (c a x h).some
  exact (c a x h).mono k fun u q => e a u q (by rw [h1] at q; cases q; exact h2)
section
variable {X : Cx} {T : Tb}
theorem sc_wrong_in : FnScope ["part", "things", "wrong", "at", "thing"] ["part", "things", "wrong"] (defScope s_wrong_in) := ⟨rfl, rfl, rfl, by decide +kernel, rfl, by decide +kernel, by decide +kernel⟩
theorem xlam {a : Str} {j : Nat} {e1 e2 body : Expr} {params : Arguments} {scope : Scope} {lpos p pos : Pos} {w1 w2 wb : WE} (Z : Zp X.K X.mg X.base T) (hN : X.N.Nodup) (h1 : XE T X e1 w1) (h2 : XE T X e2 w2) (hr : Room 6 X.A) (L : LamA X.env.scope scope a) (hj : X.N[j]? = some a)
    (hcode : X.env.code = .ref (He.cT X.K ("wrong_part", none)).1) (hq : X.env.qual ++ "<lambda>" = ("wrong_part.<locals>.<lambda>" : Str)) (hdef : defaultsOf params X.env = ([], []))
    (hbind : ∀ (q : Str) (cl : List (Str × Addr)) (pm cv ctv u : Value), bindArgs (PySem.W.kla_fn "<lambda>" q params body scope cl pm cv ctv) ⟨[u], []⟩ = pure [(a, u)])
    (hbody : ∀ (A : Around) (outer : List Env) (s : Shared) (H : Hp) (f c' : Addr), Room 4 (A.deeper (lamEnv X scope s.heap.objs.size f c')) → XE T (lamCy X A outer s H scope f c') body wb) (hg : Gl X "wrong_in")
    (he1 : starEach [e1, e2, .Lambda params body scope lpos] X.env = (false, eval e1 X.env) :: starEach [e2, .Lambda params body scope lpos] X.env) (he2 : starEach [e2, .Lambda params body scope lpos] X.env = (false, eval e2 X.env) :: starEach [.Lambda params body scope lpos] X.env) (hpl : (backTo pos (starEach [e2, .Lambda params body scope lpos] X.env)).any (·.1) = false) :
    XE T X (.Call (.Name "wrong_in" p) [e1, e2, .Lambda params body scope lpos] [] pos) (wLam j w1 w2 wb) := by
  have D_first_of := D_first_of (P := X.prog) (wo := X.w) Z
  obtain ⟨t1, p1, ev1⟩ := h1.ex
  obtain ⟨t2, p2, ev2⟩ := h2.ex
  refine ⟨tD X.K T (wLam j w1 w2 wb), ⟨fun pins s σ H Q I hh => ?_⟩, fun σ H ρ ω R Q W q k => ⟨ρ, ω, R, W, q, k⟩⟩
  obtain ⟨ρ, ω, R, W, q, k⟩ := hh
  obtain ⟨⟨fd, F⟩, hm⟩ := Z.df 6 d_wrong_in rfl rfl
  refine wpAny_Call_Name_kw (ld_glob I hg hm ?_)
  refine PySem.W.callWith_K (h₀ := X.base) I.ok.mod.kin F.kp ?_ he1 hpl
  rw [he1]
  show wpAny _ _ (spliced ((false, eval e1 X.env) :: backTo pos (starEach [e2, .Lambda params body scope lpos] X.env))) _ _ s
  refine Calls.spliced_cons (thn (p1.run pins s σ H _ I (ev1 σ H ρ ω _ (fun v H1 => ∃ d ω1, Go X.K T ω ω1 H H1 ∧ Dv X.K (hid ω1 H1) v d ∧ _) W q fun v H1 d ω1 g dv q1 => ⟨d, ω1, g, dv, q1⟩)) fun u1 s1 ⟨v1, H1, I1, r1, d1, ω1, g1, dv1, q1⟩ => ?_)
  rw [he2]
  show wpAny _ _ (spliced ((false, eval e2 X.env) :: backTo pos (starEach [.Lambda params body scope lpos] X.env))) _ _ s1
  refine Calls.spliced_cons (thn (p2.run pins s1 σ H1 _ I1 (ev2 σ H1 ρ ω1 _ (fun v H2 => ∃ d ω2, Go X.K T ω1 ω2 H1 H2 ∧ Dv X.K (hid ω2 H2) v d ∧ _) (W.go g1) q1 fun v H2 d ω2 g dv q2 => ⟨d, ω2, g, dv, q2⟩)) fun u2 s2 ⟨v2, H2, I2, r2, d2, ω2, g2, dv2, q2⟩ => ?_)
  obtain ⟨l, rfl, hl, hall, qR⟩ := q2
  show wpAny _ _ (spliced ((false, eval (.Lambda params body scope lpos) X.env) :: backTo pos (starEach [] X.env))) _ _ s2
  have W2 : Wd X.K T σ ρ ω2 H2 := (W.go g1).go g2
  refine Calls.spliced_cons (lam_make2 (T := T) I2 Z.tb hcode (by rw [hq, Z.tT]; exact List.mem_singleton.mpr rfl) (fun p hp _ => by rw [Z.tT] at hp; rw [List.mem_singleton.mp hp, hq]) W2.tabs hdef (L.has I2.ok) fun f c' pm' ctv H3 s3 I3 eN T3 hf hfn hfr hco => ?_)
  have g3 : Go X.K T ω2 ω2 H2 H3 := go_extN g2.cells eN T3
  refine Calls.spliced_nil ⟨I3.kIn, ?_⟩
  have bn := F.bindsN (ps := ["part", "things", "wrong"]) (fun _ _ _ _ _ _ us hl => match us, hl with | [_, _, _], _ => rfl)
  obtain ⟨oc, od, dV, kV, doc, pm, an, cdv, ct, osl, rfl, lk, hcd, _, _⟩ := F.ex
  have W3 : Wd X.K T σ ρ ω2 H3 := W2.go g3
  have hfl : Flat (flatR ρ) σ := flat_of W3.slots
  have dv1' : Dv X.K (hid ω2 H3) v1 d1 := Dv.mono (g2.trans g3).keep _ _ dv1
  have dv2' : Dv X.K (hid ω2 H3) v2 (.tup l) := Dv.mono g3.keep _ _ dv2
  have dvs : DvAll X.K (hid ω2 H3) [v1, v2, .ref f] [d1, .tup l, .lam f c' (X.env.qual ++ "<lambda>")] := .cons dv1' (.cons dv2' (.cons (.lam (hid_of (by
    cases e : ω2 c' with
    | none => rfl
    | some x =>
      obtain ⟨o, z1, _, z2⟩ := (g3.cells c' x e).some
      rw [hco] at z1
      cases z1
      exact absurd rfl (z2 _)) hco)) .nil))
  have rc : codeAny (model X.prog X.w) X.A (.call (.ref (He.fAd X.K d_wrong_in.at_)) ⟨[u1, u2, .ref f], []⟩) (CR CX0 X.stack X.prog X.w H3 s3 Q E0) s3 := by
    refine run_ofS (N := ["part", "things", "wrong", "at", "thing"]) (ps := ["part", "things", "wrong"]) (us := [u1, u2, .ref f]) (vs := [v1, v2, .ref f]) lk hcd sc_wrong_in hr I3.env0 (bn s3 [u1, u2, .ref f] I3.kIn rfl) (.cons r1 (.cons r2 (.cons rfl .nil))) rfl fun hr' => ?_
    have nd := sc_wrong_in.nd
    have XB : XSs T (cxG X ["part", "things", "wrong", "at", "thing"] "wrong_in" (defScope s_wrong_in) (He.fAd X.K d_wrong_in.at_) cdv s3 H3) (defBody s_wrong_in) _ :=
      (ssc (sset 3 nd (xcall D_first_of (hr'.mono (by decide)) (xac (xlcL (own := [("thing", 4)]) rfl nd (by rfl) (xit (xv 1)) (fun _ _ _ _ _ => (xg 4 nd)) (fun _ _ _ _ _ => xtn) (fun s2 H2 C cl fp hU => xact (i := 2) (an := "wrong") (wa := wVar 4) I3 hN hj L hf hfn hfr (fun u => hbind _ _ _ _ _ u) hr' hfl (fun A outer s H hr => hbody A outer s H f c' hr) hU (xv 4) rfl (by first | exact Or.inl rfl | exact Or.inr (Or.inl rfl) | exact Or.inr (Or.inr rfl)) rfl)) xan)))
        (ss1 (sret (xif (tisN (xv 3) xnon) xnon (xtup (xac (xv 0) (xac (xv 3) xan)))))))
    obtain ⟨t, tp, te⟩ := XB.ex
    refine ⟨t, tp.nox, te _ H3 _ ω2 ⟨fun _ ω' => R .non ω', R, fun _ _ => False, fun _ _ => False⟩ _ (wd_start g3.cells g3.tabs dvs) ?_ ⟨fun σ' H' ρ' ω' g W q' => k _ _ _ _ (((g1.trans g2).trans g3).trans g) .non q', fun v H' d ω' g dv q' => k _ _ _ _ (((g1.trans g2).trans g3).trans g) dv q', fun σ' H' ρ' ω' g W q' => q'.elim, fun σ' H' ρ' ω' g W q' => q'.elim⟩⟩
    walk_at "st"
    refine lc_fun (fun _ => some (.bl false)) hl (fun d ω' Q1 Q2 hd hs h1 h2 => ?_) ?_
    · exact ⟨rfl, _, rfl, hall d hd ω' _ (h1 _ rfl)⟩
    · have e : l.filterMap (fun _ => some (Da.bl false)) = (List.replicate l.length false).map .bl := by
        clear hl hall dv2 dv2' dvs
        induction l with
        | nil => rfl
        | cons x l ih => rw [List.filterMap_cons, ih]; rfl
      rw [e]
      walk_at "st"
      exact qR
  refine wpAny_call (codeAny_mono rc fun r s' hq => ?_)
  cases r with
  | error e => exact (show False from hq).elim
  | ok fl =>
    cases fl with
    | ret u => exact I3.after hq
    | next => exact False.elim hq
    | brk => exact False.elim hq
    | cont => exact False.elim hq
end
section
variable {P : Program} {wo : World} {K : PySem.W.Frag} {mg : Str → Option Value} {base : Heap} {T : Tb}
def sp_wrong_part : Dsp := fun ds ω R => ∃ r : Rig, ds = [rigD r] ∧ r.Ok ∧ R .non ω
theorem sc_wrong_part : FnScope ["thing", "n", "q", "cures", "signs", "moves", "where", "cure", "told"] ["thing"] (defScope s_wrong_part) := ⟨rfl, rfl, rfl, by decide +kernel, rfl, by decide +kernel, by decide +kernel⟩
theorem D_wrong_part (Z : Zp K mg base T) : Df P wo K mg base T "wrong_part" 8 sp_wrong_part := by
  obtain ⟨⟨fd, F⟩, hm⟩ := Z.df 10 d_wrong_part rfl rfl
  have D_is_between := D_is_between (P := P) (wo := wo) Z
  have D_is_tuple_of := D_is_tuple_of (P := P) (wo := wo) Z
  have D_is_ascending := D_is_ascending (P := P) (wo := wo) Z
  have D_is_signs := D_is_signs (P := P) (wo := wo) Z
  have D_wrong_move := D_wrong_move (P := P) (wo := wo) Z
  refine def_okC F sc_wrong_part hm (fun _ _ _ _ _ _ us hl => match us, hl with | [_], _ => rfl) (by walk_at "len") fun cdv A outer st H E hcd hr => ?_
  have nd := sc_wrong_part.nd
  refine ⟨_, (ssc (sasg (xv 0) (xgtp rfl (xgc (xg 1 nd) (xgc (xg 2 nd) (xgc (xg 3 nd) (xgc (xg 4 nd) (xgc (xg 5 nd) xgn)))))))
    (ssc (sif (tnot (tval (xcall D_is_between (hr.mono (by first | decide | omega)) (xac (xv 1) (xac xint (xac (xglob Z.MOST_FAULTS) xan)))))) (ss1 (sret (xtup (xac xint xan)))) ssn)
    (ssc (sif (tnot (tval (xcall D_is_between (hr.mono (by first | decide | omega)) (xac (xv 2) (xac xint (xac (xglob Z.MOST_REMEDIES) xan)))))) (ss1 (sret (xtup (xac xint xan)))) ssn)
    (ssc (sif (tnot (tval (xcall D_is_tuple_of (hr.mono (by first | decide | omega)) (xac (xv 3) (xac (xv 1) (xac (xv 1) xan)))))) (ss1 (sret (xtup (xac xint (xac (xneg xint) xan))))) ssn)
    (ssc (sset 6 nd (xlam (a := "cure") (j := 7) Z nd xint (xv 3) (hr.mono (by decide)) (lamA_by rfl) rfl hcd rfl rfl (fun _ _ _ _ _ _ => rfl) (fun A outer s H f c' hr => (xnot (xcall D_is_ascending (hr.mono (by first | decide | omega)) (xac (xv 7) (xac (xv 2) xan))))) rfl rfl rfl rfl))
    (ssc (sif (tnotN (xv 6) xnon) (ss1 (sret (xv 6))) ssn)
    (ssc (sif (tnot (tval (xcall D_is_tuple_of (hr.mono (by first | decide | omega)) (xac (xv 4) (xac xint (xac (xglob Z.MOST_SETTINGS) xan)))))) (ss1 (sret (xtup (xac xint (xac (xneg xint) xan))))) ssn)
    (ssc (sset 6 nd (xlam (a := "told") (j := 8) Z nd xint (xv 4) (hr.mono (by decide)) (lamA_by rfl) rfl hcd rfl rfl (fun _ _ _ _ _ _ => rfl) (fun A outer s H f c' hr => (xnot (xcall D_is_signs (hr.mono (by first | decide | omega)) (xac (xv 8) (xac (xv 1) xan))))) rfl rfl rfl rfl))
    (ssc (sif (tnotN (xv 6) xnon) (ss1 (sret (xv 6))) ssn)
    (ss1 (sret (xif (tval (xcall D_is_tuple_of (hr.mono (by first | decide | omega)) (xac (xun (xv 5)) (xac xint (xac (xglob Z.MOST_MOVES) xan))))) (xcall D_wrong_move (hr.mono (by first | decide | omega)) (xac (xun (xv 5)) (xac (xbi (bi_len Z.len) (xac (xv 4) xan)) xan))) (xtup (xac xint (xac (xneg xint) xan))))))))))))))), fun ds ω R h => ?_⟩
  obtain ⟨r, rfl, o, q⟩ := h
  have h1 := o.n1
  have h2 := o.n2
  have h3 := o.q1
  have h4 := o.q2
  have h5 := o.cl
  have h6 := o.m1
  have h7 := o.m2
  have h8 := o.ml
  have h9 : r.signs.length = r.m := rfl
  walk_at "st"
  rw [decide_eq_true (by omega), decide_eq_true (by omega)]
  walk_at "st"
  rw [decide_eq_true (by omega), decide_eq_true (by omega)]
  walk_at "st"
  rw [List.length_map, decide_eq_true (by omega), decide_eq_true (by omega)]
  walk_at "st"
  refine ⟨by rw [List.length_map]; omega, fun x hx ω' Q hQ => ?_, ?_⟩
  · obtain ⟨c, hc, rfl⟩ := List.mem_map.mp hx
    obtain ⟨ca, cb⟩ := o.ca c hc
    have := asc_len ca cb
    walk_at "st"
    exact hQ
  walk_at "st"
  rw [List.length_map, decide_eq_true (by omega), decide_eq_true (by omega)]
  walk_at "st"
  refine ⟨by rw [List.length_map]; omega, fun x hx ω' Q hQ => ?_, ?_⟩
  · obtain ⟨c, hc, rfl⟩ := List.mem_map.mp hx
    obtain ⟨ca, cb⟩ := o.sl c hc
    walk_at "st"
    exact hQ
  walk_at "st"
  rw [List.length_map, decide_eq_true (by omega), decide_eq_true (by omega)]
  walk_at "st"
  exact ⟨by rw [List.length_map]; exact o.ma, o.ms, q⟩
def sp_made_rig : Dsp := fun ds ω R => ∃ r : Rig, ds = [rigD r] ∧ r.Ok ∧ R (rigD r) ω
theorem sc_made_rig : FnScope ["thing", "where"] ["thing"] (defScope s_made_rig) := ⟨rfl, rfl, rfl, by decide +kernel, rfl, by decide +kernel, by decide +kernel⟩
theorem D_made_rig (Z : Zp K mg base T) : Df P wo K mg base T "made_rig" 9 sp_made_rig := by
  obtain ⟨⟨fd, F⟩, hm⟩ := Z.df 11 d_made_rig rfl rfl
  have D_is_tuple_of := D_is_tuple_of (P := P) (wo := wo) Z
  have D_wrong_part := D_wrong_part (P := P) (wo := wo) Z
  refine def_ok F sc_made_rig hm (fun _ _ _ _ _ _ us hl => match us, hl with | [_], _ => rfl) (by walk_at "len") fun cdv A outer st H E hr => ?_
  have nd := sc_made_rig.nd
  refine ⟨_, (ssc (sif (tnot (tval (xcall D_is_tuple_of (hr.mono (by first | decide | omega)) (xac (xv 0) (xac xint (xac xint xan)))))) (ss1 snever) ssn)
    (ssc (sset 1 nd (xcall D_wrong_part (hr.mono (by first | decide | omega)) (xac (xv 0) xan)))
    (ssc (sif (tnotN (xv 1) xnon) (ss1 snever) ssn)
    (ss1 (sret (xv 0)))))), fun ds ω R h => ?_⟩
  obtain ⟨r, rfl, o, q⟩ := h
  walk_at "st"
  exact q
def sp_is_rig : Dsp := fun ds ω R => ∃ r : Rig, ds = [rigD r] ∧ r.Ok ∧ R (.bl true) ω
theorem sc_is_rig : FnScope ["thing"] ["thing"] (defScope s_is_rig) := ⟨rfl, rfl, rfl, by decide +kernel, rfl, by decide +kernel, by decide +kernel⟩
theorem D_is_rig (Z : Zp K mg base T) : Df P wo K mg base T "is_rig" 9 sp_is_rig := by
  obtain ⟨⟨fd, F⟩, hm⟩ := Z.df 12 d_is_rig rfl rfl
  have D_wrong_part := D_wrong_part (P := P) (wo := wo) Z
  have D_is_tuple_of := D_is_tuple_of (P := P) (wo := wo) Z
  refine def_ok F sc_is_rig hm (fun _ _ _ _ _ _ us hl => match us, hl with | [_], _ => rfl) (by walk_at "len") fun cdv A outer st H E hr => ?_
  have nd := sc_is_rig.nd
  refine ⟨_, (ss1 (sret (xand (xcall D_is_tuple_of (hr.mono (by first | decide | omega)) (xac (xv 0) (xac xint (xac xint xan)))) (xone (xisN (xcall D_wrong_part (hr.mono (by first | decide | omega)) (xac (xv 0) xan)) xnon))))), fun ds ω R h => ?_⟩
  obtain ⟨r, rfl, o, q⟩ := h
  walk_at "st"
  exact q
end
end Wr
set_option maxHeartbeats 2000000
/-! What free moves come to. -/
namespace Wr
open PySem PySem.Spec PyProof.Rows L2 Dl
inductive Reach (b : Book) (lot : List Nat) (g : Nat) : Nat → Prop
  | self : Reach b lot g g
  | step {h k : Nat} : Reach b lot g h → Adj b lot h k → Reach b lot g k
section
variable {b : Book} {lot m : List Nat} {g h k : Nat}
theorem Reach.trans (a : Reach b lot g h) (c : Reach b lot h k) : Reach b lot g k := by
  induction c with
  | self => exact a
  | step _ e ih => exact ih.step e
theorem Reach.symm (a : Reach b lot g h) : Reach b lot h g := by
  induction a with
  | self => exact .self
  | step _ e ih => exact (Reach.self.step e.symm).trans ih
theorem Reach.sub (s : ∀ x ∈ m, x ∈ lot) (a : Reach b lot g h) : Reach b m g h := by
  induction a with
  | self => exact .self
  | step _ e ih => exact ih.step (e.sub s)
theorem Reach.lt (o : b.rig.Ok) (a : Reach b lot g h) (hg : g < b.rig.m) : h < b.rig.m := by
  induction a with
  | self => exact hg
  | step _ e _ => exact (e.lt o).2
end
/-- what the search has found: settings with numbers of steps -/
structure Fnd (b : Book) (lot : List Nat) (g : Nat) (kvs : List (Nat × Nat)) : Prop where
  nd : (kvs.map (·.1)).Nodup
  src : (g, 0) ∈ kvs
  reach : ∀ p ∈ kvs, Reach b lot g p.1
  step : ∀ p ∈ kvs, p.1 = g ∨ ∃ q ∈ kvs, Adj b lot p.1 q.1 ∧ q.2 < p.2
  small : ∀ p ∈ kvs, p.2 < kvs.length
  lt : ∀ p ∈ kvs, p.1 < b.rig.m
structure DistOk (b : Book) (lot : List Nat) (g : Nat) (kvs : List (Nat × Nat)) : Prop extends Fnd b lot g kvs where
  all : ∀ p ∈ kvs, ∀ h, Adj b lot p.1 h → h ∈ kvs.map (·.1)
section
variable {b : Book} {lot : List Nat} {g h : Nat} {kvs : List (Nat × Nat)}
theorem Fnd.start (hg : g < b.rig.m) : Fnd b lot g [(g, 0)] := by
  refine ⟨by simp, by simp, ?_, ?_, ?_, ?_⟩ <;> intro p hp <;> rw [List.mem_singleton.mp hp]
  · exact .self
  · exact .inl rfl
  · exact Nat.zero_lt_one
  · exact hg
theorem Fnd.add (f : Fnd b lot g kvs) {here d : Nat} (h1 : (here, d) ∈ kvs) (ha : Adj b lot here h) (hn : h ∉ kvs.map (·.1)) (o : b.rig.Ok) : Fnd b lot g (kvs ++ [(h, d + 1)]) := by
  refine ⟨?_, List.mem_append_left _ f.src, fun p hp => ?_, fun p hp => ?_, fun p hp => ?_, fun p hp => ?_⟩
  · rw [List.map_append, List.nodup_append]
    refine ⟨f.nd, by simp, fun x hx y hy e => ?_⟩
    have hy : y = h := by simpa using hy
    subst e
    rw [hy] at hx
    exact hn hx
  · rcases List.mem_append.mp hp with hp | hp
    · exact f.reach p hp
    · rw [List.mem_singleton.mp hp]; exact (f.reach _ h1).step ha
  · rcases List.mem_append.mp hp with hp | hp
    · rcases f.step p hp with e | ⟨q, q1, q2⟩
      · exact .inl e
      · exact .inr ⟨q, List.mem_append_left _ q1, q2⟩
    · rw [List.mem_singleton.mp hp]
      exact .inr ⟨(here, d), List.mem_append_left _ h1, ha.symm, Nat.lt_succ_self _⟩
  · rw [List.length_append]
    show p.2 < kvs.length + 1
    rcases List.mem_append.mp hp with hp | hp
    · exact Nat.lt_succ_of_lt (f.small p hp)
    · rw [List.mem_singleton.mp hp]; exact Nat.succ_lt_succ (f.small _ h1)
  · rcases List.mem_append.mp hp with hp | hp
    · exact f.lt p hp
    · rw [List.mem_singleton.mp hp]; exact (ha.lt o).2
theorem nodup_sub_len {α : Type} [DecidableEq α] : ∀ (l D : List α), l.Nodup → (∀ x ∈ l, x ∈ D) → l.length ≤ D.length
  | [], _, _, _ => Nat.zero_le _
  | x :: l, D, hn, hs => by
    obtain ⟨h1, h2⟩ := List.nodup_cons.mp hn
    have hx := hs x List.mem_cons_self
    have := nodup_sub_len l (D.erase x) h2 fun y hy => by
      have hy2 := hs y (List.mem_cons_of_mem _ hy)
      have hne : y ≠ x := fun e => h1 (by rw [← e]; exact hy)
      exact (List.mem_erase_of_ne hne).mpr hy2
    rw [List.length_erase_of_mem hx] at this
    have hp : 0 < D.length := List.length_pos_of_mem hx
    rw [List.length_cons]
    omega
theorem nodup_len : ∀ {l : List Nat} {n : Nat}, l.Nodup → (∀ x ∈ l, x < n) → l.length ≤ n := by
  intro l n hn hl
  have := nodup_sub_len l (List.range n) hn fun x hx => List.mem_range.mpr (hl x hx)
  rwa [List.length_range] at this
theorem Fnd.len (f : Fnd b lot g kvs) : kvs.length ≤ b.rig.m := by
  have := nodup_len f.nd fun x hx => by
    obtain ⟨p, hp, rfl⟩ := List.mem_map.mp hx
    exact f.lt p hp
  rwa [List.length_map] at this
theorem DistOk.keys (d : DistOk b lot g kvs) : h ∈ kvs.map (·.1) ↔ Reach b lot g h := by
  constructor
  · intro hk
    obtain ⟨p, hp, rfl⟩ := List.mem_map.mp hk
    exact d.reach p hp
  · intro hr
    induction hr with
    | self => exact List.mem_map.mpr ⟨_, d.src, rfl⟩
    | step _ e ih =>
      obtain ⟨p, hp, e2⟩ := List.mem_map.mp ih
      exact d.all p hp _ (by rw [e2]; exact e)
end
/-- a way: settings one free move apart -/
def Way (b : Book) (lot : List Nat) : List Nat → Prop
  | [] => True
  | [_] => True
  | g :: h :: l => Adj b lot g h ∧ Way b lot (h :: l)
theorem Way.snoc {b : Book} {lot : List Nat} : ∀ {l : List Nat} {g h : Nat}, Way b lot (l ++ [g]) → Adj b lot g h → Way b lot (l ++ [g, h])
  | [], _, _, _, a => ⟨a, trivial⟩
  | [x], _, _, w, a => ⟨w.1, a, trivial⟩
  | x :: y :: l, _, _, w, a => ⟨w.1, Way.snoc (l := y :: l) w.2 a⟩
end Wr
namespace Wr
open PySem PySem.Spec PyProof.Rows L2 Dl
/-! ### dicts of settings -/
theorem dct_ptr {ω : Om} {p : Addr} {kvs : List (Int × Da)} (h : ω p = some (.dct kvs)) : dctOf ω (.ptr p) = some kvs := by unfold dctOf; simp only [h]
def encK (kvs : List (Nat × Nat)) : List (Int × Da) := kvs.map fun p => ((p.1 : Int), natD p.2)
def intK (kvs : List (Nat × Nat)) : List (Int × Int) := kvs.map fun p => ((p.1 : Int), (p.2 : Int))
theorem encK_cI (kvs : List (Nat × Nat)) : encK kvs = cI (intK kvs) := by unfold encK cI intK; rw [List.map_map]; rfl
theorem dval_none {kvs : List (Nat × Nat)} {k : Nat} (h : k ∉ kvs.map (·.1)) : dval (encK kvs) (k : Int) = none := by
  unfold dval encK
  rw [List.find?_eq_none.mpr fun x hx => ?_]
  · rfl
  · obtain ⟨p, hp, rfl⟩ := List.mem_map.mp hx
    rw [decide_eq_true_eq]
    intro e
    have e : (p.1 : Int) = (k : Int) := e
    exact h (List.mem_map.mpr ⟨p, hp, by omega⟩)
theorem dval_some {kvs : List (Nat × Nat)} {k d : Nat} (nd : (kvs.map (·.1)).Nodup) (h : (k, d) ∈ kvs) : dval (encK kvs) (k : Int) = some (natD d) := by
  induction kvs with
  | nil => cases h
  | cons p kvs ih =>
    rw [List.map_cons] at nd
    obtain ⟨n1, n2⟩ := List.nodup_cons.mp nd
    unfold encK dval
    rw [List.map_cons]
    rcases List.mem_cons.mp h with e | h
    · subst e
      rw [List.find?_cons_of_pos (by simp)]
      rfl
    · have hne : ¬ (p.1 : Int) = (k : Int) := fun e => n1 (List.mem_map.mpr ⟨(k, d), h, by show k = p.1; omega⟩)
      rw [List.find?_cons_of_neg (by simpa using hne)]
      exact ih n2 h
theorem dval_isSome {kvs : List (Nat × Nat)} {k : Nat} (nd : (kvs.map (·.1)).Nodup) : (dval (encK kvs) (k : Int)).isSome = decide (k ∈ kvs.map (·.1)) := by
  by_cases h : k ∈ kvs.map (·.1)
  · obtain ⟨p, hp, rfl⟩ := List.mem_map.mp h
    rw [dval_some nd (d := p.2) hp, decide_eq_true h]; rfl
  · rw [dval_none h, decide_eq_false h]; rfl
theorem ival_of (kvs : List (Nat × Nat)) (k : Nat) : (ival (intK kvs) (k : Int)).map Da.int = dval (encK kvs) (k : Int) := by
  unfold ival dval intK encK
  induction kvs with
  | nil => rfl
  | cons p kvs ih =>
    rw [List.map_cons, List.map_cons]
    by_cases c : (p.1 : Int) = (k : Int)
    · rw [List.find?_cons_of_pos (by simpa using c), List.find?_cons_of_pos (by simpa using c)]; rfl
    · rw [List.find?_cons_of_neg (by simpa using c), List.find?_cons_of_neg (by simpa using c)]; exact ih
theorem ival_some {kvs : List (Nat × Nat)} {k d : Nat} (nd : (kvs.map (·.1)).Nodup) (h : (k, d) ∈ kvs) : ival (intK kvs) (k : Int) = some (d : Int) := by
  have e := ival_of kvs k
  rw [dval_some nd h] at e
  cases q : ival (intK kvs) (k : Int) with
  | none => rw [q] at e; cases e
  | some x => rw [q] at e; cases e; rfl
theorem ival_isSome {kvs : List (Nat × Nat)} {k : Nat} (nd : (kvs.map (·.1)).Nodup) : (ival (intK kvs) (k : Int)).isSome = decide (k ∈ kvs.map (·.1)) := by
  rw [← dval_isSome nd, ← ival_of]
  cases ival (intK kvs) (k : Int) <;> rfl
end Wr
set_option maxHeartbeats 4000000
/-! Books: their form, bars, free moves. -/
namespace Wr
open PySem PySem.Spec PyProof.Rows L2 Dl
local macro_rules
  | `(tactic| walk_at "len") => `(tactic| (intro ds ω R h; repeat (first | (obtain ⟨e, _⟩ := h; subst e; rfl) | (obtain ⟨_, h⟩ := h))))
  | `(tactic| walk_at "st1") => `(tactic| first
    | apply Exists.intro
    | refine And.intro rfl ?_ | refine iteT ?_ | refine iteF ?_
    | refine And.intro (lst_ptr (by assumption)) ?_ | refine And.intro (seq_ptr (by assumption)) ?_ | refine And.intro (dct_ptr (by assumption)) ?_
    | refine And.intro (lst_ptr Om.set_same) ?_ | refine And.intro (seq_ptr Om.set_same) ?_ | refine And.intro Om.set_same ?_
    | refine And.intro ⟨_, lst_ptr (by assumption)⟩ ?_ | refine And.intro ⟨_, lst_ptr Om.set_same⟩ ?_ | refine And.intro ⟨_, rfl⟩ ?_ | refine And.intro ⟨_, lst_ptr ((Om.set_ne (by assumption)).trans (by assumption))⟩ ?_
    | refine And.intro ((Om.set_ne (by assumption)).trans (by assumption)) ?_ | refine And.intro (lst_ptr ((Om.set_ne (by assumption)).trans (by assumption))) ?_
    | refine And.intro (by assumption) ?_ | refine And.intro (ix_map (by assumption)) ?_
    | refine And.intro (by omega) ?_
    | refine do_all (by rfl) ?_ | refine eq_nat ?_ | refine ne_nat ?_ | refine eq_nats ?_ | refine ne_nats ?_ | refine in_nats ?_ | refine nin_nats ?_)
  | `(tactic| walk_at "st") => `(tactic| repeat walk_at "st1")
section
variable {P : Program} {wo : World} {K : PySem.W.Frag} {mg : Str → Option Value} {base : Heap} {T : Tb}
def sp_is_bar : Dsp := fun ds ω R => ∃ (r : Rig) (l : List Nat), ds = [rigD r, natsD l] ∧ r.n ≤ 1000 ∧ LotOk r l ∧ 1 ≤ l.length ∧ l.length ≤ 3 ∧ R (.bl true) ω
theorem sc_is_bar : FnScope ["rig", "thing"] ["rig", "thing"] (defScope s_is_bar) := ⟨rfl, rfl, rfl, by decide +kernel, rfl, by decide +kernel, by decide +kernel⟩
theorem D_is_bar (Z : Zp K mg base T) : Df P wo K mg base T "is_bar" 6 sp_is_bar := by
  obtain ⟨⟨fd, F⟩, hm⟩ := Z.df 24 d_is_bar rfl rfl
  have D_is_lot := D_is_lot (P := P) (wo := wo) Z
  refine def_ok F sc_is_bar hm (fun _ _ _ _ _ _ us hl => match us, hl with | [_, _], _ => rfl) (by walk_at "len") fun cdv A outer st H E hr => ?_
  have nd := sc_is_bar.nd
  refine ⟨_, (ss1 (sret (xand (xcall D_is_lot (hr.mono (by first | decide | omega)) (xac (xv 0) (xac (xv 1) xan))) (xone (xlele xint (xbi (bi_len Z.len) (xac (xv 1) xan)) (xglob Z.MOST_IN_BAR)))))), fun ds ω R h => ?_⟩
  obtain ⟨r, l, rfl, hn, hl, h1, h3, q⟩ := h
  walk_at "st"
  rw [List.length_map, decide_eq_true (by omega)]
  walk_at "st"
  show R (.bl (decide _)) _
  rw [decide_eq_true (by omega)]
  exact q
def sp_are_bars : Dsp := fun ds ω R => ∃ (r : Rig) (bs : List (List Nat)), ds = [rigD r, barsD bs] ∧ r.n ≤ 1000 ∧ bs.length ≤ 100 ∧ (∀ l ∈ bs, LotOk r l ∧ 1 ≤ l.length ∧ l.length ≤ 3) ∧ bs.Pairwise natLt ∧ R (.bl true) ω
theorem sc_are_bars : FnScope ["rig", "thing", "at", "lot"] ["rig", "thing"] (defScope s_are_bars) := ⟨rfl, rfl, rfl, by decide +kernel, rfl, by decide +kernel, by decide +kernel⟩
theorem D_are_bars (Z : Zp K mg base T) : Df P wo K mg base T "are_bars" 7 sp_are_bars := by
  obtain ⟨⟨fd, F⟩, hm⟩ := Z.df 25 d_are_bars rfl rfl
  have D_is_bar := D_is_bar (P := P) (wo := wo) Z
  have D_is_tuple_of := D_is_tuple_of (P := P) (wo := wo) Z
  refine def_ok F sc_are_bars hm (fun _ _ _ _ _ _ us hl => match us, hl with | [_, _], _ => rfl) (by walk_at "len") fun cdv A outer st H E hr => ?_
  have nd := sc_are_bars.nd
  refine ⟨_, (ssc (sif (tw (twor (tnot (tval (xcall D_is_tuple_of (hr.mono (by first | decide | omega)) (xac (xv 1) (xac xint (xac (xglob Z.MOST_BARS) xan)))))) (twor1 (tnot (tval (xbi (bi_all rfl Z.all) (xac (xlc (own := [("lot", 3)]) rfl nd (by rfl) (xit (xv 1)) (fun _ _ _ _ _ => (xg 3 nd)) (fun _ _ _ _ _ => xtn) (fun _ _ _ _ _ => (xcall D_is_bar (hr.mono (by first | decide | omega)) (xac (xv 0) (xac (xv 3) xan))))) xan))))))) (ss1 (sret xbl)) ssn)
    (ss1 (sret (xbi (bi_all rfl Z.all) (xac (xlc (own := [("at", 2)]) rfl nd (by rfl) (xir2 Z.range xint (xbi (bi_len Z.len) (xac (xv 1) xan))) (fun _ _ _ _ _ => (xg 2 nd)) (fun _ _ _ _ _ => xtn) (fun _ _ _ _ _ => (xltT hr (xix (xv 1) (xsub (xv 2) xint)) (xix (xv 1) (xv 2))))) xan))))), fun ds ω R h => ?_⟩
  obtain ⟨r, bs, rfl, hn, hb, hl, hp, q⟩ := h
  walk_at "st"
  rw [List.length_map, decide_eq_true (by omega), decide_eq_true (by omega)]
  walk_at "st"
  refine lc_map bs natsD (fun x => .bl true) (by omega) (fun x ω' Q1 Q2 hx hs hq => by
    obtain ⟨a1, a2, a3⟩ := hl x hx
    walk_at "st"
    exact hq) ?_
  walk_at "st"
  rw [all_on fun x hx => rfl]
  walk_at "st"
  rw [List.length_map, show ((bs.length : Int) - 1).toNat = bs.length - 1 from by omega, rgD_1]
  refine ⟨by omega, ?_⟩
  refine lc_map (List.range (bs.length - 1)) (fun i => .int (1 + ((i : Nat) : Int))) (fun i => .bl true) (by rw [List.length_range]; omega) (fun i ω' Q1 Q2 hx hs hq => by
    obtain ⟨x, y, e1, e2, e3, e4⟩ := near_ix (enc := natsD) (List.mem_range.mp hx)
    walk_at "st"
    refine lt_nats ?_
    obtain ⟨u1, u2⟩ := List.getElem?_eq_some_iff.mp e1
    obtain ⟨v1, v2⟩ := List.getElem?_eq_some_iff.mp e2
    have ord : natLt bs[i] bs[i + 1] := List.pairwise_iff_getElem.mp hp i (i + 1) u1 v1 (Nat.lt_succ_self _)
    rw [u2, v2] at ord
    have ord : HT.lexLt (x.map Int.ofNat) (y.map Int.ofNat) = true := ord
    rw [ord]
    exact hq) ?_
  walk_at "st"
  rw [all_on fun x hx => rfl]
  exact q
def sp_wrong_bars : Dsp := fun ds ω R => ∃ b : Book, ds = [rigD b.rig, .tup (b.bars.map barsD)] ∧ b.Ok ∧ R .non ω
theorem sc_wrong_bars : FnScope ["rig", "bars", "many", "move", "lots"] ["rig", "bars"] (defScope s_wrong_bars) := ⟨rfl, rfl, rfl, by decide +kernel, rfl, by decide +kernel, by decide +kernel⟩
theorem D_wrong_bars (Z : Zp K mg base T) : Df P wo K mg base T "wrong_bars" 8 sp_wrong_bars := by
  obtain ⟨⟨fd, F⟩, hm⟩ := Z.df 26 d_wrong_bars rfl rfl
  have D_is_tuple_of := D_is_tuple_of (P := P) (wo := wo) Z
  have D_are_bars := D_are_bars (P := P) (wo := wo) Z
  refine def_ok F sc_wrong_bars hm (fun _ _ _ _ _ _ us hl => match us, hl with | [_, _], _ => rfl) (by walk_at "len") fun cdv A outer st H E hr => ?_
  have nd := sc_wrong_bars.nd
  refine ⟨_, (ssc (sset 2 nd (xbi (bi_len Z.len) (xac (xun (xix (xv 0) xint)) xan)))
    (ssc (sif (tnot (tval (xcall D_is_tuple_of (hr.mono (by first | decide | omega)) (xac (xv 1) (xac (xv 2) (xac (xv 2) xan)))))) (ss1 (sret (xneg xint))) ssn)
    (ssc (sfor PassesOwn.never rfl (xienum Z.enumerate (xv 1)) (xgtp rfl (xgc (xg 3 nd) (xgc (xg 4 nd) xgn))) (ss1 (sif (tnot (tval (xcall D_are_bars (hr.mono (by first | decide | omega)) (xac (xv 0) (xac (xv 4) xan))))) (ss1 (sret (xv 3))) ssn)))
    (ss1 (sret xnon))))), fun ds ω R h => ?_⟩
  obtain ⟨b, rfl, o, q⟩ := h
  have h1 := o.len
  have h2 := o.rig.ml
  have h3 := o.rig.n2
  walk_at "st"
  rw [List.length_map, List.length_map, decide_eq_true (by omega), decide_eq_true (by omega)]
  walk_at "st"
  rw [enD_map]
  refine for_on b.bars.zipIdx (enPD barsD) (fun i ρ' ω' => ∃ x y, ρ' = [some (rigD b.rig), some (.tup (b.bars.map barsD)), some (.int (b.rig.moves.length : Int)), x, y] ∧ ω' = ω) ⟨_, _, by rw [← List.length_map pairD]; rfl, rfl⟩ (fun i x ρ' ω' hx hI => ?_) fun ρ' ω' hI => ?_
  · obtain ⟨_, _, rfl, rfl⟩ := hI
    obtain ⟨p, k⟩ := x
    have hk : b.bars[k]? = some p := zip_mem.mp (List.mem_of_getElem? hx)
    obtain ⟨l1, l2, l3⟩ := o.lots p (List.mem_of_getElem? hk)
    walk_at "st"
    have l1' : p.length ≤ 100 := by omega
    refine ⟨l1', l2, l3, ?_⟩
    walk_at "st"
    rfl
  · obtain ⟨_, _, rfl, rfl⟩ := hI
    walk_at "st"
    exact q
def sp_made_book : Dsp := fun ds ω R => ∃ b : Book, ds = [bookD b] ∧ b.Ok ∧ R (bookD b) ω
theorem sc_made_book : FnScope ["thing", "wrong"] ["thing"] (defScope s_made_book) := ⟨rfl, rfl, rfl, by decide +kernel, rfl, by decide +kernel, by decide +kernel⟩
theorem D_made_book (Z : Zp K mg base T) : Df P wo K mg base T "made_book" 10 sp_made_book := by
  obtain ⟨⟨fd, F⟩, hm⟩ := Z.df 27 d_made_book rfl rfl
  have D_is_tuple_of := D_is_tuple_of (P := P) (wo := wo) Z
  have D_wrong_bars := D_wrong_bars (P := P) (wo := wo) Z
  have D_made_rig := D_made_rig (P := P) (wo := wo) Z
  refine def_ok F sc_made_book hm (fun _ _ _ _ _ _ us hl => match us, hl with | [_], _ => rfl) (by walk_at "len") fun cdv A outer st H E hr => ?_
  have nd := sc_made_book.nd
  refine ⟨_, (ssc (sif (tnot (tval (xcall D_is_tuple_of (hr.mono (by first | decide | omega)) (xac (xv 0) (xac xint (xac xint xan)))))) (ss1 snever) ssn)
    (ssc (sset 1 nd (xcall D_wrong_bars (hr.mono (by first | decide | omega)) (xac (xcall D_made_rig (hr.mono (by first | decide | omega)) (xac (xix (xv 0) xint) xan)) (xac (xix (xv 0) xint) xan))))
    (ssc (sif (tnotN (xv 1) xnon) (ss1 snever) ssn)
    (ss1 (sret (xv 0)))))), fun ds ω R h => ?_⟩
  obtain ⟨b, rfl, o, q⟩ := h
  have o2 := o.rig
  walk_at "st"
  exact q
def sp_is_book : Dsp := fun ds ω R => ∃ b : Book, ds = [bookD b] ∧ b.Ok ∧ R (.bl true) ω
theorem sc_is_book : FnScope ["thing"] ["thing"] (defScope s_is_book) := ⟨rfl, rfl, rfl, by decide +kernel, rfl, by decide +kernel, by decide +kernel⟩
theorem D_is_book (Z : Zp K mg base T) : Df P wo K mg base T "is_book" 10 sp_is_book := by
  obtain ⟨⟨fd, F⟩, hm⟩ := Z.df 28 d_is_book rfl rfl
  have D_wrong_bars := D_wrong_bars (P := P) (wo := wo) Z
  have D_is_rig := D_is_rig (P := P) (wo := wo) Z
  have D_is_tuple_of := D_is_tuple_of (P := P) (wo := wo) Z
  refine def_ok F sc_is_book hm (fun _ _ _ _ _ _ us hl => match us, hl with | [_], _ => rfl) (by walk_at "len") fun cdv A outer st H E hr => ?_
  have nd := sc_is_book.nd
  refine ⟨_, (ss1 (sret (xand (xcall D_is_tuple_of (hr.mono (by first | decide | omega)) (xac (xv 0) (xac xint (xac xint xan)))) (xand (xcall D_is_rig (hr.mono (by first | decide | omega)) (xac (xix (xv 0) xint) xan)) (xone (xisN (xcall D_wrong_bars (hr.mono (by first | decide | omega)) (xac (xix (xv 0) xint) (xac (xix (xv 0) xint) xan))) xnon)))))), fun ds ω R h => ?_⟩
  obtain ⟨b, rfl, o, q⟩ := h
  have o2 := o.rig
  walk_at "st"
  exact q
theorem find_take {α : Type} {p : α → Bool} {l : List α} {i : Nat} {x : α} (h : ∀ y ∈ l.take i, p y = false) (hx : l[i]? = some x) (hp : p x = true) : l.find? p = some x := by
  have e : l = l.take i ++ (x :: l.drop (i + 1)) := by
    obtain ⟨h1, h2⟩ := List.getElem?_eq_some_iff.mp hx
    rw [← h2, ← List.drop_eq_getElem_cons h1, List.take_append_drop]
  rw [e, List.find?_append, List.find?_eq_none.mpr fun y hy => by rw [h y hy]; decide, List.find?_cons_of_pos hp]
  rfl
def sp_bar_at : Dsp := fun ds ω R => ∃ (b : Book) (lot : List Nat) (k : Nat), ds = [bookD b, natsD lot, natD k] ∧ b.Ok ∧ k < b.rig.moves.length ∧ R (optD (barAt b lot k)) ω
theorem sc_bar_at : FnScope ["book", "lot", "move", "bar"] ["book", "lot", "move"] (defScope s_bar_at) := ⟨rfl, rfl, rfl, by decide +kernel, rfl, by decide +kernel, by decide +kernel⟩
theorem D_bar_at (Z : Zp K mg base T) : Df P wo K mg base T "bar_at" 2 sp_bar_at := by
  obtain ⟨⟨fd, F⟩, hm⟩ := Z.df 29 d_bar_at rfl rfl
  have D_is_within := D_is_within (P := P) (wo := wo) Z
  refine def_ok F sc_bar_at hm (fun _ _ _ _ _ _ us hl => match us, hl with | [_, _, _], _ => rfl) (by walk_at "len") fun cdv A outer st H E hr => ?_
  have nd := sc_bar_at.nd
  refine ⟨_, (ssc (sfor PassesOwn.never rfl (xit (xix (xix (xv 0) xint) (xv 2))) (xg 3 nd) (ss1 (sif (tval (xcall D_is_within (hr.mono (by first | decide | omega)) (xac (xv 3) (xac (xv 1) xan)))) (ss1 (sret (xv 3))) ssn)))
    (ss1 (sret xnon))), fun ds ω R h => ?_⟩
  obtain ⟨b, lot, k, rfl, o, hk, q⟩ := h
  have hk2 : k < b.bars.length := by rw [o.len]; exact hk
  have ek : b.bars[k]? = some b.bars[k] := List.getElem?_eq_getElem hk2
  have eg : b.bars.getD k [] = b.bars[k] := by rw [List.getD_eq_getElem?_getD, ek]; rfl
  obtain ⟨l1, l2, l3⟩ := o.lots _ (List.getElem_mem hk2)
  unfold barAt at q
  rw [eg] at q
  walk_at "st"
  refine for_on b.bars[k] natsD (fun i ρ' ω' => (∃ x, ρ' = [some (bookD b), some (natsD lot), some (natD k), x]) ∧ ω' = ω ∧ ∀ y ∈ b.bars[k].take i, within y lot = false) ⟨⟨_, rfl⟩, rfl, by simp⟩ (fun i x ρ' ω' hx hI => ?_) fun ρ' ω' hI => ?_
  · obtain ⟨⟨_, rfl⟩, rfl, hb⟩ := hI
    have := (l2 x (List.mem_of_getElem? hx)).2.2
    walk_at "st"
    cases e : within x lot with
    | true =>
      rw [find_take hb hx e] at q
      walk_at "st"
      exact q
    | false =>
      refine iteF ⟨⟨_, rfl⟩, rfl, fun y hy => ?_⟩
      rw [take_next' hx] at hy
      rcases List.mem_append.mp hy with hy | hy
      · exact hb y hy
      · rw [List.mem_singleton.mp hy]; exact e
  · obtain ⟨⟨_, rfl⟩, rfl, hb⟩ := hI
    rw [List.take_length] at hb
    rw [List.find?_eq_none.mpr fun y hy => by rw [hb y hy]; decide] at q
    walk_at "st"
    exact q
def sp_is_free : Dsp := fun ds ω R => ∃ (b : Book) (lot : List Nat) (k : Nat), ds = [bookD b, natsD lot, natD k] ∧ b.Ok ∧ k < b.rig.moves.length ∧ R (.bl (free b lot k)) ω
theorem sc_is_free : FnScope ["book", "lot", "move"] ["book", "lot", "move"] (defScope s_is_free) := ⟨rfl, rfl, rfl, by decide +kernel, rfl, by decide +kernel, by decide +kernel⟩
theorem D_is_free (Z : Zp K mg base T) : Df P wo K mg base T "is_free" 3 sp_is_free := by
  obtain ⟨⟨fd, F⟩, hm⟩ := Z.df 30 d_is_free rfl rfl
  have D_bar_at := D_bar_at (P := P) (wo := wo) Z
  refine def_ok F sc_is_free hm (fun _ _ _ _ _ _ us hl => match us, hl with | [_, _, _], _ => rfl) (by walk_at "len") fun cdv A outer st H E hr => ?_
  have nd := sc_is_free.nd
  refine ⟨_, (ss1 (sret (xisN (xcall D_bar_at (hr.mono (by first | decide | omega)) (xac (xv 0) (xac (xv 1) (xac (xv 2) xan)))) xnon))), fun ds ω R h => ?_⟩
  obtain ⟨b, lot, k, rfl, o, hk, q⟩ := h
  walk_at "st"
  have e : (optD (barAt b lot k)).isN = free b lot k := by
    cases h : barAt b lot k with
    | none => rw [barAt_none.mp h]; rfl
    | some l =>
      cases f : free b lot k with
      | true => rw [barAt_none.mpr f] at h; cases h
      | false => rfl
  rw [e]
  exact q
def sp_free_neighbours : Dsp := fun ds ω R => ∃ (b : Book) (lot : List Nat) (g : Nat), ds = [bookD b, natsD lot, natD g] ∧ b.Ok ∧ ∀ hs : List Nat, hs.length ≤ 6 → (∀ h, h ∈ hs ↔ Adj b lot g h) → R (.lst (hs.map natD)) ω
theorem sc_free_neighbours : FnScope ["book", "lot", "g", "h", "move"] ["book", "lot", "g"] (defScope s_free_neighbours) := ⟨rfl, rfl, rfl, by decide +kernel, rfl, by decide +kernel, by decide +kernel⟩
theorem D_free_neighbours (Z : Zp K mg base T) : Df P wo K mg base T "free_neighbours" 4 sp_free_neighbours := by
  obtain ⟨⟨fd, F⟩, hm⟩ := Z.df 31 d_free_neighbours rfl rfl
  have D_is_free := D_is_free (P := P) (wo := wo) Z
  have D_neighbours_of := D_neighbours_of (P := P) (wo := wo) Z
  refine def_ok F sc_free_neighbours hm (fun _ _ _ _ _ _ us hl => match us, hl with | [_, _, _], _ => rfl) (by walk_at "len") fun cdv A outer st H E hr => ?_
  have nd := sc_free_neighbours.nd
  refine ⟨_, (ss1 (sret (xlc (own := [("h", 3), ("move", 4)]) rfl nd (by rfl) (xit (xcall D_neighbours_of (hr.mono (by first | decide | omega)) (xac (xix (xv 0) xint) (xac (xv 2) xan)))) (fun _ _ _ _ _ => (xgtp rfl (xgc (xg 3 nd) (xgc (xg 4 nd) xgn)))) (fun _ _ _ _ _ => (xt1 (tval (xcall D_is_free (hr.mono (by first | decide | omega)) (xac (xv 0) (xac (xv 1) (xac (xv 4) xan))))))) (fun _ _ _ _ _ => (xv 3))))), fun ds ω R h => ?_⟩
  obtain ⟨b, lot, g, rfl, o, q⟩ := h
  have h2 := o.rig.ml
  walk_at "st"
  intro ps hp
  have hlen : ps.length ≤ 6 := by rw [hp.length_eq]; exact Nat.le_trans nbl_len h2
  walk_at "st"
  refine lc_on ps pairD (fun p => if free b lot p.2 = true then some (natD p.1) else none) (by omega) (fun x ω' Q1 Q2 hx hs h1 h2 => by
    obtain ⟨h, k⟩ := x
    obtain ⟨p, hk, _⟩ := mem_nbl.mp (hp.mem_iff.mp hx)
    have hk2 := (List.getElem?_eq_some_iff.mp hk).1
    walk_at "st"
    cases e : free b lot k with
    | true =>
      refine iteT ?_
      walk_at "st"
      exact h1 _ (by rw [if_pos e])
    | false => exact iteF (h2 (by rw [if_neg (by rw [e]; decide)]))) ?_
  have e : (ps.filterMap fun p => if free b lot p.2 = true then some (natD p.1) else none) = ((ps.filter fun p => free b lot p.2).map (·.1)).map natD := by
    rw [fm_ite (fun p : Nat × Nat => free b lot p.2) (fun p : Nat × Nat => natD p.1), List.map_map]; rfl
  rw [e]
  refine q _ ?_ fun h => ?_
  · rw [List.length_map]; exact Nat.le_trans (List.length_filter_le _ _) hlen
  · rw [List.mem_map]
    constructor
    · rintro ⟨⟨h', k⟩, hm, rfl⟩
      obtain ⟨m1, m2⟩ := List.mem_filter.mp hm
      obtain ⟨p, hk, he⟩ := mem_nbl.mp (hp.mem_iff.mp m1)
      exact ⟨k, p, hk, he, m2⟩
    · rintro ⟨k, p, hk, he, hf⟩
      exact ⟨(h, k), List.mem_filter.mpr ⟨hp.mem_iff.mpr (mem_nbl.mpr ⟨p, hk, he⟩), hf⟩, rfl⟩
end
end Wr
set_option maxHeartbeats 2000000
/-! Stuck lots. -/
namespace Wr
open PySem PySem.Spec PyProof.Rows L2 Dl
def Region (b : Book) (lot : List Nat) (g : Nat) (gs : List Nat) : Prop := Asc gs ∧ ∀ h, h ∈ gs ↔ Reach b lot g h
structure StuckLot (b : Book) (lot : List Nat) (g : Nat) (K : List Nat) : Prop where
  ok : LotOk b.rig K
  sub : ∀ x ∈ K, x ∈ lot
  bare : done b.rig K = false
  one : ∀ h, Reach b K g h → ∀ x ∈ K, ∀ y ∈ K, b.rig.sg h x = b.rig.sg h y
def Stuck (b : Book) (lot : List Nat) (g : Nat) : Prop := ∃ K, StuckLot b lot g K
structure EndOk (b : Book) (lot : List Nat) (g x : Nat) (K : List Nat) : Prop where
  ok : LotOk b.rig K
  sub : ∀ y ∈ K, y ∈ lot
  mem : x ∈ K
  one : ∀ h, Reach b K g h → ∀ y ∈ K, b.rig.sg h y = b.rig.sg h x
  all : ∀ S : List Nat, (∀ y ∈ S, y ∈ lot) → x ∈ S → (∀ h, Reach b S g h → ∀ y ∈ S, b.rig.sg h y = b.rig.sg h x) → ∀ y ∈ S, y ∈ K
section
variable {b : Book} {lot K : List Nat} {g h x : Nat}
theorem StuckLot.ne (o : b.rig.Ok) (s : StuckLot b lot g K) : K ≠ [] := fun e => by
  have := s.bare
  rw [e, done_nil o] at this; cases this
theorem EndOk.stuck (e : EndOk b lot g x K) (hd : done b.rig K = false) : StuckLot b lot g K := ⟨e.ok, e.sub, hd, fun h hr y hy z hz => by rw [e.one h hr y hy, e.one h hr z hz]⟩
theorem not_stuck (o : b.rig.Ok) (h : ∀ x ∈ lot, ∃ K, EndOk b lot g x K ∧ done b.rig K = true) : ¬ Stuck b lot g := fun ⟨S, s⟩ => by
  obtain ⟨x, hx⟩ := List.exists_mem_of_ne_nil _ (s.ne o)
  obtain ⟨K, e, hd⟩ := h x (s.sub x hx)
  have sub := e.all S s.sub hx fun h hr y hy => s.one h hr y hy x hx
  have := s.bare
  rw [done_sub sub hd] at this
  cases this
theorem stuck_up {P : List Nat} (hr : Reach b lot g h) (hs : ∀ x ∈ P, x ∈ lot) (s : Stuck b P h) : Stuck b lot g := by
  obtain ⟨S, s⟩ := s
  exact ⟨S, s.ok, fun x hx => hs x (s.sub x hx), s.bare, fun h' hr' => s.one h' (((hr.sub fun x hx => hs x (s.sub x hx)).symm).trans hr')⟩
theorem stuck_down (o : b.rig.Ok) (l : LotOk b.rig lot) (hg : g < b.rig.m) (hr : Reach b lot g h) (s : Stuck b lot g) : ∃ q ∈ parts b.rig lot h, Stuck b q.2 h := by
  obtain ⟨S, s⟩ := s
  obtain ⟨x, hx⟩ := List.exists_mem_of_ne_nil _ (s.ne o)
  have hrS := hr.sub s.sub
  refine ⟨(b.rig.sg h x, part b.rig lot h (b.rig.sg h x)), (mem_parts o l (hr.lt o hg)).mpr ⟨⟨x, s.sub x hx, rfl⟩, rfl⟩, S, s.ok, fun y hy => ?_, s.bare, fun h' hr' => s.one h' (hrS.trans hr')⟩
  exact mem_part.mpr ⟨s.sub y hy, s.one h hrS y hy x hx⟩
theorem stuck_iff (o : b.rig.Ok) (l : LotOk b.rig lot) (hg : g < b.rig.m) (hr : Reach b lot g h) : Stuck b lot g ↔ ∃ q ∈ parts b.rig lot h, Stuck b q.2 h :=
  ⟨stuck_down o l hg hr, fun ⟨q, h1, h2⟩ => stuck_up hr (fun x hx => by
    obtain ⟨_, e⟩ := (mem_parts o l (hr.lt o hg)).mp h1
    rw [e] at hx
    exact (mem_part.mp hx).1) h2⟩
theorem stuck_done (hd : done b.rig lot = true) : ¬ Stuck b lot g := fun ⟨S, s⟩ => by
  have := s.bare
  rw [done_sub s.sub hd] at this; cases this
theorem stuck_self (l : LotOk b.rig lot) (hd : done b.rig lot = false) (one : ∀ h, Reach b lot g h → ∀ x ∈ lot, ∀ y ∈ lot, b.rig.sg h x = b.rig.sg h y) : Stuck b lot g := ⟨lot, l, fun _ h => h, hd, one⟩
theorem agree_len (h : agree b.rig K x gs ≠ K) : (agree b.rig K x gs).length < K.length := by
  unfold agree at *
  refine Nat.lt_of_le_of_ne (List.length_filter_le _ _) fun e => h ?_
  exact List.filter_eq_self.mpr (List.length_filter_eq_length_iff.mp e)
end
end Wr
set_option maxHeartbeats 4000000
/-! The search by steps. -/
namespace Wr
open PySem PySem.Spec PyProof.Rows L2 Dl
local macro_rules
  | `(tactic| walk_at "len") => `(tactic| (intro ds ω R h; repeat (first | (obtain ⟨e, _⟩ := h; subst e; rfl) | (obtain ⟨_, h⟩ := h))))
  | `(tactic| walk_at "st1") => `(tactic| first
    | apply Exists.intro
    | refine And.intro rfl ?_ | refine iteT ?_ | refine iteF ?_
    | refine And.intro (lst_ptr (by assumption)) ?_ | refine And.intro (seq_ptr (by assumption)) ?_ | refine And.intro (dct_ptr (by assumption)) ?_
    | refine And.intro (lst_ptr Om.set_same) ?_ | refine And.intro (seq_ptr Om.set_same) ?_ | refine And.intro Om.set_same ?_
    | refine And.intro ⟨_, lst_ptr (by assumption)⟩ ?_ | refine And.intro ⟨_, lst_ptr Om.set_same⟩ ?_ | refine And.intro ⟨_, rfl⟩ ?_ | refine And.intro ⟨_, lst_ptr ((Om.set_ne (by assumption)).trans (by assumption))⟩ ?_
    | refine And.intro ((Om.set_ne (by assumption)).trans (by assumption)) ?_ | refine And.intro (lst_ptr ((Om.set_ne (by assumption)).trans (by assumption))) ?_
    | refine And.intro (by assumption) ?_ | refine And.intro (ix_map (by assumption)) ?_
    | refine And.intro (by omega) ?_
    | refine do_all (by rfl) ?_ | refine eq_nat ?_ | refine ne_nat ?_ | refine eq_nats ?_ | refine ne_nats ?_ | refine in_nats ?_ | refine nin_nats ?_)
  | `(tactic| walk_at "st") => `(tactic| repeat walk_at "st1")
section
variable {P : Program} {wo : World} {K : PySem.W.Frag} {mg : Str → Option Value} {base : Heap} {T : Tb}
def keysOf (kvs : List (Nat × Nat)) : List Nat := kvs.map (·.1)
def sp_distances : Dsp := fun ds ω R => ∃ (b : Book) (lot : List Nat) (g : Nat), ds = [bookD b, natsD lot, natD g] ∧ b.Ok ∧ g < b.rig.m ∧ ∀ kvs, DistOk b lot g kvs → R (.fdct (intK kvs)) ω
theorem sc_distances : FnScope ["book", "lot", "g", "found", "waiting", "later", "here", "h"] ["book", "lot", "g"] (defScope s_distances) := ⟨rfl, rfl, rfl, by decide +kernel, rfl, by decide +kernel, by decide +kernel⟩
theorem D_distances (Z : Zp K mg base T) : Df P wo K mg base T "distances" 5 sp_distances := by
  obtain ⟨⟨fd, F⟩, hm⟩ := Z.df 32 d_distances rfl rfl
  have D_free_neighbours := D_free_neighbours (P := P) (wo := wo) Z
  refine def_okS F sc_distances hm (fun _ _ _ _ _ _ us hl => match us, hl with | [_, _, _], _ => rfl) (by walk_at "len") fun cdv A outer st H E hr => ?_
  have nd := sc_distances.nd
  refine ⟨_, (ssc (sset 3 nd (xdisp (xv 2) xint))
    (ssc (sset 4 nd (xlst (xac (xv 2) xan)))
    (ssc (swhile PassesOwn.never (tne hr (xv 4) (xlst xan)) (ssc (sset 5 nd (xnew xan))
    (ssc (sfor PassesOwn.never rfl (xil (xv 4)) (xg 6 nd) (ss1 (sfor PassesOwn.never rfl (xil (xcall D_free_neighbours (hr.mono (by first | decide | omega)) (xac (xv 0) (xac (xv 1) (xac (xv 6) xan))))) (xg 7 nd) (ss1 (sif (tdnin hr (xv 7) (xv 3)) (ssc (sdput hr (xv 3) (xv 7) (xadd (xdget hr (xv 3) (xv 6)) xint))
    (ss1 (sexpr (xappend (xv 5) (xac (xv 7) xan))))) ssn)))))
    (ss1 (sset 4 nd (xfz (xv 5)))))))
    (ss1 (sret (xfzD (xv 3))))))), fun ds ω R h => ?_⟩
  obtain ⟨b, lot, g, rfl, o, hg, q⟩ := h
  have hm := o.rig.m2
  walk_at "st"
  intro p hp
  walk_at "st"
  refine ⟨fun m ρ' ω' => Hold <| ∃ kvs ws x y z, ρ' = [some (bookD b), some (natsD lot), some (natD g), some (.ptr p), some (.lst (ws.map natD)), x, y, z] ∧ ω' p = some (.dct (encK kvs)) ∧ Sub ω ω' ∧ Fnd b lot g kvs ∧ (∀ w ∈ ws, w ∈ kvs.map (·.1)) ∧ (∀ q ∈ kvs, q.1 ∉ ws → ∀ h, Adj b lot q.1 h → h ∈ kvs.map (·.1)) ∧ ws.length ≤ 100 ∧ m = 2 * (4 - kvs.length) + (if ws = [] then 0 else 1),
    ⟨_, [(g, 0)], [g], _, _, _, rfl, Om.set_same, ((Sub.refl ω).new hp).put hp, Fnd.start hg, by simp, fun q hq hn => ?_, by simp, rfl⟩, fun m ρ' ω' hI => ?_⟩
  · rw [List.mem_singleton.mp hq] at hn
    exact absurd (List.mem_singleton.mpr rfl) hn
  obtain ⟨kvs, ws, _, _, _, rfl, hk, hs, hf, hw, hcl, hwl, rfl⟩ := hI
  walk_at "st"
  refine ne_nil (cl_natm ws) (dep_natm ws) ?_
  walk_at "st"
  by_cases hwn : ws = []
  · rw [decide_eq_true hwn]
    subst hwn
    walk_at "st"
    rw [encK_cI] at hk
    refine ⟨hk, ω, hs.del hp, q kvs ⟨hf, fun q hq => hcl q hq (by simp)⟩⟩
  rw [decide_eq_false hwn]
  walk_at "st"
  intro pl hpl
  walk_at "st"
  have hne : pl ≠ p := fun z => by subst z; rw [hk] at hpl; cases hpl
  have hne' : p ≠ pl := fun z => hne z.symm
  refine for_on ws natD (fun i ρ2 ω2 => Hold <| ∃ kvs2 new y z, ρ2 = [some (bookD b), some (natsD lot), some (natD g), some (.ptr p), some (.lst (ws.map natD)), some (.ptr pl), y, z] ∧ ω2 p = some (.dct (encK kvs2)) ∧ ω2 pl = some (.lst ((new.map (·.1)).map natD)) ∧ Sub ω ω2 ∧ Fnd b lot g kvs2 ∧ kvs2 = kvs ++ new ∧ (∀ w ∈ ws.take i, ∀ h, Adj b lot w h → h ∈ kvs2.map (·.1)))
    ⟨kvs, [], _, _, rfl, (Om.set_ne hne').trans hk, Om.set_same, hs.new hpl, hf, by rw [List.append_nil], by simp⟩ (fun i x ρ2 ω2 hx hI => ?_) fun ρ2 ω2 hI => ?_
  · obtain ⟨kvs2, new, _, _, rfl, hk2, hl2, hs2, hf2, e2, hd2⟩ := hI
    have hxk : x ∈ kvs2.map (·.1) := by
      rw [e2, List.map_append]; exact List.mem_append_left _ (hw x (List.mem_of_getElem? hx))
    obtain ⟨⟨x', d⟩, hxd, ex⟩ := List.mem_map.mp hxk
    have ex : x' = x := ex
    subst ex
    walk_at "st"
    intro hs6 hs6l hs6m
    walk_at "st"
    refine for_on hs6 natD (fun j ρ3 ω3 => Hold <| ∃ kvs3 new3 z, ρ3 = [some (bookD b), some (natsD lot), some (natD g), some (.ptr p), some (.lst (ws.map natD)), some (.ptr pl), some (natD x'), z] ∧ ω3 p = some (.dct (encK kvs3)) ∧ ω3 pl = some (.lst ((new3.map (·.1)).map natD)) ∧ Sub ω ω3 ∧ Fnd b lot g kvs3 ∧ kvs3 = kvs ++ new3 ∧ (∀ w ∈ ws.take i, ∀ h, Adj b lot w h → h ∈ kvs3.map (·.1)) ∧ (x', d) ∈ kvs3 ∧ ∀ h ∈ hs6.take j, h ∈ kvs3.map (·.1))
      ⟨kvs2, new, _, rfl, hk2, hl2, hs2, hf2, e2, hd2, hxd, by simp⟩ (fun j h ρ3 ω3 hh hJ => ?_) fun ρ3 ω3 hJ => ?_
    · obtain ⟨kvs3, new3, _, rfl, hk3, hl3, hs3, hf3, e3, hd3, hx3, hh3⟩ := hJ
      have hadj : Adj b lot x' h := (hs6m h).mp (List.mem_of_getElem? hh)
      have hlen3 := hf3.len
      walk_at "st"
      by_cases hin : h ∈ kvs3.map (·.1)
      · have e : (!(dval (encK kvs3) (h : Int)).isSome) = false := by rw [dval_isSome hf3.nd, decide_eq_true hin]; rfl
        show if (!(dval (encK kvs3) (h : Int)).isSome) = true then _ else _
        rw [e]
        refine iteF ⟨kvs3, new3, _, rfl, hk3, hl3, hs3, hf3, e3, hd3, hx3, fun y hy => ?_⟩
        rw [take_next' hh] at hy
        rcases List.mem_append.mp hy with hy | hy
        · exact hh3 y hy
        · rw [List.mem_singleton.mp hy]; exact hin
      · have e : (!(dval (encK kvs3) (h : Int)).isSome) = true := by rw [dval_isSome hf3.nd, decide_eq_false hin]; rfl
        have hdv := dval_some hf3.nd hx3
        have hdn := dval_none hin
        have hel : (encK kvs3).length < 100000 := by unfold encK; rw [List.length_map]; omega
        have hll : ((new3.map (·.1)).map natD).length < 100000 := by
          rw [List.length_map, List.length_map]
          rw [e3, List.length_append] at hlen3
          omega
        show if (!(dval (encK kvs3) (h : Int)).isSome) = true then _ else _
        rw [e]
        walk_at "st"
        have hf4 := hf3.add hx3 hadj hin o.rig
        have ek : encK kvs3 ++ [((h : Int), .int ((d : Int) + 1))] = encK (kvs3 ++ [(h, d + 1)]) := by
          unfold encK; rw [List.map_append]; rfl
        refine ⟨kvs3 ++ [(h, d + 1)], new3 ++ [(h, d + 1)], _, rfl, ?_, ?_, (hs3.put hp).put (hs.no hpl), hf4, by rw [e3, List.append_assoc], fun w hw h' ha => ?_, List.mem_append_left _ hx3, fun y hy => ?_⟩
        · rw [Om.set_ne hne', Om.set_same, ← ek]
        · rw [Om.set_same, List.map_append, List.map_append]; rfl
        · rw [List.map_append]; exact List.mem_append_left _ (hd3 w hw h' ha)
        · rw [List.map_append]
          rw [take_next' hh] at hy
          rcases List.mem_append.mp hy with hy | hy
          · exact List.mem_append_left _ (hh3 y hy)
          · rw [List.mem_singleton.mp hy]; exact List.mem_append_right _ (by simp)
    · obtain ⟨kvs3, new3, _, rfl, hk3, hl3, hs3, hf3, e3, hd3, hx3, hh3⟩ := hJ
      rw [List.take_length] at hh3
      refine ⟨kvs3, new3, _, _, rfl, hk3, hl3, hs3, hf3, e3, fun w hw h' ha => ?_⟩
      rw [take_next' hx] at hw
      rcases List.mem_append.mp hw with hw | hw
      · exact hd3 w hw h' ha
      · rw [List.mem_singleton.mp hw] at ha
        exact hh3 h' ((hs6m h').mpr ha)
  · obtain ⟨kvs2, new, _, _, rfl, hk2, hl2, hs2, hf2, e2, hd2⟩ := hI
    rw [List.take_length] at hd2
    have hlen2 := hf2.len
    walk_at "st"
    refine ⟨2 * (4 - kvs2.length) + (if new.map (·.1) = [] then 0 else 1), ?_, kvs2, new.map (·.1), _, _, _, rfl, ?_, hs2.del (hs.no hpl), hf2, fun w hw => ?_, fun r hr hn h ha => ?_, ?_, rfl⟩
    · rw [if_neg hwn]
      rw [e2, List.length_append] at hlen2 ⊢
      cases new with
      | nil =>
        show 2 * (4 - (kvs.length + 0)) + (if ([] : List Nat) = [] then 0 else 1) < _
        rw [if_pos rfl]
        omega
      | cons x l =>
        rw [List.length_cons] at hlen2
        rw [List.map_cons, if_neg (by simp), List.length_cons]
        omega
    · rw [Om.del_ne hne']; exact hk2
    · rw [e2, List.map_append]; exact List.mem_append_right _ hw
    · by_cases hr2 : r.1 ∈ ws
      · exact hd2 r.1 hr2 h ha
      · rw [e2] at hr
        rcases List.mem_append.mp hr with hr | hr
        · rw [e2, List.map_append]
          exact List.mem_append_left _ (hcl r hr hr2 h ha)
        · exact absurd (List.mem_map.mpr ⟨r, hr, rfl⟩) hn
    · rw [List.length_map]
      rw [e2, List.length_append] at hlen2
      omega
theorem natm_int (l : List Nat) : l.map natD = (l.map Int.ofNat).map .int := by rw [List.map_map]; rfl
theorem keys_int (kvs : List (Nat × Nat)) : (intK kvs).map (·.1) = (kvs.map (·.1)).map Int.ofNat := by
  unfold intK; rw [List.map_map, List.map_map]; rfl
theorem le_asc : ∀ {l : List Int}, l.Nodup → l.Pairwise (· ≤ ·) → l.Pairwise (· < ·)
  | [], _, _ => .nil
  | x :: l, hn, hp => by
    obtain ⟨n1, n2⟩ := List.nodup_cons.mp hn
    obtain ⟨p1, p2⟩ := List.pairwise_cons.mp hp
    refine List.pairwise_cons.mpr ⟨fun y hy => ?_, le_asc n2 p2⟩
    have := p1 y hy
    have hne : x ≠ y := fun e => n1 (by rw [e]; exact hy)
    omega
/-- sorted of naturals without doubles -/
theorem do_sortI {ω : Om} {R : Da → Om → Prop} {d : Da} (l : List Nat) (hl : lstOf ω d = some (l.map natD)) (q : ∀ m : List Nat, m.Perm l → m.Pairwise (· ≤ ·) → R (.lst (m.map natD)) ω) : fSortedI [d] ω R := by
  refine ⟨d, l.map Int.ofNat, rfl, by rw [hl, natm_int], fun ns hp hs => ?_⟩
  obtain ⟨m, m1, rfl⟩ := perm_map (f := Int.ofNat) (fun x y => Int.ofNat.inj) hp
  rw [← natm_int]
  exact q m m1 (List.Pairwise.imp (fun h => Int.ofNat_le.mp h) (List.pairwise_map.mp hs))
theorem le_ascN {l : List Nat} (hn : l.Nodup) (hp : l.Pairwise (· ≤ ·)) : Asc l := by
  induction l with
  | nil => exact .nil
  | cons x l ih =>
    obtain ⟨n1, n2⟩ := List.nodup_cons.mp hn
    obtain ⟨p1, p2⟩ := List.pairwise_cons.mp hp
    refine List.pairwise_cons.mpr ⟨fun y hy => ?_, ih n2 p2⟩
    have := p1 y hy
    have hne : x ≠ y := fun e => n1 (by rw [e]; exact hy)
    omega
def sp_region_of : Dsp := fun ds ω R => ∃ (b : Book) (lot : List Nat) (g : Nat), ds = [bookD b, natsD lot, natD g] ∧ b.Ok ∧ g < b.rig.m ∧ ∀ gs, Region b lot g gs → R (natsD gs) ω
theorem sc_region_of : FnScope ["book", "lot", "g"] ["book", "lot", "g"] (defScope s_region_of) := ⟨rfl, rfl, rfl, by decide +kernel, rfl, by decide +kernel, by decide +kernel⟩
theorem D_region_of (Z : Zp K mg base T) : Df P wo K mg base T "region_of" 6 sp_region_of := by
  obtain ⟨⟨fd, F⟩, hm⟩ := Z.df 33 d_region_of rfl rfl
  have D_distances := D_distances (P := P) (wo := wo) Z
  refine def_ok F sc_region_of hm (fun _ _ _ _ _ _ us hl => match us, hl with | [_, _, _], _ => rfl) (by walk_at "len") fun cdv A outer st H E hr => ?_
  have nd := sc_region_of.nd
  refine ⟨_, (ss1 (sret (xbi (bi_tuple Z.tuple) (xac (xbi (bi_sortedI Z.sorted) (xac (xbi (bi_listF rfl Z.list) (xac (xcall D_distances (hr.mono (by first | decide | omega)) (xac (xv 0) (xac (xv 1) (xac (xv 2) xan)))) xan)) xan)) xan)))), fun ds ω R h => ?_⟩
  obtain ⟨b, lot, g, rfl, o, hg, q⟩ := h
  walk_at "st"
  intro kvs hd
  walk_at "st"
  rw [keys_int, ← natm_int]
  refine do_sortI (kvs.map (·.1)) rfl fun m hp hs => ?_
  walk_at "st"
  exact q m ⟨le_ascN (hp.nodup_iff.mpr hd.nd) hs, fun h => by rw [hp.mem_iff]; exact hd.keys⟩
theorem at_last {l : List Da} {x : Da} : atI (l ++ [x]) (-1) = some x := by
  unfold atI ixN
  rw [List.length_append]
  have h1 : ¬ (0 : Int) ≤ -1 := by omega
  rw [if_neg h1]
  have h2 : -((l.length + [x].length : Nat) : Int) ≤ -1 := by simp only [List.length_singleton]; omega
  rw [if_pos h2]
  have h3 : (-1 + ((l.length + [x].length : Nat) : Int)).toNat = l.length := by simp only [List.length_singleton]; omega
  rw [h3]
  show (l ++ [x])[l.length]? = some x
  simp
theorem do_dgetF {kvs : List (Nat × Nat)} {k d : Nat} {ω : Om} {R : Da → Om → Prop} (nd : (kvs.map (·.1)).Nodup) (h : (k, d) ∈ kvs) (q : R (natD d) ω) : fDgetF (.fdct (intK kvs)) (natD k) ω R := ⟨_, _, _, rfl, rfl, ival_some nd h, q⟩
theorem do_dninF {kvs : List (Nat × Nat)} {k : Nat} {ω : Om} {R : Da → Om → Prop} (nd : (kvs.map (·.1)).Nodup) (q : R (.bl (!decide (k ∈ kvs.map (·.1)))) ω) : fDinF true (natD k) (.fdct (intK kvs)) ω R := ⟨_, _, rfl, rfl, by
  show R (.bl (!(ival (intK kvs) (k : Int)).isSome)) ω
  rw [ival_isSome nd]; exact q⟩
def sp_way_of : Dsp := fun ds ω R => ∃ (b : Book) (lot : List Nat) (g h : Nat), ds = [bookD b, natsD lot, natD g, natD h] ∧ b.Ok ∧ g < b.rig.m ∧ Reach b lot g h ∧ ∀ l : List Nat, Way b lot (g :: l) → (g :: l).getLast (by simp) = h → l.length ≤ 10 → R (natsD (g :: l)) ω
theorem list_snoc {α : Type} (l : List α) (c d : α) : (l ++ [c]) ++ [d] = l ++ [c, d] := by simp
theorem sc_way_of : FnScope ["book", "lot", "g", "h", "left", "found", "nearer", "k"] ["book", "lot", "g", "h"] (defScope s_way_of) := ⟨rfl, rfl, rfl, by decide +kernel, rfl, by decide +kernel, by decide +kernel⟩
theorem D_way_of (Z : Zp K mg base T) : Df P wo K mg base T "way_of" 6 sp_way_of := by
  obtain ⟨⟨fd, F⟩, hm⟩ := Z.df 34 d_way_of rfl rfl
  have D_distances := D_distances (P := P) (wo := wo) Z
  have D_free_neighbours := D_free_neighbours (P := P) (wo := wo) Z
  refine def_okS F sc_way_of hm (fun _ _ _ _ _ _ us hl => match us, hl with | [_, _, _, _], _ => rfl) (by walk_at "len") fun cdv A outer st H E hr => ?_
  have nd := sc_way_of.nd
  refine ⟨_, (ssc (sset 4 nd (xcall D_distances (hr.mono (by first | decide | omega)) (xac (xv 0) (xac (xv 1) (xac (xv 3) xan)))))
    (ssc (sif (tdninF hr (xv 2) (xv 4)) (ss1 (sret xnon)) ssn)
    (ssc (sset 5 nd (xnew (xac (xv 2) xan)))
    (ssc (swhile PassesOwn.never (tne hr (xix (xv 5) (xneg xint)) (xv 3)) (ssc (ssetLc 6 (own := [("k", 7)]) rfl nd (by rfl) (xil (xcall D_free_neighbours (hr.mono (by first | decide | omega)) (xac (xv 0) (xac (xv 1) (xac (xix (xv 5) (xneg xint)) xan))))) (fun _ _ _ _ _ => (xg 7 nd)) (fun _ _ _ _ _ => (xt1 (tlt (xdgetF hr (xv 4) (xv 7)) (xdgetF hr (xv 4) (xix (xv 5) (xneg xint)))))) (fun _ _ _ _ _ => (xv 7)))
    (ss1 (sexpr (xappend (xv 5) (xac (xix (xv 6) xint) xan))))))
    (ss1 (sret (xbi (bi_tuple Z.tuple) (xac (xv 5) xan)))))))), fun ds ω R h => ?_⟩
  obtain ⟨b, lot, g, h, rfl, o, hg, hr2, q⟩ := h
  have hm := o.rig.m2
  have hh := hr2.lt o.rig hg
  walk_at "st"
  intro kvs hd
  have hgk := hd.keys.mpr hr2.symm
  walk_at "st"
  refine do_dninF hd.nd ?_
  rw [decide_eq_true hgk]
  walk_at "st"
  intro p hp
  obtain ⟨⟨g', d0⟩, hd0, eg⟩ := List.mem_map.mp hgk
  have eg : g' = g := eg
  subst eg
  have hlen := hd.len
  have hsm := hd.small _ hd0
  walk_at "st"
  refine ⟨fun m ρ' ω' => Hold <| ∃ l c x y, ρ' = [some (bookD b), some (natsD lot), some (natD g'), some (natD h), some (.fdct (intK kvs)), some (.ptr p), x, y] ∧ ω' p = some (.lst ((l ++ [c]).map natD)) ∧ Sub ω ω' ∧ Way b lot (l ++ [c]) ∧ (l ++ [c])[0]? = some g' ∧ (c, m) ∈ kvs ∧ l.length + m ≤ 4,
    ⟨d0, ⟨[], g', _, _, rfl, Om.set_same, (Sub.refl ω).new hp, trivial, rfl, hd0, by show 0 + d0 ≤ 4; have : d0 < kvs.length := hsm; omega⟩⟩, fun m ρ' ω' hI => ?_⟩
  obtain ⟨l, c, _, _, rfl, hc, hs, hw, h0, hcm, hlm⟩ := hI
  have hlast : atI ((l ++ [c]).map natD) (-1) = some (natD c) := by rw [List.map_append]; exact at_last
  walk_at "st"
  by_cases ec : c = h
  · rw [decide_eq_true ec]
    subst ec
    walk_at "st"
    obtain ⟨t, et⟩ : ∃ t, l ++ [c] = g' :: t := by
      cases e : l ++ [c] with
      | nil => rw [e] at h0; cases h0
      | cons y t => rw [e] at h0; cases h0; exact ⟨t, rfl⟩
    have hl2 : t.length = l.length := by have := congrArg List.length et; simp at this; omega
    rw [et]
    refine ⟨ω, hs, q t (by rw [← et]; exact hw) ?_ (by omega)⟩
    have : (g' :: t).getLast (by simp) = (l ++ [c]).getLast (by simp) := by congr 1; exact et.symm
    rw [this]; simp
  · rw [decide_eq_false ec]
    walk_at "st"
    intro hs6 hs6l hs6m
    walk_at "st"
    have val : ∀ k ∈ hs6, ∃ dk, (k, dk) ∈ kvs := fun k hk => by
      obtain ⟨⟨k', dk⟩, h1, h2⟩ := List.mem_map.mp (hd.all _ hcm k ((hs6m k).mp hk))
      have h2 : k' = k := h2
      subst h2
      exact ⟨dk, h1⟩
    refine lc_filter hs6 natD (fun k : Nat => decide ((ival (intK kvs) (k : Int)).getD 0 < (m : Int))) (by omega) (fun k ω2 Q1 Q2 hk hsub h1 h2 => by
      obtain ⟨dk, hdk⟩ := val k hk
      have hc2 := hsub p _ hc
      walk_at "st"
      refine do_dgetF hd.nd hdk ?_
      walk_at "st"
      refine do_dgetF hd.nd hcm ?_
      walk_at "st"
      have e : (ival (intK kvs) (k : Int)).getD 0 = (dk : Int) := by rw [ival_some hd.nd hdk]; rfl
      rw [e] at h1 h2
      cases e2 : decide ((dk : Int) < (m : Int)) with
      | true => exact iteT (by walk_at "st"; exact h1 e2)
      | false => exact iteF (h2 e2)) ?_
    have hne : ∃ k rest, (hs6.filter fun k : Nat => decide ((ival (intK kvs) (k : Int)).getD 0 < (m : Int))) = k :: rest := by
      rcases hd.step _ hcm with e | ⟨⟨k, dk⟩, h1, h2, h3⟩
      · exact absurd e ec
      · have hk : k ∈ hs6.filter fun k : Nat => decide ((ival (intK kvs) (k : Int)).getD 0 < (m : Int)) := by
          refine List.mem_filter.mpr ⟨(hs6m k).mpr h2, ?_⟩
          rw [ival_some hd.nd h1]
          have : dk < m := h3
          exact decide_eq_true (by show (dk : Int) < (m : Int); omega)
        cases e : hs6.filter fun k : Nat => decide ((ival (intK kvs) (k : Int)).getD 0 < (m : Int)) with
        | nil => rw [e] at hk; cases hk
        | cons k rest => exact ⟨k, rest, rfl⟩
    obtain ⟨k, rest, ek⟩ := hne
    have hkm : k ∈ hs6.filter fun k : Nat => decide ((ival (intK kvs) (k : Int)).getD 0 < (m : Int)) := by rw [ek]; simp
    obtain ⟨hk1, hk2⟩ := List.mem_filter.mp hkm
    obtain ⟨dk, hdk⟩ := val k hk1
    rw [ival_some hd.nd hdk] at hk2
    have hlt : (dk : Int) < (m : Int) := of_decide_eq_true hk2
    rw [ek]
    have hll : ((l ++ [c]).map natD).length < 100000 := by rw [List.length_map, List.length_append, List.length_singleton]; omega
    have ea : atI ((k :: rest).map natD) 0 = some (natD k) := ix_map (i := 0) rfl
    walk_at "st"
    refine ⟨dk, by omega, l ++ [c], k, _, _, rfl, by rw [Om.set_same, List.map_append, List.map_append, List.map_append]; rfl, hs.put hp, ?_, ?_, hdk, by rw [List.length_append, List.length_singleton]; omega⟩
    · rw [list_snoc]; exact hw.snoc ((hs6m k).mp hk1)
    · rw [List.getElem?_append_left (by rw [List.length_append, List.length_singleton]; omega)]; exact h0
end
end Wr
set_option maxHeartbeats 4000000
/-! Starts, ends, stuck lots. -/
namespace Wr
open PySem PySem.Spec PyProof.Rows L2 Dl
local macro_rules
  | `(tactic| walk_at "len") => `(tactic| (intro ds ω R h; repeat (first | (obtain ⟨e, _⟩ := h; subst e; rfl) | (obtain ⟨_, h⟩ := h))))
  | `(tactic| walk_at "st1") => `(tactic| first
    | apply Exists.intro
    | refine And.intro rfl ?_ | refine iteT ?_ | refine iteF ?_
    | refine And.intro (lst_ptr (by assumption)) ?_ | refine And.intro (seq_ptr (by assumption)) ?_ | refine And.intro (dct_ptr (by assumption)) ?_
    | refine And.intro (lst_ptr Om.set_same) ?_ | refine And.intro (seq_ptr Om.set_same) ?_ | refine And.intro Om.set_same ?_
    | refine And.intro ⟨_, lst_ptr (by assumption)⟩ ?_ | refine And.intro ⟨_, lst_ptr Om.set_same⟩ ?_ | refine And.intro ⟨_, rfl⟩ ?_ | refine And.intro ⟨_, lst_ptr ((Om.set_ne (by assumption)).trans (by assumption))⟩ ?_
    | refine And.intro ((Om.set_ne (by assumption)).trans (by assumption)) ?_ | refine And.intro (lst_ptr ((Om.set_ne (by assumption)).trans (by assumption))) ?_
    | refine And.intro (by assumption) ?_ | refine And.intro (ix_map (by assumption)) ?_
    | refine And.intro (by omega) ?_
    | refine do_all (by rfl) ?_ | refine eq_nat ?_ | refine ne_nat ?_ | refine eq_nats ?_ | refine ne_nats ?_ | refine in_nats ?_ | refine nin_nats ?_)
  | `(tactic| walk_at "st") => `(tactic| repeat walk_at "st1")
section
variable {P : Program} {wo : World} {K : PySem.W.Frag} {mg : Str → Option Value} {base : Heap} {T : Tb}
def sp_home_of : Dsp := fun ds ω R => ∃ (r : Rig), ds = [rigD r] ∧ r.n ≤ 1000 ∧ R (startDa (List.range r.n) 0) ω
theorem sc_home_of : FnScope ["rig"] ["rig"] (defScope s_home_of) := ⟨rfl, rfl, rfl, by decide +kernel, rfl, by decide +kernel, by decide +kernel⟩
theorem D_home_of (Z : Zp K mg base T) : Df P wo K mg base T "home_of" 2 sp_home_of := by
  obtain ⟨⟨fd, F⟩, hm⟩ := Z.df 35 d_home_of rfl rfl
  have D_every_fault := D_every_fault (P := P) (wo := wo) Z
  refine def_ok F sc_home_of hm (fun _ _ _ _ _ _ us hl => match us, hl with | [_], _ => rfl) (by walk_at "len") fun cdv A outer st H E hr => ?_
  have nd := sc_home_of.nd
  refine ⟨_, (ss1 (sret (xtup (xac (xcall D_every_fault (hr.mono (by first | decide | omega)) (xac (xv 0) xan)) (xac (xglob Z.HOME) xan))))), fun ds ω R h => ?_⟩
  obtain ⟨r, rfl, hn, q⟩ := h
  walk_at "st"
  exact q
def sp_is_start : Dsp := fun ds ω R => ∃ (r : Rig) (lot : List Nat) (g : Nat), ds = [rigD r, startDa lot g] ∧ r.n ≤ 1000 ∧ LotOk r lot ∧ lot ≠ [] ∧ g < r.m ∧ R (.bl true) ω
theorem sc_is_start : FnScope ["rig", "thing"] ["rig", "thing"] (defScope s_is_start) := ⟨rfl, rfl, rfl, by decide +kernel, rfl, by decide +kernel, by decide +kernel⟩
theorem D_is_start (Z : Zp K mg base T) : Df P wo K mg base T "is_start" 6 sp_is_start := by
  obtain ⟨⟨fd, F⟩, hm⟩ := Z.df 36 d_is_start rfl rfl
  have D_is_setting := D_is_setting (P := P) (wo := wo) Z
  have D_is_lot := D_is_lot (P := P) (wo := wo) Z
  have D_is_tuple_of := D_is_tuple_of (P := P) (wo := wo) Z
  refine def_ok F sc_is_start hm (fun _ _ _ _ _ _ us hl => match us, hl with | [_, _], _ => rfl) (by walk_at "len") fun cdv A outer st H E hr => ?_
  have nd := sc_is_start.nd
  refine ⟨_, (ss1 (sret (xand (xcall D_is_tuple_of (hr.mono (by first | decide | omega)) (xac (xv 1) (xac xint (xac xint xan)))) (xand (xcall D_is_lot (hr.mono (by first | decide | omega)) (xac (xv 0) (xac (xix (xv 1) xint) xan))) (xand (xne hr (xix (xv 1) xint) (xtup xan)) (xone (xcall D_is_setting (hr.mono (by first | decide | omega)) (xac (xv 0) (xac (xix (xv 1) xint) xan))))))))), fun ds ω R h => ?_⟩
  obtain ⟨r, lot, g, rfl, hn, hl, hne, hg, q⟩ := h
  walk_at "st"
  refine ne_nilt ?_
  rw [decide_eq_false hne]
  walk_at "st"
  exact q
def sp_want_start : Dsp := fun ds ω R => ∃ (r : Rig) (lot : List Nat) (g : Nat), ds = [rigD r, startDa lot g] ∧ r.n ≤ 1000 ∧ LotOk r lot ∧ lot ≠ [] ∧ g < r.m ∧ R .non ω
theorem sc_want_start : FnScope ["rig", "thing"] ["rig", "thing"] (defScope s_want_start) := ⟨rfl, rfl, rfl, by decide +kernel, rfl, by decide +kernel, by decide +kernel⟩
theorem D_want_start (Z : Zp K mg base T) : Df P wo K mg base T "want_start" 7 sp_want_start := by
  obtain ⟨⟨fd, F⟩, hm⟩ := Z.df 37 d_want_start rfl rfl
  have D_is_start := D_is_start (P := P) (wo := wo) Z
  refine def_ok F sc_want_start hm (fun _ _ _ _ _ _ us hl => match us, hl with | [_, _], _ => rfl) (by walk_at "len") fun cdv A outer st H E hr => ?_
  have nd := sc_want_start.nd
  refine ⟨_, (ss1 (sif (tnot (tval (xcall D_is_start (hr.mono (by first | decide | omega)) (xac (xv 0) (xac (xv 1) xan))))) (ss1 snever) ssn)), fun ds ω R h => ?_⟩
  obtain ⟨r, lot, g, rfl, hn, hl, hne, hg, q⟩ := h
  walk_at "st"
  exact q
def sp_made_start : Dsp := fun ds ω R => ∃ (r : Rig) (lot : List Nat) (g : Nat), ds = [rigD r, startDa lot g] ∧ r.Ok ∧ LotOk r lot ∧ lot ≠ [] ∧ g < r.m ∧ R (startDa lot g) ω
theorem sc_made_start : FnScope ["rig", "thing"] ["rig", "thing"] (defScope s_made_start) := ⟨rfl, rfl, rfl, by decide +kernel, rfl, by decide +kernel, by decide +kernel⟩
theorem D_made_start (Z : Zp K mg base T) : Df P wo K mg base T "made_start" 10 sp_made_start := by
  obtain ⟨⟨fd, F⟩, hm⟩ := Z.df 38 d_made_start rfl rfl
  have D_made_rig := D_made_rig (P := P) (wo := wo) Z
  have D_want_start := D_want_start (P := P) (wo := wo) Z
  refine def_ok F sc_made_start hm (fun _ _ _ _ _ _ us hl => match us, hl with | [_, _], _ => rfl) (by walk_at "len") fun cdv A outer st H E hr => ?_
  have nd := sc_made_start.nd
  refine ⟨_, (ssc (sset 0 nd (xcall D_made_rig (hr.mono (by first | decide | omega)) (xac (xv 0) xan)))
    (ssc (sexpr (xcall D_want_start (hr.mono (by first | decide | omega)) (xac (xv 0) (xac (xv 1) xan))))
    (ss1 (sret (xv 1))))), fun ds ω R h => ?_⟩
  obtain ⟨r, lot, g, rfl, o, hl, hne, hg, q⟩ := h
  have hn := o.n2
  walk_at "st"
  exact q
def sp_end_of : Dsp := fun ds ω R => ∃ (b : Book) (lot : List Nat) (g x : Nat), ds = [bookD b, startDa lot g, natD x] ∧ b.Ok ∧ LotOk b.rig lot ∧ g < b.rig.m ∧ x ∈ lot ∧ ∀ K gs, EndOk b lot g x K → R (.tup [natsD K, natsD gs]) ω
theorem sc_end_of : FnScope ["book", "start", "x", "lot", "g", "known", "settings", "more"] ["book", "start", "x"] (defScope s_end_of) := ⟨rfl, rfl, rfl, by decide +kernel, rfl, by decide +kernel, by decide +kernel⟩
theorem D_end_of (Z : Zp K mg base T) : Df P wo K mg base T "end_of" 7 sp_end_of := by
  obtain ⟨⟨fd, F⟩, hm⟩ := Z.df 39 d_end_of rfl rfl
  have D_agreeing_in := D_agreeing_in (P := P) (wo := wo) Z
  have D_region_of := D_region_of (P := P) (wo := wo) Z
  refine def_ok F sc_end_of hm (fun _ _ _ _ _ _ us hl => match us, hl with | [_, _, _], _ => rfl) (by walk_at "len") fun cdv A outer st H E hr => ?_
  have nd := sc_end_of.nd
  refine ⟨_, (ssc (sasg (xv 1) (xgtp rfl (xgc (xg 3 nd) (xgc (xg 4 nd) xgn))))
    (ssc (sset 5 nd (xcall D_agreeing_in (hr.mono (by first | decide | omega)) (xac (xix (xv 0) xint) (xac (xv 3) (xac (xv 2) (xac (xtup (xac (xv 4) xan)) xan))))))
    (ssc (sset 6 nd (xcall D_region_of (hr.mono (by first | decide | omega)) (xac (xv 0) (xac (xv 5) (xac (xv 4) xan)))))
    (ssc (sset 7 nd (xcall D_agreeing_in (hr.mono (by first | decide | omega)) (xac (xix (xv 0) xint) (xac (xv 5) (xac (xv 2) (xac (xv 6) xan))))))
    (ssc (swhile PassesOwn.never (tne hr (xv 7) (xv 5)) (ssc (sset 5 nd (xv 7))
    (ssc (sset 6 nd (xcall D_region_of (hr.mono (by first | decide | omega)) (xac (xv 0) (xac (xv 5) (xac (xv 4) xan)))))
    (ss1 (sset 7 nd (xcall D_agreeing_in (hr.mono (by first | decide | omega)) (xac (xix (xv 0) xint) (xac (xv 5) (xac (xv 2) (xac (xv 6) xan))))))))))
    (ss1 (sret (xtup (xac (xv 5) (xac (xv 6) xan)))))))))), fun ds ω R h => ?_⟩
  obtain ⟨b, lot, g, x, rfl, o, hl, hg, hx, q⟩ := h
  have o1 := o.rig
  have hxn := hl.2 x hx
  have hm := o1.m2
  have reg : ∀ {K gs : List Nat}, Region b K g gs → (∀ h ∈ gs, h < b.rig.m) ∧ gs.length ≤ 4 := fun {K gs} hr => by
    have h1 : ∀ h ∈ gs, h < b.rig.m := fun h hh => ((hr.2 h).mp hh).lt o1 hg
    exact ⟨h1, Nat.le_trans (asc_len hr.1 h1) hm⟩
  walk_at "st"
  have hl1 : LotOk b.rig (agree b.rig lot x [g]) := hl.agree
  have hg1 : ∀ g' ∈ [g], g' < b.rig.m := fun g' hg' => by rw [List.mem_singleton.mp hg']; exact hg
  have hlen1 : [g].length ≤ 1000 := by simp
  refine ⟨(show _ = [rigD b.rig, natsD lot, natD x, natsD [g]] from rfl), ?_⟩
  walk_at "st"
  intro gs hr
  obtain ⟨r1, r2⟩ := reg hr
  walk_at "st"
  refine ⟨fun m ρ' ω' => Hold <| ∃ K gs, ρ' = [some (bookD b), some (startDa lot g), some (natD x), some (natsD lot), some (natD g), some (natsD K), some (natsD gs), some (natsD (agree b.rig K x gs))] ∧ ω' = ω ∧ LotOk b.rig K ∧ (∀ y ∈ K, y ∈ lot) ∧ x ∈ K ∧ Region b K g gs ∧ (∀ S : List Nat, (∀ y ∈ S, y ∈ lot) → x ∈ S → (∀ h, Reach b S g h → ∀ y ∈ S, b.rig.sg h y = b.rig.sg h x) → ∀ y ∈ S, y ∈ K) ∧ m = K.length,
    ⟨_, agree b.rig lot x [g], gs, rfl, rfl, hl1, fun y hy => (mem_agree.mp hy).1, mem_agree.mpr ⟨hx, fun _ _ => rfl⟩, hr, fun S s1 s2 s3 y hy => mem_agree.mpr ⟨s1 y hy, fun g' hg' => ?_⟩, rfl⟩, fun m ρ' ω' hI => ?_⟩
  · rw [List.mem_singleton.mp hg']; exact s3 g .self y hy
  obtain ⟨K, gs, rfl, rfl, k1, k2, k3, k4, k5, rfl⟩ := hI
  obtain ⟨r1, r2⟩ := reg k4
  walk_at "st"
  by_cases e : agree b.rig K x gs = K
  · rw [decide_eq_true e]
    walk_at "st"
    refine q K gs ⟨k1, k2, k3, fun h hr y hy => ?_, k5⟩
    rw [← e] at hy
    exact (mem_agree.mp hy).2 h ((k4.2 h).mpr hr)
  · rw [decide_eq_false e]
    have k1' : LotOk b.rig (agree b.rig K x gs) := k1.agree
    walk_at "st"
    intro gs' hr'
    obtain ⟨r1', r2'⟩ := reg hr'
    walk_at "st"
    refine ⟨_, agree_len e, agree b.rig K x gs, gs', rfl, rfl, k1', fun y hy => k2 y (mem_agree.mp hy).1, mem_agree.mpr ⟨k3, fun _ _ => rfl⟩, hr', fun S s1 s2 s3 y hy => ?_, rfl⟩
    have sk := k5 S s1 s2 s3
    exact mem_agree.mpr ⟨sk y hy, fun h hh => s3 h (((k4.2 h).mp hh).sub sk) y hy⟩
end
end Wr
set_option maxHeartbeats 4000000
/-! The search without numbers; stuck lots told. -/
namespace Wr
open PySem PySem.Spec PyProof.Rows L2 Dl
local macro_rules
  | `(tactic| walk_at "len") => `(tactic| (intro ds ω R h; repeat (first | (obtain ⟨e, _⟩ := h; subst e; rfl) | (obtain ⟨_, h⟩ := h))))
  | `(tactic| walk_at "st1") => `(tactic| first
    | apply Exists.intro
    | refine And.intro rfl ?_ | refine iteT ?_ | refine iteF ?_
    | refine And.intro (lst_ptr (by assumption)) ?_ | refine And.intro (seq_ptr (by assumption)) ?_ | refine And.intro (dct_ptr (by assumption)) ?_
    | refine And.intro (lst_ptr Om.set_same) ?_ | refine And.intro (seq_ptr Om.set_same) ?_ | refine And.intro Om.set_same ?_
    | refine And.intro ⟨_, lst_ptr (by assumption)⟩ ?_ | refine And.intro ⟨_, lst_ptr Om.set_same⟩ ?_ | refine And.intro ⟨_, rfl⟩ ?_ | refine And.intro ⟨_, lst_ptr ((Om.set_ne (by assumption)).trans (by assumption))⟩ ?_
    | refine And.intro ((Om.set_ne (by assumption)).trans (by assumption)) ?_ | refine And.intro (lst_ptr ((Om.set_ne (by assumption)).trans (by assumption))) ?_
    | refine And.intro (by assumption) ?_ | refine And.intro (ix_map (by assumption)) ?_
    | refine And.intro (by omega) ?_
    | refine do_all (by rfl) ?_ | refine eq_nat ?_ | refine ne_nat ?_ | refine eq_nats ?_ | refine ne_nats ?_ | refine in_nats ?_ | refine nin_nats ?_)
  | `(tactic| walk_at "st") => `(tactic| repeat walk_at "st1")
section
variable {P : Program} {wo : World} {K : PySem.W.Frag} {mg : Str → Option Value} {base : Heap} {T : Tb}
/-- lists of settings found -/
structure Met (b : Book) (lot : List Nat) (g : Nat) (ms ws : List Nat) : Prop where
  nd : ms.Nodup
  src : g ∈ ms
  reach : ∀ h ∈ ms, Reach b lot g h
  lt : ∀ h ∈ ms, h < b.rig.m
  sub : ∀ w ∈ ws, w ∈ ms
  all : ∀ h ∈ ms, h ∉ ws → ∀ h', Adj b lot h h' → h' ∈ ms
theorem Met.len {b : Book} {lot : List Nat} {g : Nat} {ms ws : List Nat} (m : Met b lot g ms ws) : ms.length ≤ b.rig.m := nodup_len m.nd m.lt
theorem Met.done {b : Book} {lot : List Nat} {g : Nat} {ms : List Nat} (m : Met b lot g ms []) {h : Nat} : h ∈ ms ↔ Reach b lot g h := by
  constructor
  · exact m.reach h
  · intro r
    induction r with
    | self => exact m.src
    | step _ e ih => exact m.all _ ih (by simp) _ e
theorem pop_last {l : List Nat} (h : l ≠ []) : ∃ i x, l = i ++ [x] := ⟨l.dropLast, l.getLast h, (List.dropLast_concat_getLast h).symm⟩
theorem ne_nil_ptr {α : Type} {enc : α → Da} {m : List α} {ω : Om} {R : Da → Om → Prop} {p : Addr} (h : ω p = some (.lst (m.map enc))) (h1 : clAll (m.map enc) = true) (h2 : depAll (m.map enc) ≤ 50) (q : R (.bl (!decide (m = []))) ω) : fNe (.ptr p) (.lst []) ω R := by
  have e := res_ptr h
  have hd : (Da.lst (m.map enc)).dep ≤ 60 := Nat.le_trans (Nat.succ_le_succ h2) (by decide)
  exact do_ne (by rw [e]; exact h1) rfl (by rw [e]; exact hd) (by rw [e]; exact nil_iff (ω := ω)) q
def sp_closed : Dsp := fun ds ω R => ∃ (b : Book) (lot : List Nat) (g : Nat), ds = [bookD b, natsD lot, natD g] ∧ b.Ok ∧ g < b.rig.m ∧ ∀ gs, Region b lot g gs → R (.lst (gs.map natD)) ω
theorem sc_closed : FnScope ["book", "lot", "g", "met", "waiting", "here", "move", "ends", "there", "h"] ["book", "lot", "g"] (defScope s_closed) := ⟨rfl, rfl, rfl, by decide +kernel, rfl, by decide +kernel, by decide +kernel⟩
theorem D_closed (Z : Zp K mg base T) : Df P wo K mg base T "closed" 4 sp_closed := by
  obtain ⟨⟨fd, F⟩, hm⟩ := Z.df 50 d_closed rfl rfl
  have D_is_free := D_is_free (P := P) (wo := wo) Z
  refine def_okS F sc_closed hm (fun _ _ _ _ _ _ us hl => match us, hl with | [_, _, _], _ => rfl) (by walk_at "len") fun cdv A outer st H E hr => ?_
  have nd := sc_closed.nd
  refine ⟨_, (ssc (sset 3 nd (xnew (xac (xv 2) xan)))
    (ssc (sset 4 nd (xnew (xac (xv 2) xan)))
    (ssc (swhile PassesOwn.never (ttruth (xv 4)) (ssc (sset 5 nd (xpop (xv 4)))
    (ss1 (sfor PassesOwn.never rfl (xienum Z.enumerate (xun (xix (xix (xv 0) xint) xint))) (xgtp rfl (xgc (xg 6 nd) (xgc (xg 7 nd) xgn))) (ssc (ssetLcN 8 (own := [("h", 9)]) rfl nd (by rfl) (xit (xv 7)) (fun _ _ _ _ _ => (xg 9 nd)) (fun _ _ _ _ _ => (xt1 (tw (twand (tin hr (xv 5) (xv 7)) (twand1 (tnin hr (xv 9) (xv 3))))))) (fun _ _ _ _ _ => (xv 9)))
    (ss1 (sif (tw (twand (tne hr (xv 8) (xlst xan)) (twand1 (tval (xcall D_is_free (hr.mono (by first | decide | omega)) (xac (xv 0) (xac (xv 1) (xac (xv 6) xan)))))))) (ssc (sexpr (xextend (xv 3) (xac (xv 8) xan)))
    (ss1 (sexpr (xextend (xv 4) (xac (xv 8) xan))))) ssn)))))))
    (ss1 (sret (xbi (bi_sortedI Z.sorted) (xac (xv 3) xan))))))), fun ds ω R h => ?_⟩
  obtain ⟨b, lot, g, rfl, o, hg, q⟩ := h
  have hm := o.rig.m2
  have hml := o.rig.ml
  walk_at "st"
  intro pm hpm
  walk_at "st"
  intro pw hpw
  walk_at "st"
  have hne : pw ≠ pm := fun z => by subst z; rw [Om.set_same] at hpw; cases hpw
  have hne' : pm ≠ pw := fun z => hne z.symm
  have hw0 : ω pw = none := by rw [Om.set_ne hne] at hpw; exact hpw
  refine ⟨fun m ρ' ω' => Hold <| ∃ ms ws x y z u v, ρ' = [some (bookD b), some (natsD lot), some (natD g), some (.ptr pm), some (.ptr pw), x, y, z, u, v] ∧ ω' pm = some (.lst (ms.map natD)) ∧ ω' pw = some (.lst (ws.map natD)) ∧ Sub ω ω' ∧ Met b lot g ms ws ∧ 2 * (4 - ms.length) + ws.length ≤ 20 ∧ m = 2 * (4 - ms.length) + ws.length,
    ⟨_, ⟨[g], [g], _, _, _, _, _, rfl, (Om.set_ne hne').trans Om.set_same, Om.set_same, ((Sub.refl ω).new hpm).put hw0, ⟨by simp, by simp, fun h hh => by rw [List.mem_singleton.mp hh]; exact .self, fun h hh => by rw [List.mem_singleton.mp hh]; exact hg, fun w hw => hw, fun h hh hn => absurd hh hn⟩, by simp, rfl⟩⟩, fun m ρ' ω' hI => ?_⟩
  obtain ⟨ms, ws, _, _, _, _, _, rfl, hk, hl, hs, hM, hwl, rfl⟩ := hI
  have hmlen := hM.len
  walk_at "st"
  by_cases hwn : ws = []
  · subst hwn
    refine iteF ?_
    walk_at "st"
    refine do_sortI ms (lst_ptr hk) fun gs hp hs2 => ?_
    exact ⟨ω, hs, q gs ⟨le_ascN (hp.nodup_iff.mpr hM.nd) hs2, fun h => by rw [hp.mem_iff]; exact hM.done⟩⟩
  obtain ⟨wi, x, rfl⟩ := pop_last hwn
  have e0 : (!((wi ++ [x]).map natD).isEmpty) = true := by cases wi <;> rfl
  have hl2 : ω' pw = some (.lst (wi.map natD ++ [natD x])) := by rw [hl, List.map_append]; rfl
  show if (!((wi ++ [x]).map natD).isEmpty) = true then _ else _
  rw [e0]
  walk_at "st"
  rw [enD_map]
  have hxm := hM.sub x (by simp)
  have hxlt := hM.lt x hxm
  refine for_on b.rig.moves.zipIdx (enPD pairD) (fun i ρ2 ω2 => Hold <| ∃ ms2 ws2 y z u v, ρ2 = [some (bookD b), some (natsD lot), some (natD g), some (.ptr pm), some (.ptr pw), some (natD x), y, z, u, v] ∧ ω2 pm = some (.lst (ms2.map natD)) ∧ ω2 pw = some (.lst (ws2.map natD)) ∧ Sub ω ω2 ∧ ms2.Nodup ∧ g ∈ ms2 ∧ (∀ h ∈ ms2, Reach b lot g h) ∧ (∀ h ∈ ms2, h < b.rig.m) ∧ (∀ w ∈ ws2, w ∈ ms2) ∧ x ∈ ms2 ∧ (∀ h ∈ ms2, h ∉ ws2 → h ≠ x → ∀ h', Adj b lot h h' → h' ∈ ms2) ∧ (∀ p k h', (p, k) ∈ b.rig.moves.zipIdx.take i → Ends p x h' → free b lot k = true → h' ∈ ms2) ∧ 2 * (4 - ms2.length) + ws2.length + 1 ≤ 2 * (4 - ms.length) + (wi ++ [x]).length ∧ 2 * (4 - ms2.length) + ws2.length ≤ 20)
    ⟨ms, wi, _, _, _, _, rfl, (Om.set_ne hne').trans hk, Om.set_same, hs.put hw0, hM.nd, hM.src, hM.reach, hM.lt, fun w hw => hM.sub w (List.mem_append_left _ hw), hxm, fun h hh hn hx2 => hM.all h hh (by
      intro z
      rcases List.mem_append.mp z with z | z
      · exact hn z
      · exact hx2 (List.mem_singleton.mp z)), by simp, by rw [List.length_append, List.length_singleton]; omega, by rw [List.length_append, List.length_singleton] at hwl; omega⟩ (fun i y ρ2 ω2 hy hI => ?_) fun ρ2 ω2 hI => ?_
  · obtain ⟨ms2, ws2, _, _, _, _, rfl, hk2, hl2', hs2, n1, n2, n3, n4, n5, n6, n7, n8, n9, n10⟩ := hI
    obtain ⟨⟨a, c⟩, k⟩ := y
    have hkm : b.rig.moves[k]? = some (a, c) := zip_mem.mp (List.mem_of_getElem? hy)
    have hk3 := (List.getElem?_eq_some_iff.mp hkm).1
    have hlen2 : ms2.length ≤ 4 := Nat.le_trans (nodup_len n1 n4) hm
    obtain ⟨ma, mc⟩ := o.rig.ma _ (List.mem_of_getElem? hkm)
    have ma : a < c := ma
    have mc : c < b.rig.m := mc
    walk_at "st"
    refine lcN_on [a, c] natD (fun h => if (x = a ∨ x = c) ∧ h ∉ ms2 then some (natD h) else none) (by simp) (fun h ω3 Q1 Q2 hh hsub h1 h2 => by
      have hc3 := hsub pm _ hk2
      walk_at "st"
      refine do_in (P := x = a ∨ x = c) (l := [natD a, natD c]) rfl rfl rfl (Nat.zero_le _) ?_ ?_
      · show natD x ∈ [natD a, natD c] ↔ _
        rw [List.mem_cons, List.mem_singleton]
        exact or_congr ⟨natD_inj, fun e => by rw [e]⟩ ⟨natD_inj, fun e => by rw [e]⟩
      walk_at "st"
      by_cases c1 : x = a ∨ x = c
      · rw [decide_eq_true c1]
        walk_at "st"
        refine nin_natm (seq_ptr hc3) ?_
        by_cases c2 : h ∈ ms2
        · rw [decide_eq_true c2]
          walk_at "st"
          exact h2 (by rw [if_neg (fun z => z.2 c2)])
        · rw [decide_eq_false c2]
          walk_at "st"
          exact h1 _ (by rw [if_pos ⟨c1, c2⟩])
      · rw [decide_eq_false c1]
        exact iteF (iteF (h2 (by rw [if_neg (fun z => c1 z.1)])))) fun pt hpt => ?_
    have eth : ([a, c].filterMap fun h => if (x = a ∨ x = c) ∧ h ∉ ms2 then some (natD h) else none) = ([a, c].filter fun h => decide ((x = a ∨ x = c) ∧ h ∉ ms2)).map natD := by
      rw [← fm_ite (fun h => decide ((x = a ∨ x = c) ∧ h ∉ ms2)) natD]
      refine congrArg (fun f => [a, c].filterMap f) (funext fun h => ?_)
      by_cases z : (x = a ∨ x = c) ∧ h ∉ ms2
      · rw [if_pos z, if_pos (decide_eq_true z)]
      · rw [if_neg z, if_neg (by rw [decide_eq_false z]; decide)]
    rw [eth]
    have cases' : (([a, c].filter fun h => decide ((x = a ∨ x = c) ∧ h ∉ ms2)) = [] ∧ ∀ h', Ends (a, c) x h' → h' ∈ ms2) ∨ ∃ h', ([a, c].filter fun h => decide ((x = a ∨ x = c) ∧ h ∉ ms2)) = [h'] ∧ Ends (a, c) x h' ∧ h' ∉ ms2 ∧ ∀ h2, Ends (a, c) x h2 → h2 = h' := by
      by_cases ca : x = a
      · subst ca
        have na : decide ((x = x ∨ x = c) ∧ x ∉ ms2) = false := decide_eq_false fun z => z.2 n6
        by_cases cc : c ∈ ms2
        · left
          refine ⟨?_, fun h' e => ?_⟩
          · rw [List.filter_cons_of_neg (by rw [na]; decide), List.filter_cons_of_neg (by rw [decide_eq_false fun z => z.2 cc]; decide)]; rfl
          · rcases e with ⟨e1, e2⟩ | ⟨e1, e2⟩
            · have e2 : c = h' := e2
              rw [← e2]; exact cc
            · have e1 : c = x := e1
              omega
        · right
          refine ⟨c, ?_, .inl ⟨rfl, rfl⟩, cc, fun h2 e => ?_⟩
          · rw [List.filter_cons_of_neg (by rw [na]; decide), List.filter_cons_of_pos (p := fun h => decide ((x = x ∨ x = c) ∧ h ∉ ms2)) (a := c) (decide_eq_true ⟨.inl rfl, cc⟩)]; rfl
          · rcases e with ⟨e1, e2⟩ | ⟨e1, e2⟩
            · exact e2.symm
            · have e1 : c = x := e1
              omega
      · by_cases cc : x = c
        · subst cc
          have nc : decide ((x = a ∨ x = x) ∧ x ∉ ms2) = false := decide_eq_false fun z => z.2 n6
          by_cases ca2 : a ∈ ms2
          · left
            refine ⟨?_, fun h' e => ?_⟩
            · rw [List.filter_cons_of_neg (by rw [decide_eq_false fun z => z.2 ca2]; decide), List.filter_cons_of_neg (by rw [nc]; decide)]; rfl
            · rcases e with ⟨e1, e2⟩ | ⟨e1, e2⟩
              · exact absurd (show a = x from e1).symm ca
              · have e2 : a = h' := e2
                rw [← e2]; exact ca2
          · right
            refine ⟨a, ?_, .inr ⟨rfl, rfl⟩, ca2, fun h2 e => ?_⟩
            · rw [List.filter_cons_of_pos (p := fun h => decide ((x = a ∨ x = x) ∧ h ∉ ms2)) (a := a) (decide_eq_true ⟨.inr rfl, ca2⟩), List.filter_cons_of_neg (by rw [nc]; decide)]; rfl
            · rcases e with ⟨e1, e2⟩ | ⟨e1, e2⟩
              · exact absurd (show a = x from e1).symm ca
              · exact e2.symm
        · left
          have nn : ∀ h, decide ((x = a ∨ x = c) ∧ h ∉ ms2) = false := fun h => decide_eq_false fun z => z.1.elim ca cc
          refine ⟨?_, fun h' e => ?_⟩
          · rw [List.filter_cons_of_neg (by rw [nn]; decide), List.filter_cons_of_neg (by rw [nn]; decide)]; rfl
          · rcases e with ⟨e1, e2⟩ | ⟨e1, e2⟩
            · exact absurd (show a = x from e1).symm ca
            · exact absurd (show c = x from e1).symm cc
    generalize ([a, c].filter fun h => decide ((x = a ∨ x = c) ∧ h ∉ ms2)) = th at cases' ⊢
    have hm1 : pm ≠ pt := fun z => by subst z; rw [hk2] at hpt; cases hpt
    have hw1 : pw ≠ pt := fun z => by subst z; rw [hl2'] at hpt; cases hpt
    have hs3 : Sub ω (ω2.set pt (.lst (th.map natD))) := hs2.new hpt
    walk_at "st"
    refine ne_nil_ptr Om.set_same (cl_natm th) (dep_natm th) ?_
    rcases cases' with ⟨rfl, hin⟩ | ⟨h', rfl, he, hn, huq⟩
    · walk_at "st"
      refine ⟨ms2, ws2, _, _, _, _, rfl, (Om.set_ne hm1).trans hk2, (Om.set_ne hw1).trans hl2', hs3, n1, n2, n3, n4, n5, n6, n7, fun p k' h2 hp he2 hf => ?_, n9, n10⟩
      rw [take_next' hy] at hp
      rcases List.mem_append.mp hp with hp | hp
      · exact n8 p k' h2 hp he2 hf
      · cases List.mem_singleton.mp hp
        exact hin h2 he2
    · rw [decide_eq_false (by simp)]
      walk_at "st"
      cases hf : free b lot k with
      | false =>
        walk_at "st"
        refine ⟨ms2, ws2, _, _, _, _, rfl, (Om.set_ne hm1).trans hk2, (Om.set_ne hw1).trans hl2', hs3, n1, n2, n3, n4, n5, n6, n7, fun p k' h2 hp he2 hf2 => ?_, n9, n10⟩
        rw [take_next' hy] at hp
        rcases List.mem_append.mp hp with hp | hp
        · exact n8 p k' h2 hp he2 hf2
        · cases List.mem_singleton.mp hp
          rw [hf] at hf2; cases hf2
      | true =>
        have hadj : Adj b lot x h' := ⟨k, (a, c), hkm, he, hf⟩
        have hlt := (hadj.lt o.rig).2
        have l1 : (ms2.map natD).length + ([h'].map natD).length ≤ 100000 := by rw [List.length_map, List.length_map, List.length_singleton]; omega
        have l2 : (ws2.map natD).length + ([h'].map natD).length ≤ 100000 := by rw [List.length_map, List.length_map, List.length_singleton]; omega
        have hm2 : pt ≠ pm := fun z => hm1 z.symm
        have hw2 : pt ≠ pw := fun z => hw1 z.symm
        have q1 : (ω2.set pt (.lst ([h'].map natD))) pm = some (.lst (ms2.map natD)) := (Om.set_ne hm1).trans hk2
        have q2 : (ω2.set pt (.lst ([h'].map natD))) pw = some (.lst (ws2.map natD)) := (Om.set_ne hw1).trans hl2'
        have q3 : (ω2.set pt (.lst ([h'].map natD))) pt = some (.lst ([h'].map natD)) := Om.set_same
        walk_at "st"
        have n1' : (ms2 ++ [h']).Nodup := List.nodup_append.mpr ⟨n1, by simp, fun u hu v hv e => by
          have hv : v = h' := List.mem_singleton.mp hv
          subst e
          rw [hv] at hu
          exact hn hu⟩
        have n4' : ∀ h ∈ ms2 ++ [h'], h < b.rig.m := fun h hh => by
          rcases List.mem_append.mp hh with hh | hh
          · exact n4 h hh
          · rw [List.mem_singleton.mp hh]; exact hlt
        have hlen3 : (ms2 ++ [h']).length ≤ 4 := Nat.le_trans (nodup_len n1' n4') hm
        rw [List.length_append, List.length_singleton] at hlen3
        refine ⟨ms2 ++ [h'], ws2 ++ [h'], _, _, _, _, rfl, ?_, ?_, (hs3.put hpm).put hw0, n1', List.mem_append_left _ n2, fun h hh => ?_, n4', fun w hw => ?_, List.mem_append_left _ n6, fun h hh hnw hnx h2 ha => ?_, fun p k' h2 hp he2 hf2 => ?_, ?_, ?_⟩
        · rw [Om.set_ne hne', Om.set_same, List.map_append]
        · rw [Om.set_same, List.map_append]
        · rcases List.mem_append.mp hh with hh | hh
          · exact n3 h hh
          · rw [List.mem_singleton.mp hh]; exact (n3 x n6).step hadj
        · rcases List.mem_append.mp hw with hw | hw
          · exact List.mem_append_left _ (n5 w hw)
          · exact List.mem_append_right _ hw
        · rcases List.mem_append.mp hh with hh | hh
          · exact List.mem_append_left _ (n7 h hh (fun z => hnw (List.mem_append_left _ z)) hnx h2 ha)
          · exact absurd (List.mem_append_right _ hh) hnw
        · rw [take_next' hy] at hp
          rcases List.mem_append.mp hp with hp | hp
          · exact List.mem_append_left _ (n8 p k' h2 hp he2 hf2)
          · cases List.mem_singleton.mp hp
            rw [huq h2 he2]
            exact List.mem_append_right _ (by simp)
        · rw [List.length_append, List.length_append, List.length_singleton]; omega
        · rw [List.length_append, List.length_append, List.length_singleton]; omega
  · obtain ⟨ms2, ws2, _, _, _, _, rfl, hk2, hl2', hs2, n1, n2, n3, n4, n5, n6, n7, n8, n9, n10⟩ := hI
    rw [List.take_length] at n8
    have hlen2 : ms2.length ≤ 4 := Nat.le_trans (nodup_len n1 n4) hm
    refine ⟨2 * (4 - ms2.length) + ws2.length, by omega, ms2, ws2, _, _, _, _, _, rfl, hk2, hl2', hs2, ⟨n1, n2, n3, n4, n5, fun h hh hn h' ha => ?_⟩, ?_, rfl⟩
    · by_cases e : h = x
      · subst e
        obtain ⟨k, p, hp, he, hf⟩ := ha
        exact n8 p k h' (zip_mem.mpr hp) he hf
      · exact n7 h hh hn e h' ha
    · have : ms.length ≤ 4 := Nat.le_trans hmlen hm
      rw [List.length_append, List.length_singleton] at n9 hwl
      omega
end
end Wr
set_option maxHeartbeats 4000000
/-! What stuck tells. -/
namespace Wr
open PySem PySem.Spec PyProof.Rows L2 Dl
local macro_rules
  | `(tactic| walk_at "len") => `(tactic| (intro ds ω R h; repeat (first | (obtain ⟨e, _⟩ := h; subst e; rfl) | (obtain ⟨_, h⟩ := h))))
  | `(tactic| walk_at "st1") => `(tactic| first
    | apply Exists.intro
    | refine And.intro rfl ?_ | refine iteT ?_ | refine iteF ?_
    | refine And.intro (lst_ptr (by assumption)) ?_ | refine And.intro (seq_ptr (by assumption)) ?_ | refine And.intro (dct_ptr (by assumption)) ?_
    | refine And.intro (lst_ptr Om.set_same) ?_ | refine And.intro (seq_ptr Om.set_same) ?_ | refine And.intro Om.set_same ?_
    | refine And.intro ⟨_, lst_ptr (by assumption)⟩ ?_ | refine And.intro ⟨_, lst_ptr Om.set_same⟩ ?_ | refine And.intro ⟨_, rfl⟩ ?_ | refine And.intro ⟨_, lst_ptr ((Om.set_ne (by assumption)).trans (by assumption))⟩ ?_
    | refine And.intro ((Om.set_ne (by assumption)).trans (by assumption)) ?_ | refine And.intro (lst_ptr ((Om.set_ne (by assumption)).trans (by assumption))) ?_
    | refine And.intro (by assumption) ?_ | refine And.intro (ix_map (by assumption)) ?_
    | refine And.intro (by omega) ?_
    | refine do_all (by rfl) ?_ | refine eq_nat ?_ | refine ne_nat ?_ | refine eq_nats ?_ | refine ne_nats ?_ | refine in_nats ?_ | refine nin_nats ?_)
  | `(tactic| walk_at "st") => `(tactic| repeat walk_at "st1")
section
variable {P : Program} {wo : World} {K : PySem.W.Frag} {mg : Str → Option Value} {base : Heap} {T : Tb}
def sp_tells_nothing : Dsp := fun ds ω R => ∃ (b : Book) (lot gs : List Nat), ds = [bookD b, natsD lot, .lst (gs.map natD)] ∧ b.rig.Ok ∧ LotOk b.rig lot ∧ lot ≠ [] ∧ gs.length ≤ 100 ∧ (∀ g ∈ gs, g < b.rig.m ∧ ∀ x ∈ lot, ∀ y ∈ lot, b.rig.sg g x = b.rig.sg g y) ∧ R (.bl true) ω
theorem sc_tells_nothing : FnScope ["book", "lot", "settings", "signs", "g", "x"] ["book", "lot", "settings"] (defScope s_tells_nothing) := ⟨rfl, rfl, rfl, by decide +kernel, rfl, by decide +kernel, by decide +kernel⟩
theorem D_tells_nothing (Z : Zp K mg base T) : Df P wo K mg base T "tells_nothing" 1 sp_tells_nothing := by
  obtain ⟨⟨fd, F⟩, hm⟩ := Z.df 51 d_tells_nothing rfl rfl
  refine def_ok F sc_tells_nothing hm (fun _ _ _ _ _ _ us hl => match us, hl with | [_, _, _], _ => rfl) (by walk_at "len") fun cdv A outer st H E hr => ?_
  have nd := sc_tells_nothing.nd
  refine ⟨_, (ssc (sset 3 nd (xix (xix (xv 0) xint) xint))
    (ss1 (sret (xbi (bi_all rfl Z.all) (xac (xlc2 (own := [("g", 4), ("x", 5)]) (vs1 := [5]) rfl nd (by rfl) (by decide) (xil (xv 2)) (fun _ _ _ _ _ => (xg 4 nd)) (fun _ _ _ _ _ => (xit (xv 1))) (fun _ _ _ _ _ => (xg 5 nd)) (fun _ _ _ _ _ => (xeq hr (xix (xix (xv 3) (xv 4)) (xv 5)) (xix (xix (xv 3) (xv 4)) (xix (xv 1) xint))))) xan))))), fun ds ω R h => ?_⟩
  obtain ⟨b, lot, gs, rfl, o, hl, hne, hgl, hg, q⟩ := h
  have hlen := hl.len o
  walk_at "st"
  refine ⟨fun D hD => ⟨fun i acc ω2 => ω2 = ω.set D (.lst acc) ∧ acc = (List.replicate (i * lot.length) true).map .bl ∧ i ≤ gs.length, ⟨rfl, by rw [Nat.zero_mul]; rfl, Nat.zero_le _⟩, fun i d acc ω2 hd hI => ?_, fun acc ω2 hI => ?_⟩⟩
  · obtain ⟨rfl, rfl, hi⟩ := hI
    rw [List.getElem?_map] at hd
    cases eg : gs[i]? with
    | none => rw [eg] at hd; cases hd
    | some g =>
      rw [eg] at hd
      cases hd
      have hi2 := (List.getElem?_eq_some_iff.mp eg).1
      obtain ⟨g1, g2⟩ := hg g (List.mem_of_getElem? eg)
      walk_at "st"
      refine ⟨fun j acc ω2 => ω2 = ω.set D (.lst acc) ∧ acc = (List.replicate (i * lot.length + j) true).map .bl ∧ j ≤ lot.length, ⟨rfl, rfl, Nat.zero_le _⟩, fun j acc ω4 ⟨_, e, hj⟩ => ?_, fun j e acc ω4 he hI => ?_, fun acc ω4 hI => ?_⟩
      · rw [e, List.length_map, List.length_replicate]
        have : i * lot.length ≤ 100 * 4 := Nat.mul_le_mul (by omega) hlen
        omega
      · obtain ⟨rfl, rfl, hj⟩ := hI
        rw [List.getElem?_map] at he
        cases ex : lot[j]? with
        | none => rw [ex] at he; cases he
        | some x =>
          rw [ex] at he
          cases he
          have hj2 := (List.getElem?_eq_some_iff.mp ex).1
          have hx := List.mem_of_getElem? ex
          obtain ⟨y, rest, ey⟩ : ∃ y rest, lot = y :: rest := by
            cases lot with
            | nil => exact absurd rfl hne
            | cons y rest => exact ⟨y, rest, rfl⟩
          have hy : y ∈ lot := by rw [ey]; simp
          obtain ⟨row, e1, e2⟩ := o.sign g1 (hl.2 x hx)
          obtain ⟨row2, e3, e4⟩ := o.sign g1 (hl.2 y hy)
          rw [e1] at e3
          cases e3
          have ea : atI (lot.map natD) 0 = some (natD y) := ix_map (i := 0) (by rw [ey]; rfl)
          walk_at "st"
          rw [decide_eq_true (g2 x hx y hy)]
          refine ⟨Om.set_set, ?_, hj2⟩
          rw [show i * lot.length + (j + 1) = (i * lot.length + j) + 1 from by omega, List.replicate_succ', List.map_append]
          rfl
      · obtain ⟨rfl, rfl, hj⟩ := hI
        rw [List.length_map]
        exact ⟨rfl, by rw [Nat.succ_mul], hi2⟩
  · obtain ⟨rfl, rfl, hi⟩ := hI
    rw [List.length_map]
    refine ⟨D, _, rfl, Om.set_same, ?_⟩
    rw [Om.set_del hD]
    refine ⟨_, List.replicate (gs.length * lot.length) true, rfl, rfl, ?_⟩
    have e : (List.replicate (gs.length * lot.length) true).all id = true := by
      rw [List.all_eq_true]; intro x hx; rw [List.eq_of_mem_replicate hx]; rfl
    rw [e]
    exact q
def sp_is_bare_lot : Dsp := fun ds ω R => ∃ (b : Book) (lot : List Nat), ds = [bookD b, natsD lot] ∧ b.rig.Ok ∧ LotOk b.rig lot ∧ R (.bl (!done b.rig lot)) ω
theorem sc_is_bare_lot : FnScope ["book", "lot"] ["book", "lot"] (defScope s_is_bare_lot) := ⟨rfl, rfl, rfl, by decide +kernel, rfl, by decide +kernel, by decide +kernel⟩
theorem D_is_bare_lot (Z : Zp K mg base T) : Df P wo K mg base T "is_bare_lot" 6 sp_is_bare_lot := by
  obtain ⟨⟨fd, F⟩, hm⟩ := Z.df 52 d_is_bare_lot rfl rfl
  have D_is_done := D_is_done (P := P) (wo := wo) Z
  have D_is_lot := D_is_lot (P := P) (wo := wo) Z
  refine def_ok F sc_is_bare_lot hm (fun _ _ _ _ _ _ us hl => match us, hl with | [_, _], _ => rfl) (by walk_at "len") fun cdv A outer st H E hr => ?_
  have nd := sc_is_bare_lot.nd
  refine ⟨_, (ss1 (sret (xand (xcall D_is_lot (hr.mono (by first | decide | omega)) (xac (xix (xv 0) xint) (xac (xv 1) xan))) (xone (xnot (xcall D_is_done (hr.mono (by first | decide | omega)) (xac (xix (xv 0) xint) (xac (xv 1) xan)))))))), fun ds ω R h => ?_⟩
  obtain ⟨b, lot, rfl, o, hl, q⟩ := h
  have hn := o.n2
  walk_at "st"
  exact q
def sp_stuck_right : Dsp := fun ds ω R => ∃ (b : Book) (lot : List Nat) (g : Nat) (K : List Nat), ds = [bookD b, startDa lot g, natsD K] ∧ b.Ok ∧ LotOk b.rig lot ∧ lot ≠ [] ∧ g < b.rig.m ∧ StuckLot b lot g K ∧ R (.bl true) ω
theorem sc_stuck_right : FnScope ["book", "start", "lot"] ["book", "start", "lot"] (defScope s_stuck_right) := ⟨rfl, rfl, rfl, by decide +kernel, rfl, by decide +kernel, by decide +kernel⟩
theorem D_stuck_right (Z : Zp K mg base T) : Df P wo K mg base T "stuck_right" 11 sp_stuck_right := by
  obtain ⟨⟨fd, F⟩, hm⟩ := Z.df 53 d_stuck_right rfl rfl
  have D_is_bare_lot := D_is_bare_lot (P := P) (wo := wo) Z
  have D_is_start := D_is_start (P := P) (wo := wo) Z
  have D_is_book := D_is_book (P := P) (wo := wo) Z
  have D_tells_nothing := D_tells_nothing (P := P) (wo := wo) Z
  have D_closed := D_closed (P := P) (wo := wo) Z
  have D_is_within := D_is_within (P := P) (wo := wo) Z
  refine def_ok F sc_stuck_right hm (fun _ _ _ _ _ _ us hl => match us, hl with | [_, _, _], _ => rfl) (by walk_at "len") fun cdv A outer st H E hr => ?_
  have nd := sc_stuck_right.nd
  refine ⟨_, (ssc (sif (tw (twor (tnot (tval (xcall D_is_book (hr.mono (by first | decide | omega)) (xac (xv 0) xan)))) (twor (tnot (tval (xcall D_is_start (hr.mono (by first | decide | omega)) (xac (xix (xv 0) xint) (xac (xv 1) xan))))) (twor1 (tnot (tval (xcall D_is_bare_lot (hr.mono (by first | decide | omega)) (xac (xv 0) (xac (xv 2) xan))))))))) (ss1 (sret xbl)) ssn)
    (ss1 (sret (xand (xcall D_is_within (hr.mono (by first | decide | omega)) (xac (xv 2) (xac (xix (xv 1) xint) xan))) (xone (xcall D_tells_nothing (hr.mono (by first | decide | omega)) (xac (xv 0) (xac (xv 2) (xac (xcall D_closed (hr.mono (by first | decide | omega)) (xac (xv 0) (xac (xv 2) (xac (xix (xv 1) xint) xan)))) xan))))))))), fun ds ω R h => ?_⟩
  obtain ⟨b, lot, g, S, rfl, o, hl, hne, hg, hS, q⟩ := h
  have o1 := o.rig
  have hn := o1.n2
  have hK := hS.ok
  have hKl := hK.len o1
  walk_at "st"
  rw [hS.bare]
  walk_at "st"
  rw [within_iff.mpr hS.sub]
  walk_at "st"
  intro gs hr
  have hgs : ∀ h ∈ gs, h < b.rig.m ∧ ∀ x ∈ S, ∀ y ∈ S, b.rig.sg h x = b.rig.sg h y := fun h hh => ⟨((hr.2 h).mp hh).lt o1 hg, hS.one h ((hr.2 h).mp hh)⟩
  have hgl : gs.length ≤ 100 := Nat.le_trans (asc_len hr.1 fun h hh => (hgs h hh).1) (by have := o1.m2; omega)
  have hSn := hS.ne o1
  walk_at "st"
  exact q
def sp_stuck_from : Dsp := fun ds ω R => ∃ (b : Book) (lot : List Nat) (g : Nat), ds = [bookD b, natsD lot, natD g] ∧ b.Ok ∧ LotOk b.rig lot ∧ g < b.rig.m ∧ (∀ K, StuckLot b lot g K → R (natsD K) ω) ∧ (¬ Stuck b lot g → R .non ω)
theorem sc_stuck_from : FnScope ["book", "lot", "g", "x", "last"] ["book", "lot", "g"] (defScope s_stuck_from) := ⟨rfl, rfl, rfl, by decide +kernel, rfl, by decide +kernel, by decide +kernel⟩
theorem D_stuck_from (Z : Zp K mg base T) : Df P wo K mg base T "stuck_from" 8 sp_stuck_from := by
  obtain ⟨⟨fd, F⟩, hm⟩ := Z.df 54 d_stuck_from rfl rfl
  have D_end_of := D_end_of (P := P) (wo := wo) Z
  have D_is_done := D_is_done (P := P) (wo := wo) Z
  refine def_ok F sc_stuck_from hm (fun _ _ _ _ _ _ us hl => match us, hl with | [_, _, _], _ => rfl) (by walk_at "len") fun cdv A outer st H E hr => ?_
  have nd := sc_stuck_from.nd
  refine ⟨_, (ssc (sfor PassesOwn.never rfl (xit (xv 1)) (xg 3 nd) (ssc (sset 4 nd (xix (xcall D_end_of (hr.mono (by first | decide | omega)) (xac (xv 0) (xac (xtup (xac (xv 1) (xac (xv 2) xan))) (xac (xv 3) xan)))) xint))
    (ss1 (sif (tnot (tval (xcall D_is_done (hr.mono (by first | decide | omega)) (xac (xix (xv 0) xint) (xac (xv 4) xan))))) (ss1 (sret (xv 4))) ssn))))
    (ss1 (sret xnon))), fun ds ω R h => ?_⟩
  obtain ⟨b, lot, g, rfl, o, hl, hg, q1, q2⟩ := h
  have o1 := o.rig
  walk_at "st"
  refine for_on lot natD (fun i ρ' ω' => Hold <| (∃ u v, ρ' = [some (bookD b), some (natsD lot), some (natD g), u, v]) ∧ ω' = ω ∧ ∀ x ∈ lot.take i, ∃ K, EndOk b lot g x K ∧ done b.rig K = true) ⟨⟨_, _, rfl⟩, rfl, by simp⟩ (fun i x ρ' ω' hx hI => ?_) fun ρ' ω' hI => ?_
  · obtain ⟨⟨_, _, rfl⟩, rfl, hd⟩ := hI
    have hxl := List.mem_of_getElem? hx
    walk_at "st"
    intro S gs he
    have hS := he.ok
    walk_at "st"
    cases e : done b.rig S with
    | true =>
      walk_at "st"
      refine ⟨⟨_, _, rfl⟩, rfl, fun y hy => ?_⟩
      rw [take_next' hx] at hy
      rcases List.mem_append.mp hy with hy | hy
      · exact hd y hy
      · rw [List.mem_singleton.mp hy]; exact ⟨S, he, e⟩
    | false =>
      walk_at "st"
      exact q1 S (he.stuck e)
  · obtain ⟨⟨_, _, rfl⟩, rfl, hd⟩ := hI
    rw [List.take_length] at hd
    walk_at "st"
    exact q2 (not_stuck o1 hd)
def sp_stuck : Dsp := fun ds ω R => ∃ (b : Book) (lot : List Nat) (g : Nat), ds = [bookD b, startDa lot g] ∧ b.Ok ∧ LotOk b.rig lot ∧ lot ≠ [] ∧ g < b.rig.m ∧ (∀ K, StuckLot b lot g K → R (natsD K) ω) ∧ (¬ Stuck b lot g → R .non ω)
theorem sc_stuck : FnScope ["book", "start", "lot", "g"] ["book", "start"] (defScope s_stuck) := ⟨rfl, rfl, rfl, by decide +kernel, rfl, by decide +kernel, by decide +kernel⟩
theorem D_stuck (Z : Zp K mg base T) : Df P wo K mg base T "stuck" 11 sp_stuck := by
  obtain ⟨⟨fd, F⟩, hm⟩ := Z.df 55 d_stuck rfl rfl
  have D_made_book := D_made_book (P := P) (wo := wo) Z
  have D_made_start := D_made_start (P := P) (wo := wo) Z
  have D_stuck_from := D_stuck_from (P := P) (wo := wo) Z
  refine def_ok F sc_stuck hm (fun _ _ _ _ _ _ us hl => match us, hl with | [_, _], _ => rfl) (by walk_at "len") fun cdv A outer st H E hr => ?_
  have nd := sc_stuck.nd
  refine ⟨_, (ssc (sset 0 nd (xcall D_made_book (hr.mono (by first | decide | omega)) (xac (xv 0) xan)))
    (ssc (sasg (xcall D_made_start (hr.mono (by first | decide | omega)) (xac (xix (xv 0) xint) (xac (xv 1) xan))) (xgtp rfl (xgc (xg 2 nd) (xgc (xg 3 nd) xgn))))
    (ss1 (sret (xcall D_stuck_from (hr.mono (by first | decide | omega)) (xac (xv 0) (xac (xv 2) (xac (xv 3) xan)))))))), fun ds ω R h => ?_⟩
  obtain ⟨b, lot, g, rfl, o, hl, hne, hg, q1, q2⟩ := h
  have o1 := o.rig
  walk_at "st"
  exact q2
end
end Wr
set_option maxHeartbeats 2000000
/-! Trees as data; runs. -/
namespace Wr
open PySem PySem.Spec PyProof.Rows L2 Dl
/-- one free move further, by what is known on the way -/
def Move (b : Book) (lot : List Nat) (x : Nat) (walk : List Nat) (h : Nat) : Prop := ∃ g, walk.getLast? = some g ∧ Adj b (agree b.rig lot x walk) g h
inductive Steps (b : Book) (lot : List Nat) (x : Nat) : List Nat → List Nat → List Nat → Prop
  | nil {walk : List Nat} : Steps b lot x walk [] walk
  | cons {walk way walk' : List Nat} {h : Nat} : Move b lot x walk h → Steps b lot x (walk ++ [h]) way walk' → Steps b lot x walk (h :: way) walk'
theorem Steps.append {b : Book} {lot : List Nat} {x : Nat} {w1 a w2 c w3 : List Nat} (s : Steps b lot x w1 a w2) (t : Steps b lot x w2 c w3) : Steps b lot x w1 (a ++ c) w3 := by
  induction s with
  | nil => exact t
  | cons m _ ih => exact .cons m (ih t)
theorem Steps.walk {b : Book} {lot : List Nat} {x : Nat} {w1 a w2 : List Nat} (s : Steps b lot x w1 a w2) : w2 = w1 ++ a := by
  induction s with
  | nil => rw [List.append_nil]
  | cons m _ ih => rw [ih, List.append_assoc]; rfl
def cureD (way : List Nat) (c : Nat) : Da := .tup [.str "cure", natsD way, natD c]
def brD (p : Nat × Da) : Da := .tup [natD p.1, p.2]
def lookD (way : List Nat) (bs : List (Nat × Da)) : Da := .tup [.str "look", natsD way, .tup (bs.map brD)]
/-- the run under fault x, having walked, ends in a cure -/
inductive Good (b : Book) (lot : List Nat) (x : Nat) : List Nat → Da → Prop
  | cure {walk way walk' : List Nat} {c : Nat} : Steps b lot x walk way walk' → c ∈ b.rig.cu x → Good b lot x walk (cureD way c)
  | look {walk way walk' : List Nat} {bs : List (Nat × Da)} {g : Nat} {t : Da} : Steps b lot x walk way walk' → walk'.getLast? = some g → bs.find? (fun p => decide (p.1 = b.rig.sg g x)) = some (b.rig.sg g x, t) → Good b lot x walk' t → Good b lot x walk (lookD way bs)
/-- a tree's form: of depth d at most, B tells how long a way may be -/
inductive TOk (B : Nat → Nat) : Nat → Da → Prop
  | cure {d : Nat} {way : List Nat} {c : Nat} : way.length ≤ B (d + 1) → TOk B (d + 1) (cureD way c)
  | look {d : Nat} {way : List Nat} {bs : List (Nat × Da)} : way.length ≤ B (d + 1) → bs ≠ [] → bs.length ≤ 10 → (∀ p ∈ bs, TOk B d p.2) → TOk B (d + 1) (lookD way bs)
theorem TOk.cl {B : Nat → Nat} {d : Nat} {t : Da} (h : TOk B d t) : t.cl = true := by
  induction h with
  | cure _ => show (true && ((natsD _).cl && (true && true))) = true; rw [cl_nats]; rfl
  | @look d way bs _ _ _ _ ih =>
    have e : clAll (bs.map brD) = true := clAll_map fun p hp => by
      show (true && (p.2.cl && true)) = true
      rw [ih p hp]; rfl
    show (true && ((natsD way).cl && (clAll (bs.map brD) && true))) = true
    rw [cl_nats, e]; rfl
theorem TOk.dep {B : Nat → Nat} {d : Nat} {t : Da} (h : TOk B d t) : t.dep ≤ 3 * d := by
  induction h with
  | @cure d way c _ =>
    have := dep_nats way
    show max 0 (max (natsD way).dep (max 0 0)) + 1 ≤ _
    omega
  | @look d way bs _ _ _ _ ih =>
    have h1 := dep_nats way
    have h2 : depAll (bs.map brD) ≤ 3 * d + 1 := depAll_map fun p hp => by
      have := ih p hp
      show max 0 (max p.2.dep 0) + 1 ≤ _
      omega
    show max 0 (max (natsD way).dep (max (depAll (bs.map brD) + 1) 0)) + 1 ≤ _
    omega
theorem TOk.not_zero {B : Nat → Nat} {t : Da} (h : TOk B 0 t) : False := by cases h
/-- the tree leads to cures from g, for whatever lot is known there -/
def TGood (b : Book) (lot : List Nat) (g : Nat) (t : Da) : Prop := ∀ (lot0 : List Nat) (x : Nat) (walk : List Nat), x ∈ lot → walk.getLast? = some g → (∀ y ∈ agree b.rig lot0 x walk, y ∈ lot) → Good b lot0 x walk t
theorem agree_more {r : Rig} {lot0 walk : List Nat} {x h y : Nat} (hy : y ∈ agree r lot0 x (walk ++ [h])) : y ∈ agree r lot0 x walk ∧ r.sg h y = r.sg h x := by
  obtain ⟨h1, h2⟩ := mem_agree.mp hy
  exact ⟨mem_agree.mpr ⟨h1, fun g hg => h2 g (List.mem_append_left _ hg)⟩, h2 h (List.mem_append_right _ (by simp))⟩
/-- a way of free moves for the lot can be gone by who knows that much -/
theorem steps_of {b : Book} {lot lot0 : List Nat} {x : Nat} : ∀ {l : List Nat} {g : Nat} {walk : List Nat}, Way b lot (g :: l) → walk.getLast? = some g → (∀ y ∈ agree b.rig lot0 x walk, y ∈ lot) → Steps b lot0 x walk l (walk ++ l)
  | [], _, walk, _, _, _ => by rw [List.append_nil]; exact .nil
  | h :: l, g, walk, w, hg, hk => by
    refine .cons ⟨g, hg, w.1.sub hk⟩ ?_
    have := steps_of (l := l) (g := h) (walk := walk ++ [h]) w.2 (by simp) fun y hy => hk y (agree_more hy).1
    rw [List.append_assoc] at this
    exact this
theorem getLast_way {g h : Nat} {l walk : List Nat} (hg : walk.getLast? = some g) (hl : (g :: l).getLast (by simp) = h) : (walk ++ l).getLast? = some h := by
  cases l with
  | nil =>
    rw [List.append_nil, hg]
    exact congrArg some hl
  | cons y l =>
    have e : (y :: l).getLast? = some h := by
      rw [List.getLast?_eq_some_getLast (by simp), ← hl]
      rfl
    rw [List.getLast?_append, e]
    rfl
end Wr
set_option maxHeartbeats 4000000
/-! Trees made. -/
namespace Wr
open PySem PySem.Spec PyProof.Rows L2 Dl
local macro_rules
  | `(tactic| walk_at "len") => `(tactic| (intro ds ω R h; repeat (first | (obtain ⟨e, _⟩ := h; subst e; rfl) | (obtain ⟨_, h⟩ := h))))
  | `(tactic| walk_at "st1") => `(tactic| first
    | apply Exists.intro
    | refine And.intro rfl ?_ | refine iteT ?_ | refine iteF ?_
    | refine And.intro (lst_ptr (by assumption)) ?_ | refine And.intro (seq_ptr (by assumption)) ?_ | refine And.intro (dct_ptr (by assumption)) ?_
    | refine And.intro (lst_ptr Om.set_same) ?_ | refine And.intro (seq_ptr Om.set_same) ?_ | refine And.intro Om.set_same ?_
    | refine And.intro ⟨_, lst_ptr (by assumption)⟩ ?_ | refine And.intro ⟨_, lst_ptr Om.set_same⟩ ?_ | refine And.intro ⟨_, rfl⟩ ?_ | refine And.intro ⟨_, lst_ptr ((Om.set_ne (by assumption)).trans (by assumption))⟩ ?_
    | refine And.intro ((Om.set_ne (by assumption)).trans (by assumption)) ?_ | refine And.intro (lst_ptr ((Om.set_ne (by assumption)).trans (by assumption))) ?_
    | refine And.intro (by assumption) ?_ | refine And.intro (ix_map (by assumption)) ?_
    | refine And.intro (by omega) ?_
    | refine do_all (by rfl) ?_ | refine eq_nat ?_ | refine ne_nat ?_ | refine eq_nats ?_ | refine ne_nats ?_ | refine in_nats ?_ | refine nin_nats ?_)
  | `(tactic| walk_at "st") => `(tactic| repeat walk_at "st1")
section
variable {P : Program} {wo : World} {K : PySem.W.Frag} {mg : Str → Option Value} {base : Heap} {T : Tb}
/-- a promise that asks what never is -/
theorem df_bot {x qual : Str} {params : Arguments} {body : List Stmt} {scope : Scope} {f : Addr} {fd : FuncData} {ps : List Str} {k : Nat} {s : Dsp}
    (F : FunD K x qual params body scope [] [] f fd) (hm : mg x = some (.ref f)) (hb : ∀ (kV doc pm : Value) (an : Option Addr) (cdv ct : Value) (us : List Value), us.length = ps.length → bindArgs (PySem.W.fnOf x qual params body scope .none kV doc pm an cdv ct) ⟨us, []⟩ = pure (ps.zip us))
    (h : ∀ ds ω R, s ds ω R → False) : Df P wo K mg base T x k s :=
  ⟨f, fd, ps, ⟨fun vs H Q E ⟨ds, ω, R, h1, h2, h3, h4, h5⟩ => (h ds ω R h4).elim, fun A outer s H args us vs Q E hr he hb hv ⟨ds, ω, R, h1, h2, h3, h4, h5⟩ => (h ds ω R h4).elim⟩, F.bindsN hb, hm, F.kp⟩
theorem prs_cl (ps : List (Int × Int)) : clAll (ps.map prI) = true := clAll_map fun _ _ => rfl
theorem prs_dep (ps : List (Int × Int)) : depAll (ps.map prI) ≤ 50 := depAll_map fun _ _ => by show max 0 (max 0 0) + 1 ≤ 50; omega
def sp_nearest : Dsp := fun ds ω R => ∃ (b : Book) (lot : List Nat) (g : Nat), ds = [bookD b, natsD lot, natD g] ∧ b.Ok ∧ LotOk b.rig lot ∧ g < b.rig.m ∧ (∀ h, Reach b lot g h → oneSign b.rig lot h = false → R (natD h) ω) ∧ ((∀ h, Reach b lot g h → oneSign b.rig lot h = true) → R .non ω)
theorem sc_nearest : FnScope ["book", "lot", "g", "far", "parting", "h"] ["book", "lot", "g"] (defScope s_nearest) := ⟨rfl, rfl, rfl, by decide +kernel, rfl, by decide +kernel, by decide +kernel⟩
theorem D_nearest (Z : Zp K mg base T) : Df P wo K mg base T "nearest" 6 sp_nearest := by
  obtain ⟨⟨fd, F⟩, hm⟩ := Z.df 43 d_nearest rfl rfl
  have D_distances := D_distances (P := P) (wo := wo) Z
  have D_has_one_sign := D_has_one_sign (P := P) (wo := wo) Z
  refine def_ok F sc_nearest hm (fun _ _ _ _ _ _ us hl => match us, hl with | [_, _, _], _ => rfl) (by walk_at "len") fun cdv A outer st H E hr => ?_
  have nd := sc_nearest.nd
  refine ⟨_, (ssc (sset 3 nd (xcall D_distances (hr.mono (by first | decide | omega)) (xac (xv 0) (xac (xv 1) (xac (xv 2) xan)))))
    (ssc (ssetLc 4 (own := [("h", 5)]) rfl nd (by rfl) (xik (xv 3)) (fun _ _ _ _ _ => (xg 5 nd)) (fun _ _ _ _ _ => (xt1 (tnot (tval (xcall D_has_one_sign (hr.mono (by first | decide | omega)) (xac (xix (xv 0) xint) (xac (xv 1) (xac (xv 5) xan)))))))) (fun _ _ _ _ _ => (xtup (xac (xdgetF hr (xv 3) (xv 5)) (xac (xv 5) xan)))))
    (ss1 (sret (xif (teq hr (xv 4) (xlst xan)) xnon (xix (xbi (bi_minP rfl hr Z.min) (xac (xv 4) xan)) xint)))))), fun ds ω R h => ?_⟩
  obtain ⟨b, lot, g, rfl, o, hl, hg, q1, q2⟩ := h
  have o1 := o.rig
  walk_at "st"
  intro kvs hd
  have hlen := hd.len
  have hm := o1.m2
  walk_at "st"
  have ek : ((intK kvs).map (·.1)).map Da.int = kvs.map fun p => natD p.1 := by rw [keys_int, ← natm_int, List.map_map]; rfl
  rw [ek]
  refine lc_on kvs (fun p => natD p.1) (fun p => if oneSign b.rig lot p.1 = true then none else some (prI ((p.2 : Int), (p.1 : Int)))) (by omega) (fun p ω' Q1 Q2 hp hs h1 h2 => by
    obtain ⟨k, d⟩ := p
    have hk : k < b.rig.m := hd.lt _ hp
    walk_at "st"
    cases e : oneSign b.rig lot k with
    | true => exact iteF (h2 (by rw [if_pos e]))
    | false =>
      walk_at "st"
      refine do_dgetF hd.nd hp ?_
      walk_at "st"
      exact h1 _ (by rw [if_neg (by rw [e]; decide)])) ?_
  have ef : (kvs.filterMap fun p => if oneSign b.rig lot p.1 = true then none else some (prI ((p.2 : Int), (p.1 : Int)))) = ((kvs.filter fun p => !oneSign b.rig lot p.1).map fun p => ((p.2 : Int), (p.1 : Int))).map prI := by
    rw [List.map_map, ← fm_ite (fun p : Nat × Nat => !oneSign b.rig lot p.1)]
    refine congrArg (fun f => kvs.filterMap f) (funext fun p => ?_)
    cases oneSign b.rig lot p.1 <;> rfl
  rw [ef]
  walk_at "st"
  refine eq_nil (prs_cl _) (prs_dep _) ?_
  by_cases hn : ((kvs.filter fun p => !oneSign b.rig lot p.1).map fun p => ((p.2 : Int), (p.1 : Int))) = []
  · rw [decide_eq_true hn]
    walk_at "st"
    refine q2 fun h hr => ?_
    obtain ⟨p, hp, rfl⟩ := List.mem_map.mp (hd.keys.mpr hr)
    have hf := List.map_eq_nil_iff.mp hn
    cases e : oneSign b.rig lot p.1 with
    | true => rfl
    | false =>
      have : p ∈ kvs.filter fun p => !oneSign b.rig lot p.1 := List.mem_filter.mpr ⟨hp, by rw [e]; rfl⟩
      rw [hf] at this; cases this
  · rw [decide_eq_false hn]
    walk_at "st"
    refine ⟨_, _, rfl, rfl, hn, fun p hp => ?_⟩
    obtain ⟨⟨k, d⟩, hk, rfl⟩ := List.mem_map.mp hp
    obtain ⟨k1, k2⟩ := List.mem_filter.mp hk
    walk_at "st"
    refine q1 k (hd.keys.mp (List.mem_map.mpr ⟨_, k1, rfl⟩)) ?_
    cases e : oneSign b.rig lot k with
    | false => rfl
    | true =>
      have k2 : (!oneSign b.rig lot k) = true := k2
      rw [e] at k2; cases k2
end
end Wr
set_option maxHeartbeats 2000000
/-! Trees joined. -/
namespace Wr
open PySem PySem.Spec PyProof.Rows L2 Dl
abbrev B10 : Nat → Nat := fun _ => 10
abbrev BJ : Nat → Nat := fun d => 10 * d
theorem look_ne_cure {way way' : List Nat} {bs : List (Nat × Da)} {c : Nat} (e : lookD way bs = cureD way' c) : False := by
  have e := Da.tup.inj e
  injection e with e1 _
  have e1 := Da.str.inj e1
  revert e1
  decide
theorem natsD_inj2 {way way' : List Nat} {r r' : List Da} {s s' : Da} (e : Da.tup [s, natsD way, .tup r] = Da.tup [s', natsD way', .tup r']) : way = way' ∧ r = r' := by
  have e := Da.tup.inj e
  injection e with _ e
  injection e with e1 e
  injection e with e2 _
  exact ⟨natsD_inj e1, Da.tup.inj e2⟩
theorem brD_inj (p q : Nat × Da) (e : brD p = brD q) : p = q := by
  have e := Da.tup.inj e
  injection e with e1 e
  injection e with e2 _
  exact Prod.ext (natD_inj e1) e2
theorem lookD_inj {way way' : List Nat} {bs bs' : List (Nat × Da)} (e : lookD way bs = lookD way' bs') : way = way' ∧ bs = bs' := by
  obtain ⟨e1, e2⟩ := natsD_inj2 e
  exact ⟨e1, map_inj brD_inj e2⟩
theorem cureD_inj {way way' : List Nat} {c c' : Nat} (e : cureD way c = cureD way' c') : way = way' ∧ c = c' := by
  have e := Da.tup.inj e
  injection e with _ e
  injection e with e1 e
  injection e with e2 _
  exact ⟨natsD_inj e1, natD_inj e2⟩
section
variable {b : Book} {lot : List Nat} {x : Nat} {walk way : List Nat}
theorem Good.cure_inv {t : Da} {c : Nat} (h : Good b lot x walk t) (e : t = cureD way c) : ∃ walk', Steps b lot x walk way walk' ∧ c ∈ b.rig.cu x := by
  cases h with
  | cure s hc =>
    obtain ⟨rfl, rfl⟩ := cureD_inj e
    exact ⟨_, s, hc⟩
  | look _ _ _ _ => exact (look_ne_cure e).elim
theorem Good.look_inv {t : Da} {bs : List (Nat × Da)} (h : Good b lot x walk t) (e : t = lookD way bs) : ∃ walk' g t', Steps b lot x walk way walk' ∧ walk'.getLast? = some g ∧ bs.find? (fun p => decide (p.1 = b.rig.sg g x)) = some (b.rig.sg g x, t') ∧ Good b lot x walk' t' := by
  cases h with
  | cure s hc => exact (look_ne_cure e.symm).elim
  | look s1 s2 s3 s4 =>
    obtain ⟨rfl, rfl⟩ := lookD_inj e
    exact ⟨_, _, _, s1, s2, s3, s4⟩
theorem TOk.up {B : Nat → Nat} {d : Nat} {t : Da} (h : TOk B d t) (e : ∀ d, B d ≤ BJ d ∨ d = 0) : True := trivial
/-- a part and what has come of it -/
def resJ (r : (Nat × Da) × Da) : Da := .tup [natD r.1.1, r.2]
abbrev Keeps (t t' : Da) : Prop := ∀ (b : Book) (lot : List Nat) (x : Nat) (walk : List Nat), Good b lot x walk t → Good b lot x walk t'
theorem keeps_look {rs : List ((Nat × Da) × Da)} (h : ∀ r ∈ rs, Keeps r.1.2 r.2) : Keeps (lookD way (rs.map (·.1))) (lookD way (rs.map fun r => (r.1.1, r.2))) := fun b lot x walk hg => by
  obtain ⟨walk', g, t', s1, s2, s3, s4⟩ := hg.look_inv rfl
  rw [List.find?_map] at s3
  cases q : rs.find? ((fun p : Nat × Da => decide (p.1 = b.rig.sg g x)) ∘ fun r => r.1) with
  | none => rw [q] at s3; cases s3
  | some r =>
    rw [q] at s3
    have e : r.1 = (b.rig.sg g x, t') := Option.some.inj s3
    have hr := List.mem_of_find?_eq_some q
    refine .look (t := r.2) s1 s2 ?_ (h r hr b lot x walk' (by rw [e]; exact s4))
    rw [List.find?_map]
    have e2 : rs.find? ((fun p : Nat × Da => decide (p.1 = b.rig.sg g x)) ∘ fun r => (r.1.1, r.2)) = some r := q
    rw [e2]
    show some (r.1.1, r.2) = _
    rw [e]
/-- all branches are one: no look is needed -/
theorem keeps_one {rs : List ((Nat × Da) × Da)} {first t' : Da} {way1 : List Nat} (h : ∀ r ∈ rs, Keeps r.1.2 r.2) (he : ∀ r ∈ rs, r.2 = first)
    (hf : ∀ (b : Book) (lot : List Nat) (x : Nat) (walk walk' : List Nat), Steps b lot x walk way walk' → Good b lot x walk' first → Good b lot x walk t') : Keeps (lookD way (rs.map (·.1))) t' := fun b lot x walk hg => by
  obtain ⟨walk', g, u, s1, s2, s3, s4⟩ := hg.look_inv rfl
  have hm := List.mem_of_find?_eq_some s3
  obtain ⟨r, hr, e⟩ := List.mem_map.mp hm
  refine hf b lot x walk walk' s1 ?_
  rw [← he r hr]
  exact h r hr b lot x walk' (by rw [e]; exact s4)
theorem pre_cure {first : Da} {way1 : List Nat} {c : Nat} (e : first = cureD way1 c) : ∀ (b : Book) (lot : List Nat) (x : Nat) (walk walk' : List Nat), Steps b lot x walk way walk' → Good b lot x walk' first → Good b lot x walk (cureD (way ++ way1) c) := fun b lot x walk walk' s hg => by
  obtain ⟨w2, s2, hc⟩ := hg.cure_inv e
  exact .cure (s.append s2) hc
theorem pre_look {first : Da} {way1 : List Nat} {bs : List (Nat × Da)} (e : first = lookD way1 bs) : ∀ (b : Book) (lot : List Nat) (x : Nat) (walk walk' : List Nat), Steps b lot x walk way walk' → Good b lot x walk' first → Good b lot x walk (lookD (way ++ way1) bs) := fun b lot x walk walk' s hg => by
  obtain ⟨w2, g, t, s2, s3, s4, s5⟩ := hg.look_inv e
  exact .look (s.append s2) s3 s4 s5
end
end Wr
set_option maxHeartbeats 4000000
/-! tree_from, look_from. -/
namespace Wr
open PySem PySem.Spec PyProof.Rows L2 Dl
local macro_rules
  | `(tactic| walk_at "len") => `(tactic| (intro ds ω R h; repeat (first | (obtain ⟨e, _⟩ := h; subst e; rfl) | (obtain ⟨_, h⟩ := h))))
  | `(tactic| walk_at "st1") => `(tactic| first
    | apply Exists.intro
    | refine And.intro rfl ?_ | refine iteT ?_ | refine iteF ?_
    | refine And.intro (lst_ptr (by assumption)) ?_ | refine And.intro (seq_ptr (by assumption)) ?_ | refine And.intro (dct_ptr (by assumption)) ?_
    | refine And.intro (lst_ptr Om.set_same) ?_ | refine And.intro (seq_ptr Om.set_same) ?_ | refine And.intro Om.set_same ?_
    | refine And.intro ⟨_, lst_ptr (by assumption)⟩ ?_ | refine And.intro ⟨_, lst_ptr Om.set_same⟩ ?_ | refine And.intro ⟨_, rfl⟩ ?_ | refine And.intro ⟨_, lst_ptr ((Om.set_ne (by assumption)).trans (by assumption))⟩ ?_
    | refine And.intro ((Om.set_ne (by assumption)).trans (by assumption)) ?_ | refine And.intro (lst_ptr ((Om.set_ne (by assumption)).trans (by assumption))) ?_
    | refine And.intro (by assumption) ?_ | refine And.intro (ix_map (by assumption)) ?_
    | refine And.intro (by omega) ?_
    | refine do_all (by rfl) ?_ | refine eq_nat ?_ | refine ne_nat ?_ | refine eq_nats ?_ | refine ne_nats ?_ | refine in_nats ?_ | refine nin_nats ?_)
  | `(tactic| walk_at "st") => `(tactic| repeat walk_at "st1")
section
variable {P : Program} {wo : World} {K : PySem.W.Frag} {mg : Str → Option Value} {base : Heap} {T : Tb}
def sp_tree_from (n : Nat) : Dsp := fun ds ω R => ∃ (b : Book) (lot : List Nat) (g : Nat), ds = [bookD b, natsD lot, natD g] ∧ b.Ok ∧ LotOk b.rig lot ∧ g < b.rig.m ∧ lot.length ≤ n ∧ (Stuck b lot g → R .non ω) ∧ (∀ t, ¬ Stuck b lot g → TOk B10 (n + 1) t → TGood b lot g t → R t ω)
def sp_look_from (n : Nat) : Dsp := fun ds ω R => ∃ (b : Book) (lot : List Nat) (g h : Nat), ds = [bookD b, natsD lot, natD g, natD h] ∧ b.Ok ∧ LotOk b.rig lot ∧ g < b.rig.m ∧ lot.length ≤ n ∧ Reach b lot g h ∧ oneSign b.rig lot h = false ∧ (Stuck b lot g → R .non ω) ∧ (∀ t, ¬ Stuck b lot g → TOk B10 (n + 1) t → TGood b lot g t → R t ω)
theorem wif_any {u : WT} {wa wb : WE} {ρ : Rho} {ω : Om} {R : Da → Om → Prop} (C : Da → Prop) (h : ∀ R' : Da → Om → Prop, (∀ d, C d → R' d ω) → wIf u wa wb ρ ω R') (q : ∀ d, C d → R d ω) : wIf u wa wb ρ ω R := h R q
def Res (n : Nat) (b : Book) (Q : List Nat) (h : Nat) (d : Da) : Prop := (Stuck b Q h ∧ d = .non) ∨ (¬ Stuck b Q h ∧ TOk B10 (n + 1) d ∧ TGood b Q h d)
theorem TOk.ne_non {B : Nat → Nat} {d : Nat} (h : TOk B d .non) : False := by cases h
def resD (r : (Nat × List Nat) × Da) : Da := .tup [natD r.1.1, r.2]
theorem part_small {r : Rig} {lot : List Nat} {h : Nat} (o : r.Ok) (l : LotOk r lot) (hh : h < r.m) (hn : oneSign r lot h = false) {q : Nat × List Nat} (hq : q ∈ parts r lot h) : q.2.length < lot.length := by
  obtain ⟨_, e⟩ := (mem_parts o l hh).mp hq
  rw [e]
  unfold part
  refine Nat.lt_of_le_of_ne (List.length_filter_le _ _) fun e2 => ?_
  have all := List.length_filter_eq_length_iff.mp e2
  have : oneSign r lot h = true := (oneSign_iff o l hh).mpr fun x hx y hy => by
    rw [of_decide_eq_true (all x hx), of_decide_eq_true (all y hy)]
  rw [hn] at this; cases this
/-- the look's tree leads to cures -/
theorem look_good {b : Book} {lot way : List Nat} {g h : Nat} {rs : List ((Nat × List Nat) × Da)} (o : b.rig.Ok) (l : LotOk b.rig lot) (hh : h < b.rig.m) (hw : Way b lot (g :: way)) (hl : (g :: way).getLast (by simp) = h) (e : rs.map (·.1) = parts b.rig lot h) (hr : ∀ r ∈ rs, TGood b r.1.2 h r.2) : TGood b lot g (lookD way (rs.map fun r => (r.1.1, r.2))) := by
  intro lot0 x walk hx hg hk
  have hlast := getLast_way hg hl
  have hp : (b.rig.sg h x, part b.rig lot h (b.rig.sg h x)) ∈ parts b.rig lot h := (mem_parts o l hh).mpr ⟨⟨x, hx, rfl⟩, rfl⟩
  rw [← e] at hp
  obtain ⟨r0, hr0, e0⟩ := List.mem_map.mp hp
  have hex : ∃ p, (rs.map fun r => (r.1.1, r.2)).find? (fun p => decide (p.1 = b.rig.sg h x)) = some p := by
    cases q : (rs.map fun r => (r.1.1, r.2)).find? (fun p => decide (p.1 = b.rig.sg h x)) with
    | some p => exact ⟨p, rfl⟩
    | none =>
      have := List.find?_eq_none.mp q (r0.1.1, r0.2) (List.mem_map.mpr ⟨r0, hr0, rfl⟩)
      rw [e0] at this
      exact absurd (decide_eq_true rfl) this
  obtain ⟨⟨s, t⟩, hf⟩ := hex
  have hs : s = b.rig.sg h x := by
    have z := List.find?_some (p := fun p : Nat × Da => decide (p.1 = b.rig.sg h x)) hf
    exact of_decide_eq_true z
  subst hs
  obtain ⟨r1, hr1, e1⟩ := List.mem_map.mp (List.mem_of_find?_eq_some hf)
  have e11 : r1.1.1 = b.rig.sg h x := congrArg (·.1) e1
  have e12 : r1.2 = t := congrArg (·.2) e1
  have hm : r1.1 ∈ parts b.rig lot h := by rw [← e]; exact List.mem_map.mpr ⟨r1, hr1, rfl⟩
  have e13 : r1.1.2 = part b.rig lot h (b.rig.sg h x) := by
    obtain ⟨_, z⟩ := (mem_parts o l hh).mp hm
    rw [z, e11]
  refine .look (steps_of hw hg hk) hlast hf ?_
  rw [← e12]
  refine hr r1 hr1 lot0 x (walk ++ way) (by rw [e13]; exact mem_part.mpr ⟨hx, rfl⟩) hlast fun y hy => ?_
  obtain ⟨y1, y2⟩ := mem_agree.mp hy
  rw [e13]
  refine mem_part.mpr ⟨hk y (mem_agree.mpr ⟨y1, fun g' hg' => y2 g' (List.mem_append_left _ hg')⟩), y2 h ?_⟩
  exact List.mem_of_getLast? hlast
theorem cut1 (x : Da) (xs : List Da) : Dl.cutD (x :: xs) (some 1) none = xs := by
  have h1 : HT.sIx (x :: xs).length 0 (some 1) = 1 := by
    unfold HT.sIx
    simp
  have h2 : HT.sIx (x :: xs).length (x :: xs).length none = (x :: xs).length := by
    unfold HT.sIx
    simp
  unfold Dl.cutD
  rw [h1, h2, List.drop_one, List.tail_cons, List.length_cons, Nat.add_sub_cancel, List.take_length]
theorem D_look_step (Z : Zp K mg base T) {n : Nat} (D_tree_from : Df P wo K mg base T "tree_from" (2 * n + 20) (sp_tree_from n)) : Df P wo K mg base T "look_from" (2 * n + 21) (sp_look_from (n + 1)) := by
  have sc : FnScope ["book", "lot", "g", "h", "way", "branches", "sign", "part", "_", "tree"] ["book", "lot", "g", "h"] (defScope s_look_from) := ⟨rfl, rfl, rfl, by decide +kernel, rfl, by decide +kernel, by decide +kernel⟩
  obtain ⟨⟨fd, F⟩, hm⟩ := Z.df 44 d_look_from rfl rfl
  have D_way_of := D_way_of (P := P) (wo := wo) Z
  have D_parts_at := D_parts_at (P := P) (wo := wo) Z
  refine def_ok F sc hm (fun _ _ _ _ _ _ us hl => match us, hl with | [_, _, _, _], _ => rfl) (by walk_at "len") fun cdv A outer st H E hr => ?_
  have nd := sc.nd
  refine ⟨_, (ssc (sset 4 nd (xif (teq hr (xv 3) (xv 2)) (xtup xan) (xslT (xcall D_way_of (hr.mono (by first | decide | omega)) (xac (xv 0) (xac (xv 1) (xac (xv 2) (xac (xv 3) xan))))) (xos xint) xon)))
    (ssc (ssetLc 5 (own := [("sign", 6), ("part", 7)]) rfl nd (by rfl) (xit (xcall D_parts_at (hr.mono (by first | decide | omega)) (xac (xix (xv 0) xint) (xac (xv 1) (xac (xv 3) xan))))) (fun _ _ _ _ _ => (xgtp rfl (xgc (xg 6 nd) (xgc (xg 7 nd) xgn)))) (fun _ _ _ _ _ => xtn) (fun _ _ _ _ _ => (xtup (xac (xv 6) (xac (xcall D_tree_from (hr.mono (by first | decide | omega)) (xac (xv 0) (xac (xv 7) (xac (xv 3) xan)))) xan)))))
    (ssc (sif (tin hr xnon (xlc (own := [("_", 8), ("tree", 9)]) rfl nd (by rfl) (xil (xv 5)) (fun _ _ _ _ _ => (xgtp rfl (xgc (xg 8 nd) (xgc (xg 9 nd) xgn)))) (fun _ _ _ _ _ => xtn) (fun _ _ _ _ _ => (xv 9)))) (ss1 (sret xnon)) ssn)
    (ss1 (sret (xtup (xac xstr (xac (xv 4) (xac (xbi (bi_tuple Z.tuple) (xac (xv 5) xan)) xan))))))))), fun ds ω R h => ?_⟩
  obtain ⟨b, lot, g, h, rfl, o, hl, hg, hn, hr2, hone, q1, q2⟩ := h
  have o1 := o.rig
  have hh := hr2.lt o1 hg
  have hp10 := parts_len (r := b.rig) (lot := lot) (g := h)
  unfold wSeq wAsg
  refine wif_any (C := fun d => ∃ way : List Nat, d = natsD way ∧ Way b lot (g :: way) ∧ (g :: way).getLast (by simp) = h ∧ way.length ≤ 10) (fun R' hR' => ?_) fun d hd => ?_
  · walk_at "st"
    by_cases e : h = g
    · rw [decide_eq_true e]
      walk_at "st"
      exact hR' _ ⟨[], rfl, trivial, e.symm, by simp⟩
    · rw [decide_eq_false e]
      walk_at "st"
      intro l hw hlast hlen
      walk_at "st"
      refine hR' _ ⟨l, ?_, hw, hlast, hlen⟩
      show Da.tup (Dl.cutD (natD g :: l.map natD) (some 1) none) = _
      rw [cut1]
      rfl
  obtain ⟨way, rfl, hw, hlast, hwl⟩ := hd
  walk_at "st"
  refine lc_rel' (fun i acc => ∃ rs : List ((Nat × List Nat) × Da), acc = rs.map resD ∧ rs.map (·.1) = (parts b.rig lot h).take i ∧ ∀ r ∈ rs, Res n b r.1.2 h r.2) (by rw [List.length_map]; omega) ⟨[], rfl, by rw [List.take_zero]; rfl, by simp⟩ (fun i d acc ω' Q1 Q2 hd hP hs h1 h2 => by
    obtain ⟨rs, rfl, e1, e2⟩ := hP
    rw [List.getElem?_map] at hd
    cases eq : (parts b.rig lot h)[i]? with
    | none => rw [eq] at hd; cases hd
    | some q =>
      rw [eq] at hd
      cases hd
      have hq := List.mem_of_getElem? eq
      obtain ⟨qx, eqp⟩ := (mem_parts o1 hl hh).mp hq
      have lq : LotOk b.rig q.2 := by rw [eqp]; exact hl.part
      have hsm := part_small o1 hl hh hone hq
      have nxt : ∀ d, Res n b q.2 h d → Q1 (.tup [natD q.1, d]) ω' := fun d hr => h1 _ ⟨rs ++ [(q, d)], by rw [List.map_append]; rfl, by rw [List.map_append, e1, take_next' eq]; rfl, fun r hr2 => by
        rcases List.mem_append.mp hr2 with hr2 | hr2
        · exact e2 r hr2
        · rw [List.mem_singleton.mp hr2]; exact hr⟩
      walk_at "st"
      exact ⟨fun hst => nxt _ (.inl ⟨hst, rfl⟩), fun t t1 t2 t3 => nxt _ (.inr ⟨t1, t2, t3⟩)⟩) fun acc _ hP => ?_
  rw [List.length_map] at hP
  obtain ⟨rs, rfl, e1, e2⟩ := hP
  rw [List.take_length] at e1
  have hrl : rs.length ≤ 10 := by rw [← List.length_map (·.1), e1]; exact hp10
  walk_at "st"
  refine lc_map rs resD (fun r => r.2) (by omega) (fun r ω' Q1 Q2 hr hs hq => by
    walk_at "st"
    exact hq) ?_
  have stk : (∃ r ∈ rs, r.2 = .non) ↔ Stuck b lot g := by
    rw [stuck_iff o1 hl hg hr2, ← e1]
    constructor
    · rintro ⟨r, hr, e⟩
      refine ⟨r.1, List.mem_map.mpr ⟨r, hr, rfl⟩, ?_⟩
      rcases e2 r hr with z | ⟨_, z, _⟩
      · exact z.1
      · rw [e] at z; exact z.ne_non.elim
    · rintro ⟨q, hq, hst⟩
      obtain ⟨r, hr, rfl⟩ := List.mem_map.mp hq
      refine ⟨r, hr, ?_⟩
      rcases e2 r hr with z | ⟨z, _, _⟩
      · exact z.2
      · exact absurd hst z
  have cl : clAll (rs.map fun r => r.2) = true := clAll_map fun r hr => by
    rcases e2 r hr with z | ⟨_, z, _⟩
    · rw [z.2]; rfl
    · exact z.cl
  walk_at "st"
  refine ⟨_, rfl, rfl, cl, Nat.zero_le _, fun bb hbb => ?_⟩
  rw [if_neg (by decide)] at hbb
  have hbb2 : bb = true ↔ Stuck b lot g := by
    rw [hbb, ← stk, List.mem_map]
    exact ⟨fun ⟨r, z1, z2⟩ => ⟨r, z1, z2⟩, fun ⟨r, z1, z2⟩ => ⟨r, z1, z2⟩⟩
  cases bb with
  | true =>
    walk_at "st"
    exact q1 (hbb2.mp rfl)
  | false =>
    have ns : ¬ Stuck b lot g := fun z => by have := hbb2.mpr z; cases this
    walk_at "st"
    have good : ∀ r ∈ rs, TOk B10 (n + 1) r.2 ∧ TGood b r.1.2 h r.2 := fun r hr => by
      rcases e2 r hr with z | ⟨_, z1, z2⟩
      · exact absurd (stk.mp ⟨r, hr, z.2⟩) ns
      · exact ⟨z1, z2⟩
    have hne : rs ≠ [] := fun e => by
      rw [e] at e1
      have h0 : parts b.rig lot h = [] := e1.symm
      have : oneSign b.rig lot h = true := by
        unfold oneSign
        unfold parts at h0
        rw [List.map_eq_nil_iff.mp h0]
        rfl
      rw [hone] at this; cases this
    have ed : Da.tup [.str "look", natsD way, .tup (rs.map resD)] = lookD way (rs.map fun r => (r.1.1, r.2)) := by
      unfold lookD
      rw [List.map_map]
      rfl
    have fin := q2 (lookD way (rs.map fun r => (r.1.1, r.2))) ns (.look hwl (fun e => hne (List.map_eq_nil_iff.mp e)) (by rw [List.length_map]; exact hrl) fun p hp => by
      obtain ⟨r, hr, rfl⟩ := List.mem_map.mp hp
      exact (good r hr).1) (look_good o1 hl hh hw hlast e1 fun r hr => (good r hr).2)
    rw [← ed] at fin
    exact fin
theorem D_tree_step (Z : Zp K mg base T) {n : Nat} (D_look_from : Df P wo K mg base T "look_from" (2 * n + 19) (sp_look_from n)) : Df P wo K mg base T "tree_from" (2 * n + 20) (sp_tree_from n) := by
  have sc : FnScope ["book", "lot", "g", "remedies", "h"] ["book", "lot", "g"] (defScope s_tree_from) := ⟨rfl, rfl, rfl, by decide +kernel, rfl, by decide +kernel, by decide +kernel⟩
  obtain ⟨⟨fd, F⟩, hm⟩ := Z.df 45 d_tree_from rfl rfl
  have D_has_one_sign := D_has_one_sign (P := P) (wo := wo) Z
  have D_cures_of := D_cures_of (P := P) (wo := wo) Z
  have D_nearest := D_nearest (P := P) (wo := wo) Z
  refine def_ok F sc hm (fun _ _ _ _ _ _ us hl => match us, hl with | [_, _, _], _ => rfl) (by walk_at "len") fun cdv A outer st H E hr => ?_
  have nd := sc.nd
  refine ⟨_, (ssc (sif (tnot (tval (xcall D_has_one_sign (hr.mono (by first | decide | omega)) (xac (xix (xv 0) xint) (xac (xv 1) (xac (xv 2) xan)))))) (ss1 (sret (xcall D_look_from (hr.mono (by first | decide | omega)) (xac (xv 0) (xac (xv 1) (xac (xv 2) (xac (xv 2) xan))))))) ssn)
    (ssc (sset 3 nd (xcall D_cures_of (hr.mono (by first | decide | omega)) (xac (xix (xv 0) xint) (xac (xv 1) xan))))
    (ssc (sif (tne hr (xv 3) (xtup xan)) (ss1 (sret (xtup (xac xstr (xac (xtup xan) (xac (xix (xv 3) xint) xan)))))) ssn)
    (ssc (sset 4 nd (xcall D_nearest (hr.mono (by first | decide | omega)) (xac (xv 0) (xac (xv 1) (xac (xv 2) xan)))))
    (ss1 (sret (xif (tisN (xv 4) xnon) xnon (xcall D_look_from (hr.mono (by first | decide | omega)) (xac (xv 0) (xac (xv 1) (xac (xv 2) (xac (xv 4) xan)))))))))))), fun ds ω R h => ?_⟩
  obtain ⟨b, lot, g, rfl, o, hl, hg, hn, q1, q2⟩ := h
  have o1 := o.rig
  walk_at "st"
  cases hone : oneSign b.rig lot g with
  | false =>
    have hr : Reach b lot g g := .self
    walk_at "st"
    exact q2
  | true =>
    walk_at "st"
    refine ne_nilt ?_
    by_cases hc : cures b.rig lot = []
    · rw [decide_eq_true hc]
      have hd : done b.rig lot = false := by unfold done; rw [decide_eq_true hc]; rfl
      walk_at "st"
      refine ⟨fun h hr hh => ?_, fun hall => ?_⟩
      · walk_at "st"
        exact q2
      · walk_at "st"
        exact q1 (stuck_self hl hd fun h hr => (oneSign_iff o1 hl (hr.lt o1 hg)).mp (hall h hr))
    · rw [decide_eq_false hc]
      have hd : done b.rig lot = true := by unfold done; rw [decide_eq_false hc]; rfl
      obtain ⟨c, rest, ec⟩ : ∃ c rest, cures b.rig lot = c :: rest := by
        cases e : cures b.rig lot with
        | nil => exact absurd e hc
        | cons c rest => exact ⟨c, rest, rfl⟩
      have ea : atI ((cures b.rig lot).map natD) 0 = some (natD c) := ix_map (i := 0) (by rw [ec]; rfl)
      have hcm := mem_cures.mp (show c ∈ cures b.rig lot by rw [ec]; simp)
      walk_at "st"
      exact q2 (cureD [] c) (stuck_done hd) (.cure (by simp)) fun lot0 x walk hx _ _ => .cure .nil (hcm.2 x hx)
/-- THE MAKER OF TREES, by the size of the lot -/
theorem D_trees (Z : Zp K mg base T) : ∀ n : Nat, Df P wo K mg base T "tree_from" (2 * n + 20) (sp_tree_from n) := by
  intro n
  induction n with
  | zero =>
    obtain ⟨⟨fd, F⟩, hm⟩ := Z.df 44 d_look_from rfl rfl
    refine D_tree_step Z (df_bot F hm (ps := ["book", "lot", "g", "h"]) (fun _ _ _ _ _ _ us hl => match us, hl with | [_, _, _, _], _ => rfl) fun ds ω R h => ?_)
    obtain ⟨b, lot, g, h, rfl, o, hl, hg, hn, hr, hone, _⟩ := h
    have e : lot = [] := List.eq_nil_of_length_eq_zero (Nat.le_zero.mp hn)
    subst e
    have : oneSign b.rig [] h = true := (oneSign_iff o.rig hl (hr.lt o.rig hg)).mpr fun x hx => by cases hx
    rw [hone] at this
    cases this
  | succ n ih => exact D_tree_step Z (D_look_step Z ih)
theorem D_tree_from (Z : Zp K mg base T) : Df P wo K mg base T "tree_from" 28 (sp_tree_from 4) := D_trees Z 4
end
end Wr
set_option maxHeartbeats 4000000
/-! joined. -/
namespace Wr
open PySem PySem.Spec PyProof.Rows L2 Dl
local macro_rules
  | `(tactic| walk_at "len") => `(tactic| (intro ds ω R h; repeat (first | (obtain ⟨e, _⟩ := h; subst e; rfl) | (obtain ⟨_, h⟩ := h))))
  | `(tactic| walk_at "st1") => `(tactic| first
    | apply Exists.intro
    | refine And.intro rfl ?_ | refine iteT ?_ | refine iteF ?_
    | refine And.intro (lst_ptr (by assumption)) ?_ | refine And.intro (seq_ptr (by assumption)) ?_ | refine And.intro (dct_ptr (by assumption)) ?_
    | refine And.intro (lst_ptr Om.set_same) ?_ | refine And.intro (seq_ptr Om.set_same) ?_ | refine And.intro Om.set_same ?_
    | refine And.intro ⟨_, lst_ptr (by assumption)⟩ ?_ | refine And.intro ⟨_, lst_ptr Om.set_same⟩ ?_ | refine And.intro ⟨_, rfl⟩ ?_ | refine And.intro ⟨_, lst_ptr ((Om.set_ne (by assumption)).trans (by assumption))⟩ ?_
    | refine And.intro ((Om.set_ne (by assumption)).trans (by assumption)) ?_ | refine And.intro (lst_ptr ((Om.set_ne (by assumption)).trans (by assumption))) ?_
    | refine And.intro (by assumption) ?_ | refine And.intro (ix_map (by assumption)) ?_
    | refine And.intro (by omega) ?_
    | refine do_all (by rfl) ?_ | refine eq_nat ?_ | refine ne_nat ?_ | refine eq_nats ?_ | refine ne_nats ?_ | refine in_nats ?_ | refine nin_nats ?_)
  | `(tactic| walk_at "st") => `(tactic| repeat walk_at "st1")
section
variable {P : Program} {wo : World} {K : PySem.W.Frag} {mg : Str → Option Value} {base : Heap} {T : Tb}
theorem TOk.res {B : Nat → Nat} {d : Nat} {t : Da} {ω : Om} (h : TOk B d t) : res ω t = t := by cases h <;> rfl
theorem TOk.succ {d : Nat} {t : Da} (h : TOk BJ d t) : TOk BJ (d + 1) t := by
  induction h with
  | cure hw => exact .cure (by show _ ≤ 10 * (_ + 1 + 1); have : _ ≤ 10 * (_ + 1) := hw; omega)
  | look hw hne hb _ ih => exact .look (by show _ ≤ 10 * (_ + 1 + 1); have : _ ≤ 10 * (_ + 1) := hw; omega) hne hb ih
def sp_joined (d : Nat) : Dsp := fun ds ω R => ∃ t, ds = [t] ∧ TOk B10 d t ∧ d ≤ 15 ∧ ∀ t', TOk BJ d t' → Keeps t t' → R t' ω
theorem D_joined_step (Z : Zp K mg base T) {d : Nat} (D_joined : Df P wo K mg base T "joined" d (sp_joined d)) : Df P wo K mg base T "joined" (d + 1) (sp_joined (d + 1)) := by
  have sc : FnScope ["tree", "word", "way", "rest", "branches", "first", "sign", "part", "_"] ["tree"] (defScope s_joined) := ⟨rfl, rfl, rfl, by decide +kernel, rfl, by decide +kernel, by decide +kernel⟩
  obtain ⟨⟨fd, F⟩, hm⟩ := Z.df 40 d_joined rfl rfl
  refine def_ok F sc hm (fun _ _ _ _ _ _ us hl => match us, hl with | [_], _ => rfl) (by walk_at "len") fun cdv A outer st H E hr => ?_
  have nd := sc.nd
  refine ⟨_, (ssc (sasg (xv 0) (xgtp rfl (xgc (xg 1 nd) (xgc (xg 2 nd) (xgc (xg 3 nd) xgn)))))
    (ssc (sif (teq hr (xv 1) xstr) (ss1 (sret (xv 0))) ssn)
    (ssc (sset 4 nd (xbi (bi_tuple Z.tuple) (xac (xlc (own := [("sign", 6), ("part", 7)]) rfl nd (by rfl) (xit (xv 3)) (fun _ _ _ _ _ => (xgtp rfl (xgc (xg 6 nd) (xgc (xg 7 nd) xgn)))) (fun _ _ _ _ _ => xtn) (fun _ _ _ _ _ => (xtup (xac (xv 6) (xac (xcall D_joined (hr.mono (by first | decide | omega)) (xac (xv 7) xan)) xan))))) xan)))
    (ssc (sset 5 nd (xix (xix (xv 4) xint) xint))
    (ssc (sif (tval (xbi (bi_all rfl Z.all) (xac (xlc (own := [("_", 8), ("part", 7)]) rfl nd (by rfl) (xit (xv 4)) (fun _ _ _ _ _ => (xgtp rfl (xgc (xg 8 nd) (xgc (xg 7 nd) xgn)))) (fun _ _ _ _ _ => xtn) (fun _ _ _ _ _ => (xeq hr (xv 7) (xv 5)))) xan))) (ss1 (sret (xtup (xac (xix (xv 5) xint) (xac (xcat (xv 2) (xix (xv 5) xint)) (xac (xix (xv 5) xint) xan)))))) ssn)
    (ss1 (sret (xtup (xac (xv 1) (xac (xv 2) (xac (xv 4) xan))))))))))), fun ds ω R h => ?_⟩
  obtain ⟨t, rfl, ht, hd, q⟩ := h
  cases ht with
  | @cure _ way c hw =>
    walk_at "st"
    refine do_eq (P := True) rfl rfl (Nat.zero_le _) ⟨fun _ => trivial, fun _ => rfl⟩ ?_
    rw [decide_eq_true trivial]
    walk_at "st"
    exact q _ (.cure (by show way.length ≤ 10 * (d + 1); have : way.length ≤ 10 := hw; omega)) fun b lot x walk hg => hg
  | @look _ way bs hw hne hbl hch =>
    have hw : way.length ≤ 10 := hw
    walk_at "st"
    refine do_eq (P := False) rfl rfl (Nat.zero_le _) ⟨fun e => by
      have e : Da.str "look" = Da.str "cure" := e
      have e := Da.str.inj e
      revert e
      decide, fun z => z.elim⟩ ?_
    rw [decide_eq_false (fun z => z)]
    walk_at "st"
    refine lc_rel' (fun i acc => ∃ rs : List ((Nat × Da) × Da), acc = rs.map resJ ∧ rs.map (·.1) = bs.take i ∧ ∀ r ∈ rs, TOk BJ d r.2 ∧ Keeps r.1.2 r.2) (by rw [List.length_map]; omega) ⟨[], rfl, by rw [List.take_zero]; rfl, by simp⟩ (fun i e acc ω' Q1 Q2 he hP hs h1 h2 => by
      obtain ⟨rs, rfl, e1, e2⟩ := hP
      rw [List.getElem?_map] at he
      cases eq : bs[i]? with
      | none => rw [eq] at he; cases he
      | some p =>
        rw [eq] at he
        cases he
        have hp := hch p (List.mem_of_getElem? eq)
        walk_at "st"
        intro t' t1 t2
        exact h1 _ ⟨rs ++ [(p, t')], by rw [List.map_append]; rfl, by rw [List.map_append, e1, take_next' eq]; rfl, fun r hr => by
          rcases List.mem_append.mp hr with hr | hr
          · exact e2 r hr
          · rw [List.mem_singleton.mp hr]; exact ⟨t1, t2⟩⟩) fun acc _ hP => ?_
    rw [List.length_map] at hP
    obtain ⟨rs, rfl, e1, e2⟩ := hP
    rw [List.take_length] at e1
    subst e1
    rw [List.length_map] at hbl
    cases rs with
    | nil => exact absurd rfl hne
    | cons r0 rs0 =>
      have g0 := e2 r0 (by simp)
      have ea : atI ((r0 :: rs0).map resJ) 0 = some (resJ r0) := ix_map (i := 0) rfl
      walk_at "st"
      refine lc_map (r0 :: rs0) resJ (fun r => .bl (@decide (r.2 = r0.2) (Classical.propDecidable _))) (by omega) (fun r ω' Q1 Q2 hr hs hq => by
        have c1 := (e2 r hr).1
        walk_at "st"
        refine @do_eq _ _ _ _ (r.2 = r0.2) (Classical.propDecidable _) ?_ ?_ ?_ ?_ hq
        · rw [c1.res]; exact c1.cl
        · rw [g0.1.res]; exact g0.1.cl
        · rw [c1.res]; exact Nat.le_trans c1.dep (by omega)
        · rw [c1.res, g0.1.res]) ?_
      walk_at "st"
      have hjoin : ∀ way1 : List Nat, .tup (way.map natD ++ way1.map natD) = natsD (way ++ way1) := fun way1 => by
        unfold natsD; rw [List.map_append]
      cases hall : ((r0 :: rs0).all fun r => @decide (r.2 = r0.2) (Classical.propDecidable _)) with
      | true =>
        have he : ∀ r ∈ r0 :: rs0, r.2 = r0.2 := fun r hr => @of_decide_eq_true _ (Classical.propDecidable _) (List.all_eq_true.mp hall r hr)
        have hk : ∀ r ∈ r0 :: rs0, Keeps r.1.2 r.2 := fun r hr => (e2 r hr).2
        have g01 := g0.1
        have hr0 : r0.2 = r0.2 := rfl
        generalize hfst : r0.2 = first at g01 he
        cases g01 with
        | @cure d' way1 c hw1 =>
          have hw1 : way1.length ≤ 10 * (d' + 1) := hw1
          have hl1 : (way.map natD).length + (way1.map natD).length ≤ 100000 := by rw [List.length_map, List.length_map]; omega
          walk_at "st"
          rw [hjoin way1]
          exact q (cureD (way ++ way1) c) (.cure (by rw [List.length_append]; show _ ≤ 10 * (d' + 1 + 1); omega)) (keeps_one (way1 := way1) hk he (pre_cure rfl))
        | @look d' way1 bs1 hw1 hne1 hbl1 hch1 =>
          have hw1 : way1.length ≤ 10 * (d' + 1) := hw1
          have hl1 : (way.map natD).length + (way1.map natD).length ≤ 100000 := by rw [List.length_map, List.length_map]; omega
          walk_at "st"
          rw [hjoin way1]
          exact q (lookD (way ++ way1) bs1) (.look (by rw [List.length_append]; show _ ≤ 10 * (d' + 1 + 1); omega) hne1 hbl1 fun p hp => (hch1 p hp).succ) (keeps_one (way1 := way1) hk he (pre_look rfl))
      | false =>
        walk_at "st"
        have ed : Da.tup [.str "look", natsD way, .tup ((r0 :: rs0).map resJ)] = lookD way ((r0 :: rs0).map fun r => (r.1.1, r.2)) := by
          unfold lookD
          rw [List.map_map]
          rfl
        have fin := q (lookD way ((r0 :: rs0).map fun r => (r.1.1, r.2))) (.look (by show _ ≤ 10 * (d + 1); omega) (by simp) (by rw [List.length_map]; exact hbl) fun p hp => by
          obtain ⟨r, hr, rfl⟩ := List.mem_map.mp hp
          exact (e2 r hr).1) (keeps_look fun r hr => (e2 r hr).2)
        rw [← ed] at fin
        exact fin
theorem D_joined_n (Z : Zp K mg base T) : ∀ d : Nat, Df P wo K mg base T "joined" d (sp_joined d) := by
  intro d
  induction d with
  | zero =>
    obtain ⟨⟨fd, F⟩, hm⟩ := Z.df 40 d_joined rfl rfl
    exact df_bot F hm (ps := ["tree"]) (fun _ _ _ _ _ _ us hl => match us, hl with | [_], _ => rfl) fun ds ω R ⟨t, _, ht, _⟩ => ht.not_zero
  | succ d ih => exact D_joined_step Z ih
theorem D_joined (Z : Zp K mg base T) : Df P wo K mg base T "joined" 5 (sp_joined 5) := D_joined_n Z 5
end
end Wr
set_option maxHeartbeats 4000000
/-! Rows. -/
namespace Wr
open PySem PySem.Spec PyProof.Rows L2 Dl
local macro_rules
  | `(tactic| walk_at "len") => `(tactic| (intro ds ω R h; repeat (first | (obtain ⟨e, _⟩ := h; subst e; rfl) | (obtain ⟨_, h⟩ := h))))
  | `(tactic| walk_at "st1") => `(tactic| first
    | apply Exists.intro
    | refine And.intro rfl ?_ | refine iteT ?_ | refine iteF ?_
    | refine And.intro (lst_ptr (by assumption)) ?_ | refine And.intro (seq_ptr (by assumption)) ?_ | refine And.intro (dct_ptr (by assumption)) ?_
    | refine And.intro (lst_ptr Om.set_same) ?_ | refine And.intro (seq_ptr Om.set_same) ?_ | refine And.intro Om.set_same ?_
    | refine And.intro ⟨_, lst_ptr (by assumption)⟩ ?_ | refine And.intro ⟨_, lst_ptr Om.set_same⟩ ?_ | refine And.intro ⟨_, rfl⟩ ?_ | refine And.intro ⟨_, lst_ptr ((Om.set_ne (by assumption)).trans (by assumption))⟩ ?_
    | refine And.intro ((Om.set_ne (by assumption)).trans (by assumption)) ?_ | refine And.intro (lst_ptr ((Om.set_ne (by assumption)).trans (by assumption))) ?_
    | refine And.intro (by assumption) ?_ | refine And.intro (ix_map (by assumption)) ?_
    | refine And.intro (by omega) ?_
    | refine do_all (by rfl) ?_ | refine eq_nat ?_ | refine ne_nat ?_ | refine eq_nats ?_ | refine ne_nats ?_ | refine in_nats ?_ | refine nin_nats ?_)
  | `(tactic| walk_at "st") => `(tactic| repeat walk_at "st1")
section
variable {P : Program} {wo : World} {K : PySem.W.Frag} {mg : Str → Option Value} {base : Heap} {T : Tb}
abbrev CR (K : PySem.W.Frag) : Addr := He.ga K "Rows"
def sp_Rows_init (K : PySem.W.Frag) : Dsp := fun ds ω R => ∃ x dx, ds = [.ptr x] ∧ ω x = some (.ins (CR K) dx []) ∧ ∀ q, ω q = none → R .non ((ω.set q (.lst [])).set x (.ins (CR K) dx [("rows", .ptr q)]))
theorem D_Rows_init (Z : Zp K mg base T) : Dm P wo K mg base T (He.ma K (CR K) "__init__") 1 (sp_Rows_init K) := by
  have sc : FnScope ["self"] ["self"] (defScope s_Rows_init) := ⟨rfl, rfl, rfl, by decide +kernel, rfl, by decide +kernel, by decide +kernel⟩
  obtain ⟨fd, F⟩ := Z.dm 91 d_Rows_init rfl
  refine def_okM (K := K) (f := He.ma K (CR K) "__init__") F sc (fun _ _ _ _ _ _ us hl => match us, hl with | [_], _ => rfl) (by rintro ds ω R ⟨x, dx, rfl, _⟩; rfl) fun cdv A outer st H E hr => ?_
  have nd := sc.nd
  refine ⟨_, (ss1 (sfld1 Z.rcls Z.rnoat (xv 0) (xnew xan))), fun ds ω R h => ?_⟩
  obtain ⟨x, dx, rfl, hx, q⟩ := h
  refine fun p hp => ?_
  have ne : x ≠ p := fun z => by subst z; rw [hx] at hp; cases hp
  refine ⟨.ptr x, rfl, x, dx, rfl, by rw [Om.set_ne ne]; exact hx, ?_⟩
  exact ⟨_, fun a c e => e, q p hp⟩
/-- row i, read with what it refers to, is the tree -/
inductive Unf (L : List Da) : Nat → Da → Prop
  | cure {i : Nat} {way : List Nat} {c : Nat} : L[i]? = some (cureD way c) → Unf L i (cureD way c)
  | look {i : Nat} {way : List Nat} {rs : List (Nat × Nat × Da)} : L[i]? = some (lookD way (rs.map fun r => (r.1, natD r.2.1))) → (∀ r ∈ rs, Unf L r.2.1 r.2.2) → Unf L i (lookD way (rs.map fun r => (r.1, r.2.2)))
theorem Unf.mono {L M : List Da} {i : Nat} {t : Da} (h : Unf L i t) : Unf (L ++ M) i t := by
  have key : ∀ {i : Nat} {d : Da}, L[i]? = some d → (L ++ M)[i]? = some d := fun {i d} e => by
    rw [List.getElem?_append_left (List.getElem?_eq_some_iff.mp e).1]; exact e
  induction h with
  | cure e => exact .cure (key e)
  | look e _ ih => exact .look (key e) ih
theorem Unf.lt {L : List Da} {i : Nat} {t : Da} (h : Unf L i t) : i < L.length := by
  cases h with
  | cure e => exact (List.getElem?_eq_some_iff.mp e).1
  | look e _ => exact (List.getElem?_eq_some_iff.mp e).1
theorem Unf.det {L : List Da} {i : Nat} {t u : Da} (h : Unf L i t) (k : Unf L i u) : t = u := by
  induction h generalizing u with
  | @cure i way c e =>
    cases k with
    | cure e' => rw [e] at e'; exact Option.some.inj e'
    | look e' _ => rw [e] at e'; cases e'
  | @look i way rs e hs ih =>
    cases k with
    | cure e' => rw [e] at e'; cases e'
    | @look _ way' rs' e' hs' =>
      rw [e] at e'
      have z := Option.some.inj e'
      unfold lookD at z
      injection z with z
      injection z with _ z
      injection z with z1 z
      injection z with z2 _
      injection z2 with z2
      have e1 := natsD_inj z1
      subst e1
      have key : ∀ {rs rs' : List (Nat × Nat × Da)}, (∀ r ∈ rs, ∀ {u : Da}, Unf L r.2.1 u → r.2.2 = u) → (∀ r ∈ rs', Unf L r.2.1 r.2.2) → (rs.map fun r => (r.1, natD r.2.1)).map brD = (rs'.map fun r => (r.1, natD r.2.1)).map brD →
          (rs.map fun r => (r.1, r.2.2)) = rs'.map fun r => (r.1, r.2.2) := by
        intro rs
        induction rs with
        | nil => intro rs' _ _ z; cases rs' with
          | nil => rfl
          | cons _ _ => cases z
        | cons r rs ihr =>
          intro rs' a b z
          cases rs' with
          | nil => cases z
          | cons r' rs' =>
            simp only [List.map_cons] at z ⊢
            injection z with z1 z2
            unfold brD natD at z1
            simp only [Da.tup.injEq, List.cons.injEq, Da.int.injEq, and_true] at z1
            have h1 : r.1 = r'.1 := by omega
            have h2 : r.2.1 = r'.2.1 := by omega
            have h3 := a r List.mem_cons_self (u := r'.2.2) (by rw [h2]; exact b r' List.mem_cons_self)
            rw [h1, h3, ihr (fun x hx => a x (List.mem_cons_of_mem _ hx)) (fun x hx => b x (List.mem_cons_of_mem _ hx)) z2]
      rw [key (fun r hr u hu => ih r hr hu) hs' z2]
theorem size_br {way : List Nat} {bs : List (Nat × Da)} {p : Nat × Da} (h : p ∈ bs) : sizeOf p.2 < sizeOf (lookD way bs) := by
  have h1 : sizeOf (brD p) < sizeOf (bs.map brD) := List.sizeOf_lt_of_mem (List.mem_map.mpr ⟨p, h, rfl⟩)
  have h2 : sizeOf p.2 < sizeOf (brD p) := by unfold brD; simp only [Da.tup.sizeOf_spec, List.cons.sizeOf_spec]; omega
  have h3 : sizeOf (bs.map brD) < sizeOf (lookD way bs) := by unfold lookD; simp only [Da.tup.sizeOf_spec, List.cons.sizeOf_spec]; omega
  omega
theorem Om.swap {w : Om} {p q : Addr} {c d : Cel} (h : p ≠ q) : (w.set p c).set q d = (w.set q d).set p c := by
  funext a
  by_cases h1 : a = q
  · subst h1; rw [Om.set_same, Om.set_ne (Ne.symm h), Om.set_same]
  · rw [Om.set_ne h1]
    by_cases h2 : a = p
    · subst h2; rw [Om.set_same, Om.set_same]
    · rw [Om.set_ne h2, Om.set_ne h2, Om.set_ne h1]
/-- a row's form -/
inductive RowF : Da → Prop
  | cure {way : List Nat} {c : Nat} : RowF (cureD way c)
  | look {way : List Nat} {bs : List (Nat × Nat)} : RowF (lookD way (bs.map fun p => (p.1, natD p.2)))
theorem RowF.cl {r : Da} (h : RowF r) : r.cl = true := by
  cases h with
  | cure => show (true && ((natsD _).cl && (true && true))) = true; rw [cl_nats]; rfl
  | @look way bs =>
    have e : clAll ((bs.map fun p => (p.1, natD p.2)).map brD) = true := by
      rw [List.map_map]
      exact clAll_map fun p hp => rfl
    show (true && ((natsD _).cl && (clAll _ && true))) = true
    rw [cl_nats, e]; rfl
theorem cl_rows {L : List Da} (h : ∀ r ∈ L, RowF r) : clAll L = true := by
  have z := clAll_map (enc := fun r => r) (l := L) fun r hr => (h r hr).cl
  rwa [List.map_id'] at z
theorem lay_map {α : Type} {enc : α → Da} : ∀ {l : List α}, (∀ x ∈ l, lays (enc x)) → laysAll (l.map enc)
  | [], _ => rfl
  | x :: l, h => by
    show ((enc x).py.canLay0 && PyData.canLayAll0 (pyAll (l.map enc))) = true
    rw [show (enc x).py.canLay0 = true from h x List.mem_cons_self, show PyData.canLayAll0 (pyAll (l.map enc)) = true from lay_map fun y hy => h y (List.mem_cons_of_mem _ hy)]
    rfl
theorem lay_nat (n : Nat) : lays (natD n) := rfl
theorem lay_nats (l : List Nat) : laysAll (l.map natD) := lay_map fun x _ => lay_nat x
theorem lay_tup {l : List Da} (h : laysAll l) : lays (.tup l) := by
  have h2 : PyData.canLayAll0 (pyAll l) = true := h
  show PyData.canLay0 (.tuple (pyAll l)) = true
  simpa [PyData.canLay0] using h2
theorem lay_cons {x : Da} {l : List Da} (h : lays x) (t : laysAll l) : laysAll (x :: l) := by
  show (x.py.canLay0 && PyData.canLayAll0 (pyAll l)) = true
  rw [show x.py.canLay0 = true from h, show PyData.canLayAll0 (pyAll l) = true from t]; rfl
theorem lay_str (x : Str) (h : PyData.strOk x = true) : lays (.str x) := by
  show PyData.canLay0 (.str x) = true
  simpa [PyData.canLay0] using h
theorem RowF.lays {r : Da} (h : RowF r) : lays r := by
  cases h with
  | @cure way c => exact lay_tup (lay_cons (lay_str _ (by decide +kernel)) (lay_cons (lay_tup (lay_nats way)) (lay_cons (lay_nat c) rfl)))
  | @look way bs =>
    refine lay_tup (lay_cons (lay_str _ (by decide +kernel)) (lay_cons (lay_tup (lay_nats way)) (lay_cons (lay_tup ?_) rfl)))
    rw [List.map_map]
    exact lay_map fun p hp => lay_tup (lay_cons (lay_nat _) (lay_cons (lay_nat _) rfl))
theorem lay_rows {L : List Da} (h : ∀ r ∈ L, RowF r) : laysAll L := by
  have z := lay_map (enc := fun r => r) (l := L) fun r hr => (h r hr).lays
  rwa [List.map_id'] at z
theorem first_ix {r : Da} : ∀ {L : List Da}, r ∈ L → ∃ j : Nat, L[j]? = some r ∧ ∀ m, m < j → L[m]? ≠ some r
  | a :: L, h => by
    by_cases e : a = r
    · exact ⟨0, by rw [e]; rfl, fun m hm => absurd hm (Nat.not_lt_zero _)⟩
    · obtain ⟨j, h1, h2⟩ := first_ix (L := L) ((List.mem_cons.mp h).resolve_left fun z => e z.symm)
      refine ⟨j + 1, by simpa using h1, fun m hm => ?_⟩
      cases m with
      | zero => simpa using e
      | succ m => simpa using h2 m (by omega)
theorem RowF.dep {r : Da} (h : RowF r) : r.dep ≤ 4 := by
  cases h with
  | @cure way c =>
    have := dep_nats way
    show max 0 (max (natsD way).dep (max 0 0)) + 1 ≤ _
    omega
  | @look way bs =>
    have h1 := dep_nats way
    have h2 : depAll ((bs.map fun p => (p.1, natD p.2)).map brD) ≤ 1 := by
      rw [List.map_map]
      exact depAll_map fun p hp => by show max 0 (max 0 0) + 1 ≤ 1; omega
    show max 0 (max (natsD way).dep (max (depAll _ + 1) 0)) + 1 ≤ _
    omega
theorem RowF.res {r : Da} {ω : Om} (h : RowF r) : res ω r = r := by cases h <;> rfl
theorem row_index {L : List Da} {r : Da} {ω : Om} {R : Da → Om → Prop} (hL : ∀ r ∈ L, RowF r) (hm : r ∈ L) (q : ∀ j : Nat, L[j]? = some r → (∀ m, m < j → L[m]? ≠ some r) → R (natD j) ω) : fIndex L r ω R := by
  have hr := hL r hm
  obtain ⟨j, h1, h2⟩ := first_ix hm
  have hd : depAll L ≤ 50 := by
    have z := depAll_map (enc := fun r => r) (n := 50) (l := L) fun r hr => Nat.le_trans (hL r hr).dep (by decide)
    rwa [List.map_id'] at z
  exact ⟨by rw [hr.res]; exact ⟨hr.cl, cl_rows hL, lay_rows hL, hr.lays, hd, Nat.le_trans hr.dep (by decide), j, h1, h2, q j h1 h2⟩⟩
theorem new_ix {L : List Da} {r : Da} {j : Nat} (hm : r ∉ L) (h : (L ++ [r])[j]? = some r) : j = L.length := by
  have hl := (List.getElem?_eq_some_iff.mp h).1
  rw [List.length_append] at hl
  have hl : j < L.length + 1 := hl
  by_cases e : j < L.length
  · rw [List.getElem?_append_left e] at h
    exact absurd (List.mem_of_getElem? h) hm
  · omega
/-- how many rows a tree of depth d can need -/
def nodes : Nat → Nat
  | 0 => 0
  | d + 1 => 1 + 10 * nodes d
/-- what numbering the tree t makes of the rows L -/
structure NumOk (L : List Da) (t : Da) (d : Nat) (L' : List Da) (i : Nat) : Prop where
  pre : ∃ M, L' = L ++ M
  rows : ∀ r ∈ L', RowF r
  unf : Unf L' i t
  len : L'.length ≤ L.length + nodes d
  new : ∀ k, L.length ≤ k → k < L'.length → ∃ u, Unf L' k u ∧ sizeOf u ≤ sizeOf t
  last : L = [] → i + 1 = L'.length
def sp_Rows_number (K : PySem.W.Frag) (d : Nat) : Dsp := fun ds ω R => ∃ x dx q t L, ds = [.ptr x, t] ∧ ω x = some (.ins (CR K) dx [("rows", .ptr q)]) ∧ ω q = some (.lst L) ∧ TOk BJ d t ∧ d ≤ 15 ∧ (∀ r ∈ L, RowF r) ∧ L.length + nodes d ≤ 80000 ∧
  ∀ L' i, NumOk L t d L' i → R (natD i) (ω.set q (.lst L'))
theorem D_number_step (Z : Zp K mg base T) {d : Nat} (D_Rows_number : Dm P wo K mg base T (He.ma K (CR K) "number") d (sp_Rows_number K d)) : Dm P wo K mg base T (He.ma K (CR K) "number") (d + 1) (sp_Rows_number K (d + 1)) := by
  have sc : FnScope ["self", "tree", "word", "way", "rest", "row", "sign", "part"] ["self", "tree"] (defScope s_Rows_number) := ⟨rfl, rfl, rfl, by decide +kernel, rfl, by decide +kernel, by decide +kernel⟩
  obtain ⟨fd, F⟩ := Z.dm 92 d_Rows_number rfl
  refine def_okM (K := K) (f := He.ma K (CR K) "number") F sc (fun _ _ _ _ _ _ us hl => match us, hl with | [_, _], _ => rfl) (by rintro ds ω R ⟨x, dx, q, t, L, rfl, _⟩; rfl) fun cdv A outer st H E hr => ?_
  have nd := sc.nd
  refine ⟨_, (ssc (sasg (xv 1) (xgtp rfl (xgc (xg 2 nd) (xgc (xg 3 nd) (xgc (xg 4 nd) xgn)))))
    (ssc (sif (teq hr (xv 2) xstr) (ss1 (sset 4 nd (xbi (bi_tuple Z.tuple) (xac (xlc (own := [("sign", 6), ("part", 7)]) rfl nd (by rfl) (xit (xv 4)) (fun _ _ _ _ _ => (xgtp rfl (xgc (xg 6 nd) (xgc (xg 7 nd) xgn)))) (fun _ _ _ _ _ => xtn) (fun _ _ _ _ _ => (xtup (xac (xv 6) (xac (xmethI Z.rcls Z.rmeth D_Rows_number (hr.mono (by first | decide | omega)) (xv 0) (xac (xv 7) xan)) xan))))) xan)))) ssn)
    (ssc (sset 5 nd (xtup (xac (xv 2) (xac (xv 3) (xac (xv 4) xan)))))
    (ssc (sif (tnin hr (xv 5) (xfld Z.rcls Z.rnoat (xv 0))) (ss1 (sexpr (xappend (xfld Z.rcls Z.rnoat (xv 0)) (xac (xv 5) xan)))) ssn)
    (ss1 (sret (xindex hr (xfld Z.rcls Z.rnoat (xv 0)) (xac (xv 5) xan)))))))), fun ds ω R h => ?_⟩
  obtain ⟨x, dx, q, t, L, rfl, hx, hq, ht, hd, hL, hn, fin⟩ := h
  cases ht with
  | @cure _ way c hw =>
    walk_at "st"
    refine do_eq (P := False) rfl rfl (Nat.zero_le _) ⟨fun z => (by cases z), fun z => z.elim⟩ ?_
    rw [decide_eq_false (fun z => z)]
    walk_at "st"
    have eq' : seqOf ω (.ptr q) = some L := seq_ptr hq
    by_cases hm : cureD way c ∈ L
    · refine @do_nin _ _ _ _ _ (cureD way c ∈ L) (.isTrue hm) eq' (RowF.cl (.cure (way := way) (c := c))) (cl_rows hL) (Nat.le_trans (RowF.dep (.cure (way := way) (c := c))) (by decide)) Iff.rfl ?_
      show (fun b => _) (Da.bl false)
      walk_at "st"
      refine row_index (r := cureD way c) hL hm fun j h1 h2 => ⟨_, Sub.refl _, ?_⟩
      have z := fin L j ⟨⟨[], (List.append_nil L).symm⟩, hL, .cure h1, Nat.le_add_right _ _, fun k a b => absurd b (by omega), fun z => by subst z; cases hm⟩
      rw [Om.set_self hq] at z
      exact z
    · refine @do_nin _ _ _ _ _ (cureD way c ∈ L) (.isFalse hm) eq' (RowF.cl (.cure (way := way) (c := c))) (cl_rows hL) (Nat.le_trans (RowF.dep (.cure (way := way) (c := c))) (by decide)) Iff.rfl ?_
      show (fun b => _) (Da.bl true)
      have hlt : L.length < 100000 := by omega
      have ne : x ≠ q := fun z => by subst z; rw [hx] at hq; cases hq
      have hx1 : ω.set q (.lst (L ++ [Da.tup [.str "cure", natsD way, natD c]])) x = some (.ins (He.ga K "Rows") dx [("rows", .ptr q)]) := by rw [Om.set_ne ne]; exact hx
      have hq1 : ω.set q (.lst (L ++ [Da.tup [.str "cure", natsD way, natD c]])) q = some (.lst (L ++ [Da.tup [.str "cure", natsD way, natD c]])) := Om.set_same
      walk_at "st"
      have hL2 : ∀ r ∈ L ++ [cureD way c], RowF r := fun r hr => by
        rcases List.mem_append.mp hr with hr | hr
        · exact hL r hr
        · rw [List.mem_singleton.mp hr]; exact .cure
      refine row_index (r := cureD way c) hL2 (List.mem_append.mpr (.inr List.mem_cons_self)) fun j h1 h2 => ⟨_, Sub.refl _, ?_⟩
      have hj : j = L.length := new_ix hm h1
      subst hj
      have hn1 : nodes (d + 1) = 1 + 10 * nodes d := rfl
      exact fin _ _ ⟨⟨_, rfl⟩, hL2, .cure h1, by rw [List.length_append, hn1]; show _ + 1 ≤ _; omega, fun k a b => by
        rw [List.length_append] at b
        have e : k = L.length := by have b : k < L.length + 1 := b; omega
        subst e
        exact ⟨_, .cure h1, Nat.le_refl _⟩, fun z => by subst z; rfl⟩
  | @look _ way bs hw hne hbl hch =>
    walk_at "st"
    refine do_eq (P := True) rfl rfl (Nat.zero_le _) ⟨fun _ => trivial, fun _ => rfl⟩ ?_
    rw [decide_eq_true trivial]
    walk_at "st"
    have ne : x ≠ q := fun z => by subst z; rw [hx] at hq; cases hq
    have hn1 : nodes (d + 1) = 1 + 10 * nodes d := rfl
    refine ⟨by rw [List.length_map]; omega, fun D hD => ?_⟩
    have nDq : q ≠ D := fun z => by subst z; rw [hq] at hD; cases hD
    have nDx : x ≠ D := fun z => by subst z; rw [hx] at hD; cases hD
    refine ⟨fun i acc ω2 => ∃ (rs : List (Nat × Nat × Da)) (L1 : List Da), rs.map (fun r => (r.1, r.2.2)) = bs.take i ∧ acc = rs.map (fun r => Da.tup [natD r.1, natD r.2.1]) ∧ ω2 = (ω.set q (.lst L1)).set D (.lst acc) ∧ (∃ M, L1 = L ++ M) ∧
      (∀ r ∈ L1, RowF r) ∧ (∀ r ∈ rs, Unf L1 r.2.1 r.2.2) ∧ L1.length ≤ L.length + i * nodes d ∧ ∀ k, L.length ≤ k → k < L1.length → ∃ u, Unf L1 k u ∧ sizeOf u < sizeOf (lookD way bs),
      ⟨[], L, rfl, rfl, by rw [Om.set_self hq], ⟨[], (List.append_nil L).symm⟩, hL, fun r hr => (by cases hr), by omega, fun k a b => absurd b (by omega)⟩, ?_, ?_, ?_⟩
    · rintro i acc ω2 ⟨rs, L1, e1, rfl, rfl, _⟩
      refine ⟨Om.set_same, ?_⟩
      have z := congrArg List.length e1
      rw [List.length_map, List.length_take] at z
      rw [List.length_map]; omega
    · rintro i d0 acc ω2 hd0 ⟨rs, L1, e1, rfl, rfl, ⟨M, rfl⟩, hL1, hU, hlen, hnew⟩
      rw [List.getElem?_map] at hd0
      obtain ⟨p, hp, rfl⟩ := Option.map_eq_some_iff.mp hd0
      have hpm := List.mem_of_getElem? hp
      have hx2 : (((ω.set q (.lst (L ++ M))).set D (.lst (rs.map (fun r => Da.tup [natD r.1, natD r.2.1])))) x) = some (.ins (He.ga K "Rows") dx [("rows", .ptr q)]) := by rw [Om.set_ne nDx, Om.set_ne ne]; exact hx
      have hq2 : (((ω.set q (.lst (L ++ M))).set D (.lst (rs.map (fun r => Da.tup [natD r.1, natD r.2.1])))) q) = some (.lst (L ++ M)) := by rw [Om.set_ne nDq, Om.set_same]
      walk_at "st"
      have hi : i < bs.length := (List.getElem?_eq_some_iff.mp hp).1
      have hm1 : i * nodes d ≤ 9 * nodes d := Nat.mul_le_mul_right _ (by omega)
      refine ⟨hch p hpm, by omega, hL1, by omega, fun L' i' ok => ?_⟩
      obtain ⟨⟨M2, rfl⟩, r2, u2, l2, n2, _⟩ := ok
      walk_at "st"
      refine ⟨by rw [Om.set_ne (Ne.symm nDq), Om.set_same], rs ++ [(p.1, i', p.2)], (L ++ M) ++ M2, ?_, by rw [List.map_append]; rfl, ?_, ⟨M ++ M2, List.append_assoc _ _ _⟩, r2, ?_, ?_, ?_⟩
      · rw [List.map_append, e1, take_next' hp]; rfl
      · rw [Om.swap (p := D) (q := q) (Ne.symm nDq), Om.set_set, Om.set_set]
      · intro r hr
        rcases List.mem_append.mp hr with hr | hr
        · exact (hU r hr).mono
        · rw [List.mem_singleton.mp hr]; exact u2
      · have e : (i + 1) * nodes d = i * nodes d + nodes d := Nat.succ_mul _ _
        omega
      · intro k a b
        by_cases hk : k < (L ++ M).length
        · obtain ⟨u, h1, h2⟩ := hnew k a hk
          exact ⟨u, h1.mono, h2⟩
        · obtain ⟨u, h1, h2⟩ := n2 k (by omega) b
          exact ⟨u, h1, Nat.lt_of_le_of_lt h2 (size_br hpm)⟩
    · rintro acc ω2 ⟨rs, L1, e1, rfl, rfl, ⟨M, rfl⟩, hL1, hU, hlen, hnew⟩
      have hlb : (bs.map brD).length = bs.length := List.length_map _
      rw [hlb] at e1 hlen
      rw [List.take_length] at e1
      subst e1
      have hm1 : (rs.map (fun r => (r.1, r.2.2))).length * nodes d ≤ 10 * nodes d := Nat.mul_le_mul_right _ (by omega)
      refine ⟨D, _, rfl, Om.set_same, ?_⟩
      rw [Om.set_del (by rw [Om.set_ne (Ne.symm nDq)]; exact hD)]
      have hx3 : (ω.set q (.lst (L ++ M))) x = some (.ins (He.ga K "Rows") dx [("rows", .ptr q)]) := by rw [Om.set_ne ne]; exact hx
      have hq3 : (ω.set q (.lst (L ++ M))) q = some (.lst (L ++ M)) := Om.set_same
      walk_at "st"
      have erow : Da.tup [.str "look", natsD way, .tup (rs.map fun r => Da.tup [natD r.1, natD r.2.1])] = lookD way (rs.map fun r => (r.1, natD r.2.1)) := by unfold lookD; rw [List.map_map]; rfl
      rw [erow]
      have hrow : RowF (lookD way (rs.map fun r => (r.1, natD r.2.1))) := by
        have z := RowF.look (way := way) (bs := rs.map fun r => (r.1, r.2.1))
        rwa [List.map_map] at z
      have hR : ∀ {L2 : List Da} {j : Nat}, (∃ M2, L2 = (L ++ M) ++ M2) → L2[j]? = some (lookD way (rs.map fun r => (r.1, natD r.2.1))) → Unf L2 j (lookD way (rs.map fun r => (r.1, r.2.2))) := by
        rintro L2 j ⟨M2, rfl⟩ h
        exact .look h fun r hr => (hU r hr).mono
      generalize hre : lookD way (rs.map fun r => (r.1, natD r.2.1)) = row at hrow hR ⊢
      have hlen2 : (L ++ M).length ≤ L.length + 10 * nodes d := by omega
      by_cases hm : row ∈ L ++ M
      · refine @do_nin _ _ _ _ _ (row ∈ L ++ M) (.isTrue hm) (seq_ptr hq3) (by rw [hrow.res]; exact hrow.cl) (cl_rows hL1) (by rw [hrow.res]; exact Nat.le_trans hrow.dep (by decide)) (by rw [hrow.res]) ?_
        show (fun b => _) (Da.bl false)
        walk_at "st"
        refine row_index hL1 hm fun j h1 h2 => ⟨_, Sub.refl _, ?_⟩
        have hj : j < (L ++ M).length := (List.getElem?_eq_some_iff.mp h1).1
        have un := hR ⟨[], (List.append_nil _).symm⟩ h1
        exact fin (L ++ M) j ⟨⟨M, rfl⟩, hL1, un, by omega, fun k a b => let ⟨u, h1, h2⟩ := hnew k a b; ⟨u, h1, Nat.le_of_lt h2⟩, fun z => by
          obtain ⟨u, h3, h4⟩ := hnew j (by rw [z]; exact Nat.zero_le _) hj
          rw [h3.det un] at h4
          exact absurd h4 (Nat.lt_irrefl _)⟩
      · refine @do_nin _ _ _ _ _ (row ∈ L ++ M) (.isFalse hm) (seq_ptr hq3) (by rw [hrow.res]; exact hrow.cl) (cl_rows hL1) (by rw [hrow.res]; exact Nat.le_trans hrow.dep (by decide)) (by rw [hrow.res]) ?_
        show (fun b => _) (Da.bl true)
        have hlt : (L ++ M).length < 100000 := by omega
        have hx4 : (ω.set q (.lst (L ++ M))).set q (.lst (L ++ M ++ [row])) x = some (.ins (He.ga K "Rows") dx [("rows", .ptr q)]) := by rw [Om.set_ne ne]; exact hx3
        have hq4 : (ω.set q (.lst (L ++ M))).set q (.lst (L ++ M ++ [row])) q = some (.lst (L ++ M ++ [row])) := Om.set_same
        walk_at "st"
        have hL2 : ∀ r ∈ L ++ M ++ [row], RowF r := fun r hr => by
          rcases List.mem_append.mp hr with hr | hr
          · exact hL1 r hr
          · rw [List.mem_singleton.mp hr]; exact hrow
        refine row_index hL2 (List.mem_append.mpr (.inr List.mem_cons_self)) fun j h1 h2 => ⟨_, Sub.refl _, ?_⟩
        rw [Om.set_set]
        have hj : j = (L ++ M).length := new_ix hm h1
        subst hj
        have un := hR ⟨[row], rfl⟩ h1
        have e3 : (L ++ M ++ [row]).length = (L ++ M).length + 1 := List.length_append
        refine fin _ _ ⟨⟨M ++ [row], List.append_assoc _ _ _⟩, hL2, un, by omega, fun k a b => ?_, fun z => e3.symm⟩
        by_cases hk : k < (L ++ M).length
        · obtain ⟨u, h3, h4⟩ := hnew k a hk
          exact ⟨u, h3.mono, Nat.le_of_lt h4⟩
        · have e : k = (L ++ M).length := by omega
          subst e
          exact ⟨_, un, Nat.le_refl _⟩
end
end Wr
set_option maxHeartbeats 4000000
/-! flat. -/
namespace Wr
open PySem PySem.Spec PyProof.Rows L2 Dl
local macro_rules
  | `(tactic| walk_at "len") => `(tactic| (intro ds ω R h; repeat (first | (obtain ⟨e, _⟩ := h; subst e; rfl) | (obtain ⟨_, h⟩ := h))))
  | `(tactic| walk_at "st1") => `(tactic| first
    | apply Exists.intro
    | refine And.intro rfl ?_ | refine iteT ?_ | refine iteF ?_
    | refine And.intro (lst_ptr (by assumption)) ?_ | refine And.intro (seq_ptr (by assumption)) ?_ | refine And.intro (dct_ptr (by assumption)) ?_
    | refine And.intro (lst_ptr Om.set_same) ?_ | refine And.intro (seq_ptr Om.set_same) ?_ | refine And.intro Om.set_same ?_
    | refine And.intro ⟨_, lst_ptr (by assumption)⟩ ?_ | refine And.intro ⟨_, lst_ptr Om.set_same⟩ ?_ | refine And.intro ⟨_, rfl⟩ ?_ | refine And.intro ⟨_, lst_ptr ((Om.set_ne (by assumption)).trans (by assumption))⟩ ?_
    | refine And.intro ((Om.set_ne (by assumption)).trans (by assumption)) ?_ | refine And.intro (lst_ptr ((Om.set_ne (by assumption)).trans (by assumption))) ?_
    | refine And.intro (by assumption) ?_ | refine And.intro (ix_map (by assumption)) ?_
    | refine And.intro (by omega) ?_
    | refine do_all (by rfl) ?_ | refine eq_nat ?_ | refine ne_nat ?_ | refine eq_nats ?_ | refine ne_nats ?_ | refine in_nats ?_ | refine nin_nats ?_)
  | `(tactic| walk_at "st") => `(tactic| repeat walk_at "st1")
section
variable {P : Program} {wo : World} {K : PySem.W.Frag} {mg : Str → Option Value} {base : Heap} {T : Tb}
theorem D_number_n (Z : Zp K mg base T) : ∀ d : Nat, Dm P wo K mg base T (He.ma K (CR K) "number") d (sp_Rows_number K d) := by
  intro d
  induction d with
  | zero =>
    obtain ⟨fd, F⟩ := Z.dm 92 d_Rows_number rfl
    exact ⟨fd, ["self", "tree"], ⟨fun vs H Q E ⟨ds, ω, R, h1, h2, h3, ⟨x, dx, q, t, L, _, _, _, ht, _⟩, h5⟩ => ht.not_zero.elim, fun A outer s H args us vs Q E hr he hb hv ⟨ds, ω, R, h1, h2, h3, ⟨x, dx, q, t, L, _, _, _, ht, _⟩, h5⟩ => ht.not_zero.elim⟩,
      F.bindsN fun _ _ _ _ _ _ us hl => match us, hl with | [_, _], _ => rfl⟩
  | succ d ih => exact D_number_step Z ih
def sp_flat : Dsp := fun ds ω R => ∃ t, ds = [t] ∧ TOk BJ 5 t ∧ ∀ L' i, NumOk [] t 5 L' i → R (.tup L') ω
theorem D_flat (Z : Zp K mg base T) : Df P wo K mg base T "flat" 7 sp_flat := by
  have sc : FnScope ["tree", "rows"] ["tree"] (defScope s_flat) := ⟨rfl, rfl, rfl, by decide +kernel, rfl, by decide +kernel, by decide +kernel⟩
  obtain ⟨⟨fd, F⟩, hm⟩ := Z.df 41 d_flat rfl rfl
  have D_Rows_init := D_Rows_init (P := P) (wo := wo) Z
  have D_Rows_number := D_number_n (P := P) (wo := wo) Z 5
  refine def_okS F sc hm (fun _ _ _ _ _ _ us hl => match us, hl with | [_], _ => rfl) (by walk_at "len") fun cdv A outer st H E hr => ?_
  have nd := sc.nd
  refine ⟨_, (ssc (sset 1 nd (xmake0 Z.rmk Z.rows D_Rows_init (hr.mono (by first | decide | omega))))
    (ssc (sexpr (xmethI Z.rcls Z.rmeth D_Rows_number (hr.mono (by first | decide | omega)) (xv 1) (xac (xv 0) xan)))
    (ss1 (sret (xbi (bi_tuple Z.tuple) (xac (xfld Z.rcls Z.rnoat (xv 1)) xan)))))), fun ds ω R h => ?_⟩
  obtain ⟨t, rfl, ht, fin⟩ := h
  refine fun x dx hx => ?_
  refine ⟨x, dx, rfl, Om.set_same, fun q hq => ⟨rfl, ?_⟩⟩
  have nqx : q ≠ x := fun z => by subst z; rw [Om.set_same] at hq; cases hq
  have hq0 : ω q = none := by rw [Om.set_ne nqx] at hq; exact hq
  generalize hw : ((ω.set x (.ins (CR K) dx [])).set q (.lst [])).set x (.ins (CR K) dx [("rows", .ptr q)]) = ω1
  have hx1 : ω1 x = some (.ins (He.ga K "Rows") dx [("rows", .ptr q)]) := by rw [← hw]; exact Om.set_same
  have hq1 : ω1 q = some (.lst []) := by rw [← hw, Om.set_ne nqx]; exact Om.set_same
  have hs : Sub ω ω1 := by rw [← hw]; exact (((Sub.refl ω).put hx).put hq0).put hx
  walk_at "st"
  refine ⟨fun r hr => (by cases hr), by decide, fun L' i ok => ?_⟩
  have hx2 : (ω1.set q (.lst L')) x = some (.ins (He.ga K "Rows") dx [("rows", .ptr q)]) := by rw [Om.set_ne (Ne.symm nqx)]; exact hx1
  have hq2 : (ω1.set q (.lst L')) q = some (.lst L') := Om.set_same
  have hl2 : seqOf (ω1.set q (.lst L')) (.ptr q) = some L' := seq_ptr hq2
  walk_at "st"
  exact ⟨_, hs.put hq0, fin L' i ok⟩
end
end Wr
set_option maxHeartbeats 4000000
/-! coded. -/
namespace Wr
open PySem PySem.Spec PyProof.Rows L2 Dl
local macro_rules
  | `(tactic| walk_at "len") => `(tactic| (intro ds ω R h; repeat (first | (obtain ⟨e, _⟩ := h; subst e; rfl) | (obtain ⟨_, h⟩ := h))))
  | `(tactic| walk_at "st1") => `(tactic| first
    | apply Exists.intro
    | refine And.intro rfl ?_ | refine iteT ?_ | refine iteF ?_
    | refine And.intro (lst_ptr (by assumption)) ?_ | refine And.intro (seq_ptr (by assumption)) ?_ | refine And.intro (dct_ptr (by assumption)) ?_
    | refine And.intro (lst_ptr Om.set_same) ?_ | refine And.intro (seq_ptr Om.set_same) ?_ | refine And.intro Om.set_same ?_
    | refine And.intro ⟨_, lst_ptr (by assumption)⟩ ?_ | refine And.intro ⟨_, lst_ptr Om.set_same⟩ ?_ | refine And.intro ⟨_, rfl⟩ ?_ | refine And.intro ⟨_, lst_ptr ((Om.set_ne (by assumption)).trans (by assumption))⟩ ?_
    | refine And.intro ((Om.set_ne (by assumption)).trans (by assumption)) ?_ | refine And.intro (lst_ptr ((Om.set_ne (by assumption)).trans (by assumption))) ?_
    | refine And.intro (by assumption) ?_ | refine And.intro (ix_map (by assumption)) ?_
    | refine And.intro (by omega) ?_
    | refine do_all (by rfl) ?_ | refine eq_nat ?_ | refine ne_nat ?_ | refine eq_nats ?_ | refine ne_nats ?_ | refine in_nats ?_ | refine nin_nats ?_)
  | `(tactic| walk_at "st") => `(tactic| repeat walk_at "st1")
section
variable {P : Program} {wo : World} {K : PySem.W.Frag} {mg : Str → Option Value} {base : Heap} {T : Tb}
def sp_coded : Dsp := fun ds ω R => ∃ t, ds = [t] ∧ TOk B10 5 t ∧ ∀ t' L' i, TOk BJ 5 t' → Keeps t t' → NumOk [] t' 5 L' i → R (.tup L') ω
theorem sc_coded : FnScope ["tree"] ["tree"] (defScope s_coded) := ⟨rfl, rfl, rfl, by decide +kernel, rfl, by decide +kernel, by decide +kernel⟩
theorem D_coded (Z : Zp K mg base T) : Df P wo K mg base T "coded" 8 sp_coded := by
  obtain ⟨⟨fd, F⟩, hm⟩ := Z.df 42 d_coded rfl rfl
  have D_flat := D_flat (P := P) (wo := wo) Z
  have D_joined := D_joined (P := P) (wo := wo) Z
  refine def_ok F sc_coded hm (fun _ _ _ _ _ _ us hl => match us, hl with | [_], _ => rfl) (by walk_at "len") fun cdv A outer st H E hr => ?_
  have nd := sc_coded.nd
  refine ⟨_, (ss1 (sret (xcall D_flat (hr.mono (by first | decide | omega)) (xac (xcall D_joined (hr.mono (by first | decide | omega)) (xac (xv 0) xan)) xan)))), fun ds ω R h => ?_⟩
  obtain ⟨t, rfl, ht, fin⟩ := h
  walk_at "st"
  refine fun t' h1 h2 => ?_
  walk_at "st"
  exact fun L' i ok => fin t' L' i h1 h2 ok
end
end Wr
set_option maxHeartbeats 4000000
/-! code_from. -/
namespace Wr
open PySem PySem.Spec PyProof.Rows L2 Dl
local macro_rules
  | `(tactic| walk_at "len") => `(tactic| (intro ds ω R h; repeat (first | (obtain ⟨e, _⟩ := h; subst e; rfl) | (obtain ⟨_, h⟩ := h))))
  | `(tactic| walk_at "st1") => `(tactic| first
    | apply Exists.intro
    | refine And.intro rfl ?_ | refine iteT ?_ | refine iteF ?_
    | refine And.intro (lst_ptr (by assumption)) ?_ | refine And.intro (seq_ptr (by assumption)) ?_ | refine And.intro (dct_ptr (by assumption)) ?_
    | refine And.intro (lst_ptr Om.set_same) ?_ | refine And.intro (seq_ptr Om.set_same) ?_ | refine And.intro Om.set_same ?_
    | refine And.intro ⟨_, lst_ptr (by assumption)⟩ ?_ | refine And.intro ⟨_, lst_ptr Om.set_same⟩ ?_ | refine And.intro ⟨_, rfl⟩ ?_ | refine And.intro ⟨_, lst_ptr ((Om.set_ne (by assumption)).trans (by assumption))⟩ ?_
    | refine And.intro ((Om.set_ne (by assumption)).trans (by assumption)) ?_ | refine And.intro (lst_ptr ((Om.set_ne (by assumption)).trans (by assumption))) ?_
    | refine And.intro (by assumption) ?_ | refine And.intro (ix_map (by assumption)) ?_
    | refine And.intro (by omega) ?_
    | refine do_all (by rfl) ?_ | refine eq_nat ?_ | refine ne_nat ?_ | refine eq_nats ?_ | refine ne_nats ?_ | refine in_nats ?_ | refine nin_nats ?_)
  | `(tactic| walk_at "st") => `(tactic| repeat walk_at "st1")
section
variable {P : Program} {wo : World} {K : PySem.W.Frag} {mg : Str → Option Value} {base : Heap} {T : Tb}
/-- a code's rows: those of a tree that leads to cures -/
def CodeOk (b : Book) (lot : List Nat) (g : Nat) (L : List Da) : Prop := ∃ t i, TOk BJ 5 t ∧ TGood b lot g t ∧ NumOk [] t 5 L i
theorem Keeps.good {b : Book} {lot : List Nat} {g : Nat} {t t' : Da} (k : Keeps t t') (h : TGood b lot g t) : TGood b lot g t' := fun lot0 x walk h1 h2 h3 => k b lot0 x walk (h lot0 x walk h1 h2 h3)
def sp_code_from : Dsp := fun ds ω R => ∃ (b : Book) (lot : List Nat) (g : Nat), ds = [bookD b, natsD lot, natD g] ∧ b.Ok ∧ LotOk b.rig lot ∧ g < b.rig.m ∧ lot.length ≤ 4 ∧ (Stuck b lot g → R .non ω) ∧ (∀ L, ¬ Stuck b lot g → CodeOk b lot g L → R (.tup L) ω)
theorem sc_code_from : FnScope ["book", "lot", "g", "tree"] ["book", "lot", "g"] (defScope s_code_from) := ⟨rfl, rfl, rfl, by decide +kernel, rfl, by decide +kernel, by decide +kernel⟩
theorem D_code_from (Z : Zp K mg base T) : Df P wo K mg base T "code_from" 30 sp_code_from := by
  obtain ⟨⟨fd, F⟩, hm⟩ := Z.df 46 d_code_from rfl rfl
  have D_tree_from := D_tree_from (P := P) (wo := wo) Z
  have D_coded := D_coded (P := P) (wo := wo) Z
  refine def_ok F sc_code_from hm (fun _ _ _ _ _ _ us hl => match us, hl with | [_, _, _], _ => rfl) (by walk_at "len") fun cdv A outer st H E hr => ?_
  have nd := sc_code_from.nd
  refine ⟨_, (ssc (sset 3 nd (xcall D_tree_from (hr.mono (by first | decide | omega)) (xac (xv 0) (xac (xv 1) (xac (xv 2) xan)))))
    (ss1 (sret (xif (tisN (xv 3) xnon) xnon (xcall D_coded (hr.mono (by first | decide | omega)) (xac (xv 3) xan)))))), fun ds ω R h => ?_⟩
  obtain ⟨b, lot, g, rfl, o, hl, hg, hn, q1, q2⟩ := h
  walk_at "st"
  refine ⟨fun hs => ?_, fun t hs h1 h2 => ?_⟩
  · walk_at "st"
    exact q1 hs
  · have hi : t.isN = false := by cases h1 <;> rfl
    walk_at "st"
    rw [hi]
    walk_at "st"
    exact fun t2 L2 i k1 k2 k3 => q2 L2 hs ⟨t2, i, k1, k2.good h2, k3⟩
end
end Wr
set_option maxHeartbeats 4000000
/-! code_for. -/
namespace Wr
open PySem PySem.Spec PyProof.Rows L2 Dl
local macro_rules
  | `(tactic| walk_at "len") => `(tactic| (intro ds ω R h; repeat (first | (obtain ⟨e, _⟩ := h; subst e; rfl) | (obtain ⟨_, h⟩ := h))))
  | `(tactic| walk_at "st1") => `(tactic| first
    | apply Exists.intro
    | refine And.intro rfl ?_ | refine iteT ?_ | refine iteF ?_
    | refine And.intro (lst_ptr (by assumption)) ?_ | refine And.intro (seq_ptr (by assumption)) ?_ | refine And.intro (dct_ptr (by assumption)) ?_
    | refine And.intro (lst_ptr Om.set_same) ?_ | refine And.intro (seq_ptr Om.set_same) ?_ | refine And.intro Om.set_same ?_
    | refine And.intro ⟨_, lst_ptr (by assumption)⟩ ?_ | refine And.intro ⟨_, lst_ptr Om.set_same⟩ ?_ | refine And.intro ⟨_, rfl⟩ ?_ | refine And.intro ⟨_, lst_ptr ((Om.set_ne (by assumption)).trans (by assumption))⟩ ?_
    | refine And.intro ((Om.set_ne (by assumption)).trans (by assumption)) ?_ | refine And.intro (lst_ptr ((Om.set_ne (by assumption)).trans (by assumption))) ?_
    | refine And.intro (by assumption) ?_ | refine And.intro (ix_map (by assumption)) ?_
    | refine And.intro (by omega) ?_
    | refine do_all (by rfl) ?_ | refine eq_nat ?_ | refine ne_nat ?_ | refine eq_nats ?_ | refine ne_nats ?_ | refine in_nats ?_ | refine nin_nats ?_)
  | `(tactic| walk_at "st") => `(tactic| repeat walk_at "st1")
section
variable {P : Program} {wo : World} {K : PySem.W.Frag} {mg : Str → Option Value} {base : Heap} {T : Tb}
def sp_code_for : Dsp := fun ds ω R => ∃ (b : Book) (lot : List Nat) (g : Nat), ds = [bookD b, startDa lot g] ∧ b.Ok ∧ LotOk b.rig lot ∧ lot ≠ [] ∧ g < b.rig.m ∧ lot.length ≤ 4 ∧ (Stuck b lot g → R .non ω) ∧ (∀ L, ¬ Stuck b lot g → CodeOk b lot g L → R (.tup L) ω)
theorem sc_code_for : FnScope ["book", "start", "lot", "g"] ["book", "start"] (defScope s_code_for) := ⟨rfl, rfl, rfl, by decide +kernel, rfl, by decide +kernel, by decide +kernel⟩
theorem D_code_for (Z : Zp K mg base T) : Df P wo K mg base T "code_for" 32 sp_code_for := by
  obtain ⟨⟨fd, F⟩, hm⟩ := Z.df 47 d_code_for rfl rfl
  have D_made_book := D_made_book (P := P) (wo := wo) Z
  have D_made_start := D_made_start (P := P) (wo := wo) Z
  have D_code_from := D_code_from (P := P) (wo := wo) Z
  refine def_ok F sc_code_for hm (fun _ _ _ _ _ _ us hl => match us, hl with | [_, _], _ => rfl) (by walk_at "len") fun cdv A outer st H E hr => ?_
  have nd := sc_code_for.nd
  refine ⟨_, (ssc (sset 0 nd (xcall D_made_book (hr.mono (by first | decide | omega)) (xac (xv 0) xan)))
    (ssc (sasg (xcall D_made_start (hr.mono (by first | decide | omega)) (xac (xix (xv 0) xint) (xac (xv 1) xan))) (xgtp rfl (xgc (xg 2 nd) (xgc (xg 3 nd) xgn))))
    (ss1 (sret (xcall D_code_from (hr.mono (by first | decide | omega)) (xac (xv 0) (xac (xv 2) (xac (xv 3) xan)))))))), fun ds ω R h => ?_⟩
  obtain ⟨b, lot, g, rfl, o, hl, hne, hg, hn, q1, q2⟩ := h
  have o1 := o.rig
  walk_at "st"
  exact q2
def sp_can_end : Dsp := fun ds ω R => ∃ b : Book, ds = [bookD b] ∧ b.Ok ∧ LotOk b.rig (List.range b.rig.n) ∧ b.rig.n ≤ 4 ∧ 0 < b.rig.m ∧ (∀ u : Bool, (u = true ↔ ¬ Stuck b (List.range b.rig.n) 0) → R (.bl u) ω)
theorem sc_can_end : FnScope ["book", "lot", "g"] ["book"] (defScope s_can_end) := ⟨rfl, rfl, rfl, by decide +kernel, rfl, by decide +kernel, by decide +kernel⟩
theorem D_can_end (Z : Zp K mg base T) : Df P wo K mg base T "can_end" 32 sp_can_end := by
  obtain ⟨⟨fd, F⟩, hm⟩ := Z.df 48 d_can_end rfl rfl
  have D_home_of := D_home_of (P := P) (wo := wo) Z
  have D_tree_from := D_tree_from (P := P) (wo := wo) Z
  refine def_ok F sc_can_end hm (fun _ _ _ _ _ _ us hl => match us, hl with | [_], _ => rfl) (by walk_at "len") fun cdv A outer st H E hr => ?_
  have nd := sc_can_end.nd
  refine ⟨_, (ssc (sasg (xcall D_home_of (hr.mono (by first | decide | omega)) (xac (xix (xv 0) xint) xan)) (xgtp rfl (xgc (xg 1 nd) (xgc (xg 2 nd) xgn))))
    (ss1 (sret (xnotN (xcall D_tree_from (hr.mono (by first | decide | omega)) (xac (xv 0) (xac (xv 1) (xac (xv 2) xan)))) xnon)))), fun ds ω R h => ?_⟩
  obtain ⟨b, rfl, o, hl, hn, hm0, q⟩ := h
  have o1 := o.rig
  have hn1 : b.rig.n ≤ 1000 := by omega
  have hlen : (List.range b.rig.n).length ≤ 4 := by rw [List.length_range]; exact hn
  walk_at "st"
  refine ⟨fun hs => ?_, fun t hs h1 h2 => ?_⟩
  · walk_at "st"
    exact q _ ⟨fun z => (by cases z), fun z => absurd hs z⟩
  · have hi : t.isN = false := by cases h1 <;> rfl
    walk_at "st"
    rw [hi]
    exact q _ ⟨fun _ => hs, fun _ => rfl⟩
def sp_solvable : Dsp := fun ds ω R => ∃ b : Book, ds = [bookD b] ∧ b.Ok ∧ LotOk b.rig (List.range b.rig.n) ∧ b.rig.n ≤ 4 ∧ 0 < b.rig.m ∧ (∀ u : Bool, (u = true ↔ ¬ Stuck b (List.range b.rig.n) 0) → R (.bl u) ω)
theorem sc_solvable : FnScope ["book"] ["book"] (defScope s_solvable) := ⟨rfl, rfl, rfl, by decide +kernel, rfl, by decide +kernel, by decide +kernel⟩
theorem D_solvable (Z : Zp K mg base T) : Df P wo K mg base T "solvable" 34 sp_solvable := by
  obtain ⟨⟨fd, F⟩, hm⟩ := Z.df 49 d_solvable rfl rfl
  have D_made_book := D_made_book (P := P) (wo := wo) Z
  have D_can_end := D_can_end (P := P) (wo := wo) Z
  refine def_ok F sc_solvable hm (fun _ _ _ _ _ _ us hl => match us, hl with | [_], _ => rfl) (by walk_at "len") fun cdv A outer st H E hr => ?_
  have nd := sc_solvable.nd
  refine ⟨_, (ssc (sset 0 nd (xcall D_made_book (hr.mono (by first | decide | omega)) (xac (xv 0) xan)))
    (ss1 (sret (xcall D_can_end (hr.mono (by first | decide | omega)) (xac (xv 0) xan))))), fun ds ω R h => ?_⟩
  obtain ⟨b, rfl, o, hl, hn, hm0, q⟩ := h
  walk_at "st"
  exact q
end
end Wr
set_option maxHeartbeats 4000000
/-! the law's own defs: the plain ones. -/
namespace Wr
open PySem PySem.Spec PyProof.Rows L2 Dl
local macro_rules
  | `(tactic| walk_at "len") => `(tactic| (intro ds ω R h; repeat (first | (obtain ⟨e, _⟩ := h; subst e; rfl) | (obtain ⟨_, h⟩ := h))))
  | `(tactic| walk_at "st1") => `(tactic| first
    | apply Exists.intro
    | refine And.intro rfl ?_ | refine iteT ?_ | refine iteF ?_
    | refine And.intro (lst_ptr (by assumption)) ?_ | refine And.intro (seq_ptr (by assumption)) ?_ | refine And.intro (dct_ptr (by assumption)) ?_
    | refine And.intro (lst_ptr Om.set_same) ?_ | refine And.intro (seq_ptr Om.set_same) ?_ | refine And.intro Om.set_same ?_
    | refine And.intro ⟨_, lst_ptr (by assumption)⟩ ?_ | refine And.intro ⟨_, lst_ptr Om.set_same⟩ ?_ | refine And.intro ⟨_, rfl⟩ ?_ | refine And.intro ⟨_, lst_ptr ((Om.set_ne (by assumption)).trans (by assumption))⟩ ?_
    | refine And.intro ((Om.set_ne (by assumption)).trans (by assumption)) ?_ | refine And.intro (lst_ptr ((Om.set_ne (by assumption)).trans (by assumption))) ?_
    | refine And.intro (by assumption) ?_ | refine And.intro (ix_map (by assumption)) ?_
    | refine And.intro (by omega) ?_
    | refine do_all (by rfl) ?_ | refine eq_nat ?_ | refine ne_nat ?_ | refine eq_nats ?_ | refine ne_nats ?_ | refine in_nats ?_ | refine nin_nats ?_)
  | `(tactic| walk_at "st") => `(tactic| repeat walk_at "st1")
section
variable {P : Program} {wo : World} {K : PySem.W.Frag} {mg : Str → Option Value} {base : Heap} {T : Tb}
def sp_law_all : Dsp := fun ds ω R => ∃ r : Rig, ds = [rigD r] ∧ r.n ≤ 1000 ∧ R (natsD (List.range r.n)) ω
theorem sc_law_all : FnScope ["_law_rig_here", "_law_x"] ["_law_rig_here"] (defScope s_law_all) := ⟨rfl, rfl, rfl, by decide +kernel, rfl, by decide +kernel, by decide +kernel⟩
theorem D_law_all (Z : Zp K mg base T) : Df P wo K mg base T "_law_all" 1 sp_law_all := by
  obtain ⟨⟨fd, F⟩, hm⟩ := Z.df 61 d_law_all rfl rfl
  refine def_ok F sc_law_all hm (fun _ _ _ _ _ _ us hl => match us, hl with | [_], _ => rfl) (by walk_at "len") fun cdv A outer st H E hr => ?_
  have nd := sc_law_all.nd
  refine ⟨_, (ss1 (sret (xbi (bi_tuple Z.tuple) (xac (xlc (own := [("_law_x", 1)]) rfl nd (by rfl) (xir Z.range (xix (xv 0) xint)) (fun _ _ _ _ _ => (xg 1 nd)) (fun _ _ _ _ _ => xtn) (fun _ _ _ _ _ => (xv 1))) xan)))), fun ds ω R h => ?_⟩
  obtain ⟨r, rfl, hn, q⟩ := h
  walk_at "st"
  rw [rgD_nat]
  refine lc_map (List.range r.n) natD natD (by rw [List.length_range]; omega) (fun x ω' Q1 Q2 hx hs hq => by
    walk_at "st"
    exact hq) ?_
  walk_at "st"
  exact q
theorem within_nil {l m : List Nat} : decide ((l.filter fun x => !decide (x ∈ m)) = []) = within l m := by
  rw [Bool.eq_iff_iff, decide_eq_true_iff, within_iff, List.filter_eq_nil_iff]
  exact ⟨fun h x hx => by have := h x hx; simpa using this, fun h x hx => by simpa using h x hx⟩
def sp_law_is_within : Dsp := fun ds ω R => ∃ l m : List Nat, ds = [natsD l, natsD m] ∧ l.length ≤ 1000 ∧ R (.bl (within l m)) ω
theorem sc_law_is_within : FnScope ["_law_one_here", "_law_two", "_law_x"] ["_law_one_here", "_law_two"] (defScope s_law_is_within) := ⟨rfl, rfl, rfl, by decide +kernel, rfl, by decide +kernel, by decide +kernel⟩
theorem D_law_is_within (Z : Zp K mg base T) : Df P wo K mg base T "_law_is_within" 1 sp_law_is_within := by
  obtain ⟨⟨fd, F⟩, hm⟩ := Z.df 62 d_law_is_within rfl rfl
  refine def_ok F sc_law_is_within hm (fun _ _ _ _ _ _ us hl => match us, hl with | [_, _], _ => rfl) (by walk_at "len") fun cdv A outer st H E hr => ?_
  have nd := sc_law_is_within.nd
  refine ⟨_, (ss1 (sret (xeq hr (xlc (own := [("_law_x", 2)]) rfl nd (by rfl) (xit (xv 0)) (fun _ _ _ _ _ => (xg 2 nd)) (fun _ _ _ _ _ => (xt1 (tnin hr (xv 2) (xv 1)))) (fun _ _ _ _ _ => (xv 2))) (xlst xan)))), fun ds ω R h => ?_⟩
  obtain ⟨l, m, rfl, hl, q⟩ := h
  walk_at "st"
  refine lc_filter l natD (fun x => !decide (x ∈ m)) (by omega) (fun x ω' Q1 Q2 hx hs h1 h2 => by
    walk_at "st"
    cases e : decide (x ∈ m) with
    | true => exact iteF (h2 (by rw [e]; rfl))
    | false => exact iteT (by walk_at "st"; exact h1 (by rw [e]; rfl))) ?_
  walk_at "st"
  refine eq_nil (cl_natm _) (dep_natm _) ?_
  rw [within_nil]
  exact q
end
end Wr
set_option maxHeartbeats 2000000
/-! The source is made; cells that stand still from a statement on. -/
namespace Dl
open PySem PySem.Spec PyProof.Rows L2
section
variable {T : Tb} {X : Cx} {a b c e o : Expr} {es rest : List Expr} {st : Stmt} {pos p pos' : Pos} {K : PySem.W.Frag}
/-- [i, j], a new source -/
def wSrcNew (w : WA) : WE := fun ρ ω R => w ρ ω fun ds ω1 => ∃ i j : Int, ds = [.int i, .int j] ∧ 0 ≤ i ∧ 0 ≤ j ∧ j < 2147483647 ∧ ∀ p, ω1 p = none → R (.ptr p) (ω1.set p .src)
theorem xsrcNew {w : WA} (h : XA T X es w) (hl : es.length ≤ 100000 := by decide) : XE T X (.List es pos) (wSrcNew w) := by
  obtain ⟨t, h1, h2⟩ := h.ex
  refine ⟨_, pe_lst h1, fun σ H ρ ω R Q W q k => h2 σ H ρ ω _ _ W q fun vs H1 ds ω1 g1 dvs hn q1 => ⟨big_line (by rw [dvs.length, hn]; exact hl), fun p hp => ?_⟩⟩
  obtain ⟨i, j, e1, h0, h3, h4, q1⟩ := q1
  subst e1
  have dvs' : DvAll X.K (hid ω1 H1) vs ([i, j].map Da.int) := dvs
  have ev : vs = [i, j].map V.int := dvs'.ints
  subst ev
  have g := Go.newCell (o := .lst ([i, j].map V.int)) (x := .src) g1.cells g1.tabs hp fun kp => ⟨i, j, upd_same, h0, h3, h4⟩
  exact k _ _ _ _ (g1.trans g) (.ptr p) (q1 p (g1.cells.free hp))

/-! ### cells that stand still -/
/-- what d stands for at ω, d' stands for at ω' -/
def Thaw (ω ω' : Om) (d d' : Da) : Prop := ∀ (K : PySem.W.Frag) (H : Hp) (v : V), Cells K ω H → Kp (hid ω H) (hid ω' H) → Dv K (hid ω H) v d → Dv K (hid ω' H) v d'
def ThawO (ω ω' : Om) (o o' : Option Da) : Prop := ∀ x', o' = some x' → ∃ x, o = some x ∧ Thaw ω ω' x x'
theorem Thaw.rfl' {ω ω' : Om} {d : Da} : Thaw ω ω' d d := fun K H v c kp h => Dv.mono kp _ _ h
theorem ThawO.rfl' {ω ω' : Om} {d : Option Da} : ThawO ω ω' d d := fun x' e => ⟨x', e, Thaw.rfl'⟩
theorem ThawO.mk {ω ω' : Om} {d d' : Da} (h : Thaw ω ω' d d') : ThawO ω ω' (some d) (some d') := fun x' e => ⟨d, rfl, by cases e; exact h⟩
theorem ThawO.no {ω ω' : Om} {d : Option Da} : ThawO ω ω' d none := fun x' e => by cases e
theorem Thaw.ptr {ω ω' : Om} {p : Addr} {l : List Da} (h : ω p = some (.lst l)) (h' : ω' p = none) : Thaw ω ω' (.ptr p) (.lst l) := fun K H v c kp r => by
  cases r
  obtain ⟨xs, h3, h4⟩ := c p _ h
  exact .lst (SqL.of (hid_of h' h3)) (DvAll.mono kp _ _ h4)
theorem thaw_all {ω ω' : Om} {ds ds' : List Da} (h : Paired (Thaw ω ω') ds ds') (K : PySem.W.Frag) (H : Hp) (c : Cells K ω H) (kp : Kp (hid ω H) (hid ω' H)) : ∀ {vs : List V}, DvAll K (hid ω H) vs ds → DvAll K (hid ω' H) vs ds' := by
  induction h with
  | nil => intro vs d; cases d; exact .nil
  | cons r _ ih =>
    intro vs d
    cases d with
    | cons d1 d2 => exact .cons (r K H _ c kp d1) (ih d2)
theorem Thaw.lst {ω ω' : Om} {ds ds' : List Da} (h : Paired (Thaw ω ω') ds ds') : Thaw ω ω' (.lst ds) (.lst ds') := fun K H v c kp r => by
  cases r with
  | lst hs ha => exact .lst (sqL_mono kp hs) (thaw_all h K H c kp ha)
theorem Thaw.cell {ω ω' : Om} {p : Addr} {l l' : List Da} (h : ω p = some (.lst l)) (h' : ω' p = none) (hl : Paired (Thaw ω ω') l l') : Thaw ω ω' (.ptr p) (.lst l') := fun K H v c kp r => by
  cases r
  obtain ⟨xs, h3, h4⟩ := c p _ h
  exact .lst (SqL.of (hid_of h' h3)) (thaw_all hl K H c kp h4)
theorem thaw_same {ω ω' : Om} : ∀ ρ : Rho, Paired (ThawO ω ω') ρ ρ
  | [] => .nil
  | d :: ρ => .cons ThawO.rfl' (thaw_same ρ)
/-- the statement is read at what has been thought anew: cells that stand still -/
structure wStill (w : WS) (E : En) (ρ : Rho) (ω : Om) : Prop where
  ex : ∃ ρ' ω', Sub ω' ω ∧ Paired (ThawO ω ω') ρ ρ' ∧ w E ρ' ω'
theorem Wd.still {σ : L2.St} {ρ ρ' : Rho} {ω ω' : Om} {H : Hp} (W : Wd K T σ ρ ω H) (hs : Sub ω' ω) (h : Paired (ThawO ω ω') ρ ρ') : Wd K T σ ρ' ω' H := by
  have g := Go.shr hs W.cells W.tabs
  refine ⟨?_, g.cells, g.tabs⟩
  have key : ∀ {l m : Rho} {s : L2.St}, Paired (ThawO ω ω') l m → Paired (SlotR K (hid ω H)) l s → Paired (SlotR K (hid ω' H)) m s := by
    intro l m s h
    induction h generalizing s with
    | nil => intro q; cases q; exact .nil
    | cons r _ ih =>
      intro q
      cases q with
      | cons q1 q2 =>
        refine .cons (fun x e => ?_) (ih q2)
        obtain ⟨x0, e0, th⟩ := r x e
        obtain ⟨u, e1, d⟩ := q1 x0 e0
        exact ⟨u, e1, th K H u W.cells g.keep d⟩
  exact key h W.slots
theorem sstill {w : WS} (h : XS T X st w) : XS T X st (wStill w) := by
  obtain ⟨t, h1, h2⟩ := h.ex
  refine ⟨t, h1, fun σ H ρ ω E D W q c => ?_⟩
  obtain ⟨ρ', ω', hs, hp, q⟩ := q
  exact h2 σ H ρ' ω' E D (W.still hs hp) q (c.go (Go.shr hs W.cells W.tabs))
/-! ### a comprehension over a cell that its parts leave as it is -/
structure LcC (p : Addr) (g : WG) (u : WT) (w : WE) (vs : List Nat) (ρ : Rho) (ds : List Da) (ω1 : Om) (R : Da → Om → Prop) : Prop where
  ex : ds.length ≤ 90000 ∧ ∀ D, ω1 D = none → ∃ I : Nat → List Da → Om → Prop, I 0 [] (ω1.set D (.lst [])) ∧ (∀ i acc ω2, I i acc ω2 → ω2 D = some (.lst acc) ∧ acc.length ≤ i ∧ ω2 p = some (.lst ds)) ∧
    (∀ i d acc ω2, ds[i]? = some d → I i acc ω2 → g d (wipeR ρ vs) fun ρ2 => u ρ2 ω2 fun b ω3 => if b = true then w ρ2 ω3 fun e ω4 => ω4 D = some (.lst acc) ∧ I (i + 1) (acc ++ [e]) (ω4.set D (.lst (acc ++ [e]))) else I (i + 1) acc ω3) ∧
    ∀ acc ω2, I ds.length acc ω2 → R (.ptr D) ω2
def wLcC (wa : WE) (g : WG) (u : WT) (w : WE) (vs : List Nat) : WE := fun ρ ω R => wa ρ ω fun d ω1 => ∃ p l, d = .ptr p ∧ ω1 p = some (.lst l) ∧ LcC p g u w vs ρ l ω1 R
theorem evD_lcC {ta : TE} {tgg : TG} {tt : TT} {te : TE} {wa : WE} {g : WG} {u : WT} {w : WE} {is vs : List Nat} (his : ∀ i ∈ is, i ∈ vs) (a2 : EvD K T ta wa)
    (g2 : ∀ (v : V) (d : Da) (σ : L2.St) (H : Hp) (ρ : Rho) (ω : Om) (R : Rho → Prop) (Q : L2.St → Hp → Prop), Wd K T σ ρ ω H → Dv K (hid ω H) v d → g d ρ R → (∀ σ' ρ', Wd K T σ' ρ' ω H → (∀ vs, (∀ i ∈ is, i ∈ vs) → wipe σ' vs = wipe σ vs) → R ρ' → Q σ' H) → tgg v σ H Q)
    (u2 : EvT K T tt u) (w2' : EvD K T te w) : EvD K T (tLc (iList K ta) tgg tt te vs) (wLcC wa g u w vs) := fun σ H ρ ω R Q W q k => by
  refine a2 σ H ρ ω _ _ W q fun v H1 d ω1 go1 dv1 q1 => ?_
  obtain ⟨p, ds, rfl, hp, ⟨⟨hlen, q1⟩⟩⟩ := q1
  cases dv1
  obtain ⟨xs0, hx0, ha0⟩ := cell_lst go1.cells hp
  refine ⟨p, rfl, ⟨xs0, SqL.of hx0⟩, fun D hD => ?_⟩
  obtain ⟨I, h0, hcell, turn, fin⟩ := q1 D (go1.cells.free hD)
  have goN : Go K T ω1 (ω1.set D (.lst [])) H1 (upd H1 D (.lst [])) := Go.newCell go1.cells go1.tabs hD fun kp => ⟨[], upd_same, .nil⟩
  refine ⟨fun i m H' => m = ds.length - i ∧ i ≤ ds.length ∧ ∃ acc ω', Go K T ω1 ω' H1 H' ∧ I i acc ω', ⟨_, rfl, Nat.zero_le _, [], _, goN, h0⟩, ?_⟩
  rintro i m H' ⟨rfl, hle, acc, ω', go2, hI⟩
  obtain ⟨_, _, hpc⟩ := hcell i acc ω' hI
  obtain ⟨ys, hy0, hya⟩ := cell_lst go2.cells hpc
  by_cases hlt : i < ds.length
  · obtain ⟨v, ev, dv⟩ := hya.get' (List.getElem?_eq_getElem hlt)
    refine .inr ⟨⟨ys, v, SqL.of hy0, ev⟩, fun H2 => ∃ acc ω2, Go K T ω1 ω2 H1 H2 ∧ I (i + 1) acc ω2, fun H2 ⟨acc, ω2, a1, a3⟩ => ⟨ds.length - (i + 1), by omega, rfl, hlt, acc, ω2, a1, a3⟩, fun x H3 y => ?_⟩
    obtain ⟨rfl, y⟩ := y
    have e2 := y ys (SqL.of hy0)
    rw [ev] at e2
    cases e2
    have hd : ds[i]? = some ds[i] := List.getElem?_eq_getElem hlt
    have W3 : Wd K T (wipe σ vs) (wipeR ρ vs) ω' H3 := (W.go (go1.trans go2)).wipe vs
    refine g2 v _ _ H3 _ ω' _ _ W3 dv (turn i _ acc ω' hd hI) fun σ4 ρ4 W4 hw q4 => ?_
    refine ⟨by rw [hw vs his, wipe_wipe fun i hi => hi], u2 σ4 H3 ρ4 ω' _ _ W4 q4 fun b H5 ω5 go5 q5 => ?_⟩
    cases b with
    | true =>
      refine w2' σ4 H5 ρ4 ω5 _ _ (W4.go go5) q5 fun z H6 e ω6 go6 dz q6 => ?_
      obtain ⟨hc6, q6⟩ := q6
      obtain ⟨xs, hx, ha⟩ := cell_lst go6.cells hc6
      have go16 := (go2.trans go5).trans go6
      have g7 := Go.write (o := .lst (xs ++ [z])) (x := .lst (acc ++ [e])) go6.cells go6.tabs hc6 fun kp => ⟨_, upd_same, DvAll.mono kp _ _ (ha.append (.cons dz .nil))⟩
      refine ⟨xs, hx, ?_, acc ++ [e], _, go16.trans g7, q6⟩
      rw [ha.length]
      have := (hcell i acc ω' hI).2.1
      exact big_lt (by omega)
    | false => exact ⟨acc, ω5, go2.trans go5, q5⟩
  · have e : i = ds.length := by omega
    subst e
    exact .inl ⟨⟨ys, SqL.of hy0, by rw [hya.length]; exact Nat.le_refl _⟩, k _ H' _ ω' (go1.trans go2) (.ptr D) (fin acc ω' hI)⟩
theorem xlcC {tg iter elt : Expr} {ifs : List Expr} {scope : Scope} {own : List (Str × Nat)} {wa : WE} {is : List Nat} {g : WG} {u : WT} {w : WE} (hc : X.calm = true) (hN : X.N.Nodup) (ok : blkC X.N X.env.scope scope own = true) (hi : XE T X iter wa)
    (hg : ∀ s H C cl fp, XG T (blkX X scope s H C cl fp) tg is g) (ht : ∀ s H C cl fp, XTs T (blkX X scope s H C cl fp) ifs u) (he : ∀ s H C cl fp, XE T (blkX X scope s H C cl fp) elt w)
    (his : ∀ i ∈ is, i ∈ own.map (·.2) := by decide) (hs : ∀ x, foldedSetIterable iter X.env x = pure x := by intro _; rfl) : XE T X (.ListComp elt [⟨tg, iter, ifs, 0⟩] scope pos) (wFz (wLcC wa g u w (own.map (·.2)))) :=
  xfz ⟨_, pe_lc (wi := iList X.K (tD X.K T wa)) (g := tDG X.K T is g) (tt := tDT X.K T u) (te := tD X.K T w) hc hN (pi_list hi.pe) (blkOk_by ok) (fun s H C cl fp => (hg s H C cl fp).pg) (fun s H C cl fp => (ht s H C cl fp).pts) (fun s H C cl fp => (he s H C cl fp).pe) hs,
    evD_lcC his (fun σ H ρ ω R Q W q k => ⟨ρ, ω, R, W, q, k⟩) (fun v d σ H ρ ω R Q W dv q k => ⟨d, ρ, ω, R, W, dv, q, k⟩) (fun σ H ρ ω R Q W q k => ⟨ρ, ω, R, W, q, k⟩) (fun σ H ρ ω R Q W q k => ⟨ρ, ω, R, W, q, k⟩)⟩
section
variable {g : WG} {u : WT} {w : WE} {vs : List Nat} {ρ : Rho} {ds : List Da} {ω1 : Om} {R : Da → Om → Prop} {q : Addr}
/-- P i acc tells what may stand in the new list behind i items; the cells stay as they are -/
theorem lcC_rel (P : Nat → List Da → Prop) (hq : ω1 q = some (.lst ds)) (hl : ds.length ≤ 90000) (p0 : P 0 [])
    (turn : ∀ i d acc ω' (Q1 : Da → Om → Prop) (Q2 : Om → Prop), ds[i]? = some d → P i acc → Sub ω1 ω' → (∀ e, P (i + 1) (acc ++ [e]) → Q1 e ω') → (P (i + 1) acc → Q2 ω') → g d (wipeR ρ vs) fun ρ2 => u ρ2 ω' fun b ω3 => if b = true then w ρ2 ω3 Q1 else Q2 ω3)
    (fin : ∀ acc, acc.length ≤ ds.length → P ds.length acc → R (.lst acc) ω1) : LcC q g u w vs ρ ds ω1 (FzK R) := by
  refine ⟨⟨hl, fun D hD => ?_⟩⟩
  have hne : q ≠ D := fun z => by subst z; rw [hq] at hD; cases hD
  refine ⟨fun i acc ω2 => ω2 = ω1.set D (.lst acc) ∧ acc.length ≤ i ∧ P i acc, ⟨rfl, Nat.le_refl _, p0⟩, fun i acc ω2 ⟨e, h1, _⟩ => ⟨by rw [e]; exact Om.set_same, h1, by rw [e, Om.set_ne hne]; exact hq⟩, fun i d acc ω2 hd ⟨e, h1, h2⟩ => ?_, fun acc ω2 ⟨e, h1, h2⟩ => ?_⟩
  · subst e
    refine turn i d acc _ _ (fun ω3 => ω3 = ω1.set D (.lst acc) ∧ acc.length ≤ i + 1 ∧ P (i + 1) acc) hd h2 (Sub.set hD) (fun e he => ⟨Om.set_same, Om.set_set, ?_, he⟩) fun he => ⟨rfl, by omega, he⟩
    rw [List.length_append]
    show acc.length + 1 ≤ i + 1
    omega
  · subst e
    exact ⟨D, acc, rfl, Om.set_same, by rw [Om.set_del hD]; exact fin acc h1 h2⟩
end
end
end Dl
set_option maxHeartbeats 4000000
/-! the law's own defs: cures, agreeing, signs, parts. -/
namespace Wr
open PySem PySem.Spec PyProof.Rows L2 Dl
local macro_rules
  | `(tactic| walk_at "len") => `(tactic| (intro ds ω R h; repeat (first | (obtain ⟨e, _⟩ := h; subst e; rfl) | (obtain ⟨_, h⟩ := h))))
  | `(tactic| walk_at "st1") => `(tactic| first
    | apply Exists.intro
    | refine And.intro rfl ?_ | refine iteT ?_ | refine iteF ?_
    | refine And.intro (lst_ptr (by assumption)) ?_ | refine And.intro (seq_ptr (by assumption)) ?_ | refine And.intro (dct_ptr (by assumption)) ?_
    | refine And.intro (lst_ptr Om.set_same) ?_ | refine And.intro (seq_ptr Om.set_same) ?_ | refine And.intro Om.set_same ?_
    | refine And.intro ⟨_, lst_ptr (by assumption)⟩ ?_ | refine And.intro ⟨_, lst_ptr Om.set_same⟩ ?_ | refine And.intro ⟨_, rfl⟩ ?_ | refine And.intro ⟨_, lst_ptr ((Om.set_ne (by assumption)).trans (by assumption))⟩ ?_
    | refine And.intro ((Om.set_ne (by assumption)).trans (by assumption)) ?_ | refine And.intro (lst_ptr ((Om.set_ne (by assumption)).trans (by assumption))) ?_
    | refine And.intro (by assumption) ?_ | refine And.intro (ix_map (by assumption)) ?_
    | refine And.intro (by omega) ?_
    | refine do_all (by rfl) ?_ | refine eq_nat ?_ | refine ne_nat ?_ | refine eq_nats ?_ | refine ne_nats ?_ | refine in_nats ?_ | refine nin_nats ?_)
  | `(tactic| walk_at "st") => `(tactic| repeat walk_at "st1")
section
variable {P : Program} {wo : World} {K : PySem.W.Frag} {mg : Str → Option Value} {base : Heap} {T : Tb}
theorem none_all {α : Type} {l : List α} {p : α → Bool} : decide ((l.filter fun x => !p x) = []) = l.all p := by
  rw [Bool.eq_iff_iff, decide_eq_true_iff, List.filter_eq_nil_iff, List.all_eq_true]
  exact ⟨fun h x hx => by have := h x hx; simpa using this, fun h x hx => by simpa using h x hx⟩
def cureC (C : List (List Nat)) (q : Nat) (lot : List Nat) : List Nat := (List.range q).filter fun c => lot.all fun x => decide (c ∈ C.getD x [])
def sp_law_cures_all : Dsp := fun ds ω R => ∃ (n q : Nat) (C : List (List Nat)) (more : List Da) (l : List Nat), ds = [.tup (natD n :: natD q :: .tup (C.map natsD) :: more), natsD l] ∧ q ≤ 1000 ∧ l.length ≤ 1000 ∧ (∀ x ∈ l, x < C.length) ∧ R (.lst ((cureC C q l).map natD)) ω
theorem sc_law_cures_all : FnScope ["_law_rig_here", "_law_lot", "_law_r", "_law_x"] ["_law_rig_here", "_law_lot"] (defScope s_law_cures_all) := ⟨rfl, rfl, rfl, by decide +kernel, rfl, by decide +kernel, by decide +kernel⟩
theorem D_law_cures_all (Z : Zp K mg base T) : Df P wo K mg base T "_law_cures_all" 1 sp_law_cures_all := by
  obtain ⟨⟨fd, F⟩, hm⟩ := Z.df 63 d_law_cures_all rfl rfl
  refine def_ok F sc_law_cures_all hm (fun _ _ _ _ _ _ us hl => match us, hl with | [_, _], _ => rfl) (by walk_at "len") fun cdv A outer st H E hr => ?_
  have nd := sc_law_cures_all.nd
  refine ⟨_, (ss1 (sret (xlc (own := [("_law_r", 2)]) rfl nd (by rfl) (xir Z.range (xix (xv 0) xint)) (fun _ _ _ _ _ => (xg 2 nd)) (fun _ _ _ _ _ => (xt1 (teq hr (xlc (own := [("_law_x", 3)]) rfl nd (by rfl) (xit (xv 1)) (fun _ _ _ _ _ => (xg 3 nd)) (fun _ _ _ _ _ => (xt1 (tnin hr (xv 2) (xix (xix (xv 0) xint) (xv 3))))) (fun _ _ _ _ _ => (xv 3))) (xlst xan)))) (fun _ _ _ _ _ => (xv 2))))), fun ds ω R h => ?_⟩
  obtain ⟨n, q, C, more, l, rfl, hq, hl, hx, fin⟩ := h
  have a1 : atI (natD n :: natD q :: .tup (C.map natsD) :: more) 1 = some (natD q) := atI_nat (j := 1) rfl
  have a2 : atI (natD n :: natD q :: .tup (C.map natsD) :: more) 2 = some (.tup (C.map natsD)) := atI_nat (j := 2) rfl
  walk_at "st"
  rw [rgD_nat]
  refine lc_filter (List.range q) natD (fun c => l.all fun x => decide (c ∈ C.getD x [])) (by rw [List.length_range]; omega) (fun c ω' Q1 Q2 hc hs h1 h2 => by
    walk_at "st"
    refine lc_filter l natD (fun x => !decide (c ∈ C.getD x [])) (by omega) (fun x ω' Q1 Q2 hxl hs h1 h2 => by
      have e3 : atI (C.map natsD) ((x : Nat) : Int) = some (natsD (C.getD x [])) := ix_map (by rw [List.getD_eq_getElem?_getD, List.getElem?_eq_getElem (hx x hxl)]; rfl)
      walk_at "st"
      cases e : decide (c ∈ C.getD x []) with
      | true => exact iteF (h2 (by rw [e]; rfl))
      | false => exact iteT (by walk_at "st"; exact h1 (by rw [e]; rfl))) ?_
    walk_at "st"
    refine eq_nil (cl_natm _) (dep_natm _) ?_
    rw [none_all]
    refine ⟨_, rfl, ?_⟩
    cases e : (l.all fun x => decide (c ∈ C.getD x [])) with
    | true => exact iteT (by walk_at "st"; exact h1 e)
    | false => exact iteF (h2 e)) ?_
  walk_at "st"
  exact fin
def sp_law_is_done : Dsp := fun ds ω R => ∃ (r : Rig) (l : List Nat), ds = [rigD r, natsD l] ∧ r.Ok ∧ LotOk r l ∧ R (.bl (done r l)) ω
theorem sc_law_is_done : FnScope ["_law_rig_here", "_law_lot"] ["_law_rig_here", "_law_lot"] (defScope s_law_is_done) := ⟨rfl, rfl, rfl, by decide +kernel, rfl, by decide +kernel, by decide +kernel⟩
theorem D_law_is_done (Z : Zp K mg base T) : Df P wo K mg base T "_law_is_done" 2 sp_law_is_done := by
  obtain ⟨⟨fd, F⟩, hm⟩ := Z.df 64 d_law_is_done rfl rfl
  have D_law_cures_all := D_law_cures_all (P := P) (wo := wo) Z
  refine def_ok F sc_law_is_done hm (fun _ _ _ _ _ _ us hl => match us, hl with | [_, _], _ => rfl) (by walk_at "len") fun cdv A outer st H E hr => ?_
  have nd := sc_law_is_done.nd
  refine ⟨_, (ss1 (sret (xne hr (xcall D_law_cures_all (hr.mono (by first | decide | omega)) (xac (xv 0) (xac (xv 1) xan))) (xlst xan)))), fun ds ω R h => ?_⟩
  obtain ⟨r, l, rfl, o, hl, q⟩ := h
  walk_at "st"
  refine ⟨by have := o.q2; omega, by have := hl.len o; omega, fun x hx => by rw [o.cl]; exact hl.2 x hx, ?_⟩
  walk_at "st"
  exact ne_nil (cl_natm _) (dep_natm _) q
theorem oneSign_all {r : Rig} {l : List Nat} {g : Nat} (o : r.Ok) (hl : LotOk r l) (hg : g < r.m) : oneSign r l g = l.all fun x => decide (r.sg g x = r.sg g (l.getD 0 0)) := by
  rw [Bool.eq_iff_iff, oneSign_iff o hl hg, List.all_eq_true]
  constructor
  · intro h x hx
    refine decide_eq_true (h x hx _ ?_)
    cases l with
    | nil => cases hx
    | cons y l => exact List.mem_cons_self
  · intro h x hx y hy
    rw [of_decide_eq_true (h x hx), of_decide_eq_true (h y hy)]
def sp_law_is_one_sign : Dsp := fun ds ω R => ∃ (r : Rig) (l : List Nat) (g : Nat), ds = [rigD r, natsD l, natD g] ∧ r.Ok ∧ LotOk r l ∧ g < r.m ∧ R (.bl (oneSign r l g)) ω
theorem sc_law_is_one_sign : FnScope ["_law_rig_here", "_law_lot", "_law_g", "_law_x"] ["_law_rig_here", "_law_lot", "_law_g"] (defScope s_law_is_one_sign) := ⟨rfl, rfl, rfl, by decide +kernel, rfl, by decide +kernel, by decide +kernel⟩
theorem D_law_is_one_sign (Z : Zp K mg base T) : Df P wo K mg base T "_law_is_one_sign" 1 sp_law_is_one_sign := by
  obtain ⟨⟨fd, F⟩, hm⟩ := Z.df 66 d_law_is_one_sign rfl rfl
  refine def_ok F sc_law_is_one_sign hm (fun _ _ _ _ _ _ us hl => match us, hl with | [_, _, _], _ => rfl) (by walk_at "len") fun cdv A outer st H E hr => ?_
  have nd := sc_law_is_one_sign.nd
  refine ⟨_, (ss1 (sret (xeq hr (xlc (own := [("_law_x", 3)]) rfl nd (by rfl) (xit (xv 1)) (fun _ _ _ _ _ => (xg 3 nd)) (fun _ _ _ _ _ => (xt1 (tne hr (xix (xix (xix (xv 0) xint) (xv 2)) (xv 3)) (xix (xix (xix (xv 0) xint) (xv 2)) (xix (xv 1) xint))))) (fun _ _ _ _ _ => (xv 3))) (xlst xan)))), fun ds ω R h => ?_⟩
  obtain ⟨r, l, g, rfl, o, hl, hg, q⟩ := h
  have hll := hl.len o
  have el := oneSign_all o hl hg
  walk_at "st"
  refine lc_filter l natD (fun x => !decide (r.sg g x = r.sg g (l.getD 0 0))) (by omega) (fun x ω' Q1 Q2 hxl hs h1 h2 => by
    obtain ⟨row, e1, e2⟩ := o.sign hg (hl.2 x hxl)
    obtain ⟨x0, hx0, e0⟩ : ∃ x0, x0 < r.n ∧ l[0]? = some x0 := by
      cases l with
      | nil => cases hxl
      | cons x0 l0 => exact ⟨x0, hl.2 x0 List.mem_cons_self, rfl⟩
    have ed : l.getD 0 0 = x0 := by rw [List.getD_eq_getElem?_getD, e0]; rfl
    rw [ed] at h1 h2
    have ea : atI (l.map natD) 0 = some (natD x0) := ix_map (i := 0) e0
    obtain ⟨row2, e3, e4⟩ := o.sign hg hx0
    rw [e1] at e3
    cases e3
    walk_at "st"
    cases e : decide (r.sg g x = r.sg g x0) with
    | true => exact iteF (h2 (by rw [e]; rfl))
    | false => exact iteT (by walk_at "st"; exact h1 (by rw [e]; rfl))) ?_
  walk_at "st"
  refine eq_nil (cl_natm _) (dep_natm _) ?_
  rw [none_all, ← el]
  exact q
theorem filter_one {α : Type} {p : α → Bool} {x : α} : [x].filter p = if p x = true then [x] else [] := by
  cases h : p x with
  | true => rw [List.filter_cons_of_pos h, if_pos rfl]; rfl
  | false => rw [List.filter_cons_of_neg (by rw [h]; decide), if_neg (by decide)]; rfl
theorem lcC_filter {α : Type} {g : WG} {u : WT} {w : WE} {vs : List Nat} {ρ : Rho} {ω1 : Om} {R : Da → Om → Prop} {q : Addr} (l : List α) (enc : α → Da) (p : α → Bool) (hq : ω1 q = some (.lst (l.map enc))) (hl : l.length ≤ 90000)
    (turn : ∀ x ω' (Q1 : Da → Om → Prop) (Q2 : Om → Prop), x ∈ l → Sub ω1 ω' → (p x = true → Q1 (enc x) ω') → (p x = false → Q2 ω') → g (enc x) (wipeR ρ vs) fun ρ2 => u ρ2 ω' fun b ω3 => if b = true then w ρ2 ω3 Q1 else Q2 ω3)
    (fin : R (.lst ((l.filter p).map enc)) ω1) : LcC q g u w vs ρ (l.map enc) ω1 (FzK R) := by
  refine lcC_rel (fun i acc => acc = ((l.take i).filter p).map enc) hq (by rw [List.length_map]; exact hl) (by rw [List.take_zero]; rfl) (fun i d acc ω' Q1 Q2 hd hP hs h1 h2 => ?_) fun acc _ hP => ?_
  · rw [List.getElem?_map] at hd
    cases e : l[i]? with
    | none => rw [e] at hd; cases hd
    | some x =>
      rw [e] at hd
      have hd' : enc x = d := Option.some.inj hd
      subst hd'
      refine turn x ω' Q1 Q2 (List.mem_of_getElem? e) hs (fun v => h1 _ ?_) (fun v => h2 ?_)
      · rw [hP, take_next' e, List.filter_append, List.filter_cons_of_pos v, List.map_append]; rfl
      · rw [hP, take_next' e, List.filter_append, List.filter_cons_of_neg (by rw [v]; decide), List.map_append]; exact (List.append_nil _).symm
  · rw [List.length_map, List.take_length] at hP
    rw [hP]; exact fin
def sp_law_agree : Dsp := fun ds ω R => ∃ (r : Rig) (l : List Nat) (x : Nat) (p : Addr) (gs : List Nat), ds = [rigD r, natsD l, natD x, .ptr p] ∧ ω p = some (.lst (gs.map natD)) ∧ r.Ok ∧ LotOk r l ∧ x < r.n ∧ (∀ g ∈ gs, g < r.m) ∧ gs.length ≤ 1000 ∧ R (natsD (agree r l x gs)) ω
theorem sc_law_agree : FnScope ["_law_rig_here", "_law_lot", "_law_x", "_law_settings", "_law_found", "_law_y", "_law_g"] ["_law_rig_here", "_law_lot", "_law_x", "_law_settings"] (defScope s_law_agree) := ⟨rfl, rfl, rfl, by decide +kernel, rfl, by decide +kernel, by decide +kernel⟩
theorem D_law_agree (Z : Zp K mg base T) : Df P wo K mg base T "_law_agree" 1 sp_law_agree := by
  obtain ⟨⟨fd, F⟩, hm⟩ := Z.df 65 d_law_agree rfl rfl
  refine def_okS F sc_law_agree hm (fun _ _ _ _ _ _ us hl => match us, hl with | [_, _, _, _], _ => rfl) (by walk_at "len") fun cdv A outer st H E hr => ?_
  have nd := sc_law_agree.nd
  refine ⟨_, (ssc (sset 4 nd (xnew xan))
    (ssc (sfor PassesOwn.never rfl (xit (xv 1)) (xg 5 nd) (ss1 (sif (teq hr (xlcC (own := [("_law_g", 6)]) rfl nd (by rfl) (xv 3) (fun _ _ _ _ _ => (xg 6 nd)) (fun _ _ _ _ _ => (xt1 (tne hr (xix (xix (xix (xv 0) xint) (xv 6)) (xv 5)) (xix (xix (xix (xv 0) xint) (xv 6)) (xv 2))))) (fun _ _ _ _ _ => (xv 6))) (xlst xan)) (ss1 (sexpr (xappend (xv 4) (xac (xv 5) xan)))) ssn)))
    (ss1 (sret (xbi (bi_tuple Z.tuple) (xac (xv 4) xan)))))), fun ds ω R h => ?_⟩
  obtain ⟨r, l, x, p, gs, rfl, hp, o, hl, hx, hgs, hgl, q⟩ := h
  have hll := hl.len o
  walk_at "st"
  intro pf hpf
  walk_at "st"
  have hne : p ≠ pf := fun z => by subst z; rw [hp] at hpf; cases hpf
  refine for_on l natD (fun i ρ' ω' => Hold <| (∃ u v, ρ' = [some (rigD r), some (natsD l), some (natD x), some (.ptr p), some (.ptr pf), u, v]) ∧ ω' = ω.set pf (.lst ((agree r (l.take i) x gs).map natD))) ⟨⟨_, _, rfl⟩, by rw [List.take_zero]; rfl⟩ (fun i y ρ' ω' hy hI => ?_) fun ρ' ω' hI => ?_
  · obtain ⟨⟨_, _, rfl⟩, rfl⟩ := hI
    have hp2 : (ω.set pf (.lst ((agree r (l.take i) x gs).map natD))) p = some (.lst (gs.map natD)) := (Om.set_ne hne).trans hp
    have hyl := List.mem_of_getElem? hy
    have hal : (agree r (l.take i) x gs).length ≤ 4 := by
      unfold agree
      exact Nat.le_trans (List.length_filter_le _ _) (by rw [List.length_take]; omega)
    have hal2 : ((agree r (l.take i) x gs).map natD).length < 100000 := by rw [List.length_map]; omega
    walk_at "st"
    refine lcC_filter gs natD (fun g => !decide (r.sg g y = r.sg g x)) hp2 (by omega) (fun g ω' Q1 Q2 hg hs h1 h2 => by
      obtain ⟨row, e1, e2⟩ := o.sign (hgs g hg) (hl.2 y hyl)
      obtain ⟨row2, e3, e4⟩ := o.sign (hgs g hg) hx
      rw [e1] at e3
      cases e3
      walk_at "st"
      cases e : decide (r.sg g y = r.sg g x) with
      | true => exact iteF (h2 (by rw [e]; rfl))
      | false => exact iteT (by walk_at "st"; exact h1 (by rw [e]; rfl))) ?_
    walk_at "st"
    refine eq_nil (cl_natm _) (dep_natm _) ?_
    rw [none_all]
    have step : agree r (l.take (i + 1)) x gs = agree r (l.take i) x gs ++ (if (gs.all fun g => decide (r.sg g y = r.sg g x)) = true then [y] else []) := by
      unfold agree
      rw [take_next' hy, List.filter_append]
      rw [filter_one]
    refine ⟨_, rfl, ?_⟩
    cases e : (gs.all fun g => decide (r.sg g y = r.sg g x)) with
    | true =>
      rw [e, if_pos rfl] at step
      walk_at "st"
      refine ⟨⟨_, _, rfl⟩, ?_⟩
      rw [Om.set_set, step, List.map_append]
      rfl
    | false =>
      rw [e, if_neg (by decide), List.append_nil] at step
      exact iteF ⟨⟨_, _, rfl⟩, by rw [step]⟩
  · obtain ⟨⟨_, _, rfl⟩, rfl⟩ := hI
    rw [List.take_length]
    walk_at "st"
    exact ⟨ω, (Sub.refl ω).new hpf, q⟩
theorem part_nil {r : Rig} {l : List Nat} {g s : Nat} : (l.any fun x => decide (r.sg g x = s)) = !decide (part r l g s = []) := by
  rw [Bool.eq_iff_iff, List.any_eq_true, Bool.not_eq_true', decide_eq_false_iff_not]
  unfold part
  rw [List.filter_eq_nil_iff]
  constructor
  · rintro ⟨x, hx, e⟩ h
    exact h x hx e
  · intro h
    refine Classical.byContradiction fun z => h fun x hx e => z ⟨x, hx, e⟩
def partsTo (r : Rig) (l : List Nat) (g i : Nat) : List (Nat × List Nat) := (((List.range 10).take i).filter fun s => l.any fun x => decide (r.sg g x = s)).map fun s => (s, part r l g s)
def sp_law_parts : Dsp := fun ds ω R => ∃ (r : Rig) (l : List Nat) (g : Nat), ds = [rigD r, natsD l, natD g] ∧ r.Ok ∧ LotOk r l ∧ g < r.m ∧ R (.lst ((parts r l g).map partD)) ω
theorem sc_law_parts : FnScope ["_law_rig_here", "_law_lot", "_law_g", "_law_found", "_law_sign", "_law_some_here", "_law_x"] ["_law_rig_here", "_law_lot", "_law_g"] (defScope s_law_parts) := ⟨rfl, rfl, rfl, by decide +kernel, rfl, by decide +kernel, by decide +kernel⟩
theorem D_law_parts (Z : Zp K mg base T) : Df P wo K mg base T "_law_parts" 1 sp_law_parts := by
  obtain ⟨⟨fd, F⟩, hm⟩ := Z.df 67 d_law_parts rfl rfl
  refine def_ok F sc_law_parts hm (fun _ _ _ _ _ _ us hl => match us, hl with | [_, _, _], _ => rfl) (by walk_at "len") fun cdv A outer st H E hr => ?_
  have nd := sc_law_parts.nd
  refine ⟨_, (ssc (sset 3 nd (xnew xan))
    (ssc (sfor PassesOwn.never rfl (xir Z.range xint) (xg 4 nd) (ssc (sset 5 nd (xbi (bi_tuple Z.tuple) (xac (xlc (own := [("_law_x", 6)]) rfl nd (by rfl) (xit (xv 1)) (fun _ _ _ _ _ => (xg 6 nd)) (fun _ _ _ _ _ => (xt1 (teq hr (xix (xix (xix (xv 0) xint) (xv 2)) (xv 6)) (xv 4)))) (fun _ _ _ _ _ => (xv 6))) xan)))
    (ss1 (sif (tne hr (xv 5) (xtup xan)) (ss1 (sexpr (xappend (xv 3) (xac (xtup (xac (xv 4) (xac (xv 5) xan))) xan)))) ssn))))
    (ss1 (sret (xfz (xv 3)))))), fun ds ω R h => ?_⟩
  obtain ⟨r, l, g, rfl, o, hl, hg, q⟩ := h
  have hll := hl.len o
  walk_at "st"
  intro pf hpf
  walk_at "st"
  rw [show rgD 0 (Int.toNat 10) = (List.range 10).map natD from rgD_nat 10]
  refine for_on (List.range 10) natD (fun i ρ' ω' => Hold <| (∃ u v w, ρ' = [some (rigD r), some (natsD l), some (natD g), some (.ptr pf), u, v, w]) ∧ ω' = ω.set pf (.lst ((partsTo r l g i).map partD))) ⟨⟨_, _, _, rfl⟩, by unfold partsTo; rw [List.take_zero]; rfl⟩ (fun i s ρ' ω' hs0 hI => ?_) fun ρ' ω' hI => ?_
  · obtain ⟨⟨_, _, _, rfl⟩, rfl⟩ := hI
    have hpl : ((partsTo r l g i).map partD).length < 100000 := by
      unfold partsTo
      rw [List.length_map, List.length_map]
      exact Nat.lt_of_le_of_lt (List.length_filter_le _ _) (by rw [List.length_take, List.length_range]; omega)
    walk_at "st"
    refine lc_filter l natD (fun x => decide (r.sg g x = s)) (by omega) (fun x ω' Q1 Q2 hx _ h1 h2 => by
      obtain ⟨row, e1, e2⟩ := o.sign hg (hl.2 x hx)
      walk_at "st"
      cases e : decide (r.sg g x = s) with
      | true => exact iteT (by walk_at "st"; exact h1 e)
      | false => exact iteF (h2 e)) ?_
    walk_at "st"
    refine ne_nilt (m := part r l g s) ?_
    have step : partsTo r l g (i + 1) = partsTo r l g i ++ (if (!decide (part r l g s = [])) = true then [(s, part r l g s)] else []) := by
      unfold partsTo
      rw [take_next' hs0, List.filter_append, List.map_append, ← part_nil, filter_one]
      cases (l.any fun x => decide (r.sg g x = s)) <;> rfl
    refine ⟨_, rfl, ?_⟩
    cases e : !decide (part r l g s = []) with
    | true =>
      rw [e, if_pos rfl] at step
      walk_at "st"
      refine ⟨⟨_, _, _, rfl⟩, ?_⟩
      rw [Om.set_set, step, List.map_append]
      rfl
    | false =>
      rw [e, if_neg (by decide), List.append_nil] at step
      exact iteF ⟨⟨_, _, _, rfl⟩, by rw [step]⟩
  · obtain ⟨⟨_, _, _, rfl⟩, rfl⟩ := hI
    walk_at "st"
    have e : partsTo r l g (List.range 10).length = parts r l g := by unfold partsTo parts sgl; rw [List.take_length]
    rw [e, Om.set_del hpf]
    exact q
end
end Wr
set_option maxHeartbeats 4000000
/-! the law's own defs: moves, bars, neighbours. -/
namespace Wr
open PySem PySem.Spec PyProof.Rows L2 Dl
local macro_rules
  | `(tactic| walk_at "len") => `(tactic| (intro ds ω R h; repeat (first | (obtain ⟨e, _⟩ := h; subst e; rfl) | (obtain ⟨_, h⟩ := h))))
  | `(tactic| walk_at "st1") => `(tactic| first
    | apply Exists.intro
    | refine And.intro rfl ?_ | refine iteT ?_ | refine iteF ?_
    | refine And.intro (lst_ptr (by assumption)) ?_ | refine And.intro (seq_ptr (by assumption)) ?_ | refine And.intro (dct_ptr (by assumption)) ?_
    | refine And.intro (lst_ptr Om.set_same) ?_ | refine And.intro (seq_ptr Om.set_same) ?_ | refine And.intro Om.set_same ?_
    | refine And.intro ⟨_, lst_ptr (by assumption)⟩ ?_ | refine And.intro ⟨_, lst_ptr Om.set_same⟩ ?_ | refine And.intro ⟨_, rfl⟩ ?_ | refine And.intro ⟨_, lst_ptr ((Om.set_ne (by assumption)).trans (by assumption))⟩ ?_
    | refine And.intro ((Om.set_ne (by assumption)).trans (by assumption)) ?_ | refine And.intro (lst_ptr ((Om.set_ne (by assumption)).trans (by assumption))) ?_
    | refine And.intro (by assumption) ?_ | refine And.intro (ix_map (by assumption)) ?_
    | refine And.intro (by omega) ?_
    | refine do_all (by rfl) ?_ | refine eq_nat ?_ | refine ne_nat ?_ | refine eq_nats ?_ | refine ne_nats ?_ | refine in_nats ?_ | refine nin_nats ?_)
  | `(tactic| walk_at "st") => `(tactic| repeat walk_at "st1")
section
variable {P : Program} {wo : World} {K : PySem.W.Frag} {mg : Str → Option Value} {base : Heap} {T : Tb}
theorem move_uniq {r : Rig} (o : r.Ok) {k : Nat} {p : Nat × Nat} (h : r.moves[k]? = some p) : ∀ m, m < k → r.moves[m]? ≠ some p := fun m hm e => by
  obtain ⟨h1, h2⟩ := List.getElem?_eq_some_iff.mp h
  obtain ⟨m1, m2⟩ := List.getElem?_eq_some_iff.mp e
  have := List.pairwise_iff_getElem.mp o.ms m k m1 h1 hm
  rw [m2, h2] at this
  omega
theorem lay_pair (p : Nat × Nat) : lays (pairD p) := lay_tup (lay_cons (lay_nat _) (lay_cons (lay_nat _) rfl))
theorem dep_pairs (l : List (Nat × Nat)) : depAll (l.map pairD) ≤ 50 := depAll_map fun _ _ => Nat.le_trans (pair_dep _) (by decide)
theorem cl_pairs (l : List (Nat × Nat)) : clAll (l.map pairD) = true := clAll_map fun _ _ => pair_cl _
def sp_law_move_of : Dsp := fun ds ω R => ∃ (r : Rig) (g h k : Nat) (p : Nat × Nat), ds = [rigD r, natD g, natD h] ∧ r.Ok ∧ r.moves[k]? = some p ∧ Ends p g h ∧ R (natD k) ω
theorem sc_law_move_of : FnScope ["_law_rig_here", "_law_g", "_law_h", "_law_pair"] ["_law_rig_here", "_law_g", "_law_h"] (defScope s_law_move_of) := ⟨rfl, rfl, rfl, by decide +kernel, rfl, by decide +kernel, by decide +kernel⟩
theorem D_law_move_of (Z : Zp K mg base T) : Df P wo K mg base T "_law_move_of" 1 sp_law_move_of := by
  obtain ⟨⟨fd, F⟩, hm⟩ := Z.df 68 d_law_move_of rfl rfl
  refine def_ok F sc_law_move_of hm (fun _ _ _ _ _ _ us hl => match us, hl with | [_, _, _], _ => rfl) (by walk_at "len") fun cdv A outer st H E hr => ?_
  have nd := sc_law_move_of.nd
  refine ⟨_, (ssc (sset 3 nd (xtup (xac (xbi (bi_min2 rfl Z.min) (xac (xv 1) (xac (xv 2) xan))) (xac (xbi (bi_max2 rfl Z.max) (xac (xv 1) (xac (xv 2) xan))) xan))))
    (ss1 (sret (xif (tin hr (xv 3) (xun (xix (xv 0) xint))) (xindexT hr (xix (xv 0) xint) (xac (xv 3) xan)) xnon)))), fun ds ω R h => ?_⟩
  obtain ⟨r, g, h, k, p, rfl, o, hk, he, q⟩ := h
  have hp := (o.ma p (List.mem_of_getElem? hk)).1
  have ep : Da.tup [.int (gMin (g : Int) (h : Int)), .int (gMax (g : Int) (h : Int))] = pairD p := by
    unfold pairD gMin gMax natD
    rcases he with ⟨e1, e2⟩ | ⟨e1, e2⟩
    · rw [if_neg (by omega), if_pos (by omega), e1, e2]
    · rw [if_pos (by omega), if_neg (by omega), e1, e2]
  walk_at "st"
  rw [ep]
  refine do_in (P := p ∈ r.moves) (l := r.moves.map pairD) rfl (pair_cl p) (cl_pairs _) (Nat.le_trans (pair_dep p) (by decide)) (map_mem_inj fun _ _ => pairD_inj) ?_
  rw [decide_eq_true (List.mem_of_getElem? hk)]
  walk_at "st"
  exact ⟨pair_cl p, cl_pairs _, lay_map fun x _ => lay_pair x, lay_pair p, dep_pairs _, Nat.le_trans (pair_dep p) (by decide), k, by rw [List.getElem?_map, hk]; rfl, fun m hm e => by
    rw [List.getElem?_map] at e
    cases em : r.moves[m]? with
    | none => rw [em] at e; cases e
    | some p' =>
      rw [em] at e
      have e : pairD p' = pairD p := Option.some.inj e
      rw [pairD_inj e] at em
      exact move_uniq o hk m hm em, q⟩
def sp_law_bar_of : Dsp := fun ds ω R => ∃ (b : Book) (lot : List Nat) (k : Nat), ds = [bookD b, natsD lot, natD k] ∧ b.Ok ∧ k < b.rig.moves.length ∧ R (optD (barAt b lot k)) ω
theorem sc_law_bar_of : FnScope ["_law_book", "_law_lot", "_law_move", "_law_some_here", "_law_bar_here"] ["_law_book", "_law_lot", "_law_move"] (defScope s_law_bar_of) := ⟨rfl, rfl, rfl, by decide +kernel, rfl, by decide +kernel, by decide +kernel⟩
theorem D_law_bar_of (Z : Zp K mg base T) : Df P wo K mg base T "_law_bar_of" 2 sp_law_bar_of := by
  obtain ⟨⟨fd, F⟩, hm⟩ := Z.df 69 d_law_bar_of rfl rfl
  have D_law_is_within := D_law_is_within (P := P) (wo := wo) Z
  refine def_ok F sc_law_bar_of hm (fun _ _ _ _ _ _ us hl => match us, hl with | [_, _, _], _ => rfl) (by walk_at "len") fun cdv A outer st H E hr => ?_
  have nd := sc_law_bar_of.nd
  refine ⟨_, (ssc (ssetLc 3 (own := [("_law_bar_here", 4)]) rfl nd (by rfl) (xit (xix (xix (xv 0) xint) (xv 2))) (fun _ _ _ _ _ => (xg 4 nd)) (fun _ _ _ _ _ => (xt1 (tval (xcall D_law_is_within (hr.mono (by first | decide | omega)) (xac (xv 4) (xac (xv 1) xan)))))) (fun _ _ _ _ _ => (xv 4)))
    (ss1 (sret (xif (tne hr (xv 3) (xlst xan)) (xix (xv 3) xint) xnon)))), fun ds ω R h => ?_⟩
  obtain ⟨b, lot, k, rfl, o, hk, q⟩ := h
  have hk2 : k < b.bars.length := by rw [o.len]; exact hk
  have ek : b.bars[k]? = some b.bars[k] := List.getElem?_eq_getElem hk2
  have eg : b.bars.getD k [] = b.bars[k] := by rw [List.getD_eq_getElem?_getD, ek]; rfl
  obtain ⟨l1, l2, l3⟩ := o.lots _ (List.getElem_mem hk2)
  unfold barAt at q
  rw [eg, ← List.head?_filter] at q
  walk_at "st"
  refine lc_filter b.bars[k] natsD (fun bar => within bar lot) (by omega) (fun x ω' Q1 Q2 hx hs h1 h2 => by
    have := (l2 x hx).2.2
    walk_at "st"
    cases e : within x lot with
    | true => exact iteT (by walk_at "st"; exact h1 e)
    | false => exact iteF (h2 e)) ?_
  walk_at "st"
  refine ne_nil (cl_natss _) (dep_natss _) ?_
  cases e : b.bars[k].filter fun bar => within bar lot with
  | nil =>
    rw [e] at q
    walk_at "st"
    exact q
  | cons x l =>
    rw [e] at q
    have ea : atI ((x :: l).map natsD) 0 = some (natsD x) := ix_map (i := 0) rfl
    rw [decide_eq_false (by simp)]
    walk_at "st"
    exact q
theorem barN {b : Book} {lot : List Nat} {k : Nat} : (optD (barAt b lot k)).isN = free b lot k := by
  cases h : barAt b lot k with
  | none => rw [barAt_none.mp h]; rfl
  | some l =>
    cases f : free b lot k with
    | true => rw [barAt_none.mpr f] at h; cases h
    | false => rfl
def sp_law_next : Dsp := fun ds ω R => ∃ (b : Book) (lot : List Nat) (g : Nat), ds = [bookD b, natsD lot, natD g] ∧ b.Ok ∧ ∀ hs : List Nat, hs.length ≤ 6 → (∀ h, h ∈ hs ↔ Adj b lot g h) → R (.lst (hs.map natD)) ω
theorem sc_law_next : FnScope ["_law_book", "_law_lot", "_law_g", "_law_rig_here", "_law_found", "_law_move"] ["_law_book", "_law_lot", "_law_g"] (defScope s_law_next) := ⟨rfl, rfl, rfl, by decide +kernel, rfl, by decide +kernel, by decide +kernel⟩
theorem D_law_next (Z : Zp K mg base T) : Df P wo K mg base T "_law_next" 3 sp_law_next := by
  obtain ⟨⟨fd, F⟩, hm⟩ := Z.df 70 d_law_next rfl rfl
  have D_law_bar_of := D_law_bar_of (P := P) (wo := wo) Z
  refine def_okS F sc_law_next hm (fun _ _ _ _ _ _ us hl => match us, hl with | [_, _, _], _ => rfl) (by walk_at "len") fun cdv A outer st H E hr => ?_
  have nd := sc_law_next.nd
  refine ⟨_, (ssc (spar 3 4 rfl nd (xac (xix (xv 0) xint) (xac (xnew xan) xan)))
    (ssc (sfor PassesOwn.never rfl (xir Z.range (xbi (bi_len Z.len) (xac (xun (xix (xv 3) xint)) xan))) (xg 5 nd) (ss1 (sif (tw (twand (tin hr (xv 2) (xix (xun (xix (xv 3) xint)) (xv 5))) (twand1 (tisN (xcall D_law_bar_of (hr.mono (by first | decide | omega)) (xac (xv 0) (xac (xv 1) (xac (xv 5) xan)))) xnon)))) (ss1 (sexpr (xappend (xv 4) (xac (xsub (xadd (xix (xix (xun (xix (xv 3) xint)) (xv 5)) xint) (xix (xix (xun (xix (xv 3) xint)) (xv 5)) xint)) (xv 2)) xan)))) ssn)))
    (ss1 (sret (xbi (bi_sortedI Z.sorted) (xac (xv 4) xan)))))), fun ds ω R h => ?_⟩
  obtain ⟨b, lot, g, rfl, o, q⟩ := h
  have hml := o.rig.ml
  walk_at "st"
  intro pf hpf
  walk_at "st"
  rw [List.length_map, Int.toNat_natCast, rgD_nat]
  refine ⟨by omega, ?_⟩
  refine for_on (List.range b.rig.moves.length) natD (fun i ρ' ω' => Hold <| (∃ u, ρ' = [some (bookD b), some (natsD lot), some (natD g), some (rigD b.rig), some (.ptr pf), u]) ∧ ∃ acc : List Nat, ω' = ω.set pf (.lst (acc.map natD)) ∧ acc.length ≤ i ∧ ∀ h, h ∈ acc ↔ ∃ k p, k < i ∧ b.rig.moves[k]? = some p ∧ Ends p g h ∧ free b lot k = true)
    ⟨⟨_, rfl⟩, [], rfl, Nat.le_refl _, fun h => ⟨fun z => (by cases z), fun ⟨k, p, z, _⟩ => absurd z (Nat.not_lt_zero _)⟩⟩ (fun i k ρ' ω' hi hI => ?_) fun ρ' ω' hI => ?_
  · obtain ⟨⟨_, rfl⟩, acc, rfl, hal, hac⟩ := hI
    have hi2 := List.getElem?_eq_some_iff.mp hi
    have hil : i < b.rig.moves.length := by have := hi2.1; rwa [List.length_range] at this
    have hik : k = i := by rw [← hi2.2, List.getElem_range]
    subst hik
    obtain ⟨p, hk⟩ : ∃ p, b.rig.moves[k]? = some p := ⟨_, List.getElem?_eq_getElem hil⟩
    obtain ⟨a, c⟩ := p
    have hal2 : (acc.map natD).length < 100000 := by rw [List.length_map]; omega
    have ha := (o.rig.ma _ (List.mem_of_getElem? hk)).1
    have ha : a < c := ha
    walk_at "st"
    refine do_in (P := g = a ∨ g = c) (l := [natD a, natD c]) rfl rfl rfl (Nat.zero_le _) ?_ ?_
    · show natD g ∈ [natD a, natD c] ↔ _
      rw [List.mem_cons, List.mem_singleton]
      exact or_congr ⟨natD_inj, fun e => by rw [e]⟩ ⟨natD_inj, fun e => by rw [e]⟩
    walk_at "st"
    by_cases c1 : g = a ∨ g = c
    · rw [decide_eq_true c1]
      walk_at "st"
      rw [barN]
      cases hf : free b lot k with
      | true =>
        walk_at "st"
        have e2 : ((a : Int) + (c : Int) - (g : Int)) = ((a + c - g : Nat) : Int) := by omega
        refine ⟨⟨_, rfl⟩, acc ++ [a + c - g], ?_, by rw [List.length_append, List.length_singleton]; omega, fun h => ?_⟩
        · rw [Om.set_set, List.map_append]
          show ω.set pf (.lst (acc.map natD ++ [.int ((a : Int) + (c : Int) - (g : Int))])) = _
          rw [e2]
          rfl
        · rw [List.mem_append, List.mem_singleton, hac]
          constructor
          · rintro (⟨k', p, z, r⟩ | e)
            · exact ⟨k', p, by omega, r⟩
            · refine ⟨k, (a, c), by omega, hk, ?_, hf⟩
              rcases c1 with c1 | c1
              · left; exact ⟨c1.symm, by show c = h; omega⟩
              · right; exact ⟨c1.symm, by show a = h; omega⟩
          · rintro ⟨k', p, z, z1, z2, z3⟩
            by_cases e : k' = k
            · subst e
              rw [hk] at z1
              cases z1
              right
              rcases z2 with ⟨e1, e2⟩ | ⟨e1, e2⟩
              · have e1 : a = g := e1
                have e2 : c = h := e2
                omega
              · have e1 : c = g := e1
                have e2 : a = h := e2
                omega
            · exact .inl ⟨k', p, by omega, z1, z2, z3⟩
      | false =>
        walk_at "st"
        refine ⟨⟨_, rfl⟩, acc, rfl, by omega, fun h => ?_⟩
        rw [hac]
        constructor
        · rintro ⟨k', p, z, r⟩
          exact ⟨k', p, by omega, r⟩
        · rintro ⟨k', p, z, z1, z2, z3⟩
          by_cases e : k' = k
          · subst e
            rw [hf] at z3; cases z3
          · exact ⟨k', p, by omega, z1, z2, z3⟩
    · rw [decide_eq_false c1]
      walk_at "st"
      refine ⟨⟨_, rfl⟩, acc, rfl, by omega, fun h => ?_⟩
      rw [hac]
      constructor
      · rintro ⟨k', p, z, r⟩
        exact ⟨k', p, by omega, r⟩
      · rintro ⟨k', p, z, z1, z2, z3⟩
        by_cases e : k' = k
        · subst e
          rw [hk] at z1
          cases z1
          exfalso
          rcases z2 with ⟨e1, e2⟩ | ⟨e1, e2⟩
          · exact c1 (.inl e1.symm)
          · exact c1 (.inr e1.symm)
        · exact ⟨k', p, by omega, z1, z2, z3⟩
  · obtain ⟨⟨_, rfl⟩, acc, rfl, hal, hac⟩ := hI
    rw [List.length_range] at hal hac
    walk_at "st"
    refine do_sortI acc (lst_ptr Om.set_same) fun m hp hs => ?_
    refine ⟨ω, (Sub.refl ω).new hpf, q m (by rw [hp.length_eq]; omega) fun h => ?_⟩
    rw [hp.mem_iff, hac]
    constructor
    · rintro ⟨k, p, _, z1, z2, z3⟩
      exact ⟨k, p, z1, z2, z3⟩
    · rintro ⟨k, p, z1, z2, z3⟩
      exact ⟨k, p, (List.getElem?_eq_some_iff.mp z1).1, z1, z2, z3⟩
end
end Wr
set_option maxHeartbeats 4000000
/-! the law's own search; its look at stuck lots. -/
namespace Wr
open PySem PySem.Spec PyProof.Rows L2 Dl
local macro_rules
  | `(tactic| walk_at "len") => `(tactic| (intro ds ω R h; repeat (first | (obtain ⟨e, _⟩ := h; subst e; rfl) | (obtain ⟨_, h⟩ := h))))
  | `(tactic| walk_at "st1") => `(tactic| first
    | apply Exists.intro
    | refine And.intro rfl ?_ | refine iteT ?_ | refine iteF ?_
    | refine And.intro (lst_ptr (by assumption)) ?_ | refine And.intro (seq_ptr (by assumption)) ?_ | refine And.intro (dct_ptr (by assumption)) ?_
    | refine And.intro (lst_ptr Om.set_same) ?_ | refine And.intro (seq_ptr Om.set_same) ?_ | refine And.intro Om.set_same ?_
    | refine And.intro ⟨_, lst_ptr (by assumption)⟩ ?_ | refine And.intro ⟨_, lst_ptr Om.set_same⟩ ?_ | refine And.intro ⟨_, rfl⟩ ?_ | refine And.intro ⟨_, lst_ptr ((Om.set_ne (by assumption)).trans (by assumption))⟩ ?_
    | refine And.intro ((Om.set_ne (by assumption)).trans (by assumption)) ?_ | refine And.intro (lst_ptr ((Om.set_ne (by assumption)).trans (by assumption))) ?_
    | refine And.intro (by assumption) ?_ | refine And.intro (ix_map (by assumption)) ?_
    | refine And.intro (by omega) ?_
    | refine do_all (by rfl) ?_ | refine eq_nat ?_ | refine ne_nat ?_ | refine eq_nats ?_ | refine ne_nats ?_ | refine in_nats ?_ | refine nin_nats ?_)
  | `(tactic| walk_at "st") => `(tactic| repeat walk_at "st1")
section
variable {P : Program} {wo : World} {K : PySem.W.Frag} {mg : Str → Option Value} {base : Heap} {T : Tb}
def sp_law_joined : Dsp := fun ds ω R => ∃ (b : Book) (lot : List Nat) (g : Nat), ds = [bookD b, natsD lot, natD g] ∧ b.Ok ∧ g < b.rig.m ∧ ∀ gs, Region b lot g gs → R (natsD gs) ω
theorem sc_law_joined : FnScope ["_law_book", "_law_lot", "_law_g", "_law_found", "_law_work", "_law_h"] ["_law_book", "_law_lot", "_law_g"] (defScope s_law_joined) := ⟨rfl, rfl, rfl, by decide +kernel, rfl, by decide +kernel, by decide +kernel⟩
theorem D_law_joined (Z : Zp K mg base T) : Df P wo K mg base T "_law_joined" 4 sp_law_joined := by
  obtain ⟨⟨fd, F⟩, hm⟩ := Z.df 71 d_law_joined rfl rfl
  have D_law_next := D_law_next (P := P) (wo := wo) Z
  refine def_okS F sc_law_joined hm (fun _ _ _ _ _ _ us hl => match us, hl with | [_, _, _], _ => rfl) (by walk_at "len") fun cdv A outer st H E hr => ?_
  have nd := sc_law_joined.nd
  refine ⟨_, (ssc (spar 3 4 rfl nd (xac (xnew (xac (xv 2) xan)) (xac (xnew (xac (xv 2) xan)) xan)))
    (ssc (swhile PassesOwn.never (tne hr (xv 4) (xlst xan)) (ss1 (sfor PassesOwn.never rfl (xil (xcall D_law_next (hr.mono (by first | decide | omega)) (xac (xv 0) (xac (xv 1) (xac (xpop (xv 4)) xan))))) (xg 5 nd) (ss1 (sif (tnin hr (xv 5) (xv 3)) (ssc (sexpr (xappend (xv 3) (xac (xv 5) xan)))
    (ss1 (sexpr (xappend (xv 4) (xac (xv 5) xan))))) ssn)))))
    (ss1 (sret (xbi (bi_tuple Z.tuple) (xac (xbi (bi_sortedI Z.sorted) (xac (xv 3) xan)) xan)))))), fun ds ω R h => ?_⟩
  obtain ⟨b, lot, g, rfl, o, hg, q⟩ := h
  have hm := o.rig.m2
  walk_at "st"
  intro pm hpm
  walk_at "st"
  intro pw hpw
  walk_at "st"
  have hne : pw ≠ pm := fun z => by subst z; rw [Om.set_same] at hpw; cases hpw
  have hne' : pm ≠ pw := fun z => hne z.symm
  have hw0 : ω pw = none := by rw [Om.set_ne hne] at hpw; exact hpw
  refine ⟨fun m ρ' ω' => Hold <| ∃ ms ws u, ρ' = [some (bookD b), some (natsD lot), some (natD g), some (.ptr pm), some (.ptr pw), u] ∧ ω' pm = some (.lst (ms.map natD)) ∧ ω' pw = some (.lst (ws.map natD)) ∧ Sub ω ω' ∧ Met b lot g ms ws ∧ 2 * (4 - ms.length) + ws.length ≤ 20 ∧ m = 2 * (4 - ms.length) + ws.length,
    ⟨_, ⟨[g], [g], _, rfl, (Om.set_ne hne').trans Om.set_same, Om.set_same, ((Sub.refl ω).new hpm).put hw0, ⟨by simp, by simp, fun h hh => by rw [List.mem_singleton.mp hh]; exact .self, fun h hh => by rw [List.mem_singleton.mp hh]; exact hg, fun w hw => hw, fun h hh hn => absurd hh hn⟩, by simp, rfl⟩⟩, fun m ρ' ω' hI => ?_⟩
  obtain ⟨ms, ws, _, rfl, hk, hl, hs, hM, hwl, rfl⟩ := hI
  have hmlen := hM.len
  walk_at "st"
  refine ne_nil_ptr hl (cl_natm ws) (dep_natm ws) ?_
  by_cases hwn : ws = []
  · subst hwn
    walk_at "st"
    refine do_sortI ms (lst_ptr hk) fun gs hp hs2 => ?_
    walk_at "st"
    exact ⟨ω, hs, q gs ⟨le_ascN (hp.nodup_iff.mpr hM.nd) hs2, fun h => by rw [hp.mem_iff]; exact hM.done⟩⟩
  obtain ⟨wi, x, rfl⟩ := pop_last hwn
  rw [decide_eq_false hwn]
  have hl2 : ω' pw = some (.lst (wi.map natD ++ [natD x])) := by rw [hl, List.map_append]; rfl
  have hxm := hM.sub x (by simp)
  walk_at "st"
  intro hs6 hs6l hs6m
  walk_at "st"
  refine for_on hs6 natD (fun i ρ2 ω2 => Hold <| ∃ ms2 ws2 u, ρ2 = [some (bookD b), some (natsD lot), some (natD g), some (.ptr pm), some (.ptr pw), u] ∧ ω2 pm = some (.lst (ms2.map natD)) ∧ ω2 pw = some (.lst (ws2.map natD)) ∧ Sub ω ω2 ∧ ms2.Nodup ∧ g ∈ ms2 ∧ (∀ h ∈ ms2, Reach b lot g h) ∧ (∀ h ∈ ms2, h < b.rig.m) ∧ (∀ w ∈ ws2, w ∈ ms2) ∧ x ∈ ms2 ∧ (∀ h ∈ ms2, h ∉ ws2 → h ≠ x → ∀ h', Adj b lot h h' → h' ∈ ms2) ∧ (∀ h' ∈ hs6.take i, h' ∈ ms2) ∧ 2 * (4 - ms2.length) + ws2.length + 1 ≤ 2 * (4 - ms.length) + (wi ++ [x]).length ∧ 2 * (4 - ms2.length) + ws2.length ≤ 20)
    ⟨ms, wi, _, rfl, (Om.set_ne hne').trans hk, Om.set_same, hs.put hw0, hM.nd, hM.src, hM.reach, hM.lt, fun w hw => hM.sub w (List.mem_append_left _ hw), hxm, fun h hh hn hx2 => hM.all h hh (by
      intro z
      rcases List.mem_append.mp z with z | z
      · exact hn z
      · exact hx2 (List.mem_singleton.mp z)), by simp, by rw [List.length_append, List.length_singleton]; omega, by rw [List.length_append, List.length_singleton] at hwl; omega⟩ (fun i h' ρ2 ω2 hy hI => ?_) fun ρ2 ω2 hI => ?_
  · obtain ⟨ms2, ws2, _, rfl, hk2, hl2', hs2, n1, n2, n3, n4, n5, n6, n7, n8, n9, n10⟩ := hI
    have hadj : Adj b lot x h' := (hs6m h').mp (List.mem_of_getElem? hy)
    have hlt := (hadj.lt o.rig).2
    have hlen2 : ms2.length ≤ 4 := Nat.le_trans (nodup_len n1 n4) hm
    have l1 : (ms2.map natD).length < 100000 := by rw [List.length_map]; omega
    have l2 : (ws2.map natD).length < 100000 := by rw [List.length_map]; omega
    walk_at "st"
    refine nin_natm (seq_ptr hk2) ?_
    by_cases hin : h' ∈ ms2
    · rw [decide_eq_true hin]
      walk_at "st"
      refine ⟨ms2, ws2, _, rfl, hk2, hl2', hs2, n1, n2, n3, n4, n5, n6, n7, fun y hy2 => ?_, n9, n10⟩
      rw [take_next' hy] at hy2
      rcases List.mem_append.mp hy2 with hy2 | hy2
      · exact n8 y hy2
      · rw [List.mem_singleton.mp hy2]; exact hin
    · rw [decide_eq_false hin]
      walk_at "st"
      have n1' : (ms2 ++ [h']).Nodup := List.nodup_append.mpr ⟨n1, by simp, fun u hu v hv e => by
        have hv : v = h' := List.mem_singleton.mp hv
        subst e
        rw [hv] at hu
        exact hin hu⟩
      have n4' : ∀ h ∈ ms2 ++ [h'], h < b.rig.m := fun h hh => by
        rcases List.mem_append.mp hh with hh | hh
        · exact n4 h hh
        · rw [List.mem_singleton.mp hh]; exact hlt
      have hlen3 : (ms2 ++ [h']).length ≤ 4 := Nat.le_trans (nodup_len n1' n4') hm
      rw [List.length_append, List.length_singleton] at hlen3
      refine ⟨ms2 ++ [h'], ws2 ++ [h'], _, rfl, ?_, ?_, (hs2.put hpm).put hw0, n1', List.mem_append_left _ n2, fun h hh => ?_, n4', fun w hw => ?_, List.mem_append_left _ n6, fun h hh hnw hnx h2 ha => ?_, fun y hy2 => ?_, ?_, ?_⟩
      · rw [Om.set_ne hne', Om.set_same, List.map_append]; rfl
      · rw [Om.set_same, List.map_append]; rfl
      · rcases List.mem_append.mp hh with hh | hh
        · exact n3 h hh
        · rw [List.mem_singleton.mp hh]; exact (n3 x n6).step hadj
      · rcases List.mem_append.mp hw with hw | hw
        · exact List.mem_append_left _ (n5 w hw)
        · exact List.mem_append_right _ hw
      · rcases List.mem_append.mp hh with hh | hh
        · exact List.mem_append_left _ (n7 h hh (fun z => hnw (List.mem_append_left _ z)) hnx h2 ha)
        · exact absurd (List.mem_append_right _ hh) hnw
      · rw [take_next' hy] at hy2
        rcases List.mem_append.mp hy2 with hy2 | hy2
        · exact List.mem_append_left _ (n8 y hy2)
        · exact List.mem_append_right _ hy2
      · rw [List.length_append, List.length_append, List.length_singleton]; omega
      · rw [List.length_append, List.length_append, List.length_singleton]; omega
  · obtain ⟨ms2, ws2, _, rfl, hk2, hl2', hs2, n1, n2, n3, n4, n5, n6, n7, n8, n9, n10⟩ := hI
    rw [List.take_length] at n8
    have hlen2 : ms2.length ≤ 4 := Nat.le_trans (nodup_len n1 n4) hm
    refine ⟨2 * (4 - ms2.length) + ws2.length, by omega, ms2, ws2, _, rfl, hk2, hl2', hs2, ⟨n1, n2, n3, n4, n5, fun h hh hn h' ha => ?_⟩, n10, rfl⟩
    by_cases e : h = x
    · subst e
      exact n8 h' ((hs6m h').mpr ha)
    · exact n7 h hh hn e h' ha
def sp_law_is_stuck_lot : Dsp := fun ds ω R => ∃ (b : Book) (lot : List Nat) (g : Nat) (K : List Nat), ds = [bookD b, startDa lot g, natsD K] ∧ b.Ok ∧ LotOk b.rig lot ∧ g < b.rig.m ∧ StuckLot b lot g K ∧ R (.bl true) ω
theorem sc_law_is_stuck_lot : FnScope ["_law_book", "_law_start", "_law_lot", "_law_rig_here", "_law_inner", "_law_h"] ["_law_book", "_law_start", "_law_lot"] (defScope s_law_is_stuck_lot) := ⟨rfl, rfl, rfl, by decide +kernel, rfl, by decide +kernel, by decide +kernel⟩
theorem D_law_is_stuck_lot (Z : Zp K mg base T) : Df P wo K mg base T "_law_is_stuck_lot" 5 sp_law_is_stuck_lot := by
  obtain ⟨⟨fd, F⟩, hm⟩ := Z.df 73 d_law_is_stuck_lot rfl rfl
  have D_law_is_done := D_law_is_done (P := P) (wo := wo) Z
  have D_law_is_within := D_law_is_within (P := P) (wo := wo) Z
  have D_law_is_one_sign := D_law_is_one_sign (P := P) (wo := wo) Z
  have D_law_joined := D_law_joined (P := P) (wo := wo) Z
  refine def_ok F sc_law_is_stuck_lot hm (fun _ _ _ _ _ _ us hl => match us, hl with | [_, _, _], _ => rfl) (by walk_at "len") fun cdv A outer st H E hr => ?_
  have nd := sc_law_is_stuck_lot.nd
  refine ⟨_, (ssc (sasg (xtup (xac (xix (xv 0) xint) (xac (xix (xv 1) xint) xan))) (xgtp rfl (xgc (xg 3 nd) (xgc (xg 4 nd) xgn))))
    (ssc (sif (tw (twor (teq hr (xv 2) (xtup xan)) (twor (tnot (tval (xcall D_law_is_within (hr.mono (by first | decide | omega)) (xac (xv 2) (xac (xv 4) xan))))) (twor1 (tval (xcall D_law_is_done (hr.mono (by first | decide | omega)) (xac (xv 3) (xac (xv 2) xan)))))))) (ss1 (sret xbl)) ssn)
    (ss1 (sret (xeq hr (xlc (own := [("_law_h", 5)]) rfl nd (by rfl) (xit (xcall D_law_joined (hr.mono (by first | decide | omega)) (xac (xv 0) (xac (xv 2) (xac (xix (xv 1) xint) xan))))) (fun _ _ _ _ _ => (xg 5 nd)) (fun _ _ _ _ _ => (xt1 (tnot (tval (xcall D_law_is_one_sign (hr.mono (by first | decide | omega)) (xac (xv 3) (xac (xv 2) (xac (xv 5) xan)))))))) (fun _ _ _ _ _ => (xv 5))) (xlst xan)))))), fun ds ω R h => ?_⟩
  obtain ⟨b, lot, g, S, rfl, o, hl, hg, hS, q⟩ := h
  have o1 := o.rig
  have hK := hS.ok
  have hKl := hK.len o1
  have hSn := hS.ne o1
  walk_at "st"
  refine eq_nilt ?_
  rw [decide_eq_false hSn]
  walk_at "st"
  rw [within_iff.mpr hS.sub]
  walk_at "st"
  rw [hS.bare]
  walk_at "st"
  intro gs hr
  have hgs : ∀ h ∈ gs, h < b.rig.m ∧ oneSign b.rig S h = true := fun h hh => by
    have h1 := ((hr.2 h).mp hh).lt o1 hg
    exact ⟨h1, (oneSign_iff o1 hK h1).mpr (hS.one h ((hr.2 h).mp hh))⟩
  have hgl : gs.length ≤ 100 := Nat.le_trans (asc_len hr.1 fun h hh => (hgs h hh).1) (by have := o1.m2; omega)
  walk_at "st"
  refine lc_filter gs natD (fun h => !oneSign b.rig S h) (by omega) (fun h ω' Q1 Q2 hh hs h1 h2 => by
    obtain ⟨g1, g2⟩ := hgs h hh
    walk_at "st"
    cases e : oneSign b.rig S h with
    | true => exact iteF (h2 (by rw [e]; rfl))
    | false => exact iteT (by walk_at "st"; exact h1 (by rw [e]; rfl))) ?_
  walk_at "st"
  refine eq_nil (cl_natm _) (dep_natm _) ?_
  rw [none_all, List.all_eq_true.mpr fun h hh => (hgs h hh).2]
  exact q
end
end Wr
set_option maxHeartbeats 4000000
/-! the law's own runs of a code. -/
namespace Wr
open PySem PySem.Spec PyProof.Rows L2 Dl
local macro_rules
  | `(tactic| walk_at "len") => `(tactic| (intro ds ω R h; repeat (first | (obtain ⟨e, _⟩ := h; subst e; rfl) | (obtain ⟨_, h⟩ := h))))
  | `(tactic| walk_at "st1") => `(tactic| first
    | apply Exists.intro
    | refine And.intro rfl ?_ | refine iteT ?_ | refine iteF ?_
    | refine And.intro (lst_ptr (by assumption)) ?_ | refine And.intro (seq_ptr (by assumption)) ?_ | refine And.intro (dct_ptr (by assumption)) ?_
    | refine And.intro (lst_ptr Om.set_same) ?_ | refine And.intro (seq_ptr Om.set_same) ?_ | refine And.intro Om.set_same ?_
    | refine And.intro ⟨_, lst_ptr (by assumption)⟩ ?_ | refine And.intro ⟨_, lst_ptr Om.set_same⟩ ?_ | refine And.intro ⟨_, rfl⟩ ?_ | refine And.intro ⟨_, lst_ptr ((Om.set_ne (by assumption)).trans (by assumption))⟩ ?_
    | refine And.intro ((Om.set_ne (by assumption)).trans (by assumption)) ?_ | refine And.intro (lst_ptr ((Om.set_ne (by assumption)).trans (by assumption))) ?_
    | refine And.intro (by assumption) ?_ | refine And.intro (ix_map (by assumption)) ?_
    | refine And.intro (by omega) ?_
    | refine do_all (by rfl) ?_ | refine eq_nat ?_ | refine ne_nat ?_ | refine eq_nats ?_ | refine ne_nats ?_ | refine in_nats ?_ | refine nin_nats ?_)
  | `(tactic| walk_at "st") => `(tactic| repeat walk_at "st1")
section
variable {P : Program} {wo : World} {K : PySem.W.Frag} {mg : Str → Option Value} {base : Heap} {T : Tb}
theorem at_len {l : List Nat} {g : Nat} (h : l.getLast? = some g) : atI (l.map natD) (((l.map natD).length : Int) - 1) = some (natD g) := by
  obtain ⟨i, rfl⟩ : ∃ i, l = i ++ [g] := by
    cases l with
    | nil => cases h
    | cons x l =>
      rw [List.getLast?_eq_some_getLast (by simp)] at h
      exact ⟨(x :: l).dropLast, by rw [← Option.some.inj h]; exact (List.dropLast_concat_getLast (by simp)).symm⟩
  rw [List.length_map, List.length_append, List.length_singleton]
  rw [show ((i.length + 1 : Nat) : Int) - 1 = ((i.length : Nat) : Int) from by omega]
  exact ix_map (by simp)
theorem Steps.at {b : Book} {lot : List Nat} {x : Nat} {w way w' : List Nat} (s : Steps b lot x w way w') : ∀ {j h : Nat}, way[j]? = some h → Move b lot x (w ++ way.take j) h := by
  induction s with
  | nil => intro j h e; simp at e
  | cons m _ ih =>
    intro j h e
    cases j with
    | zero =>
      simp at e
      subst e
      rw [List.take_zero, List.append_nil]
      exact m
    | succ j =>
      have e2 := ih (j := j) (h := h) (by simpa using e)
      rw [List.append_assoc] at e2
      exact e2
theorem Steps.lt {b : Book} (o : b.rig.Ok) {lot : List Nat} {x : Nat} {w way w' : List Nat} (s : Steps b lot x w way w') (h : ∀ g ∈ w, g < b.rig.m) : ∀ g ∈ w', g < b.rig.m := by
  induction s with
  | nil => exact h
  | cons m _ ih =>
    refine ih fun g hg => ?_
    rcases List.mem_append.mp hg with hg | hg
    · exact h g hg
    · rw [List.mem_singleton.mp hg]
      obtain ⟨_, _, a⟩ := m
      exact (a.lt o).2
theorem row_cases {b : Book} {lot walk : List Nat} {x k d : Nat} {L : List Da} {u : Da} (hu : Unf L k u) (hg : Good b lot x walk u) (ht : TOk BJ d u) : ∃ (s : Str) (way : List Nat) (rest : Da) (walk' : List Nat), L[k]? = some (.tup [.str s, natsD way, rest]) ∧ Steps b lot x walk way walk' ∧ way.length ≤ 10 * d ∧
    ((s = "cure" ∧ ∃ c, rest = natD c ∧ c ∈ b.rig.cu x) ∨ (s = "look" ∧ ∃ (rs : List (Nat × Nat)) (g k' d' : Nat) (u' : Da) (more : List (Nat × Nat)), rest = .tup (rs.map fun r => Da.tup [natD r.1, natD r.2]) ∧ rs.length ≤ 10 ∧ walk'.getLast? = some g ∧ (rs.filter fun r => decide (r.1 = b.rig.sg g x)) = (b.rig.sg g x, k') :: more ∧ Unf L k' u' ∧ TOk BJ d' u' ∧ d' + 1 ≤ d ∧ Good b lot x walk' u' ∧ sizeOf u' < sizeOf u)) := by
  cases hu with
  | @cure _ way c e =>
    obtain ⟨walk', s1, hc⟩ := hg.cure_inv rfl
    refine ⟨_, way, _, walk', e, s1, ?_, .inl ⟨rfl, c, rfl, hc⟩⟩
    generalize hz : cureD way c = u at ht
    cases ht with
    | cure hw => obtain ⟨rfl, rfl⟩ := cureD_inj hz; exact hw
    | look _ _ _ _ => exact (look_ne_cure hz.symm).elim
  | @look _ way rs e hs =>
    obtain ⟨walk', g, t', s1, s2, s3, s4⟩ := hg.look_inv rfl
    have hform : ∃ d', d = d' + 1 ∧ way.length ≤ 10 * d ∧ rs.length ≤ 10 ∧ ∀ p ∈ (rs.map fun r => (r.1, r.2.2)), TOk BJ d' p.2 := by
      generalize hz : lookD way (rs.map fun r => (r.1, r.2.2)) = u at ht
      cases ht with
      | cure hw => exact (look_ne_cure hz).elim
      | @look d' way' bs' hw hne hb hch =>
        obtain ⟨rfl, e2⟩ := lookD_inj hz
        subst e2
        rw [List.length_map] at hb
        exact ⟨d', rfl, hw, hb, hch⟩
    obtain ⟨d', rfl, hw, hb, hch⟩ := hform
    rw [← List.head?_filter, List.filter_map, List.head?_map] at s3
    have hh : ∃ r more, (rs.filter fun r => decide (r.1 = b.rig.sg g x)) = r :: more ∧ (r.1, r.2.2) = (b.rig.sg g x, t') := by
      have e0 : (rs.filter ((fun p : Nat × Da => decide (p.1 = b.rig.sg g x)) ∘ fun r => (r.1, r.2.2))) = rs.filter fun r => decide (r.1 = b.rig.sg g x) := rfl
      rw [e0] at s3
      cases q : rs.filter fun r => decide (r.1 = b.rig.sg g x) with
      | nil => rw [q] at s3; cases s3
      | cons r more => rw [q] at s3; exact ⟨r, more, rfl, Option.some.inj s3⟩
    obtain ⟨r, more, hf, er⟩ := hh
    have hrm : r ∈ rs := (List.mem_filter.mp (show r ∈ rs.filter fun r => decide (r.1 = b.rig.sg g x) by rw [hf]; exact List.mem_cons_self)).1
    have e1 : r.1 = b.rig.sg g x := congrArg (·.1) er
    have e2 : r.2.2 = t' := congrArg (·.2) er
    refine ⟨_, way, _, walk', by rw [e]; rfl, s1, hw, .inr ⟨rfl, rs.map fun r => (r.1, r.2.1), g, r.2.1, d', t', more.map fun r => (r.1, r.2.1), ?_, by rw [List.length_map]; exact hb, s2, ?_, ?_, ?_, Nat.le_refl _, s4, ?_⟩⟩
    · rw [List.map_map, List.map_map]; rfl
    · rw [List.filter_map]
      have e0 : (rs.filter ((fun r : Nat × Nat => decide (r.1 = b.rig.sg g x)) ∘ fun r => (r.1, r.2.1))) = rs.filter fun r => decide (r.1 = b.rig.sg g x) := rfl
      rw [e0, hf, List.map_cons, e1]
    · rw [← e2]; exact hs r hrm
    · rw [← e2]; exact hch (r.1, r.2.2) (List.mem_map.mpr ⟨r, hrm, rfl⟩)
    · rw [← e2]
      exact size_br (p := (r.1, r.2.2)) (List.mem_map.mpr ⟨r, hrm, rfl⟩)
def sp_law_came_by : Dsp := fun ds ω R => ∃ (b : Book) (lot : List Nat) (g x : Nat) (L : List Da), ds = [bookD b, .tup L, startDa lot g, natD x] ∧ b.Ok ∧ LotOk b.rig lot ∧ g < b.rig.m ∧ x ∈ lot ∧ CodeOk b lot g L ∧ ∀ (walk : List Nat) (c : Nat), c ∈ b.rig.cu x → R (.tup [natsD walk, .tup [.str "cure", natD c]]) ω
theorem sc_law_came_by : FnScope ["_law_book", "_law_rows", "_law_start", "_law_x", "_law_rig_here", "_law_at", "_law_walk", "_law_turn", "_law_row", "_law_h", "_law_sign", "_law_some_here", "_law_move", "_law_bar_here", "_law_one_here"] ["_law_book", "_law_rows", "_law_start", "_law_x"] (defScope s_law_came_by) := ⟨rfl, rfl, rfl, by decide +kernel, rfl, by decide +kernel, by decide +kernel⟩
theorem D_law_came_by (Z : Zp K mg base T) : Df P wo K mg base T "_law_came_by" 3 sp_law_came_by := by
  obtain ⟨⟨fd, F⟩, hm⟩ := Z.df 75 d_law_came_by rfl rfl
  have D_law_move_of := D_law_move_of (P := P) (wo := wo) Z
  have D_law_bar_of := D_law_bar_of (P := P) (wo := wo) Z
  have D_law_agree := D_law_agree (P := P) (wo := wo) Z
  refine def_okS F sc_law_came_by hm (fun _ _ _ _ _ _ us hl => match us, hl with | [_, _, _, _], _ => rfl) (by walk_at "len") fun cdv A outer st H E hr => ?_
  have nd := sc_law_came_by.nd
  refine ⟨_, (ssc (spar3 4 5 6 rfl nd (xac (xix (xv 0) xint) (xac (xsub (xbi (bi_len Z.len) (xac (xv 1) xan)) xint) (xac (xnew (xac (xix (xv 2) xint) xan)) xan))))
    (ssc (sfor PassesOwn.never rfl (xir Z.range (xbi (bi_len Z.len) (xac (xv 1) xan))) (xg 7 nd) (ssc (sset 8 nd (xix (xv 1) (xv 5)))
    (ssc (sfor PassesOwn.never rfl (xit (xix (xv 8) xint)) (xg 9 nd) (ssc (sset 12 nd (xcall D_law_move_of (hr.mono (by first | decide | omega)) (xac (xv 4) (xac (xix (xv 6) (xsub (xbi (bi_len Z.len) (xac (xv 6) xan)) xint)) (xac (xv 9) xan)))))
    (ssc (sif (tisN (xv 12) xnon) (ss1 (sret (xtup (xac (xbi (bi_tuple Z.tuple) (xac (xv 6) xan)) (xac (xtup (xac xstr (xac (xv 9) xan))) xan))))) ssn)
    (ssc (sset 13 nd (xcall D_law_bar_of (hr.mono (by first | decide | omega)) (xac (xv 0) (xac (xcall D_law_agree (hr.mono (by first | decide | omega)) (xac (xv 4) (xac (xix (xv 2) xint) (xac (xv 3) (xac (xv 6) xan))))) (xac (xv 12) xan)))))
    (ssc (sif (tnotN (xv 13) xnon) (ss1 (sret (xtup (xac (xbi (bi_tuple Z.tuple) (xac (xv 6) xan)) (xac (xtup (xac xstr (xac (xv 13) xan))) xan))))) ssn)
    (ss1 (sexpr (xappend (xv 6) (xac (xv 9) xan)))))))))
    (ssc (sif (teq hr (xix (xv 8) xint) xstr) (ss1 (sret (xtup (xac (xbi (bi_tuple Z.tuple) (xac (xv 6) xan)) (xac (xtup (xac xstr (xac (xix (xv 8) xint) xan))) xan))))) ssn)
    (ssc (sset 10 nd (xix (xix (xix (xv 4) xint) (xix (xv 6) (xsub (xbi (bi_len Z.len) (xac (xv 6) xan)) xint))) (xv 3)))
    (ssc (ssetLc 11 (own := [("_law_one_here", 14)]) rfl nd (by rfl) (xit (xix (xv 8) xint)) (fun _ _ _ _ _ => (xg 14 nd)) (fun _ _ _ _ _ => (xt1 (teq hr (xix (xv 14) xint) (xv 10)))) (fun _ _ _ _ _ => (xix (xv 14) xint)))
    (ssc (sif (teq hr (xv 11) (xlst xan)) (ss1 (sret (xtup (xac (xbi (bi_tuple Z.tuple) (xac (xv 6) xan)) (xac (xtup (xac xstr (xac (xv 10) xan))) xan))))) ssn)
    (ss1 (sset 5 nd (xix (xv 11) xint))))))))))
    (ss1 (sret (xtup (xac (xbi (bi_tuple Z.tuple) (xac (xv 6) xan)) (xac xnon xan))))))), fun ds ω R h => ?_⟩
  obtain ⟨b, lot, g, x, L, rfl, o, hl, hg, hx, ⟨t, i0, ht, hgood, hnum⟩, q⟩ := h
  have o1 := o.rig
  have hxn := hl.2 x hx
  have hlast := hnum.last rfl
  have hLl : L.length ≤ 90000 := by have := hnum.len; have e : nodes 5 = 11111 := rfl; simp only [List.length_nil] at this; omega
  have e0 : Da.int ((L.length : Int) - 1) = natD i0 := by rw [show ((L.length : Int) - 1) = ((i0 : Nat) : Int) from by omega]
  walk_at "st"
  intro pw hpw
  walk_at "st"
  rw [Int.toNat_natCast, rgD_nat]
  refine for_on (List.range L.length) natD (fun i ρ' ω' => Hold <| ∃ (k d : Nat) (u : Da) (walk vis : List Nat) (s7 s8 s9 s10 s11 s12 s13 s14 : Option Da), ρ' = [some (bookD b), some (.tup L), some (startDa lot g), some (natD x), some (rigD b.rig), some (natD k), some (.ptr pw), s7, s8, s9, s10, s11, s12, s13, s14] ∧ ω' = ω.set pw (.lst (walk.map natD)) ∧ Unf L k u ∧ TOk BJ d u ∧ d ≤ 5 ∧ Good b lot x walk u ∧ walk.length + 50 * d ≤ 251 ∧ (∀ h ∈ walk, h < b.rig.m) ∧ vis.length = i ∧ vis.Nodup ∧ (∀ j ∈ vis, ∃ v, Unf L j v ∧ sizeOf u < sizeOf v))
    ⟨i0, 5, t, [g], [], _, _, _, _, _, _, _, _, by rw [← e0]; rfl, rfl, hnum.unf, ht, Nat.le_refl _, hgood lot x [g] hx rfl (fun y hy => (mem_agree.mp hy).1), by simp, fun h hh => by rw [List.mem_singleton.mp hh]; exact hg, rfl, .nil, fun j hj => by cases hj⟩ (fun i i' ρ' ω' hi hI => ?_) fun ρ' ω' hI => ?_
  · obtain ⟨k, d, u, walk, vis, _, _, _, _, _, _, _, _, rfl, rfl, hu, htu, hd5, hgu, hwl, hwm, hvl, hvn, hvs⟩ := hI
    obtain ⟨s, way, rest, walk', hrow, hst, hwayl, hcase⟩ := row_cases hu hgu htu
    have hw' := hst.walk
    have ea : atI L ((k : Nat) : Int) = some (.tup [.str s, natsD way, rest]) := atI_nat hrow
    walk_at "st"
    refine for_on way natD (fun j ρ2 ω2 => Hold <| ∃ (s9 s12 s13 : Option Da) , ρ2 = [some (bookD b), some (.tup L), some (startDa lot g), some (natD x), some (rigD b.rig), some (natD k), some (.ptr pw), some (natD i'), some (.tup [.str s, natsD way, rest]), s9, _, _, s12, s13, _] ∧ ω2 = ω.set pw (.lst ((walk ++ way.take j).map natD)))
      ⟨_, _, _, rfl, by rw [List.take_zero, List.append_nil]⟩ (fun j h ρ2 ω2 hh hJ => ?_) fun ρ2 ω2 hJ => ?_
    · obtain ⟨_, _, _, rfl, rfl⟩ := hJ
      obtain ⟨gl, hgl, k2, p, hk2, hends, hfree⟩ := hst.at hh
      have hk2l := (List.getElem?_eq_some_iff.mp hk2).1
      have hbar := barAt_none.mpr hfree
      have eal := at_len hgl
      have hwm2 : ∀ h ∈ walk ++ way.take j, h < b.rig.m := fun h hh2 => by
        refine hst.lt o1 hwm h ?_
        rw [hw']
        rcases List.mem_append.mp hh2 with z | z
        · exact List.mem_append_left _ z
        · exact List.mem_append_right _ (List.mem_of_mem_take z)
      have hwl2 : (walk ++ way.take j).length ≤ 1000 := by
        rw [List.length_append, List.length_take]; omega
      have hwl3 : ((walk ++ way.take j).map natD).length < 100000 := by rw [List.length_map]; omega
      have hcell : (ω.set pw (.lst ((walk ++ way.take j).map natD))) pw = some (.lst ((walk ++ way.take j).map natD)) := Om.set_same
      walk_at "st"
      rw [hbar]
      walk_at "st"
      refine ⟨_, _, _, rfl, ?_⟩
      rw [Om.set_set, take_next' hh, ← List.append_assoc, List.map_append (l₁ := walk ++ way.take j)]
      rfl
    · obtain ⟨_, _, _, rfl, rfl⟩ := hJ
      rw [List.take_length, ← hw']
      rcases hcase with ⟨rfl, c, rfl, hc⟩ | ⟨rfl, rs, g2, k', d', u', more, rfl, hrl, hg2, hflt, hu', htu', hd', hgu', hsz⟩
      · walk_at "st"
        refine do_eq (P := True) rfl rfl (Nat.zero_le _) ⟨fun _ => trivial, fun _ => rfl⟩ ?_
        rw [decide_eq_true trivial]
        walk_at "st"
        exact ⟨ω, (Sub.refl ω).new hpw, q walk' c hc⟩
      · walk_at "st"
        refine do_eq (P := False) rfl rfl (Nat.zero_le _) ⟨fun z => (by cases z), fun z => z.elim⟩ ?_
        rw [decide_eq_false (fun z => z)]
        have eal := at_len hg2
        have hg2m : g2 < b.rig.m := hst.lt o1 hwm g2 (List.mem_of_getLast? hg2)
        obtain ⟨row, e1, e2⟩ := o1.sign hg2m hxn
        have hcell : (ω.set pw (.lst (walk'.map natD))) pw = some (.lst (walk'.map natD)) := Om.set_same
        walk_at "st"
        refine lc_on rs (fun r => Da.tup [natD r.1, natD r.2]) (fun r => if decide (r.1 = b.rig.sg g2 x) = true then some (natD r.2) else none) (by omega) (fun r ω' Q1 Q2 hr hs h1 h2 => by
          walk_at "st"
          cases e : decide (r.1 = b.rig.sg g2 x) with
          | true => exact iteT (by walk_at "st"; exact h1 _ (by rw [if_pos e]))
          | false => exact iteF (h2 (by rw [if_neg (by rw [e]; decide)]))) ?_
        have ef : (rs.filterMap fun r => if decide (r.1 = b.rig.sg g2 x) = true then some (natD r.2) else none) = (k' :: more.map (·.2)).map natD := by
          rw [fm_ite (fun r : Nat × Nat => decide (r.1 = b.rig.sg g2 x)) (fun r : Nat × Nat => natD r.2), hflt, List.map_cons, List.map_cons, List.map_map]
          rfl
        rw [ef]
        walk_at "st"
        refine eq_nil (cl_natm _) (dep_natm _) ?_
        rw [decide_eq_false (by simp)]
        have ea0 : atI ((k' :: more.map (·.2)).map natD) 0 = some (natD k') := ix_map (i := 0) rfl
        walk_at "st"
        refine ⟨k', d', u', walk', k :: vis, _, _, _, _, _, _, _, _, rfl, rfl, hu', htu', by omega, hgu', ?_, hst.lt o1 hwm, by rw [List.length_cons, hvl], ?_, fun j hj => ?_⟩
        · rw [hw', List.length_append]; omega
        · refine List.nodup_cons.mpr ⟨fun z => ?_, hvn⟩
          obtain ⟨v, v1, v2⟩ := hvs k z
          rw [v1.det hu] at v2
          exact absurd v2 (Nat.lt_irrefl _)
        · rcases List.mem_cons.mp hj with e | hj
          · subst e; exact ⟨u, hu, hsz⟩
          · obtain ⟨v, v1, v2⟩ := hvs j hj
            exact ⟨v, v1, by omega⟩
  · obtain ⟨k, d, u, walk, vis, _, _, _, _, _, _, _, _, rfl, rfl, hu, htu, hd5, hgu, hwl, hwm, hvl, hvn, hvs⟩ := hI
    rw [List.length_range] at hvl
    have nd2 : (k :: vis).Nodup := List.nodup_cons.mpr ⟨fun z => by
      obtain ⟨v, v1, v2⟩ := hvs k z
      rw [v1.det hu] at v2
      exact absurd v2 (Nat.lt_irrefl _), hvn⟩
    have := nodup_len (n := L.length) nd2 fun j hj => by
      rcases List.mem_cons.mp hj with e | hj
      · rw [e]; exact hu.lt
      · obtain ⟨v, v1, _⟩ := hvs j hj
        exact v1.lt
    rw [List.length_cons, hvl] at this
    exact absurd this (by omega)
def sp_law_cures_each : Dsp := fun ds ω R => ∃ (b : Book) (lot : List Nat) (g : Nat) (L : List Da), ds = [bookD b, .tup L, startDa lot g] ∧ b.Ok ∧ LotOk b.rig lot ∧ g < b.rig.m ∧ CodeOk b lot g L ∧ R (.bl true) ω
theorem sc_law_cures_each : FnScope ["_law_book", "_law_rows", "_law_start", "_law_x", "_law_last"] ["_law_book", "_law_rows", "_law_start"] (defScope s_law_cures_each) := ⟨rfl, rfl, rfl, by decide +kernel, rfl, by decide +kernel, by decide +kernel⟩
theorem D_law_cures_each (Z : Zp K mg base T) : Df P wo K mg base T "_law_cures_each" 4 sp_law_cures_each := by
  obtain ⟨⟨fd, F⟩, hm⟩ := Z.df 76 d_law_cures_each rfl rfl
  have D_law_came_by := D_law_came_by (P := P) (wo := wo) Z
  refine def_ok F sc_law_cures_each hm (fun _ _ _ _ _ _ us hl => match us, hl with | [_, _, _], _ => rfl) (by walk_at "len") fun cdv A outer st H E hr => ?_
  have nd := sc_law_cures_each.nd
  refine ⟨_, (ssc (sfor PassesOwn.never rfl (xit (xix (xv 2) xint)) (xg 3 nd) (ssc (sset 4 nd (xix (xcall D_law_came_by (hr.mono (by first | decide | omega)) (xac (xv 0) (xac (xv 1) (xac (xv 2) (xac (xv 3) xan))))) xint))
    (ss1 (sif (tw (twor (tisN (xv 4) xnon) (twor (tne hr (xix (xv 4) xint) xstr) (twor1 (tnin hr (xix (xv 4) xint) (xix (xix (xix (xv 0) xint) xint) (xv 3))))))) (ss1 (sret xbl)) ssn))))
    (ss1 (sret xbl))), fun ds ω R h => ?_⟩
  obtain ⟨b, lot, g, L, rfl, o, hl, hg, hL, q⟩ := h
  have o1 := o.rig
  walk_at "st"
  refine for_on lot natD (fun i ρ' ω' => Hold <| (∃ u v, ρ' = [some (bookD b), some (.tup L), some (startDa lot g), u, v]) ∧ ω' = ω) ⟨⟨_, _, rfl⟩, rfl⟩ (fun i x ρ' ω' hx hI => ?_) fun ρ' ω' hI => ?_
  · obtain ⟨⟨_, _, rfl⟩, rfl⟩ := hI
    have hxl := List.mem_of_getElem? hx
    have e2 := o1.cure (hl.2 x hxl)
    walk_at "st"
    intro walk c hc
    walk_at "st"
    refine do_ne (P := True) rfl rfl (Nat.zero_le _) ⟨fun _ => trivial, fun _ => rfl⟩ ?_
    rw [decide_eq_true trivial]
    walk_at "st"
    rw [decide_eq_true hc]
    walk_at "st"
    exact ⟨⟨_, _, rfl⟩, rfl⟩
  · obtain ⟨⟨_, _, rfl⟩, rfl⟩ := hI
    walk_at "st"
    exact q
end
end Wr
set_option maxHeartbeats 2000000
/-! The game: pairs of a setting and a lot. -/
namespace Wr
open PySem PySem.Spec PyProof.Rows L2 Dl
abbrev Pr := Nat × List Nat
theorem partD_inj (p q : Pr) (h : partD p = partD q) : p = q := by
  have e := Da.tup.inj h
  injection e with e1 e2
  injection e2 with e2 _
  exact Prod.ext (natD_inj e1) (natsD_inj e2)
theorem partD_cl (p : Pr) : (partD p).cl = true := by
  show (true && ((natsD p.2).cl && true)) = true
  rw [cl_nats]; rfl
theorem partD_dep (p : Pr) : (partD p).dep ≤ 2 := by
  have := dep_nats p.2
  show max 0 (max (natsD p.2).dep 0) + 1 ≤ 2
  omega
theorem cl_parts (l : List Pr) : clAll (l.map partD) = true := clAll_map fun _ _ => partD_cl _
theorem dep_parts (l : List Pr) : depAll (l.map partD) ≤ 50 := depAll_map fun _ _ => Nat.le_trans (partD_dep _) (by decide)
structure Legit (b : Book) (p : Pr) : Prop where
  lt : p.1 < b.rig.m
  ok : LotOk b.rig p.2
  ne : p.2 ≠ []
  one : oneSign b.rig p.2 p.1 = true
/-- ascending lists of numbers from a, below a + k -/
def subl : Nat → Nat → List (List Nat)
  | _, 0 => [[]]
  | a, k + 1 => subl (a + 1) k ++ (subl (a + 1) k).map (a :: ·)
theorem mem_subl : ∀ (k a : Nat) (l : List Nat), Asc l → (∀ x ∈ l, a ≤ x ∧ x < a + k) → l ∈ subl a k
  | 0, a, l, _, h => by
    cases l with
    | nil => simp [subl]
    | cons x l => have := h x List.mem_cons_self; omega
  | k + 1, a, l, ha, h => by
    unfold subl
    rw [List.mem_append]
    cases l with
    | nil => exact .inl (mem_subl k (a + 1) [] .nil (by simp))
    | cons x l =>
      obtain ⟨h1, h2⟩ := List.pairwise_cons.mp ha
      have hx := h x List.mem_cons_self
      have hl : ∀ y ∈ l, x + 1 ≤ y ∧ y < a + (k + 1) := fun y hy => ⟨h1 y hy, (h y (List.mem_cons_of_mem _ hy)).2⟩
      by_cases e : x = a
      · subst e
        exact .inr (List.mem_map.mpr ⟨l, mem_subl k (x + 1) l h2 fun y hy => by have := hl y hy; omega, rfl⟩)
      · refine .inl (mem_subl k (a + 1) (x :: l) ha fun y hy => ?_)
        rcases List.mem_cons.mp hy with e2 | hy
        · subst e2; omega
        · have := hl y hy; omega
def allPr : List Pr := (List.range 4).flatMap fun h => (subl 0 4).map fun l => (h, l)
theorem allPr_len : allPr.length = 64 := by decide +kernel
section
variable {b : Book} {lot : List Nat} {g h : Nat}
theorem Legit.mem (o : b.rig.Ok) {p : Pr} (l : Legit b p) : p ∈ allPr := by
  unfold allPr
  rw [List.mem_flatMap]
  have := o.m2
  have := o.n2
  have := l.lt
  exact ⟨p.1, List.mem_range.mpr (by omega), List.mem_map.mpr ⟨p.2, mem_subl 4 0 p.2 l.ok.1 fun x hx => by have := l.ok.2 x hx; omega, rfl⟩⟩
theorem legit_len (o : b.rig.Ok) {ps : List Pr} (nd : ps.Nodup) (h : ∀ p ∈ ps, Legit b p) : ps.length ≤ 64 := by
  rw [← allPr_len]
  exact nodup_sub_len ps allPr nd fun p hp => (h p hp).mem o
theorem parts_sub (o : b.rig.Ok) (l : LotOk b.rig lot) (hg : g < b.rig.m) {s : Pr} (hs : s ∈ parts b.rig lot g) : ∀ x ∈ s.2, x ∈ lot := fun x hx => by
  obtain ⟨_, e⟩ := (mem_parts o l hg).mp hs
  rw [e] at hx
  exact (mem_part.mp hx).1
theorem parts_legit (o : b.rig.Ok) (l : LotOk b.rig lot) (hg : g < b.rig.m) {s : Pr} (hs : s ∈ parts b.rig lot g) : Legit b (g, s.2) := by
  obtain ⟨⟨x, hx, ex⟩, e⟩ := (mem_parts o l hg).mp hs
  have ok : LotOk b.rig s.2 := by rw [e]; exact l.part
  refine ⟨hg, ok, fun z => ?_, (oneSign_iff o ok hg).mpr fun y hy z hz => ?_⟩
  · have z : s.2 = [] := z
    have : x ∈ s.2 := by rw [e]; exact mem_part.mpr ⟨hx, ex⟩
    rw [z] at this; cases this
  · rw [e] at hy hz
    rw [(mem_part.mp hy).2, (mem_part.mp hz).2]
theorem parts_one (o : b.rig.Ok) (l : LotOk b.rig lot) (hg : g < b.rig.m) (h1 : oneSign b.rig lot g = true) {s : Pr} (hs : s ∈ parts b.rig lot g) : s.2 = lot := by
  obtain ⟨⟨x, hx, ex⟩, e⟩ := (mem_parts o l hg).mp hs
  rw [e]
  unfold part
  refine List.filter_eq_self.mpr fun y hy => decide_eq_true ?_
  rw [(oneSign_iff o l hg).mp h1 y hy x hx, ex]
theorem parts_less (o : b.rig.Ok) (l : LotOk b.rig lot) (hg : g < b.rig.m) (h1 : oneSign b.rig lot g = false) {s : Pr} (hs : s ∈ parts b.rig lot g) : s.2.length < lot.length := by
  obtain ⟨_, e⟩ := (mem_parts o l hg).mp hs
  rw [e]
  unfold part
  refine Nat.lt_of_le_of_ne (List.length_filter_le _ _) fun e2 => ?_
  have all := List.length_filter_eq_length_iff.mp e2
  have : oneSign b.rig lot g = true := (oneSign_iff o l hg).mpr fun x hx y hy => by
    rw [of_decide_eq_true (all x hx), of_decide_eq_true (all y hy)]
  rw [h1] at this; cases this
def Led (b : Book) (W : List Pr) (p : Pr) : Prop := ∃ h, Adj b p.2 p.1 h ∧ ∀ s ∈ parts b.rig p.2 h, (h, s.2) ∈ W
theorem led_won (o : b.rig.Ok) {W : List Pr} {p : Pr} (l : Legit b p) (hw : ∀ q ∈ W, ¬ Stuck b q.2 q.1) (hl : Led b W p) : ¬ Stuck b p.2 p.1 := fun hs => by
  obtain ⟨h, ha, hp⟩ := hl
  obtain ⟨s, h1, h2⟩ := stuck_down o l.ok l.lt (Reach.self.step ha) hs
  exact hw _ (hp s h1) h2
structure GameEnd (b : Book) (lot : List Nat) (g : Nat) (ps W : List Pr) : Prop where
  legit : ∀ p ∈ ps, Legit b p
  first : ∀ s ∈ parts b.rig lot g, (g, s.2) ∈ ps
  closed : ∀ p ∈ ps, ∀ h, Adj b p.2 p.1 h → ∀ s ∈ parts b.rig p.2 h, (h, s.2) ∈ ps
  won : ∀ p ∈ W, ¬ Stuck b p.2 p.1
  isDone : ∀ p ∈ ps, done b.rig p.2 = true → p ∈ W
  fix : ∀ p ∈ ps, p ∉ W → ¬ Led b W p
theorem GameEnd.all (o : b.rig.Ok) {ps W : List Pr} (G : GameEnd b lot g ps W) : ∀ (n : Nat) (p : Pr), p ∈ ps → p.2.length ≤ n → ¬ Stuck b p.2 p.1 → p ∈ W := by
  intro n
  induction n with
  | zero =>
    intro p hp hn _
    exact absurd (List.eq_nil_of_length_eq_zero (Nat.le_zero.mp hn)) (G.legit p hp).ne
  | succ n ih =>
    rintro ⟨h, K⟩ hp hn hs
    have hn : K.length ≤ n + 1 := hn
    have hs : ¬ Stuck b K h := hs
    have lp := G.legit _ hp
    have lK : LotOk b.rig K := lp.ok
    have hlt : h < b.rig.m := lp.lt
    cases hd : done b.rig K with
    | true => exact G.isDone _ hp hd
    | false =>
      have hex : ∃ k, Reach b K h k ∧ oneSign b.rig K k = false := Classical.byContradiction fun z => hs (stuck_self lK hd fun k hr => by
        refine (oneSign_iff o lK (hr.lt o hlt)).mp ?_
        cases e : oneSign b.rig K k with
        | true => rfl
        | false => exact absurd ⟨k, hr, e⟩ z)
      obtain ⟨k, hr, hk⟩ := hex
      have hkl := hr.lt o hlt
      have key : ∀ {j : Nat}, Reach b K k j → (j, K) ∈ ps → (j, K) ∈ W := by
        intro j hj
        induction hj with
        | self =>
          intro hm
          have := (G.legit _ hm).one
          rw [show oneSign b.rig K k = _ from hk] at this
          cases this
        | @step i j hi ha ihj =>
          intro hm
          have hil := hi.lt o hkl
          have hjl := (G.legit _ hm).lt
          have hns : ¬ Stuck b K j := fun z => hs (stuck_up ((hr.trans hi).step ha) (fun x hx => hx) z)
          refine Classical.byContradiction fun hnw => G.fix _ hm hnw ⟨i, ha.symm, fun s hs2 => ?_⟩
          have hm2 := G.closed _ hm i ha.symm s hs2
          cases h1 : oneSign b.rig K i with
          | true =>
            have e := parts_one o lK hil h1 hs2
            rw [e] at hm2 ⊢
            exact ihj hm2
          | false =>
            have hless := parts_less o lK hil h1 hs2
            exact ih _ hm2 (by show s.2.length ≤ n; omega) fun z => hns (stuck_up (Reach.self.step ha.symm) (parts_sub o lK hil hs2) z)
      exact key hr.symm hp
theorem GameEnd.iff (o : b.rig.Ok) (l : LotOk b.rig lot) (hg : g < b.rig.m) {ps W : List Pr} (G : GameEnd b lot g ps W) : (∀ s ∈ parts b.rig lot g, (g, s.2) ∈ W) ↔ ¬ Stuck b lot g :=
  ⟨fun h hs => let ⟨q, h1, h2⟩ := (stuck_iff o l hg .self).mp hs; G.won _ (h q h1) h2, fun h s hs => G.all o _ _ (G.first s hs) (Nat.le_refl _) fun z => h (stuck_up .self (parts_sub o l hg hs) z)⟩
end
end Wr
set_option maxHeartbeats 4000000
/-! the law's own game. -/
namespace Wr
open PySem PySem.Spec PyProof.Rows L2 Dl
local macro_rules
  | `(tactic| walk_at "len") => `(tactic| (intro ds ω R h; repeat (first | (obtain ⟨e, _⟩ := h; subst e; rfl) | (obtain ⟨_, h⟩ := h))))
  | `(tactic| walk_at "st1") => `(tactic| first
    | apply Exists.intro
    | refine And.intro rfl ?_ | refine iteT ?_ | refine iteF ?_
    | refine And.intro (lst_ptr (by assumption)) ?_ | refine And.intro (seq_ptr (by assumption)) ?_ | refine And.intro (dct_ptr (by assumption)) ?_
    | refine And.intro (lst_ptr Om.set_same) ?_ | refine And.intro (seq_ptr Om.set_same) ?_ | refine And.intro Om.set_same ?_
    | refine And.intro ⟨_, lst_ptr (by assumption)⟩ ?_ | refine And.intro ⟨_, lst_ptr Om.set_same⟩ ?_ | refine And.intro ⟨_, rfl⟩ ?_ | refine And.intro ⟨_, lst_ptr ((Om.set_ne (by assumption)).trans (by assumption))⟩ ?_
    | refine And.intro ((Om.set_ne (by assumption)).trans (by assumption)) ?_ | refine And.intro (lst_ptr ((Om.set_ne (by assumption)).trans (by assumption))) ?_
    | refine And.intro (by assumption) ?_ | refine And.intro (ix_map (by assumption)) ?_
    | refine And.intro (by omega) ?_
    | refine do_all (by rfl) ?_ | refine eq_nat ?_ | refine ne_nat ?_ | refine eq_nats ?_ | refine ne_nats ?_ | refine in_nats ?_ | refine nin_nats ?_)
  | `(tactic| walk_at "st") => `(tactic| repeat walk_at "st1")
section
variable {P : Program} {wo : World} {K : PySem.W.Frag} {mg : Str → Option Value} {base : Heap} {T : Tb}
def sp_law_is_led : Dsp := fun ds ω R => ∃ (b : Book) (W : List Pr) (pw : Addr) (p : Pr), ds = [bookD b, .ptr pw, partD p] ∧ ω pw = some (.lst (W.map partD)) ∧ b.Ok ∧ Legit b p ∧ ∀ u : Bool, (u = true ↔ Led b W p) → R (.bl u) ω
theorem sc_law_is_led : FnScope ["_law_book", "_law_won", "_law_pair", "_law_h", "_law_one_here"] ["_law_book", "_law_won", "_law_pair"] (defScope s_law_is_led) := ⟨rfl, rfl, rfl, by decide +kernel, rfl, by decide +kernel, by decide +kernel⟩
theorem D_law_is_led (Z : Zp K mg base T) : Df P wo K mg base T "_law_is_led" 4 sp_law_is_led := by
  obtain ⟨⟨fd, F⟩, hm⟩ := Z.df 74 d_law_is_led rfl rfl
  have D_law_next := D_law_next (P := P) (wo := wo) Z
  have D_law_parts := D_law_parts (P := P) (wo := wo) Z
  refine def_ok F sc_law_is_led hm (fun _ _ _ _ _ _ us hl => match us, hl with | [_, _, _], _ => rfl) (by walk_at "len") fun cdv A outer st H E hr => ?_
  have nd := sc_law_is_led.nd
  refine ⟨_, (ssc (sfor PassesOwn.never rfl (xil (xcall D_law_next (hr.mono (by first | decide | omega)) (xac (xv 0) (xac (xix (xv 2) xint) (xac (xix (xv 2) xint) xan))))) (xg 3 nd) (ss1 (sif (teq hr (xlc (own := [("_law_one_here", 4)]) rfl nd (by rfl) (xil (xcall D_law_parts (hr.mono (by first | decide | omega)) (xac (xix (xv 0) xint) (xac (xix (xv 2) xint) (xac (xv 3) xan))))) (fun _ _ _ _ _ => (xg 4 nd)) (fun _ _ _ _ _ => (xt1 (tnin hr (xtup (xac (xv 3) (xac (xix (xv 4) xint) xan))) (xv 1)))) (fun _ _ _ _ _ => (xv 4))) (xlst xan)) (ss1 (sret xbl)) ssn)))
    (ss1 (sret xbl))), fun ds ω R h => ?_⟩
  obtain ⟨b, W, pw, ⟨g, S⟩, rfl, hw, o, hL, q⟩ := h
  have o1 := o.rig
  have hS : LotOk b.rig S := hL.ok
  walk_at "st"
  intro hs6 hs6l hs6m
  walk_at "st"
  refine for_on hs6 natD (fun i ρ' ω' => Hold <| (∃ u v, ρ' = [some (bookD b), some (.ptr pw), some (partD (g, S)), u, v]) ∧ ω' = ω ∧ ∀ h ∈ hs6.take i, ¬ ∀ s ∈ parts b.rig S h, (h, s.2) ∈ W) ⟨⟨_, _, rfl⟩, rfl, by simp⟩ (fun i h ρ' ω' hh hI => ?_) fun ρ' ω' hI => ?_
  · obtain ⟨⟨_, _, rfl⟩, rfl, hn⟩ := hI
    have hadj : Adj b S g h := (hs6m h).mp (List.mem_of_getElem? hh)
    have hlt := (hadj.lt o1).2
    have hp10 := parts_len (r := b.rig) (lot := S) (g := h)
    walk_at "st"
    refine lc_filter (parts b.rig S h) partD (fun s => !decide ((h, s.2) ∈ W)) (by omega) (fun s ω' Q1 Q2 hs0 hs h1 h2 => by
      have hw2 := hs pw _ hw
      walk_at "st"
      refine do_nin (P := (h, s.2) ∈ W) (d := partD (h, s.2)) (seq_ptr hw2) (partD_cl (h, s.2)) (cl_parts W) (Nat.le_trans (partD_dep (h, s.2)) (by decide)) (map_mem_inj (enc := partD) partD_inj) ?_
      walk_at "st"
      cases e : decide ((h, s.2) ∈ W) with
      | true => exact iteF (h2 (by rw [e]; rfl))
      | false => exact iteT (by walk_at "st"; exact h1 (by rw [e]; rfl))) ?_
    walk_at "st"
    refine eq_nil (cl_parts _) (dep_parts _) ?_
    rw [none_all]
    refine ⟨_, rfl, ?_⟩
    cases e : ((parts b.rig S h).all fun s => decide ((h, s.2) ∈ W)) with
    | true =>
      walk_at "st"
      exact q true ⟨fun _ => ⟨h, hadj, fun s hs => of_decide_eq_true (List.all_eq_true.mp e s hs)⟩, fun _ => rfl⟩
    | false =>
      refine iteF ⟨⟨_, _, rfl⟩, rfl, fun y hy => ?_⟩
      rw [take_next' hh] at hy
      rcases List.mem_append.mp hy with hy | hy
      · exact hn y hy
      · rw [List.mem_singleton.mp hy]
        intro z
        rw [List.all_eq_true.mpr fun s hs => decide_eq_true (z s hs)] at e
        cases e
  · obtain ⟨⟨_, _, rfl⟩, rfl, hn⟩ := hI
    rw [List.take_length] at hn
    walk_at "st"
    exact q false ⟨fun z => (by cases z), fun ⟨h, ha, hp⟩ => absurd hp (hn h ((hs6m h).mpr ha))⟩
noncomputable def ledB (b : Book) (W : List Pr) (p : Pr) : Bool := @decide (Led b W p) (Classical.propDecidable _)
theorem ledB_iff {b : Book} {W : List Pr} {p : Pr} : ledB b W p = true ↔ Led b W p := @decide_eq_true_iff _ (Classical.propDecidable _)
def sp_law_game_from : Dsp := fun ds ω R => ∃ (b : Book) (lot : List Nat) (g : Nat), ds = [bookD b, startDa lot g] ∧ b.Ok ∧ LotOk b.rig lot ∧ g < b.rig.m ∧ ∀ u : Bool, (u = true ↔ ¬ Stuck b lot g) → R (.bl u) ω
theorem sc_law_game_from : FnScope ["_law_book", "_law_start", "_law_rig_here", "_law_pairs", "_law_first", "_law_work", "_law_won", "_law_is_on", "_law_here", "_law_more", "_law_h", "_law_one_here", "_law_pair"] ["_law_book", "_law_start"] (defScope s_law_game_from) := ⟨rfl, rfl, rfl, by decide +kernel, rfl, by decide +kernel, by decide +kernel⟩
theorem D_law_game_from (Z : Zp K mg base T) : Df P wo K mg base T "_law_game_from" 5 sp_law_game_from := by
  obtain ⟨⟨fd, F⟩, hm⟩ := Z.df 88 d_law_game_from rfl rfl
  have D_law_parts := D_law_parts (P := P) (wo := wo) Z
  have D_law_next := D_law_next (P := P) (wo := wo) Z
  have D_law_is_done := D_law_is_done (P := P) (wo := wo) Z
  have D_law_is_led := D_law_is_led (P := P) (wo := wo) Z
  refine def_okS F sc_law_game_from hm (fun _ _ _ _ _ _ us hl => match us, hl with | [_, _], _ => rfl) (by walk_at "len") fun cdv A outer st H E hr => ?_
  have nd := sc_law_game_from.nd
  refine ⟨_, (ssc (sasg (xtup (xac (xix (xv 0) xint) (xac (xnew xan) xan))) (xgtp rfl (xgc (xg 2 nd) (xgc (xg 3 nd) xgn))))
    (ssc (ssetLc 4 (own := [("_law_one_here", 11)]) rfl nd (by rfl) (xil (xcall D_law_parts (hr.mono (by first | decide | omega)) (xac (xv 2) (xac (xix (xv 1) xint) (xac (xix (xv 1) xint) xan))))) (fun _ _ _ _ _ => (xg 11 nd)) (fun _ _ _ _ _ => xtn) (fun _ _ _ _ _ => (xtup (xac (xix (xv 1) xint) (xac (xix (xv 11) xint) xan)))))
    (ssc (sset 5 nd (xbi (bi_list Z.list) (xac (xv 4) xan)))
    (ssc (swhile PassesOwn.never (tne hr (xv 5) (xlst xan)) (ssc (sset 8 nd (xpop (xv 5)))
    (ss1 (sif (tnin hr (xv 8) (xv 3)) (ssc (sexpr (xappend (xv 3) (xac (xv 8) xan)))
    (ss1 (sfor PassesOwn.never rfl (xil (xcall D_law_next (hr.mono (by first | decide | omega)) (xac (xv 0) (xac (xix (xv 8) xint) (xac (xix (xv 8) xint) xan))))) (xg 10 nd) (ss1 (sexpr (xextend (xv 5) (xac (xlcN (own := [("_law_one_here", 11)]) rfl nd (by rfl) (xil (xcall D_law_parts (hr.mono (by first | decide | omega)) (xac (xv 2) (xac (xix (xv 8) xint) (xac (xv 10) xan))))) (fun _ _ _ _ _ => (xg 11 nd)) (fun _ _ _ _ _ => xtn) (fun _ _ _ _ _ => (xtup (xac (xv 10) (xac (xix (xv 11) xint) xan))))) xan))))))) ssn))))
    (ssc (sstill (sasg (xtup (xac (xlcN (own := [("_law_pair", 12)]) rfl nd (by rfl) (xil (xv 3)) (fun _ _ _ _ _ => (xg 12 nd)) (fun _ _ _ _ _ => (xt1 (tval (xcall D_law_is_done (hr.mono (by first | decide | omega)) (xac (xv 2) (xac (xix (xv 12) xint) xan)))))) (fun _ _ _ _ _ => (xv 12))) (xac xbl xan))) (xgtp rfl (xgc (xg 6 nd) (xgc (xg 7 nd) xgn)))))
    (ssc (swhile PassesOwn.never (tval (xv 7)) (ssc (ssetLcN 9 (own := [("_law_pair", 12)]) rfl nd (by rfl) (xil (xv 3)) (fun _ _ _ _ _ => (xg 12 nd)) (fun _ _ _ _ _ => (xt1 (tw (twand (tnin hr (xv 12) (xv 6)) (twand1 (tval (xcall D_law_is_led (hr.mono (by first | decide | omega)) (xac (xv 0) (xac (xv 6) (xac (xv 12) xan)))))))))) (fun _ _ _ _ _ => (xv 12)))
    (ss1 (sasg (xtup (xac (xlcat (xv 6) (xv 9)) (xac (xne hr (xv 9) (xlst xan)) xan))) (xgtp rfl (xgc (xg 6 nd) (xgc (xg 7 nd) xgn)))))))
    (ss1 (sret (xeq hr (xlc (own := [("_law_pair", 12)]) rfl nd (by rfl) (xil (xv 4)) (fun _ _ _ _ _ => (xg 12 nd)) (fun _ _ _ _ _ => (xt1 (tnin hr (xv 12) (xv 6)))) (fun _ _ _ _ _ => (xv 12))) (xlst xan)))))))))), fun ds ω R h => ?_⟩
  obtain ⟨b, lot, g, rfl, o, hl, hg, q⟩ := h
  have o1 := o.rig
  have hp10 : ∀ {l : List Nat} {h : Nat}, (parts b.rig l h).length ≤ 10 := parts_len
  walk_at "st"
  intro pp hpp
  walk_at "st"
  refine lc_map (parts b.rig lot g) partD (fun s => partD (g, s.2)) (by have := hp10 (l := lot) (h := g); omega) (fun s ω' Q1 Q2 hs0 hs hq => by
    walk_at "st"
    exact hq) ?_
  have efirst : (parts b.rig lot g).map (fun s => partD (g, s.2)) = ((parts b.rig lot g).map fun s => (g, s.2)).map partD := by rw [List.map_map]; rfl
  rw [efirst]
  have hfl : ((parts b.rig lot g).map fun s => (g, s.2)).length ≤ 10 := by rw [List.length_map]; exact hp10
  have hfm : ∀ p, p ∈ ((parts b.rig lot g).map fun s => (g, s.2)) ↔ ∃ s ∈ parts b.rig lot g, p = (g, s.2) := fun p => by
    rw [List.mem_map]
    exact ⟨fun ⟨s, h1, h2⟩ => ⟨s, h1, h2.symm⟩, fun ⟨s, h1, h2⟩ => ⟨s, h1, h2.symm⟩⟩
  generalize hfst : ((parts b.rig lot g).map fun s => (g, s.2)) = first at hfl hfm ⊢
  walk_at "st"
  intro pk hpk
  walk_at "st"
  have hne : pk ≠ pp := fun z => by subst z; rw [Om.set_same] at hpk; cases hpk
  have hne' : pp ≠ pk := fun z => hne z.symm
  have hk0 : ω pk = none := by rw [Om.set_ne hne] at hpk; exact hpk
  refine ⟨fun m ρ' ω' => Hold <| ∃ (ps ws : List Pr) (s8 s10 : Option Da), ρ' = [some (bookD b), some (startDa lot g), some (rigD b.rig), some (.ptr pp), some (.lst (first.map partD)), some (.ptr pk), none, none, s8, none, s10, none, none] ∧ ω' pp = some (.lst (ps.map partD)) ∧ ω' pk = some (.lst (ws.map partD)) ∧ Sub ω ω' ∧ ps.Nodup ∧ (∀ p ∈ ps, Legit b p) ∧ (∀ p ∈ ws, Legit b p) ∧ (∀ p ∈ first, p ∈ ps ∨ p ∈ ws) ∧ (∀ p ∈ ps, ∀ h, Adj b p.2 p.1 h → ∀ s ∈ parts b.rig p.2 h, (h, s.2) ∈ ps ∨ (h, s.2) ∈ ws) ∧ ws.length + 61 * (64 - ps.length) ≤ 5000 ∧ m = ws.length + 61 * (64 - ps.length),
    ⟨_, ⟨[], first, _, _, rfl, (Om.set_ne hne').trans Om.set_same, Om.set_same, ((Sub.refl ω).new hpp).put hk0, .nil, by simp, fun p hp => by
      obtain ⟨s, h1, h2⟩ := (hfm p).mp hp
      rw [h2]; exact parts_legit o1 hl hg h1, fun p hp => .inr hp, fun p hp => (by cases hp), by simp; omega, rfl⟩⟩, fun m ρ' ω' hI => ?_⟩
  obtain ⟨ps, ws, _, _, rfl, hk, hl', hs, n1, n2, n3, n4, n5, n6, rfl⟩ := hI
  have hpl := legit_len o1 n1 n2
  walk_at "st"
  refine ne_nil_ptr hl' (cl_parts ws) (dep_parts ws) ?_
  by_cases hwn : ws = []
  · subst hwn
    walk_at "st"
    refine ⟨_, ω, hs, .cons ThawO.rfl' (.cons ThawO.rfl' (.cons ThawO.rfl' (.cons (ThawO.mk (Thaw.ptr hk hpp)) (thaw_same _)))), ?_⟩
    have closed : ∀ p ∈ ps, ∀ h, Adj b p.2 p.1 h → ∀ s ∈ parts b.rig p.2 h, (h, s.2) ∈ ps := fun p hp h ha s h1 => (n5 p hp h ha s h1).resolve_right fun z => by cases z
    have hfirst : ∀ p ∈ first, p ∈ ps := fun p hp => (n4 p hp).resolve_right fun z => by cases z
    walk_at "st"
    refine lcN_on ps partD (fun p => if done b.rig p.2 = true then some (partD p) else none) (by omega) (fun p ω' Q1 Q2 hp hs h1 h2 => by
      obtain ⟨h, S⟩ := p
      have hS : LotOk b.rig S := (n2 _ hp).ok
      walk_at "st"
      cases e : done b.rig S with
      | true => exact iteT (by walk_at "st"; exact h1 _ (by rw [if_pos e]))
      | false => exact iteF (h2 (by rw [if_neg (by rw [e]; decide)]))) fun pq hpq => ?_
    rw [fm_ite (fun p : Pr => done b.rig p.2) partD]
    walk_at "st"
    refine ⟨fun m ρ' ω' => Hold <| ∃ (W : List Pr) (on : Bool) (pw : Addr) (s8 s9 s10 : Option Da), ρ' = [some (bookD b), some (startDa lot g), some (rigD b.rig), some (.lst (ps.map partD)), some (.lst (first.map partD)), some (.ptr pk), some (.ptr pw), some (.bl on), s8, s9, s10, none, none] ∧ ω' pw = some (.lst (W.map partD)) ∧ Sub ω ω' ∧ W.Nodup ∧ (∀ p ∈ W, p ∈ ps) ∧ (∀ p ∈ W, ¬ Stuck b p.2 p.1) ∧ (∀ p ∈ ps, done b.rig p.2 = true → p ∈ W) ∧ (on = false → ∀ p ∈ ps, p ∉ W → ¬ Led b W p) ∧ m = 2 * (64 - W.length) + (if on = true then 1 else 0),
      ⟨_, ⟨ps.filter fun p => done b.rig p.2, true, pq, _, _, _, rfl, Om.set_same, (Sub.refl ω).new hpq, List.Pairwise.filter _ n1, fun p hp => (List.mem_filter.mp hp).1, fun p hp => stuck_done (List.mem_filter.mp hp).2, fun p hp hd => List.mem_filter.mpr ⟨hp, hd⟩, fun z => (by cases z), rfl⟩⟩, fun m ρ' ω' hI => ?_⟩
    obtain ⟨W, on, pw, _, _, _, rfl, hw, hsw, w1, w2, w3, w4, w5, rfl⟩ := hI
    have hWl := legit_len o1 w1 fun p hp => n2 p (w2 p hp)
    walk_at "st"
    cases on with
    | false =>
      walk_at "st"
      refine lc_filter first partD (fun p => !decide (p ∈ W)) (by omega) (fun p ω' Q1 Q2 hp hs h1 h2 => by
        have hw2 := hs pw _ hw
        walk_at "st"
        refine do_nin (P := p ∈ W) (seq_ptr hw2) (partD_cl p) (cl_parts W) (Nat.le_trans (partD_dep p) (by decide)) (map_mem_inj (enc := partD) partD_inj) ?_
        walk_at "st"
        cases e : decide (p ∈ W) with
        | true => exact iteF (h2 (by rw [e]; rfl))
        | false => exact iteT (by walk_at "st"; exact h1 (by rw [e]; rfl))) ?_
      walk_at "st"
      refine eq_nil (cl_parts _) (dep_parts _) ?_
      rw [none_all]
      refine ⟨ω, hsw, q _ ?_⟩
      have G : GameEnd b lot g ps W := ⟨n2, fun s h1 => hfirst _ ((hfm _).mpr ⟨s, h1, rfl⟩), closed, w3, w4, w5 rfl⟩
      rw [← G.iff o1 hl hg, List.all_eq_true]
      exact ⟨fun z s h1 => of_decide_eq_true (z _ ((hfm _).mpr ⟨s, h1, rfl⟩)), fun z p hp => by
        obtain ⟨s, h1, h2⟩ := (hfm p).mp hp
        rw [h2]; exact decide_eq_true (z s h1)⟩
    | true =>
      walk_at "st"
      refine lcN_on ps partD (fun p => if (!decide (p ∈ W) && ledB b W p) = true then some (partD p) else none) (by omega) (fun p ω' Q1 Q2 hp hs h1 h2 => by
        have hw2 := hs pw _ hw
        have hLp := n2 p hp
        walk_at "st"
        refine do_nin (P := p ∈ W) (seq_ptr hw2) (partD_cl p) (cl_parts W) (Nat.le_trans (partD_dep p) (by decide)) (map_mem_inj (enc := partD) partD_inj) ?_
        walk_at "st"
        cases e : decide (p ∈ W) with
        | true =>
          walk_at "st"
          exact h2 (by rw [if_neg (by rw [e]; simp)])
        | false =>
          walk_at "st"
          intro u hu
          have eu : ledB b W p = u := by rw [Bool.eq_iff_iff, ledB_iff, hu]
          walk_at "st"
          cases u with
          | true =>
            walk_at "st"
            exact h1 _ (by rw [if_pos (by rw [e, eu]; rfl)])
          | false =>
            walk_at "st"
            exact h2 (by rw [if_neg (by rw [e, eu]; decide)])) fun pm hpm => ?_
      rw [fm_ite (fun p : Pr => !decide (p ∈ W) && ledB b W p) partD]
      have hM : ∀ p, p ∈ (ps.filter fun p => !decide (p ∈ W) && ledB b W p) ↔ p ∈ ps ∧ p ∉ W ∧ Led b W p := fun p => by
        rw [List.mem_filter, Bool.and_eq_true, ledB_iff, Bool.not_eq_true', decide_eq_false_iff_not]
      have hMn : (ps.filter fun p => !decide (p ∈ W) && ledB b W p).Nodup := List.Pairwise.filter _ n1
      generalize (ps.filter fun p => !decide (p ∈ W) && ledB b W p) = M at hM hMn ⊢
      have hnm : pw ≠ pm := fun z => by subst z; rw [hw] at hpm; cases hpm
      have hMl := legit_len o1 hMn fun p hp => n2 p ((hM p).mp hp).1
      have c1 : (ω'.set pm (.lst (M.map partD))) pw = some (.lst (W.map partD)) := (Om.set_ne hnm).trans hw
      have c2 : (ω'.set pm (.lst (M.map partD))) pm = some (.lst (M.map partD)) := Om.set_same
      have hll : (W.map partD).length + (M.map partD).length ≤ 100000 := by rw [List.length_map, List.length_map]; omega
      walk_at "st"
      intro pr hpr
      have hnr : pm ≠ pr := fun z => by subst z; rw [c2] at hpr; cases hpr
      have c3 : ((ω'.set pm (.lst (M.map partD))).set pr (.lst (W.map partD ++ M.map partD))) pm = some (.lst (M.map partD)) := (Om.set_ne hnr).trans c2
      walk_at "st"
      refine ne_nil_ptr c3 (cl_parts M) (dep_parts M) ?_
      walk_at "st"
      have nd2 : (W ++ M).Nodup := List.nodup_append.mpr ⟨w1, hMn, fun u hu v hv e => by
        subst e
        exact ((hM u).mp hv).2.1 hu⟩
      have in2 : ∀ p ∈ W ++ M, p ∈ ps := fun p hp => by
        rcases List.mem_append.mp hp with hp | hp
        · exact w2 p hp
        · exact ((hM p).mp hp).1
      have l2 := legit_len o1 nd2 fun p hp => n2 p (in2 p hp)
      rw [List.length_append] at l2
      refine ⟨2 * (64 - (W ++ M).length) + (if (!decide (M = [])) = true then 1 else 0), ?_, W ++ M, !decide (M = []), pr, _, _, _, rfl, ?_, (hsw.new hpm).new hpr, nd2, in2, fun p hp => ?_, fun p hp hd => List.mem_append_left _ (w4 p hp hd), fun hon p hp hn => ?_, rfl⟩
      · rw [List.length_append, if_pos rfl]
        by_cases e : M = []
        · rw [e, if_neg (by simp)]
          simp only [List.length_nil]
          omega
        · have : 0 < M.length := Nat.pos_of_ne_zero fun z => e (List.eq_nil_of_length_eq_zero z)
          rw [decide_eq_false e, if_pos (by rfl)]
          omega
      · rw [Om.set_same, List.map_append]
      · rcases List.mem_append.mp hp with hp | hp
        · exact w3 p hp
        · obtain ⟨z1, z2, z3⟩ := (hM p).mp hp
          exact led_won o1 (n2 p z1) w3 z3
      · have e : M = [] := by simpa using hon
        subst e
        rw [List.append_nil] at hn ⊢
        intro z
        have := (hM p).mpr ⟨hp, hn, z⟩
        cases this
  · obtain ⟨wi, x, rfl⟩ : ∃ wi x, ws = wi ++ [x] := ⟨ws.dropLast, ws.getLast hwn, (List.dropLast_concat_getLast hwn).symm⟩
    rw [decide_eq_false hwn]
    have hl2 : ω' pk = some (.lst (wi.map partD ++ [partD x])) := by rw [hl', List.map_append]; rfl
    have hLx := n3 x (by simp)
    rw [List.length_append, List.length_singleton] at n6
    have hk2 : (ω'.set pk (.lst (wi.map partD))) pp = some (.lst (ps.map partD)) := (Om.set_ne hne').trans hk
    walk_at "st"
    refine do_nin (P := x ∈ ps) (seq_ptr hk2) (partD_cl x) (cl_parts ps) (Nat.le_trans (partD_dep x) (by decide)) (map_mem_inj (enc := partD) partD_inj) ?_
    walk_at "st"
    by_cases hx : x ∈ ps
    · rw [decide_eq_true hx]
      walk_at "st"
      have mv : ∀ {p : Pr}, p ∈ ps ∨ p ∈ wi ++ [x] → p ∈ ps ∨ p ∈ wi := fun {p} z => by
        rcases z with z | z
        · exact .inl z
        · rcases List.mem_append.mp z with z | z
          · exact .inr z
          · rw [List.mem_singleton.mp z]; exact .inl hx
      refine ⟨wi.length + 61 * (64 - ps.length), by rw [List.length_append, List.length_singleton]; omega, ps, wi, _, _, rfl, hk2, Om.set_same, hs.put hk0, n1, n2, fun p hp => n3 p (List.mem_append_left _ hp), fun p hp => mv (n4 p hp), fun p hp h ha s h1 => mv (n5 p hp h ha s h1), by omega, rfl⟩
    · rw [decide_eq_false hx]
      have n1' : (ps ++ [x]).Nodup := List.nodup_append.mpr ⟨n1, by simp, fun u hu v hv e => by
        have hv : v = x := List.mem_singleton.mp hv
        subst e
        rw [hv] at hu
        exact hx hu⟩
      have n2' : ∀ p ∈ ps ++ [x], Legit b p := fun p hp => by
        rcases List.mem_append.mp hp with hp | hp
        · exact n2 p hp
        · rw [List.mem_singleton.mp hp]; exact hLx
      have hpl2 := legit_len o1 n1' n2'
      rw [List.length_append, List.length_singleton] at hpl2
      have hll : (ps.map partD).length < 100000 := by rw [List.length_map]; omega
      obtain ⟨g1, S⟩ := x
      have hS : LotOk b.rig S := hLx.ok
      walk_at "st"
      intro hs6 hs6l hs6m
      walk_at "st"
      refine for_on hs6 natD (fun i ρ2 ω2 => Hold <| ∃ (ws2 : List Pr) (s10 : Option Da), ρ2 = [some (bookD b), some (startDa lot g), some (rigD b.rig), some (.ptr pp), some (.lst (first.map partD)), some (.ptr pk), none, none, some (partD (g1, S)), none, s10, none, none] ∧ ω2 pp = some (.lst ((ps ++ [(g1, S)]).map partD)) ∧ ω2 pk = some (.lst (ws2.map partD)) ∧ Sub ω ω2 ∧ (∀ p ∈ ws2, Legit b p) ∧ (∀ p ∈ wi, p ∈ ws2) ∧ (∀ h ∈ hs6.take i, ∀ s ∈ parts b.rig S h, (h, s.2) ∈ ws2) ∧ ws2.length ≤ wi.length + 10 * i)
        ⟨wi, _, rfl, by rw [Om.set_same, List.map_append]; rfl, (Om.set_ne hne).trans Om.set_same, (hs.put hk0).put hpp, fun p hp => n3 p (List.mem_append_left _ hp), fun p hp => hp, by simp, by omega⟩ (fun i h ρ2 ω2 hy hI => ?_) fun ρ2 ω2 hI => ?_
      · obtain ⟨ws2, _, rfl, hk3, hl3, hs3, m1, m2, m3, m4⟩ := hI
        have hil : i < hs6.length := (List.getElem?_eq_some_iff.mp hy).1
        have hadj : Adj b S g1 h := (hs6m h).mp (List.mem_of_getElem? hy)
        have hlt := (hadj.lt o1).2
        walk_at "st"
        refine lcN_on (parts b.rig S h) partD (fun s => some (partD (h, s.2))) (by have := hp10 (l := S) (h := h); omega) (fun s ω' Q1 Q2 hs0 hs h1 h2 => by
          walk_at "st"
          exact h1 _ rfl) fun pt hpt => ?_
        rw [fm_map]
        have en : (parts b.rig S h).map (fun s => partD (h, s.2)) = ((parts b.rig S h).map fun s => (h, s.2)).map partD := by rw [List.map_map]; rfl
        rw [en]
        have hnl : ((parts b.rig S h).map fun s => (h, s.2)).length ≤ 10 := by rw [List.length_map]; exact hp10
        have hnm : ∀ p, p ∈ ((parts b.rig S h).map fun s => (h, s.2)) ↔ ∃ s ∈ parts b.rig S h, p = (h, s.2) := fun p => by
          rw [List.mem_map]
          exact ⟨fun ⟨s, h1, h2⟩ => ⟨s, h1, h2.symm⟩, fun ⟨s, h1, h2⟩ => ⟨s, h1, h2.symm⟩⟩
        generalize ((parts b.rig S h).map fun s => (h, s.2)) = new at hnl hnm ⊢
        have k1 : pk ≠ pt := fun z => by subst z; rw [hl3] at hpt; cases hpt
        have k2 : pp ≠ pt := fun z => by subst z; rw [hk3] at hpt; cases hpt
        have c1 : (ω2.set pt (.lst (new.map partD))) pk = some (.lst (ws2.map partD)) := (Om.set_ne k1).trans hl3
        have c2 : (ω2.set pt (.lst (new.map partD))) pt = some (.lst (new.map partD)) := Om.set_same
        have hll2 : (ws2.map partD).length + (new.map partD).length ≤ 100000 := by rw [List.length_map, List.length_map]; omega
        walk_at "st"
        refine ⟨ws2 ++ new, _, rfl, ?_, ?_, (hs3.new hpt).put hk0, fun p hp => ?_, fun p hp => List.mem_append_left _ (m2 p hp), fun h' hh' s h1 => ?_, by rw [List.length_append]; omega⟩
        · rw [Om.set_ne hne', Om.set_ne k2]; exact hk3
        · rw [Om.set_same, List.map_append]
        · rcases List.mem_append.mp hp with hp | hp
          · exact m1 p hp
          · obtain ⟨s, h1, h2⟩ := (hnm p).mp hp
            rw [h2]; exact parts_legit o1 hS hlt h1
        · rw [take_next' hy] at hh'
          rcases List.mem_append.mp hh' with hh' | hh'
          · exact List.mem_append_left _ (m3 h' hh' s h1)
          · rw [List.mem_singleton.mp hh'] at h1 ⊢
            exact List.mem_append_right _ ((hnm _).mpr ⟨s, h1, rfl⟩)
      · obtain ⟨ws2, _, rfl, hk3, hl3, hs3, m1, m2, m3, m4⟩ := hI
        rw [List.take_length] at m3
        have mv : ∀ {p : Pr}, p ∈ ps ∨ p ∈ wi ++ [(g1, S)] → p ∈ ps ++ [(g1, S)] ∨ p ∈ ws2 := fun {p} z => by
          rcases z with z | z
          · exact .inl (List.mem_append_left _ z)
          · rcases List.mem_append.mp z with z | z
            · exact .inr (m2 p z)
            · exact .inl (List.mem_append_right _ z)
        refine ⟨ws2.length + 61 * (64 - (ps ++ [(g1, S)]).length), by rw [List.length_append, List.length_singleton, List.length_append, List.length_singleton]; omega, ps ++ [(g1, S)], ws2, _, _, rfl, hk3, hl3, hs3, n1', n2', m1, fun p hp => mv (n4 p hp), fun p hp h ha s h1 => ?_, by rw [List.length_append, List.length_singleton]; omega, rfl⟩
        rcases List.mem_append.mp hp with hp | hp
        · exact mv (n5 p hp h ha s h1)
        · rw [List.mem_singleton.mp hp] at ha h1
          exact .inr (m3 h ((hs6m h).mpr ha) s h1)
end
end Wr
set_option maxHeartbeats 4000000
/-! the law's look at one start. -/
namespace Wr
open PySem PySem.Spec PyProof.Rows L2 Dl
local macro_rules
  | `(tactic| walk_at "len") => `(tactic| (intro ds ω R h; repeat (first | (obtain ⟨e, _⟩ := h; subst e; rfl) | (obtain ⟨_, h⟩ := h))))
  | `(tactic| walk_at "st1") => `(tactic| first
    | apply Exists.intro
    | refine And.intro rfl ?_ | refine iteT ?_ | refine iteF ?_
    | refine And.intro (lst_ptr (by assumption)) ?_ | refine And.intro (seq_ptr (by assumption)) ?_ | refine And.intro (dct_ptr (by assumption)) ?_
    | refine And.intro (lst_ptr Om.set_same) ?_ | refine And.intro (seq_ptr Om.set_same) ?_ | refine And.intro Om.set_same ?_
    | refine And.intro ⟨_, lst_ptr (by assumption)⟩ ?_ | refine And.intro ⟨_, lst_ptr Om.set_same⟩ ?_ | refine And.intro ⟨_, rfl⟩ ?_ | refine And.intro ⟨_, lst_ptr ((Om.set_ne (by assumption)).trans (by assumption))⟩ ?_
    | refine And.intro ((Om.set_ne (by assumption)).trans (by assumption)) ?_ | refine And.intro (lst_ptr ((Om.set_ne (by assumption)).trans (by assumption))) ?_
    | refine And.intro (by assumption) ?_ | refine And.intro (ix_map (by assumption)) ?_
    | refine And.intro (by omega) ?_
    | refine do_all (by rfl) ?_ | refine eq_nat ?_ | refine ne_nat ?_ | refine eq_nats ?_ | refine ne_nats ?_ | refine in_nats ?_ | refine nin_nats ?_)
  | `(tactic| walk_at "st") => `(tactic| repeat walk_at "st1")
section
variable {P : Program} {wo : World} {K : PySem.W.Frag} {mg : Str → Option Value} {base : Heap} {T : Tb}
def sp_law_start_right : Dsp := fun ds ω R => ∃ (b : Book) (lot : List Nat) (g : Nat), ds = [bookD b, startDa lot g] ∧ b.Ok ∧ LotOk b.rig lot ∧ lot ≠ [] ∧ g < b.rig.m ∧ R (.bl true) ω
theorem sc_law_start_right : FnScope ["_law_book", "_law_start", "_law_is_won", "_law_rows", "_law_lot"] ["_law_book", "_law_start"] (defScope s_law_start_right) := ⟨rfl, rfl, rfl, by decide +kernel, rfl, by decide +kernel, by decide +kernel⟩
theorem D_law_start_right (Z : Zp K mg base T) : Df P wo K mg base T "_law_start_right" 33 sp_law_start_right := by
  obtain ⟨⟨fd, F⟩, hm⟩ := Z.df 89 d_law_start_right rfl rfl
  have D_stuck := D_stuck (P := P) (wo := wo) Z
  have D_code_for := D_code_for (P := P) (wo := wo) Z
  have D_law_game_from := D_law_game_from (P := P) (wo := wo) Z
  have D_law_cures_each := D_law_cures_each (P := P) (wo := wo) Z
  have D_law_is_stuck_lot := D_law_is_stuck_lot (P := P) (wo := wo) Z
  have D_stuck_right := D_stuck_right (P := P) (wo := wo) Z
  refine def_ok F sc_law_start_right hm (fun _ _ _ _ _ _ us hl => match us, hl with | [_, _], _ => rfl) (by walk_at "len") fun cdv A outer st H E hr => ?_
  have nd := sc_law_start_right.nd
  refine ⟨_, (ssc (spar3 2 3 4 rfl nd (xac (xcall D_law_game_from (hr.mono (by first | decide | omega)) (xac (xv 0) (xac (xv 1) xan))) (xac (xcall D_code_for (hr.mono (by first | decide | omega)) (xac (xv 0) (xac (xv 1) xan))) (xac (xcall D_stuck (hr.mono (by first | decide | omega)) (xac (xv 0) (xac (xv 1) xan))) xan))))
    (ssc (sif (tval (xv 2)) (ss1 (sret (xand (xisN (xv 4) xnon) (xand (xisi Z.isinstance Z.tuple PyProof.Rows.boot_tuple (xv 3)) (xone (xcall D_law_cures_each (hr.mono (by first | decide | omega)) (xac (xv 0) (xac (xv 3) (xac (xv 1) xan))))))))) ssn)
    (ssc (sif (tw (twor (tnotN (xv 3) xnon) (twor (tisN (xv 4) xnon) (twor1 (tnot (tval (xcall D_law_is_stuck_lot (hr.mono (by first | decide | omega)) (xac (xv 0) (xac (xv 1) (xac (xv 4) xan)))))))))) (ss1 (sret xbl)) ssn)
    (ss1 (sret (xisB (xcall D_stuck_right (hr.mono (by first | decide | omega)) (xac (xv 0) (xac (xv 1) (xac (xv 4) xan)))) xbl)))))), fun ds ω R h => ?_⟩
  obtain ⟨b, lot, g, rfl, o, hl, hne, hg, q⟩ := h
  have hl4 := hl.len o.rig
  walk_at "st"
  intro u hu
  walk_at "st"
  by_cases hst : Stuck b lot g
  · have hu2 : u = false := by
      cases u with
      | false => rfl
      | true => exact absurd hst (hu.mp rfl)
    subst hu2
    refine ⟨fun _ => ?_, fun L h => absurd hst h⟩
    walk_at "st"
    refine ⟨fun S hS => ?_, fun h => absurd hst h⟩
    walk_at "st"
    exact q
  · have hu2 : u = true := hu.mpr hst
    subst hu2
    refine ⟨fun h => absurd h hst, fun L _ hL => ?_⟩
    walk_at "st"
    refine ⟨fun S hS => absurd ⟨S, hS⟩ hst, fun _ => ?_⟩
    walk_at "st"
    exact q
end
end Wr
set_option maxHeartbeats 4000000
/-! the law's own paths. -/
namespace Wr
open PySem PySem.Spec PyProof.Rows L2 Dl
local macro_rules
  | `(tactic| walk_at "len") => `(tactic| (intro ds ω R h; repeat (first | (obtain ⟨e, _⟩ := h; subst e; rfl) | (obtain ⟨_, h⟩ := h))))
  | `(tactic| walk_at "st1") => `(tactic| first
    | apply Exists.intro
    | refine And.intro rfl ?_ | refine iteT ?_ | refine iteF ?_
    | refine And.intro (lst_ptr (by assumption)) ?_ | refine And.intro (seq_ptr (by assumption)) ?_ | refine And.intro (dct_ptr (by assumption)) ?_
    | refine And.intro (lst_ptr Om.set_same) ?_ | refine And.intro (seq_ptr Om.set_same) ?_ | refine And.intro Om.set_same ?_
    | refine And.intro ⟨_, lst_ptr (by assumption)⟩ ?_ | refine And.intro ⟨_, lst_ptr Om.set_same⟩ ?_ | refine And.intro ⟨_, rfl⟩ ?_ | refine And.intro ⟨_, lst_ptr ((Om.set_ne (by assumption)).trans (by assumption))⟩ ?_
    | refine And.intro ((Om.set_ne (by assumption)).trans (by assumption)) ?_ | refine And.intro (lst_ptr ((Om.set_ne (by assumption)).trans (by assumption))) ?_
    | refine And.intro (by assumption) ?_ | refine And.intro (ix_map (by assumption)) ?_
    | refine And.intro (by omega) ?_
    | refine do_all (by rfl) ?_ | refine eq_nat ?_ | refine ne_nat ?_ | refine eq_nats ?_ | refine ne_nats ?_ | refine in_nats ?_ | refine nin_nats ?_)
  | `(tactic| walk_at "st") => `(tactic| repeat walk_at "st1")
local macro_rules
  | `(tactic| walk_at "sw") => `(tactic| repeat (first
    | walk_at "st1"
    | refine Or.inl (Exists.intro _ (And.intro rfl ?_))
    | refine Or.inr (Exists.intro _ (And.intro rfl ?_))
    | refine And.intro (Or.inl (And.intro (by omega) (by omega))) ?_
    | refine And.intro (Or.inr (And.intro (by omega) (by omega))) ?_
    | refine And.intro (And.intro (by omega) (by omega)) ?_
    | refine And.intro (by decide) ?_
    | fail))
section
variable {P : Program} {wo : World} {K : PySem.W.Frag} {mg : Str → Option Value} {base : Heap} {T : Tb}
def encP (kvs : List (Nat × List Nat)) : List (Int × Da) := kvs.map fun q => ((q.1 : Int), natsD q.2)
theorem dvalP_none {kvs : List (Nat × List Nat)} {k : Nat} (h : k ∉ kvs.map (·.1)) : dval (encP kvs) (k : Int) = none := by
  unfold dval encP
  rw [List.find?_eq_none.mpr fun x hx => ?_]
  · rfl
  · obtain ⟨p, hp, rfl⟩ := List.mem_map.mp hx
    rw [decide_eq_true_eq]
    intro e
    have e : (p.1 : Int) = (k : Int) := e
    exact h (List.mem_map.mpr ⟨p, hp, by omega⟩)
theorem dvalP_some {kvs : List (Nat × List Nat)} {k : Nat} {d : List Nat} (nd : (kvs.map (·.1)).Nodup) (h : (k, d) ∈ kvs) : dval (encP kvs) (k : Int) = some (natsD d) := by
  induction kvs with
  | nil => cases h
  | cons p kvs ih =>
    rw [List.map_cons] at nd
    obtain ⟨n1, n2⟩ := List.nodup_cons.mp nd
    unfold encP dval
    rw [List.map_cons]
    rcases List.mem_cons.mp h with e | h
    · subst e
      rw [List.find?_cons_of_pos (by simp)]
      rfl
    · have hne : ¬ (p.1 : Int) = (k : Int) := fun e => n1 (List.mem_map.mpr ⟨(k, d), h, by show k = p.1; omega⟩)
      rw [List.find?_cons_of_neg (by simpa using hne)]
      exact ih n2 h
theorem dvalP_isSome {kvs : List (Nat × List Nat)} {k : Nat} (nd : (kvs.map (·.1)).Nodup) : (dval (encP kvs) (k : Int)).isSome = decide (k ∈ kvs.map (·.1)) := by
  by_cases h : k ∈ kvs.map (·.1)
  · obtain ⟨p, hp, rfl⟩ := List.mem_map.mp h
    rw [dvalP_some nd (d := p.2) hp, decide_eq_true h]; rfl
  · rw [dvalP_none h, decide_eq_false h]; rfl
/-- a path to h, of n settings at most -/
structure PathTo (b : Book) (lot : List Nat) (n h : Nat) (P : List Nat) : Prop where
  way : Way b lot P
  last : P.getLast? = some h
  len : P.length ≤ n
  lt : h < b.rig.m
structure PathsOk (b : Book) (lot : List Nat) (kvs : List (Nat × List Nat)) : Prop where
  nd : (kvs.map (·.1)).Nodup
  path : ∀ q ∈ kvs, PathTo b lot 10 q.1 q.2
theorem PathTo.snoc {b : Book} {lot : List Nat} {n h k : Nat} {P : List Nat} (o : b.rig.Ok) (p : PathTo b lot n h P) (a : Adj b lot h k) : PathTo b lot (n + 1) k (P ++ [k]) := by
  obtain ⟨l, rfl⟩ : ∃ l, P = l ++ [h] := by
    have := p.last
    cases P with
    | nil => cases this
    | cons x P =>
      rw [List.getLast?_eq_some_getLast (by simp)] at this
      exact ⟨(x :: P).dropLast, by rw [← Option.some.inj this]; exact (List.dropLast_concat_getLast (by simp)).symm⟩
  refine ⟨?_, by simp, ?_, (a.lt o).2⟩
  · rw [List.append_assoc]
    exact p.way.snoc a
  · have := p.len
    rw [List.length_append, List.length_singleton]; omega
theorem PathTo.up {b : Book} {lot : List Nat} {n m h : Nat} {P : List Nat} (p : PathTo b lot n h P) (e : n ≤ m) : PathTo b lot m h P := ⟨p.way, p.last, Nat.le_trans p.len e, p.lt⟩
theorem sub_at {ω ω' : Om} {p : Addr} {c : Cel} (h : Sub ω ω') (e : ω' p = some c) : Sub (ω.set p c) ω' := fun a x q => by
  by_cases ha : a = p
  · subst ha; rw [Om.set_same] at q; cases q; exact e
  · rw [Om.set_ne ha] at q; exact h a x q
def sp_law_paths : Dsp := fun ds ω R => ∃ (b : Book) (lot : List Nat) (g : Nat), ds = [bookD b, natsD lot, natD g] ∧ b.Ok ∧ g < b.rig.m ∧ ∀ p kvs, ω p = none → PathsOk b lot kvs → R (.ptr p) (ω.set p (.dct (encP kvs)))
theorem sc_law_paths : FnScope ["_law_book", "_law_lot", "_law_g", "_law_found", "_law_edge", "_law_turn", "_law_later", "_law_path", "_law_h"] ["_law_book", "_law_lot", "_law_g"] (defScope s_law_paths) := ⟨rfl, rfl, rfl, by decide +kernel, rfl, by decide +kernel, by decide +kernel⟩
theorem D_law_paths (Z : Zp K mg base T) : Df P wo K mg base T "_law_paths" 4 sp_law_paths := by
  obtain ⟨⟨fd, F⟩, hm⟩ := Z.df 72 d_law_paths rfl rfl
  have D_law_next := D_law_next (P := P) (wo := wo) Z
  refine def_okS F sc_law_paths hm (fun _ _ _ _ _ _ us hl => match us, hl with | [_, _, _], _ => rfl) (by walk_at "len") fun cdv A outer st H E hr => ?_
  have nd := sc_law_paths.nd
  refine ⟨_, (ssc (spar 3 4 rfl nd (xac xdnew (xac (xlst (xac (xtup (xac (xv 2) xan)) xan)) xan)))
    (ssc (sdput hr (xv 3) (xv 2) (xtup (xac (xv 2) xan)))
    (ssc (sfor PassesOwn.never rfl (xir Z.range (xbi (bi_len Z.len) (xac (xix (xix (xv 0) xint) xint) xan))) (xg 5 nd) (ssc (sset 6 nd (xnew xan))
    (ssc (sfor PassesOwn.never rfl (xil (xbi (bi_sortedX Z.sorted) (xac (xv 4) xan))) (xg 7 nd) (ss1 (sfor PassesOwn.never rfl (xil (xcall D_law_next (hr.mono (by first | decide | omega)) (xac (xv 0) (xac (xv 1) (xac (xix (xv 7) (xsub (xbi (bi_len Z.len) (xac (xv 7) xan)) xint)) xan))))) (xg 8 nd) (ss1 (sif (tdnin hr (xv 8) (xv 3)) (ssc (sdput hr (xv 3) (xv 8) (xcat (xv 7) (xtup (xac (xv 8) xan))))
    (ss1 (sexpr (xappend (xv 6) (xac (xcat (xv 7) (xtup (xac (xv 8) xan))) xan))))) ssn)))))
    (ss1 (sset 4 nd (xfz (xv 6)))))))
    (ss1 (sret (xv 3)))))), fun ds ω R h => ?_⟩
  obtain ⟨b, lot, g, rfl, o, hg, q⟩ := h
  have o1 := o.rig
  have hm := o1.m2
  walk_at "sw"
  intro pd hpd
  walk_at "sw"
  have hml : b.rig.signs.length = b.rig.m := rfl
  rw [List.length_map, Int.toNat_natCast, rgD_nat, hml]
  refine ⟨by omega, ?_⟩
  refine for_on (List.range b.rig.m) natD (fun i ρ' ω' => Hold <| ∃ (kvs : List (Nat × List Nat)) (edge : List (List Nat)) (s5 s6 s7 s8 : Option Da), ρ' = [some (bookD b), some (natsD lot), some (natD g), some (.ptr pd), some (.lst (edge.map natsD)), s5, s6, s7, s8] ∧ ω' pd = some (.dct (encP kvs)) ∧ Sub ω ω' ∧ (kvs.map (·.1)).Nodup ∧ (∀ q ∈ kvs, PathTo b lot (1 + i) q.1 q.2) ∧ ∀ P ∈ edge, ∃ h, PathTo b lot (1 + i) h P)
    ⟨[(g, [g])], [[g]], _, _, _, _, rfl, Om.set_same, ((Sub.refl ω).new hpd).put hpd, by simp, fun q hq => by
      rw [List.mem_singleton.mp hq]; exact ⟨trivial, rfl, by simp, hg⟩, fun P hP => by
      rw [List.mem_singleton.mp hP]; exact ⟨g, trivial, rfl, by simp, hg⟩⟩ (fun i i' ρ' ω' hi hI => ?_) fun ρ' ω' hI => ?_
  · obtain ⟨kvs, edge, _, _, _, _, rfl, hk, hs, nd, hp, he⟩ := hI
    have hil : i < b.rig.m := by have := (List.getElem?_eq_some_iff.mp hi).1; rwa [List.length_range] at this
    walk_at "sw"
    intro pl hpl
    have hne : pl ≠ pd := fun z => by subst z; rw [hk] at hpl; cases hpl
    have hne' : pd ≠ pl := fun z => hne z.symm
    walk_at "sw"
    refine do_sorted edge rfl (fun P hP e => by obtain ⟨h, p⟩ := he P hP; have := p.last; rw [e] at this; cases this) fun ms hms _ => ?_
    have he2 : ∀ P ∈ ms, ∃ h, PathTo b lot (1 + i) h P := fun P hP => he P (hms.mem_iff.mp hP)
    walk_at "sw"
    refine for_on ms natsD (fun j ρ2 ω2 => Hold <| ∃ (kvs2 new : List (Nat × List Nat)) (s7 s8 : Option Da), ρ2 = [some (bookD b), some (natsD lot), some (natD g), some (.ptr pd), some (.lst (edge.map natsD)), some (natD i'), some (.ptr pl), s7, s8] ∧ ω2 pd = some (.dct (encP kvs2)) ∧ ω2 pl = some (.lst ((new.map (·.2)).map natsD)) ∧ Sub ω ω2 ∧ kvs2 = kvs ++ new ∧ (kvs2.map (·.1)).Nodup ∧ (∀ q ∈ kvs2, PathTo b lot (1 + (i + 1)) q.1 q.2))
      ⟨kvs, [], _, _, rfl, (Om.set_ne hne').trans hk, Om.set_same, hs.new hpl, by rw [List.append_nil], nd, fun q hq => (hp q hq).up (by omega)⟩ (fun j P ρ2 ω2 hj hI => ?_) fun ρ2 ω2 hI => ?_
    · obtain ⟨kvs2, new, _, _, rfl, hk2, hl2, hs2, e2, nd2, hp2⟩ := hI
      obtain ⟨gl, hP⟩ := he2 P (List.mem_of_getElem? hj)
      have eal := at_len hP.last
      walk_at "sw"
      intro hs6 hs6l hs6m
      walk_at "sw"
      refine for_on hs6 natD (fun k ρ3 ω3 => Hold <| ∃ (kvs3 new3 : List (Nat × List Nat)) (s8 : Option Da), ρ3 = [some (bookD b), some (natsD lot), some (natD g), some (.ptr pd), some (.lst (edge.map natsD)), some (natD i'), some (.ptr pl), some (natsD P), s8] ∧ ω3 pd = some (.dct (encP kvs3)) ∧ ω3 pl = some (.lst ((new3.map (·.2)).map natsD)) ∧ Sub ω ω3 ∧ kvs3 = kvs ++ new3 ∧ (kvs3.map (·.1)).Nodup ∧ (∀ q ∈ kvs3, PathTo b lot (1 + (i + 1)) q.1 q.2))
        ⟨kvs2, new, _, rfl, hk2, hl2, hs2, e2, nd2, hp2⟩ (fun k h ρ3 ω3 hh hJ => ?_) fun ρ3 ω3 hJ => ?_
      · obtain ⟨kvs3, new3, _, rfl, hk3, hl3, hs3, e3, nd3, hp3⟩ := hJ
        have hadj : Adj b lot gl h := (hs6m h).mp (List.mem_of_getElem? hh)
        have hlen3 : kvs3.length ≤ 4 := by
          have := nodup_len (n := b.rig.m) nd3 fun x hx => by
            obtain ⟨q, hq, rfl⟩ := List.mem_map.mp hx
            exact (hp3 q hq).lt
          rw [List.length_map] at this
          omega
        have hPl := hP.len
        walk_at "sw"
        by_cases hin : h ∈ kvs3.map (·.1)
        · have e : (!(dval (encP kvs3) (h : Int)).isSome) = false := by rw [dvalP_isSome nd3, decide_eq_true hin]; rfl
          show if (!(dval (encP kvs3) (h : Int)).isSome) = true then _ else _
          rw [e]
          exact iteF ⟨kvs3, new3, _, rfl, hk3, hl3, hs3, e3, nd3, hp3⟩
        · have e : (!(dval (encP kvs3) (h : Int)).isSome) = true := by rw [dvalP_isSome nd3, decide_eq_false hin]; rfl
          have hdn := dvalP_none hin
          have hel : (encP kvs3).length < 100000 := by unfold encP; rw [List.length_map]; omega
          have hnl : new3.length ≤ 4 := by rw [e3, List.length_append] at hlen3; omega
          have hll : ((new3.map (·.2)).map natsD).length < 100000 := by rw [List.length_map, List.length_map]; omega
          have hcat : (P.map natD).length + [natD h].length ≤ 100000 := by
            have h1 : [natD h].length = 1 := rfl
            rw [List.length_map, h1]; omega
          have ecat : Da.tup (P.map natD ++ [natD h]) = natsD (P ++ [h]) := by unfold natsD; rw [List.map_append]; rfl
          show if (!(dval (encP kvs3) (h : Int)).isSome) = true then _ else _
          rw [e]
          walk_at "sw"
          rw [ecat]
          have ek : encP kvs3 ++ [((h : Int), natsD (P ++ [h]))] = encP (kvs3 ++ [(h, P ++ [h])]) := by
            unfold encP; rw [List.map_append]; rfl
          refine ⟨kvs3 ++ [(h, P ++ [h])], new3 ++ [(h, P ++ [h])], _, rfl, ?_, ?_, (hs3.put hpd).put (hs.no hpl), by rw [e3, List.append_assoc], ?_, fun q hq => ?_⟩
          · rw [Om.set_ne hne', Om.set_same, ← ek]
          · rw [Om.set_same, List.map_append, List.map_append]; rfl
          · rw [List.map_append]
            refine List.nodup_append.mpr ⟨nd3, by simp, fun u hu v hv e => ?_⟩
            have hv : v = h := by simpa using hv
            subst e
            rw [hv] at hu
            exact hin hu
          · rcases List.mem_append.mp hq with hq | hq
            · exact hp3 q hq
            · rw [List.mem_singleton.mp hq]
              exact (hP.snoc o1 hadj).up (by omega)
      · obtain ⟨kvs3, new3, _, rfl, hk3, hl3, hs3, e3, nd3, hp3⟩ := hJ
        exact ⟨kvs3, new3, _, _, rfl, hk3, hl3, hs3, e3, nd3, hp3⟩
    · obtain ⟨kvs2, new, _, _, rfl, hk2, hl2, hs2, e2, nd2, hp2⟩ := hI
      walk_at "sw"
      refine ⟨kvs2, new.map (·.2), _, _, _, _, rfl, by rw [Om.del_ne hne']; exact hk2, hs2.del (hs.no hpl), nd2, fun q hq => (hp2 q hq).up (by omega), fun P hP => ?_⟩
      obtain ⟨q, hq, rfl⟩ := List.mem_map.mp hP
      exact ⟨q.1, (hp2 q (by rw [e2]; exact List.mem_append_right _ hq)).up (by omega)⟩
  · obtain ⟨kvs, edge, _, _, _, _, rfl, hk, hs, nd, hp, he⟩ := hI
    rw [List.length_range] at hp
    walk_at "sw"
    exact ⟨_, sub_at hs hk, q pd kvs hpd ⟨nd, fun q hq => (hp q hq).up (by omega)⟩⟩
end
end Wr
set_option maxHeartbeats 4000000
/-! what is drawn: numbers, things, parts. -/
namespace Wr
open PySem PySem.Spec PyProof.Rows L2 Dl
local macro_rules
  | `(tactic| walk_at "len") => `(tactic| (intro ds ω R h; repeat (first | (obtain ⟨e, _⟩ := h; subst e; rfl) | (obtain ⟨_, h⟩ := h))))
  | `(tactic| walk_at "st1") => `(tactic| first
    | apply Exists.intro
    | refine And.intro rfl ?_ | refine iteT ?_ | refine iteF ?_
    | refine And.intro (lst_ptr (by assumption)) ?_ | refine And.intro (seq_ptr (by assumption)) ?_ | refine And.intro (dct_ptr (by assumption)) ?_
    | refine And.intro (lst_ptr Om.set_same) ?_ | refine And.intro (seq_ptr Om.set_same) ?_ | refine And.intro Om.set_same ?_
    | refine And.intro ⟨_, lst_ptr (by assumption)⟩ ?_ | refine And.intro ⟨_, lst_ptr Om.set_same⟩ ?_ | refine And.intro ⟨_, rfl⟩ ?_ | refine And.intro ⟨_, lst_ptr ((Om.set_ne (by assumption)).trans (by assumption))⟩ ?_
    | refine And.intro ((Om.set_ne (by assumption)).trans (by assumption)) ?_ | refine And.intro (lst_ptr ((Om.set_ne (by assumption)).trans (by assumption))) ?_
    | refine And.intro (by assumption) ?_ | refine And.intro (ix_map (by assumption)) ?_
    | refine And.intro (by omega) ?_
    | refine do_all (by rfl) ?_ | refine eq_nat ?_ | refine ne_nat ?_ | refine eq_nats ?_ | refine ne_nats ?_ | refine in_nats ?_ | refine nin_nats ?_)
  | `(tactic| walk_at "st") => `(tactic| repeat walk_at "st1")
local macro_rules
  | `(tactic| walk_at "sw") => `(tactic| repeat (first
    | walk_at "st1"
    | refine Or.inl (Exists.intro _ (And.intro rfl ?_))
    | refine Or.inr (Exists.intro _ (And.intro rfl ?_))
    | refine And.intro (Or.inl (And.intro (by omega) (by omega))) ?_
    | refine And.intro (Or.inr (And.intro (by omega) (by omega))) ?_
    | refine And.intro (And.intro (by omega) (by omega)) ?_
    | refine And.intro (by decide) ?_
    | fail))
section
variable {P : Program} {wo : World} {K : PySem.W.Frag} {mg : Str → Option Value} {base : Heap} {T : Tb}
def sp_law_pool : Dsp := fun ds ω R => ∃ l : List Int, ds = [.lst (l.map .int), .int 0] ∧ l.length ≤ 1000 ∧ ∀ p, ω p = none → R (.ptr p) (ω.set p .src)
theorem cl_ints (l : List Int) : clAll (l.map Da.int) = true := clAll_map fun _ _ => rfl
theorem dep_ints (l : List Int) : depAll (l.map Da.int) ≤ 50 := depAll_map fun _ _ => Nat.zero_le _
theorem max_nonneg (c : Int) : 0 ≤ gMax c (-1 - c) := by
  unfold gMax
  split <;> omega
theorem b2_01 (k : Bool) : b2 k = 0 ∨ b2 k = 1 := by cases k <;> simp [b2]
theorem mul_b2 {x : Int} (h : 0 ≤ x) (k : Bool) : 0 ≤ x * b2 k := by
  rcases b2_01 k with e | e <;> rw [e] <;> omega
theorem cmul_b2 (x : Int) (k : Bool) : CMul x (b2 k) := by
  rcases b2_01 k with e | e <;> rw [e] <;> exact .inr (by constructor <;> decide)
theorem sc_law_pool : FnScope ["_law_script", "_law_k", "_law_cell", "_law_big", "_law_mixed_here"] ["_law_script", "_law_k"] (defScope s_law_pool) := ⟨rfl, rfl, rfl, by decide +kernel, rfl, by decide +kernel, by decide +kernel⟩
theorem D_law_pool (Z : Zp K mg base T) : Df P wo K mg base T "_law_pool" 1 sp_law_pool := by
  obtain ⟨⟨fd, F⟩, hm⟩ := Z.df 56 d_law_pool rfl rfl
  refine def_ok F sc_law_pool hm (fun _ _ _ _ _ _ us hl => match us, hl with | [_, _], _ => rfl) (by walk_at "len") fun cdv A outer st H E hr => ?_
  have nd := sc_law_pool.nd
  refine ⟨_, (ssc (sset 2 nd xint)
    (ssc (sif (tlt (xv 1) (xbi (bi_len Z.len) (xac (xv 0) xan))) (ss1 (sset 2 nd (xix (xv 0) (xv 1)))) (ss1 (sif (tne hr (xv 0) (xlst xan)) (ss1 (sset 2 nd (xix (xv 0) xint))) ssn)))
    (ssc (sset 3 nd (xbi (bi_max2 rfl Z.max) (xac (xbi (bi_int Z.int) (xac (xv 2) xan)) (xac (xbi (bi_int Z.int) (xac (xsub (xneg xint) (xv 2)) xan)) xan))))
    (ssc (sset 4 nd (xmod (xbi (bi_int Z.int) (xac (xmul (xadd (xadd (xadd (xmod (xbi (bi_int Z.int) (xac (xv 3) xan)) xint) (xmul (xmul xint (xv 1)) (xv 1))) (xmul xint (xv 1))) xint) xint) xan)) xint))
    (ss1 (sret (xsrcNew (xac (xmul (xv 3) (xbi (bi_int Z.int) (xac (xand (xge (xv 3) (xpow xint xint)) (xone (xlt (xv 1) (xbi (bi_len Z.len) (xac (xv 0) xan))))) xan))) (xac (xv 4) xan))))))))), fun ds ω R h => ?_⟩
  obtain ⟨l, rfl, hl, q⟩ := h
  cases l with
  | nil =>
    walk_at "sw"
    refine ne_nil (enc := Da.int) (m := []) rfl (Nat.zero_le _) ?_
    walk_at "sw"
    refine ⟨cmul_b2 _ false, ?_⟩
    walk_at "sw"
    exact q
  | cons c l =>
    have ea : atI ((c :: l).map Da.int) 0 = some (.int c) := ix_map (enc := Da.int) (i := 0) rfl
    walk_at "sw"
    rw [List.length_map, decide_eq_true (show (0 : Int) < ((c :: l).length : Int) by rw [List.length_cons]; omega)]
    walk_at "sw"
    split
    · walk_at "sw"
      refine ⟨cmul_b2 _ _, ?_⟩
      walk_at "sw"
      refine ⟨mul_b2 (max_nonneg _) _, ?_⟩
      walk_at "sw"
      exact q
    · walk_at "sw"
      refine ⟨cmul_b2 _ false, ?_⟩
      walk_at "sw"
      refine ⟨mul_b2 (max_nonneg _) false, ?_⟩
      walk_at "sw"
      exact q
theorem emod_nat {i : Int} {t : Nat} (h : 0 < t) : ∃ k : Nat, k < t ∧ i % (t : Int) = (k : Int) := by
  have h1 := Int.emod_nonneg i (show (t : Int) ≠ 0 by omega)
  have h2 := Int.emod_lt_of_pos i (show (0 : Int) < (t : Int) by omega)
  exact ⟨(i % (t : Int)).toNat, by omega, by omega⟩
def sp_law_take : Dsp := fun ds ω R => ∃ (p : Addr) (t : Nat), ds = [.ptr p, natD t] ∧ ω p = some .src ∧ 0 < t ∧ t < 1000 ∧ ∀ k : Nat, k < t → R (natD k) ω
theorem sc_law_take : FnScope ["_law_source", "_law_top", "_law_drawn"] ["_law_source", "_law_top"] (defScope s_law_take) := ⟨rfl, rfl, rfl, by decide +kernel, rfl, by decide +kernel, by decide +kernel⟩
theorem D_law_take (Z : Zp K mg base T) : Df P wo K mg base T "_law_take" 1 sp_law_take := by
  obtain ⟨⟨fd, F⟩, hm⟩ := Z.df 57 d_law_take rfl rfl
  refine def_ok F sc_law_take hm (fun _ _ _ _ _ _ us hl => match us, hl with | [_, _], _ => rfl) (by walk_at "len") fun cdv A outer st H E hr => ?_
  have nd := sc_law_take.nd
  refine ⟨_, (ssc (sif (tgt (xsrc (b := false) (xv 0)) xint) (ssc (sset 2 nd (xmod (xbi (bi_int Z.int) (xac (xsrc (b := false) (xv 0)) xan)) (xv 1)))
    (ssc (ssetsrc (b := false) (xdiv (xsrc (b := false) (xv 0)) (xv 1)) (xv 0))
    (ss1 (sret (xv 2))))) ssn)
    (ssc (ssetsrc (b := true) (xmod (xbi (bi_int Z.int) (xac (xadd (xmul (xsrc (b := true) (xv 0)) xint) xint) xan)) xint) (xv 0))
    (ss1 (sret (xmod (xbi (bi_int Z.int) (xac (xdiv (xmod (xbi (bi_int Z.int) (xac (xmul (xsrc (b := true) (xv 0)) (xsrc (b := true) (xv 0))) xan)) xint) xint) xan)) (xv 1)))))), fun ds ω R h => ?_⟩
  obtain ⟨p, t, rfl, hp, h0, ht, q⟩ := h
  have fin : ∀ i : Int, R (.int (i % (t : Int))) ω := fun i => by
    obtain ⟨k, h1, h2⟩ := emod_nat (i := i) h0
    rw [h2]; exact q k h1
  walk_at "sw"
  intro i hi hib
  walk_at "sw"
  cases e : decide (0 < i) with
  | true =>
    walk_at "sw"
    intro j hj _
    walk_at "sw"
    intro j2 hj2 _
    walk_at "sw"
    refine ⟨Int.ediv_nonneg hj2 (by omega), fun z => (by cases z), ?_⟩
    walk_at "sw"
    exact fin j
  | false =>
    walk_at "sw"
    intro j hj hjb
    have hj3 := hjb rfl
    walk_at "sw"
    intro j2 hj2 hj2b
    have hj4 := hj2b rfl
    walk_at "sw"
    intro j5 hj5 hj5b
    have hj6 := hj5b rfl
    walk_at "sw"
    exact fin _
def sp_law_one : Dsp := fun ds ω R => ∃ (p : Addr) (d : Da) (l : List Da), ds = [.ptr p, d] ∧ ω p = some .src ∧ seqOf ω d = some l ∧ l ≠ [] ∧ l.length < 1000 ∧ ∀ x ∈ l, R x ω
theorem sc_law_one : FnScope ["_law_source", "_law_things"] ["_law_source", "_law_things"] (defScope s_law_one) := ⟨rfl, rfl, rfl, by decide +kernel, rfl, by decide +kernel, by decide +kernel⟩
theorem D_law_one (Z : Zp K mg base T) : Df P wo K mg base T "_law_one" 2 sp_law_one := by
  obtain ⟨⟨fd, F⟩, hm⟩ := Z.df 58 d_law_one rfl rfl
  have D_law_take := D_law_take (P := P) (wo := wo) Z
  refine def_ok F sc_law_one hm (fun _ _ _ _ _ _ us hl => match us, hl with | [_, _], _ => rfl) (by walk_at "len") fun cdv A outer st H E hr => ?_
  have nd := sc_law_one.nd
  refine ⟨_, (ss1 (sret (xix (xv 1) (xcall D_law_take (hr.mono (by first | decide | omega)) (xac (xv 0) (xac (xbi (bi_len Z.len) (xac (xv 1) xan)) xan)))))), fun ds ω R h => ?_⟩
  obtain ⟨p, d, l, rfl, hp, hd, hne, hl, q⟩ := h
  have h0 : 0 < l.length := Nat.pos_of_ne_zero fun z => hne (List.eq_nil_of_length_eq_zero z)
  walk_at "sw"
  intro k hk
  have ea : atI l ((k : Nat) : Int) = some l[k] := atI_nat (List.getElem?_eq_getElem hk)
  walk_at "sw"
  exact q _ (List.getElem_mem hk)
theorem getElem_erase_perm {α : Type} : ∀ {l : List α} {k : Nat} {x : α}, l[k]? = some x → (x :: l.eraseIdx k).Perm l
  | y :: l, 0, x, h => by
    have h : y = x := by simpa using h
    subst h
    exact .refl _
  | y :: l, k + 1, x, h => by
    have h : l[k]? = some x := by simpa using h
    show (x :: y :: l.eraseIdx k).Perm (y :: l)
    exact (List.Perm.swap _ _ _).trans ((getElem_erase_perm h).cons y)
def sp_law_mixed : Dsp := fun ds ω R => ∃ (p : Addr) (l : List Da), ds = [.ptr p, .lst l] ∧ ω p = some .src ∧ l.length < 1000 ∧ ∀ m : List Da, m.Perm l → R (.lst m) ω
theorem sc_law_mixed : FnScope ["_law_source", "_law_things", "_law_rest", "_law_found", "_law_turn"] ["_law_source", "_law_things"] (defScope s_law_mixed) := ⟨rfl, rfl, rfl, by decide +kernel, rfl, by decide +kernel, by decide +kernel⟩
theorem D_law_mixed (Z : Zp K mg base T) : Df P wo K mg base T "_law_mixed" 2 sp_law_mixed := by
  obtain ⟨⟨fd, F⟩, hm⟩ := Z.df 59 d_law_mixed rfl rfl
  have D_law_take := D_law_take (P := P) (wo := wo) Z
  refine def_okS F sc_law_mixed hm (fun _ _ _ _ _ _ us hl => match us, hl with | [_, _], _ => rfl) (by walk_at "len") fun cdv A outer st H E hr => ?_
  have nd := sc_law_mixed.nd
  refine ⟨_, (ssc (spar 2 3 rfl nd (xac (xbi (bi_list Z.list) (xac (xv 1) xan)) (xac (xnew xan) xan)))
    (ssc (sfor PassesOwn.never rfl (xir Z.range (xbi (bi_len Z.len) (xac (xv 1) xan))) (xg 4 nd) (ss1 (sexpr (xappend (xv 3) (xac (xpopAt (xv 2) (xac (xcall D_law_take (hr.mono (by first | decide | omega)) (xac (xv 0) (xac (xbi (bi_len Z.len) (xac (xv 2) xan)) xan))) xan)) xan)))))
    (ss1 (sret (xfz (xv 3)))))), fun ds ω R h => ?_⟩
  obtain ⟨p, l, rfl, hp, hl, q⟩ := h
  walk_at "sw"
  intro pr hpr
  walk_at "sw"
  intro pf hpf
  walk_at "sw"
  have hne : pr ≠ pf := fun z => by subst z; rw [Om.set_same] at hpf; cases hpf
  have hne' : pf ≠ pr := fun z => hne z.symm
  have hf0 : ω pf = none := by rw [Om.set_ne hne'] at hpf; exact hpf
  rw [Int.toNat_natCast, rgD_nat]
  refine for_on (List.range l.length) natD (fun i ρ' ω' => Hold <| (∃ u, ρ' = [some (.ptr p), some (.lst l), some (.ptr pr), some (.ptr pf), u]) ∧ ∃ rest found : List Da, ω' pr = some (.lst rest) ∧ ω' pf = some (.lst found) ∧ Sub ω ω' ∧ rest.length + i = l.length ∧ (rest ++ found).Perm l) ⟨⟨_, rfl⟩, l, [], (Om.set_ne hne).trans Om.set_same, Om.set_same, ((Sub.refl ω).new hpr).put hf0, by omega, by rw [List.append_nil]⟩ (fun i i' ρ' ω' hi hI => ?_) fun ρ' ω' hI => ?_
  · obtain ⟨⟨_, rfl⟩, rest, found, h1, h2, hs, hle, hpm⟩ := hI
    have hil : i < l.length := by have := (List.getElem?_eq_some_iff.mp hi).1; rwa [List.length_range] at this
    have hp2 := hs p _ hp
    have h0 : 0 < rest.length := by omega
    have hfl : found.length < 100000 := by have := hpm.length_eq; rw [List.length_append] at this; omega
    walk_at "sw"
    intro k hk
    have hk2 : k < 100000 := by omega
    have ek : rest[k]? = some rest[k] := List.getElem?_eq_getElem hk
    have h2' : (ω'.set pr (.lst (rest.eraseIdx k))) pf = some (.lst found) := (Om.set_ne hne').trans h2
    walk_at "sw"
    refine ⟨⟨_, rfl⟩, rest.eraseIdx k, found ++ [rest[k]], by rw [Om.set_ne hne, Om.set_same], Om.set_same, (hs.put hpr).put hf0, ?_, ?_⟩
    · rw [List.length_eraseIdx_of_lt hk]; omega
    · have e := getElem_erase_perm ek
      have e1 : (rest.eraseIdx k ++ (found ++ [rest[k]])).Perm ((rest[k] :: rest.eraseIdx k) ++ found) := by
        rw [← List.append_assoc]
        exact (List.perm_append_comm).trans (List.Perm.refl _)
      exact e1.trans ((e.append_right found).trans hpm)
  · obtain ⟨⟨_, rfl⟩, rest, found, h1, h2, hs, hle, hpm⟩ := hI
    rw [List.length_range] at hle
    have er : rest = [] := List.eq_nil_of_length_eq_zero (by omega)
    subst er
    walk_at "sw"
    exact ⟨ω, hs.del hf0, q found hpm⟩
theorem src_sub {ω ω' : Om} {p : Addr} (h : Sub ω ω') (e : ω p = some .src) : ω' p = some .src := h p _ e
def sp_law_some : Dsp := fun ds ω R => ∃ (p : Addr) (l : List Nat), ds = [.ptr p, natsD l] ∧ ω p = some .src ∧ l.length < 1000 ∧ ∀ m : List Nat, m.Sublist l → R (.lst (m.map natD)) ω
theorem sc_law_some : FnScope ["_law_source", "_law_things", "_law_thing"] ["_law_source", "_law_things"] (defScope s_law_some) := ⟨rfl, rfl, rfl, by decide +kernel, rfl, by decide +kernel, by decide +kernel⟩
theorem D_law_some (Z : Zp K mg base T) : Df P wo K mg base T "_law_some" 2 sp_law_some := by
  obtain ⟨⟨fd, F⟩, hm⟩ := Z.df 60 d_law_some rfl rfl
  have D_law_take := D_law_take (P := P) (wo := wo) Z
  refine def_ok F sc_law_some hm (fun _ _ _ _ _ _ us hl => match us, hl with | [_, _], _ => rfl) (by walk_at "len") fun cdv A outer st H E hr => ?_
  have nd := sc_law_some.nd
  refine ⟨_, (ss1 (sret (xlc (own := [("_law_thing", 2)]) rfl nd (by rfl) (xit (xv 1)) (fun _ _ _ _ _ => (xg 2 nd)) (fun _ _ _ _ _ => (xt1 (teq hr (xcall D_law_take (hr.mono (by first | decide | omega)) (xac (xv 0) (xac xint xan))) xint))) (fun _ _ _ _ _ => (xv 2))))), fun ds ω R h => ?_⟩
  obtain ⟨p, l, rfl, hp, hl, q⟩ := h
  walk_at "sw"
  refine lc_rel' (fun i acc => ∃ m : List Nat, m.Sublist (l.take i) ∧ acc = m.map natD) (by rw [List.length_map]; omega) ⟨[], List.nil_sublist _, rfl⟩ (fun i d acc ω' Q1 Q2 hd hP hs h1 h2 => by
    obtain ⟨m, hm, rfl⟩ := hP
    rw [List.getElem?_map] at hd
    cases ex : l[i]? with
    | none => rw [ex] at hd; cases hd
    | some x =>
      rw [ex] at hd
      cases hd
      have hp2 := hs p _ hp
      walk_at "sw"
      intro k hk
      walk_at "sw"
      cases e : decide (k = 1) with
      | true => exact iteT (by walk_at "sw"; exact h1 _ ⟨m ++ [x], by rw [take_next' ex]; exact hm.append (List.Sublist.refl _), by rw [List.map_append]; rfl⟩)
      | false => exact iteF (h2 ⟨m, by rw [take_next' ex]; exact hm.trans (List.sublist_append_left _ _), rfl⟩)) fun acc _ hP => ?_
  obtain ⟨m, hm, rfl⟩ := hP
  rw [List.length_map, List.take_length] at hm
  walk_at "sw"
  exact q m hm
end
end Wr
set_option maxHeartbeats 4000000
/-! what is drawn: moves, signs, cures, rigs. -/
namespace Wr
open PySem PySem.Spec PyProof.Rows L2 Dl
local macro_rules
  | `(tactic| walk_at "len") => `(tactic| (intro ds ω R h; repeat (first | (obtain ⟨e, _⟩ := h; subst e; rfl) | (obtain ⟨_, h⟩ := h))))
  | `(tactic| walk_at "st1") => `(tactic| first
    | apply Exists.intro
    | refine And.intro rfl ?_ | refine iteT ?_ | refine iteF ?_
    | refine And.intro (lst_ptr (by assumption)) ?_ | refine And.intro (seq_ptr (by assumption)) ?_ | refine And.intro (dct_ptr (by assumption)) ?_
    | refine And.intro (lst_ptr Om.set_same) ?_ | refine And.intro (seq_ptr Om.set_same) ?_ | refine And.intro Om.set_same ?_
    | refine And.intro ⟨_, lst_ptr (by assumption)⟩ ?_ | refine And.intro ⟨_, lst_ptr Om.set_same⟩ ?_ | refine And.intro ⟨_, rfl⟩ ?_ | refine And.intro ⟨_, lst_ptr ((Om.set_ne (by assumption)).trans (by assumption))⟩ ?_
    | refine And.intro ((Om.set_ne (by assumption)).trans (by assumption)) ?_ | refine And.intro (lst_ptr ((Om.set_ne (by assumption)).trans (by assumption))) ?_
    | refine And.intro (by assumption) ?_ | refine And.intro (ix_map (by assumption)) ?_
    | refine And.intro (by omega) ?_
    | refine do_all (by rfl) ?_ | refine eq_nat ?_ | refine ne_nat ?_ | refine eq_nats ?_ | refine ne_nats ?_ | refine in_nats ?_ | refine nin_nats ?_)
  | `(tactic| walk_at "st") => `(tactic| repeat walk_at "st1")
local macro_rules
  | `(tactic| walk_at "sw") => `(tactic| repeat (first
    | walk_at "st1"
    | refine Or.inl (Exists.intro _ (And.intro rfl ?_))
    | refine Or.inr (Exists.intro _ (And.intro rfl ?_))
    | refine And.intro (Or.inl (And.intro (by omega) (by omega))) ?_
    | refine And.intro (Or.inr (And.intro (by omega) (by omega))) ?_
    | refine And.intro (And.intro (by omega) (by omega)) ?_
    | refine And.intro (by decide) ?_
    | fail))
section
variable {P : Program} {wo : World} {K : PySem.W.Frag} {mg : Str → Option Value} {base : Heap} {T : Tb}
theorem rgD_1n (n : Nat) : rgD 1 n = (List.range n).map fun i => natD (1 + i) := by
  rw [rgD_1]
  exact List.map_congr_left fun i _ => by
    show Da.int (1 + (i : Int)) = Da.int ((1 + i : Nat) : Int)
    rw [Int.natCast_add]; rfl
theorem lex_same : ∀ (a b : List Int), HT.lexLt a b = false → HT.lexLt b a = false → a = b
  | [], [], _, _ => rfl
  | [], _ :: _, h, _ => by cases h
  | _ :: _, [], _, h => by cases h
  | x :: a, y :: b, h1, h2 => by
    rw [HT.lexLt_cons] at h1 h2
    by_cases e : x = y
    · rw [if_pos e] at h1
      rw [if_pos e.symm] at h2
      rw [e, lex_same a b h1 h2]
    · rw [if_neg e] at h1
      rw [if_neg fun z => e z.symm] at h2
      have := of_decide_eq_false h1
      have := of_decide_eq_false h2
      omega
/-- sorted lists without doubles ascend -/
theorem lex_asc {l : List (List Nat)} (nd : l.Nodup) (h : l.Pairwise fun x y => HT.lexLt (y.map Int.ofNat) (x.map Int.ofNat) = false) : l.Pairwise natLt := by
  refine (List.Pairwise.and nd h).imp fun {x y} ⟨h1, h2⟩ => ?_
  unfold natLt
  cases e : HT.lexLt (x.map Int.ofNat) (y.map Int.ofNat) with
  | true => rfl
  | false => exact absurd (ofNat_inj (lex_same _ _ e h2)) h1
structure MovesOk (m : Nat) (mv : List (Nat × Nat)) : Prop where
  ma : ∀ p ∈ mv, p.1 < p.2 ∧ p.2 < m
  ms : mv.Pairwise fun p q => p.1 < q.1 ∨ (p.1 = q.1 ∧ p.2 < q.2)
  ml : mv.length ≤ 6
theorem mv_len {m : Nat} {mv : List (Nat × Nat)} (hm : m ≤ 4) (nd : mv.Nodup) (h : ∀ p ∈ mv, p.1 < p.2 ∧ p.2 < m) : mv.length ≤ 6 := by
  refine nodup_sub_len mv [(0, 1), (0, 2), (0, 3), (1, 2), (1, 3), (2, 3)] nd fun p hp => ?_
  obtain ⟨a, c⟩ := p
  obtain ⟨h1, h2⟩ := h _ hp
  have h1 : a < c := h1
  have h2 : c < m := h2
  have hc : c = 1 ∨ c = 2 ∨ c = 3 := by omega
  rcases hc with rfl | rfl | rfl
  · have : a = 0 := by omega
    subst this; simp
  · have : a = 0 ∨ a = 1 := by omega
    rcases this with rfl | rfl <;> simp
  · have : a = 0 ∨ a = 1 ∨ a = 2 := by omega
    rcases this with rfl | rfl | rfl <;> simp
theorem two_lt {p q : Nat × Nat} (h : natLt (twoL p) (twoL q)) : p.1 < q.1 ∨ (p.1 = q.1 ∧ p.2 < q.2) := by
  have h : HT.lexLt [(p.1 : Int), (p.2 : Int)] [(q.1 : Int), (q.2 : Int)] = true := h
  rw [HT.lexLt_cons, HT.lexLt_cons] at h
  by_cases e : (p.1 : Int) = (q.1 : Int)
  · rw [if_pos e] at h
    by_cases e2 : (p.2 : Int) = (q.2 : Int)
    · rw [if_pos e2] at h; cases h
    · rw [if_neg e2] at h
      have := of_decide_eq_true h
      right
      constructor <;> omega
  · rw [if_neg e] at h
    have := of_decide_eq_true h
    left
    omega
def sp_law_joined_moves : Dsp := fun ds ω R => ∃ (p : Addr) (m : Nat), ds = [.ptr p, natD m] ∧ ω p = some .src ∧ 2 ≤ m ∧ m ≤ 4 ∧ ∀ mv, MovesOk m mv → R (.tupN (mv.map pairD)) ω
theorem sc_law_joined_moves : FnScope ["_law_source", "_law_m", "_law_found", "_law_h", "_law_turn", "_law_g"] ["_law_source", "_law_m"] (defScope s_law_joined_moves) := ⟨rfl, rfl, rfl, by decide +kernel, rfl, by decide +kernel, by decide +kernel⟩
theorem D_law_joined_moves (Z : Zp K mg base T) : Df P wo K mg base T "_law_joined_moves" 2 sp_law_joined_moves := by
  obtain ⟨⟨fd, F⟩, hm⟩ := Z.df 77 d_law_joined_moves rfl rfl
  have D_law_take := D_law_take (P := P) (wo := wo) Z
  refine def_okS F sc_law_joined_moves hm (fun _ _ _ _ _ _ us hl => match us, hl with | [_, _], _ => rfl) (by walk_at "len") fun cdv A outer st H E hr => ?_
  have nd := sc_law_joined_moves.nd
  refine ⟨_, (ssc (sset 2 nd (xnew xan))
    (ssc (sfor PassesOwn.never rfl (xir2 Z.range xint (xv 1)) (xg 3 nd) (ssc (sset 5 nd (xcall D_law_take (hr.mono (by first | decide | omega)) (xac (xv 0) (xac (xv 3) xan))))
    (ss1 (sif (tgt (xcall D_law_take (hr.mono (by first | decide | omega)) (xac (xv 0) (xac xint xan))) xint) (ss1 (sexpr (xappend (xv 2) (xac (xtup (xac (xv 5) (xac (xv 3) xan))) xan)))) ssn))))
    (ssc (sfor PassesOwn.never rfl (xir Z.range (xcall D_law_take (hr.mono (by first | decide | omega)) (xac (xv 0) (xac (xv 1) xan)))) (xg 4 nd) (ssc (spar 5 3 rfl nd (xac (xcall D_law_take (hr.mono (by first | decide | omega)) (xac (xv 0) (xac (xv 1) xan))) (xac (xcall D_law_take (hr.mono (by first | decide | omega)) (xac (xv 0) (xac (xv 1) xan))) xan)))
    (ss1 (sif (tw (twand (tne hr (xv 5) (xv 3)) (twand1 (tnin hr (xtup (xac (xbi (bi_min2 rfl Z.min) (xac (xv 5) (xac (xv 3) xan))) (xac (xbi (bi_max2 rfl Z.max) (xac (xv 5) (xac (xv 3) xan))) xan))) (xv 2))))) (ss1 (sexpr (xappend (xv 2) (xac (xtup (xac (xbi (bi_min2 rfl Z.min) (xac (xv 5) (xac (xv 3) xan))) (xac (xbi (bi_max2 rfl Z.max) (xac (xv 5) (xac (xv 3) xan))) xan))) xan)))) ssn))))
    (ss1 (sret (xbi (bi_tupleN Z.tuple) (xac (xbi (bi_sortedX Z.sorted) (xac (xv 2) xan)) xan))))))), fun ds ω R h => ?_⟩
  obtain ⟨p, m, rfl, hp, hm2, hm4, q⟩ := h
  walk_at "sw"
  intro pf hpf
  have hne : p ≠ pf := fun z => by subst z; rw [hp] at hpf; cases hpf
  walk_at "sw"
  rw [show ((m : Int) - 1).toNat = m - 1 from by omega, rgD_1n]
  refine for_on (List.range (m - 1)) (fun i => natD (1 + i)) (fun i ρ' ω' => Hold <| (∃ u v w, ρ' = [some (.ptr p), some (natD m), some (.ptr pf), u, v, w]) ∧ ∃ acc : List (Nat × Nat), ω' = ω.set pf (.lst (acc.map pairD)) ∧ acc.Nodup ∧ ∀ p ∈ acc, p.1 < p.2 ∧ p.2 < m ∧ p.2 < 1 + i) ⟨⟨_, _, _, rfl⟩, [], rfl, .nil, by simp⟩ (fun i i' ρ' ω' hi hI => ?_) fun ρ' ω' hI => ?_
  · obtain ⟨⟨_, _, _, rfl⟩, acc, rfl, nd, ha⟩ := hI
    have hi2 := List.getElem?_eq_some_iff.mp hi
    have hil : i < m - 1 := by have := hi2.1; rwa [List.length_range] at this
    have hik : i' = i := by rw [← hi2.2, List.getElem_range]
    subst hik
    have hp2 : (ω.set pf (.lst (acc.map pairD))) p = some .src := (Om.set_ne hne).trans hp
    have hal := mv_len hm4 nd fun p hp => ⟨(ha p hp).1, (ha p hp).2.1⟩
    have hal2 : (acc.map pairD).length < 100000 := by rw [List.length_map]; omega
    walk_at "sw"
    intro g hg
    walk_at "sw"
    intro k9 hk9
    walk_at "sw"
    generalize decide ((0 : Int) < (k9 : Int)) = bb
    cases bb with
    | true =>
      walk_at "sw"
      refine ⟨⟨_, _, _, rfl⟩, acc ++ [(g, 1 + i')], by rw [Om.set_set, List.map_append]; rfl, ?_, fun p hp => ?_⟩
      · refine List.nodup_append.mpr ⟨nd, by simp, fun u hu v hv e => ?_⟩
        have hv : v = (g, 1 + i') := List.mem_singleton.mp hv
        subst e
        rw [hv] at hu
        have := (ha _ hu).2.2
        have : 1 + i' < 1 + i' := this
        omega
      · rcases List.mem_append.mp hp with hp | hp
        · have := ha p hp
          exact ⟨this.1, this.2.1, by omega⟩
        · rw [List.mem_singleton.mp hp]
          show g < 1 + i' ∧ 1 + i' < m ∧ 1 + i' < 1 + (i' + 1)
          omega
    | false =>
      walk_at "sw"
      exact ⟨⟨_, _, _, rfl⟩, acc, rfl, nd, fun p hp => by have := ha p hp; exact ⟨this.1, this.2.1, by omega⟩⟩
  · obtain ⟨⟨_, _, _, rfl⟩, acc, rfl, nd, ha⟩ := hI
    have ha : ∀ p ∈ acc, p.1 < p.2 ∧ p.2 < m := fun p hp => ⟨(ha p hp).1, (ha p hp).2.1⟩
    have hp2 : (ω.set pf (.lst (acc.map pairD))) p = some .src := (Om.set_ne hne).trans hp
    walk_at "sw"
    intro k hk
    walk_at "sw"
    rw [Int.toNat_natCast, rgD_nat]
    refine for_on (List.range k) natD (fun i ρ' ω' => Hold <| (∃ u v w, ρ' = [some (.ptr p), some (natD m), some (.ptr pf), u, v, w]) ∧ ∃ acc : List (Nat × Nat), ω' = ω.set pf (.lst (acc.map pairD)) ∧ acc.Nodup ∧ ∀ p ∈ acc, p.1 < p.2 ∧ p.2 < m) ⟨⟨_, _, _, rfl⟩, acc, rfl, nd, ha⟩ (fun i i' ρ' ω' hi hI => ?_) fun ρ' ω' hI => ?_
    · clear nd ha hp2
      obtain ⟨⟨_, _, _, rfl⟩, acc, rfl, nd, ha⟩ := hI
      have hp2 : (ω.set pf (.lst (acc.map pairD))) p = some .src := (Om.set_ne hne).trans hp
      have hal := mv_len hm4 nd ha
      have hal2 : (acc.map pairD).length < 100000 := by rw [List.length_map]; omega
      have hcell : (ω.set pf (.lst (acc.map pairD))) pf = some (.lst (acc.map pairD)) := Om.set_same
      walk_at "sw"
      intro g hg
      walk_at "sw"
      intro h hh
      walk_at "sw"
      have e1 : Da.tup [.int (gMin (g : Int) (h : Int)), .int (gMax (g : Int) (h : Int))] = pairD (min g h, max g h) := by
        unfold pairD gMin gMax natD
        by_cases c : h < g
        · rw [if_pos (by omega), if_neg (by omega), Nat.min_eq_right (by omega), Nat.max_eq_left (by omega)]
        · by_cases c2 : g < h
          · rw [if_neg (by omega), if_pos (by omega), Nat.min_eq_left (by omega), Nat.max_eq_right (by omega)]
          · have : g = h := by omega
            subst this
            rw [if_neg (by omega), Nat.min_self, Nat.max_self]
      by_cases c : g = h
      · rw [decide_eq_true c]
        walk_at "sw"
        exact ⟨⟨_, _, _, rfl⟩, acc, rfl, nd, ha⟩
      · rw [decide_eq_false c]
        walk_at "sw"
        rw [e1]
        refine do_nin (P := (min g h, max g h) ∈ acc) (seq_ptr hcell) (pair_cl _) (cl_pairs _) (Nat.le_trans (pair_dep _) (by decide)) (map_mem_inj fun _ _ => pairD_inj) ?_
        by_cases c2 : (min g h, max g h) ∈ acc
        · rw [decide_eq_true c2]
          walk_at "sw"
          exact ⟨⟨_, _, _, rfl⟩, acc, rfl, nd, ha⟩
        · rw [decide_eq_false c2]
          walk_at "sw"
          rw [e1]
          refine ⟨⟨_, _, _, rfl⟩, acc ++ [(min g h, max g h)], by rw [Om.set_set, List.map_append]; rfl, ?_, fun p hp => ?_⟩
          · refine List.nodup_append.mpr ⟨nd, by simp, fun u hu v hv e => ?_⟩
            have hv : v = (min g h, max g h) := List.mem_singleton.mp hv
            subst e
            rw [hv] at hu
            exact c2 hu
          · rcases List.mem_append.mp hp with hp | hp
            · exact ha p hp
            · rw [List.mem_singleton.mp hp]
              show min g h < max g h ∧ max g h < m
              omega
    · clear nd ha hp2
      obtain ⟨⟨_, _, _, rfl⟩, acc, rfl, nd, ha⟩ := hI
      have hcell : (ω.set pf (.lst (acc.map pairD))) pf = some (.lst ((acc.map twoL).map natsD)) := by rw [Om.set_same, List.map_map]; rfl
      walk_at "sw"
      refine do_sorted (acc.map twoL) (seq_ptr hcell) (fun l hl e => by obtain ⟨p, _, e2⟩ := List.mem_map.mp hl; rw [e] at e2; cases e2) fun ms hpm hso => ?_
      obtain ⟨ps, p1, rfl⟩ := perm_map two_inj hpm
      walk_at "sw"
      have e3 : (ps.map twoL).map natsD = ps.map pairD := by rw [List.map_map]; rfl
      rw [e3]
      have nd2 : ps.Nodup := p1.nodup_iff.mpr nd
      have ha2 : ∀ p ∈ ps, p.1 < p.2 ∧ p.2 < m := fun p hp => ha p (p1.mem_iff.mp hp)
      have nd3 : (ps.map twoL).Nodup := List.pairwise_map.mpr (nd2.imp fun {x y} h e => h (two_inj x y e))
      exact ⟨ω, (Sub.refl ω).new hpf, q ps ⟨ha2, (List.pairwise_map.mp (lex_asc nd3 hso)).imp two_lt, mv_len hm4 nd2 ha2⟩⟩
theorem rep_flat (n low : Nat) : Da.tup (List.replicate n [natD low]).flatten = natsD (List.replicate n low) := by
  unfold natsD
  congr 1
  induction n with
  | zero => rfl
  | succ n ih => rw [List.replicate_succ, List.replicate_succ, List.flatten_cons, ih, List.map_cons]; rfl
def sp_law_signs : Dsp := fun ds ω R => ∃ (p : Addr) (n m : Nat), ds = [.ptr p, natD n, natD m] ∧ ω p = some .src ∧ 2 ≤ n ∧ n ≤ 4 ∧ 2 ≤ m ∧ m ≤ 4 ∧ ∀ S : List (List Nat), S.length = m → (∀ s ∈ S, s.length = n ∧ ∀ x ∈ s, x ≤ 9) → R (.tup (S.map natsD)) ω
theorem sc_law_signs : FnScope ["_law_source", "_law_n", "_law_m", "_law_found", "_law_g", "_law_kind", "_law_odd", "_law_low", "_law_x"] ["_law_source", "_law_n", "_law_m"] (defScope s_law_signs) := ⟨rfl, rfl, rfl, by decide +kernel, rfl, by decide +kernel, by decide +kernel⟩
theorem D_law_signs (Z : Zp K mg base T) : Df P wo K mg base T "_law_signs" 2 sp_law_signs := by
  obtain ⟨⟨fd, F⟩, hm⟩ := Z.df 78 d_law_signs rfl rfl
  have D_law_take := D_law_take (P := P) (wo := wo) Z
  refine def_okS F sc_law_signs hm (fun _ _ _ _ _ _ us hl => match us, hl with | [_, _, _], _ => rfl) (by walk_at "len") fun cdv A outer st H E hr => ?_
  have nd := sc_law_signs.nd
  refine ⟨_, (ssc (sset 3 nd (xnew xan))
    (ssc (sfor PassesOwn.never rfl (xir Z.range (xv 2)) (xg 4 nd) (ssc (sset 5 nd (xcall D_law_take (hr.mono (by first | decide | omega)) (xac (xv 0) (xac xint xan))))
    (ssc (sasg (xtup (xac (xcall D_law_take (hr.mono (by first | decide | omega)) (xac (xv 0) (xac (xv 1) xan))) (xac (xcall D_law_take (hr.mono (by first | decide | omega)) (xac (xv 0) (xac xint xan))) xan))) (xgtp rfl (xgc (xg 6 nd) (xgc (xg 7 nd) xgn))))
    (ss1 (sif (tw (twor (teq hr (xv 5) xint) (twor1 (tw (twand (teq hr (xv 4) xint) (twand1 (tlt (xv 5) xint))))))) (ss1 (sexpr (xappend (xv 3) (xac (xrep (xtup (xac (xv 7) xan)) (xv 1)) xan)))) (ss1 (sif (tlt (xv 5) xint) (ss1 (sexpr (xappend (xv 3) (xac (xbi (bi_tuple Z.tuple) (xac (xlc (own := [("_law_x", 8)]) rfl nd (by rfl) (xir Z.range (xv 1)) (fun _ _ _ _ _ => (xg 8 nd)) (fun _ _ _ _ _ => xtn) (fun _ _ _ _ _ => (xadd (xv 7) (xbi (bi_int Z.int) (xac (xeq hr (xv 8) (xv 6)) xan))))) xan)) xan)))) (ss1 (sexpr (xappend (xv 3) (xac (xbi (bi_tuple Z.tuple) (xac (xlc (own := [("_law_x", 8)]) rfl nd (by rfl) (xir Z.range (xv 1)) (fun _ _ _ _ _ => (xg 8 nd)) (fun _ _ _ _ _ => xtn) (fun _ _ _ _ _ => (xadd (xv 7) (xcall D_law_take (hr.mono (by first | decide | omega)) (xac (xv 0) (xac (xsub (xv 5) xint) xan)))))) xan)) xan)))))))))))
    (ss1 (sret (xbi (bi_tuple Z.tuple) (xac (xv 3) xan)))))), fun ds ω R h => ?_⟩
  obtain ⟨p, n, m, rfl, hp, hn2, hn4, hm2, hm4, q⟩ := h
  walk_at "sw"
  intro pf hpf
  have hne : p ≠ pf := fun z => by subst z; rw [hp] at hpf; cases hpf
  walk_at "sw"
  rw [Int.toNat_natCast, rgD_nat]
  refine for_on (List.range m) natD (fun i ρ' ω' => Hold <| (∃ u v w x y, ρ' = [some (.ptr p), some (natD n), some (natD m), some (.ptr pf), u, v, w, x, y]) ∧ ∃ acc : List (List Nat), ω' = ω.set pf (.lst (acc.map natsD)) ∧ acc.length = i ∧ ∀ s ∈ acc, s.length = n ∧ ∀ x ∈ s, x ≤ 9) ⟨⟨_, _, _, _, _, rfl⟩, [], rfl, rfl, by simp⟩ (fun i i' ρ' ω' hi hI => ?_) fun ρ' ω' hI => ?_
  · obtain ⟨⟨_, _, _, _, _, rfl⟩, acc, rfl, hal, ha⟩ := hI
    have hil : i < m := by have := (List.getElem?_eq_some_iff.mp hi).1; rwa [List.length_range] at this
    have hp2 : (ω.set pf (.lst (acc.map natsD))) p = some .src := (Om.set_ne hne).trans hp
    have hal2 : (acc.map natsD).length < 100000 := by rw [List.length_map]; omega
    have hn0 : 0 < n := by omega
    have hn3 : n < 1000 := by omega
    walk_at "sw"
    intro kind hkind
    walk_at "sw"
    intro odd hodd
    walk_at "sw"
    intro low hlow
    walk_at "sw"
    have done : ∀ s : List Nat, s.length = n → (∀ x ∈ s, x ≤ 9) → (acc ++ [s]).length = i + 1 ∧ ∀ s' ∈ acc ++ [s], s'.length = n ∧ ∀ x ∈ s', x ≤ 9 := fun s h1 h2 => ⟨by rw [List.length_append, List.length_singleton, hal], fun s' hs' => by
      rcases List.mem_append.mp hs' with hs' | hs'
      · exact ha s' hs'
      · rw [List.mem_singleton.mp hs']; exact ⟨h1, h2⟩⟩
    have hlow : low < 3 := hlow
    have hkind : kind < 6 := hkind
    have hrep := rep_flat n low
    have rep := done (List.replicate n low) (by rw [List.length_replicate]) fun x hx => by rw [List.eq_of_mem_replicate hx]; omega
    by_cases c0 : kind = 0
    · rw [decide_eq_true c0]
      walk_at "sw"
      refine ⟨by simp, by omega, by omega, by simp, ?_⟩
      walk_at "sw"
      rw [Int.toNat_natCast, hrep]
      refine ⟨⟨_, _, _, _, _, rfl⟩, acc ++ [List.replicate n low], by rw [Om.set_set, List.map_append]; rfl, rep⟩
    rw [decide_eq_false c0]
    walk_at "sw"
    have odds : kind < 4 → True := fun _ => trivial
    by_cases c4 : kind < 4
    · have c4' : decide ((kind : Int) < 4) = true := decide_eq_true (by omega)
      have one := done ((List.range n).map fun x => low + (if x = odd then 1 else 0)) (by rw [List.length_map, List.length_range]) fun x hx => by
        obtain ⟨y, _, e⟩ := List.mem_map.mp hx
        have e : low + (if y = odd then 1 else 0) = x := e
        split at e <;> omega
      by_cases c1 : i' = 0
      · rw [decide_eq_true c1]
        walk_at "sw"
        rw [c4']
        walk_at "sw"
        refine ⟨by simp, by omega, by omega, by simp, ?_⟩
        walk_at "sw"
        rw [Int.toNat_natCast, hrep]
        refine ⟨⟨_, _, _, _, _, rfl⟩, acc ++ [List.replicate n low], by rw [Om.set_set, List.map_append]; rfl, rep⟩
      · rw [decide_eq_false c1]
        walk_at "sw"
        rw [c4']
        walk_at "sw"
        rw [Int.toNat_natCast, rgD_nat]
        refine lc_map (List.range n) natD (fun x => natD (low + (if x = odd then 1 else 0))) (by rw [List.length_range]; omega) (fun x ω' Q1 Q2 hx hs hq => by
          walk_at "sw"
          by_cases c : x = odd
          · rw [if_pos c] at hq
            rw [decide_eq_true c]
            exact hq
          · rw [if_neg c] at hq
            rw [decide_eq_false c]
            exact hq) ?_
        walk_at "sw"
        refine ⟨⟨_, _, _, _, _, rfl⟩, acc ++ [(List.range n).map fun x => low + (if x = odd then 1 else 0)], ?_, one⟩
        rw [Om.set_set, List.map_append]
        show _ = ω.set pf (.lst (acc.map natsD ++ [Da.tup (((List.range n).map fun x => low + (if x = odd then 1 else 0)).map natD)]))
        rw [List.map_map]
        rfl
    · have c4' : decide ((kind : Int) < 4) = false := decide_eq_false (by omega)
      have hk5 : kind = 4 ∨ kind = 5 := by omega
      generalize decide (i' = 0) = bb
      have turn : ∀ {g : WG} {u : WT} {w : WE} {vs : List Nat} {ρ : Rho} {R' : Da → Om → Prop}, (∀ x ω' (Q1 : Da → Om → Prop) (Q2 : Om → Prop), x ∈ List.range n → Sub (ω.set pf (.lst (acc.map natsD))) ω' → (∀ k : Nat, k < 3 → Q1 (natD (low + k)) ω') → g (natD x) (wipeR ρ vs) fun ρ2 => u ρ2 ω' fun b ω3 => if b = true then w ρ2 ω3 Q1 else Q2 ω3) → (∀ s : List Nat, s.length = n → (∀ x ∈ s, x ≤ 9) → R' (.lst (s.map natD)) (ω.set pf (.lst (acc.map natsD)))) → LcB g u w vs ρ ((List.range n).map natD) (ω.set pf (.lst (acc.map natsD))) (FzK R') := fun {g u w vs ρ R'} ht hf => by
        refine lc_rel' (fun i acc => ∃ s : List Nat, acc = s.map natD ∧ s.length = i ∧ ∀ x ∈ s, x ≤ 9) (by rw [List.length_map, List.length_range]; omega) ⟨[], rfl, rfl, by simp⟩ (fun i d acc2 ω' Q1 Q2 hd hP hs h1 h2 => ?_) fun acc2 _ hP => ?_
        · obtain ⟨s, rfl, hsl, hs9⟩ := hP
          rw [List.getElem?_map] at hd
          cases ex : (List.range n)[i]? with
          | none => rw [ex] at hd; cases hd
          | some x =>
            rw [ex] at hd
            cases hd
            exact ht x ω' Q1 Q2 (List.mem_of_getElem? ex) hs fun k hk => h1 _ ⟨s ++ [low + k], by rw [List.map_append]; rfl, by rw [List.length_append, List.length_singleton, hsl], fun y hy => by
              rcases List.mem_append.mp hy with hy | hy
              · exact hs9 y hy
              · rw [List.mem_singleton.mp hy]; omega⟩
        · obtain ⟨s, rfl, hsl, hs9⟩ := hP
          rw [List.length_map, List.length_range] at hsl
          exact hf s hsl hs9
      cases bb with
      | true =>
        walk_at "sw"
        rw [c4']
        walk_at "sw"
        rw [c4']
        walk_at "sw"
        rw [Int.toNat_natCast, rgD_nat]
        refine turn (fun x ω' Q1 Q2 hx hs hq => ?_) fun s h1 h2 => ?_
        · have hp3 := hs p _ hp2
          rcases hk5 with rfl | rfl
          · walk_at "sw"
            intro k hk
            have hk : k < 2 := hk
            walk_at "sw"
            exact hq k (by omega)
          · walk_at "sw"
            intro k hk
            walk_at "sw"
            exact hq k hk
        · walk_at "sw"
          exact ⟨⟨_, _, _, _, _, rfl⟩, acc ++ [s], by rw [Om.set_set, List.map_append]; rfl, done s h1 h2⟩
      | false =>
        walk_at "sw"
        rw [c4']
        walk_at "sw"
        rw [Int.toNat_natCast, rgD_nat]
        refine turn (fun x ω' Q1 Q2 hx hs hq => ?_) fun s h1 h2 => ?_
        · have hp3 := hs p _ hp2
          rcases hk5 with rfl | rfl
          · walk_at "sw"
            intro k hk
            have hk : k < 2 := hk
            walk_at "sw"
            exact hq k (by omega)
          · walk_at "sw"
            intro k hk
            walk_at "sw"
            exact hq k hk
        · walk_at "sw"
          exact ⟨⟨_, _, _, _, _, rfl⟩, acc ++ [s], by rw [Om.set_set, List.map_append]; rfl, done s h1 h2⟩
  · obtain ⟨⟨_, _, _, _, _, rfl⟩, acc, rfl, hal, ha⟩ := hI
    rw [List.length_range] at hal
    walk_at "sw"
    exact ⟨ω, (Sub.refl ω).new hpf, q acc hal ha⟩
end
end Wr
set_option maxHeartbeats 4000000
/-! what is drawn: cures, rigs, bars. -/
namespace Wr
open PySem PySem.Spec PyProof.Rows L2 Dl
local macro_rules
  | `(tactic| walk_at "len") => `(tactic| (intro ds ω R h; repeat (first | (obtain ⟨e, _⟩ := h; subst e; rfl) | (obtain ⟨_, h⟩ := h))))
  | `(tactic| walk_at "st1") => `(tactic| first
    | apply Exists.intro
    | refine And.intro rfl ?_ | refine iteT ?_ | refine iteF ?_
    | refine And.intro (lst_ptr (by assumption)) ?_ | refine And.intro (seq_ptr (by assumption)) ?_ | refine And.intro (dct_ptr (by assumption)) ?_
    | refine And.intro (lst_ptr Om.set_same) ?_ | refine And.intro (seq_ptr Om.set_same) ?_ | refine And.intro Om.set_same ?_
    | refine And.intro ⟨_, lst_ptr (by assumption)⟩ ?_ | refine And.intro ⟨_, lst_ptr Om.set_same⟩ ?_ | refine And.intro ⟨_, rfl⟩ ?_ | refine And.intro ⟨_, lst_ptr ((Om.set_ne (by assumption)).trans (by assumption))⟩ ?_
    | refine And.intro ((Om.set_ne (by assumption)).trans (by assumption)) ?_ | refine And.intro (lst_ptr ((Om.set_ne (by assumption)).trans (by assumption))) ?_
    | refine And.intro (by assumption) ?_ | refine And.intro (ix_map (by assumption)) ?_
    | refine And.intro (by omega) ?_
    | refine do_all (by rfl) ?_ | refine eq_nat ?_ | refine ne_nat ?_ | refine eq_nats ?_ | refine ne_nats ?_ | refine in_nats ?_ | refine nin_nats ?_)
  | `(tactic| walk_at "st") => `(tactic| repeat walk_at "st1")
local macro_rules
  | `(tactic| walk_at "sw") => `(tactic| repeat (first
    | walk_at "st1"
    | refine Or.inl (Exists.intro _ (And.intro rfl ?_))
    | refine Or.inr (Exists.intro _ (And.intro rfl ?_))
    | refine And.intro (Or.inl (And.intro (by omega) (by omega))) ?_
    | refine And.intro (Or.inr (And.intro (by omega) (by omega))) ?_
    | refine And.intro (And.intro (by omega) (by omega)) ?_
    | refine And.intro (by decide) ?_
    | fail))
section
variable {P : Program} {wo : World} {K : PySem.W.Frag} {mg : Str → Option Value} {base : Heap} {T : Tb}
theorem wif_any2 {u : WT} {wa wb : WE} {ρ : Rho} {ω : Om} {R : Da → Om → Prop} (C : Da → Om → Prop) (h : ∀ R' : Da → Om → Prop, (∀ d ω', C d ω' → R' d ω') → wIf u wa wb ρ ω R') (q : ∀ d ω', C d ω' → R d ω') : wIf u wa wb ρ ω R := h R q
theorem wifs_any2 {u : WT} {w r : WS} {E : En} {ρ : Rho} {ω : Om} (C : Rho → Om → Prop) (h : ∀ E' : En, (∀ ρ' ω', C ρ' ω' → E'.nx ρ' ω') → wIfS u w r E' ρ ω) (q : ∀ ρ' ω', C ρ' ω' → E.nx ρ' ω') : wIfS u w r E ρ ω := h E q
def sp_law_cures : Dsp := fun ds ω R => ∃ (p : Addr) (n q : Nat), ds = [.ptr p, natD n, natD q] ∧ ω p = some .src ∧ n ≤ 4 ∧ 2 ≤ q ∧ q ≤ 16 ∧ ∀ C : List (List Nat), C.length = n → (∀ c ∈ C, Asc c ∧ ∀ x ∈ c, x < q) → R (.tup (C.map natsD)) ω
theorem sc_law_cures : FnScope ["_law_source", "_law_n", "_law_q", "_law_found", "_law_x", "_law_some_here", "_law_r"] ["_law_source", "_law_n", "_law_q"] (defScope s_law_cures) := ⟨rfl, rfl, rfl, by decide +kernel, rfl, by decide +kernel, by decide +kernel⟩
theorem D_law_cures (Z : Zp K mg base T) : Df P wo K mg base T "_law_cures" 2 sp_law_cures := by
  obtain ⟨⟨fd, F⟩, hm⟩ := Z.df 79 d_law_cures rfl rfl
  have D_law_take := D_law_take (P := P) (wo := wo) Z
  refine def_okS F sc_law_cures hm (fun _ _ _ _ _ _ us hl => match us, hl with | [_, _, _], _ => rfl) (by walk_at "len") fun cdv A outer st H E hr => ?_
  have nd := sc_law_cures.nd
  refine ⟨_, (ssc (sset 3 nd (xnew xan))
    (ssc (sfor PassesOwn.never rfl (xir Z.range (xv 1)) (xg 4 nd) (ssc (sset 5 nd (xif (tgt (xcall D_law_take (hr.mono (by first | decide | omega)) (xac (xv 0) (xac xint xan))) xint) (xnew (xac (xmod (xbi (bi_int Z.int) (xac (xv 4) xan)) (xv 2)) xan)) (xnew (xac (xcall D_law_take (hr.mono (by first | decide | omega)) (xac (xv 0) (xac (xv 2) xan))) xan))))
    (ssc (sif (teq hr (xcall D_law_take (hr.mono (by first | decide | omega)) (xac (xv 0) (xac xint xan))) xint) (ss1 (sexpr (xappend (xv 5) (xac (xcall D_law_take (hr.mono (by first | decide | omega)) (xac (xv 0) (xac (xv 2) xan))) xan)))) ssn)
    (ss1 (sexpr (xappend (xv 3) (xac (xbi (bi_tuple Z.tuple) (xac (xlc (own := [("_law_r", 6)]) rfl nd (by rfl) (xir Z.range (xv 2)) (fun _ _ _ _ _ => (xg 6 nd)) (fun _ _ _ _ _ => (xt1 (tin hr (xv 6) (xv 5)))) (fun _ _ _ _ _ => (xv 6))) xan)) xan)))))))
    (ss1 (sret (xbi (bi_tuple Z.tuple) (xac (xv 3) xan)))))), fun ds ω R h => ?_⟩
  obtain ⟨p, n, q, rfl, hp, hn4, hq2, hq16, fin⟩ := h
  walk_at "sw"
  intro pf hpf
  have hne : p ≠ pf := fun z => by subst z; rw [hp] at hpf; cases hpf
  walk_at "sw"
  rw [Int.toNat_natCast, rgD_nat]
  refine for_on (List.range n) natD (fun i ρ' ω' => Hold <| (∃ u v w, ρ' = [some (.ptr p), some (natD n), some (natD q), some (.ptr pf), u, v, w]) ∧ ω' p = some .src ∧ Sub ω ω' ∧ ∃ acc : List (List Nat), ω' pf = some (.lst (acc.map natsD)) ∧ acc.length = i ∧ ∀ c ∈ acc, Asc c ∧ ∀ x ∈ c, x < q) ⟨⟨_, _, _, rfl⟩, (Om.set_ne hne).trans hp, (Sub.refl ω).new hpf, [], Om.set_same, rfl, by simp⟩ (fun i i' ρ' ω' hi hI => ?_) fun ρ' ω' hI => ?_
  · obtain ⟨⟨_, _, _, rfl⟩, hp2, hs, acc, hacc, hal, ha⟩ := hI
    have hil : i < n := by have := (List.getElem?_eq_some_iff.mp hi).1; rwa [List.length_range] at this
    have hq0 : 0 < q := by omega
    have hq3 : q < 1000 := by omega
    have hal2 : (acc.map natsD).length < 100000 := by rw [List.length_map]; omega
    unfold gN wSeq wAsg
    refine wif_any2 (C := fun d ω2 => ∃ (pc : Addr) (k0 : Nat), d = .ptr pc ∧ ω' pc = none ∧ ω2 = ω'.set pc (.lst ([k0].map natD))) (fun R' hR => ?_) fun d ω2 hC => ?_
    · walk_at "sw"
      intro k hk
      walk_at "sw"
      generalize decide ((0 : Int) < (k : Int)) = bb
      cases bb with
      | true =>
        walk_at "sw"
        intro pc hpc
        exact hR _ _ ⟨pc, i' % q, rfl, hpc, rfl⟩
      | false =>
        walk_at "sw"
        intro k0 hk0
        walk_at "sw"
        intro pc hpc
        exact hR _ _ ⟨pc, k0, rfl, hpc, rfl⟩
    · obtain ⟨pc, k0, rfl, hpc, rfl⟩ := hC
      have n1 : p ≠ pc := fun z => by subst z; rw [hp2] at hpc; cases hpc
      have n2 : pf ≠ pc := fun z => by subst z; rw [hacc] at hpc; cases hpc
      have hp3 : (ω'.set pc (.lst ([k0].map natD))) p = some .src := (Om.set_ne n1).trans hp2
      have hl3 : ([k0].map natD).length < 100000 := by simp
      have hc3 : (ω'.set pc (.lst ([k0].map natD))) pc = some (.lst ([k0].map natD)) := Om.set_same
      dsimp only
      refine wifs_any2 (C := fun ρ2 ω2 => (∃ w, ρ2 = [some (.ptr p), some (natD n), some (natD q), some (.ptr pf), some (natD i'), some (.ptr pc), w]) ∧ ∃ ks : List Nat, ω2 = ω'.set pc (.lst (ks.map natD))) (fun E' hE => ?_) fun ρ2 ω2 hC => ?_
      · walk_at "sw"
        intro k hk
        walk_at "sw"
        generalize decide (k = 0) = bb
        cases bb with
        | true =>
          walk_at "sw"
          intro k1 hk1
          walk_at "sw"
          exact hE _ _ ⟨⟨_, rfl⟩, [k0, k1], Om.set_set⟩
        | false =>
          walk_at "sw"
          exact hE _ _ ⟨⟨_, rfl⟩, [k0], rfl⟩
      · obtain ⟨⟨_, rfl⟩, ks, rfl⟩ := hC
        have hc4 : (ω'.set pc (.lst (ks.map natD))) pc = some (.lst (ks.map natD)) := Om.set_same
        have hf4 : (ω'.set pc (.lst (ks.map natD))) pf = some (.lst (acc.map natsD)) := (Om.set_ne n2).trans hacc
        walk_at "sw"
        rw [Int.toNat_natCast, rgD_nat]
        refine lc_filter (List.range q) natD (fun r => decide (r ∈ ks)) (by rw [List.length_range]; omega) (fun r ω5 Q1 Q2 hr hs5 h1 h2 => by
          have hc5 := hs5 pc _ hc4
          walk_at "sw"
          refine in_natm (seq_ptr hc5) ?_
          walk_at "sw"
          cases e : decide (r ∈ ks) with
          | true => exact iteT (by walk_at "sw"; exact h1 e)
          | false => exact iteF (h2 e)) ?_
        walk_at "sw"
        refine ⟨⟨_, _, _, rfl⟩, ?_, (hs.new hpc).put hpf, acc ++ [(List.range q).filter fun r => decide (r ∈ ks)], by rw [Om.set_same, List.map_append]; rfl, by rw [List.length_append, List.length_singleton, hal], fun c hc => ?_⟩
        · rw [Om.set_ne hne, Om.set_ne n1]; exact hp2
        · rcases List.mem_append.mp hc with hc | hc
          · exact ha c hc
          · rw [List.mem_singleton.mp hc]
            exact ⟨List.Pairwise.sublist List.filter_sublist List.pairwise_lt_range, fun x hx => List.mem_range.mp (List.mem_filter.mp hx).1⟩
  · obtain ⟨⟨_, _, _, rfl⟩, hp2, hs, acc, hacc, hal, ha⟩ := hI
    rw [List.length_range] at hal
    walk_at "sw"
    exact ⟨ω, hs, fin acc hal ha⟩
def sp_law_rig : Dsp := fun ds ω R => ∃ (p : Addr), ds = [.ptr p, natD 4, natD 4] ∧ ω p = some .src ∧ ∀ r : Rig, r.Ok → R (rigD r) ω
theorem sc_law_rig : FnScope ["_law_source", "_law_faults", "_law_settings", "_law_n", "_law_m", "_law_q"] ["_law_source", "_law_faults", "_law_settings"] (defScope s_law_rig) := ⟨rfl, rfl, rfl, by decide +kernel, rfl, by decide +kernel, by decide +kernel⟩
theorem D_law_rig (Z : Zp K mg base T) : Df P wo K mg base T "_law_rig" 3 sp_law_rig := by
  obtain ⟨⟨fd, F⟩, hm⟩ := Z.df 80 d_law_rig rfl rfl
  have D_law_take := D_law_take (P := P) (wo := wo) Z
  have D_law_joined_moves := D_law_joined_moves (P := P) (wo := wo) Z
  have D_law_signs := D_law_signs (P := P) (wo := wo) Z
  have D_law_cures := D_law_cures (P := P) (wo := wo) Z
  refine def_ok F sc_law_rig hm (fun _ _ _ _ _ _ us hl => match us, hl with | [_, _, _], _ => rfl) (by walk_at "len") fun cdv A outer st H E hr => ?_
  have nd := sc_law_rig.nd
  refine ⟨_, (ssc (spar 3 4 rfl nd (xac (xadd xint (xcall D_law_take (hr.mono (by first | decide | omega)) (xac (xv 0) (xac (xsub (xv 1) xint) xan)))) (xac (xadd xint (xcall D_law_take (hr.mono (by first | decide | omega)) (xac (xv 0) (xac (xsub (xv 2) xint) xan)))) xan)))
    (ssc (sset 5 nd (xadd xint (xcall D_law_take (hr.mono (by first | decide | omega)) (xac (xv 0) (xac (xbi (bi_max2 rfl Z.max) (xac xint (xac (xbi (bi_min2 rfl Z.min) (xac xint (xac (xsub (xv 3) xint) xan))) xan))) xan)))))
    (ss1 (sret (xtup (xac (xv 3) (xac (xv 5) (xac (xcall D_law_cures (hr.mono (by first | decide | omega)) (xac (xv 0) (xac (xv 3) (xac (xv 5) xan)))) (xac (xcall D_law_signs (hr.mono (by first | decide | omega)) (xac (xv 0) (xac (xv 3) (xac (xv 4) xan)))) (xac (xcall D_law_joined_moves (hr.mono (by first | decide | omega)) (xac (xv 0) (xac (xv 4) xan))) xan)))))))))), fun ds ω R h => ?_⟩
  obtain ⟨p, rfl, hp, fin⟩ := h
  walk_at "sw"
  intro k hk
  have hk : k < 3 := hk
  walk_at "sw"
  intro j hj
  have hj : j < 3 := hj
  have hj2 : 2 ≤ 2 + j := by omega
  have hj4 : 2 + j ≤ 4 := by omega
  have fin2 : ∀ (n q : Nat) (C S : List (List Nat)) (mv : List (Nat × Nat)), 2 ≤ n → n ≤ 4 → 2 ≤ q → q ≤ 16 → C.length = n → (∀ c ∈ C, Asc c ∧ ∀ x ∈ c, x < q) → S.length = 2 + j → (∀ s ∈ S, s.length = n ∧ ∀ x ∈ s, x ≤ 9) → MovesOk (2 + j) mv → R (.tup [natD n, natD q, .tup (C.map natsD), .tup (S.map natsD), .tupN (mv.map pairD)]) ω := fun n q C S mv n1 n2 q1 q2 c1 c2 s1 s2 ⟨m1, m2, m3⟩ => fin ⟨n, q, C, S, mv⟩ ⟨by show 1 ≤ n; omega, n2, by show 1 ≤ q; omega, q2, c1, c2, by show 1 ≤ S.length; omega, by show S.length ≤ 4; omega, s2, fun p hp => by show p.1 < p.2 ∧ p.2 < S.length; rw [s1]; exact m1 p hp, m2, m3⟩
  rcases (by omega : k = 0 ∨ k = 1 ∨ k = 2) with rfl | rfl | rfl
  all_goals
    walk_at "sw"
    intro i hi
    have hi3 : i < 3 := Nat.lt_of_lt_of_le hi (by decide)
    have hi1 : 2 ≤ 2 + i := by omega
    have hi2 : 2 + i ≤ 16 := by omega
    walk_at "sw"
    intro C c1 c2
    walk_at "sw"
    intro S s1 s2
    walk_at "sw"
    intro mv hmv
    walk_at "sw"
    refine fin2 _ _ C S mv ?_ ?_ ?_ ?_ c1 c2 s1 s2 hmv <;> first | decide | omega
end
end Wr
set_option maxHeartbeats 4000000
/-! what is drawn: bars, books of any bars. -/
namespace Wr
open PySem PySem.Spec PyProof.Rows L2 Dl
local macro_rules
  | `(tactic| walk_at "len") => `(tactic| (intro ds ω R h; repeat (first | (obtain ⟨e, _⟩ := h; subst e; rfl) | (obtain ⟨_, h⟩ := h))))
  | `(tactic| walk_at "st1") => `(tactic| first
    | apply Exists.intro
    | refine And.intro rfl ?_ | refine iteT ?_ | refine iteF ?_
    | refine And.intro (lst_ptr (by assumption)) ?_ | refine And.intro (seq_ptr (by assumption)) ?_ | refine And.intro (dct_ptr (by assumption)) ?_
    | refine And.intro (lst_ptr Om.set_same) ?_ | refine And.intro (seq_ptr Om.set_same) ?_ | refine And.intro Om.set_same ?_
    | refine And.intro ⟨_, lst_ptr (by assumption)⟩ ?_ | refine And.intro ⟨_, lst_ptr Om.set_same⟩ ?_ | refine And.intro ⟨_, rfl⟩ ?_ | refine And.intro ⟨_, lst_ptr ((Om.set_ne (by assumption)).trans (by assumption))⟩ ?_
    | refine And.intro ((Om.set_ne (by assumption)).trans (by assumption)) ?_ | refine And.intro (lst_ptr ((Om.set_ne (by assumption)).trans (by assumption))) ?_
    | refine And.intro (by assumption) ?_ | refine And.intro (ix_map (by assumption)) ?_
    | refine And.intro (by omega) ?_
    | refine do_all (by rfl) ?_ | refine eq_nat ?_ | refine ne_nat ?_ | refine eq_nats ?_ | refine ne_nats ?_ | refine in_nats ?_ | refine nin_nats ?_)
  | `(tactic| walk_at "st") => `(tactic| repeat walk_at "st1")
local macro_rules
  | `(tactic| walk_at "sw") => `(tactic| repeat (first
    | walk_at "st1"
    | refine Or.inl (Exists.intro _ (And.intro rfl ?_))
    | refine Or.inr (Exists.intro _ (And.intro rfl ?_))
    | refine And.intro (Or.inl (And.intro (by omega) (by omega))) ?_
    | refine And.intro (Or.inr (And.intro (by omega) (by omega))) ?_
    | refine And.intro (And.intro (by omega) (by omega)) ?_
    | refine And.intro (by decide) ?_
    | fail))
section
variable {P : Program} {wo : World} {K : PySem.W.Frag} {mg : Str → Option Value} {base : Heap} {T : Tb}
structure BarOk (n : Nat) (l : List Nat) : Prop where
  asc : Asc l
  lt : ∀ x ∈ l, x < n
  l1 : 1 ≤ l.length
  l3 : l.length ≤ 3
theorem cut_take {l : List Da} {k : Nat} (h : k ≤ l.length) : Dl.cutD l none (some (k : Int)) = l.take k := by
  have h1 : HT.sIx l.length 0 none = 0 := by
    unfold HT.sIx
    simp
  have h2 : HT.sIx l.length l.length (some (k : Int)) = k := by
    rw [HT.sIx_nat, Nat.min_eq_left h]
  unfold Dl.cutD
  rw [h1, h2, List.drop_zero, Nat.sub_zero]
def sp_law_bar : Dsp := fun ds ω R => ∃ (p : Addr) (n : Nat), ds = [.ptr p, natD n] ∧ ω p = some .src ∧ 1 ≤ n ∧ n ≤ 4 ∧ ∀ l : List Nat, BarOk n l → R (natsD l) ω
theorem sc_law_bar : FnScope ["_law_source", "_law_n", "_law_x"] ["_law_source", "_law_n"] (defScope s_law_bar) := ⟨rfl, rfl, rfl, by decide +kernel, rfl, by decide +kernel, by decide +kernel⟩
theorem D_law_bar (Z : Zp K mg base T) : Df P wo K mg base T "_law_bar" 3 sp_law_bar := by
  obtain ⟨⟨fd, F⟩, hm⟩ := Z.df 81 d_law_bar rfl rfl
  have D_law_take := D_law_take (P := P) (wo := wo) Z
  have D_law_mixed := D_law_mixed (P := P) (wo := wo) Z
  refine def_ok F sc_law_bar hm (fun _ _ _ _ _ _ us hl => match us, hl with | [_, _], _ => rfl) (by walk_at "len") fun cdv A outer st H E hr => ?_
  have nd := sc_law_bar.nd
  refine ⟨_, (ss1 (sret (xbi (bi_tuple Z.tuple) (xac (xbi (bi_sortedI Z.sorted) (xac (xslL (xcall D_law_mixed (hr.mono (by first | decide | omega)) (xac (xv 0) (xac (xlc (own := [("_law_x", 2)]) rfl nd (by rfl) (xir Z.range (xv 1)) (fun _ _ _ _ _ => (xg 2 nd)) (fun _ _ _ _ _ => xtn) (fun _ _ _ _ _ => (xv 2))) xan))) xon (xos (xadd xint (xcall D_law_take (hr.mono (by first | decide | omega)) (xac (xv 0) (xac (xbi (bi_min2 rfl Z.min) (xac xint (xac (xv 1) xan))) xan)))))) xan)) xan)))), fun ds ω R h => ?_⟩
  obtain ⟨p, n, rfl, hp, hn1, hn4, q⟩ := h
  have fin : ∀ (ns : List Nat) (k : Nat), ns.Perm (List.range n) → k < 3 → k < n → ∀ m : List Nat, m.Perm (ns.take (1 + k)) → m.Pairwise (· ≤ ·) → R (natsD m) ω := fun ns k hns hk3 hkn m hm hs => by
    have nd : ns.Nodup := hns.nodup_iff.mpr List.nodup_range
    have nd2 : m.Nodup := hm.nodup_iff.mpr (List.Sublist.nodup (List.take_sublist _ _) nd)
    have hl : ns.length = n := by rw [hns.length_eq, List.length_range]
    have hml : m.length = 1 + k := by rw [hm.length_eq, List.length_take, hl]; omega
    exact q m ⟨le_ascN nd2 hs, fun x hx => List.mem_range.mp (hns.mem_iff.mp (List.mem_of_mem_take (hm.mem_iff.mp hx))), by omega, by omega⟩
  walk_at "sw"
  rw [Int.toNat_natCast, rgD_nat]
  refine lc_map (List.range n) natD natD (by rw [List.length_range]; omega) (fun x ω' Q1 Q2 hx hs hq => by
    walk_at "sw"
    exact hq) ?_
  have hrl : ((List.range n).map natD).length < 1000 := by rw [List.length_map, List.length_range]; omega
  walk_at "sw"
  intro m hm
  obtain ⟨ns, hns, rfl⟩ := perm_map (f := natD) (fun x y => natD_inj) hm
  have hl : ns.length = n := by rw [hns.length_eq, List.length_range]
  have tail : ∀ k : Nat, k < 3 → k < n → ∀ R' : Da → Om → Prop, (∀ m : List Nat, m.Perm (ns.take (1 + k)) → m.Pairwise (· ≤ ·) → R' (.lst (m.map natD)) ω) → fSortedI [.lst (Dl.cutD (ns.map natD) none (some (1 + (k : Int))))] ω R' := fun k h3 hn R' hR => by
    have e : (1 + (k : Int)) = ((1 + k : Nat) : Int) := by omega
    rw [e, cut_take (by rw [List.length_map]; omega), ← List.map_take]
    exact do_sortI (ns.take (1 + k)) rfl hR
  rcases (by omega : n = 1 ∨ n = 2 ∨ n = 3 ∨ n = 4) with rfl | rfl | rfl | rfl
  all_goals
    walk_at "sw"
    intro k hk
    have hk3 : k < 3 := Nat.lt_of_lt_of_le hk (by decide)
    have hkn := Nat.lt_of_lt_of_le hk (Nat.le_refl _)
    walk_at "sw"
    refine tail k hk3 (Nat.lt_of_lt_of_le hk (by decide)) _ fun m hm hs => ?_
    walk_at "sw"
    exact fin ns k hns hk3 (Nat.lt_of_lt_of_le hk (by decide)) m hm hs
def sp_law_bars : Dsp := fun ds ω R => ∃ (p : Addr) (r : Rig) (hs : List (List (List Nat))), ds = [.ptr p, rigD r, .lst (hs.map fun ls => .lst (ls.map natsD))] ∧ ω p = some .src ∧ r.Ok ∧ hs.length = r.moves.length ∧ (∀ ls ∈ hs, ls.length ≤ 80000) ∧
  ∀ bars : List (List (List Nat)), bars.length = r.moves.length → (∀ bs ∈ bars, bs.length ≤ 3 ∧ (∀ l ∈ bs, LotOk r l ∧ 1 ≤ l.length ∧ l.length ≤ 3) ∧ bs.Pairwise natLt) → R (.tup (bars.map barsD)) ω
theorem sc_law_bars : FnScope ["_law_source", "_law_rig_here", "_law_held", "_law_found", "_law_move", "_law_some_here", "_law_turn", "_law_bar_here", "_law_lot"] ["_law_source", "_law_rig_here", "_law_held"] (defScope s_law_bars) := ⟨rfl, rfl, rfl, by decide +kernel, rfl, by decide +kernel, by decide +kernel⟩
theorem D_law_bars (Z : Zp K mg base T) : Df P wo K mg base T "_law_bars" 4 sp_law_bars := by
  obtain ⟨⟨fd, F⟩, hm⟩ := Z.df 82 d_law_bars rfl rfl
  have D_law_take := D_law_take (P := P) (wo := wo) Z
  have D_law_bar := D_law_bar (P := P) (wo := wo) Z
  have D_law_is_within := D_law_is_within (P := P) (wo := wo) Z
  refine def_okS F sc_law_bars hm (fun _ _ _ _ _ _ us hl => match us, hl with | [_, _, _], _ => rfl) (by walk_at "len") fun cdv A outer st H E hr => ?_
  have nd := sc_law_bars.nd
  refine ⟨_, (ssc (sset 3 nd (xnew xan))
    (ssc (sfor PassesOwn.never rfl (xir Z.range (xbi (bi_len Z.len) (xac (xun (xix (xv 1) xint)) xan))) (xg 4 nd) (ssc (sset 5 nd (xnew xan))
    (ssc (sfor PassesOwn.never rfl (xir Z.range (xcall D_law_take (hr.mono (by first | decide | omega)) (xac (xv 0) (xac xint xan)))) (xg 6 nd) (ssc (sset 7 nd (xcall D_law_bar (hr.mono (by first | decide | omega)) (xac (xv 0) (xac (xix (xv 1) xint) xan))))
    (ss1 (sif (tw (twand (tnin hr (xv 7) (xv 5)) (twand1 (teq hr (xlc (own := [("_law_lot", 8)]) rfl nd (by rfl) (xil (xix (xv 2) (xv 4))) (fun _ _ _ _ _ => (xg 8 nd)) (fun _ _ _ _ _ => (xt1 (tval (xcall D_law_is_within (hr.mono (by first | decide | omega)) (xac (xv 7) (xac (xv 8) xan)))))) (fun _ _ _ _ _ => (xv 8))) (xlst xan))))) (ss1 (sexpr (xappend (xv 5) (xac (xv 7) xan)))) ssn))))
    (ss1 (sexpr (xappend (xv 3) (xac (xbi (bi_tuple Z.tuple) (xac (xbi (bi_sortedX Z.sorted) (xac (xv 5) xan)) xan)) xan)))))))
    (ss1 (sret (xbi (bi_tuple Z.tuple) (xac (xv 3) xan)))))), fun ds ω R h => ?_⟩
  obtain ⟨p, r, hs, rfl, hp, o, hhl, hh8, q⟩ := h
  have hml := o.ml
  have hn1 := o.n1
  have hn4 := o.n2
  walk_at "sw"
  intro pf hpf
  have hne : p ≠ pf := fun z => by subst z; rw [hp] at hpf; cases hpf
  walk_at "sw"
  rw [List.length_map, Int.toNat_natCast, rgD_nat]
  refine ⟨by omega, ?_⟩
  refine for_on (List.range r.moves.length) natD (fun i ρ' ω' => Hold <| (∃ a b c d e, ρ' = [some (.ptr p), some (rigD r), some (.lst (hs.map fun ls => .lst (ls.map natsD))), some (.ptr pf), a, b, c, d, e]) ∧ ω' p = some .src ∧ Sub ω ω' ∧ ∃ acc : List (List (List Nat)), ω' pf = some (.lst (acc.map barsD)) ∧ acc.length = i ∧ ∀ bs ∈ acc, bs.length ≤ 3 ∧ (∀ l ∈ bs, LotOk r l ∧ 1 ≤ l.length ∧ l.length ≤ 3) ∧ bs.Pairwise natLt) ⟨⟨_, _, _, _, _, rfl⟩, (Om.set_ne hne).trans hp, (Sub.refl ω).new hpf, [], Om.set_same, rfl, by simp⟩ (fun i i' ρ' ω' hi hI => ?_) fun ρ' ω' hI => ?_
  · obtain ⟨⟨_, _, _, _, _, rfl⟩, hp2, hsb, acc, hacc, hal, ha⟩ := hI
    have hi2 := List.getElem?_eq_some_iff.mp hi
    have hil : i < r.moves.length := by have := hi2.1; rwa [List.length_range] at this
    have hik : i' = i := by rw [← hi2.2, List.getElem_range]
    subst hik
    have hhi : hs[i']? = some hs[i'] := List.getElem?_eq_getElem (by omega)
    have hal2 : (acc.map barsD).length < 100000 := by rw [List.length_map]; omega
    have hls := hh8 _ (List.mem_of_getElem? hhi)
    generalize hs[i'] = ls at hhi hls
    have eh : atI (hs.map fun ls => Da.lst (ls.map natsD)) ((i' : Nat) : Int) = some (.lst (ls.map natsD)) := ix_map (enc := fun ls : List (List Nat) => Da.lst (ls.map natsD)) hhi
    walk_at "sw"
    intro pc hpc
    have n1 : p ≠ pc := fun z => by subst z; rw [hp2] at hpc; cases hpc
    have n2 : pf ≠ pc := fun z => by subst z; rw [hacc] at hpc; cases hpc
    have hp3 : (ω'.set pc (.lst [])) p = some .src := (Om.set_ne n1).trans hp2
    walk_at "sw"
    intro k hk
    have hk : k < 4 := hk
    walk_at "sw"
    rw [Int.toNat_natCast, rgD_nat]
    refine for_on (List.range k) natD (fun j ρ2 ω2 => Hold <| (∃ c d e, ρ2 = [some (.ptr p), some (rigD r), some (.lst (hs.map fun ls => .lst (ls.map natsD))), some (.ptr pf), some (natD i'), some (.ptr pc), c, d, e]) ∧ ∃ bs : List (List Nat), ω2 = ω'.set pc (.lst (bs.map natsD)) ∧ bs.length ≤ j ∧ bs.Nodup ∧ ∀ l ∈ bs, LotOk r l ∧ 1 ≤ l.length ∧ l.length ≤ 3) ⟨⟨_, _, _, rfl⟩, [], rfl, Nat.le_refl _, .nil, by simp⟩ (fun j j' ρ2 ω2 hj hJ => ?_) fun ρ2 ω2 hJ => ?_
    · obtain ⟨⟨_, _, _, rfl⟩, bs, rfl, hbl, hbn, hb⟩ := hJ
      have hjl : j < k := by have := (List.getElem?_eq_some_iff.mp hj).1; rwa [List.length_range] at this
      have hp4 : (ω'.set pc (.lst (bs.map natsD))) p = some .src := (Om.set_ne n1).trans hp2
      have hc4 : (ω'.set pc (.lst (bs.map natsD))) pc = some (.lst (bs.map natsD)) := Om.set_same
      have hbl2 : (bs.map natsD).length < 100000 := by rw [List.length_map]; omega
      walk_at "sw"
      intro l hl
      have hl3 : l.length ≤ 1000 := by have := hl.l3; omega
      have lok : LotOk r l ∧ 1 ≤ l.length ∧ l.length ≤ 3 := ⟨⟨hl.asc, hl.lt⟩, hl.l1, hl.l3⟩
      walk_at "sw"
      refine do_nin (P := l ∈ bs) (seq_ptr hc4) (cl_nats l) (cl_natss bs) (Nat.le_trans (dep_nats l) (by decide)) (map_mem_inj fun _ _ => natsD_inj) ?_
      by_cases c : l ∈ bs
      · rw [decide_eq_true c]
        walk_at "sw"
        exact ⟨⟨_, _, _, rfl⟩, bs, rfl, by omega, hbn, hb⟩
      · rw [decide_eq_false c]
        walk_at "sw"
        refine lc_filter ls natsD (fun lot => within l lot) (by omega) (fun lot ω5 Q1 Q2 hlot hs5 h1 h2 => by
          walk_at "sw"
          cases e : within l lot with
          | true => exact iteT (by walk_at "sw"; exact h1 e)
          | false => exact iteF (h2 e)) ?_
        walk_at "sw"
        refine eq_nil (cl_natss _) (dep_natss _) ?_
        generalize decide ((ls.filter fun lot => within l lot) = []) = bb
        cases bb with
        | true =>
          walk_at "sw"
          refine ⟨⟨_, _, _, rfl⟩, bs ++ [l], by rw [Om.set_set, List.map_append]; rfl, by rw [List.length_append, List.length_singleton]; omega, ?_, fun x hx => ?_⟩
          · refine List.nodup_append.mpr ⟨hbn, by simp, fun u hu v hv e => ?_⟩
            have hv : v = l := List.mem_singleton.mp hv
            subst e
            rw [hv] at hu
            exact c hu
          · rcases List.mem_append.mp hx with hx | hx
            · exact hb x hx
            · rw [List.mem_singleton.mp hx]; exact lok
        | false =>
          walk_at "sw"
          exact ⟨⟨_, _, _, rfl⟩, bs, rfl, by omega, hbn, hb⟩
    · obtain ⟨⟨_, _, _, rfl⟩, bs, rfl, hbl, hbn, hb⟩ := hJ
      rw [List.length_range] at hbl
      have hc4 : (ω'.set pc (.lst (bs.map natsD))) pc = some (.lst (bs.map natsD)) := Om.set_same
      have hf4 : (ω'.set pc (.lst (bs.map natsD))) pf = some (.lst (acc.map barsD)) := (Om.set_ne n2).trans hacc
      walk_at "sw"
      refine do_sorted bs (seq_ptr hc4) (fun l hl e => by have := (hb l hl).2.1; rw [e] at this; simp at this) fun ms hpm hso => ?_
      walk_at "sw"
      refine ⟨⟨_, _, _, _, _, rfl⟩, ?_, (hsb.new hpc).put hpf, acc ++ [ms], by rw [Om.set_same, List.map_append]; rfl, by rw [List.length_append, List.length_singleton, hal], fun x hx => ?_⟩
      · rw [Om.set_ne hne, Om.set_ne n1]; exact hp2
      · rcases List.mem_append.mp hx with hx | hx
        · exact ha x hx
        · rw [List.mem_singleton.mp hx]
          exact ⟨by rw [hpm.length_eq]; omega, fun l hl => hb l (hpm.mem_iff.mp hl), lex_asc (hpm.nodup_iff.mpr hbn) hso⟩
  · obtain ⟨⟨_, _, _, _, _, rfl⟩, hp2, hsb, acc, hacc, hal, ha⟩ := hI
    rw [List.length_range] at hal
    walk_at "sw"
    exact ⟨ω, hsb, q acc hal ha⟩
/-- books whose moves have few bars -/
structure Book3 (b : Book) : Prop where
  ok : b.Ok
  few : ∀ bs ∈ b.bars, bs.length ≤ 3
theorem book3 {r : Rig} {bars : List (List (List Nat))} (o : r.Ok) (h1 : bars.length = r.moves.length) (h2 : ∀ bs ∈ bars, bs.length ≤ 3 ∧ (∀ l ∈ bs, LotOk r l ∧ 1 ≤ l.length ∧ l.length ≤ 3) ∧ bs.Pairwise natLt) : Book3 ⟨r, bars⟩ :=
  ⟨⟨o, h1, fun bs hb => ⟨by have := (h2 bs hb).1; omega, (h2 bs hb).2.1, (h2 bs hb).2.2⟩⟩, fun bs hb => (h2 bs hb).1⟩
def sp_law_drawn_book : Dsp := fun ds ω R => ∃ (p : Addr), ds = [.ptr p, natD 4, natD 4] ∧ ω p = some .src ∧ ∀ b : Book, Book3 b → R (bookD b) ω
theorem sc_law_drawn_book : FnScope ["_law_source", "_law_faults", "_law_settings", "_law_rig_here", "_law_move"] ["_law_source", "_law_faults", "_law_settings"] (defScope s_law_drawn_book) := ⟨rfl, rfl, rfl, by decide +kernel, rfl, by decide +kernel, by decide +kernel⟩
theorem D_law_drawn_book (Z : Zp K mg base T) : Df P wo K mg base T "_law_drawn_book" 5 sp_law_drawn_book := by
  obtain ⟨⟨fd, F⟩, hm⟩ := Z.df 83 d_law_drawn_book rfl rfl
  have D_law_rig := D_law_rig (P := P) (wo := wo) Z
  have D_law_bars := D_law_bars (P := P) (wo := wo) Z
  refine def_ok F sc_law_drawn_book hm (fun _ _ _ _ _ _ us hl => match us, hl with | [_, _, _], _ => rfl) (by walk_at "len") fun cdv A outer st H E hr => ?_
  have nd := sc_law_drawn_book.nd
  refine ⟨_, (ssc (sset 3 nd (xcall D_law_rig (hr.mono (by first | decide | omega)) (xac (xv 0) (xac (xv 1) (xac (xv 2) xan)))))
    (ss1 (sret (xtup (xac (xv 3) (xac (xcall D_law_bars (hr.mono (by first | decide | omega)) (xac (xv 0) (xac (xv 3) (xac (xlc (own := [("_law_move", 4)]) rfl nd (by rfl) (xit (xun (xix (xv 3) xint))) (fun _ _ _ _ _ => (xg 4 nd)) (fun _ _ _ _ _ => xtn) (fun _ _ _ _ _ => (xlst xan))) xan)))) xan)))))), fun ds ω R h => ?_⟩
  obtain ⟨p, rfl, hp, q⟩ := h
  walk_at "sw"
  intro r o
  have hml := o.ml
  walk_at "sw"
  refine lc_map r.moves pairD (fun _ => .lst []) (by omega) (fun x ω' Q1 Q2 hx hs hq => by
    walk_at "sw"
    exact hq) ?_
  have e : r.moves.map (fun _ => Da.lst []) = (r.moves.map fun _ => ([] : List (List Nat))).map fun ls => Da.lst (ls.map natsD) := by rw [List.map_map]; rfl
  rw [e]
  have hl : (r.moves.map fun _ => ([] : List (List Nat))).length = r.moves.length := List.length_map _
  have hz : ∀ ls ∈ (r.moves.map fun _ => ([] : List (List Nat))), ls.length ≤ 80000 := fun ls hls => by
    obtain ⟨_, _, e⟩ := List.mem_map.mp hls
    rw [← e]; exact Nat.zero_le _
  walk_at "sw"
  intro bars h1 h2
  walk_at "sw"
  exact q ⟨r, bars⟩ (book3 o h1 h2)
end
end Wr
set_option maxHeartbeats 4000000
/-! what is drawn: programs. -/
namespace Wr
open PySem PySem.Spec PyProof.Rows L2 Dl
local macro_rules
  | `(tactic| walk_at "len") => `(tactic| (intro ds ω R h; repeat (first | (obtain ⟨e, _⟩ := h; subst e; rfl) | (obtain ⟨_, h⟩ := h))))
  | `(tactic| walk_at "st1") => `(tactic| first
    | apply Exists.intro
    | refine And.intro rfl ?_ | refine iteT ?_ | refine iteF ?_
    | refine And.intro (lst_ptr (by assumption)) ?_ | refine And.intro (seq_ptr (by assumption)) ?_ | refine And.intro (dct_ptr (by assumption)) ?_
    | refine And.intro (lst_ptr Om.set_same) ?_ | refine And.intro (seq_ptr Om.set_same) ?_ | refine And.intro Om.set_same ?_
    | refine And.intro ⟨_, lst_ptr (by assumption)⟩ ?_ | refine And.intro ⟨_, lst_ptr Om.set_same⟩ ?_ | refine And.intro ⟨_, rfl⟩ ?_ | refine And.intro ⟨_, lst_ptr ((Om.set_ne (by assumption)).trans (by assumption))⟩ ?_
    | refine And.intro ((Om.set_ne (by assumption)).trans (by assumption)) ?_ | refine And.intro (lst_ptr ((Om.set_ne (by assumption)).trans (by assumption))) ?_
    | refine And.intro (by assumption) ?_ | refine And.intro (ix_map (by assumption)) ?_
    | refine And.intro (by omega) ?_
    | refine do_all (by rfl) ?_ | refine eq_nat ?_ | refine ne_nat ?_ | refine eq_nats ?_ | refine ne_nats ?_ | refine in_nats ?_ | refine nin_nats ?_)
  | `(tactic| walk_at "st") => `(tactic| repeat walk_at "st1")
local macro_rules
  | `(tactic| walk_at "sw") => `(tactic| repeat (first
    | walk_at "st1"
    | refine Or.inl (Exists.intro _ (And.intro rfl ?_))
    | refine Or.inr (Exists.intro _ (And.intro rfl ?_))
    | refine And.intro (Or.inl (And.intro (by omega) (by omega))) ?_
    | refine And.intro (Or.inr (And.intro (by omega) (by omega))) ?_
    | refine And.intro (And.intro (by omega) (by omega)) ?_
    | refine And.intro (by decide) ?_
    | fail))
section
variable {P : Program} {wo : World} {K : PySem.W.Frag} {mg : Str → Option Value} {base : Heap} {T : Tb}
/-- the cells of a drawn program: what is held at each move, the last lots -/
structure PlanSt (r : Rig) (p : Addr) (ps : List Addr) (pl : Addr) (N : Nat) (ω : Om) : Prop where
  src : ω p = some .src
  held : ∀ a ∈ ps, ∃ ls : List (List Nat), ω a = some (.lst (ls.map natsD)) ∧ ls.length ≤ N
  lots : ∃ ls : List (List Nat), ω pl = some (.lst (ls.map natsD)) ∧ ls.length ≤ N ∧ ∀ l ∈ ls, LotOk r l
  ne : pl ∉ ps
def Bas (ps : List Addr) (pl : Addr) (ω ω' : Om) : Prop := ∀ a c, a ∉ ps → a ≠ pl → ω a = some c → ω' a = some c
section
variable {r : Rig} {p pl a q : Addr} {ps : List Addr} {N M : Nat} {ω ω' ω'' : Om} {c : Cel}
theorem PlanSt.up (h : PlanSt r p ps pl N ω) (e : N ≤ M) : PlanSt r p ps pl M ω :=
  ⟨h.src, fun a ha => let ⟨ls, h1, h2⟩ := h.held a ha; ⟨ls, h1, Nat.le_trans h2 e⟩, let ⟨ls, h1, h2, h3⟩ := h.lots; ⟨ls, h1, Nat.le_trans h2 e, h3⟩, h.ne⟩
theorem PlanSt.sub (h : PlanSt r p ps pl N ω) (e : Sub ω ω') : PlanSt r p ps pl N ω' :=
  ⟨e _ _ h.src, fun a ha => let ⟨ls, h1, h2⟩ := h.held a ha; ⟨ls, e _ _ h1, h2⟩, let ⟨ls, h1, h2, h3⟩ := h.lots; ⟨ls, e _ _ h1, h2, h3⟩, h.ne⟩
theorem PlanSt.p_held (h : PlanSt r p ps pl N ω) : p ∉ ps := fun z => by
  obtain ⟨ls, h1, _⟩ := h.held p z
  rw [h.src] at h1; cases h1
theorem PlanSt.p_lots (h : PlanSt r p ps pl N ω) : p ≠ pl := fun z => by
  obtain ⟨ls, h1, _⟩ := h.lots
  rw [← z, h.src] at h1; cases h1
theorem PlanSt.hold (h : PlanSt r p ps pl N ω) (ha : a ∈ ps) {ls : List (List Nat)} {l : List Nat} (e : ω a = some (.lst (ls.map natsD))) (hl : ls.length ≤ N) : PlanSt r p ps pl (N + 1) (ω.set a (.lst (ls.map natsD ++ [natsD l]))) := by
  refine ⟨?_, fun x hx => ?_, ?_, h.ne⟩
  · rw [Om.set_ne fun z => h.p_held (by rw [z]; exact ha)]; exact h.src
  · by_cases z : x = a
    · subst z
      exact ⟨ls ++ [l], by rw [Om.set_same, List.map_append]; rfl, by rw [List.length_append, List.length_singleton]; omega⟩
    · obtain ⟨ms, h1, h2⟩ := h.held x hx
      exact ⟨ms, by rw [Om.set_ne z]; exact h1, by omega⟩
  · obtain ⟨ms, h1, h2, h3⟩ := h.lots
    exact ⟨ms, by rw [Om.set_ne fun z => h.ne (by rw [z]; exact ha)]; exact h1, by omega, h3⟩
theorem PlanSt.last (h : PlanSt r p ps pl N ω) {ls : List (List Nat)} {l : List Nat} (e : ω pl = some (.lst (ls.map natsD))) (hl : ls.length ≤ N) (h3 : ∀ l ∈ ls, LotOk r l) (ok : LotOk r l) : PlanSt r p ps pl (N + 1) (ω.set pl (.lst (ls.map natsD ++ [natsD l]))) := by
  refine ⟨?_, fun x hx => ?_, ?_, h.ne⟩
  · rw [Om.set_ne h.p_lots]; exact h.src
  · obtain ⟨ms, h1, h2⟩ := h.held x hx
    exact ⟨ms, by rw [Om.set_ne fun z => h.ne (by rw [← z]; exact hx)]; exact h1, by omega⟩
  · refine ⟨ls ++ [l], by rw [Om.set_same, List.map_append]; rfl, by rw [List.length_append, List.length_singleton]; omega, fun x hx => ?_⟩
    rcases List.mem_append.mp hx with hx | hx
    · exact h3 x hx
    · rw [List.mem_singleton.mp hx]; exact ok
theorem Bas.refl : Bas ps pl ω ω := fun _ _ _ _ e => e
theorem Bas.trans (h : Bas ps pl ω ω') (k : ∀ a, a ∉ ps → a ≠ pl → ω'' a = ω' a) : Bas ps pl ω ω'' := fun a c h1 h2 e => by rw [k a h1 h2]; exact h a c h1 h2 e
theorem Bas.new (h : Bas ps pl ω ω') (e : ω' q = none) : Bas ps pl ω (ω'.set q c) := fun a x h1 h2 k => by
  have := h a x h1 h2 k
  rw [Om.set_ne fun z => by rw [z, e] at this; cases this]
  exact this
theorem Bas.hold (h : Bas ps pl ω ω') (ha : a ∈ ps) : Bas ps pl ω (ω'.set a c) := fun x y h1 h2 k => by
  rw [Om.set_ne fun z => h1 (by rw [z]; exact ha)]; exact h x y h1 h2 k
theorem Bas.last (h : Bas ps pl ω ω') : Bas ps pl ω (ω'.set pl c) := fun x y h1 h2 k => by
  rw [Om.set_ne h2]; exact h x y h1 h2 k
/-- the end: what was made on the way is forgotten -/
theorem plan_fin {R : Da → Om → Prop} (h0 : PlanSt r p ps pl N ω) (b : Bas ps pl ω ω') (h : PlanSt r p ps pl M ω') (fin : ∀ ω', (∀ a, a ∉ ps → a ≠ pl → ω' a = ω a) → PlanSt r p ps pl M ω' → R .non ω') : Shr R .non ω' := by
  let ω0 : Om := fun a => @ite _ (a ∈ ps ∨ a = pl) (Classical.propDecidable _) (ω' a) (ω a)
  have e1 : ∀ a, a ∈ ps ∨ a = pl → ω0 a = ω' a := fun a z => @if_pos _ (Classical.propDecidable _) z _ _ _
  have e2 : ∀ a, ¬ (a ∈ ps ∨ a = pl) → ω0 a = ω a := fun a z => @if_neg _ (Classical.propDecidable _) z _ _ _
  refine ⟨ω0, fun a x e => ?_, fin ω0 (fun a h1 h2 => e2 a fun z => z.elim h1 h2) ⟨?_, fun a ha => ?_, ?_, h.ne⟩⟩
  · by_cases z : a ∈ ps ∨ a = pl
    · rw [e1 a z] at e; exact e
    · rw [e2 a z] at e; exact b a x (fun y => z (.inl y)) (fun y => z (.inr y)) e
  · rw [e2 p fun z => z.elim h0.p_held h0.p_lots]; exact h0.src
  · rw [e1 a (.inl ha)]; exact h.held a ha
  · rw [e1 pl (.inr rfl)]; exact h.lots
end
theorem Way.at {b : Book} {lot : List Nat} : ∀ {l : List Nat} {j x y : Nat}, Way b lot l → l[j]? = some x → l[j + 1]? = some y → Adj b lot x y
  | [], _, _, _, _, h, _ => by simp at h
  | [_], _, _, _, _, _, h => by simp at h
  | g :: h :: l, 0, x, y, w, e1, e2 => by
    simp at e1 e2
    subst e1 e2
    exact w.1
  | g :: h :: l, j + 1, x, y, w, e1, e2 => Way.at (l := h :: l) (j := j) w.2 (by simpa using e1) (by simpa using e2)
theorem sgl_le {r : Rig} {l : List Nat} {g : Nat} : (parts r l g).length ≤ l.length := by
  unfold parts
  rw [List.length_map, ← List.length_map (r.sg g) (as := l)]
  refine nodup_sub_len _ _ (sgl_asc.imp fun h => Nat.ne_of_lt h) fun s hs => ?_
  unfold sgl at hs
  obtain ⟨_, h⟩ := List.mem_filter.mp hs
  obtain ⟨x, hx, e⟩ := List.any_eq_true.mp h
  exact List.mem_map.mpr ⟨x, hx, of_decide_eq_true e⟩
def bnd : Nat → Nat
  | 0 => 10
  | n + 1 => 10 + 4 * bnd n
def sp_planB (n : Nat) : Dsp := fun ds ω R => ∃ (b : Book) (lot : List Nat) (g : Nat) (p : Addr) (ps : List Addr) (pl : Addr) (N : Nat), ds = [.ptr p, bookD b, .lst (ps.map .ptr), .ptr pl, natsD lot, natD g] ∧ b.Ok ∧ LotOk b.rig lot ∧ lot ≠ [] ∧ g < b.rig.m ∧ lot.length ≤ n ∧ ps.length = b.rig.moves.length ∧
  PlanSt b.rig p ps pl N ω ∧ N + bnd n ≤ 80000 ∧ ∀ ω', (∀ a, a ∉ ps → a ≠ pl → ω' a = ω a) → PlanSt b.rig p ps pl (N + bnd n) ω' → R .non ω'
def sp_planA (n : Nat) : Dsp := fun ds ω R => ∃ (b : Book) (lot : List Nat) (g : Nat) (p : Addr) (ps : List Addr) (pl : Addr) (N : Nat), ds = [.ptr p, bookD b, .lst (ps.map .ptr), .ptr pl, natsD lot, natD g] ∧ b.Ok ∧ LotOk b.rig lot ∧ lot ≠ [] ∧ g < b.rig.m ∧ lot.length ≤ n + 1 ∧ ps.length = b.rig.moves.length ∧
  PlanSt b.rig p ps pl N ω ∧ N + 4 * bnd n ≤ 80000 ∧ oneSign b.rig lot g = false ∧ ∀ ω', (∀ a, a ∉ ps → a ≠ pl → ω' a = ω a) → PlanSt b.rig p ps pl (N + 4 * bnd n) ω' → R .non ω'
def sp_planG (n : Nat) (X : Dsp) : Dsp := fun ds ω R => ∃ (b : Book) (lot : List Nat) (g : Nat) (p : Addr) (ps : List Addr) (pl : Addr) (N : Nat), ds = [.ptr p, bookD b, .lst (ps.map .ptr), .ptr pl, natsD lot, natD g] ∧ b.Ok ∧ LotOk b.rig lot ∧ lot ≠ [] ∧ g < b.rig.m ∧ lot.length ≤ n + 1 ∧ ps.length = b.rig.moves.length ∧
  PlanSt b.rig p ps pl N ω ∧ N + (if oneSign b.rig lot g = true then 10 else 0) + 4 * bnd n ≤ 80000 ∧ (oneSign b.rig lot g = false ∨ ∀ ds ω R, sp_planA n ds ω R → X ds ω R) ∧ ∀ ω', (∀ a, a ∉ ps → a ≠ pl → ω' a = ω a) → PlanSt b.rig p ps pl (N + (if oneSign b.rig lot g = true then 10 else 0) + 4 * bnd n) ω' → R .non ω'
theorem wifs_test {u : WT} {w r : WS} {E : En} {ρ : Rho} {ω : Om} (C : Bool → Prop) (h : ∀ R : Bool → Om → Prop, (∀ b, C b → R b ω) → u ρ ω R) (q : ∀ b, C b → if b = true then w E ρ ω else r E ρ ω) : wIfS u w r E ρ ω := h _ q
theorem D_plan_step (Z : Zp K mg base T) {n k : Nat} {X : Dsp} (D_law_planS : Df P wo K mg base T "_law_plan" (k + 9) (sp_planB n)) (D_law_plan : Df P wo K mg base T "_law_plan" (k + 9) X) : Df P wo K mg base T "_law_plan" (k + 10) (sp_planG n X) := by
  have sc : FnScope ["_law_source", "_law_bare", "_law_held", "_law_lots", "_law_lot", "_law_g", "_law_rig_here", "_law_split", "_law_sign", "_law_some_here", "_law_paths_here", "_law_path", "_law_at", "_law_h"] ["_law_source", "_law_bare", "_law_held", "_law_lots", "_law_lot", "_law_g"] (defScope s_law_plan) := ⟨rfl, rfl, rfl, by decide +kernel, rfl, by decide +kernel, by decide +kernel⟩
  obtain ⟨⟨fd, F⟩, hm⟩ := Z.df 84 d_law_plan rfl rfl
  have D_law_parts := D_law_parts (P := P) (wo := wo) Z
  have D_law_paths := D_law_paths (P := P) (wo := wo) Z
  have D_law_is_one_sign := D_law_is_one_sign (P := P) (wo := wo) Z
  have D_law_take := D_law_take (P := P) (wo := wo) Z
  have D_law_is_done := D_law_is_done (P := P) (wo := wo) Z
  have D_law_one := D_law_one (P := P) (wo := wo) Z
  have D_law_move_of := D_law_move_of (P := P) (wo := wo) Z
  refine def_okS F sc hm (fun _ _ _ _ _ _ us hl => match us, hl with | [_, _, _, _, _, _], _ => rfl) (by walk_at "len") fun cdv A outer st H E hr => ?_
  have nd := sc.nd
  refine ⟨_, (ssc (sasg (xtup (xac (xix (xv 1) xint) (xac (xcall D_law_parts (hr.mono (by first | decide | omega)) (xac (xix (xv 1) xint) (xac (xv 4) (xac (xv 5) xan)))) xan))) (xgtp rfl (xgc (xg 6 nd) (xgc (xg 7 nd) xgn))))
    (ss1 (sif (tgt (xbi (bi_len Z.len) (xac (xv 7) xan)) xint) (ss1 (sfor PassesOwn.never rfl (xil (xv 7)) (xgtp rfl (xgc (xg 8 nd) (xgc (xg 9 nd) xgn))) (ss1 (sexpr (xcall D_law_planS (hr.mono (by first | decide | omega)) (xac (xv 0) (xac (xv 1) (xac (xv 2) (xac (xv 3) (xac (xv 9) (xac (xv 5) xan))))))))))) (ssc (sset 10 nd (xcall D_law_paths (hr.mono (by first | decide | omega)) (xac (xv 1) (xac (xv 4) (xac (xv 5) xan)))))
    (ssc (ssetLc 9 (own := [("_law_h", 13)]) rfl nd (by rfl) (xil (xbi (bi_sortedD rfl Z.sorted) (xac (xv 10) xan))) (fun _ _ _ _ _ => (xg 13 nd)) (fun _ _ _ _ _ => (xt1 (tnot (tval (xcall D_law_is_one_sign (hr.mono (by first | decide | omega)) (xac (xv 6) (xac (xv 4) (xac (xv 13) xan)))))))) (fun _ _ _ _ _ => (xv 13)))
    (ss1 (sif (tw (twor (teq hr (xv 9) (xlst xan)) (twor1 (tw (twand (tval (xcall D_law_is_done (hr.mono (by first | decide | omega)) (xac (xv 6) (xac (xv 4) xan)))) (twand1 (tgt (xcall D_law_take (hr.mono (by first | decide | omega)) (xac (xv 0) (xac xint xan))) xint))))))) (ss1 (sexpr (xappend (xv 3) (xac (xv 4) xan)))) (ssc (sset 11 nd (xdget hr (xv 10) (xcall D_law_one (hr.mono (by first | decide | omega)) (xac (xv 0) (xac (xv 9) xan)))))
    (ssc (sfor PassesOwn.never rfl (xir2 Z.range xint (xbi (bi_len Z.len) (xac (xv 11) xan))) (xg 12 nd) (ss1 (sexpr (xappend (xix (xv 2) (xcall D_law_move_of (hr.mono (by first | decide | omega)) (xac (xv 6) (xac (xix (xv 11) (xsub (xv 12) xint)) (xac (xix (xv 11) (xv 12)) xan))))) (xac (xv 4) xan)))))
    (ss1 (sexpr (xcall D_law_plan (hr.mono (by first | decide | omega)) (xac (xv 0) (xac (xv 1) (xac (xv 2) (xac (xv 3) (xac (xv 4) (xac (xix (xv 11) (xsub (xbi (bi_len Z.len) (xac (xv 11) xan)) xint)) xan)))))))))))))))))), fun ds ω R h => ?_⟩
  obtain ⟨b, lot, g, p, ps, pl, N, rfl, o, hl, hne, hg, hn, hpl, st, hN, hX, fin⟩ := h
  have o1 := o.rig
  have h4 := hl.len o1
  have hple := sgl_le (r := b.rig) (l := lot) (g := g)
  have hbn : n ≤ 3 ∨ True := .inr trivial
  walk_at "sw"
  cases hone : oneSign b.rig lot g with
  | false =>
    rw [hone, if_neg (by decide), Nat.add_zero] at hN fin
    have h2 : 1 < (parts b.rig lot g).length := by
      unfold oneSign at hone
      have := of_decide_eq_false hone
      unfold parts
      rw [List.length_map]
      omega
    rw [List.length_map, decide_eq_true (show (1 : Int) < ((parts b.rig lot g).length : Int) by omega)]
    have hmul : (parts b.rig lot g).length * bnd n ≤ 4 * bnd n := Nat.mul_le_mul_right _ (by omega)
    walk_at "sw"
    refine for_on (parts b.rig lot g) partD (fun i ρ' ω' => Hold <| (∃ x y, ρ' = [some (.ptr p), some (bookD b), some (.lst (ps.map .ptr)), some (.ptr pl), some (natsD lot), some (natD g), some (rigD b.rig), some (.lst ((parts b.rig lot g).map partD)), x, y, none, none, none, none]) ∧ Bas ps pl ω ω' ∧ PlanSt b.rig p ps pl (N + i * bnd n) ω') ⟨⟨_, _, rfl⟩, Bas.refl, by rw [Nat.zero_mul]; exact st⟩ (fun i s ρ' ω' hs hI => ?_) fun ρ' ω' hI => ?_
    · obtain ⟨⟨_, _, rfl⟩, hb, st2⟩ := hI
      have hsm := List.mem_of_getElem? hs
      have hil : i < (parts b.rig lot g).length := (List.getElem?_eq_some_iff.mp hs).1
      have hL := parts_legit o1 hl hg hsm
      have hless := parts_less o1 hl hg hone hsm
      have hs1 : LotOk b.rig s.2 := hL.ok
      have hs2 : s.2 ≠ [] := hL.ne
      have hs3 : s.2.length ≤ n := by omega
      have hmi : (i + 1) * bnd n ≤ 4 * bnd n := Nat.mul_le_mul_right _ (by omega)
      rw [Nat.succ_mul] at hmi
      have hN2 : N + i * bnd n + bnd n ≤ 80000 := by omega
      walk_at "sw"
      intro ω'' k1 k2
      refine ⟨⟨_, _, rfl⟩, hb.trans k1, ?_⟩
      rw [Nat.succ_mul]
      exact k2.up (by omega)
    · obtain ⟨⟨_, _, rfl⟩, hb, st2⟩ := hI
      walk_at "sw"
      exact plan_fin st hb (st2.up (by omega)) fin
  | true =>
    rw [hone, if_pos rfl] at hN fin
    have h2 : (parts b.rig lot g).length ≤ 1 := by
      unfold oneSign at hone
      have := of_decide_eq_true hone
      unfold parts
      rw [List.length_map]
      exact this
    have hX := hX.resolve_left (by rw [hone]; decide)
    rw [List.length_map, decide_eq_false (show ¬ (1 : Int) < ((parts b.rig lot g).length : Int) by omega)]
    walk_at "sw"
    intro pd kvs hpd hok
    have stD := st.sub ((Sub.refl ω).new (c := .dct (encP kvs)) hpd)
    have hbD : Bas ps pl ω (ω.set pd (.dct (encP kvs))) := Bas.refl.new hpd
    have hkl : kvs.length ≤ 4 := by
      have := nodup_len (n := b.rig.m) hok.nd fun x hx => by
        obtain ⟨q, hq, rfl⟩ := List.mem_map.mp hx
        exact (hok.path q hq).lt
      rw [List.length_map] at this
      have := o1.m2
      omega
    have hkd : dctOf (ω.set pd (.dct (encP kvs))) (.ptr pd) = some (encP kvs) := dct_ptr Om.set_same
    have hkl2 : (encP kvs).length < 64 := by unfold encP; rw [List.length_map]; omega
    have hkeys : (encP kvs).map (·.1) = (kvs.map (·.1)).map Int.ofNat := by unfold encP; rw [List.map_map, List.map_map]; rfl
    generalize hwD : ω.set pd (.dct (encP kvs)) = ωD at stD hbD hkd
    have hdv : ∀ h : Nat, h ∈ kvs.map (·.1) → ∃ Q, dval (encP kvs) (h : Int) = some (natsD Q) ∧ PathTo b lot 10 h Q := fun h hh => by
      obtain ⟨q, hq, rfl⟩ := List.mem_map.mp hh
      exact ⟨q.2, dvalP_some hok.nd hq, hok.path q hq⟩
    walk_at "sw"
    intro ns hns _
    rw [hkeys] at hns
    obtain ⟨ks, hks, rfl⟩ := perm_map (f := Int.ofNat) (fun x y => Int.ofNat.inj) hns
    have hkm : ∀ h ∈ ks, ∃ Q, dval (encP kvs) (h : Int) = some (natsD Q) ∧ PathTo b lot 10 h Q := fun h hh => hdv h (hks.mem_iff.mp hh)
    have hksl : ks.length ≤ 4 := by rw [hks.length_eq, List.length_map]; exact hkl
    rw [← natm_int]
    walk_at "sw"
    refine lc_filter ks natD (fun h => !oneSign b.rig lot h) (by omega) (fun h ω5 Q1 Q2 hh hs5 h1 h2 => by
      obtain ⟨Q, _, hQ⟩ := hkm h hh
      have hlt := hQ.lt
      walk_at "sw"
      cases e : oneSign b.rig lot h with
      | true => exact iteF (h2 (by rw [e]; rfl))
      | false => exact iteT (by walk_at "sw"; exact h1 (by rw [e]; rfl))) ?_
    have hfm : ∀ h ∈ (ks.filter fun h => !oneSign b.rig lot h), h ∈ ks ∧ oneSign b.rig lot h = false := fun h hh => by
      obtain ⟨z1, z2⟩ := List.mem_filter.mp hh
      exact ⟨z1, by simpa using z2⟩
    have hfl : (ks.filter fun h => !oneSign b.rig lot h).length ≤ 4 := Nat.le_trans (List.length_filter_le _ _) hksl
    generalize (ks.filter fun h => !oneSign b.rig lot h) = hs at hfm hfl ⊢
    unfold gN
    dsimp only
    refine wifs_test (C := fun bb => hs = [] → bb = true) (fun R' hR => ?_) fun bb hbb => ?_
    · walk_at "sw"
      refine eq_nil (cl_natm _) (dep_natm _) ?_
      walk_at "sw"
      by_cases hz : hs = []
      · rw [decide_eq_true hz]
        exact iteT (hR _ fun _ => rfl)
      · rw [decide_eq_false hz]
        walk_at "sw"
        cases hd : done b.rig lot with
        | false =>
          walk_at "sw"
          exact hR _ fun z => absurd z hz
        | true =>
          have hp4 := stD.src
          walk_at "sw"
          intro k hk
          walk_at "sw"
          exact hR _ fun z => absurd z hz
    · cases bb with
      | true =>
        obtain ⟨ls, l1, l2, l3⟩ := stD.lots
        have hll : (ls.map natsD).length < 100000 := by rw [List.length_map]; omega
        walk_at "sw"
        exact plan_fin st hbD.last ((stD.last (l := lot) l1 l2 l3 hl).up (by omega)) fin
      | false =>
        have hz : hs ≠ [] := fun z => by have := hbb z; cases this
        have hp4 := stD.src
        have hne2 : hs.map natD ≠ [] := fun z => hz (List.map_eq_nil_iff.mp z)
        have hhl : (hs.map natD).length < 1000 := by rw [List.length_map]; omega
        walk_at "sw"
        intro x hx
        obtain ⟨h, hh, rfl⟩ := List.mem_map.mp hx
        obtain ⟨z1, z2⟩ := hfm h hh
        obtain ⟨Q, hQd, hQ⟩ := hkm h z1
        have hQl := hQ.len
        have hQ1 : 1 ≤ Q.length := Nat.one_le_iff_ne_zero.mpr fun z => by
          have := hQ.last
          rw [List.eq_nil_of_length_eq_zero z] at this; cases this
        walk_at "sw"
        rw [List.length_map, show ((Q.length : Int) - 1).toNat = Q.length - 1 from by omega, rgD_1n]
        refine ⟨⟨by omega, by omega, by omega, by omega⟩, ?_⟩
        refine for_on (List.range (Q.length - 1)) (fun i => natD (1 + i)) (fun i ρ' ω' => Hold <| (∃ x, ρ' = [some (.ptr p), some (bookD b), some (.lst (ps.map .ptr)), some (.ptr pl), some (natsD lot), some (natD g), some (rigD b.rig), some (.lst ((parts b.rig lot g).map partD)), none, some (.lst (hs.map natD)), some (.ptr pd), some (natsD Q), x, none]) ∧ Bas ps pl ω ω' ∧ PlanSt b.rig p ps pl (N + i) ω') ⟨⟨_, rfl⟩, hbD, stD⟩ (fun i i' ρ' ω' hi hI => ?_) fun ρ' ω' hI => ?_
        · obtain ⟨⟨_, rfl⟩, hb, st2⟩ := hI
          have hi2 := List.getElem?_eq_some_iff.mp hi
          have hil : i < Q.length - 1 := by have := hi2.1; rwa [List.length_range] at this
          have hik : i' = i := by rw [← hi2.2, List.getElem_range]
          subst hik
          have ex : Q[i']? = some Q[i'] := List.getElem?_eq_getElem (by omega)
          have ey : Q[i' + 1]? = some Q[i' + 1] := List.getElem?_eq_getElem (by omega)
          obtain ⟨k2, pr, hk2, hends, _⟩ := hQ.way.at ex ey
          generalize Q[i'] = qx at ex hends
          generalize Q[i' + 1] = qy at ey hends
          have hk2l := (List.getElem?_eq_some_iff.mp hk2).1
          have ea : ps[k2]? = some ps[k2] := List.getElem?_eq_getElem (by omega)
          have ham := List.mem_of_getElem? ea
          generalize ps[k2] = a at ea ham
          obtain ⟨ls, l1, l2⟩ := st2.held a ham
          have ea1 : atI (Q.map natD) (((1 + i' : Nat) : Int) - 1) = some (natD qx) := by
            rw [show ((1 + i' : Nat) : Int) - 1 = ((i' : Nat) : Int) from by omega]; exact ix_map ex
          have ea2 : atI (Q.map natD) ((1 + i' : Nat) : Int) = some (natD qy) := ix_map (by rw [Nat.add_comm]; exact ey)
          have ea3 : atI (ps.map Da.ptr) ((k2 : Nat) : Int) = some (.ptr a) := ix_map (enc := Da.ptr) ea
          have hll : (ls.map natsD).length < 100000 := by rw [List.length_map]; omega
          walk_at "sw"
          exact ⟨⟨_, rfl⟩, hb.hold ham, (st2.hold (l := lot) ham l1 l2)⟩
        · obtain ⟨⟨_, rfl⟩, hb, st2⟩ := hI
          rw [List.length_range] at st2
          have eal := at_len hQ.last
          walk_at "sw"
          refine hX _ _ _ ⟨b, lot, h, p, ps, pl, N + 10, rfl, o, hl, hne, hQ.lt, hn, hpl, st2.up (by omega), by omega, z2, fun ω'' k1 k2 => ?_⟩
          exact plan_fin st (hb.trans k1) k2 fin
theorem D_planG_A {n : Nat} {X : Dsp} : ∀ ds ω R, sp_planA n ds ω R → sp_planG n X ds ω R := fun ds ω R ⟨b, lot, g, p, ps, pl, N, h1, h2, h3, h4, h5, h6, h7, h8, h9, hone, fin⟩ =>
  ⟨b, lot, g, p, ps, pl, N, h1, h2, h3, h4, h5, h6, h7, h8, by rw [hone, if_neg (by decide)]; exact h9, .inl hone, by rw [hone, if_neg (by decide)]; exact fin⟩
theorem D_planG_B {n : Nat} : ∀ ds ω R, sp_planB (n + 1) ds ω R → sp_planG n (sp_planA n) ds ω R := fun ds ω R ⟨b, lot, g, p, ps, pl, N, h1, h2, h3, h4, h5, h6, h7, h8, h9, fin⟩ =>
  ⟨b, lot, g, p, ps, pl, N, h1, h2, h3, h4, h5, h6, h7, h8, by
    have e : bnd (n + 1) = 10 + 4 * bnd n := rfl
    split <;> omega, .inr fun _ _ _ h => h, fun ω' k1 k2 => fin ω' k1 (k2.up (by
    have e : bnd (n + 1) = 10 + 4 * bnd n := rfl
    split <;> omega))⟩
theorem D_planBot (Z : Zp K mg base T) {s : Dsp} {k : Nat} (h : ∀ ds ω R, s ds ω R → False) : Df P wo K mg base T "_law_plan" k s := by
  obtain ⟨⟨fd, F⟩, hm⟩ := Z.df 84 d_law_plan rfl rfl
  exact df_bot F hm (ps := ["_law_source", "_law_bare", "_law_held", "_law_lots", "_law_lot", "_law_g"]) (fun _ _ _ _ _ _ us hl => match us, hl with | [_, _, _, _, _, _], _ => rfl) h
theorem D_planB (Z : Zp K mg base T) : ∀ n : Nat, Df P wo K mg base T "_law_plan" (2 * n + 9) (sp_planB n) := by
  intro n
  induction n with
  | zero => exact D_planBot Z fun ds ω R ⟨b, lot, g, p, ps, pl, N, _, _, _, h4, _, h6, _⟩ => h4 (List.eq_nil_of_length_eq_zero (Nat.le_zero.mp h6))
  | succ n ih =>
    have A : Df P wo K mg base T "_law_plan" (2 * n + 10) (sp_planA n) := (D_plan_step Z (k := 2 * n) (X := fun _ _ _ => False) ih (D_planBot Z fun _ _ _ h => h)).imp D_planG_A
    exact (D_plan_step Z (k := 2 * n + 1) (X := sp_planA n) (ih.up (by omega)) A).imp D_planG_B
theorem D_law_plan (Z : Zp K mg base T) : Df P wo K mg base T "_law_plan" 17 (sp_planB 4) := D_planB Z 4
end
end Wr
set_option maxHeartbeats 4000000
/-! what is drawn: planted books, books with one bar more. -/
namespace Wr
open PySem PySem.Spec PyProof.Rows L2 Dl
local macro_rules
  | `(tactic| walk_at "len") => `(tactic| (intro ds ω R h; repeat (first | (obtain ⟨e, _⟩ := h; subst e; rfl) | (obtain ⟨_, h⟩ := h))))
  | `(tactic| walk_at "st1") => `(tactic| first
    | apply Exists.intro
    | refine And.intro rfl ?_ | refine iteT ?_ | refine iteF ?_
    | refine And.intro (lst_ptr (by assumption)) ?_ | refine And.intro (seq_ptr (by assumption)) ?_ | refine And.intro (dct_ptr (by assumption)) ?_
    | refine And.intro (lst_ptr Om.set_same) ?_ | refine And.intro (seq_ptr Om.set_same) ?_ | refine And.intro Om.set_same ?_
    | refine And.intro ⟨_, lst_ptr (by assumption)⟩ ?_ | refine And.intro ⟨_, lst_ptr Om.set_same⟩ ?_ | refine And.intro ⟨_, rfl⟩ ?_ | refine And.intro ⟨_, lst_ptr ((Om.set_ne (by assumption)).trans (by assumption))⟩ ?_
    | refine And.intro ((Om.set_ne (by assumption)).trans (by assumption)) ?_ | refine And.intro (lst_ptr ((Om.set_ne (by assumption)).trans (by assumption))) ?_
    | refine And.intro (by assumption) ?_ | refine And.intro (ix_map (by assumption)) ?_
    | refine And.intro (by omega) ?_
    | refine do_all (by rfl) ?_ | refine eq_nat ?_ | refine ne_nat ?_ | refine eq_nats ?_ | refine ne_nats ?_ | refine in_nats ?_ | refine nin_nats ?_)
  | `(tactic| walk_at "st") => `(tactic| repeat walk_at "st1")
local macro_rules
  | `(tactic| walk_at "sw") => `(tactic| repeat (first
    | walk_at "st1"
    | refine Or.inl (Exists.intro _ (And.intro rfl ?_))
    | refine Or.inr (Exists.intro _ (And.intro rfl ?_))
    | refine And.intro (Or.inl (And.intro (by omega) (by omega))) ?_
    | refine And.intro (Or.inr (And.intro (by omega) (by omega))) ?_
    | refine And.intro (And.intro (by omega) (by omega)) ?_
    | refine And.intro (by decide) ?_
    | fail))
section
variable {P : Program} {wo : World} {K : PySem.W.Frag} {mg : Str → Option Value} {base : Heap} {T : Tb}
theorem rep_bare (n : Nat) : Da.tup (List.replicate n [Da.tup []]).flatten = .tup ((List.replicate n ([] : List (List Nat))).map barsD) := by
  congr 1
  induction n with
  | zero => rfl
  | succ n ih => rw [List.replicate_succ, List.replicate_succ, List.flatten_cons, ih, List.map_cons]; rfl
theorem bare_ok {r : Rig} (o : r.Ok) : (Book.mk r (List.replicate r.moves.length [])).Ok := ⟨o, List.length_replicate, fun bs hb => by
  rw [List.eq_of_mem_replicate hb]
  exact ⟨Nat.zero_le _, fun l hl => (by cases hl), .nil⟩⟩
theorem thaw_held {ω ω' : Om} {N : Nat} : ∀ {ps : List Addr}, (∀ a ∈ ps, ∃ ls : List (List Nat), ω a = some (.lst (ls.map natsD)) ∧ ls.length ≤ N) → (∀ a ∈ ps, ω' a = none) → ∃ hs : List (List (List Nat)), hs.length = ps.length ∧ (∀ ls ∈ hs, ls.length ≤ N) ∧ Paired (Thaw ω ω') (ps.map .ptr) (hs.map fun ls => .lst (ls.map natsD))
  | [], _, _ => ⟨[], rfl, fun ls h => (by cases h), .nil⟩
  | a :: ps, h, k => by
    obtain ⟨ls, h1, h2⟩ := h a List.mem_cons_self
    obtain ⟨hs, q1, q2, q3⟩ := thaw_held (ps := ps) (fun x hx => h x (List.mem_cons_of_mem _ hx)) fun x hx => k x (List.mem_cons_of_mem _ hx)
    refine ⟨ls :: hs, by rw [List.length_cons, List.length_cons, q1], fun x hx => ?_, .cons (Thaw.ptr h1 (k a List.mem_cons_self)) q3⟩
    rcases List.mem_cons.mp hx with e | hx
    · rw [e]; exact h2
    · exact q2 x hx
structure CuresOk (r : Rig) (C : List (List Nat)) : Prop where
  len : C.length = r.n
  ok : ∀ c ∈ C, Asc c ∧ ∀ x ∈ c, x < r.q
theorem CuresOk.rig {r : Rig} {C : List (List Nat)} (o : r.Ok) (h : CuresOk r C) : (Rig.mk r.n r.q C r.signs r.moves).Ok := ⟨o.n1, o.n2, o.q1, o.q2, h.len, h.ok, o.m1, o.m2, o.sl, o.ma, o.ms, o.ml⟩
theorem CuresOk.set {r : Rig} {C : List (List Nat)} {x : Nat} {c : List Nat} (h : CuresOk r C) (hc : Asc c ∧ ∀ x ∈ c, x < r.q) : CuresOk r (C.set x c) := ⟨by rw [List.length_set]; exact h.len, fun d hd => by
  rcases List.mem_or_eq_of_mem_set hd with hd | hd
  · exact h.ok d hd
  · rw [hd]; exact hc⟩
def sp_law_planted_book : Dsp := fun ds ω R => ∃ (p : Addr), ds = [.ptr p, natD 4, natD 4] ∧ ω p = some .src ∧ ∀ b : Book, Book3 b → R (bookD b) ω
theorem sc_law_planted_book : FnScope ["_law_source", "_law_faults", "_law_settings", "_law_rig_here", "_law_held", "_law_lots", "_law_cures_here", "_law_lot", "_law_whole", "_law_r", "_law_x", "_law_move", "_law_k"] ["_law_source", "_law_faults", "_law_settings"] (defScope s_law_planted_book) := ⟨rfl, rfl, rfl, by decide +kernel, rfl, by decide +kernel, by decide +kernel⟩
theorem D_law_planted_book (Z : Zp K mg base T) : Df P wo K mg base T "_law_planted_book" 18 sp_law_planted_book := by
  obtain ⟨⟨fd, F⟩, hm⟩ := Z.df 85 d_law_planted_book rfl rfl
  have D_law_rig := D_law_rig (P := P) (wo := wo) Z
  have D_law_plan := D_law_plan (P := P) (wo := wo) Z
  have D_law_all := D_law_all (P := P) (wo := wo) Z
  have D_law_cures_all := D_law_cures_all (P := P) (wo := wo) Z
  have D_law_take := D_law_take (P := P) (wo := wo) Z
  have D_law_bars := D_law_bars (P := P) (wo := wo) Z
  refine def_okS F sc_law_planted_book hm (fun _ _ _ _ _ _ us hl => match us, hl with | [_, _, _], _ => rfl) (by walk_at "len") fun cdv A outer st H E hr => ?_
  have nd := sc_law_planted_book.nd
  refine ⟨_, (ssc (sset 3 nd (xcall D_law_rig (hr.mono (by first | decide | omega)) (xac (xv 0) (xac (xv 1) (xac (xv 2) xan)))))
    (ssc (spar 4 5 rfl nd (xac (xlc (own := [("_law_move", 11)]) rfl nd (by rfl) (xit (xun (xix (xv 3) xint))) (fun _ _ _ _ _ => (xg 11 nd)) (fun _ _ _ _ _ => xtn) (fun _ _ _ _ _ => (xnew xan))) (xac (xnew xan) xan)))
    (ssc (sexpr (xcall D_law_plan (hr.mono (by first | decide | omega)) (xac (xv 0) (xac (xtup (xac (xv 3) (xac (xrep (xtup (xac (xtup xan) xan)) (xbi (bi_len Z.len) (xac (xun (xix (xv 3) xint)) xan))) xan))) (xac (xv 4) (xac (xv 5) (xac (xcall D_law_all (hr.mono (by first | decide | omega)) (xac (xv 3) xan)) (xac xint xan))))))))
    (ssc (sstill (sset 6 nd (xbi (bi_list Z.list) (xac (xix (xv 3) xint) xan))))
    (ssc (sfor PassesOwn.never rfl (xil (xv 5)) (xg 7 nd) (ss1 (sif (teq hr (xcall D_law_cures_all (hr.mono (by first | decide | omega)) (xac (xtup (xac (xix (xv 3) xint) (xac (xix (xv 3) xint) (xac (xbi (bi_tuple Z.tuple) (xac (xv 6) xan)) xan)))) (xac (xv 7) xan))) (xlst xan)) (ssc (sset 9 nd (xcall D_law_take (hr.mono (by first | decide | omega)) (xac (xv 0) (xac (xix (xv 3) xint) xan))))
    (ss1 (sfor PassesOwn.never rfl (xit (xv 7)) (xg 10 nd) (ss1 (ssetix (xbi (bi_tuple Z.tuple) (xac (xlc (own := [("_law_k", 12)]) rfl nd (by rfl) (xir Z.range (xix (xv 3) xint)) (fun _ _ _ _ _ => (xg 12 nd)) (fun _ _ _ _ _ => (xt1 (tw (twor (teq hr (xv 12) (xv 9)) (twor1 (tin hr (xv 12) (xix (xv 6) (xv 10)))))))) (fun _ _ _ _ _ => (xv 12))) xan)) (xv 6) (xv 10)))))) ssn)))
    (ssc (sset 8 nd (xtup (xac (xix (xv 3) xint) (xac (xix (xv 3) xint) (xac (xbi (bi_tuple Z.tuple) (xac (xv 6) xan)) (xac (xix (xv 3) xint) (xac (xix (xv 3) xint) xan)))))))
    (ss1 (sret (xtup (xac (xv 8) (xac (xcall D_law_bars (hr.mono (by first | decide | omega)) (xac (xv 0) (xac (xv 8) (xac (xv 4) xan)))) xan))))))))))), fun ds ω R h => ?_⟩
  obtain ⟨p, rfl, hp, q⟩ := h
  walk_at "sw"
  intro r o
  have hml := o.ml
  have hn1 := o.n1
  have hn4 := o.n2
  walk_at "sw"
  refine ⟨by rw [List.length_map]; omega, fun D hD => ⟨fun i acc ω2 => ∃ ps : List Addr, acc = ps.map .ptr ∧ ps.length = i ∧ ω2 D = some (.lst acc) ∧ D ∉ ps ∧ (∀ a ∈ ps, ω2 a = some (.lst []) ∧ ω a = none) ∧ Sub ω ω2, ⟨[], rfl, rfl, Om.set_same, by simp, by simp, Sub.set hD⟩, fun i acc ω2 ⟨ps, h1, h2, h3, _⟩ => ⟨h3, by rw [h1, List.length_map]; omega⟩, fun i d acc ω2 hd hI => ?_, fun acc ω2 hI => ?_⟩⟩
  · obtain ⟨ps, rfl, h2, h3, h4, h5, h6⟩ := hI
    walk_at "sw"
    intro a ha
    have hne : D ≠ a := fun z => by subst z; rw [h3] at ha; cases ha
    refine ⟨by rw [Om.set_ne hne]; exact h3, ps ++ [a], by rw [List.map_append]; rfl, by rw [List.length_append, List.length_singleton, h2], Om.set_same, fun z => ?_, fun x hx => ?_, (h6.new ha).put hD⟩
    · rcases List.mem_append.mp z with z | z
      · exact h4 z
      · exact hne (List.mem_singleton.mp z)
    · rcases List.mem_append.mp hx with hx | hx
      · have hxD : x ≠ D := fun z => h4 (by rw [← z]; exact hx)
        have hxa : x ≠ a := fun z => by have := (h5 x hx).1; rw [z, ha] at this; cases this
        rw [Om.set_ne hxD, Om.set_ne hxa]
        exact h5 x hx
      · rw [List.mem_singleton.mp hx, Om.set_ne (Ne.symm hne), Om.set_same]
        exact ⟨rfl, h6.no ha⟩
  · obtain ⟨ps, rfl, hpsl, h3, h4, h5, h6⟩ := hI
    rw [List.length_map] at hpsl
    refine ⟨D, _, rfl, h3, ?_⟩
    have s1 : Sub ω (ω2.del D) := h6.del hD
    have k1 : ∀ a ∈ ps, (ω2.del D) a = some (.lst []) ∧ ω a = none := fun a ha => ⟨by rw [Om.del_ne fun z => h4 (by rw [← z]; exact ha)]; exact (h5 a ha).1, (h5 a ha).2⟩
    generalize ω2.del D = ω3 at s1 k1
    walk_at "sw"
    intro pl hpl
    have hpl0 : ω pl = none := s1.no hpl
    have plps : pl ∉ ps := fun z => by rw [(k1 pl z).1] at hpl; cases hpl
    have st : PlanSt r p ps pl 0 (ω3.set pl (.lst [])) := ⟨(s1.new hpl) _ _ hp, fun a ha => ⟨[], by rw [Om.set_ne fun z => plps (by rw [← z]; exact ha)]; exact (k1 a ha).1, Nat.le_refl _⟩, ⟨[], Om.set_same, Nat.le_refl _, fun l hl => by cases hl⟩, plps⟩
    walk_at "sw"
    rw [List.length_map, Int.toNat_natCast, rep_bare]
    refine ⟨by omega, by simp, ?_⟩
    have hn3 : r.n ≤ 1000 := by omega
    walk_at "sw"
    have hbare := bare_ok o
    refine And.intro (show _ = [.ptr p, bookD ⟨r, List.replicate r.moves.length []⟩, .lst (ps.map .ptr), .ptr pl, natsD (List.range r.n), natD 0] from rfl) ?_
    refine ⟨hbare, ⟨List.pairwise_lt_range, fun x hx => List.mem_range.mp hx⟩, fun z => by have := congrArg List.length z; rw [List.length_range] at this; simp at this; omega, by show 0 < r.m; have := o.m1; omega, by rw [List.length_range]; omega, hpsl, st, by decide, fun ω4 kept st4 => ?_⟩
    have hs4 : Sub ω ω4 := fun a c e => by
      have h1 := s1 a c e
      have n1 : a ≠ pl := fun z => by rw [z, hpl0] at e; cases e
      have n2 : a ∉ ps := fun z => by rw [(k1 a z).2] at e; cases e
      rw [kept a n2 n1, Om.set_ne n1]
      exact h1
    obtain ⟨hs, hhl, hhb, hth⟩ := thaw_held (ω' := ω) st4.held fun a ha => (k1 a ha).2
    obtain ⟨lots, l1, l2, l3⟩ := st4.lots
    walk_at "sw"
    refine ⟨_, ω, hs4, .cons ThawO.rfl' (.cons ThawO.rfl' (.cons ThawO.rfl' (.cons ThawO.rfl' (.cons (ThawO.mk (Thaw.lst hth)) (.cons (ThawO.mk (Thaw.ptr l1 hpl0)) (thaw_same _)))))), ?_⟩
    walk_at "sw"
    intro pc hpc
    have n1 : p ≠ pc := fun z => by subst z; rw [hp] at hpc; cases hpc
    have hb4 : bnd 4 = 3410 := rfl
    walk_at "sw"
    refine for_on lots natsD (fun i ρ' ω' => Hold <| (∃ a b c d, ρ' = [some (.ptr p), some (natD 4), some (natD 4), some (rigD r), some (.lst (hs.map fun ls => .lst (ls.map natsD))), some (.lst (lots.map natsD)), some (.ptr pc), a, none, b, c, none, d]) ∧ ∃ C : List (List Nat), ω' = ω.set pc (.lst (C.map natsD)) ∧ CuresOk r C) ⟨⟨_, _, _, _, rfl⟩, r.cures, rfl, o.cl, o.ca⟩ (fun i lot ρ' ω' hlot hI => ?_) fun ρ' ω' hI => ?_
    · obtain ⟨⟨_, _, _, _, rfl⟩, C, rfl, hC⟩ := hI
      have hlok := l3 lot (List.mem_of_getElem? hlot)
      have hll := hlok.len o
      have hcell : (ω.set pc (.lst (C.map natsD))) pc = some (.lst (C.map natsD)) := Om.set_same
      have hp5 : (ω.set pc (.lst (C.map natsD))) p = some .src := (Om.set_ne n1).trans hp
      have hseq : seqOf (ω.set pc (.lst (C.map natsD))) (.ptr pc) = some (C.map natsD) := seq_ptr hcell
      have hq16 : r.q ≤ 1000 := by have := o.q2; omega
      have hq0 : 0 < r.q := by have := o.q1; omega
      have hq1 : r.q < 1000 := by have := o.q2; omega
      have hxl : ∀ x ∈ lot, x < C.length := fun x hx => by rw [hC.len]; exact hlok.2 x hx
      have hl9 : lot.length ≤ 1000 := by omega
      walk_at "sw"
      refine eq_nil (cl_natm _) (dep_natm _) ?_
      generalize decide (cureC C r.q lot = []) = bb
      cases bb with
      | false =>
        walk_at "sw"
        exact ⟨⟨_, _, _, _, rfl⟩, C, rfl, hC⟩
      | true =>
        walk_at "sw"
        intro k hk
        walk_at "sw"
        refine for_on lot natD (fun j ρ2 ω2 => Hold <| (∃ c d, ρ2 = [some (.ptr p), some (natD 4), some (natD 4), some (rigD r), some (.lst (hs.map fun ls => .lst (ls.map natsD))), some (.lst (lots.map natsD)), some (.ptr pc), some (natsD lot), none, some (natD k), c, none, d]) ∧ ∃ C2 : List (List Nat), ω2 = ω.set pc (.lst (C2.map natsD)) ∧ CuresOk r C2) ⟨⟨_, _, rfl⟩, C, rfl, hC⟩ (fun j x ρ2 ω2 hx hJ => ?_) fun ρ2 ω2 hJ => ?_
        · obtain ⟨⟨_, _, rfl⟩, C2, rfl, hC2⟩ := hJ
          have hxn := hlok.2 x (List.mem_of_getElem? hx)
          have hx2 : x < C2.length := by rw [hC2.len]; exact hxn
          have hx3 : x < (C2.map natsD).length := by rw [List.length_map]; exact hx2
          have hcell2 : (ω.set pc (.lst (C2.map natsD))) pc = some (.lst (C2.map natsD)) := Om.set_same
          have e3 : atI (C2.map natsD) ((x : Nat) : Int) = some (natsD (C2.getD x [])) := ix_map (by rw [List.getD_eq_getElem?_getD, List.getElem?_eq_getElem hx2]; rfl)
          walk_at "sw"
          rw [Int.toNat_natCast, rgD_nat]
          refine lc_filter (List.range r.q) natD (fun c => decide (c = k) || decide (c ∈ C2.getD x [])) (by rw [List.length_range]; omega) (fun c ω5 Q1 Q2 hc hs5 h1 h2 => by
            have hc5 := hs5 pc _ hcell2
            walk_at "sw"
            cases e1 : decide (c = k) with
            | true =>
              walk_at "sw"
              exact h1 (by rw [e1]; rfl)
            | false =>
              walk_at "sw"
              cases e2 : decide (c ∈ C2.getD x []) with
              | true =>
                walk_at "sw"
                exact h1 (by rw [e1, e2]; rfl)
              | false =>
                walk_at "sw"
                exact h2 (by rw [e1, e2]; rfl)) ?_
          walk_at "sw"
          refine ⟨⟨_, _, rfl⟩, C2.set x ((List.range r.q).filter fun c => decide (c = k) || decide (c ∈ C2.getD x [])), ?_, hC2.set ⟨List.Pairwise.sublist List.filter_sublist List.pairwise_lt_range, fun y hy => List.mem_range.mp (List.mem_filter.mp hy).1⟩⟩
          rw [Om.set_set, List.map_set]
          rfl
        · obtain ⟨⟨_, _, rfl⟩, C2, rfl, hC2⟩ := hJ
          exact ⟨⟨_, _, _, _, rfl⟩, C2, rfl, hC2⟩
    · obtain ⟨⟨_, _, _, _, rfl⟩, C, rfl, hC⟩ := hI
      have hcell : (ω.set pc (.lst (C.map natsD))) pc = some (.lst (C.map natsD)) := Om.set_same
      have hp5 : (ω.set pc (.lst (C.map natsD))) p = some .src := (Om.set_ne n1).trans hp
      have hseq : seqOf (ω.set pc (.lst (C.map natsD))) (.ptr pc) = some (C.map natsD) := seq_ptr hcell
      have o' := hC.rig o
      walk_at "sw"
      refine And.intro (show _ = [.ptr p, rigD ⟨r.n, r.q, C, r.signs, r.moves⟩, .lst (hs.map fun ls => .lst (ls.map natsD))] from rfl) ?_
      refine ⟨hp5, o', by rw [hhl, hpsl], fun ls hls => by have := hhb ls hls; omega, fun bars b1 b2 => ?_⟩
      walk_at "sw"
      exact ⟨ω, (Sub.refl ω).new hpc, q ⟨⟨r.n, r.q, C, r.signs, r.moves⟩, bars⟩ (book3 o' b1 b2)⟩
def sp_law_some_book : Dsp := fun ds ω R => ∃ (p : Addr), ds = [.ptr p, natD 4, natD 4] ∧ ω p = some .src ∧ ∀ b : Book, Book3 b → R (bookD b) ω
theorem sc_law_some_book : FnScope ["_law_source", "_law_faults", "_law_settings", "_law_way_of"] ["_law_source", "_law_faults", "_law_settings"] (defScope s_law_some_book) := ⟨rfl, rfl, rfl, by decide +kernel, rfl, by decide +kernel, by decide +kernel⟩
theorem D_law_some_book (Z : Zp K mg base T) : Df P wo K mg base T "_law_some_book" 19 sp_law_some_book := by
  obtain ⟨⟨fd, F⟩, hm⟩ := Z.df 86 d_law_some_book rfl rfl
  have D_law_take := D_law_take (P := P) (wo := wo) Z
  have D_law_drawn_book := D_law_drawn_book (P := P) (wo := wo) Z
  have D_law_planted_book := D_law_planted_book (P := P) (wo := wo) Z
  refine def_ok F sc_law_some_book hm (fun _ _ _ _ _ _ us hl => match us, hl with | [_, _, _], _ => rfl) (by walk_at "len") fun cdv A outer st H E hr => ?_
  have nd := sc_law_some_book.nd
  refine ⟨_, (ssc (sset 3 nd (xcall D_law_take (hr.mono (by first | decide | omega)) (xac (xv 0) (xac xint xan))))
    (ss1 (sret (xif (teq hr (xv 3) xint) (xcall D_law_drawn_book (hr.mono (by first | decide | omega)) (xac (xv 0) (xac (xv 1) (xac (xv 2) xan)))) (xcall D_law_planted_book (hr.mono (by first | decide | omega)) (xac (xv 0) (xac (xv 1) (xac (xv 2) xan)))))))), fun ds ω R h => ?_⟩
  obtain ⟨p, rfl, hp, q⟩ := h
  walk_at "sw"
  intro k hk
  walk_at "sw"
  generalize decide (k = 0) = bb
  cases bb with
  | true =>
    walk_at "sw"
    exact q
  | false =>
    walk_at "sw"
    exact q
end
end Wr
set_option maxHeartbeats 4000000
/-! what is drawn: one bar more. -/
namespace Wr
open PySem PySem.Spec PyProof.Rows L2 Dl
local macro_rules
  | `(tactic| walk_at "len") => `(tactic| (intro ds ω R h; repeat (first | (obtain ⟨e, _⟩ := h; subst e; rfl) | (obtain ⟨_, h⟩ := h))))
  | `(tactic| walk_at "st1") => `(tactic| first
    | apply Exists.intro
    | refine And.intro rfl ?_ | refine iteT ?_ | refine iteF ?_
    | refine And.intro (lst_ptr (by assumption)) ?_ | refine And.intro (seq_ptr (by assumption)) ?_ | refine And.intro (dct_ptr (by assumption)) ?_
    | refine And.intro (lst_ptr Om.set_same) ?_ | refine And.intro (seq_ptr Om.set_same) ?_ | refine And.intro Om.set_same ?_
    | refine And.intro ⟨_, lst_ptr (by assumption)⟩ ?_ | refine And.intro ⟨_, lst_ptr Om.set_same⟩ ?_ | refine And.intro ⟨_, rfl⟩ ?_ | refine And.intro ⟨_, lst_ptr ((Om.set_ne (by assumption)).trans (by assumption))⟩ ?_
    | refine And.intro ((Om.set_ne (by assumption)).trans (by assumption)) ?_ | refine And.intro (lst_ptr ((Om.set_ne (by assumption)).trans (by assumption))) ?_
    | refine And.intro (by assumption) ?_ | refine And.intro (ix_map (by assumption)) ?_
    | refine And.intro (by omega) ?_
    | refine do_all (by rfl) ?_ | refine eq_nat ?_ | refine ne_nat ?_ | refine eq_nats ?_ | refine ne_nats ?_ | refine in_nats ?_ | refine nin_nats ?_)
  | `(tactic| walk_at "st") => `(tactic| repeat walk_at "st1")
local macro_rules
  | `(tactic| walk_at "sw") => `(tactic| repeat (first
    | walk_at "st1"
    | refine Or.inl (Exists.intro _ (And.intro rfl ?_))
    | refine Or.inr (Exists.intro _ (And.intro rfl ?_))
    | refine And.intro (Or.inl (And.intro (by omega) (by omega))) ?_
    | refine And.intro (Or.inr (And.intro (by omega) (by omega))) ?_
    | refine And.intro (And.intro (by omega) (by omega)) ?_
    | refine And.intro (by decide) ?_
    | fail))
section
variable {P : Program} {wo : World} {K : PySem.W.Frag} {mg : Str → Option Value} {base : Heap} {T : Tb}
theorem cut_drop {l : List Da} {k : Nat} (h : k ≤ l.length) : Dl.cutD l (some (k : Int)) none = l.drop k := by
  unfold Dl.cutD
  rw [HT.sIx_nat, HT.sIx_none, Nat.min_eq_left h, List.take_of_length_le (by rw [List.length_drop]; exact Nat.le_refl _)]
theorem pairs_nil {ω : Om} {R : Da → Om → Prop} {m : List (Nat × Nat)} (q : R (.bl (decide (m = []))) ω) : fEq (.tup (m.map pairD)) (.tup []) ω R := by
  have hd : (Da.tup (m.map pairD)).dep ≤ 60 := Nat.le_trans (Nat.succ_le_succ (dep_pairs m)) (by decide)
  refine do_eq (P := m = []) (cl_pairs m) rfl hd ?_ q
  constructor
  · intro e
    cases m with
    | nil => rfl
    | cons x m => exact nomatch Da.tup.inj e
  · intro e; rw [e]; rfl
theorem book_put {b : Book} (hb : Book3 b) {k : Nat} (hk : k < b.rig.moves.length) {bs : List (List Nat)} (h1 : bs.length ≤ 4) (h2 : ∀ l ∈ bs, LotOk b.rig l ∧ 1 ≤ l.length ∧ l.length ≤ 3) (h3 : bs.Pairwise natLt) : (Book.mk b.rig (b.bars.take k ++ [bs] ++ b.bars.drop (k + 1))).Ok := by
  have hl := hb.ok.len
  refine ⟨hb.ok.rig, ?_, fun x hx => ?_⟩
  · show (b.bars.take k ++ [bs] ++ b.bars.drop (k + 1)).length = b.rig.moves.length
    rw [List.length_append, List.length_append, List.length_take, List.length_drop, List.length_singleton]
    omega
  · have hx : x ∈ b.bars.take k ++ [bs] ++ b.bars.drop (k + 1) := hx
    rcases List.mem_append.mp hx with hx | hx
    · rcases List.mem_append.mp hx with hx | hx
      · exact hb.ok.lots x (List.mem_of_mem_take hx)
      · rw [List.mem_singleton.mp hx]
        exact ⟨by omega, h2, h3⟩
    · exact hb.ok.lots x (List.mem_of_mem_drop hx)
def sp_law_with_one_bar : Dsp := fun ds ω R => ∃ (p : Addr) (b : Book), ds = [.ptr p, bookD b] ∧ ω p = some .src ∧ Book3 b ∧ ∀ b' : Book, b'.Ok → R (bookD b') ω
theorem sc_law_with_one_bar : FnScope ["_law_source", "_law_book", "_law_rig_here", "_law_bars_here", "_law_move", "_law_bar_here", "_law_more"] ["_law_source", "_law_book"] (defScope s_law_with_one_bar) := ⟨rfl, rfl, rfl, by decide +kernel, rfl, by decide +kernel, by decide +kernel⟩
theorem D_law_with_one_bar (Z : Zp K mg base T) : Df P wo K mg base T "_law_with_one_bar" 4 sp_law_with_one_bar := by
  obtain ⟨⟨fd, F⟩, hm⟩ := Z.df 87 d_law_with_one_bar rfl rfl
  have D_law_bar := D_law_bar (P := P) (wo := wo) Z
  have D_law_take := D_law_take (P := P) (wo := wo) Z
  refine def_ok F sc_law_with_one_bar hm (fun _ _ _ _ _ _ us hl => match us, hl with | [_, _], _ => rfl) (by walk_at "len") fun cdv A outer st H E hr => ?_
  have nd := sc_law_with_one_bar.nd
  refine ⟨_, (ssc (sasg (xv 1) (xgtp rfl (xgc (xg 2 nd) (xgc (xg 3 nd) xgn))))
    (ssc (sif (teq hr (xun (xix (xv 2) xint)) (xtup xan)) (ss1 (sret (xv 1))) ssn)
    (ssc (spar 4 5 rfl nd (xac (xcall D_law_take (hr.mono (by first | decide | omega)) (xac (xv 0) (xac (xbi (bi_len Z.len) (xac (xun (xix (xv 2) xint)) xan)) xan))) (xac (xcall D_law_bar (hr.mono (by first | decide | omega)) (xac (xv 0) (xac (xix (xv 2) xint) xan))) xan)))
    (ssc (sset 6 nd (xif (tnin hr (xv 5) (xix (xv 3) (xv 4))) (xbi (bi_tuple Z.tuple) (xac (xbi (bi_sortedX Z.sorted) (xac (xcat (xix (xv 3) (xv 4)) (xtup (xac (xv 5) xan))) xan)) xan)) (xix (xv 3) (xv 4))))
    (ss1 (sret (xtup (xac (xv 2) (xac (xcat (xcat (xslT (xv 3) xon (xos (xv 4))) (xtup (xac (xv 6) xan))) (xslT (xv 3) (xos (xadd (xv 4) xint)) xon)) xan))))))))), fun ds ω R h => ?_⟩
  obtain ⟨p, b, rfl, hp, hb, q⟩ := h
  have o := hb.ok.rig
  have hl := hb.ok.len
  have hml := o.ml
  have hn1 := o.n1
  have hn4 := o.n2
  walk_at "sw"
  refine pairs_nil ?_
  by_cases hz : b.rig.moves = []
  · rw [decide_eq_true hz]
    walk_at "sw"
    exact q b hb.ok
  rw [decide_eq_false hz]
  have hm0 : 0 < b.rig.moves.length := Nat.pos_of_ne_zero fun z => hz (List.eq_nil_of_length_eq_zero z)
  have elen : ((b.rig.moves.map pairD).length : Int) = ((b.rig.moves.length : Nat) : Int) := by rw [List.length_map]
  walk_at "sw"
  intro k hk
  rw [List.length_map] at hk
  have hk2 : k < b.bars.length := by omega
  have ek : atI (b.bars.map barsD) ((k : Nat) : Int) = some (barsD b.bars[k]) := ix_map (List.getElem?_eq_getElem hk2)
  have hbs : ∀ l ∈ b.bars[k], LotOk b.rig l ∧ 1 ≤ l.length ∧ l.length ≤ 3 := (hb.ok.lots _ (List.getElem_mem hk2)).2.1
  have hbw : b.bars[k].Pairwise natLt := (hb.ok.lots _ (List.getElem_mem hk2)).2.2
  have hbf : b.bars[k].length ≤ 3 := hb.few _ (List.getElem_mem hk2)
  generalize b.bars[k] = bs at ek hbs hbw hbf
  have e1 : Dl.cutD (b.bars.map barsD) none (some (k : Int)) = (b.bars.take k).map barsD := by
    rw [cut_take (by rw [List.length_map]; omega), ← List.map_take]
  have e2 : Dl.cutD (b.bars.map barsD) (some ((k : Int) + 1)) none = (b.bars.drop (k + 1)).map barsD := by
    rw [show (k : Int) + 1 = ((k + 1 : Nat) : Int) from by omega, cut_drop (by rw [List.length_map]; omega), ← List.map_drop]
  have len1 : ∀ x : Da, ((b.bars.take k).map barsD).length + [x].length ≤ 100000 := fun x => by
    rw [List.length_map, List.length_take, List.length_singleton]; omega
  have len2 : ∀ x : Da, ((b.bars.take k).map barsD ++ [x]).length + ((b.bars.drop (k + 1)).map barsD).length ≤ 100000 := fun x => by
    rw [List.length_append, List.length_map, List.length_take, List.length_singleton, List.length_map, List.length_drop]; omega
  have fin : ∀ ms : List (List Nat), ms.length ≤ 4 → (∀ l ∈ ms, LotOk b.rig l ∧ 1 ≤ l.length ∧ l.length ≤ 3) → ms.Pairwise natLt → R (.tup [rigD b.rig, .tup ((b.bars.take k).map barsD ++ [barsD ms] ++ (b.bars.drop (k + 1)).map barsD)]) ω := fun ms h1 h2 h3 => by
    have z := q _ (book_put hb hk h1 h2 h3)
    unfold bookD at z
    rw [List.map_append, List.map_append] at z
    exact z
  walk_at "sw"
  intro l hlb
  have hlen : bs.length + 1 ≤ 100000 := by omega
  walk_at "sw"
  refine do_nin (P := l ∈ bs) rfl (cl_nats l) (cl_natss bs) (Nat.le_trans (dep_nats l) (by decide)) (map_mem_inj fun _ _ => natsD_inj) ?_
  by_cases hin : l ∈ bs
  · rw [decide_eq_true hin]
    walk_at "sw"
    rw [e1]
    refine ⟨len1 _, ?_⟩
    walk_at "sw"
    rw [e2]
    refine ⟨len2 _, ?_⟩
    walk_at "sw"
    exact fin bs (by omega) hbs hbw
  · rw [decide_eq_false hin]
    have hcl : (bs.map natsD).length + [natsD l].length ≤ 100000 := by rw [List.length_map, List.length_singleton]; omega
    walk_at "sw"
    refine do_sorted (bs ++ [l]) (by rw [List.map_append]; rfl) (fun x hx e => ?_) fun ms hpm hso => ?_
    · rcases List.mem_append.mp hx with hx | hx
      · have := (hbs x hx).2.1; rw [e] at this; simp at this
      · rw [List.mem_singleton.mp hx] at e; have := hlb.l1; rw [e] at this; simp at this
    have nd0 : bs.Nodup := hbw.imp fun {x y} h e => by
      unfold natLt at h
      rw [e] at h
      rw [SrtX.lex_asym _ _ h] at h
      cases h
    have nd : (bs ++ [l]).Nodup := List.nodup_append.mpr ⟨nd0, by simp, fun u hu v hv e => by
      have hv : v = l := List.mem_singleton.mp hv
      subst e
      rw [hv] at hu
      exact hin hu⟩
    have hml2 : ms.length ≤ 4 := by rw [hpm.length_eq, List.length_append, List.length_singleton]; omega
    have hms : ∀ x ∈ ms, LotOk b.rig x ∧ 1 ≤ x.length ∧ x.length ≤ 3 := fun x hx => by
      rcases List.mem_append.mp (hpm.mem_iff.mp hx) with hx | hx
      · exact hbs x hx
      · rw [List.mem_singleton.mp hx]; exact ⟨⟨hlb.asc, hlb.lt⟩, hlb.l1, hlb.l3⟩
    walk_at "sw"
    rw [e1]
    refine ⟨len1 _, ?_⟩
    walk_at "sw"
    rw [e2]
    refine ⟨len2 _, ?_⟩
    walk_at "sw"
    exact fin ms hml2 hms (lex_asc (hpm.nodup_iff.mpr nd) hso)
end
end Wr
set_option maxHeartbeats 4000000
/-! the law. -/
namespace Wr
open PySem PySem.Spec PyProof.Rows L2 Dl
local macro_rules
  | `(tactic| walk_at "len") => `(tactic| (intro ds ω R h; repeat (first | (obtain ⟨e, _⟩ := h; subst e; rfl) | (obtain ⟨_, h⟩ := h))))
  | `(tactic| walk_at "st1") => `(tactic| first
    | apply Exists.intro
    | refine And.intro rfl ?_ | refine iteT ?_ | refine iteF ?_
    | refine And.intro (lst_ptr (by assumption)) ?_ | refine And.intro (seq_ptr (by assumption)) ?_ | refine And.intro (dct_ptr (by assumption)) ?_
    | refine And.intro (lst_ptr Om.set_same) ?_ | refine And.intro (seq_ptr Om.set_same) ?_ | refine And.intro Om.set_same ?_
    | refine And.intro ⟨_, lst_ptr (by assumption)⟩ ?_ | refine And.intro ⟨_, lst_ptr Om.set_same⟩ ?_ | refine And.intro ⟨_, rfl⟩ ?_ | refine And.intro ⟨_, lst_ptr ((Om.set_ne (by assumption)).trans (by assumption))⟩ ?_
    | refine And.intro ((Om.set_ne (by assumption)).trans (by assumption)) ?_ | refine And.intro (lst_ptr ((Om.set_ne (by assumption)).trans (by assumption))) ?_
    | refine And.intro (by assumption) ?_ | refine And.intro (ix_map (by assumption)) ?_
    | refine And.intro (by omega) ?_
    | refine do_all (by rfl) ?_ | refine eq_nat ?_ | refine ne_nat ?_ | refine eq_nats ?_ | refine ne_nats ?_ | refine in_nats ?_ | refine nin_nats ?_)
  | `(tactic| walk_at "st") => `(tactic| repeat walk_at "st1")
local macro_rules
  | `(tactic| walk_at "sw") => `(tactic| repeat (first
    | walk_at "st1"
    | refine Or.inl (Exists.intro _ (And.intro rfl ?_))
    | refine Or.inr (Exists.intro _ (And.intro rfl ?_))
    | refine And.intro (Or.inl (And.intro (by omega) (by omega))) ?_
    | refine And.intro (Or.inr (And.intro (by omega) (by omega))) ?_
    | refine And.intro (And.intro (by omega) (by omega)) ?_
    | refine And.intro (by decide) ?_
    | fail))
section
variable {P : Program} {wo : World} {K : PySem.W.Frag} {mg : Str → Option Value} {base : Heap} {T : Tb}
theorem range_ok (r : Rig) : LotOk r (List.range r.n) := ⟨List.pairwise_lt_range, fun x hx => List.mem_range.mp hx⟩
theorem range_ne {r : Rig} (o : r.Ok) : List.range r.n ≠ [] := fun z => by
  have := congrArg List.length z
  rw [List.length_range] at this
  have h := o.n1
  simp at this
  omega
/-- a def's promise at its own function -/
theorem def_okF {x qual : Str} {params : Arguments} {body : List Stmt} {scope : Scope} {f : Addr} {fd : FuncData} {N ps : List Str} {k : Nat} {s : Dsp}
    (F : FunD K x qual params body scope [] [] f fd) (S : FnScope N ps scope) (hlen : ∀ ds ω R, s ds ω R → ds.length = ps.length)
    (hbody : ∀ (cdv : Value) (A : Around) (outer : List Env) (st : Shared) (H : Hp) (E : XK), Room k (A.deeper (envOfC qual scope st.heap.objs.size f cdv)) →
      ∃ w, XSs T (cxOf CX0 P wo K mg base N qual scope f cdv A outer st H E).nox body w ∧ ∀ ds ω R, s ds ω R → w ⟨fun _ ω' => Shr R .non ω', Shr R, fun _ _ => False, fun _ _ => False⟩ (startD N ds) ω) : FnOk P wo K mg base CX0 (k + 1) f fd ps (spD K T s) := by
  refine F.ok S (fun vs H Q E ⟨ds, ω, R, h1, h2, h3, h4, h5⟩ => by rw [h1.length]; exact hlen ds ω R h4) (fun cdv A outer st H vs Q E hr ⟨ds, ω, R, h1, h2, h3, h4, h5⟩ => ?_)
  obtain ⟨w, hw, q⟩ := hbody cdv A outer st H E hr
  obtain ⟨t, t1, t2⟩ := hw.ex
  refine ⟨t, t1.nox, t2 _ H _ ω _ _ (wd_start h2 h3 h1) (q ds ω R h4) ⟨fun σ' H' ρ' ω' g W q' => ?_, fun v H' d ω' g dv q' => ?_, fun σ' H' ρ' ω' g W q' => q'.elim, fun σ' H' ρ' ω' g W q' => q'.elim⟩⟩
  · obtain ⟨ω0, hs, q'⟩ := q'
    exact h5 _ H' _ ω0 (g.trans (Go.shr hs g.cells g.tabs)) .non q'
  · obtain ⟨ω0, hs, q'⟩ := q'
    have g2 := Go.shr hs g.cells g.tabs
    exact h5 v H' d ω0 (g.trans g2) (Dv.mono g2.keep _ _ dv) q'
def aloneR (r : Rig) : Rig := ⟨r.n, r.q, r.cures, r.signs.take 1, []⟩
theorem alone_len {r : Rig} (o : r.Ok) : (aloneR r).m = 1 := by
  show (r.signs.take 1).length = 1
  rw [List.length_take]
  have h : 1 ≤ r.signs.length := o.m1
  omega
theorem alone_ok {r : Rig} (o : r.Ok) : (Book.mk (aloneR r) []).Ok := by
  have h := alone_len o
  refine ⟨⟨o.n1, o.n2, o.q1, o.q2, o.cl, o.ca, by rw [h]; exact Nat.le_refl _, by rw [h]; decide, fun s hs => o.sl s (List.mem_of_mem_take hs), fun p hp => (by cases hp), .nil, Nat.zero_le _⟩, rfl, fun bs hb => (by cases hb)⟩
def sp_law : Dsp := fun ds ω R => ∃ l : List Int, ds = [.lst (l.map .int)] ∧ l.length ≤ 63 ∧ R (.bl true) ω
theorem sc_law : FnScope ["_law_script", "_law_source", "_law_book", "_law_rig_here", "_law_every", "_law_lot", "_law_starts", "_law_alone", "_law_start"] ["_law_script"] (defScope s_law) := ⟨rfl, rfl, rfl, by decide +kernel, rfl, by decide +kernel, by decide +kernel⟩
theorem D_law (Z : Zp K mg base T) {fd : FuncData} (F : FunD K d_law.name d_law.qual d_law.params d_law.body d_law.scope [] [] (He.fAd K d_law.at_) fd) : FnOk P wo K mg base CX0 35 (He.fAd K d_law.at_) fd ["_law_script"] (spD K T sp_law) := by
  have D_law_pool := D_law_pool (P := P) (wo := wo) Z
  have D_law_some_book := D_law_some_book (P := P) (wo := wo) Z
  have D_law_take := D_law_take (P := P) (wo := wo) Z
  have D_law_with_one_bar := D_law_with_one_bar (P := P) (wo := wo) Z
  have D_law_all := D_law_all (P := P) (wo := wo) Z
  have D_solvable := D_solvable (P := P) (wo := wo) Z
  have D_law_game_from := D_law_game_from (P := P) (wo := wo) Z
  have D_law_some := D_law_some (P := P) (wo := wo) Z
  have D_law_start_right := D_law_start_right (P := P) (wo := wo) Z
  refine def_okF F sc_law (by walk_at "len") fun cdv A outer st H E hr => ?_
  have nd := sc_law.nd
  refine ⟨_, (ssc (sset 1 nd (xcall D_law_pool (hr.mono (by first | decide | omega)) (xac (xv 0) (xac xint xan))))
    (ssc (sset 2 nd (xcall D_law_some_book (hr.mono (by first | decide | omega)) (xac (xv 1) (xac xint (xac xint xan)))))
    (ssc (sif (teq hr (xcall D_law_take (hr.mono (by first | decide | omega)) (xac (xv 1) (xac xint xan))) xint) (ss1 (sset 2 nd (xcall D_law_with_one_bar (hr.mono (by first | decide | omega)) (xac (xv 1) (xac (xv 2) xan))))) ssn)
    (ssc (sset 3 nd (xix (xv 2) xint))
    (ssc (sset 4 nd (xcall D_law_all (hr.mono (by first | decide | omega)) (xac (xv 3) xan)))
    (ssc (sif (tne hr (xbi (bi_repr Z.repr) (xac (xcall D_solvable (hr.mono (by first | decide | omega)) (xac (xv 2) xan)) xan)) (xbi (bi_repr Z.repr) (xac (xcall D_law_game_from (hr.mono (by first | decide | omega)) (xac (xv 2) (xac (xtup (xac (xv 4) (xac xint xan))) xan))) xan))) (ss1 (sret xbl)) ssn)
    (ssc (sset 5 nd (xbi (bi_tuple Z.tuple) (xac (xcall D_law_some (hr.mono (by first | decide | omega)) (xac (xv 1) (xac (xv 4) xan))) xan)))
    (ssc (sset 6 nd (xlst (xac (xtup (xac (xv 4) (xac xint xan))) (xac (xtup (xac (xif (tne hr (xv 5) (xtup xan)) (xv 5) (xv 4)) (xac (xcall D_law_take (hr.mono (by first | decide | omega)) (xac (xv 1) (xac (xbi (bi_len Z.len) (xac (xix (xv 3) xint) xan)) xan))) xan))) xan))))
    (ssc (sif (tne hr (xlc (own := [("_law_start", 8)]) rfl nd (by rfl) (xil (xv 6)) (fun _ _ _ _ _ => (xg 8 nd)) (fun _ _ _ _ _ => (xt1 (tnot (tval (xcall D_law_start_right (hr.mono (by first | decide | omega)) (xac (xv 2) (xac (xv 8) xan))))))) (fun _ _ _ _ _ => (xv 8))) (xlst xan)) (ss1 (sret xbl)) ssn)
    (ssc (sset 7 nd (xtup (xac (xtup (xac (xix (xv 3) xint) (xac (xix (xv 3) xint) (xac (xix (xv 3) xint) (xac (xslT (xix (xv 3) xint) xon (xos xint)) (xac (xtupN xan) xan)))))) (xac (xtup xan) xan))))
    (ssc (sif (tne hr (xbi (bi_repr Z.repr) (xac (xcall D_solvable (hr.mono (by first | decide | omega)) (xac (xv 7) xan)) xan)) (xbi (bi_repr Z.repr) (xac (xcall D_law_game_from (hr.mono (by first | decide | omega)) (xac (xv 7) (xac (xtup (xac (xv 4) (xac xint xan))) xan))) xan))) (ss1 (sret xbl)) ssn)
    (ss1 (sret (xcall D_law_start_right (hr.mono (by first | decide | omega)) (xac (xv 7) (xac (xtup (xac (xv 4) (xac xint xan))) xan)))))))))))))))), fun ds ω R h => ?_⟩
  obtain ⟨l, rfl, hl, q⟩ := h
  have hl2 : l.length ≤ 1000 := by omega
  walk_at "sw"
  intro p hp
  have hsrc : (ω.set p .src) p = some .src := Om.set_same
  have hsub : Sub ω (ω.set p .src) := (Sub.refl ω).new hp
  generalize ω.set p .src = ω1 at hsrc hsub ⊢
  walk_at "sw"
  intro b0 hb0
  unfold gN
  dsimp only
  refine wifs_any2 (C := fun ρ' ω' => ∃ b : Book, b.Ok ∧ ρ' = [some (.lst (l.map .int)), some (.ptr p), some (bookD b), none, none, none, none, none, none] ∧ ω' = ω1) (fun E' hE => ?_) fun ρ' ω' hC => ?_
  · walk_at "sw"
    intro k hk
    walk_at "sw"
    generalize decide (k = 0) = bb
    cases bb with
    | true =>
      walk_at "sw"
      intro b' hb'
      exact hE _ _ ⟨b', hb', rfl, rfl⟩
    | false =>
      walk_at "sw"
      exact hE _ _ ⟨b0, hb0.ok, rfl, rfl⟩
  obtain ⟨b, o, rfl, rfl⟩ := hC
  have o1 := o.rig
  have hn4 := o1.n2
  have hn3 : b.rig.n ≤ 1000 := by omega
  have hro := range_ok b.rig
  have hrn := range_ne o1
  have hm1 := o1.m1
  have hm4 := o1.m2
  have hm0 : 0 < b.rig.m := by omega
  have hsl : (b.rig.signs.map natsD).length = b.rig.m := List.length_map _
  walk_at "sw"
  intro u hu
  walk_at "sw"
  intro v hv
  have euv : u = v := by rw [Bool.eq_iff_iff, hu, hv]
  subst euv
  walk_at "sw"
  refine do_ne (P := True) rfl rfl (Nat.zero_le _) ⟨fun _ => trivial, fun _ => rfl⟩ ?_
  rw [decide_eq_true trivial]
  have hrl : (List.range b.rig.n).length < 1000 := by rw [List.length_range]; omega
  walk_at "sw"
  intro m hm
  have hmo : LotOk b.rig m := ⟨hro.1.sublist hm, fun x hx => hro.2 x (hm.subset hx)⟩
  have tail : ∀ (lot : List Nat) (g : Nat), LotOk b.rig lot → lot ≠ [] → g < b.rig.m → ∀ (gg : WG) (uu : WT) (w : WE) (vs : List Nat) (ρ : Rho) (R' : Da → Om → Prop), (∀ s : List Nat × Nat, LotOk b.rig s.1 → s.1 ≠ [] → s.2 < b.rig.m → ∀ ω2 (Q1 : Da → Om → Prop) (Q2 : Om → Prop), Q2 ω2 → gg (startDa s.1 s.2) (wipeR ρ vs) fun ρ2 => uu ρ2 ω2 fun b ω3 => if b = true then w ρ2 ω3 Q1 else Q2 ω3) → R' (.lst []) ω' → LcB gg uu w vs ρ [startDa (List.range b.rig.n) 0, startDa lot g] ω' (FzK R') := fun lot g h1 h2 h3 gg uu w vs ρ R' ht hf => by
    refine lc_filter [(List.range b.rig.n, 0), (lot, g)] (fun s => startDa s.1 s.2) (fun _ => false) (by simp) (fun s ω2 Q1 Q2 hs _ _ hq2 => ?_) hf
    have hs' : s = (List.range b.rig.n, 0) ∨ s = (lot, g) := by simpa using hs
    rcases hs' with rfl | rfl
    · exact ht _ hro hrn hm0 ω2 Q1 Q2 (hq2 rfl)
    · exact ht _ h1 h2 h3 ω2 Q1 Q2 (hq2 rfl)
  have o1a := alone_ok o1
  have hro2 : LotOk (aloneR b.rig) (List.range b.rig.n) := hro
  have hma := alone_len o1
  have hma0 : 0 < (aloneR b.rig).m := by omega
  have e1 : Dl.cutD (b.rig.signs.map natsD) none (some 1) = (b.rig.signs.take 1).map natsD := by
    have z := cut_take (l := b.rig.signs.map natsD) (k := 1) (by rw [hsl]; omega)
    rw [← List.map_take] at z
    exact z
  walk_at "sw"
  refine ne_nilt ?_
  by_cases hz : m = []
  · rw [decide_eq_true hz]
    walk_at "sw"
    intro g hg
    rw [hsl] at hg
    walk_at "sw"
    refine tail (List.range b.rig.n) g hro hrn hg _ _ _ _ _ _ (fun s s1 s2 s3 ω2 Q1 Q2 hq2 => by
      walk_at "sw"
      exact hq2) ?_
    walk_at "sw"
    refine ne_nil (enc := natD) (m := []) rfl (Nat.zero_le _) ?_
    walk_at "sw"
    rw [e1]
    walk_at "sw"
    refine And.intro (show _ = [bookD ⟨aloneR b.rig, []⟩] from rfl) ?_
    refine ⟨o1a, hro2, hn4, hma0, fun u2 hu2 => ?_⟩
    walk_at "sw"
    refine And.intro (show _ = [bookD ⟨aloneR b.rig, []⟩, startDa (List.range b.rig.n) 0] from rfl) ?_
    refine ⟨o1a, hro2, hma0, fun v2 hv2 => ?_⟩
    have euv2 : u2 = v2 := by rw [Bool.eq_iff_iff, hu2, hv2]; rfl
    subst euv2
    walk_at "sw"
    refine do_ne (P := True) rfl rfl (Nat.zero_le _) ⟨fun _ => trivial, fun _ => rfl⟩ ?_
    rw [decide_eq_true trivial]
    walk_at "sw"
    refine And.intro (show _ = [bookD ⟨aloneR b.rig, []⟩, startDa (List.range b.rig.n) 0] from rfl) ?_
    refine ⟨o1a, hro2, hrn, hma0, ?_⟩
    exact ⟨ω, hsub, q⟩
  · rw [decide_eq_false hz]
    walk_at "sw"
    intro g hg
    rw [hsl] at hg
    walk_at "sw"
    refine tail m g hmo hz hg _ _ _ _ _ _ (fun s s1 s2 s3 ω2 Q1 Q2 hq2 => by
      walk_at "sw"
      exact hq2) ?_
    walk_at "sw"
    refine ne_nil (enc := natD) (m := []) rfl (Nat.zero_le _) ?_
    walk_at "sw"
    rw [e1]
    walk_at "sw"
    refine And.intro (show _ = [bookD ⟨aloneR b.rig, []⟩] from rfl) ?_
    refine ⟨o1a, hro2, hn4, hma0, fun u2 hu2 => ?_⟩
    walk_at "sw"
    refine And.intro (show _ = [bookD ⟨aloneR b.rig, []⟩, startDa (List.range b.rig.n) 0] from rfl) ?_
    refine ⟨o1a, hro2, hma0, fun v2 hv2 => ?_⟩
    have euv2 : u2 = v2 := by rw [Bool.eq_iff_iff, hu2, hv2]; rfl
    subst euv2
    walk_at "sw"
    refine do_ne (P := True) rfl rfl (Nat.zero_le _) ⟨fun _ => trivial, fun _ => rfl⟩ ?_
    rw [decide_eq_true trivial]
    walk_at "sw"
    refine And.intro (show _ = [bookD ⟨aloneR b.rig, []⟩, startDa (List.range b.rig.n) 0] from rfl) ?_
    refine ⟨o1a, hro2, hrn, hma0, ?_⟩
    exact ⟨ω, hsub, q⟩
end
end Wr
set_option maxHeartbeats 0
/-! The head; the end. -/
namespace Wr
open PySem PySem.Spec PyProof.Rows L2
def fa0 : List He.Fa := [.glo "is_whole", .glo "is_between", .glo "is_below", .glo "is_ascending", .glo "is_tuple_of", .glo "first_of", .glo "wrong_in", .glo "is_signs", .glo "is_move", .glo "wrong_move", .glo "wrong_part", .glo "made_rig", .glo "is_rig", .glo "is_setting", .glo "neighbours_of", .glo "is_lot", .glo "every_fault", .glo "cures_of", .glo "is_done", .glo "agreeing_in"]
def fa1 : List He.Fa := [.glo "signs_in", .glo "has_one_sign", .glo "parts_at", .glo "is_within", .glo "is_bar", .glo "are_bars", .glo "wrong_bars", .glo "made_book", .glo "is_book", .glo "bar_at", .glo "is_free", .glo "free_neighbours", .glo "distances", .glo "region_of", .glo "way_of", .glo "home_of", .glo "is_start", .glo "want_start", .glo "made_start", .glo "end_of"]
def fa2 : List He.Fa := [.glo "joined", .glo "flat", .glo "coded", .glo "nearest", .glo "look_from", .glo "tree_from", .glo "code_from", .glo "code_for", .glo "can_end", .glo "solvable", .glo "closed", .glo "tells_nothing", .glo "is_bare_lot", .glo "stuck_right", .glo "stuck_from", .glo "stuck", .glo "_law_pool", .glo "_law_take", .glo "_law_one", .glo "_law_mixed"]
def fa3 : List He.Fa := [.glo "_law_some", .glo "_law_all", .glo "_law_is_within", .glo "_law_cures_all", .glo "_law_is_done", .glo "_law_agree", .glo "_law_is_one_sign", .glo "_law_parts", .glo "_law_move_of", .glo "_law_bar_of", .glo "_law_next", .glo "_law_joined", .glo "_law_paths", .glo "_law_is_stuck_lot", .glo "_law_is_led", .glo "_law_came_by", .glo "_law_cures_each", .glo "_law_joined_moves", .glo "_law_signs", .glo "_law_cures"]
def fa4 : List He.Fa := [.glo "_law_rig", .glo "_law_bar", .glo "_law_bars", .glo "_law_drawn_book", .glo "_law_plan", .glo "_law_planted_book", .glo "_law_some_book", .glo "_law_with_one_bar", .glo "_law_game_from", .glo "_law_start_right", .glo "law", .int "MOST_FAULTS" 24, .int "MOST_REMEDIES" 16, .int "MOST_SETTINGS" 40, .int "MOST_SIGN" 9, .int "MOST_MOVES" 200, .int "HOME" 0, .int "MOST_BARS" 200, .int "MOST_IN_BAR" 3, .free "isinstance"]
def fa5 : List He.Fa := [.free "int", .free "bool", .free "tuple", .free "len", .free "all", .free "range", .free "enumerate", .free "sum", .free "sorted", .free "list", .free "min", .free "max", .free "repr", .glo "Rows", .cls "Rows", .mkr "Rows", .meth "Rows" "number", .noat "Rows" "rows", .keep "Rows"]
def fa : List He.Fa := fa0 ++ fa1 ++ fa2 ++ fa3 ++ fa4 ++ fa5
def nm0 : List Str := ["is_whole", "is_between", "is_below", "is_ascending", "is_tuple_of", "first_of", "wrong_in", "is_signs", "is_move", "wrong_move", "wrong_part", "made_rig"]
def nm1 : List Str := ["is_rig", "is_setting", "neighbours_of", "is_lot", "every_fault", "cures_of", "is_done", "agreeing_in", "signs_in", "has_one_sign", "parts_at", "is_within"]
def nm2 : List Str := ["is_bar", "are_bars", "wrong_bars", "made_book", "is_book", "bar_at", "is_free", "free_neighbours", "distances", "region_of", "way_of", "home_of"]
def nm3 : List Str := ["is_start", "want_start", "made_start", "end_of", "joined", "flat", "coded", "nearest", "look_from", "tree_from", "code_from", "code_for"]
def nm4 : List Str := ["can_end", "solvable", "closed", "tells_nothing", "is_bare_lot", "stuck_right", "stuck_from", "stuck", "_law_pool", "_law_take", "_law_one", "_law_mixed"]
def nm5 : List Str := ["_law_some", "_law_all", "_law_is_within", "_law_cures_all", "_law_is_done", "_law_agree", "_law_is_one_sign", "_law_parts", "_law_move_of", "_law_bar_of", "_law_next", "_law_joined"]
def nm6 : List Str := ["_law_paths", "_law_is_stuck_lot", "_law_is_led", "_law_came_by", "_law_cures_each", "_law_joined_moves", "_law_signs", "_law_cures", "_law_rig", "_law_bar", "_law_bars", "_law_drawn_book"]
def nm7 : List Str := ["_law_plan", "_law_planted_book", "_law_some_book", "_law_with_one_bar", "_law_game_from", "_law_start_right", "MOST_FAULTS", "MOST_REMEDIES", "MOST_SETTINGS", "MOST_SIGN", "MOST_MOVES", "HOME"]
def nm8 : List Str := ["MOST_BARS", "MOST_IN_BAR", "Refused", "BadRig", "BadBook", "BadStart", "Rows"]
def nm : List Str := nm0 ++ nm1 ++ nm2 ++ nm3 ++ nm4 ++ nm5 ++ nm6 ++ nm7 ++ nm8
def lawAt : Nat := 115
end Wr
namespace Wr
open PySem PySem.Spec PyProof.Rows L2
abbrev R : PySem.W.OpenRow := PySem.W.OpenLaw.row PySem.Challenge.rw_waryrig_k42_whole_the_game_of_settings_a
def tf : List He.Defn := [("wrong_part", none)]
/-! the part of the heap that is looked at: the module's names, the defs, their code objects, the class -/
def codeAt (g : Addr → Option Obj) (a : Addr) : Addr := match g a with
  | some ⟨_, _, .func fd, _⟩ => (match fd.code with
    | .ref c => c
    | _ => 0)
  | _ => 0
def nsAt (g : Addr → Option Obj) (a : Addr) : Addr := match g a with
  | some ⟨_, _, .cls cd, _⟩ => cd.ns
  | _ => 0
def glos : List He.DefD → List Str
  | [] => []
  | d :: r => (match d.at_.2 with
    | none => [d.at_.1]
    | some _ => []) ++ glos r
def asN (fn : List He.DefD) (g : Addr → Option Obj) : List Addr :=
  let K0 : PySem.W.Frag := He.frG g [mainGlobals]
  let C := He.ga K0 "Rows"
  let N := nsAt g C
  let K1 : PySem.W.Frag := He.frG g [C, N]
  let m0 := He.ma K1 C "__init__"
  let m1 := He.ma K1 C "number"
  [mainGlobals, C, N, m0, m1, codeAt g m0, codeAt g m1] ++ (glos fn).flatMap fun x => [He.ga K0 x, codeAt g (He.ga K0 x)]
abbrev obsN (fa : List He.Fa) (fn : List He.DefD) (tf : List He.Defn) (g : Addr → Option Obj) : He.AlX := (He.obsT fa fn [] (He.frT g (asN fn g)), He.tabsB g tf (He.frT g (asN fn g)))
theorem saysN_of {fa : List He.Fa} {fn : List He.DefD} {tf : List He.Defn} {w : World} {h : Heap} (e : obsN fa fn tf h.get? = He.valX fn [] w) : He.SaysX fa fn [] tf (fun _ => true) w h (He.frT h.get? (asN fn h.get?)) := by
  have e1 : He.obsT fa fn [] (He.frT h.get? (asN fn h.get?)) = He.valT fn [] w := congrArg (fun z : He.AlX => z.1) e
  have e2 : He.tabsB h.get? tf (He.frT h.get? (asN fn h.get?)) = true := congrArg (fun z : He.AlX => z.2) e
  have key : ∀ p ∈ tf, PySem.W.codeHdIn (He.frT h.get? (asN fn h.get?)) (He.cT (He.frT h.get? (asN fn h.get?)) p).1 (He.cT (He.frT h.get? (asN fn h.get?)) p).2 = true ∧ ∃ o, h.get? (He.cT (He.frT h.get? (asN fn h.get?)) p).2 = some o ∧ He.emptyTab o = true := fun p hp => by
    obtain ⟨h3, h4⟩ := He.ba (List.all_eq_true.mp e2 p hp)
    refine ⟨h3, ?_⟩
    cases q : h.get? (He.cT (He.frT h.get? (asN fn h.get?)) p).2 with
    | none =>
      rw [q] at h4
      cases h4
    | some o =>
      rw [q] at h4
      exact ⟨o, rfl, h4⟩
  exact ⟨e1, rfl, fun p hp => (key p hp).1, fun p hp => by
    obtain ⟨_, o, q, z⟩ := key p hp
    exact He.frT_none q z, fun p hp => by
    obtain ⟨_, o, q, z⟩ := key p hp
    rw [q, He.emptyTab_eq z]⟩
def hookN (fa : List He.Fa) (fn : List He.DefD) (tf : List He.Defn) : PySem.W.Hook where
  α := He.AlX
  obs := fun s => obsN fa fn tf s.heap.get?
  val := fun w => He.valX fn [] w
  says := fun w h => ∃ K : PySem.W.Frag, K.In h ∧ He.SaysX fa fn [] tf (fun _ => true) w h K
  of := fun _ _ e => ⟨_, He.frT_in, saysN_of e⟩
  keeps := fun _ _ _ ⟨K, hK, c⟩ k => ⟨K, PySem.W.Frag.In.keeps hK k, ⟨c.t, c.more, c.hd, c.out, fun p hp => k _ _ (c.empty p hp)⟩⟩
theorem obsN_eq {fa : List He.Fa} {fn : List He.DefD} {tf : List He.Defn} {g : Addr → Option Obj} {s : Shared} (h : ∀ a, g a = s.heap.get? a) : obsN fa fn tf g = (hookN fa fn tf).obs s := by
  have e : g = s.heap.get? := funext h
  rw [e] <;> rfl
abbrev hk : PySem.W.Hook := hookN fa fn tf
def ob (s : PySem.W.SharedT) : He.AlX := obsN fa fn tf (HandSHeadRun.getT s)
theorem ob_eq (s : PySem.W.SharedT) : ob s = hk.obs s.abs := obsN_eq (HandSHeadRun.getT_eq s)
theorem run (w : World) : HandSHeadRun.RunEq R (PySem.W.view R.prog [lawAt]) hk ob 4000 nm w := by
  intro os
  kernel_rfl
end Wr
namespace Wr
open PySem PySem.Spec PyProof.Rows L2 Dl
theorem fn_dfl : ∀ (i : Nat) (d : He.DefD), fn[i]? = some d → d.dfl = [] ∧ d.kwd = [] := fun i d h => by
  have h1 : (fn.all fun d => d.dfl.isEmpty && d.kwd.isEmpty) = true := by rfl
  have h2 := List.all_eq_true.mp h1 d (List.mem_of_getElem? h)
  obtain ⟨a, b⟩ := Bool.and_eq_true_iff.mp h2
  exact ⟨List.isEmpty_iff.mp a, List.isEmpty_iff.mp b⟩
def gloOf : List He.Fa → List Str
  | [] => []
  | .glo x :: l => x :: gloOf l
  | _ :: l => gloOf l
theorem glo_mem : ∀ {l : List He.Fa} {x : Str}, x ∈ gloOf l → .glo x ∈ l
  | [], x, h => by cases h
  | f :: l, x, h => by
    cases f with
    | glo y =>
      have h : x ∈ y :: gloOf l := h
      rcases List.mem_cons.mp h with e | h
      · rw [e]; exact List.mem_cons_self
      · exact List.mem_cons_of_mem _ (glo_mem h)
    | _ => exact List.mem_cons_of_mem _ (glo_mem (l := l) h)
theorem fn_glo : ∀ (i : Nat) (d : He.DefD), fn[i]? = some d → d.at_.2 = none → d.at_.1 = d.name ∧ .glo d.name ∈ fa := fun i d h hn => by
  have h1 : (fn.all fun d => d.at_.2.isSome || (decide (d.at_.1 = d.name) && decide (d.name ∈ gloOf fa))) = true := by decide +kernel
  have h2 := List.all_eq_true.mp h1 d (List.mem_of_getElem? h)
  rw [hn] at h2
  have h3 : (decide (d.at_.1 = d.name) && decide (d.name ∈ gloOf fa)) = true := h2
  obtain ⟨a, b⟩ := Bool.and_eq_true_iff.mp h3
  exact ⟨of_decide_eq_true a, glo_mem (of_decide_eq_true b)⟩
abbrev tabT (K : PySem.W.Frag) : Tb := [((He.cT K ("wrong_part", none)).2, ("wrong_part.<locals>.<lambda>" : Str))]
theorem zp_of {K : PySem.W.Frag} {h base : Heap} {mg : Str → Option Value} (X : K.In h) (G : h.Ns mainGlobals mg) (c : He.SaysD fa fn K) (tb : LamX.TabB base mg (He.cT K ("wrong_part", none)).1 (He.cT K ("wrong_part", none)).2) : Zp K mg base (tabT K) where
  df i d hd hn := by
    obtain ⟨e1, e2⟩ := fn_glo i d hd hn
    obtain ⟨z1, z2⟩ := fn_dfl i d hd
    have f := c.def_ i hd
    have y1 : d.dvs K = [] := by unfold He.DefD.dvs; rw [z1]; rfl
    have y2 : d.kws K = [] := by unfold He.DefD.kws; rw [z2]; rfl
    rw [y1, y2] at f
    refine ⟨f, ?_⟩
    have g := He.glo_ok X G (c.facts e2)
    have e3 : He.fAd K d.at_ = He.ga K d.name := by
      unfold He.fAd
      rw [hn]
      show He.ga K d.at_.1 = _
      rw [e1]
    rw [e3]; exact g
  dm i d hd := by
    obtain ⟨z1, z2⟩ := fn_dfl i d hd
    have f := c.def_ i hd
    have y1 : d.dvs K = [] := by unfold He.DefD.dvs; rw [z1]; rfl
    have y2 : d.kws K = [] := by unfold He.DefD.kws; rw [z2]; rfl
    rw [y1, y2] at f
    exact f
  isinstance := He.free_ok X G (c.fact 99 (f := .free "isinstance") rfl)
  int := He.free_ok X G (c.fact 100 (f := .free "int") rfl)
  bool := He.free_ok X G (c.fact 101 (f := .free "bool") rfl)
  tuple := He.free_ok X G (c.fact 102 (f := .free "tuple") rfl)
  len := He.free_ok X G (c.fact 103 (f := .free "len") rfl)
  all := He.free_ok X G (c.fact 104 (f := .free "all") rfl)
  range := He.free_ok X G (c.fact 105 (f := .free "range") rfl)
  enumerate := He.free_ok X G (c.fact 106 (f := .free "enumerate") rfl)
  sum := He.free_ok X G (c.fact 107 (f := .free "sum") rfl)
  sorted := He.free_ok X G (c.fact 108 (f := .free "sorted") rfl)
  list := He.free_ok X G (c.fact 109 (f := .free "list") rfl)
  min := He.free_ok X G (c.fact 110 (f := .free "min") rfl)
  max := He.free_ok X G (c.fact 111 (f := .free "max") rfl)
  repr := He.free_ok X G (c.fact 112 (f := .free "repr") rfl)
  MOST_FAULTS := He.int_ok X G (c.fact 91 (f := .int "MOST_FAULTS" 24) rfl)
  MOST_REMEDIES := He.int_ok X G (c.fact 92 (f := .int "MOST_REMEDIES" 16) rfl)
  MOST_SETTINGS := He.int_ok X G (c.fact 93 (f := .int "MOST_SETTINGS" 40) rfl)
  MOST_SIGN := He.int_ok X G (c.fact 94 (f := .int "MOST_SIGN" 9) rfl)
  MOST_MOVES := He.int_ok X G (c.fact 95 (f := .int "MOST_MOVES" 200) rfl)
  HOME := He.int_ok X G (c.fact 96 (f := .int "HOME" 0) rfl)
  MOST_BARS := He.int_ok X G (c.fact 97 (f := .int "MOST_BARS" 200) rfl)
  MOST_IN_BAR := He.int_ok X G (c.fact 98 (f := .int "MOST_IN_BAR" 3) rfl)
  rows := He.glo_ok X G (c.fact 113 (f := .glo "Rows") rfl)
  rcls := He.cls_ok (c.fact 114 (f := .cls "Rows") rfl)
  rmk := He.mkr_ok (c.fact 115 (f := .mkr "Rows") rfl)
  rmeth := He.meth_ok (c.fact 116 (f := .meth "Rows" "number") rfl)
  rnoat := He.noat_ok (c.fact 117 (f := .noat "Rows" "rows") rfl)
  tb := tb
  tT := rfl
theorem law_starts {K : PySem.W.Frag} {H : Hp} {a : Addr} {ns : List Int} (hl : ns.length ≤ 63) (hT : H (He.cT K ("wrong_part", none)).2 = some (.tbl #[])) (hS : SqL K H a (ns.map V.int)) : spD K (tabT K) sp_law [.ref a] H (fun v _ => v = .bl true) fun _ _ _ => False := by
  have e : hid (fun _ => none) H = H := funext fun a => rfl
  refine ⟨[.lst (ns.map .int)], fun _ => none, fun d _ => d = .bl true, ?_, Cells.nil, fun p hp => ?_, ⟨ns, rfl, hl, rfl⟩, fun v H' d ω' g dv q => ?_⟩
  · rw [e]
    exact .cons (.lst hS (dvAll_ints ns)) .nil
  · rw [List.mem_singleton.mp hp]
    exact ⟨#[], hT, trivial, fun pos cv hc => by
      have hc : (none : Option Value) = some cv := hc
      cases hc⟩
  · subst q
    cases dv
    rfl
end Wr
open PySem PySem.W PySem.Calls PyProof.Rows
theorem PySem.Challenge.cw_waryrig_k42_whole_the_game_of_settings_a_holds : PySem.Challenge.rw_waryrig_k42_whole_the_game_of_settings_a.Holds := by
  w_on; o_law
  refine HandSHeadRun.head_any (r := OpenLaw.row PySem.Challenge.rw_waryrig_k42_whole_the_game_of_settings_a) (q := view (OpenLaw.row PySem.Challenge.rw_waryrig_k42_whole_the_game_of_settings_a).prog [Wr.lawAt]) (H := Wr.hk) (ob := Wr.ob) (M := 4000) (loose := Wr.nm) (d := HandSHeadRun.topDef (OpenLaw.row PySem.Challenge.rw_waryrig_k42_whole_the_game_of_settings_a).prog Wr.lawAt) (kwd := []) Wr.ob_eq
    (by kernel_rfl) (fun s => by kernel_rfl) Wr.run (by kernel_rfl) (by kernel_rfl) (by kernel_rfl) (by rfl) (by first | assumption | decide +kernel) (by decide +kernel) ⟨rfl, rfl, rfl, rfl, rfl, by decide +kernel⟩ ?hw ?hc
  case hw => w_witness2
  case hc =>
    refine LamX.walk_ofTsE (l := PySem.Challenge.rw_waryrig_k42_whole_the_game_of_settings_a) (n := 63) (k := 35) (x := "_law_script") (CX := fun _ => L2.CX0) rfl (by decide) (by kernel_rfl) ⟨rfl, by decide, by decide⟩ ?F (fun _ _ _ _ _ z => z)
    intro w mg fa h Y G hmg0
    obtain ⟨K, KX, c⟩ := Y
    have hmg : mg ("law" : PySem.Str) = some (.ref fa) := by
      have e : (HandSHeadRun.topDef (OpenLaw.row PySem.Challenge.rw_waryrig_k42_whole_the_game_of_settings_a).prog Wr.lawAt).name = ("law" : PySem.Str) := by kernel_rfl
      rw [← e]
      exact hmg0
    have cd := c.t.d
    have hpt : (("wrong_part", none) : He.Defn) ∈ Wr.tf := List.mem_singleton.mpr rfl
    obtain ⟨fd, F⟩ := cd.def_ 90 (d := Wr.d_law) rfl
    have e := hmg.symm.trans (He.glo_ok KX G (cd.fact 90 (f := .glo "law") rfl))
    cases e
    have hb := L2.FunD.bindsA (ps := ["_law_script"]) F fun _ _ _ _ _ _ us hl => match us, hl with | [_], _ => rfl
    refine ⟨K, KX, fd, [He.cT K ("wrong_part", none)], Dl.spD K (Wr.tabT K) Wr.sp_law, fun p hp => ?_, fun p hp => ?_, fun p hp => ?_, fun s u => hb s [u] rfl, fun H a ns hl _ hT hS => Wr.law_starts hl (hT _ (List.mem_singleton.mpr rfl)) hS, fun base hK hns htb => ?_⟩
    · rw [List.mem_singleton.mp hp]; exact c.empty _ hpt
    · rw [List.mem_singleton.mp hp]; exact c.out _ hpt
    · rw [List.mem_singleton.mp hp]; exact codeHd_of_K KX (c.hd _ hpt)
    · exact Wr.D_law (Wr.zp_of KX G cd (htb _ (List.mem_singleton.mpr rfl))) F
