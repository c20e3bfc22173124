import PyProof.Rows.All
import Wide.All
import OpenK.AllK
import Wide.FinOn
import HandS.ForMost
import HandS.Flow
import HandS.Star
import HandS.TupAny
import HandS.TupMul
import HandS.StrMore
import HandS.StrSplit
import HandS.IsInst
import HandS.Wide
import HandS.WideBits
import HandS.Style
import HandS.Codes
import HandS.Set
import HandS.ReplaceList
import HandS.Replace
import KE.DataEq
import HandS.GenList
import KE.GoesEnum
import KE.GoesZip
import KE.GoesMore
import PyProof.AutoListH
import HandS.SetTxt0
import HandS.SetFor
import HandS.TupSets
import KE.SortData
import HandS.FStr
import HandS.HotCalls
import HandS.ExcIs
import HandS.Property
import HandS.ExcCtx
import HandS.ClsMeth
import HandS.Defaults
import PySem.Challenge.RW_textcleaners_k18_rows_and_cleaners_that
set_option Elab.async false
set_option linter.all false
set_option maxRecDepth 100000
/-! Plain data over the hand layer: what a value holds (D), where it lies (R), how heaps grow (Ext), the tape (TW, TS), a frame's slots (Rel). -/
namespace PD
open PySem L2

inductive D where
  | non | bl (b : Bool) | int (i : Int) | str (s : List Nat) | tup (xs : List D) | lst (xs : List D)
  deriving Inhabited

/-- a text by its code points -/
abbrev tx (s : List Nat) : Str := ⟨s.toArray⟩

mutual
def D.py : D → PyData
  | .non => .none
  | .bl b => .bool b
  | .int i => .int i
  | .str s => .str (tx s)
  | .tup xs => .tuple (pys xs)
  | .lst xs => .list (pys xs)
def pys : List D → List PyData
  | [] => []
  | x :: xs => x.py :: pys xs
end

/-- the written part; whether the pairs of signs of a map step carry what parts them as objects -/
structure Con where
  K : PySem.W.Frag
  tk : Bool
/-- m a p -/
abbrev mapW : List Nat := [109, 97, 112]
/-- a map step: the two signs differ -/
def isMap : List D → Bool
  | [.str w, .str x, .str y] => w == mapW && x != y
  | _ => false
/-- the object at a holds two signs that are two objects -/
def TokT (K : PySem.W.Frag) (F : Hp) (a : Addr) (vs : List V) : Prop :=
  ∃ (o : Obj) (w x y : Str) (n : Nat) (t0 t1 t2 : Tok), (F a = some (.frz o (.tup vs)) ∨ K.lookup a = some o) ∧ vs = [.str w, .str x, .str y] ∧ o.cls = .type "tuple" ∧ o.data = .seq #[.str w t0, .str x t1, .str y t2] n ∧ t1 ≠ 0 ∧ t2 ≠ 0 ∧ t1 ≠ t2

mutual
inductive R (C : Con) (F : Hp) : V → D → Prop
  | non : R C F .non .non
  | bl (b : Bool) : R C F (.bl b) (.bl b)
  | int (i : Int) : R C F (.int i) (.int i)
  | str (s : List Nat) : R C F (.str (tx s)) (.str s)
  | tup {a : Addr} {vs : List V} {ds : List D} : SqT C.K F a vs → RA C F vs ds → ((C.tk && isMap ds) = true → TokT C.K F a vs) → R C F (.ref a) (.tup ds)
  | lst {a : Addr} {vs : List V} {ds : List D} : F a = some (.lst vs) → RA C F vs ds → R C F (.ref a) (.lst ds)
inductive RA (C : Con) (F : Hp) : List V → List D → Prop
  | nil : RA C F [] []
  | cons {v : V} {vs : List V} {d : D} {ds : List D} : R C F v d → RA C F vs ds → RA C F (v :: vs) (d :: ds)
end

/-- all that F tells H tells -/
def Sub (F H : Hp) : Prop := ∀ a o, F a = some o → H a = some o

theorem Sub.rfl' (F : Hp) : Sub F F := fun _ _ h => h
theorem Sub.tr {F G H : Hp} (a : Sub F G) (b : Sub G H) : Sub F H := fun c o h => b c o (a c o h)
theorem Sub.none {F H : Hp} (s : Sub F H) {a : Addr} (h : H a = Option.none) : F a = Option.none := by
  cases q : F a with
  | none => rfl
  | some o => rw [s a o q] at h; cases h
theorem sqT_sub {K : PySem.W.Frag} {F G : Hp} (s : Sub F G) {a : Addr} {vs : List V} (h : SqT K F a vs) : SqT K G a vs := by
  rcases h with (h | ⟨o, h⟩) | h
  · exact .inl (.inl (s _ _ h))
  · exact .inl (.inr ⟨o, s _ _ h⟩)
  · exact .inr h
theorem tokT_sub {K : PySem.W.Frag} {F G : Hp} (s : Sub F G) {a : Addr} {vs : List V} (h : TokT K F a vs) : TokT K G a vs := by
  obtain ⟨o, w, x, y, n, t0, t1, t2, h1, r⟩ := h
  exact ⟨o, w, x, y, n, t0, t1, t2, h1.imp (s _ _) id, r⟩
section
variable {C : Con} {F G : Hp}
mutual
theorem R.sub (s : Sub F G) : ∀ {v : V} (d : D), R C F v d → R C G v d
  | _, .non, h => by cases h; exact .non
  | _, .bl b, h => by cases h; exact .bl b
  | _, .int i, h => by cases h; exact .int i
  | _, .str x, h => by cases h; exact .str x
  | _, .tup ds, h => by
    cases h with
    | tup h1 h2 h3 => exact .tup (sqT_sub s h1) (RA.sub s ds h2) fun z => tokT_sub s (h3 z)
  | _, .lst ds, h => by
    cases h with
    | lst h1 h2 => exact .lst (s _ _ h1) (RA.sub s ds h2)
theorem RA.sub (s : Sub F G) : ∀ {vs : List V} (ds : List D), RA C F vs ds → RA C G vs ds
  | _, [], h => by cases h; exact .nil
  | _, d :: ds, h => by
    cases h with
    | cons h1 h2 => exact .cons (R.sub s d h1) (RA.sub s ds h2)
end
mutual
theorem R.dp (s : Sub F G) : ∀ {v : V} (d : D), R C F v d → Dp C.K G v d.py
  | _, .non, h => by cases h; rw [D.py]; exact .non
  | _, .bl b, h => by cases h; rw [D.py]; exact .bl b
  | _, .int i, h => by cases h; rw [D.py]; exact .int i
  | _, .str x, h => by cases h; rw [D.py]; exact .str _
  | _, .tup ds, h => by
    rw [D.py]
    cases h with
    | tup h1 h2 _ => exact .tup (sqT_sub s h1) (RA.dp s ds h2)
  | _, .lst ds, h => by
    rw [D.py]
    cases h with
    | lst h1 h2 => exact .lst (.inl (.inl (s _ _ h1))) (RA.dp s ds h2)
theorem RA.dp (s : Sub F G) : ∀ {vs : List V} (ds : List D), RA C F vs ds → DpAll C.K G vs (pys ds)
  | _, [], h => by cases h; rw [pys]; exact .nil
  | _, d :: ds, h => by
    rw [pys]
    cases h with
    | cons h1 h2 => exact .cons (R.dp s d h1) (RA.dp s ds h2)
end
theorem RA.len : ∀ {vs : List V} {ds : List D}, RA C F vs ds → vs.length = ds.length
  | _, [], h => by cases h; rfl
  | _, d :: ds, h => by
    cases h with
    | cons h1 h2 => rw [List.length_cons, List.length_cons, RA.len h2]
theorem RA.app : ∀ {vs ws : List V} {ds es : List D}, RA C F vs ds → RA C F ws es → RA C F (vs ++ ws) (ds ++ es)
  | _, _, [], _, h, k => by cases h; exact k
  | _, _, d :: ds, _, h, k => by
    cases h with
    | cons h1 h2 => exact .cons h1 (RA.app h2 k)
theorem RA.get : ∀ {vs : List V} {ds : List D} {i : Nat} {d : D}, RA C F vs ds → ds[i]? = some d → ∃ v, vs[i]? = some v ∧ R C F v d
  | _, [], _, _, _, e => by simp at e
  | _, _ :: _, 0, _, h, e => by
    cases h with
    | cons h1 h2 => simp at e; subst e; exact ⟨_, rfl, h1⟩
  | _, _ :: ds, i + 1, d, h, e => by
    cases h with
    | cons h1 h2 =>
      obtain ⟨v, e1, r⟩ := RA.get (i := i) (d := d) h2 (by simpa using e)
      exact ⟨v, by simpa using e1, r⟩
theorem RA.take : ∀ {vs : List V} {ds : List D} (n : Nat), RA C F vs ds → RA C F (vs.take n) (ds.take n)
  | _, _, 0, _ => by simp only [List.take_zero]; exact .nil
  | _, [], n + 1, h => by cases h; simp only [List.take_nil]; exact .nil
  | _, d :: ds, n + 1, h => by
    cases h with
    | cons h1 h2 => simp only [List.take_succ_cons]; exact .cons h1 (RA.take n h2)
theorem RA.drop : ∀ {vs : List V} {ds : List D} (n : Nat), RA C F vs ds → RA C F (vs.drop n) (ds.drop n)
  | _, _, 0, h => by simpa only [List.drop_zero] using h
  | _, [], n + 1, h => by cases h; simp only [List.drop_nil]; exact .nil
  | _, d :: ds, n + 1, h => by
    cases h with
    | cons h1 h2 => simp only [List.drop_succ_cons]; exact RA.drop n h2
theorem RA.rev : ∀ {vs : List V} {ds : List D}, RA C F vs ds → RA C F vs.reverse ds.reverse
  | _, [], h => by cases h; exact .nil
  | _, d :: ds, h => by
    cases h with
    | cons h1 h2 => simp only [List.reverse_cons]; exact RA.app (RA.rev h2) (.cons h1 .nil)
theorem RA.snoc {vs : List V} {ds : List D} {v : V} {d : D} (h : RA C F vs ds) (k : R C F v d) : RA C F (vs ++ [v]) (ds ++ [d]) := RA.app h (.cons k .nil)
theorem RA.ints : ∀ {vs : List V} (ns : List Int), RA C F vs (ns.map D.int) → vs = ns.map V.int
  | _, [], h => by cases h; rfl
  | _, n :: ns, h => by
    cases h with
    | cons h1 h2 => cases h1; simp only [List.map_cons]; rw [RA.ints ns h2]
theorem RA.of_ints : ∀ (ns : List Int), RA C F (ns.map V.int) (ns.map D.int)
  | [] => .nil
  | n :: ns => .cons (.int n) (RA.of_ints ns)
theorem RA.strs : ∀ {vs : List V} (ss : List (List Nat)), RA C F vs (ss.map D.str) → vs = (ss.map tx).map V.str
  | _, [], h => by cases h; rfl
  | _, n :: ns, h => by
    cases h with
    | cons h1 h2 => cases h1; simp only [List.map_cons]; rw [RA.strs ns h2]
theorem RA.of_strs : ∀ (ss : List (List Nat)), RA C F ((ss.map tx).map V.str) (ss.map D.str)
  | [] => .nil
  | n :: ns => .cons (.str n) (RA.of_strs ns)
end

/-- the heap has grown: what is frozen stays frozen, all else but the tape stays as it was and unfrozen -/
structure Ext (tp : Addr) (F H F' H' : Hp) : Prop where
  ff : Sub F F'
  fh : Sub F' H'
  hh : ∀ a o, H a = some o → F a = none → a ≠ tp → H' a = some o ∧ F' a = none
theorem Ext.rfl' {tp : Addr} {F H : Hp} (s : Sub F H) : Ext tp F H F H := ⟨Sub.rfl' F, s, fun _ _ h n _ => ⟨h, n⟩⟩
theorem Ext.tr {tp : Addr} {F H F1 H1 F2 H2 : Hp} (a : Ext tp F H F1 H1) (b : Ext tp F1 H1 F2 H2) : Ext tp F H F2 H2 :=
  ⟨a.ff.tr b.ff, b.fh, fun c o h n ht => by
    obtain ⟨h1, n1⟩ := a.hh c o h n ht
    exact b.hh c o h1 n1 ht⟩
/-- .. and the tape too -/
structure ExtP (F H F' H' : Hp) : Prop where
  ff : Sub F F'
  fh : Sub F' H'
  hh : ∀ a o, H a = some o → F a = none → H' a = some o ∧ F' a = none
theorem ExtP.ext {tp : Addr} {F H F' H' : Hp} (x : ExtP F H F' H') : Ext tp F H F' H' := ⟨x.ff, x.fh, fun a o h n _ => x.hh a o h n⟩
theorem ExtP.rfl' {F H : Hp} (s : Sub F H) : ExtP F H F H := ⟨Sub.rfl' F, s, fun _ _ h n => ⟨h, n⟩⟩
theorem ExtP.tr {F H F1 H1 F2 H2 : Hp} (a : ExtP F H F1 H1) (b : ExtP F1 H1 F2 H2) : ExtP F H F2 H2 :=
  ⟨a.ff.tr b.ff, b.fh, fun c o h n => by
    obtain ⟨h1, n1⟩ := a.hh c o h n
    exact b.hh c o h1 n1⟩
theorem ExtP.new {F H : Hp} (s : Sub F H) {p : Addr} (o : HO) (hp : H p = none) : ExtP F H (upd F p o) (upd H p o) := by
  refine ⟨fun a u e => ?_, fun a u e => ?_, fun a u e n => ?_⟩
  · rw [upd_ne (fun q => by rw [q, s.none hp] at e; cases e)]; exact e
  · by_cases q : a = p
    · subst q; rw [upd_same] at e ⊢; exact e
    · rw [upd_ne q] at e ⊢; exact s a u e
  · have q : a ≠ p := fun q => by rw [q, hp] at e; cases e
    rw [upd_ne q, upd_ne q]; exact ⟨e, n⟩
/-- a new object that is forgotten -/
theorem ExtP.raw {F H : Hp} (s : Sub F H) {p : Addr} (o : HO) (hp : H p = none) : ExtP F H F (upd H p o) := by
  refine ⟨Sub.rfl' F, fun a u e => ?_, fun a u e n => ?_⟩
  · rw [upd_ne (fun q => by rw [q, s.none hp] at e; cases e)]; exact s a u e
  · have q : a ≠ p := fun q => by rw [q, hp] at e; cases e
    rw [upd_ne q]; exact ⟨e, n⟩
/-- a new frozen object -/
theorem Ext.new {tp : Addr} {F H : Hp} (s : Sub F H) {p : Addr} (o : HO) (hp : H p = none) : Ext tp F H (upd F p o) (upd H p o) := by
  refine ⟨fun a u e => ?_, fun a u e => ?_, fun a u e n ht => ?_⟩
  · rw [upd_ne (fun q => by rw [q, s.none hp] at e; cases e)]; exact e
  · by_cases q : a = p
    · subst q; rw [upd_same] at e ⊢; exact e
    · rw [upd_ne q] at e ⊢; exact s a u e
  · have q : a ≠ p := fun q => by rw [q, hp] at e; cases e
    rw [upd_ne q, upd_ne q]; exact ⟨e, n⟩
/-- a new object that is not frozen -/
theorem Ext.raw {tp : Addr} {F H : Hp} (s : Sub F H) {p : Addr} (o : HO) (hp : H p = none) : Ext tp F H F (upd H p o) := by
  refine ⟨Sub.rfl' F, fun a u e => ?_, fun a u e n ht => ?_⟩
  · rw [upd_ne (fun q => by rw [q, s.none hp] at e; cases e)]; exact s a u e
  · have q : a ≠ p := fun q => by rw [q, hp] at e; cases e
    rw [upd_ne q]; exact ⟨e, n⟩
/-- .. is changed -/
theorem Ext.write {tp : Addr} {F H F' H' : Hp} (x : Ext tp F H F' H') {p : Addr} (o : HO) (hp : H p = none) (np : F' p = none) : Ext tp F H F' (upd H' p o) := by
  refine ⟨x.ff, fun a u e => ?_, fun a u e n ht => ?_⟩
  · rw [upd_ne (fun q => by rw [q, np] at e; cases e)]; exact x.fh a u e
  · have q : a ≠ p := fun q => by rw [q, hp] at e; cases e
    rw [upd_ne q]; exact x.hh a u e n ht
/-- .. is frozen -/
theorem Ext.freeze {tp : Addr} {F H F' H' : Hp} (x : Ext tp F H F' H') {p : Addr} {o : HO} (hp : H p = none) (np : F' p = none) (e : H' p = some o) : Ext tp F H (upd F' p o) H' := by
  refine ⟨fun a u q => ?_, fun a u q => ?_, fun a u q n ht => ?_⟩
  · rw [upd_ne (fun z => by rw [z] at q; rw [x.ff _ _ q] at np; cases np)]; exact x.ff a u q
  · by_cases z : a = p
    · subst z; rw [upd_same] at q; rw [e]; exact q
    · rw [upd_ne z] at q; exact x.fh a u q
  · have z : a ≠ p := fun z => by rw [z, hp] at q; cases q
    rw [upd_ne z]; exact x.hh a u q n ht
theorem sub_upd {F : Hp} {p : Addr} {o : HO} (np : F p = none) : Sub F (upd F p o) := fun a u e => by
  rw [upd_ne (fun z => by rw [z, np] at e; cases e)]; exact e

/-- the tape: the list at tp of the cells' list (at L, of ns), a place, what is left -/
structure TW where
  tp : Addr
  L : Addr
  ns : List Int
/-- the tape's place and what is left -/
structure TS where
  pos : Int
  cur : Int
structure TapeAt (W : TW) (F H : Hp) (τ : TS) : Prop where
  out : F W.tp = none
  at_ : H W.tp = some (.lst [.ref W.L, .int τ.1, .int τ.2])
  cells : F W.L = some (.lst (W.ns.map V.int))
theorem TapeAt.extP {W : TW} {F H F' H' : Hp} {τ : TS} (t : TapeAt W F H τ) (x : ExtP F H F' H') : TapeAt W F' H' τ := by
  obtain ⟨a, b, c⟩ := t
  obtain ⟨b', a'⟩ := x.hh _ _ b a
  exact ⟨a', b', x.ff _ _ c⟩
theorem TapeAt.ne {W : TW} {F H : Hp} {τ : TS} (t : TapeAt W F H τ) : W.L ≠ W.tp := fun e => by
  have := t.out
  rw [← e, t.cells] at this; cases this

/-- what a slot of the frame holds -/
inductive Slot where
  | un | d (x : D) | tape | ol (xs : List D)
  deriving Inhabited
abbrev Env' := List Slot
/-- a list of the frame's own, at a -/
structure OwnL (C : Con) (W : TW) (H0 F H : Hp) (a : Addr) (xs : List D) : Prop where
  at_ : ∃ vs, H a = some (.lst vs) ∧ RA C F vs xs
  out : F a = none
  ntp : a ≠ W.tp
  new : H0 a = none
def SlotR (C : Con) (W : TW) (H0 F H : Hp) (v : Option V) : Slot → Prop
  | .un => True
  | .d x => ∃ u, v = some u ∧ R C F u x
  | .tape => v = some (.ref W.tp)
  | .ol xs => ∃ a, v = some (.ref a) ∧ OwnL C W H0 F H a xs
def Slot.own : Slot → Bool
  | .ol _ => true
  | _ => false
/-- the frame σ in the heap H holds ρ, the tape τ; entered at F0, H0 -/
structure Rel (C : Con) (W : TW) (F0 H0 F H : Hp) (σ : St) (ρ : Env') (τ : TS) : Prop where
  len : σ.length = ρ.length
  base : Ext W.tp F0 H0 F H
  slot : ∀ (i : Nat) (s : Slot) (v : Option V), ρ[i]? = some s → σ[i]? = some v → SlotR C W H0 F H v s
  apart : ∀ (i j : Nat) (s t : Slot) (a : Addr), ρ[i]? = some s → ρ[j]? = some t → s.own = true → t.own = true → σ[i]? = some (some (.ref a)) → σ[j]? = some (some (.ref a)) → i = j
  tape : TapeAt W F H τ
section
variable {C : Con} {W : TW} {F0 H0 F H F' H' : Hp} {σ : St} {ρ : Env'} {τ τ' : TS}
theorem Rel.sub (r : Rel C W F0 H0 F H σ ρ τ) : Sub F H := r.base.fh
theorem OwnL.ext {a : Addr} {xs : List D} (o : OwnL C W H0 F H a xs) (x : Ext W.tp F H F' H') : OwnL C W H0 F' H' a xs := by
  obtain ⟨⟨vs, e, r⟩, no, nt, nw⟩ := o
  obtain ⟨h1, n1⟩ := x.hh a _ e no nt
  exact ⟨⟨vs, h1, RA.sub x.ff xs r⟩, n1, nt, nw⟩
theorem SlotR.ext {v : Option V} : ∀ {s : Slot}, SlotR C W H0 F H v s → Ext W.tp F H F' H' → SlotR C W H0 F' H' v s
  | .un, _, _ => trivial
  | .d x, ⟨u, e, r⟩, k => ⟨u, e, R.sub k.ff x r⟩
  | .tape, h, _ => h
  | .ol xs, ⟨a, e, o⟩, k => ⟨a, e, o.ext k⟩
theorem Rel.ext (r : Rel C W F0 H0 F H σ ρ τ) (x : Ext W.tp F H F' H') (t : TapeAt W F' H' τ') : Rel C W F0 H0 F' H' σ ρ τ' :=
  ⟨r.len, r.base.tr x, fun i s v h1 h2 => (r.slot i s v h1 h2).ext x, r.apart, t⟩
theorem Rel.extP (r : Rel C W F0 H0 F H σ ρ τ) (x : ExtP F H F' H') : Rel C W F0 H0 F' H' σ ρ τ := r.ext x.ext (r.tape.extP x)
theorem TapeAt.new (t : TapeAt W F H τ) (s : Sub F H) {p : Addr} (o : HO) (hp : H p = none) : TapeAt W (upd F p o) (upd H p o) τ := by
  obtain ⟨a, b, c⟩ := t
  have n1 : W.tp ≠ p := fun e => by rw [e, hp] at b; cases b
  have n2 : W.L ≠ p := fun e => by rw [e, s.none hp] at c; cases c
  exact ⟨by rw [upd_ne n1]; exact a, by rw [upd_ne n1]; exact b, by rw [upd_ne n2]; exact c⟩
theorem TapeAt.raw (t : TapeAt W F H τ) {p : Addr} (o : HO) (hp : H p = none) : TapeAt W F (upd H p o) τ := by
  obtain ⟨a, b, c⟩ := t
  have n1 : W.tp ≠ p := fun e => by rw [e, hp] at b; cases b
  exact ⟨a, by rw [upd_ne n1]; exact b, c⟩
theorem TapeAt.write (t : TapeAt W F H τ) {p : Addr} (o : HO) (hp : p ≠ W.tp) : TapeAt W F (upd H p o) τ := by
  obtain ⟨a, b, c⟩ := t
  exact ⟨a, by rw [upd_ne hp.symm]; exact b, c⟩
theorem TapeAt.freeze (t : TapeAt W F H τ) {p : Addr} (o : HO) (hp : p ≠ W.tp) (np : F p = none) : TapeAt W (upd F p o) H τ := by
  obtain ⟨a, b, c⟩ := t
  have n2 : W.L ≠ p := fun e => by rw [e, np] at c; cases c
  exact ⟨by rw [upd_ne hp.symm]; exact a, b, by rw [upd_ne n2]; exact c⟩
theorem Rel.new (r : Rel C W F0 H0 F H σ ρ τ) {p : Addr} (o : HO) (hp : H p = none) : Rel C W F0 H0 (upd F p o) (upd H p o) σ ρ τ :=
  r.ext (Ext.new r.sub o hp) (r.tape.new r.sub o hp)
theorem Rel.get (r : Rel C W F0 H0 F H σ ρ τ) {i : Nat} {s : Slot} (e : ρ[i]? = some s) : ∃ v, σ[i]? = some v ∧ SlotR C W H0 F H v s := by
  have hi : i < ρ.length := (List.getElem?_eq_some_iff.mp e).1
  have hs : i < σ.length := by rw [r.len]; exact hi
  exact ⟨σ[i], List.getElem?_eq_getElem hs, r.slot i s _ e (List.getElem?_eq_getElem hs)⟩
/-- a slot takes a value that is no list of the frame's own -/
theorem Rel.set (r : Rel C W F0 H0 F H σ ρ τ) (i : Nat) (v : Option V) (s : Slot) (h : SlotR C W H0 F H v s) (hs : s.own = false) : Rel C W F0 H0 F H (σ.set i v) (ρ.set i s) τ := by
  refine ⟨by rw [List.length_set, List.length_set, r.len], r.base, fun j t u e1 e2 => ?_, fun j k s1 s2 a e1 e2 o1 o2 e3 e4 => ?_, r.tape⟩
  · by_cases q : i = j
    · subst q
      have l1 : i < ρ.length := by have := (List.getElem?_eq_some_iff.mp e1).1; rwa [List.length_set] at this
      have l2 : i < σ.length := by rw [r.len]; exact l1
      rw [List.getElem?_set_self l1] at e1
      rw [List.getElem?_set_self l2] at e2
      cases e1; cases e2; exact h
    · rw [List.getElem?_set_ne q] at e1 e2
      exact r.slot j t u e1 e2
  · have f : ∀ {j : Nat} {s1 : Slot}, (ρ.set i s)[j]? = some s1 → s1.own = true → i ≠ j := fun {j s1} e o q => by
      subst q
      have l1 : i < ρ.length := by have := (List.getElem?_eq_some_iff.mp e).1; rwa [List.length_set] at this
      rw [List.getElem?_set_self l1] at e
      cases e; rw [hs] at o; cases o
    have q1 := f e1 o1
    have q2 := f e2 o2
    rw [List.getElem?_set_ne q1] at e1 e3
    rw [List.getElem?_set_ne q2] at e2 e4
    exact r.apart j k s1 s2 a e1 e2 o1 o2 e3 e4
theorem Rel.setD (r : Rel C W F0 H0 F H σ ρ τ) (i : Nat) {v : V} {x : D} (h : R C F v x) : Rel C W F0 H0 F H (σ.set i (some v)) (ρ.set i (.d x)) τ :=
  r.set i (some v) (.d x) ⟨v, rfl, h⟩ rfl
/-- a slot takes a new list -/
theorem Rel.setO (r : Rel C W F0 H0 F H σ ρ τ) (i : Nat) {p : Addr} {vs : List V} {xs : List D} (hp : H p = none) (h : RA C F vs xs) : Rel C W F0 H0 F (upd H p (.lst vs)) (σ.set i (some (.ref p))) (ρ.set i (.ol xs)) τ := by
  have r2 : Rel C W F0 H0 F (upd H p (.lst vs)) σ ρ τ := r.ext (Ext.raw r.sub _ hp) (r.tape.raw _ hp)
  have ntp : p ≠ W.tp := fun e => by rw [e, r.tape.at_] at hp; cases hp
  have nh0 : H0 p = none := by
    cases q : H0 p with
    | none => rfl
    | some o =>
      cases z : F0 p with
      | none => rw [(r.base.hh p o q z ntp).1] at hp; cases hp
      | some u => rw [r.sub _ _ (r.base.ff _ _ z)] at hp; cases hp
  have nF : F p = none := r.sub.none hp
  have nown : ∀ (j : Nat) (t : Slot), ρ[j]? = some t → t.own = true → σ[j]? ≠ some (some (.ref p)) := fun j t e o q => by
    have := r.slot j t _ e q
    cases t with
    | ol ys =>
      obtain ⟨a, e1, ow⟩ := this
      cases e1
      obtain ⟨⟨ws, e2, _⟩, _⟩ := ow
      rw [hp] at e2; cases e2
    | un => cases o
    | d x => cases o
    | tape => cases o
  refine ⟨by rw [List.length_set, List.length_set, r.len], r2.base, fun j t u e1 e2 => ?_, fun j k s1 s2 a e1 e2 o1 o2 e3 e4 => ?_, r2.tape⟩
  · by_cases q : i = j
    · subst q
      have l1 : i < ρ.length := by have := (List.getElem?_eq_some_iff.mp e1).1; rwa [List.length_set] at this
      have l2 : i < σ.length := by rw [r.len]; exact l1
      rw [List.getElem?_set_self l1] at e1
      rw [List.getElem?_set_self l2] at e2
      cases e1; cases e2
      exact ⟨p, rfl, ⟨⟨vs, upd_same, h⟩, nF, ntp, nh0⟩⟩
    · rw [List.getElem?_set_ne q] at e1 e2
      exact r2.slot j t u e1 e2
  · by_cases q1 : i = j
    · by_cases q2 : i = k
      · exact q1.symm.trans q2
      · subst q1
        rw [List.getElem?_set_ne q2] at e2 e4
        have l2 : i < σ.length := by have := (List.getElem?_eq_some_iff.mp e3).1; rwa [List.length_set] at this
        rw [List.getElem?_set_self l2] at e3
        cases e3
        exact absurd e4 (nown k s2 e2 o2)
    · rw [List.getElem?_set_ne q1] at e1 e3
      by_cases q2 : i = k
      · subst q2
        have l2 : i < σ.length := by have := (List.getElem?_eq_some_iff.mp e4).1; rwa [List.length_set] at this
        rw [List.getElem?_set_self l2] at e4
        cases e4
        exact absurd e3 (nown j s1 e1 o1)
      · rw [List.getElem?_set_ne q2] at e2 e4
        exact r.apart j k s1 s2 a e1 e2 o1 o2 e3 e4
/-- a list of the frame's own is changed -/
theorem Rel.writeO (r : Rel C W F0 H0 F H σ ρ τ) {i : Nat} {a : Addr} {xs ys : List D} {vs : List V} (e : ρ[i]? = some (.ol xs)) (ea : σ[i]? = some (some (.ref a))) (h : RA C F vs ys) : Rel C W F0 H0 F (upd H a (.lst vs)) σ (ρ.set i (.ol ys)) τ := by
  obtain ⟨v, ev, sl⟩ := r.get e
  rw [ea] at ev; cases ev
  obtain ⟨a', e', ow⟩ := sl
  cases e'
  obtain ⟨⟨ws, hw, _⟩, nF, ntp, nw⟩ := ow
  have l1 : i < ρ.length := (List.getElem?_eq_some_iff.mp e).1
  refine ⟨by rw [List.length_set, r.len], r.base.write _ nw nF, fun j t u e1 e2 => ?_, fun j k s1 s2 b e1 e2 o1 o2 e3 e4 => ?_, r.tape.write _ ntp⟩
  · by_cases q : i = j
    · subst q
      rw [List.getElem?_set_self l1] at e1
      rw [ea] at e2
      cases e1; cases e2
      exact ⟨a, rfl, ⟨⟨vs, upd_same, h⟩, nF, ntp, nw⟩⟩
    · rw [List.getElem?_set_ne q] at e1
      have := r.slot j t u e1 e2
      cases t with
      | un => trivial
      | d x => exact this
      | tape => exact this
      | ol zs =>
        obtain ⟨b, eb, ⟨⟨us, hu, hr⟩, n1, n2, n3⟩⟩ := this
        have nb : b ≠ a := fun z => by
          subst z; subst eb
          exact q (r.apart i j _ _ b e e1 rfl rfl ea e2)
        exact ⟨b, eb, ⟨⟨us, by rw [upd_ne nb]; exact hu, hr⟩, n1, n2, n3⟩⟩
  · have f : ∀ {j : Nat} {s1 : Slot}, (ρ.set i (.ol ys))[j]? = some s1 → s1.own = true → ∃ s2, ρ[j]? = some s2 ∧ s2.own = true := fun {j s1} e' o => by
      by_cases q : i = j
      · subst q; exact ⟨_, e, rfl⟩
      · rw [List.getElem?_set_ne q] at e'; exact ⟨_, e', o⟩
    obtain ⟨t1, f1, p1⟩ := f e1 o1
    obtain ⟨t2, f2, p2⟩ := f e2 o2
    exact r.apart j k t1 t2 b f1 f2 p1 p2 e3 e4
/-- a list of the frame's own is changed no more -/
theorem Rel.freeze (r : Rel C W F0 H0 F H σ ρ τ) {i : Nat} {xs : List D} (e : ρ[i]? = some (.ol xs)) : ∃ F', Sub F F' ∧ Rel C W F0 H0 F' H σ (ρ.set i (.d (.lst xs))) τ := by
  obtain ⟨v, ev, a, e', ow⟩ := r.get e
  subst e'
  obtain ⟨⟨ws, hw, hr⟩, nF, ntp, nw⟩ := ow
  have l1 : i < ρ.length := (List.getElem?_eq_some_iff.mp e).1
  have sb : Sub F (upd F a (.lst ws)) := sub_upd nF
  refine ⟨upd F a (.lst ws), sb, ⟨by rw [List.length_set, r.len], r.base.freeze nw nF hw, fun j t u e1 e2 => ?_, fun j k s1 s2 b e1 e2 o1 o2 e3 e4 => ?_, r.tape.freeze _ ntp nF⟩⟩
  · by_cases q : i = j
    · subst q
      rw [List.getElem?_set_self l1] at e1
      rw [ev] at e2
      cases e1; cases e2
      exact ⟨_, rfl, .lst upd_same (RA.sub sb xs hr)⟩
    · rw [List.getElem?_set_ne q] at e1
      have := r.slot j t u e1 e2
      cases t with
      | un => trivial
      | d x => obtain ⟨w, e3, h3⟩ := this; exact ⟨w, e3, R.sub sb x h3⟩
      | tape => exact this
      | ol zs =>
        obtain ⟨b, eb, ⟨⟨us, hu, hr⟩, n1, n2, n3⟩⟩ := this
        have nb : b ≠ a := fun z => by
          subst z; subst eb
          exact q (r.apart i j _ _ b e e1 rfl rfl ev e2)
        exact ⟨b, eb, ⟨⟨us, hu, RA.sub sb zs hr⟩, by rw [upd_ne nb]; exact n1, n2, n3⟩⟩
  · have f : ∀ {j : Nat} {s1 : Slot}, (ρ.set i (.d (.lst xs)))[j]? = some s1 → s1.own = true → ρ[j]? = some s1 := fun {j s1} e' o => by
      by_cases q : i = j
      · subst q
        rw [List.getElem?_set_self l1] at e'
        cases e'; cases o
      · rw [List.getElem?_set_ne q] at e'; exact e'
    exact r.apart j k s1 s2 b (f e1 o1) (f e2 o2) o1 o2 e3 e4
end
end PD

set_option Elab.async false
set_option linter.all false
set_option maxRecDepth 100000
/-! Operations on plain data by values: what an operator, a subscript, a slice, a built-in makes of D. -/
namespace PD
open PySem L2

/-! ### equality -/
mutual
def eqv : D → D → Bool
  | .non, .non => true
  | .bl a, .bl b => a == b
  | .bl a, .int j => (if a then 1 else 0) == j
  | .int i, .bl b => i == (if b then 1 else 0)
  | .int i, .int j => i == j
  | .str x, .str y => x == y
  | .tup xs, .tup ys => eqvs xs ys
  | .lst xs, .lst ys => eqvs xs ys
  | _, _ => false
def eqvs : List D → List D → Bool
  | [], [] => true
  | x :: xs, y :: ys => eqv x y && eqvs xs ys
  | _, _ => false
end
mutual
def dep : D → Nat
  | .tup xs => deps xs + 1
  | .lst xs => deps xs + 1
  | _ => 0
def deps : List D → Nat
  | [] => 0
  | x :: xs => max (dep x) (deps xs)
end
theorem tx_beq (x y : List Nat) : (tx x == tx y) = (x == y) := by
  rw [Bool.eq_iff_iff, beq_iff_eq, beq_iff_eq]
  constructor
  · intro h
    have := congrArg (fun s : Str => s.cps.toList) h
    simpa using this
  · intro h; rw [h]
mutual
theorem eqv_py : ∀ a b : D, PyData.eqv a.py b.py = eqv a b
  | .non, .non => by simp only [D.py, PyData.eqv, eqv]
  | .non, .bl _ => by simp only [D.py, PyData.eqv, eqv]
  | .non, .int _ => by simp only [D.py, PyData.eqv, eqv]
  | .non, .str _ => by simp only [D.py, PyData.eqv, eqv]
  | .non, .tup _ => by simp only [D.py, PyData.eqv, eqv]
  | .non, .lst _ => by simp only [D.py, PyData.eqv, eqv]
  | .bl _, .non => by simp only [D.py, PyData.eqv, eqv]
  | .bl _, .bl _ => by simp only [D.py, PyData.eqv, eqv]
  | .bl _, .int _ => by simp only [D.py, PyData.eqv, eqv]
  | .bl _, .str _ => by simp only [D.py, PyData.eqv, eqv]
  | .bl _, .tup _ => by simp only [D.py, PyData.eqv, eqv]
  | .bl _, .lst _ => by simp only [D.py, PyData.eqv, eqv]
  | .int _, .non => by simp only [D.py, PyData.eqv, eqv]
  | .int _, .bl _ => by simp only [D.py, PyData.eqv, eqv]
  | .int _, .int _ => by simp only [D.py, PyData.eqv, eqv]
  | .int _, .str _ => by simp only [D.py, PyData.eqv, eqv]
  | .int _, .tup _ => by simp only [D.py, PyData.eqv, eqv]
  | .int _, .lst _ => by simp only [D.py, PyData.eqv, eqv]
  | .str _, .non => by simp only [D.py, PyData.eqv, eqv]
  | .str _, .bl _ => by simp only [D.py, PyData.eqv, eqv]
  | .str _, .int _ => by simp only [D.py, PyData.eqv, eqv]
  | .str x, .str y => by simp only [D.py, PyData.eqv, eqv]; exact tx_beq x y
  | .str _, .tup _ => by simp only [D.py, PyData.eqv, eqv]
  | .str _, .lst _ => by simp only [D.py, PyData.eqv, eqv]
  | .tup _, .non => by simp only [D.py, PyData.eqv, eqv]
  | .tup _, .bl _ => by simp only [D.py, PyData.eqv, eqv]
  | .tup _, .int _ => by simp only [D.py, PyData.eqv, eqv]
  | .tup _, .str _ => by simp only [D.py, PyData.eqv, eqv]
  | .tup xs, .tup ys => by simp only [D.py, PyData.eqv, eqv]; exact eqvs_py xs ys
  | .tup _, .lst _ => by simp only [D.py, PyData.eqv, eqv]
  | .lst _, .non => by simp only [D.py, PyData.eqv, eqv]
  | .lst _, .bl _ => by simp only [D.py, PyData.eqv, eqv]
  | .lst _, .int _ => by simp only [D.py, PyData.eqv, eqv]
  | .lst _, .str _ => by simp only [D.py, PyData.eqv, eqv]
  | .lst _, .tup _ => by simp only [D.py, PyData.eqv, eqv]
  | .lst xs, .lst ys => by simp only [D.py, PyData.eqv, eqv]; exact eqvs_py xs ys
theorem eqvs_py : ∀ xs ys : List D, PyData.eqvAll (pys xs) (pys ys) = eqvs xs ys
  | [], [] => by simp only [pys, PyData.eqvAll, eqvs]
  | [], _ :: _ => by simp only [pys, PyData.eqvAll, eqvs]
  | _ :: _, [] => by simp only [pys, PyData.eqvAll, eqvs]
  | x :: xs, y :: ys => by
    simp only [pys, PyData.eqvAll, eqvs]
    rw [eqv_py x y, eqvs_py xs ys]
end
mutual
theorem py_plain : ∀ d : D, d.py.plain = true
  | .non => by simp only [D.py, PyData.plain]
  | .bl _ => by simp only [D.py, PyData.plain]
  | .int _ => by simp only [D.py, PyData.plain]
  | .str _ => by simp only [D.py, PyData.plain]
  | .tup xs => by simp only [D.py, PyData.plain]; exact pys_plain xs
  | .lst xs => by simp only [D.py, PyData.plain]; exact pys_plain xs
theorem pys_plain : ∀ ds : List D, PyData.plainAll (pys ds) = true
  | [] => by simp only [pys, PyData.plainAll]
  | d :: ds => by simp only [pys, PyData.plainAll, py_plain d, pys_plain ds, Bool.and_self]
end
mutual
theorem py_depth : ∀ d : D, d.py.depth = dep d
  | .non => by simp only [D.py, PyData.depth, dep]
  | .bl _ => by simp only [D.py, PyData.depth, dep]
  | .int _ => by simp only [D.py, PyData.depth, dep]
  | .str _ => by simp only [D.py, PyData.depth, dep]
  | .tup xs => by simp only [D.py, PyData.depth, dep]; rw [pys_depth xs]
  | .lst xs => by simp only [D.py, PyData.depth, dep]; rw [pys_depth xs]
theorem pys_depth : ∀ ds : List D, PyData.depthAll (pys ds) = deps ds
  | [] => by simp only [pys, PyData.depthAll, deps]
  | d :: ds => by simp only [pys, PyData.depthAll, deps]; rw [py_depth d, pys_depth ds]
end

/-! ### readings by values -/
abbrev G1 := D → Option D
abbrev G2 := D → D → Option D
abbrev GN := List D → Option D
/-- what must hold: the operands hold data of which g makes some; behind it whatever holds that -/
def fin (C : Con) (F H : Hp) (d : D) (Q : VK) : Prop := ∀ v F' H', ExtP F H F' H' → R C F' v d → Q v H'
def rD1 (C : Con) (g : G1) : V → Hp → VK → Prop := fun x H Q => ∃ F a d, Sub F H ∧ R C F x a ∧ g a = some d ∧ fin C F H d Q
def rD2 (C : Con) (g : G2) : R2 := fun x y H Q => ∃ F a b d, Sub F H ∧ R C F x a ∧ R C F y b ∧ g a b = some d ∧ fin C F H d Q
def rDN (C : Con) (g : GN) : List V → Hp → VK → Prop := fun xs H Q => ∃ F ds d, Sub F H ∧ RA C F xs ds ∧ g ds = some d ∧ fin C F H d Q
/-- a method: the receiver, the arguments -/
def rDM (C : Con) (g : D → List D → Option D) : V → List V → Hp → VK → Prop := fun x xs H Q => ∃ F a ds d, Sub F H ∧ R C F x a ∧ RA C F xs ds ∧ g a ds = some d ∧ fin C F H d Q
theorem fin.here {C : Con} {F H : Hp} {d : D} {Q : VK} (h : fin C F H d Q) (s : Sub F H) {v : V} (r : R C F v d) : Q v H := h v F H (ExtP.rfl' s) r
theorem fin.new {C : Con} {F H : Hp} {d : D} {Q : VK} (h : fin C F H d Q) (s : Sub F H) {p : Addr} {o : HO} (hp : H p = none) {v : V} (r : R C (upd F p o) v d) : Q v (upd H p o) := h v _ _ (ExtP.new s o hp) r

/-- a tuple may be made of these -/
def okT (tk : Bool) (ds : List D) : Bool := decide (ds.length ≤ sizeLine) && !(tk && isMap ds)
theorem okT.len {tk : Bool} {ds : List D} (h : okT tk ds = true) : ds.length ≤ sizeLine := by
  unfold okT at h
  exact of_decide_eq_true ((Bool.and_eq_true _ _).mp h).1
theorem okT.map {tk : Bool} {ds : List D} (h : okT tk ds = true) : (tk && isMap ds) = false := by
  unfold okT at h
  exact (Bool.not_eq_true' _).mp ((Bool.and_eq_true _ _).mp h).2
theorem R.newT {C : Con} {F H : Hp} (s : Sub F H) {p : Addr} (hp : H p = none) {vs : List V} {ds : List D} (r : RA C F vs ds) (h : (C.tk && isMap ds) = false) : R C (upd F p (.tup vs)) (.ref p) (.tup ds) :=
  .tup (.inl (.inl upd_same)) (RA.sub (sub_upd (s.none hp)) ds r) (fun z => by rw [h] at z; cases z)
theorem R.newL {C : Con} {F H : Hp} (s : Sub F H) {p : Addr} (hp : H p = none) {vs : List V} {ds : List D} (r : RA C F vs ds) : R C (upd F p (.lst vs)) (.ref p) (.lst ds) :=
  .lst upd_same (RA.sub (sub_upd (s.none hp)) ds r)

section
variable {X : Cx} {C : Con}
/-! ### + -/
def addD (tk : Bool) : G2
  | .int i, .int j => some (.int (i + j))
  | .str a, .str b => if a.length + b.length ≤ sizeLine then some (.str (a ++ b)) else none
  | .tup a, .tup b => if okT tk (a ++ b) = true then some (.tup (a ++ b)) else none
  | .lst a, .lst b => if a.length + b.length ≤ sizeLine then some (.lst (a ++ b)) else none
  | _, _ => none
theorem tx_app (a b : List Nat) : tx a ++ tx b = tx (a ++ b) := TL.ext_tl (by rw [TL.tl_append])
theorem tx_len (a : List Nat) : (tx a).length = a.length := TL.len_tl _
theorem add_D (hK : C.K = X.K) : OpR X (binaryOp .Add) (rD2 C (addD C.tk)) := by
  intro pins s σ H x y v u Q I rx ry h
  obtain ⟨F, a, b, d, sb, ra, rb, hg, k⟩ := h
  cases ra with
  | int i =>
    cases rb with
    | int j =>
      obtain rfl := Option.some.inj hg
      exact op_add pins s σ H _ _ v u Q I rx ry ⟨i, j, rfl, rfl, k.here sb (.int _)⟩
    | _ => cases hg
  | str a =>
    cases rb with
    | str b =>
      simp only [addD] at hg
      split at hg
      · rename_i hl
        obtain rfl := Option.some.inj hg
        exact op_add_str pins s σ H _ _ v u Q I rx ry ⟨tx a, tx b, rfl, rfl, by rw [tx_len, tx_len]; exact hl, by rw [tx_app]; exact k.here sb (.str _)⟩
      · cases hg
    | _ => cases hg
  | @tup p vs ds h1 h2 h3 =>
    cases rb with
    | @tup q ws es k1 k2 k3 =>
      simp only [addD] at hg
      split at hg
      · rename_i hl
        obtain rfl := Option.some.inj hg
        have hlen := okT.len hl
        rw [List.length_append, ← h2.len, ← k2.len] at hlen
        refine op_catA pins s σ H _ _ v u Q I rx ry ⟨p, q, vs, ws, rfl, rfl, by rw [← hK]; exact sqT_sub sb h1, by rw [← hK]; exact sqT_sub sb k1, hlen, fun e => ?_, fun _ e => ?_, fun _ _ r hr => ?_⟩
        · subst e; cases h2
          rw [List.nil_append] at k
          exact k.here sb (.tup k1 k2 k3)
        · subst e; cases k2
          rw [List.append_nil] at k
          exact k.here sb (.tup h1 h2 h3)
        · exact k.new sb hr (R.newT sb hr (h2.app k2) (okT.map hl))
      · cases hg
    | _ => cases hg
  | @lst p vs ds h1 h2 =>
    cases rb with
    | @lst q ws es k1 k2 =>
      simp only [addD] at hg
      split at hg
      · rename_i hl
        obtain rfl := Option.some.inj hg
        rw [← h2.len, ← k2.len] at hl
        exact op_cat pins s σ H _ _ v u Q I rx ry ⟨p, q, vs, ws, rfl, rfl, sb _ _ h1, sb _ _ k1, hl, fun r hr => k.new sb hr (R.newL sb hr (h2.app k2))⟩
      · cases hg
    | _ => cases hg
  | _ => cases hg
/-! ### ints -/
def subD : G2
  | .int i, .int j => some (.int (i - j))
  | _, _ => none
theorem sub_D : OpR X (binaryOp .Sub) (rD2 C subD) := by
  intro pins s σ H x y v u Q I rx ry h
  obtain ⟨F, a, b, d, sb, ra, rb, hg, k⟩ := h
  cases ra with
  | int i =>
    cases rb with
    | int j =>
      obtain rfl := Option.some.inj hg
      exact op_sub pins s σ H _ _ v u Q I rx ry ⟨i, j, rfl, rfl, k.here sb (.int _)⟩
    | _ => cases hg
  | _ => cases hg
def modD : G2
  | .int i, .int j => if 0 < j then some (.int (i % j)) else none
  | _, _ => none
theorem mod_D : OpR X (binaryOp .Mod) (rD2 C modD) := by
  intro pins s σ H x y v u Q I rx ry h
  obtain ⟨F, a, b, d, sb, ra, rb, hg, k⟩ := h
  cases ra with
  | int i =>
    cases rb with
    | int j =>
      simp only [modD] at hg
      split at hg
      · rename_i hl
        obtain rfl := Option.some.inj hg
        exact op_mod pins s σ H _ _ v u Q I rx ry ⟨i, j, rfl, rfl, hl, k.here sb (.int _)⟩
      · cases hg
    | _ => cases hg
  | _ => cases hg
def fdivD : G2
  | .int i, .int j => if 0 < j ∧ j.natAbs.log2 < 9000 then some (.int (i / j)) else none
  | _, _ => none
theorem fdiv_D : OpR X (binaryOp .FloorDiv) (rD2 C fdivD) := by
  intro pins s σ H x y v u Q I rx ry h
  obtain ⟨F, a, b, d, sb, ra, rb, hg, k⟩ := h
  cases ra with
  | int i =>
    cases rb with
    | int j =>
      simp only [fdivD] at hg
      split at hg
      · rename_i hl
        obtain rfl := Option.some.inj hg
        exact op_fdivW pins s σ H _ _ v u Q I rx ry ⟨i, j, rfl, rfl, hl, k.here sb (.int _)⟩
      · cases hg
    | _ => cases hg
  | _ => cases hg
def powD : G2
  | .int i, .int j => if 0 ≤ j ∧ j ≤ 1000000 ∧ i.natAbs < 2 ^ 64 then some (.int (i ^ j.toNat)) else none
  | _, _ => none
theorem pow_D : OpR X (binaryOp .Pow) (rD2 C powD) := by
  intro pins s σ H x y v u Q I rx ry h
  obtain ⟨F, a, b, d, sb, ra, rb, hg, k⟩ := h
  cases ra with
  | int i =>
    cases rb with
    | int j =>
      simp only [powD] at hg
      split at hg
      · rename_i hl
        obtain rfl := Option.some.inj hg
        exact op_pow pins s σ H _ _ v u Q I rx ry ⟨i, j, rfl, rfl, hl, k.here sb (.int _)⟩
      · cases hg
    | _ => cases hg
  | _ => cases hg
/-- ints; a text some times; a tuple some times -/
def mulD (tk : Bool) : G2
  | .int i, .int j => if (-(2 ^ 64) < i ∧ i < 2 ^ 64) ∨ (-(2 ^ 64) < j ∧ j < 2 ^ 64) then some (.int (i * j)) else none
  | .str a, .int n => if 0 ≤ n ∧ n ≤ 1000 ∧ a.length ≤ 1000 then some (.str (List.replicate n.toNat a).flatten) else none
  | .tup a, .int n => if a ≠ [] ∧ 2 ≤ n ∧ n ≤ 1000 ∧ a.length ≤ 1000 ∧ okT tk (List.replicate n.toNat a).flatten = true then some (.tup (List.replicate n.toNat a).flatten) else none
  | .lst a, .int n => if 0 ≤ n ∧ n ≤ 1000 ∧ a.length ≤ 1000 then some (.lst (List.replicate n.toNat a).flatten) else none
  | _, _ => none
theorem foldl_arr (a : Array Nat) : ∀ (n : Nat) (acc : Array Nat), ((List.replicate n a).foldl (· ++ ·) acc).toList = acc.toList ++ (List.replicate n a.toList).flatten
  | 0, acc => by simp
  | n + 1, acc => by
    rw [List.replicate_succ, List.foldl_cons, foldl_arr a n, List.replicate_succ, List.flatten_cons, Array.toList_append, List.append_assoc]
theorem flat_len {α : Type} (a : List α) : ∀ n : Nat, (List.replicate n a).flatten.length = n * a.length
  | 0 => by simp
  | n + 1 => by rw [List.replicate_succ, List.flatten_cons, List.length_append, flat_len a n, Nat.succ_mul]; omega
theorem mul_str_ok {n : Int} {a : List Nat} (h0 : 0 ≤ n) (h1 : n ≤ 1000) (h2 : a.length ≤ 1000) : OpR X (binaryOp .Mult) (fun x y H Q => x = .str (tx a) ∧ y = .int n ∧ Q (.str (tx (List.replicate n.toNat a).flatten)) H) := by
  intro pins s σ H x y v u Q I rx ry h
  obtain ⟨rfl, rfl, q⟩ := h
  obtain ⟨t, rfl⟩ := rx
  obtain ⟨t', rfl⟩ := ry
  have e1 : ∀ m : Nat, a.length * m ≤ 1000 * m := fun m => Nat.mul_le_mul_right _ h2
  have hm := e1 n.toNat
  have hn : n.toNat ≤ 1000 := by omega
  have hs : (tx a).length * n.toNat ≤ 1000000 := by rw [tx_len]; omega
  refine P.mul_str (by rw [decide_eq_false (by omega), decide_eq_false (by omega)]; rfl) (fun hn1 _ => ?_) (fun _ _ => by unfold Builtin.Str.tooLong; exact decide_eq_false (by rw [sizeLine_eq]; omega)) ?_
  · rw [tx_len]
    have : (1000 : Int) ≤ (2 ^ 63 - 1) / n := by
      rw [Int.le_ediv_iff_mul_le (by omega)]
      omega
    omega
  · have fl : (tx (List.replicate n.toNat a).flatten) = ⟨(List.replicate n.toNat (tx a).cps).foldl (· ++ ·) #[]⟩ := TL.ext_tl (by
      show (List.replicate n.toNat a).flatten.toArray.toList = _
      rw [show TL.tl ⟨(List.replicate n.toNat (tx a).cps).foldl (· ++ ·) #[]⟩ = ((List.replicate n.toNat (tx a).cps).foldl (· ++ ·) #[]).toList from rfl, foldl_arr]
      simp)
    split
    · rename_i hlt
      have z : n = 0 := by omega
      subst z
      exact ⟨by decide, ⟨.str (tx []), H, I.tok _, ⟨_, rfl⟩, q⟩⟩
    · split
      · rename_i hor
        have e : tx (List.replicate n.toNat a).flatten = tx a := by
          rcases (Bool.or_eq_true _ _).mp hor with z | z
          · have z' : n = 1 := by simpa using z
            subst z'
            simp
          · have z' : a.length = 0 := by rw [tx_len] at z; simpa using z
            have z2 : a = [] := List.eq_nil_of_length_eq_zero z'
            subst z2
            simp
        rw [e] at q
        exact ⟨.str (tx a), H, I, ⟨t, rfl⟩, q⟩
      · refine ⟨?_, ?_⟩
        · rw [← fl, tx_len, flat_len, sizeLine_eq]
          have e3 : n.toNat * a.length = a.length * n.toNat := Nat.mul_comm _ _
          omega
        · exact ⟨.str (tx (List.replicate n.toNat a).flatten), H, I.tok _, ⟨s.toks, by rw [fl]⟩, q⟩
theorem RA.rep {F : Hp} {vs : List V} {ds : List D} (r : RA C F vs ds) : ∀ n : Nat, RA C F (List.replicate n vs).flatten (List.replicate n ds).flatten
  | 0 => by simp; exact .nil
  | n + 1 => by
    rw [List.replicate_succ, List.flatten_cons, List.replicate_succ, List.flatten_cons]
    exact r.app (RA.rep r n)
theorem mul_D (hK : C.K = X.K) : OpR X (binaryOp .Mult) (rD2 C (mulD C.tk)) := by
  intro pins s σ H x y v u Q I rx ry h
  obtain ⟨F, a, b, d, sb, ra, rb, hg, k⟩ := h
  cases ra with
  | int i =>
    cases rb with
    | int j =>
      simp only [mulD] at hg
      split at hg
      · rename_i hl
        obtain rfl := Option.some.inj hg
        exact op_mul pins s σ H _ _ v u Q I rx ry ⟨i, j, rfl, rfl, hl, k.here sb (.int _)⟩
      · cases hg
    | _ => cases hg
  | str a =>
    cases rb with
    | int n =>
      simp only [mulD] at hg
      split at hg
      · rename_i hl
        obtain rfl := Option.some.inj hg
        exact mul_str_ok hl.1 hl.2.1 hl.2.2 pins s σ H _ _ v u Q I rx ry ⟨rfl, rfl, k.here sb (.str _)⟩
      · cases hg
    | _ => cases hg
  | @tup p vs ds h1 h2 h3 =>
    cases rb with
    | int n =>
      simp only [mulD] at hg
      split at hg
      · rename_i hl
        obtain rfl := Option.some.inj hg
        obtain ⟨l1, l2, l3, l4, l5⟩ := hl
        refine op_repT pins s σ H _ _ v u Q I rx ry ⟨p, n, vs, rfl, rfl, by rw [← hK]; exact sqT_sub sb h1, fun e => ?_, l2, l3, by rw [h2.len]; exact l4, fun r hr => ?_⟩
        · subst e; cases h2; exact l1 rfl
        · exact k.new sb hr (R.newT sb hr (RA.rep h2 _) (okT.map l5))
      · cases hg
    | _ => cases hg
  | @lst p vs ds h1 h2 =>
    cases rb with
    | int n =>
      simp only [mulD] at hg
      split at hg
      · rename_i hl
        obtain rfl := Option.some.inj hg
        obtain ⟨l1, l2, l3⟩ := hl
        have hz : vs.length * n.toNat ≤ sizeLine := by
          have e := h2.len
          have : vs.length * n.toNat ≤ 1000 * 1000 := Nat.mul_le_mul (by omega) (by omega)
          rw [sizeLine_eq]
          omega
        refine op_rep pins s σ H _ _ v u Q I rx ry ⟨p, n, vs, rfl, rfl, sb _ _ h1, by omega, by omega, hz, fun r hr => ?_⟩
        exact k.new sb hr (R.newL sb hr (RA.rep h2 _))
      · cases hg
    | _ => cases hg
  | _ => cases hg
def negD : G1
  | .int i => some (.int (-i))
  | _ => none
theorem neg_D : UnR X (unaryOp .USub) (rD1 C negD) := by
  intro pins s σ H x v Q I rx h
  obtain ⟨F, a, d, sb, ra, hg, k⟩ := h
  cases ra with
  | int i =>
    obtain rfl := Option.some.inj hg
    exact un_neg pins s σ H _ v Q I rx ⟨i, rfl, k.here sb (.int _)⟩
  | _ => cases hg

/-! ### comparisons -/
def eqD : G2 := fun a b => if min (dep a) (dep b) ≤ 60 then some (.bl (eqv a b)) else none
def neD : G2 := fun a b => if min (dep a) (dep b) ≤ 60 then some (.bl (!eqv a b)) else none
theorem eq_D (hK : C.K = X.K) (hu : X.A.units + 64 < cLine) : OpR X (compareOp .Eq) (rD2 C eqD) := by
  intro pins s σ H x y v u Q I rx ry h
  obtain ⟨F, a, b, d, sb, ra, rb, hg, k⟩ := h
  simp only [eqD] at hg
  split at hg
  · rename_i hl
    obtain rfl := Option.some.inj hg
    obtain ⟨as, r1⟩ := Dp.reads I a.py x v (by rw [← hK]; exact ra.dp sb) rx
    obtain ⟨bs, r2⟩ := Dp.reads I b.py y u (by rw [← hK]; exact rb.dp sb) ry
    refine SeqAt.eq_plain r1 r2 (py_plain a) (py_plain b) (by rw [py_depth, py_depth]; omega) ?_
    rw [eqv_py]
    exact ⟨.bl _, H, I, rfl, k.here sb (.bl _)⟩
  · cases hg
theorem ne_D (hK : C.K = X.K) (hu : X.A.units + 64 < cLine) : OpR X (compareOp .NotEq) (rD2 C neD) := by
  intro pins s σ H x y v u Q I rx ry h
  obtain ⟨F, a, b, d, sb, ra, rb, hg, k⟩ := h
  simp only [neD] at hg
  split at hg
  · rename_i hl
    obtain rfl := Option.some.inj hg
    obtain ⟨as, r1⟩ := Dp.reads I a.py x v (by rw [← hK]; exact ra.dp sb) rx
    obtain ⟨bs, r2⟩ := Dp.reads I b.py y u (by rw [← hK]; exact rb.dp sb) ry
    refine SeqAt.ne_plain r1 r2 (py_plain a) (py_plain b) (by rw [py_depth, py_depth]; omega) ?_
    rw [eqv_py]
    exact ⟨.bl _, H, I, rfl, k.here sb (.bl _)⟩
  · cases hg
/-- < <= > >= of ints, of texts -/
def ordD (p : Int → Int → Bool) (q : List Nat → List Nat → Bool) : G2
  | .int i, .int j => some (.bl (p i j))
  | .str a, .str b => some (.bl (q a b))
  | _, _ => none
theorem ord_D {op : CmpOp} {p : Int → Int → Bool} {q : List Nat → List Nat → Bool} (h1 : OpR X (compareOp op) (rI0 fun i j => .bl (p i j)))
    (h2 : OpR X (compareOp op) (fun x y H Q => ∃ i j, x = .str i ∧ y = .str j ∧ Q (.bl (q i.cps.toList j.cps.toList)) H)) : OpR X (compareOp op) (rD2 C (ordD p q)) := by
  intro pins s σ H x y v u Q I rx ry h
  obtain ⟨F, a, b, d, sb, ra, rb, hg, k⟩ := h
  cases ra with
  | int i =>
    cases rb with
    | int j =>
      obtain rfl := Option.some.inj hg
      exact h1 pins s σ H _ _ v u Q I rx ry ⟨i, j, rfl, rfl, k.here sb (.bl _)⟩
    | _ => cases hg
  | str a =>
    cases rb with
    | str b =>
      obtain rfl := Option.some.inj hg
      exact h2 pins s σ H _ _ v u Q I rx ry ⟨tx a, tx b, rfl, rfl, k.here sb (.bl _)⟩
    | _ => cases hg
  | _ => cases hg
abbrev ltD : G2 := ordD (fun i j => decide (i < j)) fun a b => decide (a < b)
abbrev leD : G2 := ordD (fun i j => decide (i ≤ j)) fun a b => !decide (b < a)
abbrev gtD : G2 := ordD (fun i j => decide (j < i)) fun a b => decide (b < a)
abbrev geD : G2 := ordD (fun i j => decide (j ≤ i)) fun a b => !decide (a < b)
theorem lt_D : OpR X (compareOp .Lt) (rD2 C ltD) := ord_D op_lt op_lt_str
theorem le_D : OpR X (compareOp .LtE) (rD2 C leD) := ord_D op_le op_le_str
theorem gt_D : OpR X (compareOp .Gt) (rD2 C gtD) := ord_D op_gt op_gt_str
theorem ge_D : OpR X (compareOp .GtE) (rD2 C geD) := ord_D op_ge op_ge_str
/-- in: a sign in a text, a value among the items -/
def inB (x y : D) : Option Bool :=
  match y with
  | .str z => (match x with
    | .str [c] => some (decide (c ∈ z))
    | _ => none)
  | .tup ys => if min (deps ys) (dep x) ≤ 60 then some (ys.any fun y => eqv y x) else none
  | .lst ys => if min (deps ys) (dep x) ≤ 60 then some (ys.any fun y => eqv y x) else none
  | _ => none
def inD (neg : Bool) : G2 := fun x y => (inB x y).map fun b => .bl (if neg then !b else b)
theorem any_py (x : D) : ∀ ys : List D, ((pys ys).any fun y => PyData.eqv y x.py) = ys.any fun y => eqv y x
  | [] => by rw [pys]; rfl
  | y :: ys => by rw [pys, List.any_cons, List.any_cons, eqv_py, any_py x ys]
theorem in_D (hK : C.K = X.K) (hu : X.A.units + 64 < cLine) : OpR X (compareOp .In) (rD2 C (inD false)) := by
  intro pins s σ H x y v u Q I rx ry h
  obtain ⟨F, a, b, d, sb, ra, rb, hg, k⟩ := h
  have hr1 := Dp.reads I a.py x v (by rw [← hK]; exact ra.dp sb) rx
  have hr2 := Dp.reads I b.py y u (by rw [← hK]; exact rb.dp sb) ry
  obtain ⟨as, r1⟩ := hr1
  obtain ⟨bs, r2⟩ := hr2
  simp only [inD, Option.map_eq_some_iff] at hg
  obtain ⟨c, hc, rfl⟩ := hg
  simp only [Bool.false_eq_true, if_false] at k
  cases rb with
  | str z =>
    cases ra with
    | str w =>
      match w, hc with
      | [e], hc =>
        simp only [inB] at hc
        obtain rfl := Option.some.inj hc
        exact op_in_sign pins s σ H _ _ v u Q I rx ry ⟨e, tx z, rfl, rfl, k.here sb (.bl _)⟩
      | [], hc => simp [inB] at hc
      | _ :: _ :: _, hc => simp [inB] at hc
    | _ => simp [inB] at hc
  | @tup p vs ds h1 h2 h3 =>
    have hc' : (if min (deps ds) (dep a) ≤ 60 then some (ds.any fun y => eqv y a) else none) = some c := by
      exact hc
    split at hc'
    · rename_i hl
      obtain rfl := Option.some.inj hc'
      rw [D.py] at r2
      refine SeqAt.in_tuple_data r2 r1 (pys_plain ds) (py_plain a) (by rw [pys_depth, py_depth]; omega) ?_
      rw [any_py]
      exact ⟨.bl _, H, I, rfl, k.here sb (.bl _)⟩
    · cases hc'
  | @lst p vs ds h1 h2 =>
    have hc' : (if min (deps ds) (dep a) ≤ 60 then some (ds.any fun y => eqv y a) else none) = some c := by
      exact hc
    split at hc'
    · rename_i hl
      obtain rfl := Option.some.inj hc'
      rw [D.py] at r2
      refine SeqAt.in_list_data r2 r1 (pys_plain ds) (py_plain a) (by rw [pys_depth, py_depth]; omega) ?_
      rw [any_py]
      exact ⟨.bl _, H, I, rfl, k.here sb (.bl _)⟩
    · cases hc'
  | _ => cases ra <;> simp [inB] at hc
theorem notIn_D (hK : C.K = X.K) (hu : X.A.units + 64 < cLine) : OpR X (compareOp .NotIn) (rD2 C (inD true)) := by
  intro pins s σ H x y v u Q I rx ry h
  obtain ⟨F, a, b, d, sb, ra, rb, hg, k⟩ := h
  have hr1 := Dp.reads I a.py x v (by rw [← hK]; exact ra.dp sb) rx
  have hr2 := Dp.reads I b.py y u (by rw [← hK]; exact rb.dp sb) ry
  obtain ⟨as, r1⟩ := hr1
  obtain ⟨bs, r2⟩ := hr2
  simp only [inD, Option.map_eq_some_iff] at hg
  obtain ⟨c, hc, rfl⟩ := hg
  simp only [if_true] at k
  cases rb with
  | str z =>
    cases ra with
    | str w =>
      match w, hc with
      | [e], hc =>
        simp only [inB] at hc
        obtain rfl := Option.some.inj hc
        exact op_notIn_sign pins s σ H _ _ v u Q I rx ry ⟨e, tx z, rfl, rfl, k.here sb (.bl _)⟩
      | [], hc => simp [inB] at hc
      | _ :: _ :: _, hc => simp [inB] at hc
    | _ => simp [inB] at hc
  | @tup p vs ds h1 h2 h3 =>
    have hc' : (if min (deps ds) (dep a) ≤ 60 then some (ds.any fun y => eqv y a) else none) = some c := by
      exact hc
    split at hc'
    · rename_i hl
      obtain rfl := Option.some.inj hc'
      rw [D.py] at r2
      refine SeqAt.notIn_tuple_data r2 r1 (pys_plain ds) (py_plain a) (by rw [pys_depth, py_depth]; omega) ?_
      rw [any_py]
      exact ⟨.bl _, H, I, rfl, k.here sb (.bl _)⟩
    · cases hc'
  | @lst p vs ds h1 h2 =>
    have hc' : (if min (deps ds) (dep a) ≤ 60 then some (ds.any fun y => eqv y a) else none) = some c := by
      exact hc
    split at hc'
    · rename_i hl
      obtain rfl := Option.some.inj hc'
      rw [D.py] at r2
      refine SeqAt.notIn_list_data r2 r1 (pys_plain ds) (py_plain a) (by rw [pys_depth, py_depth]; omega) ?_
      rw [any_py]
      exact ⟨.bl _, H, I, rfl, k.here sb (.bl _)⟩
    · cases hc'
  | _ => cases ra <;> simp [inB] at hc

/-! ### subscripts, slices -/
theorem RA.at {F : Hp} {vs : List V} {ds : List D} {i : Int} {d : D} (r : RA C F vs ds) (h : atI ds i = some d) : ∃ v, atI vs i = some v ∧ R C F v d := by
  unfold atI at h ⊢
  rw [r.len]
  cases e : ixN ds.length i with
  | none => rw [e] at h; cases h
  | some j =>
    rw [e] at h
    obtain ⟨v, h1, h2⟩ := r.get (show ds[j]? = some d from h)
    exact ⟨v, h1, h2⟩
def ixD : G2
  | .str s, .int i => if s.length ≤ sizeLine then (atI s i).map fun c => .str [c] else none
  | .tup ds, .int i => atI ds i
  | .lst ds, .int i => atI ds i
  | _, _ => none
theorem ix_D (hK : C.K = X.K) : IxR X (rD2 C ixD) := by
  intro value slice pins s σ H x y v u Q I rx ry h hs
  obtain ⟨F, a, b, d, sb, ra, rb, hg, k⟩ := h
  cases ra with
  | str z =>
    cases rb with
    | int i =>
      simp only [ixD] at hg
      split at hg
      · rename_i hl
        simp only [Option.map_eq_some_iff] at hg
        obtain ⟨c, hc, rfl⟩ := hg
        exact ix_str value slice pins s σ H _ _ v u Q I rx ry ⟨tx z, i, c, rfl, rfl, by rw [tx_len]; exact hl, hc, k.here sb (.str [c])⟩ hs
      · cases hg
    | _ => cases hg
  | @tup p vs ds h1 h2 h3 =>
    cases rb with
    | int i =>
      obtain ⟨w, e, r⟩ := h2.at (show atI ds i = some d from hg)
      exact ix_tup value slice pins s σ H _ _ v u Q I rx ry ⟨p, vs, i, w, rfl, rfl, by rw [← hK]; exact sqT_sub sb h1, e, k.here sb r⟩ hs
    | _ => cases hg
  | @lst p vs ds h1 h2 =>
    cases rb with
    | int i =>
      obtain ⟨w, e, r⟩ := h2.at (show atI ds i = some d from hg)
      exact ix_list value slice pins s σ H _ _ v u Q I rx ry ⟨p, vs, i, w, rfl, rfl, .inl (.inl (sb _ _ h1)), e, k.here sb r⟩ hs
    | _ => cases hg
  | _ => cases hg
def cutL {α : Type} (xs : List α) (lo hi : Option Int) : List α := (xs.drop (HT.sIx xs.length 0 lo)).take (HT.sIx xs.length xs.length hi - HT.sIx xs.length 0 lo)
theorem RA.cut {F : Hp} {vs : List V} {ds : List D} (r : RA C F vs ds) (lo hi : Option Int) : RA C F (cutV vs lo hi) (cutL ds lo hi) := by
  unfold cutV cutL
  rw [r.len]
  exact (r.drop _).take _
def slD (tk : Bool) (lo hi : Option Int) : G1
  | .str s => if s.length ≤ sizeLine then some (.str (cutL s lo hi)) else none
  | .tup ds => if okT tk (cutL ds lo hi) = true then some (.tup (cutL ds lo hi)) else none
  | .lst ds => some (.lst (cutL ds lo hi))
  | _ => none
def rDS (C : Con) : V → Option Int → Option Int → Hp → VK → Prop := fun x lo hi H Q => ∃ F a d, Sub F H ∧ R C F x a ∧ slD C.tk lo hi a = some d ∧ fin C F H d Q
theorem cut_all {α : Type} {xs : List α} {lo hi : Option Int} (h : HT.sIx xs.length 0 lo = 0 ∧ HT.sIx xs.length xs.length hi = xs.length) : cutL xs lo hi = xs := by
  unfold cutL
  rw [h.1, h.2, List.drop_zero, Nat.sub_zero, List.take_length]
theorem sl_D (hK : C.K = X.K) : SlR X (rDS C) := by
  intro pins s σ H x v vl vu lo hi sl Q I rx hs pl pu h
  obtain ⟨F, a, d, sb, ra, hg, k⟩ := h
  cases ra with
  | str z =>
    simp only [slD] at hg
    split at hg
    · rename_i hl
      obtain rfl := Option.some.inj hg
      refine sl_str pins s σ H _ v vl vu lo hi sl Q I rx hs pl pu ⟨tx z, rfl, by rw [tx_len]; exact hl, ?_⟩
      have e : cutS (tx z) lo hi = tx (cutL z lo hi) := by
        unfold cutS cutL
        rw [tx_len]
      rw [e]
      exact k.here sb (.str _)
    · cases hg
  | @tup p vs ds h1 h2 h3 =>
    simp only [slD] at hg
    split at hg
    · rename_i hl
      obtain rfl := Option.some.inj hg
      refine sl_tupA pins s σ H _ v vl vu lo hi sl Q I rx hs pl pu ⟨p, vs, rfl, by rw [← hK]; exact sqT_sub sb h1, fun e => ?_, fun _ r hr => ?_⟩
      · rw [h2.len] at e
        rw [cut_all e] at k
        exact k.here sb (.tup h1 h2 h3)
      · exact k.new sb hr (R.newT sb hr (h2.cut lo hi) (okT.map hl))
    · cases hg
  | @lst p vs ds h1 h2 =>
    obtain rfl := Option.some.inj hg
    exact sl_list pins s σ H _ v vl vu lo hi sl Q I rx hs pl pu ⟨p, vs, rfl, .inl (.inl (sb _ _ h1)), fun r hr => k.new sb hr (R.newL sb hr (h2.cut lo hi))⟩
  | _ => cases hg
end
end PD

set_option Elab.async false
set_option linter.all false
set_option maxRecDepth 100000
/-! Built-in functions, types and methods on plain data; truth. -/
namespace PD
open PySem L2
section
variable {X : Cx} {C : Con}
/-! ### truth -/
def truD : D → Option Bool
  | .non => some false
  | .bl b => some b
  | .int i => some (i != 0)
  | .str s => if s.length ≤ sizeLine then some (!s.isEmpty) else none
  | .tup ds => some (!ds.isEmpty)
  | .lst ds => some (!ds.isEmpty)
theorem empty_len {α β : Type} {xs : List α} {ys : List β} (h : xs.length = ys.length) : xs.isEmpty = ys.isEmpty := by
  cases xs <;> cases ys <;> simp at h ⊢
theorem tru_of {F H : Hp} (s : Sub F H) {v : V} {d : D} {b : Bool} (r : R C F v d) (h : truD d = some b) : TruV C.K v H b := by
  cases r with
  | non => obtain rfl := Option.some.inj h; rfl
  | bl c => obtain rfl := Option.some.inj h; rfl
  | int i => obtain rfl := Option.some.inj h; rfl
  | str z =>
    simp only [truD] at h
    split at h
    · rename_i hl
      obtain rfl := Option.some.inj h
      refine ⟨by rw [tx_len]; exact hl, ?_⟩
      rw [tx_len]
      cases z with
      | nil => rfl
      | cons a r =>
        have : ((a :: r).length : Int) ≠ 0 := by simp only [List.length_cons]; omega
        rw [bne_iff_ne.mpr this]; rfl
    · cases h
  | @tup p vs ds h1 h2 h3 =>
    obtain rfl := Option.some.inj h
    exact .inr (.inl ⟨vs, sqT_sub s h1, by rw [empty_len h2.len]⟩)
  | @lst p vs ds h1 h2 =>
    obtain rfl := Option.some.inj h
    exact .inl ⟨vs, .inl (.inl (s _ _ h1)), by rw [empty_len h2.len]⟩

/-! ### functions and types -/
def lenD : GN
  | [.str s] => if s.length ≤ sizeLine then some (.int s.length) else none
  | [.tup ds] => some (.int ds.length)
  | [.lst ds] => some (.int ds.length)
  | _ => none
theorem RA.one {F : Hp} {vs : List V} {d : D} (r : RA C F vs [d]) : ∃ v, vs = [v] ∧ R C F v d := by
  cases r with
  | cons h1 h2 => cases h2; exact ⟨_, rfl, h1⟩
theorem RA.two {F : Hp} {vs : List V} {d e : D} (r : RA C F vs [d, e]) : ∃ v w, vs = [v, w] ∧ R C F v d ∧ R C F w e := by
  cases r with
  | cons h1 h2 =>
    obtain ⟨w, rfl, h3⟩ := h2.one
    exact ⟨_, w, rfl, h1, h3⟩
theorem len_D (hK : C.K = X.K) : CallR X (.builtin "len") (rDN C lenD) := by
  intro pins s σ H xs us Q I r h
  obtain ⟨F, ds, d, sb, ra, hg, k⟩ := h
  match ds, hg with
  | [.str z], hg =>
    obtain ⟨v, rfl, rv⟩ := ra.one
    cases rv
    simp only [lenD] at hg
    split at hg
    · rename_i hl
      obtain rfl := Option.some.inj hg
      exact call_len_str pins s σ H _ us Q I r ⟨tx z, rfl, by rw [tx_len]; exact hl, by rw [tx_len]; exact k.here sb (.int _)⟩
    · cases hg
  | [.tup ds], hg =>
    obtain ⟨v, rfl, rv⟩ := ra.one
    cases rv with
    | @tup p vs _ h1 h2 h3 =>
      obtain rfl := Option.some.inj hg
      exact call_len_seq pins s σ H _ us Q I r ⟨p, vs, rfl, .inr (by rw [← hK]; exact sqT_sub sb h1), by rw [h2.len]; exact k.here sb (.int _)⟩
  | [.lst ds], hg =>
    obtain ⟨v, rfl, rv⟩ := ra.one
    cases rv with
    | @lst p vs _ h1 h2 =>
      obtain rfl := Option.some.inj hg
      exact call_len_seq pins s σ H _ us Q I r ⟨p, vs, rfl, .inl (.inl (.inl (sb _ _ h1))), by rw [h2.len]; exact k.here sb (.int _)⟩
def intD : GN
  | [.int i] => some (.int i)
  | [.str a] => if a.length ≤ 640 then (intText? (tx a)).map .int else none
  | _ => none
theorem int_D : CallR X (.type "int") (rDN C intD) := by
  intro pins s σ H xs us Q I r h
  obtain ⟨F, ds, d, sb, ra, hg, k⟩ := h
  match ds, hg with
  | [.int i], hg =>
    obtain ⟨v, rfl, rv⟩ := ra.one
    cases rv
    obtain rfl := Option.some.inj hg
    exact call_int1 pins s σ H _ us Q I r (.inl ⟨i, rfl, k.here sb (.int _)⟩)
  | [.str a], hg =>
    obtain ⟨v, rfl, rv⟩ := ra.one
    cases rv
    simp only [intD] at hg
    split at hg
    · rename_i hl
      simp only [Option.map_eq_some_iff] at hg
      obtain ⟨n, hn, rfl⟩ := hg
      exact call_int_str pins s σ H _ us Q I r ⟨tx a, n, rfl, hn, by rw [tx_len]; exact hl, k.here sb (.int _)⟩
    · cases hg
def maxD : GN
  | [.int i, .int j] => some (.int (if j > i then j else i))
  | _ => none
theorem max_D (hc : X.calm = true) : CallR X (.builtin "max") (rDN C maxD) := by
  intro pins s σ H xs us Q I r h
  obtain ⟨F, ds, d, sb, ra, hg, k⟩ := h
  match ds, hg with
  | [.int i, .int j], hg =>
    obtain ⟨v, w, rfl, rv, rw'⟩ := ra.two
    cases rv; cases rw'
    obtain rfl := Option.some.inj hg
    exact call_max2 hc pins s σ H _ us Q I r ⟨i, j, rfl, k.here sb (.int _)⟩
def minD : GN
  | [.int i, .int j] => some (.int (if j < i then j else i))
  | _ => none
theorem min_D (hc : X.calm = true) : CallR X (.builtin "min") (rDN C minD) := by
  intro pins s σ H xs us Q I r h
  obtain ⟨F, ds, d, sb, ra, hg, k⟩ := h
  match ds, hg with
  | [.int i, .int j], hg =>
    obtain ⟨v, w, rfl, rv, rw'⟩ := ra.two
    cases rv; cases rw'
    obtain rfl := Option.some.inj hg
    exact call_min2 hc pins s σ H _ us Q I r ⟨i, j, rfl, k.here sb (.int _)⟩
def listD : GN
  | [.lst ds] => some (.lst ds)
  | [.tup ds] => some (.lst ds)
  | [.str z] => if z.length ≤ 4000 then some (.lst ((z.map fun c => [c]).map .str)) else none
  | _ => none
theorem vals_ix : ∀ {vs : List V} {us : List Value}, vs.length = us.length → (∀ (i : Nat) v u, vs[i]? = some v → us[i]? = some u → RelV v u) → Vals vs us
  | [], [], _, _ => .nil
  | [], _ :: _, h, _ => by cases h
  | _ :: _, [], h, _ => by cases h
  | v :: vs, u :: us, h, k => .cons (k 0 v u rfl rfl) (vals_ix (by simpa using h) fun i a b e1 e2 => k (i + 1) a b (by simpa using e1) (by simpa using e2))
theorem cr_or {f : Value} {r1 r2 : List V → Hp → VK → Prop} (a : CallR X f r1) (b : CallR X f r2) : CallR X f (fun xs H Q => r1 xs H Q ∨ r2 xs H Q) := fun pins s σ H xs us Q I r h => h.elim (a pins s σ H xs us Q I r) (b pins s σ H xs us Q I r)
abbrev sgnV (z : List Nat) : List V := ((z.map fun c => [c]).map tx).map V.str
/-- list(text) -/
theorem call_list_sgn (hc : X.calm = true) : CallR X (.type "list") (fun xs H Q => ∃ z : List Nat, xs = [.str (tx z)] ∧ z.length ≤ 4000 ∧ ∀ l, H l = none → Q (.ref l) (upd H l (.lst (sgnV z)))) := by
  intro pins s σ H xs us Q I r h
  obtain ⟨z, rfl, hl, q⟩ := h
  obtain ⟨u, rfl, t, rfl⟩ := r.one
  have hsz : (tx z).cps.size = z.length := by simp
  refine PySem.call_list_str (I.ok.hd hc) (tx z) t (fun h' tk acc c' hk hS hacc => ?_) (by rw [hsz, sizeLine_eq]; omega)
  have hn : H s.heap.objs.size = none := I.hok.fresh (Nat.le_refl _)
  have hv : Vals (sgnV z) acc.toList := by
    refine vals_ix (by have h1 := hacc.1; rw [hsz] at h1; simp [h1]) fun i v u e1 e2 => ?_
    obtain ⟨c, w, hc1, rfl⟩ := hacc.2 i u (by simpa using e2)
    have hc2 : z[i]? = some c := by simpa using hc1
    unfold sgnV at e1
    rw [List.getElem?_map, List.getElem?_map, List.getElem?_map, hc2] at e1
    cases e1
    exact ⟨w, rfl⟩
  exact ⟨.ref s.heap.objs.size, upd H s.heap.objs.size (.lst (sgnV z)), I.laid (t' := tk) hk (Nat.le_refl _) ⟨by simp [sgnV]; rw [sizeLine_eq]; omega, acc.toList, c', hv, hS⟩, rfl, q _ hn⟩
theorem list_D (hc : X.calm = true) (hK : C.K = X.K) : CallR X (.type "list") (rDN C listD) := by
  intro pins s σ H xs us Q I r h
  obtain ⟨F, ds, d, sb, ra, hg, k⟩ := h
  match ds, hg with
  | [.tup ds], hg =>
    obtain ⟨v, rfl, rv⟩ := ra.one
    cases rv with
    | @tup p vs _ h1 h2 h3 =>
      obtain rfl := Option.some.inj hg
      exact call_list_of pins s σ H _ us Q I r ⟨p, vs, rfl, .inr (by rw [← hK]; exact sqT_sub sb h1), fun l hl => k.new sb hl (R.newL sb hl h2)⟩
  | [.lst ds], hg =>
    obtain ⟨v, rfl, rv⟩ := ra.one
    cases rv with
    | @lst p vs _ h1 h2 =>
      obtain rfl := Option.some.inj hg
      exact call_list_of pins s σ H _ us Q I r ⟨p, vs, rfl, .inl (.inl (.inl (sb _ _ h1))), fun l hl => k.new sb hl (R.newL sb hl h2)⟩
  | [.str z], hg =>
    obtain ⟨v, rfl, rv⟩ := ra.one
    cases rv
    simp only [listD] at hg
    split at hg
    · rename_i hl
      obtain rfl := Option.some.inj hg
      exact call_list_sgn hc pins s σ H _ us Q I r ⟨z, rfl, hl, fun l hn => k.new sb hn (R.newL sb hn (RA.of_strs _))⟩
    · cases hg
def tupleD (tk : Bool) : GN
  | [.lst ds] => if okT tk ds = true then some (.tup ds) else none
  | [.tup ds] => some (.tup ds)
  | _ => none
theorem tuple_D (hK : C.K = X.K) : CallR X (.type "tuple") (rDN C (tupleD C.tk)) := by
  intro pins s σ H xs us Q I r h
  obtain ⟨F, ds, d, sb, ra, hg, k⟩ := h
  match ds, hg with
  | [.tup ds], hg =>
    obtain ⟨v, rfl, rv⟩ := ra.one
    cases rv with
    | @tup p vs _ h1 h2 h3 =>
      obtain rfl := Option.some.inj hg
      exact call_tuple_of pins s σ H _ us Q I r ⟨p, vs, rfl, .inr ⟨by rw [← hK]; exact sqT_sub sb h1, k.here sb (.tup h1 h2 h3)⟩⟩
  | [.lst ds], hg =>
    obtain ⟨v, rfl, rv⟩ := ra.one
    cases rv with
    | @lst p vs _ h1 h2 =>
      simp only [tupleD] at hg
      split at hg
      · rename_i hl
        obtain rfl := Option.some.inj hg
        exact call_tuple_of pins s σ H _ us Q I r ⟨p, vs, rfl, .inl ⟨.inl (.inl (sb _ _ h1)), fun l hl' => k.new sb hl' (R.newT sb hl' h2 (okT.map hl))⟩⟩
      · cases hg
def numS (i : Int) : List Nat := (Str.ofString (toString i)).cps.toList
def strD : GN
  | [.int i] => if i.natAbs.log2 < 1920 then some (.str (numS i)) else none
  | _ => none
theorem tx_cps (x : Str) : tx x.cps.toList = x := TL.mk_tl x
theorem str_D : CallR X (.type "str") (rDN C strD) := by
  intro pins s σ H xs us Q I r h
  obtain ⟨F, ds, d, sb, ra, hg, k⟩ := h
  match ds, hg with
  | [.int i], hg =>
    obtain ⟨v, rfl, rv⟩ := ra.one
    cases rv
    simp only [strD] at hg
    split at hg
    · rename_i hl
      obtain rfl := Option.some.inj hg
      refine call_str_int pins s σ H _ us Q I r ⟨i, rfl, hl, ?_⟩
      have := k.here (v := .str (tx (numS i))) sb (.str _)
      unfold numS at this
      rw [tx_cps] at this
      exact this
    · cases hg
def bools : List D → Option (List Bool)
  | [] => some []
  | .bl b :: r => (bools r).map (b :: ·)
  | _ => none
theorem RA.bools {F : Hp} : ∀ {vs : List V} (ds : List D) {bs : List Bool}, RA C F vs ds → PD.bools ds = some bs → vs = bs.map V.bl
  | _, [], bs, h, e => by cases h; obtain rfl := Option.some.inj e; rfl
  | _, .bl b :: r, bs, h, e => by
    cases h with
    | cons h1 h2 =>
      cases h1
      simp only [PD.bools, Option.map_eq_some_iff] at e
      obtain ⟨cs, e1, rfl⟩ := e
      rw [RA.bools r h2 e1]; rfl
  | _, .non :: _, _, _, e => by simp [PD.bools] at e
  | _, .int _ :: _, _, _, e => by simp [PD.bools] at e
  | _, .str _ :: _, _, _, e => by simp [PD.bools] at e
  | _, .tup _ :: _, _, _, e => by simp [PD.bools] at e
  | _, .lst _ :: _, _, _, e => by simp [PD.bools] at e
def allD : GN
  | [.lst ds] => (bools ds).map fun bs => .bl (bs.all id)
  | _ => none
def anyD : GN
  | [.lst ds] => (bools ds).map fun bs => .bl (bs.any id)
  | _ => none
theorem all_D (hc : X.calm = true) : CallR X (.builtin "all") (rDN C allD) := by
  intro pins s σ H xs us Q I r h
  obtain ⟨F, ds, d, sb, ra, hg, k⟩ := h
  match ds, hg with
  | [.lst ds], hg =>
    obtain ⟨v, rfl, rv⟩ := ra.one
    cases rv with
    | @lst p vs _ h1 h2 =>
      simp only [allD, Option.map_eq_some_iff] at hg
      obtain ⟨bs, hb, rfl⟩ := hg
      have e := RA.bools ds h2 hb
      subst e
      exact cr_all hc pins s σ H _ us Q I r ⟨p, bs, rfl, .inl (.inl (sb _ _ h1)), k.here sb (.bl _)⟩
theorem any_D (hc : X.calm = true) : CallR X (.builtin "any") (rDN C anyD) := by
  intro pins s σ H xs us Q I r h
  obtain ⟨F, ds, d, sb, ra, hg, k⟩ := h
  match ds, hg with
  | [.lst ds], hg =>
    obtain ⟨v, rfl, rv⟩ := ra.one
    cases rv with
    | @lst p vs _ h1 h2 =>
      simp only [anyD, Option.map_eq_some_iff] at hg
      obtain ⟨bs, hb, rfl⟩ := hg
      have e := RA.bools ds h2 hb
      subst e
      exact cr_any hc pins s σ H _ us Q I r ⟨p, bs, rfl, .inl (.inl (sb _ _ h1)), k.here sb (.bl _)⟩

/-! ### methods of texts -/
def txsO : List D → Option (List (List Nat))
  | [] => some []
  | .str s :: r => (txsO r).map (s :: ·)
  | _ => none
theorem strs_map : ∀ ss : List (List Nat), txsO (ss.map D.str) = some ss
  | [] => rfl
  | s :: ss => by rw [List.map_cons, txsO, strs_map ss]; rfl
theorem RA.sO {F : Hp} : ∀ {vs : List V} (ds : List D) {ss : List (List Nat)}, RA C F vs ds → txsO ds = some ss → vs = (ss.map tx).map V.str
  | _, [], bs, h, e => by cases h; obtain rfl := Option.some.inj e; rfl
  | _, .str b :: r, bs, h, e => by
    cases h with
    | cons h1 h2 =>
      cases h1
      simp only [txsO, Option.map_eq_some_iff] at e
      obtain ⟨cs, e1, rfl⟩ := e
      rw [RA.sO r h2 e1]; rfl
  | _, .non :: _, _, _, e => by simp [txsO] at e
  | _, .int _ :: _, _, _, e => by simp [txsO] at e
  | _, .bl _ :: _, _, _, e => by simp [txsO] at e
  | _, .tup _ :: _, _, _, e => by simp [txsO] at e
  | _, .lst _ :: _, _, _, e => by simp [txsO] at e
/-- a glued text -/
def joinS (a : List Nat) (ss : List (List Nat)) : Option D := if (ss.map List.length).sum + ss.length * a.length ≤ 16777216 then some (.str (TL.joinL a ss)) else none
def joinD : D → List D → Option D
  | .str a, [.lst ds] => (txsO ds).bind (joinS a)
  | .str a, [.tup ds] => (txsO ds).bind (joinS a)
  | _, _ => none
theorem joinL_tx (a : List Nat) (ss : List (List Nat)) : Txt.join (tx a) (ss.map tx) = tx (TL.joinL a ss) := by
  rw [TL.join_eq]
  refine TL.ext_tl ?_
  rw [TL.tl_join, List.map_map]
  have : (TL.tl ∘ tx) = id := by funext l; rfl
  rw [this, List.map_id]
theorem tx_lens : ∀ ss : List (List Nat), (ss.map tx).map (·.length) = ss.map List.length
  | [] => rfl
  | s :: ss => by rw [List.map_cons, List.map_cons, List.map_cons, tx_lens ss, tx_len]
theorem join_D (hK : C.K = X.K) : MtR X "str.join" (rDM C joinD) := by
  intro pins s σ H x xs v us Q I rx r h
  obtain ⟨F, a, ds, d, sb, ra, rs, hg, k⟩ := h
  cases ra with
  | str z =>
    match ds, hg with
    | [.lst ds], hg =>
      obtain ⟨v, rfl, rv⟩ := rs.one
      cases rv with
      | @lst p vs _ h1 h2 =>
        simp only [joinD, Option.bind_eq_some_iff] at hg
        obtain ⟨ss, hs, hg⟩ := hg
        unfold joinS at hg
        split at hg
        · rename_i hl
          obtain rfl := Option.some.inj hg
          have e := RA.sO ds h2 hs
          subst e
          refine mt_join pins s σ H _ _ _ us Q I rx r ⟨tx z, p, ss.map tx, rfl, rfl, .inl (.inl (.inl (sb _ _ h1))), ?_, ?_⟩
          · rw [tx_lens, List.length_map, tx_len]; exact hl
          · rw [joinL_tx]; exact k.here sb (.str _)
        · cases hg
    | [.tup ds], hg =>
      obtain ⟨v, rfl, rv⟩ := rs.one
      cases rv with
      | @tup p vs _ h1 h2 h3 =>
        simp only [joinD, Option.bind_eq_some_iff] at hg
        obtain ⟨ss, hs, hg⟩ := hg
        unfold joinS at hg
        split at hg
        · rename_i hl
          obtain rfl := Option.some.inj hg
          have e := RA.sO ds h2 hs
          subst e
          refine mt_join pins s σ H _ _ _ us Q I rx r ⟨tx z, p, ss.map tx, rfl, rfl, .inr (by rw [← hK]; exact sqT_sub sb h1), ?_, ?_⟩
          · rw [tx_lens, List.length_map, tx_len]; exact hl
          · rw [joinL_tx]; exact k.here sb (.str _)
        · cases hg
  | _ => cases hg
def loS (s : List Nat) : List Nat := (Txt.lower (tx s)).cps.toList
def upS (s : List Nat) : List Nat := (Txt.upper (tx s)).cps.toList
def lowerD : D → List D → Option D
  | .str s, [] => if s.length ≤ 5592405 then some (.str (loS s)) else none
  | _, _ => none
def upperD : D → List D → Option D
  | .str s, [] => if s.length ≤ 5592405 then some (.str (upS s)) else none
  | _, _ => none
theorem lower_D : MtR X "str.lower" (rDM C lowerD) := by
  intro pins s σ H x xs v us Q I rx r h
  obtain ⟨F, a, ds, d, sb, ra, rs, hg, k⟩ := h
  cases ra with
  | str z =>
    match ds, hg with
    | [], hg =>
      cases rs
      simp only [lowerD] at hg
      split at hg
      · rename_i hl
        obtain rfl := Option.some.inj hg
        refine mt_lower pins s σ H _ _ _ us Q I rx r ⟨tx z, rfl, rfl, by rw [tx_len]; exact hl, ?_⟩
        have := k.here (v := .str (tx (loS z))) sb (.str _)
        unfold loS at this
        rw [tx_cps] at this
        exact this
      · cases hg
  | _ => cases hg
theorem upper_D : MtR X "str.upper" (rDM C upperD) := by
  intro pins s σ H x xs v us Q I rx r h
  obtain ⟨F, a, ds, d, sb, ra, rs, hg, k⟩ := h
  cases ra with
  | str z =>
    match ds, hg with
    | [], hg =>
      cases rs
      simp only [upperD] at hg
      split at hg
      · rename_i hl
        obtain rfl := Option.some.inj hg
        refine mt_upper pins s σ H _ _ _ us Q I rx r ⟨tx z, rfl, rfl, by rw [tx_len]; exact hl, ?_⟩
        have := k.here (v := .str (tx (upS z))) sb (.str _)
        unfold upS at this
        rw [tx_cps] at this
        exact this
      · cases hg
  | _ => cases hg
/-- one text handed in -/
def with1 (g : List Nat → List Nat → Option D) : D → List D → Option D
  | .str a, [.str b] => g a b
  | _, _ => none
theorem with1_D {id : String} {g : List Nat → List Nat → Option D} {P : Str → Str → Prop} {f : Str → Str → V} (rule : MtR X id (fun x xs H Q => ∃ a b, x = .str a ∧ xs = [.str b] ∧ P a b ∧ Q (f a b) H))
    (hP : ∀ a b d, g a b = some d → P (tx a) (tx b) ∧ ∀ F, R C F (f (tx a) (tx b)) d) : MtR X id (rDM C (with1 g)) := by
  intro pins s σ H x xs v us Q I rx r h
  obtain ⟨F, a, ds, d, sb, ra, rs, hg, k⟩ := h
  cases ra with
  | str z =>
    match ds, hg with
    | [.str b], hg =>
      obtain ⟨v, rfl, rv⟩ := rs.one
      cases rv
      obtain ⟨p, q⟩ := hP z b d hg
      exact rule pins s σ H _ _ _ us Q I rx r ⟨tx z, tx b, rfl, rfl, p, k.here sb (q F)⟩
  | _ => cases hg
def startsD : D → List D → Option D := with1 fun a b => some (.bl (Txt.startswith (tx a) (tx b)))
def endsD : D → List D → Option D := with1 fun a b => some (.bl (Txt.endswith (tx a) (tx b)))
theorem starts_D : MtR X "str.startswith" (rDM C startsD) :=
  with1_D (P := fun _ _ => True) (f := fun a b => .bl (Txt.startswith a b)) (fun pins s σ H x xs v us Q I rx r ⟨a, b, e1, e2, _, q⟩ => mt_startswith pins s σ H x xs v us Q I rx r ⟨a, b, e1, e2, q⟩)
    fun a b d h => by obtain rfl := Option.some.inj h; exact ⟨trivial, fun F => .bl _⟩
theorem ends_D : MtR X "str.endswith" (rDM C endsD) :=
  with1_D (P := fun _ _ => True) (f := fun a b => .bl (Txt.endswith a b)) (fun pins s σ H x xs v us Q I rx r ⟨a, b, e1, e2, _, q⟩ => mt_endswith pins s σ H x xs v us Q I rx r ⟨a, b, e1, e2, q⟩)
    fun a b d h => by obtain rfl := Option.some.inj h; exact ⟨trivial, fun F => .bl _⟩
def stripD : D → List D → Option D := with1 fun a b => if a.length ≤ sizeLine then some (.str (Txt.stripChars (tx a) (tx b)).cps.toList) else none
theorem strip_D : MtR X "str.strip" (rDM C stripD) :=
  with1_D (P := fun a _ => a.length ≤ sizeLine) (f := fun a b => .str (Txt.stripChars a b)) (fun pins s σ H x xs v us Q I rx r ⟨a, b, e1, e2, p, q⟩ => mt_stripChars pins s σ H x xs v us Q I rx r ⟨a, b, e1, e2, p, q⟩)
    fun a b d h => by
      split at h
      · rename_i hl
        obtain rfl := Option.some.inj h
        refine ⟨by rw [tx_len]; exact hl, fun F => ?_⟩
        have := R.str (C := C) (F := F) (Txt.stripChars (tx a) (tx b)).cps.toList
        rw [tx_cps] at this
        exact this
      · cases h
def splitD : D → List D → Option D
  | .str a, [.str b] => if b ≠ [] ∧ a.length + 2 ≤ sizeLine then some (.lst ((Txt.split (tx a) (tx b)).map fun s => .str s.cps.toList)) else none
  | _, _ => none
theorem RA.news {F : Hp} : ∀ ss : List Str, RA C F (ss.map V.str) (ss.map fun s => .str s.cps.toList)
  | [] => .nil
  | s :: ss => .cons (by have := R.str (C := C) (F := F) s.cps.toList; rw [tx_cps] at this; exact this) (RA.news ss)
theorem split_D : MtR X "str.split" (rDM C splitD) := by
  intro pins s σ H x xs v us Q I rx r h
  obtain ⟨F, a, ds, d, sb, ra, rs, hg, k⟩ := h
  cases ra with
  | str z =>
    match ds, hg with
    | [.str b], hg =>
      obtain ⟨v, rfl, rv⟩ := rs.one
      cases rv
      simp only [splitD] at hg
      split at hg
      · rename_i hl
        obtain rfl := Option.some.inj hg
        refine mt_split pins s σ H _ _ _ us Q I rx r ⟨tx z, tx b, rfl, rfl, ?_, by rw [tx_len]; exact hl.2, fun p hp => ?_⟩
        · rw [tx_len]
          cases b with
          | nil => exact absurd rfl hl.1
          | cons c r => rfl
        · exact k.new sb hp (R.newL sb hp (RA.news _))
      · cases hg
  | _ => cases hg
end
end PD

set_option Elab.async false
set_option linter.all false
set_option maxRecDepth 100000
/-! The small language: what is read off the program's text, and what it makes of plain data. -/
namespace PD
open PySem L2

inductive B where
  | len | int | max | min | list | tuple | str | all | any
  deriving DecidableEq
def bD (tk : Bool) : B → GN
  | .len => lenD | .int => intD | .max => maxD | .min => minD | .list => listD | .tuple => tupleD tk | .str => strD | .all => allD | .any => anyD
inductive M where
  | join | lower | upper | starts | ends | strip | split
  deriving DecidableEq
def mD : M → D → List D → Option D
  | .join => joinD | .lower => lowerD | .upper => upperD | .starts => startsD | .ends => endsD | .strip => stripD | .split => splitD
def binD (tk : Bool) : Operator → G2
  | .Add => addD tk | .Sub => subD | .Mult => mulD tk | .Mod => modD | .FloorDiv => fdivD | .Pow => powD
  | _ => fun _ _ => none
def cmpD : CmpOp → G2
  | .Eq => eqD | .NotEq => neD | .Lt => ltD | .LtE => leD | .Gt => gtD | .GtE => geD | .In => inD false | .NotIn => inD true
  | _ => fun _ _ => none

/-- the built-in classes that are asked for -/
inductive Ty where
  | int | bool | str | list | tuple
  deriving DecidableEq
/-- a target: a name's slot, or a tuple of targets -/
inductive T where
  | nm (i : Nat) | nil | cons (t ts : T)
  deriving Inhabited
/-- further forms over values -/
inductive Op where
  | fstr (a b : List Nat)
  deriving DecidableEq
def opD (tk : Bool) : Op → List D → Option D
  | .fstr a b, [.str s] => if a.length + s.length + b.length ≤ sizeLine then some (.str (a ++ s ++ b)) else none
  | _, _ => none
mutual
inductive E where
  | var (i : Nat) | cst (k : Nat) | int (i : Int) | bl (b : Bool) | non | str (s : List Nat)
  | bin (o : Operator) (a b : E) | neg (a : E) | cmp (o : CmpOp) (a b : E) | chn (o o' : CmpOp) (a b c : E)
  | isN (ng : Bool) (a : E) | isB (ng : Bool) (a : E) (b : Bool)
  | and (a b : E) | or (a b : E) | one (a : E) | not (a : E) | ife (c : Tt) (a b : E)
  | tup (es : Es) | lst (es : Es) | idx (a b : E) | sl (a lo hi : E) | nope | rev (a : E)
  | call (f : Nat) (es : Es) | callT (f i : Nat) (es : Es) | blt (b : B) (es : Es) | mth (m : M) (a : E) (es : Es)
  | isi (a : E) (t : Ty) | isiT (a : E) (ts : List Ty) | srt (a : E) | repl (i j : Nat) | mapc (x y : List Nat)
  | tget (i k : Nat) | tcell (i : Nat) (a : E) | tlen (i : Nat)
  | comp (elt : E) (tg : T) (it : I) (c : Tt) (own : List Nat)
  | op (o : Op) (es : Es) | genl (f : Nat) (es : Es) | oix (i : Nat) (e : E) | olen (i : Nat)
inductive Es where
  | nil | cons (e : E) (es : Es) | star (e : E) (es : Es)
inductive I where
  | data (e : E) | rng1 (a : E) | rng2 (a b : E) | rng3 (a b : E) (c : Int) | enum (a : E) | zip (a b : E)
inductive Tt where
  | yes | val (e : E) | and (a b : Tt) | or (a b : Tt) | one (a : Tt) | not (a : Tt)
  | cmp (o : CmpOp) (a b : E) | chn (o o' : CmpOp) (a b c : E) | isN (ng : Bool) (a : E) | isB (ng : Bool) (a : E) (b : Bool)
end
mutual
inductive S where
  | nop | exp (e : E) | ret (e : E) | retN | set (i : Nat) (e : E) | setO (i : Nat) (e : E) | par (is : List Nat) (es : Es) | unp (t : T) (e : E)
  | ife (c : Tt) (a b : Ss) | whl (c : Tt) (b : Ss) | fr (tg : T) (it : I) (b : Ss)
  | app (i : Nat) (e : E) | tset (i k : Nat) (e : E) | brk | cnt | stuck
  | lset (i : Nat) (k e : E) | lpop (i : Nat) (k : E) | lins (i : Nat) (k e : E)
inductive Ss where
  | nil | cons (s : S) (ss : Ss) | frz (i : Nat) (ss : Ss)
end

/-- what calls mean; whether map steps are told apart -/
structure Sg where
  ns : List Int
  tk : Bool
  cs : List D
  G : Nat → List D → TS → Option (D × TS)
  GG : Nat → List D → Option (List D)

/-! ### the meaning -/
def tyIs : D → Ty → Bool
  | .bl _, .bool => true
  | .bl _, .int => true
  | .int _, .int => true
  | .str _, .str => true
  | .tup _, .tuple => true
  | .lst _, .list => true
  | _, _ => false
def wipeE (ρ : Env') : List Nat → Env'
  | [] => ρ
  | v :: vs => (wipeE ρ vs).set v .un
def bindT : T → D → Env' → Option Env'
  | .nm i, x, ρ => some (ρ.set i (.d x))
  | .nil, .tup [], ρ => some ρ
  | .cons t ts, .tup (x :: xs), ρ => (bindT t x ρ).bind fun ρ1 => bindT ts (.tup xs) ρ1
  | _, _, _ => none
/-- what is walked -/
def itemsD : D → Option (List D)
  | .tup xs => some xs
  | .lst xs => some xs
  | .str s => some (s.map fun c => .str [c])
  | _ => none
def rangeD (a : Int) (n : Nat) (c : Int) : List D := (List.range n).map fun i => .int (a + (i : Nat) * c)
def enumD (k : Nat) : List D → List D
  | [] => []
  | x :: xs => .tup [.int k, x] :: enumD (k + 1) xs
/-- two texts side by side -/
def zipC (x y : List Nat) : List D := (List.zip x y).map fun p => .tup [.str [p.1], .str [p.2]]
def small62 (i : Int) : Bool := decide (-(2 ^ 62) ≤ i) && decide (i < 2 ^ 62)
def intO : D → Option Int
  | .int i => some i
  | _ => none
def lexS : List Nat → List Nat → Bool := fun a b => decide (a ≤ b)
def insS (a : List Nat) : List (List Nat) → List (List Nat)
  | [] => [a]
  | b :: r => if a < b then a :: b :: r else if a = b then b :: r else b :: insS a r
def sortSetS (ss : List (List Nat)) : List (List Nat) := ss.foldl (fun acc a => insS a acc) []
def srtD : D → Option D
  | .lst ds => (txsO ds).bind fun ss => if ss.length + 1 < 4000 then some (.lst ((sortSetS ss).map .str)) else none
  | .str z => if z.length + 1 < 4000 then some (.lst ((sortSetS (z.map fun c => [c])).map .str)) else none
  | _ => none
def revD : D → Option D
  | .lst ds => some (.lst ds.reverse)
  | _ => none
/-- the turns of a comprehension -/
def compL (f : D → TS → Option (Option D × TS)) : List D → TS → Option (List D × TS)
  | [], τ => some ([], τ)
  | x :: xs, τ => (f x τ).bind fun r => (compL f xs r.2).bind fun q => some (match r.1 with | some y => y :: q.1 | none => q.1, q.2)
mutual
def ev (P : Sg) : E → Env' → TS → Option (D × TS)
  | .var i, ρ, τ => match ρ[i]? with
    | some (.d x) => some (x, τ)
    | _ => none
  | .cst k, _, τ => (P.cs[k]?).map fun d => (d, τ)
  | .int i, _, τ => some (.int i, τ)
  | .bl b, _, τ => some (.bl b, τ)
  | .non, _, τ => some (.non, τ)
  | .str s, _, τ => some (.str s, τ)
  | .bin o a b, ρ, τ => (ev P a ρ τ).bind fun r => (ev P b ρ r.2).bind fun q => (binD P.tk o r.1 q.1).map fun d => (d, q.2)
  | .neg a, ρ, τ => (ev P a ρ τ).bind fun r => (negD r.1).map fun d => (d, r.2)
  | .cmp o a b, ρ, τ => (ev P a ρ τ).bind fun r => (ev P b ρ r.2).bind fun q => (cmpD o r.1 q.1).map fun d => (d, q.2)
  | .chn o o' a b c, ρ, τ => (ev P a ρ τ).bind fun r => (ev P b ρ r.2).bind fun q => (cmpD o r.1 q.1).bind fun d => match d with
    | .bl true => (ev P c ρ q.2).bind fun z => (cmpD o' q.1 z.1).map fun d => (d, z.2)
    | .bl false => some (.bl false, q.2)
    | _ => none
  | .isN ng a, ρ, τ => (ev P a ρ τ).map fun r => (match r.1 with | .non => .bl (!ng) | _ => .bl ng, r.2)
  | .isB ng a b, ρ, τ => (ev P a ρ τ).bind fun r => match r.1 with
    | .bl c => some (.bl (if ng then !(c == b) else c == b), r.2)
    | _ => none
  | .and a b, ρ, τ => (ev P a ρ τ).bind fun r => (truD r.1).bind fun c => if c then ev P b ρ r.2 else some r
  | .or a b, ρ, τ => (ev P a ρ τ).bind fun r => (truD r.1).bind fun c => if c then some r else ev P b ρ r.2
  | .one a, ρ, τ => ev P a ρ τ
  | .not a, ρ, τ => (ev P a ρ τ).bind fun r => (truD r.1).map fun c => (.bl (!c), r.2)
  | .ife c a b, ρ, τ => (evt P c ρ τ).bind fun r => if r.1 then ev P a ρ r.2 else ev P b ρ r.2
  | .tup es, ρ, τ => (evs P es ρ τ).bind fun r => if okT P.tk r.1 = true then some (.tup r.1, r.2) else none
  | .lst es, ρ, τ => (evs P es ρ τ).bind fun r => if r.1.length ≤ sizeLine then some (.lst r.1, r.2) else none
  | .idx a b, ρ, τ => (ev P a ρ τ).bind fun r => (ev P b ρ r.2).bind fun q => (ixD r.1 q.1).map fun d => (d, q.2)
  | .sl a lo hi, ρ, τ => (ev P a ρ τ).bind fun r => (evp P lo ρ r.2).bind fun q => (evp P hi ρ q.2).bind fun z => (slD P.tk q.1 z.1 r.1).map fun d => (d, z.2)
  | .rev a, ρ, τ => (ev P a ρ τ).bind fun r => (revD r.1).map fun d => (d, r.2)
  | .nope, _, _ => none
  | .call f es, ρ, τ => (evs P es ρ τ).bind fun r => P.G f r.1 r.2
  | .callT f i es, ρ, τ => match ρ[i]? with
    | some .tape => (evs P es ρ τ).bind fun r => P.G f r.1 r.2
    | _ => none
  | .blt b es, ρ, τ => (evs P es ρ τ).bind fun r => (bD P.tk b r.1).map fun d => (d, r.2)
  | .mth m a es, ρ, τ => (ev P a ρ τ).bind fun r => (evs P es ρ r.2).bind fun q => (mD m r.1 q.1).map fun d => (d, q.2)
  | .isi a t, ρ, τ => (ev P a ρ τ).map fun r => (.bl (tyIs r.1 t), r.2)
  | .isiT a ts, ρ, τ => (ev P a ρ τ).map fun r => (.bl (ts.any (tyIs r.1)), r.2)
  | .srt a, ρ, τ => (ev P a ρ τ).bind fun r => (srtD r.1).map fun d => (d, r.2)
  | .repl i j, ρ, τ => match ρ[i]?, ρ[j]? with
    | some (.d (.str t)), some (.d (.tup [.str w, .str x, .str y])) => if P.tk = true ∧ isMap [.str w, .str x, .str y] = true ∧ t.length + (t.length + 1) * y.length ≤ 16777216 ∧ x ≠ [] then some (.str (PySem.StrLaws.replL x y t), τ) else none
    | _, _ => none
  | .mapc x y, _, τ => if x ≠ y then some (.tup [.str mapW, .str x, .str y], τ) else none
  | .tget i k, ρ, τ => match ρ[i]? with
    | some .tape => some (.int (if k = 1 then τ.pos else τ.cur), τ)
    | _ => none
  | .tcell i a, ρ, τ => match ρ[i]? with
    | some .tape => (ev P a ρ τ).bind fun r => (intO r.1).bind fun n => if 0 ≤ n then (P.ns[n.toNat]?).map fun z => (.int z, r.2) else none
    | _ => none
  | .tlen i, ρ, τ => match ρ[i]? with
    | some .tape => some (.int P.ns.length, τ)
    | _ => none
  | .comp elt tg it c own, ρ, τ => (evi P it ρ τ).bind fun r => (compL (fun x τ1 => (bindT tg x (wipeE ρ own)).bind fun ρ1 => (evt P c ρ1 τ1).bind fun q => if q.1 then (ev P elt ρ1 q.2).map fun z => (some z.1, z.2) else some (none, q.2)) r.1 r.2).bind fun q =>
      if q.1.length ≤ sizeLine then some (.lst q.1, q.2) else none
  | .op o es, ρ, τ => (evs P es ρ τ).bind fun r => (opD P.tk o r.1).map fun d => (d, r.2)
  | .genl f es, ρ, τ => (evs P es ρ τ).bind fun r => (P.GG f r.1).bind fun ds => if ds.length ≤ 4000 then some (.lst ds, r.2) else none
  | .oix i e, ρ, τ => match ρ[i]? with
    | some (.ol xs) => (ev P e ρ τ).bind fun r => (intO r.1).bind fun n => (atI xs n).map fun d => (d, r.2)
    | _ => none
  | .olen i, ρ, τ => match ρ[i]? with
    | some (.ol xs) => some (.int xs.length, τ)
    | _ => none
/-- a part of a slice -/
def evp (P : Sg) : E → Env' → TS → Option (Option Int × TS)
  | .nope, _, τ => some (none, τ)
  | .int i, _, τ => some (some i, τ)
  | .var i, ρ, τ => match ρ[i]? with
    | some (.d (.int k)) => some (some k, τ)
    | _ => none
  | .neg a, ρ, τ => (ev P a ρ τ).bind fun r => (negD r.1).bind fun d => (intO d).map fun k => (some k, r.2)
  | .bin o a b, ρ, τ => (ev P a ρ τ).bind fun r => (ev P b ρ r.2).bind fun q => (binD P.tk o r.1 q.1).bind fun d => (intO d).map fun k => (some k, q.2)
  | .idx a b, ρ, τ => (ev P a ρ τ).bind fun r => (ev P b ρ r.2).bind fun q => (ixD r.1 q.1).bind fun d => (intO d).map fun k => (some k, q.2)
  | .blt b es, ρ, τ => (evs P es ρ τ).bind fun r => (bD P.tk b r.1).bind fun d => (intO d).map fun k => (some k, r.2)
  | _, _, _ => none
def evs (P : Sg) : Es → Env' → TS → Option (List D × TS)
  | .nil, _, τ => some ([], τ)
  | .cons e es, ρ, τ => (ev P e ρ τ).bind fun r => (evs P es ρ r.2).map fun q => (r.1 :: q.1, q.2)
  | .star e es, ρ, τ => (ev P e ρ τ).bind fun r => match r.1 with
    | .tup xs => (evs P es ρ r.2).map fun q => (xs ++ q.1, q.2)
    | .lst xs => (evs P es ρ r.2).map fun q => (xs ++ q.1, q.2)
    | _ => none
def evi (P : Sg) : I → Env' → TS → Option (List D × TS)
  | .data e, ρ, τ => (ev P e ρ τ).bind fun r => (itemsD r.1).map fun xs => (xs, r.2)
  | .rng1 a, ρ, τ => (ev P a ρ τ).bind fun r => (intO r.1).bind fun n => if small62 n then some (rangeD 0 n.toNat 1, r.2) else none
  | .rng2 a b, ρ, τ => (ev P a ρ τ).bind fun r => (ev P b ρ r.2).bind fun q => (intO r.1).bind fun m => (intO q.1).bind fun n => if small62 m && small62 n then some (rangeD m (n - m).toNat 1, q.2) else none
  | .rng3 a b c, ρ, τ => (ev P a ρ τ).bind fun r => (ev P b ρ r.2).bind fun q => (intO r.1).bind fun m => (intO q.1).bind fun n => if c ≠ 0 ∧ c.natAbs < 1073741824 ∧ Builtin.Range.small m n c = true ∧ 0 ≤ Builtin.Range.rangeSize m n c then some (rangeD m (Builtin.Range.rangeSize m n c).toNat c, q.2) else none
  | .enum a, ρ, τ => (ev P a ρ τ).bind fun r => (itemsD r.1).map fun xs => (enumD 0 xs, r.2)
  | .zip a b, ρ, τ => (ev P a ρ τ).bind fun r => (ev P b ρ r.2).bind fun q => match r.1, q.1 with
    | .str x, .str y => some (zipC x y, q.2)
    | _, _ => none
def evt (P : Sg) : Tt → Env' → TS → Option (Bool × TS)
  | .yes, _, τ => some (true, τ)
  | .val e, ρ, τ => (ev P e ρ τ).bind fun r => (truD r.1).map fun b => (b, r.2)
  | .and a b, ρ, τ => (evt P a ρ τ).bind fun r => if r.1 then evt P b ρ r.2 else some (false, r.2)
  | .or a b, ρ, τ => (evt P a ρ τ).bind fun r => if r.1 then some (true, r.2) else evt P b ρ r.2
  | .one a, ρ, τ => evt P a ρ τ
  | .not a, ρ, τ => (evt P a ρ τ).map fun r => (!r.1, r.2)
  | .cmp o a b, ρ, τ => (ev P a ρ τ).bind fun r => (ev P b ρ r.2).bind fun q => (cmpD o r.1 q.1).bind fun d => (truD d).map fun k => (k, q.2)
  | .chn o o' a b c, ρ, τ => (ev P a ρ τ).bind fun r => (ev P b ρ r.2).bind fun q => (cmpD o r.1 q.1).bind fun d => match d with
    | .bl true => (ev P c ρ q.2).bind fun z => (cmpD o' q.1 z.1).bind fun d => (truD d).map fun k => (k, z.2)
    | .bl false => some (false, q.2)
    | _ => none
  | .isN ng a, ρ, τ => (ev P a ρ τ).map fun r => (match r.1 with | .non => !ng | _ => ng, r.2)
  | .isB ng a b, ρ, τ => (ev P a ρ τ).bind fun r => match r.1 with
    | .bl c => some (if ng then !(c == b) else c == b, r.2)
    | _ => none
end

/-- how a statement ends -/
inductive Out where
  | nx (ρ : Env') (τ : TS) | bk (ρ : Env') (τ : TS) | ct (ρ : Env') (τ : TS) | rt (d : D) (τ : TS)
def Out.then (o : Out) (f : Env' → TS → Option Out) : Option Out :=
  match o with
  | .nx ρ τ => f ρ τ
  | _ => some o
def forL (f : D → Env' → TS → Option Out) : List D → Env' → TS → Option Out
  | [], ρ, τ => some (.nx ρ τ)
  | x :: xs, ρ, τ => (f x ρ τ).bind fun o => match o with
    | .nx ρ1 τ1 => forL f xs ρ1 τ1
    | .ct ρ1 τ1 => forL f xs ρ1 τ1
    | .bk ρ1 τ1 => some (.nx ρ1 τ1)
    | .rt d τ1 => some (.rt d τ1)
def whN (c : Env' → TS → Option (Bool × TS)) (f : Env' → TS → Option Out) : Nat → Env' → TS → Option Out
  | 0, _, _ => none
  | n + 1, ρ, τ => (c ρ τ).bind fun r => if r.1 then (f ρ r.2).bind fun o => match o with
    | .nx ρ1 τ1 => whN c f n ρ1 τ1
    | .ct ρ1 τ1 => whN c f n ρ1 τ1
    | .bk ρ1 τ1 => some (.nx ρ1 τ1)
    | .rt d τ1 => some (.rt d τ1)
    else some (.nx ρ r.2)
open Classical in
noncomputable def whL (c : Env' → TS → Option (Bool × TS)) (f : Env' → TS → Option Out) (ρ : Env') (τ : TS) : Option Out :=
  if h : ∃ n o, whN c f n ρ τ = some o then some (Classical.choose (Classical.choose_spec h)) else none
def setAll : List Nat → List D → Env' → Option Env'
  | [], [], ρ => some ρ
  | i :: is, x :: xs, ρ => setAll is xs (ρ.set i (.d x))
  | _, _, _ => none
mutual
noncomputable def evS (P : Sg) : S → Env' → TS → Option Out
  | .nop, ρ, τ => some (.nx ρ τ)
  | .exp e, ρ, τ => (ev P e ρ τ).map fun r => .nx ρ r.2
  | .ret e, ρ, τ => (ev P e ρ τ).map fun r => .rt r.1 r.2
  | .retN, ρ, τ => some (.rt .non τ)
  | .set i e, ρ, τ => (ev P e ρ τ).map fun r => .nx (ρ.set i (.d r.1)) r.2
  | .setO i e, ρ, τ => (ev P e ρ τ).bind fun r => match r.1 with
    | .lst xs => some (.nx (ρ.set i (.ol xs)) r.2)
    | _ => none
  | .par is es, ρ, τ => (evs P es ρ τ).bind fun r => (setAll is r.1 ρ).map fun ρ1 => .nx ρ1 r.2
  | .unp t e, ρ, τ => (ev P e ρ τ).bind fun r => (bindT t r.1 ρ).map fun ρ1 => .nx ρ1 r.2
  | .ife c a b, ρ, τ => (evt P c ρ τ).bind fun r => if r.1 then evB P a ρ r.2 else evB P b ρ r.2
  | .whl c b, ρ, τ => whL (evt P c) (evB P b) ρ τ
  | .fr tg it b, ρ, τ => (evi P it ρ τ).bind fun r => forL (fun x ρ1 τ1 => (bindT tg x ρ1).bind fun ρ2 => evB P b ρ2 τ1) r.1 ρ r.2
  | .app i e, ρ, τ => match ρ[i]? with
    | some (.ol xs) => (ev P e ρ τ).bind fun r => if xs.length < sizeLine then some (.nx (ρ.set i (.ol (xs ++ [r.1]))) r.2) else none
    | _ => none
  | .tset i k e, ρ, τ => match ρ[i]? with
    | some .tape => (ev P e ρ τ).bind fun r => (intO r.1).map fun n => .nx ρ (if k = 1 then ⟨n, r.2.cur⟩ else ⟨r.2.pos, n⟩)
    | _ => none
  | .brk, ρ, τ => some (.bk ρ τ)
  | .cnt, ρ, τ => some (.ct ρ τ)
  | .stuck, _, _ => none
  | .lset i k e, ρ, τ => match ρ[i]? with
    | some (.ol xs) => (ev P e ρ τ).bind fun r => (ev P k ρ r.2).bind fun q => (intO q.1).bind fun n => (ixN xs.length n).map fun j => .nx (ρ.set i (.ol (xs.set j r.1))) q.2
    | _ => none
  | .lpop i k, ρ, τ => match ρ[i]? with
    | some (.ol xs) => (ev P k ρ τ).bind fun q => (intO q.1).bind fun n => if 0 ≤ n ∧ n.toNat < xs.length then some (.nx (ρ.set i (.ol (xs.eraseIdx n.toNat))) q.2) else none
    | _ => none
  | .lins i k e, ρ, τ => match ρ[i]? with
    | some (.ol xs) => (ev P k ρ τ).bind fun q => (ev P e ρ q.2).bind fun r => (intO q.1).bind fun n => if 0 ≤ n ∧ n.toNat ≤ xs.length ∧ xs.length < sizeLine then some (.nx (ρ.set i (.ol (xs.take n.toNat ++ r.1 :: xs.drop n.toNat))) r.2) else none
    | _ => none
noncomputable def evB (P : Sg) : Ss → Env' → TS → Option Out
  | .nil, ρ, τ => some (.nx ρ τ)
  | .cons s ss, ρ, τ => (evS P s ρ τ).bind fun o => o.then fun ρ1 τ1 => evB P ss ρ1 τ1
  | .frz i ss, ρ, τ => match ρ[i]? with
    | some (.ol xs) => evB P ss (ρ.set i (.d (.lst xs))) τ
    | some (.d _) => evB P ss ρ τ
    | _ => none
end
def start' (n : Nat) (tp : Bool) (ds : List D) : Env' := let l := (if tp then [Slot.tape] else []) ++ ds.map Slot.d; l ++ List.replicate (n - l.length) .un
/-- a def's body on its arguments -/
noncomputable def runF (P : Sg) (n : Nat) (tp : Bool) (b : Ss) (ds : List D) (τ : TS) : Option (D × TS) :=
  (evB P b (start' n tp ds) τ).bind fun o => match o with
    | .nx _ τ1 => some (.non, τ1)
    | .rt d τ1 => some (d, τ1)
    | _ => none

/-! ### while -/
theorem whN_succ {c : Env' → TS → Option (Bool × TS)} {f : Env' → TS → Option Out} : ∀ {n : Nat} {ρ : Env'} {τ : TS} {o : Out}, whN c f n ρ τ = some o → whN c f (n + 1) ρ τ = some o
  | 0, _, _, _, h => by cases h
  | n + 1, ρ, τ, o, h => by
    rw [whN] at h ⊢
    cases e : c ρ τ with
    | none => rw [e] at h; cases h
    | some r =>
      rw [e] at h
      simp only [Option.bind_some] at h ⊢
      cases e1 : r.1 with
      | false => rw [e1] at h; exact h
      | true =>
        rw [e1] at h
        simp only [if_true] at h ⊢
        cases e2 : f ρ r.2 with
        | none => rw [e2] at h; cases h
        | some p =>
          rw [e2] at h
          simp only [Option.bind_some] at h ⊢
          cases p with
          | nx ρ1 τ1 => exact whN_succ h
          | ct ρ1 τ1 => exact whN_succ h
          | bk ρ1 τ1 => exact h
          | rt d τ1 => exact h
theorem whN_le {c : Env' → TS → Option (Bool × TS)} {f : Env' → TS → Option Out} {ρ : Env'} {τ : TS} {o : Out} {n m : Nat} (h : whN c f n ρ τ = some o) (le : n ≤ m) : whN c f m ρ τ = some o := by
  obtain ⟨k, rfl⟩ := Nat.exists_eq_add_of_le le
  induction k with
  | zero => exact h
  | succ k ih => exact whN_succ (ih (Nat.le_add_right _ _))
theorem whL_of {c : Env' → TS → Option (Bool × TS)} {f : Env' → TS → Option Out} {ρ : Env'} {τ : TS} {o : Out} {n : Nat} (h : whN c f n ρ τ = some o) : whL c f ρ τ = some o := by
  have ex : ∃ n o, whN c f n ρ τ = some o := ⟨n, o, h⟩
  unfold whL
  rw [dif_pos ex]
  have h1 := Classical.choose_spec (Classical.choose_spec ex)
  have a := whN_le h (Nat.le_max_left n (Classical.choose ex))
  have b := whN_le h1 (Nat.le_max_right n (Classical.choose ex))
  rw [a] at b
  exact b.symm
theorem whL_some {c : Env' → TS → Option (Bool × TS)} {f : Env' → TS → Option Out} {ρ : Env'} {τ : TS} {o : Out} (h : whL c f ρ τ = some o) : ∃ n, whN c f n ρ τ = some o := by
  unfold whL at h
  split at h
  · rename_i ex
    have h1 := Classical.choose_spec (Classical.choose_spec ex)
    cases h
    exact ⟨_, h1⟩
  · cases h
/-- the last turn of a while -/
theorem whL_stop {c : Env' → TS → Option (Bool × TS)} {f : Env' → TS → Option Out} {ρ : Env'} {τ τ1 : TS} (h : c ρ τ = some (false, τ1)) : whL c f ρ τ = some (.nx ρ τ1) := whL_of (n := 1) (by rw [whN, h]; rfl)
theorem whL_go {c : Env' → TS → Option (Bool × TS)} {f : Env' → TS → Option Out} {ρ ρ1 : Env'} {τ τ1 τ2 : TS} {o : Out} (h : c ρ τ = some (true, τ1)) (h1 : f ρ τ1 = some (.nx ρ1 τ2)) (h2 : whL c f ρ1 τ2 = some o) : whL c f ρ τ = some o := by
  obtain ⟨n, e⟩ := whL_some h2
  refine whL_of (n := n + 1) ?_
  rw [whN, h]
  simp only [Option.bind_some, if_true]
  rw [h1]
  exact e
end PD

set_option Elab.async false
set_option linter.all false
set_option maxRecDepth 100000
set_option maxHeartbeats 1000000
/-! The small language against the program's text: the check, and what a checked text does. -/
namespace PD
open PySem L2

/-- names: the frame's by slot; the defs that are called, by number, with whether they take the tape; the constants -/
structure Nm where
  N : List Str
  fns : List (Str × Bool)
  csts : List Str
  gens : List Str

/-! ### the check -/
def visB (sc : Scope) (x : Str) : Bool := match sc.names.lookup x with
  | some .local => true
  | some .cell => true
  | some .free => true
  | _ => false
/-- may be stored; in a comprehension (b): a name of its own that is no cell -/
def locB (b : Bool) (sc : Scope) (x : Str) : Bool := match sc.names.lookup x with
  | some .local => true
  | some .cell => !b
  | _ => false
def glB (sc : Scope) (x : Str) : Bool := match sc.names.lookup x with
  | some .globalImplicit => true
  | _ => false
def okN (x : Str) : Bool := !(x == ("__debug__" : Str)) && !(x == ("__classdict__" : Str)) && !(x == ("__name__" : Str))
def notStar : Expr → Bool
  | .Starred _ _ => false
  | _ => true
def noStars (es : List Expr) : Bool := es.all notStar
def noSuper : Expr → Bool
  | .Call (.Name _ _) [] [] _ => false
  | _ => true
def notSet : Expr → Bool
  | .Set _ _ _ => false
  | _ => true
def plainIxB : Expr → Bool
  | .Slice _ _ _ _ => false
  | _ => true
def bN : B → Str
  | .len => "len" | .int => "int" | .max => "max" | .min => "min" | .list => "list" | .tuple => "tuple" | .str => "str" | .all => "all" | .any => "any"
def mN : M → Str
  | .join => "join" | .lower => "lower" | .upper => "upper" | .starts => "startswith" | .ends => "endswith" | .strip => "strip" | .split => "split"
def opEq : Operator → Operator → Bool
  | .Add, .Add => true | .Sub, .Sub => true | .Mult, .Mult => true | .Mod, .Mod => true | .FloorDiv, .FloorDiv => true | .Pow, .Pow => true
  | _, _ => false
def cmEq : CmpOp → CmpOp → Bool
  | .Eq, .Eq => true | .NotEq, .NotEq => true | .Lt, .Lt => true | .LtE, .LtE => true | .Gt, .Gt => true | .GtE, .GtE => true | .In, .In => true | .NotIn, .NotIn => true
  | _, _ => false
def slotsT : T → List Nat
  | .nm i => [i]
  | .nil => []
  | .cons t ts => slotsT t ++ slotsT ts
def tyN : Ty → Str
  | .int => "int" | .bool => "bool" | .str => "str" | .list => "list" | .tuple => "tuple"
/-- names of built-in classes -/
def chkTys (sc : Scope) : List Ty → List Expr → Bool
  | [], l => l.isEmpty
  | t :: ts, l => (match l with
    | .Name x _ :: r => decide (x = tyN t) && glB sc x && chkTys sc ts r
    | _ => false)
def isNope : E → Bool
  | .nope => true
  | _ => false
def isYes : Tt → Bool
  | .yes => true
  | _ => false
def isTupE : Expr → Bool
  | .Tuple _ _ _ => true
  | _ => false
def chkTg (nm : Nm) (b : Bool) (sc : Scope) (t : T) (z : Expr) : Bool := match t with
  | .nm i => (match z with
    | .Name x _ => decide (nm.N[i]? = some x) && locB b sc x
    | _ => false)
  | .nil => (match z with
    | .Tuple [] _ _ => true
    | _ => false)
  | .cons t ts => (match z with
    | .Tuple (e :: es) k p => notStar e && chkTg nm b sc t e && chkTg nm b sc ts (.Tuple es k p)
    | _ => false)
/-- a test that is the truth of a value -/
def plainT : Expr → Bool
  | .BoolOp _ _ _ => false
  | .UnaryOp .Not _ _ => false
  | .IfExp _ _ _ _ => false
  | .Compare _ _ _ _ => false
  | _ => true
def isCmp : Expr → Bool
  | .Compare _ _ _ _ => true
  | _ => false
/-- the parts of a further form -/
def opArgs : Op → Expr → Option Expr
  | .fstr a b, .JoinedStr [.Constant (.str x) _ _, .FormattedValue e (-1) none _, .Constant (.str y) _ _] _ => if x = tx a ∧ y = tx b then some e else none
  | _, _ => none
mutual
def chkE (nm : Nm) (sc : Scope) (e : E) (z : Expr) : Bool := match e with
  | .var i => (match z with
    | .Name x _ => decide (nm.N[i]? = some x) && visB sc x && okN x
    | _ => false)
  | .int i => (match z with
    | .Constant (.int j) _ _ => i == j
    | _ => false)
  | .bl b => (match z with
    | .Constant (.bool c) _ _ => b == c
    | _ => false)
  | .non => (match z with
    | .Constant .none _ _ => true
    | _ => false)
  | .str s => (match z with
    | .Constant (.str x) _ _ => x.cps.toList == s
    | _ => false)
  | .bin o a b => (match z with
    | .BinOp x p y _ => opEq o p && chkE nm sc a x && chkE nm sc b y
    | _ => false)
  | .neg a => (match z with
    | .UnaryOp .USub x _ => chkE nm sc a x
    | _ => false)
  | .cmp o a b => (match z with
    | .Compare x [p] [y] _ => cmEq o p && notSet y && chkE nm sc a x && chkE nm sc b y
    | _ => false)
  | .chn o o' a b c => (match z with
    | .Compare x [p, p'] [y, z] _ => cmEq o p && cmEq o' p' && notSet y && notSet z && chkE nm sc a x && chkE nm sc b y && chkE nm sc c z
    | _ => false)
  | .isN ng a => (match z with
    | .Compare x [.Is] [.Constant .none _ _] _ => !ng && chkE nm sc a x
    | .Compare x [.IsNot] [.Constant .none _ _] _ => ng && chkE nm sc a x
    | _ => false)
  | .isB ng a b => (match z with
    | .Compare x [.Is] [.Constant (.bool c) _ _] _ => !ng && b == c && chkE nm sc a x
    | .Compare x [.IsNot] [.Constant (.bool c) _ _] _ => ng && b == c && chkE nm sc a x
    | _ => false)
  | .and a b => (match z with
    | .BoolOp .And (x :: y :: r) p => chkE nm sc a x && chkE nm sc b (.BoolOp .And (y :: r) p)
    | _ => false)
  | .or a b => (match z with
    | .BoolOp .Or (x :: y :: r) p => chkE nm sc a x && chkE nm sc b (.BoolOp .Or (y :: r) p)
    | _ => false)
  | .one a => (match z with
    | .BoolOp _ [x] _ => chkE nm sc a x
    | _ => false)
  | .not a => (match z with
    | .UnaryOp .Not x _ => chkE nm sc a x
    | _ => false)
  | .ife c a b => (match z with
    | .IfExp z x y _ => chkT nm sc c z && chkE nm sc a x && chkE nm sc b y
    | _ => false)
  | .tup es => (match z with
    | .Tuple xs _ _ => chkA nm sc es xs
    | _ => false)
  | .lst es => (match z with
    | .List xs _ => chkA nm sc es xs
    | _ => false)
  | .idx a b => (match z with
    | .Subscript x y _ => plainIxB y && chkE nm sc a x && chkE nm sc b y
    | _ => false)
  | .sl a lo hi => (match z with
    | .Subscript x (.Slice l h none _) _ => chkE nm sc a x && (match l with | none => isNope lo | some y => chkE nm sc lo y) && (match h with | none => isNope hi | some y => chkE nm sc hi y)
    | _ => false)
  | .rev a => (match z with
    | .Subscript x (.Slice none none (some (.UnaryOp .USub (.Constant (.int 1) _ _) _)) _) _ => chkE nm sc a x
    | _ => false)
  | .call f es => (match z with
    | .Call (.Name x _) (y :: ys) [] _ => decide (nm.fns[f]? = some (x, false)) && glB sc x && okN x && noStars (y :: ys) && chkA nm sc es (y :: ys)
    | _ => false)
  | .callT f i es => (match z with
    | .Call (.Name x _) (.Name t _ :: ys) [] _ => decide (nm.fns[f]? = some (x, true)) && glB sc x && okN x && decide (nm.N[i]? = some t) && visB sc t && okN t && noStars ys && chkA nm sc es ys
    | _ => false)
  | .blt b es => (match z with
    | .Call (.Name x _) (y :: ys) [] _ => decide (x = bN b) && glB sc x && noStars (y :: ys) && chkA nm sc es (y :: ys)
    | _ => false)
  | .mth m a es => (match z with
    | .Call (.Attribute o n ap) [] [] cp => decide (n = mN m) && noSuper o && (ap.endLine == cp.line) && chkE nm sc a o && chkA nm sc es []
    | .Call (.Attribute o n ap) (y :: ys) [] cp => decide (n = mN m) && noSuper o && (ap.endLine == cp.line) && decide (ys.length < 20) && noStars (y :: ys) && chkE nm sc a o && chkA nm sc es (y :: ys)
    | _ => false)
  | .cst k => (match z with
    | .Name x _ => decide (nm.csts[k]? = some x) && glB sc x && okN x
    | _ => false)
  | .isi a t => (match z with
    | .Call (.Name f _) [x, .Name y _] [] _ => decide (f = ("isinstance" : Str)) && glB sc f && notStar x && chkE nm sc a x && decide (y = tyN t) && glB sc y
    | _ => false)
  | .isiT a ts => (match z with
    | .Call (.Name f _) [x, .Tuple l _ _] [] _ => decide (f = ("isinstance" : Str)) && glB sc f && notStar x && chkE nm sc a x && decide (l.length ≤ 10) && chkTys sc ts l
    | _ => false)
  | .srt a => (match z with
    | .Call (.Name f _) [.Call (.Name g _) [x] [] _] [] _ => decide (f = ("sorted" : Str)) && decide (g = ("set" : Str)) && glB sc f && glB sc g && notStar x && chkE nm sc a x
    | _ => false)
  | .repl i j => (match z with
    | .Call (.Attribute (.Name t _) n ap) [.Subscript (.Name s _) (.Constant (.int k) _ _) _, .Subscript (.Name s' _) (.Constant (.int l) _ _) _] [] cp => decide (n = ("replace" : Str)) && (ap.endLine == cp.line) && decide (nm.N[i]? = some t) && decide (nm.N[j]? = some s) && decide (s' = s) && decide (k = 1) && decide (l = 2) && visB sc t && visB sc s && okN t && okN s
    | _ => false)
  | .mapc x y => (match z with
    | .Tuple [.Constant (.str w) _ _, .Constant (.str a) _ _, .Constant (.str b) _ _] _ _ => (w.cps.toList == mapW) && (a.cps.toList == x) && (b.cps.toList == y)
    | _ => false)
  | .tget i k => (match z with
    | .Subscript (.Name x _) (.Constant (.int j) _ _) _ => decide (nm.N[i]? = some x) && visB sc x && okN x && decide (j = (k : Int)) && decide (k = 1 ∨ k = 2)
    | _ => false)
  | .tcell i a => (match z with
    | .Subscript (.Subscript (.Name x _) (.Constant (.int j) _ _) _) y _ => decide (nm.N[i]? = some x) && visB sc x && okN x && decide (j = 0) && plainIxB y && chkE nm sc a y
    | _ => false)
  | .tlen i => (match z with
    | .Call (.Name f _) [.Subscript (.Name x _) (.Constant (.int j) _ _) _] [] _ => decide (f = ("len" : Str)) && glB sc f && decide (nm.N[i]? = some x) && visB sc x && okN x && decide (j = 0)
    | _ => false)
  | .comp elt tg it c own => (match z with
    | .ListComp x [⟨t, iter, ifs, 0⟩] scope _ => notSet iter && (slotsT tg).all (fun i => decide (i ∈ own)) && blkC nm.N sc scope (own.map fun i => (nm.N.getD i "", i)) && chkI nm sc it t iter && chkTg nm true (relS scope sc) tg t && (match ifs with | [] => isYes c | [y] => chkT nm (relS scope sc) c y | _ => false) && chkE nm (relS scope sc) elt x
    | _ => false)
  | .op o es => (match opArgs o z with
    | some x => (match es with
      | .cons e .nil => chkE nm sc e x
      | _ => false)
    | none => false)
  | .genl f es => (match z with
    | .Call (.Name l _) [.Call (.Name x _) (y :: ys) [] _] [] _ => decide (l = ("list" : Str)) && glB sc l && decide (nm.gens[f]? = some x) && glB sc x && okN x && noStars (y :: ys) && chkA nm sc es (y :: ys)
    | _ => false)
  | .oix i e => (match z with
    | .Subscript (.Name x _) y _ => decide (nm.N[i]? = some x) && visB sc x && okN x && plainIxB y && chkE nm sc e y
    | _ => false)
  | .olen i => (match z with
    | .Call (.Name f _) [.Name x _] [] _ => decide (f = ("len" : Str)) && glB sc f && decide (nm.N[i]? = some x) && visB sc x && okN x
    | _ => false)
  | _ => false
def chkA (nm : Nm) (sc : Scope) (es : Es) (l : List Expr) : Bool := match es with
  | .nil => l.isEmpty
  | .cons e es => (match l with
    | x :: xs => notStar x && chkE nm sc e x && chkA nm sc es xs
    | [] => false)
  | .star e es => (match l with
    | .Starred x _ :: xs => chkE nm sc e x && chkA nm sc es xs
    | _ => false)
def chkI (nm : Nm) (sc : Scope) (it : I) (t x : Expr) : Bool := match it with
  | .data e => chkE nm sc e x
  | .rng1 a => (match x with
    | .Call (.Name x _) [y] [] _ => decide (x = ("range" : Str)) && glB sc x && notStar y && chkE nm sc a y
    | _ => false)
  | .rng2 a b => (match x with
    | .Call (.Name x _) [y, z] [] _ => decide (x = ("range" : Str)) && glB sc x && notStar y && notStar z && chkE nm sc a y && chkE nm sc b z
    | _ => false)
  | .rng3 a b c => (match x with
    | .Call (.Name x _) [y, z, .Constant (.int d) _ _] [] _ => decide (x = ("range" : Str)) && glB sc x && notStar y && notStar z && decide (d = c) && chkE nm sc a y && chkE nm sc b z
    | _ => false)
  | .enum a => (match x with
    | .Call (.Name x _) [y] [] _ => isTupE t && decide (x = ("enumerate" : Str)) && glB sc x && notStar y && chkE nm sc a y
    | _ => false)
  | .zip a b => (match x with
    | .Call (.Name x _) [y, z] [] _ => isTupE t && decide (x = ("zip" : Str)) && glB sc x && notStar y && notStar z && chkE nm sc a y && chkE nm sc b z
    | _ => false)
def chkT (nm : Nm) (sc : Scope) (c : Tt) (z : Expr) : Bool := match c with
  | .yes => false
  | .val e => plainT z && chkE nm sc e z
  | .cmp o a b => (match z with
    | .Compare x [p] [y] _ => cmEq o p && notSet y && chkE nm sc a x && chkE nm sc b y
    | _ => false)
  | .chn o o' a b c => (match z with
    | .Compare x [p, p'] [y, z] _ => cmEq o p && cmEq o' p' && notSet y && notSet z && chkE nm sc a x && chkE nm sc b y && chkE nm sc c z
    | _ => false)
  | .isN ng a => (match z with
    | .Compare x [.Is] [.Constant .none _ _] _ => !ng && chkE nm sc a x
    | .Compare x [.IsNot] [.Constant .none _ _] _ => ng && chkE nm sc a x
    | _ => false)
  | .isB ng a b => (match z with
    | .Compare x [.Is] [.Constant (.bool c) _ _] _ => !ng && b == c && chkE nm sc a x
    | .Compare x [.IsNot] [.Constant (.bool c) _ _] _ => ng && b == c && chkE nm sc a x
    | _ => false)
  | .and a b => (match z with
    | .BoolOp .And (x :: y :: r) p => chkT nm sc a x && chkT nm sc b (.BoolOp .And (y :: r) p)
    | _ => false)
  | .or a b => (match z with
    | .BoolOp .Or (x :: y :: r) p => chkT nm sc a x && chkT nm sc b (.BoolOp .Or (y :: r) p)
    | _ => false)
  | .one a => (match z with
    | .BoolOp _ [x] _ => chkT nm sc a x
    | _ => false)
  | .not a => (match z with
    | .UnaryOp .Not x _ => chkT nm sc a x
    | _ => false)
end
end PD

set_option Elab.async false
set_option linter.all false
set_option maxRecDepth 100000
set_option maxHeartbeats 1000000
/-! What a checked expression does. -/
namespace PD
open PySem L2

theorem pe_imp {X : Cx} {e : Expr} {t t' : TE} (h : PE X e t) (f : ∀ σ H Q, t' σ H Q → t σ H Q) : PE X e t' := ⟨fun pins s σ H Q I q => h.run pins s σ H Q I (f σ H Q q)⟩
theorem pt_imp {X : Cx} {e : Expr} {t t' : TT} (h : PT X e t) (f : ∀ σ H Q, t' σ H Q → t σ H Q) : PT X e t' := ⟨fun pins s σ H Q I q => h.run pins s σ H Q I (f σ H Q q)⟩
theorem pw_imp {X : Cx} {e : Expr} {t t' : TT} (h : PW X e t) (f : ∀ σ H Q, t' σ H Q → t σ H Q) : PW X e t' := ⟨fun wh pins s σ H Q I q => h.run wh pins s σ H Q I (f σ H Q q)⟩
theorem pts_imp {X : Cx} {es : List Expr} {t t' : TT} (h : PTs X es t) (f : ∀ σ H Q, t' σ H Q → t σ H Q) : PTs X es t' := ⟨fun pins s σ H Q I q => h.run pins s σ H Q I (f σ H Q q)⟩
theorem pa_imp {X : Cx} {es : List Expr} {t t' : TA} (h : PA X es t) (f : ∀ σ H Q, t' σ H Q → t σ H Q) : PA X es t' := ⟨fun pos pins s σ H Q I q => h.run pos pins s σ H Q I (f σ H Q q)⟩
theorem pi_imp {X : Cx} {tg e : Expr} {t t' : TI} (h : PI X tg e t) (f : ∀ σ H Q, t' σ H Q → t σ H Q) : PI X tg e t' := ⟨fun pins s σ H Q I q => h.run pins s σ H Q I (f σ H Q q)⟩
theorem pg_imp {X : Cx} {e : Expr} {t t' : TG} (h : PG X e t) (f : ∀ v σ H Q, t' v σ H Q → t v σ H Q) : PG X e t' := ⟨fun pins s σ H v u Q I r q => h.run pins s σ H v u Q I r (f v σ H Q q)⟩

/-- what a def promises -/
def spD (C : Con) (tp : Bool) (ar : Nat) (g : List Int → List D → TS → Option (D × TS)) : Sp := fun vs H Q _ =>
  ∃ (W : TW) (F : Hp) (us : List V) (ds : List D) (τ : TS) (d : D) (τ' : TS), vs = (if tp then [V.ref W.tp] else []) ++ us ∧ ds.length = ar ∧ RA C F us ds ∧ Sub F H ∧ TapeAt W F H τ ∧ g W.ns ds τ = some (d, τ') ∧
    ∀ v F' H', Ext W.tp F H F' H' → TapeAt W F' H' τ' → R C F' v d → Q v H'
/-- a def called by the name x -/
def FnAt (X : Cx) (C : Con) (ns : List Int) (x : Str) (tp : Bool) (g : List D → TS → Option (D × TS)) : Prop :=
  ∃ (k : Nat) (fa : Addr) (fd : FuncData) (ps : List Str) (ar : Nat) (G : List Int → List D → TS → Option (D × TS)), G ns = g ∧ Room k X.A ∧ FnOk X.prog X.w X.K X.mg X.base CX0 k fa fd ps (spD C tp ar G) ∧
    X.mg x = some (.ref fa) ∧ PySem.W.keepIn X.K (.ref fa) = true ∧ Binds X.K fd ps [] ∧ ∀ ds τ r, g ds τ = some r → ds.length = ar
/-- what a generator def promises: all that it hands out -/
def spG (C : Con) (ar : Nat) (g : List Int → List D → Option (List D)) : SpG := fun vs H Q E =>
  ∃ (W : TW) (F : Hp) (ds : List D) (τ : TS) (os : List D), ds.length = ar ∧ RA C F vs ds ∧ Sub F H ∧ TapeAt W F H τ ∧ g W.ns ds = some os ∧ os.length ≤ 4000 ∧ E = E0 ∧
    ∀ us F' H', Ext W.tp F H F' H' → TapeAt W F' H' τ → RA C F' us os → Q us H'
def GenAt (X : Cx) (C : Con) (ns : List Int) (x : Str) (g : List D → Option (List D)) : Prop :=
  ∃ (k : Nat) (fa : Addr) (fd : FuncData) (ps : List Str) (ar : Nat) (G : List Int → List D → Option (List D)), G ns = g ∧ Room (k + 3) X.A ∧ GFn X.prog X.w X.K X.mg X.base k fa fd ps (spG C ar G) ∧
    X.mg x = some (.ref fa) ∧ PySem.W.keepIn X.K (.ref fa) = true ∧ Binds X.K fd ps [] ∧ ∀ ds r, g ds = some r → ds.length = ar
structure Good (nm : Nm) (P : Sg) (C : Con) (W : TW) (b : Bool) (X : Cx) : Prop where
  calm : X.calm = true
  hN : X.N = nm.N
  nd : X.N.Nodup
  hK : C.K = X.K
  tk : P.tk = C.tk
  pns : P.ns = W.ns
  xe : PySem.PassesOwn (model X.prog X.w) X.A X.env X.xe
  units : X.A.units + 65 < cLine
  fnc : b = false → ∀ x, X.env.scope.names.lookup x = some .cell → X.fn x = true
  blt : ∀ b : B, X.mg (bN b) = none
  rng : X.mg "range" = none
  isn : X.mg "isinstance" = none
  bool : X.mg "bool" = none
  oth : ∀ x ∈ (["sorted", "set", "enumerate", "zip"] : List Str), X.mg x = none
  cst : ∀ (k : Nat) (x : Str) (d : D), nm.csts[k]? = some x → P.cs[k]? = some d → ∃ v u, X.mg x = some u ∧ RelV v u ∧ ∀ F, R C F v d
  fns : ∀ f x tp, nm.fns[f]? = some (x, tp) → FnAt X C W.ns x tp (P.G f)
  gen : ∀ f x, nm.gens[f]? = some x → GenAt X C W.ns x (P.GG f)

section
variable (P : Sg) (C : Con) (W : TW)
def RdE (e : E) : TE := fun σ H Q => ∃ F0 H0 F ρ τ d τ', Rel C W F0 H0 F H σ ρ τ ∧ ev P e ρ τ = some (d, τ') ∧ ∀ v F' H', Ext W.tp F H F' H' → Rel C W F0 H0 F' H' σ ρ τ' → R C F' v d → Q v H'
def RdA (es : Es) : TA := fun σ H Q => ∃ F0 H0 F ρ τ ds τ', Rel C W F0 H0 F H σ ρ τ ∧ evs P es ρ τ = some (ds, τ') ∧ ∀ vs F' H', Ext W.tp F H F' H' → Rel C W F0 H0 F' H' σ ρ τ' → RA C F' vs ds → Q vs H'
def RdT (c : Tt) : TT := fun σ H Q => ∃ F0 H0 F ρ τ b τ', Rel C W F0 H0 F H σ ρ τ ∧ evt P c ρ τ = some (b, τ') ∧ ∀ F' H', Ext W.tp F H F' H' → Rel C W F0 H0 F' H' σ ρ τ' → Q b H'
def RdP (e : E) : TO := fun σ H Q => ∃ F0 H0 F ρ τ o τ', Rel C W F0 H0 F H σ ρ τ ∧ evp P e ρ τ = some (o, τ') ∧ ∀ F' H', Ext W.tp F H F' H' → Rel C W F0 H0 F' H' σ ρ τ' → Q o H'
/-- J walks xs, over what F tells -/
structure Wk (J : It) (F : Hp) (xs : List D) : Prop where
  stop : ∀ F' H, Sub F F' → Sub F' H → J.stop xs.length H
  go : ∀ i F' H, Sub F F' → Sub F' H → i < xs.length → J.go i H
  yld : ∀ i F1 H x H', Sub F F1 → Sub F1 H → i < xs.length → J.yld i H x H' → ∃ d F2, xs[i]? = some d ∧ ExtP F1 H F2 H' ∧ R C F2 x d
def RdI (it : I) : TI := fun σ H Rr => ∃ F0 H0 F ρ τ xs τ', Rel C W F0 H0 F H σ ρ τ ∧ evi P it ρ τ = some (xs, τ') ∧ ∀ J F' H', Ext W.tp F H F' H' → Rel C W F0 H0 F' H' σ ρ τ' → Wk C J F' xs → Rr J H'
/-- a target takes a value -/
def RdG (t : T) : TG := fun v σ H Q => ∃ F0 H0 F ρ τ x ρ', Rel C W F0 H0 F H σ ρ τ ∧ R C F v x ∧ bindT t x ρ = some ρ' ∧ ∀ σ', Rel C W F0 H0 F H σ' ρ' τ → (∀ own : List Nat, (∀ i ∈ slotsT t, i ∈ own) → wipe σ' own = wipe σ own) → Q σ' H
end

/-! ### small facts of the check -/
theorem vis_of {sc : Scope} {x : Str} (h : visB sc x = true) : sc.names.lookup x = some .local ∨ sc.names.lookup x = some .cell ∨ sc.names.lookup x = some .free := by
  unfold visB at h
  split at h
  · rename_i q; exact .inl q
  · rename_i q; exact .inr (.inl q)
  · rename_i q; exact .inr (.inr q)
  · cases h
theorem loc_of {b : Bool} {sc : Scope} {x : Str} (h : locB b sc x = true) : sc.names.lookup x = some .local ∨ (sc.names.lookup x = some .cell ∧ b = false) := by
  unfold locB at h
  split at h
  · rename_i q; exact .inl q
  · rename_i q; exact .inr ⟨q, (Bool.not_eq_true' _).mp h⟩
  · cases h
theorem gl_of {X : Cx} {x : Str} (h : glB X.env.scope x = true) : Gl X x := by
  unfold glB at h
  split at h
  · rename_i q; exact q
  · cases h
theorem okN_of {x : Str} (h : okN x = true) : (x == ("__debug__" : Str)) = false ∧ (x == ("__classdict__" : Str)) = false ∧ x ≠ ("__name__" : Str) := by
  unfold okN at h
  simp only [Bool.and_eq_true, Bool.not_eq_true'] at h
  exact ⟨h.1.1, h.1.2, fun e => by rw [e] at h; simp at h⟩
theorem star_of {e : Expr} {es : List Expr} {env : Env} (h : notStar e = true) : starEach (e :: es) env = (false, eval e env) :: starEach es env := by
  cases e <;> first | rfl | cases h
theorem stars_of {env : Env} {pos : Pos} : ∀ {es : List Expr}, noStars es = true → (backTo pos (starEach es env)).any (·.1) = false
  | [], _ => rfl
  | e :: es, h => by
    unfold noStars at h
    simp only [List.all_cons, Bool.and_eq_true] at h
    have ih := stars_of (env := env) (pos := pos) (es := es) h.2
    have e1 : starEach (e :: es) env = (false, eval e env) :: starEach es env := star_of h.1
    have e2 : (backTo pos (starEach (e :: es) env)).any (·.1) = (starEach (e :: es) env).any (·.1) := by
      unfold backTo
      rw [List.any_map]; rfl
    have e3 : (backTo pos (starEach es env)).any (·.1) = (starEach es env).any (·.1) := by
      unfold backTo
      rw [List.any_map]; rfl
    rw [e3] at ih
    rw [e2, e1, List.any_cons, ih]
    rfl
theorem base_of {o : Expr} {m : Str} {env : Env} (h : noSuper o = true) : attributeBase o m env (eval o env) = eval o env := by
  cases o with
  | Call f args kws pos =>
    cases f <;> first
      | rfl
      | (cases args with
        | nil => (cases kws with
          | nil => cases h
          | cons _ _ => rfl)
        | cons _ _ => rfl)
  | _ => rfl
theorem fold_of {iter : Expr} {env : Env} (h : notSet iter = true) : ∀ x, foldedSetIterable iter env x = pure x := by
  intro x
  cases iter <;> first | rfl | cases h
theorem behind_of {op : CmpOp} {b : Expr} (h : notSet b = true) : behindInMarks op b = false := by
  cases b <;> first | rfl | cases h
theorem plainIx_of {b : Expr} (h : plainIxB b = true) : PlainIx b := by
  intro o i
  cases b <;> first | rfl | cases h
theorem truth_of {e : Expr} {env : Env} (h : plainT e = true) : ∀ whole, PySem.isTrue e env whole = (do let v ← whole; standAt e.pos; holding [v] (truthy v)) := by
  intro whole
  cases e with
  | UnaryOp op a p => cases op <;> first | rfl | cases h
  | BoolOp _ _ _ => cases h
  | IfExp _ _ _ _ => cases h
  | Compare _ _ _ _ => cases h
  | _ => rfl
end PD

set_option Elab.async false
set_option linter.all false
set_option maxRecDepth 100000
set_option maxHeartbeats 4000000
/-! enumerate over texts, tuples, lists. -/
namespace PD
open PySem L2 PySem.Spec PyProof.Rows

theorem meets_enum1B {v : Value} {o : Obj} {H : Heap → Prop} (B : Begins v o H) :
    Meets (Builtin.«enumerate.__new__» ⟨[.type "enumerate", v], []⟩) (fun _ R s => H s.heap ∧
      R (.ok (.ret (.ref (s.heap.push o).objs.size))) { s with heap := (s.heap.push o).push { cls := .type "enumerate", data := .fields #[.none, .bool false, .ref s.heap.objs.size, rawInt 0, .none, .none] } }) :=
  .of_wp fun prog w A R s h => by
    obtain ⟨hp, g, d, tk, os⟩ := s; obtain ⟨h1, h⟩ := h
    have hsub := sub_enumerate
    have q1 : ∀ {A' : Around} {E : Value → Shared → Prop} {Q : Value → Shared → Prop}, Q (.ref hp.objs.size) ⟨hp.push o, g, d, tk, os⟩ → wpAny (model prog w) A' (pyIter v) Q E ⟨hp, g, d, tk, os⟩ :=
      fun q => B.iter prog w _ _ ⟨hp, g, d, tk, os⟩ _ h1 q
    wp_walk using q1
    refine wpAny_stack_any fun st => wpAny_pure ?_
    split
    · rename_i c _ _ _ _ _
      cases (c == Value.type "enumerate")
      · wp_walk using q1
        exact ⟨_, rfl, h⟩
      · wp_walk using q1
        exact ⟨_, rfl, h⟩
    · wp_walk using q1
      exact ⟨_, rfl, h⟩
theorem enum1_begins {prog : Program} {w : World} {A : Around} {E : Value → Shared → Prop} {s : Shared} {v : Value} {o : Obj} {H : Heap → Prop} {Q : Value → Shared → Prop} (B : Begins v o H) (h1 : H s.heap)
    (h : ∀ h', IsEnum h' (s.heap.objs.size + 1) s.heap.objs.size 0 .none → h'.get? s.heap.objs.size = some o → h'.objs.size = s.heap.objs.size + 2 →
      (∀ b o, s.heap.get? b = some o → h'.get? b = some o) → Q (.ref (s.heap.objs.size + 1)) { s with heap := h' }) :
    wpAny (model prog w) A (call (.type "enumerate") [v]) Q E s := by
  refine callType_new F.called_enumerate (by decide) (F.typeCall_enumerate_1 _) (F.newCall_enumerate_1 _) (fun obj => F.args_object_init_2 obj _) F.entry_enumerate_new
    (meets_enum1B B) ⟨h1, ?_⟩
  have hz : (s.heap.push o).objs.size = s.heap.objs.size + 1 := Heap.size_push ..
  show _ ∧ _
  rw [hz]
  have he : IsEnum ((s.heap.push o).push { cls := .type "enumerate", data := .fields #[.none, .bool false, .ref s.heap.objs.size, rawInt 0, .none, .none] }) (s.heap.objs.size + 1) s.heap.objs.size 0 .none := by
    have := Heap.get?_push_size (s.heap.push o) (o := { cls := .type "enumerate", data := .fields #[.none, .bool false, .ref s.heap.objs.size, rawInt 0, .none, .none] }) rfl
    rw [hz] at this; exact this
  exact ⟨⟨_, he, rfl⟩, h _ he (Heap.get?_push_of_some _ (Heap.get?_push_size _ B.free)) (by rw [Heap.size_push, hz]) fun b o x => Heap.get?_push_of_some _ (Heap.get?_push_of_some _ x)⟩

/-- pairs of the number and what itm tells -/
def Ieg (go stop : Nat → Hp → Prop) (itm : Nat → Hp → V → Prop) : It :=
  ⟨go, fun i H v H' => ∃ T x, v = .ref T ∧ H T = none ∧ H' = upd H T (.tup [.int (i : Nat), x]) ∧ itm i H x, stop⟩
/-- what is walked by an iterator at it -/
structure Src (P : Program) (w : World) (K : PySem.W.Frag) (it : Addr) (go stop : Nat → Hp → Prop) (itm : Nat → Hp → V → Prop) (ist : Nat → Heap → Prop) : Prop where
  obj : ∀ i h, ist i h → ∃ o, h.get? it = some o ∧ ∀ v, o.data ≠ .cell v
  keep : ∀ i h h', ist i h → (∀ o, h.get? it = some o → h'.get? it = some o) → ist i h'
  draw : ∀ (X : Cx), X.prog = P → X.w = w → X.K = K → X.calm = true → ∀ (i : Nat) (pins : List (Addr × Obj)) (s : Shared) (σ : L2.St) (H : Hp) (e : Addr) (o : Obj), Inv X pins σ H s → ist i s.heap → s.heap.get? e = some o → (o.cls = .type "enumerate" ∨ o.cls = .type "zip") → e ≠ it → go i H →
    ∃ fp n Pv St, Draws X.prog X.w X.A.in1 it fp n Pv St ∧ St i s.heap ∧ i < n ∧ e ∉ fp ∧ (∀ u, Pv i u → ∃ x, RelV x u ∧ itm i H x) ∧ ∀ h, St (i + 1) h → ist (i + 1) h
  done : ∀ (X : Cx), X.prog = P → X.w = w → X.K = K → X.calm = true → ∀ (i : Nat) (pins : List (Addr × Obj)) (s : Shared) (σ : L2.St) (H : Hp), Inv X pins σ H s → ist i s.heap → stop i H →
    ∃ fp Pv St, Draws X.prog X.w X.A.in1 it fp i Pv St ∧ St i s.heap

theorem turn_enumG {P : Program} {w : World} {K : PySem.W.Frag} {elts : List Expr} {kk : Nat} {tpos : Pos} {e it : Addr} {go stop : Nat → Hp → Prop} {itm : Nat → Hp → V → Prop} {ist : Nat → Heap → Prop} (S : Src P w K it go stop itm ist) :
    Turn P w K (.Tuple elts kk tpos) (Ieg go stop itm) [e, it] e (fun i h => (∃ old, IsEnum h e it ((i : Nat) : Int) old) ∧ ist i h ∧ e ≠ it) where
  mem := by simp
  obj := fun i h st b hb => by
    obtain ⟨⟨old, he⟩, hi, _⟩ := st
    have e' : b = e ∨ b = it := by simpa using hb
    rcases e' with z | z
    · rw [z]; exact ⟨_, he, fun v q => nomatch q⟩
    · rw [z]; exact S.obj i h hi
  keep := fun i h h' st k => let ⟨⟨old, he⟩, hi, hne⟩ := st; ⟨⟨old, k e (by simp) _ he⟩, S.keep i h h' hi fun o q => k it (by simp) o q, hne⟩
  item := by
    intro X hP hw hK hc i pins s σ H E I hf st hg
    obtain ⟨⟨old, he⟩, hit, hne⟩ := st
    obtain ⟨fp, n, Pv, St, D, hst, hlt, hef, hv, hs'⟩ := S.draw X hP hw hK hc i pins s σ H e _ I hit he (.inl rfl) hne hg
    subst hP hw hK
    have hel : e < s.heap.objs.size := Heap.lt_size he
    obtain ⟨oi, hoi, _⟩ := S.obj i _ hit
    have hil : it < s.heap.objs.size := Heap.lt_size hoi
    refine wpAny_pyNext_enum_itemD D he hst hlt hne hef fun u h' tk hPu ho hst' hT hsz hk => ?_
    obtain ⟨x, ru, hx⟩ := hv u hPu
    refine ⟨_, rfl, wpAny_letOwnedTupleGo_enum (s := { s with heap := h', toks := tk + 1 }) ho fun h'' he' sb => ?_⟩
    have hT2 : h''.get? s.heap.objs.size = some { cls := .type "tuple", data := .seq #[.int i tk, u] } := (sb.2 _ (Nat.ne_of_gt hel)).trans hT
    have new : ObjOk X.prog X.w (upd H s.heap.objs.size (.tup [.int (i : Nat), x])) h'' s.heap.objs.size (.tup [.int (i : Nat), x]) :=
      ⟨by show 2 ≤ sizeLine; decide, [.int i tk, u], .cons ⟨_, rfl⟩ (.cons ru .nil), ⟨_, hT2, rfl, _, rfl⟩⟩
    have I1 : Inv X pins σ (upd H s.heap.objs.size (.tup [.int (i : Nat), x])) { s with heap := h'', toks := tk + 1 } :=
      I.turnedNew (ch := [e, it]) (fun b ob hb q => (sb.2 b (fun z => hb (by simp [z]))).trans (hk b ob (fun z => hb (by simp [z])) (fun z => hb (by simp [z])) q)) hf (Nat.le_refl _) new
    refine ⟨.ref s.heap.objs.size, _, I1, rfl, ⟨_, x, rfl, I.hok.fresh (Nat.le_refl _), rfl, hx⟩, ⟨⟨u, ?_⟩, S.keep (i + 1) h' h'' (hs' h' hst') fun o q => (sb.2 it (Ne.symm hne)).trans q, hne⟩, fun b hb => ?_⟩
    · have e1 : ((i + 1 : Nat) : Int) = (i : Int) + 1 := by omega
      rw [e1]; exact he'
    · have hb' : b < s.heap.objs.size := by
        have e' : b = e ∨ b = it := by simpa using hb
        rcases e' with z | z
        · rw [z]; exact hel
        · rw [z]; exact hil
      rw [upd_ne (Nat.ne_of_lt hb')]
      exact (hf b hb).1
  done := by
    intro X hP hw hK hc i pins s σ H E I hf st hg
    obtain ⟨⟨old, he⟩, hit, hne⟩ := st
    obtain ⟨fp, Pv, St, D, hst⟩ := S.done X hP hw hK hc i pins s σ H I hit hg
    subst hP hw hK
    obtain ⟨f0, f1, f2, f3, f4, f5⟩ := hf it (by simp)
    exact wpAny_pyNext_enum_endD D he hst fun h' eb => ⟨rfl, I.turned (t' := s.toks) (fun b o hb q => eb b o hb q) f0 f1 f3 f4 f5⟩
  self := fun A i s Q E st h => let ⟨⟨_, he⟩, _⟩ := st; wpAny_pyIter_enum he h

/-! ### the three kinds -/
def goT (K : PySem.W.Frag) (a : Addr) : Nat → Hp → Prop := fun i H => ∃ vs, SqT K H a vs ∧ i < vs.length
def stT (K : PySem.W.Frag) (a : Addr) : Nat → Hp → Prop := fun i H => ∃ vs, SqT K H a vs ∧ i = vs.length
def imT (K : PySem.W.Frag) (a : Addr) : Nat → Hp → V → Prop := fun i H x => ∀ vs, SqT K H a vs → vs[i]? = some x
theorem src_tuple {P : Program} {w : World} {K : PySem.W.Frag} (it a : Addr) : Src P w K it (goT K a) (stT K a) (imT K a) (fun i h => h.IsTupleIter it a i) where
  obj := fun i h st => let ⟨o, ho, hc, hd⟩ := st; ⟨o, ho, fun v q => by rw [hd] at q; cases q⟩
  keep := fun i h h' st k => st.at k
  draw := by
    intro X hP hw hK hc i pins s σ H e o I hit he hcl hei hg
    subst hP hw hK
    obtain ⟨vs, hq, hi⟩ := hg
    obtain ⟨its, rv, p, hz⟩ := I.tuple hq
    obtain ⟨o1, p1, p2, p3⟩ := id p
    have hne : a ≠ it := fun z => by
      obtain ⟨o2, q1, q2, q3⟩ := id hit
      rw [z, q1] at p1; cases p1
      rw [q2] at p2
      injection p2 with p2
      exact absurd p2 (by decide)
    have hl := rv.length
    refine ⟨_, _, _, _, Draws.tuple (A := X.A.in1) (show X.A.in1.handled = none from I.ok.hd hc) it a hne its.toArray, ⟨hit, p⟩, by simp; omega, fun hm => ?_, fun u hu => ?_, fun h q => q.1⟩
    · have z : e = it ∨ e = a := by simpa using hm
      rcases z with z | z
      · exact hei z
      · rw [z, p1] at he; cases he
        rcases hcl with hcl | hcl
        · rw [hcl] at p2; injection p2 with p2; exact absurd p2 (by decide)
        · rw [hcl] at p2; injection p2 with p2; exact absurd p2 (by decide)
    · have hu' : its[i]? = some u := by simpa using hu
      obtain ⟨x, hx⟩ : ∃ x, vs[i]? = some x := ⟨_, List.getElem?_eq_getElem hi⟩
      obtain ⟨u', hu2, ru⟩ := rv.get hx
      rw [hu'] at hu2; cases hu2
      exact ⟨x, ru, fun ws hw => by rw [I.tuple_inj hw hq]; exact hx⟩
  done := by
    intro X hP hw hK hc i pins s σ H I hit hg
    subst hP hw hK
    obtain ⟨vs, hq, hi⟩ := hg
    obtain ⟨its, rv, p, hz⟩ := I.tuple hq
    obtain ⟨o1, p1, p2, p3⟩ := id p
    have hne : a ≠ it := fun z => by
      obtain ⟨o2, q1, q2, q3⟩ := id hit
      rw [z, q1] at p1; cases p1
      rw [q2] at p2
      injection p2 with p2
      exact absurd p2 (by decide)
    have hl := rv.length
    have hn : i = its.toArray.size := by simp; omega
    rw [hn] at hit ⊢
    exact ⟨_, _, _, Draws.tuple (A := X.A.in1) (show X.A.in1.handled = none from I.ok.hd hc) it a hne its.toArray, ⟨hit, p⟩⟩
def goL (K : PySem.W.Frag) (a : Addr) : Nat → Hp → Prop := fun i H => ∃ vs, SqL K H a vs ∧ i < vs.length
def stL (K : PySem.W.Frag) (a : Addr) : Nat → Hp → Prop := fun i H => ∃ vs, SqL K H a vs ∧ i = vs.length
def imL (K : PySem.W.Frag) (a : Addr) : Nat → Hp → V → Prop := fun i H x => ∀ vs, SqL K H a vs → vs[i]? = some x
theorem src_list {P : Program} {w : World} {K : PySem.W.Frag} (it a : Addr) : Src P w K it (goL K a) (stL K a) (imL K a) (fun i h => h.IsListIter it a i) where
  obj := fun i h st => let ⟨o, ho, hc, hd⟩ := st; ⟨o, ho, fun v q => by rw [hd] at q; cases q⟩
  keep := fun i h h' st k => st.at k
  draw := by
    intro X hP hw hK hc i pins s σ H e o I hit he hcl hei hg
    subst hP hw hK
    obtain ⟨vs, hq, hi⟩ := hg
    obtain ⟨its, rv, p, hz⟩ := I.list hq
    obtain ⟨o1, p1, p2, p3⟩ := id p.isList
    have hne : a ≠ it := fun z => by
      obtain ⟨o2, q1, q2, q3⟩ := id hit
      rw [z, q1] at p1; cases p1
      rw [q2] at p2
      injection p2 with p2
      exact absurd p2 (by decide)
    have hl := rv.length
    refine ⟨_, _, _, _, Draws.list (A := X.A.in1) (show X.A.in1.handled = none from I.ok.hd hc) it a hne its.toArray, ⟨hit, p.isList⟩, by simp; omega, fun hm => ?_, fun u hu => ?_, fun h q => q.1⟩
    · have z : e = it ∨ e = a := by simpa using hm
      rcases z with z | z
      · exact hei z
      · rw [z, p1] at he; cases he
        rcases hcl with hcl | hcl
        · rw [hcl] at p2; injection p2 with p2; exact absurd p2 (by decide)
        · rw [hcl] at p2; injection p2 with p2; exact absurd p2 (by decide)
    · have hu' : its[i]? = some u := by simpa using hu
      obtain ⟨x, hx⟩ : ∃ x, vs[i]? = some x := ⟨_, List.getElem?_eq_getElem hi⟩
      obtain ⟨u', hu2, ru⟩ := rv.get hx
      rw [hu'] at hu2; cases hu2
      exact ⟨x, ru, fun ws hw => by rw [I.list_inj hw hq]; exact hx⟩
  done := by
    intro X hP hw hK hc i pins s σ H I hit hg
    subst hP hw hK
    obtain ⟨vs, hq, hi⟩ := hg
    obtain ⟨its, rv, p, hz⟩ := I.list hq
    obtain ⟨o1, p1, p2, p3⟩ := id p.isList
    have hne : a ≠ it := fun z => by
      obtain ⟨o2, q1, q2, q3⟩ := id hit
      rw [z, q1] at p1; cases p1
      rw [q2] at p2
      injection p2 with p2
      exact absurd p2 (by decide)
    have hl := rv.length
    have hn : i = its.toArray.size := by simp; omega
    rw [hn] at hit ⊢
    exact ⟨_, _, _, Draws.list (A := X.A.in1) (show X.A.in1.handled = none from I.ok.hd hc) it a hne its.toArray, ⟨hit, p.isList⟩⟩
def goS (x : Str) : Nat → Hp → Prop := fun i _ => i < x.cps.size
def stS (x : Str) : Nat → Hp → Prop := fun i _ => i = x.cps.size
def imS (x : Str) : Nat → Hp → V → Prop := fun i _ v => ∃ c, x.cps[i]? = some c ∧ v = .str ⟨#[c]⟩
theorem src_str {P : Program} {w : World} {K : PySem.W.Frag} (it : Addr) (x : Str) (t : Tok) : Src P w K it (goS x) (stS x) (imS x) (fun i h => h.IsStrIter it (strIterType x) x t i) where
  obj := fun i h st => let ⟨o, ho, hc, hd⟩ := st; ⟨o, ho, fun v q => by rw [hd] at q; cases q⟩
  keep := fun i h h' st k => let ⟨o, ho, r⟩ := st; ⟨o, k o ho, r⟩
  draw := by
    intro X hP hw hK hc i pins s σ H e o I hit he hcl hei hg
    subst hP hw hK
    refine ⟨_, _, _, _, Draws.text (A := X.A.in1) (show X.A.in1.handled = none from I.ok.hd hc) it x t, hit, hg, fun hm => hei (by simpa using hm), fun u hu => ?_, fun h q => q⟩
    obtain ⟨c, u', h1, rfl⟩ := hu
    exact ⟨.str ⟨#[c]⟩, ⟨u', rfl⟩, c, h1, rfl⟩
  done := by
    intro X hP hw hK hc i pins s σ H I hit hg
    subst hP hw hK
    have hg : i = x.cps.size := hg
    subst hg
    exact ⟨_, _, _, Draws.text (A := X.A.in1) (show X.A.in1.handled = none from I.ok.hd hc) it x t, hit⟩

/-- enumerate(..) of a text, tuple or list -/
def iEnumG (K : PySem.W.Frag) (te : TE) : TI := fun σ H Rr => te σ H fun u H1 => ∃ v, [u] = [v] ∧
  ((∃ x, v = .str x ∧ Rr (Ieg (goS x) (stS x) (imS x)) H1) ∨ (∃ a vs, v = .ref a ∧ SqT K H1 a vs ∧ Rr (Ieg (goT K a) (stT K a) (imT K a)) H1) ∨ (∃ a vs, v = .ref a ∧ SqL K H1 a vs ∧ Rr (Ieg (goL K a) (stL K a) (imL K a)) H1))
theorem pi_enumG {X : Cx} {e : Expr} {te : TE} {p pos tpos : Pos} {elts : List Expr} {kk : Nat} (hg : Gl X "enumerate") (hm : X.mg "enumerate" = none) (ha : PE X e te) (hs : starEach [e] X.env = [(false, eval e X.env)]) :
    PI X (.Tuple elts kk tpos) (.Call (.Name "enumerate" p) [e] [] pos) (iEnumG X.K te) := by
  refine ⟨fun pins s σ H R I h => ?_⟩
  have hA : PA X [e] (tCons te tNil) := pa_cons ha pa_nil hs
  refine Call_ (ld_blt I hg hm boot_enumerate (PyProof.Rows.callWith_type1 (thn (hA.run pos pins s σ H (fun vs H1 => ∃ v, vs = [v] ∧ ((∃ x, v = .str x ∧ R (Ieg (goS x) (stS x) (imS x)) H1) ∨ (∃ a vs, v = .ref a ∧ SqT X.K H1 a vs ∧ R (Ieg (goT X.K a) (stT X.K a) (imT X.K a)) H1) ∨ (∃ a vs, v = .ref a ∧ SqL X.K H1 a vs ∧ R (Ieg (goL X.K a) (stL X.K a) (imL X.K a)) H1))) I (show tCons te tNil σ H _ from ?_)) fun us s1 ⟨vs, H1, I1, r1, q1⟩ => ?_) hs rfl))
  · exact h
  obtain ⟨v, rfl, q⟩ := q1
  cases r1 with
  | cons r rr =>
    cases rr
    have fin : ∀ {u : Value} {o : Obj} {Hh : Heap → Prop} {go stop : Nat → Hp → Prop} {itm : Nat → Hp → V → Prop} {ist : Nat → Heap → Prop}, Begins u o Hh → Hh s1.heap → Src X.prog X.w X.K s1.heap.objs.size go stop itm ist → (∀ h, h.get? s1.heap.objs.size = some o → ist 0 h) → R (Ieg go stop itm) H1 →
        wpAny (model X.prog X.w) X.A (call (.type "enumerate") [u]) (fun v s1 => wpAny (model X.prog X.w) X.A (pyIter v) (PIE X pins σ (.Tuple elts kk tpos) R) X.xe s1) X.xe s1 := by
      intro u o Hh go stop itm ist B hh S hi q
      refine enum1_begins B hh fun h' he hit hsz hk => wpAny_pyIter_enum he ?_
      have I2 : Inv X pins σ H1 { s1 with heap := h' } := I1.kept (t' := s1.toks) hk
      refine ⟨s1.heap.objs.size + 1, [s1.heap.objs.size + 1, s1.heap.objs.size], _, _, H1, rfl, I2, turn_enumG S, ⟨⟨.none, he⟩, hi _ hit, Nat.succ_ne_self _⟩, fun b hb => ?_, q⟩
      have e' : b = s1.heap.objs.size + 1 ∨ b = s1.heap.objs.size := by simpa using hb
      have hle : s1.heap.objs.size ≤ b := by
        rcases e' with z | z
        · rw [z]; exact Nat.le_add_right _ _
        · rw [z]; exact Nat.le_refl _
      exact I1.fpOk hle (I1.hok.fresh hle)
    rcases q with ⟨x, rfl, q⟩ | ⟨a, ws, rfl, hq, q⟩ | ⟨a, ws, rfl, hq, q⟩
    · obtain ⟨t, rfl⟩ := r
      exact fin (begins_text x t) trivial (src_str _ x t) (fun h e => ⟨_, e, rfl, rfl⟩) q
    · cases r
      obtain ⟨its, rv, p', hz⟩ := I1.tuple hq
      exact fin (begins_tuple a its.toArray) p' (src_tuple _ a) (fun h e => ⟨_, e, rfl, rfl⟩) q
    · cases r
      obtain ⟨its, rv, p', hz⟩ := I1.list hq
      exact fin (begins_list a its.toArray) p'.isList (src_list _ a) (fun h e => ⟨_, e, rfl, rfl⟩) q
end PD

set_option Elab.async false
set_option linter.all false
set_option maxRecDepth 100000
set_option maxHeartbeats 4000000
/-! zip of two texts. -/
namespace PD
open PySem L2 PySem.Spec PyProof.Rows
def ItzS (x y : Str) : It :=
  ⟨fun i _ => i < min x.cps.size y.cps.size, fun i H v H' => ∃ T c d, v = .ref T ∧ H T = none ∧ H' = upd H T (.tup [.str ⟨#[c]⟩, .str ⟨#[d]⟩]) ∧ x.cps[i]? = some c ∧ y.cps[i]? = some d, fun i _ => i = min x.cps.size y.cps.size⟩
theorem zipS_sep (n : Nat) : ZipSep2 (n + 4) (n + 2) (n + 3) n (n + 1) [n] [n + 1] := by
  refine ⟨?_, ?_, ?_, ?_, ?_, ?_, ?_, ?_, ?_, ?_, ?_, ?_, ?_⟩ <;> simp
theorem turn_zipS {P : Program} {w : World} {K : PySem.W.Frag} {elts : List Expr} {kk : Nat} {tpos : Pos} {z TI TO i1 i2 : Addr} (S : ZipSep2 z TI TO i1 i2 [i1] [i2]) (x y : Str) (t1 t2 : Tok) :
    Turn P w K (.Tuple elts kk tpos) (ItzS x y) [z, TI, TO, i1, i2] z (fun i h => IsZip h z TI TO .none ∧ IsTupOf2 h TI (.ref i1) (.ref i2) ∧ (∃ a b, IsTupOf2 h TO a b) ∧ h.IsStrIter i1 (strIterType x) x t1 i ∧ h.IsStrIter i2 (strIterType y) y t2 i) where
  mem := by simp
  obj := fun i h st c hc => by
    obtain ⟨hz, hTI, ⟨a, b, hTO⟩, ⟨o1, e1, _, d1⟩, ⟨o2, e2, _, d2⟩⟩ := st
    have e' : c = z ∨ c = TI ∨ c = TO ∨ c = i1 ∨ c = i2 := by simpa using hc
    rcases e' with q | q | q | q | q
    · rw [q]; exact ⟨_, hz, fun v q => nomatch q⟩
    · rw [q]; exact ⟨_, hTI, fun v q => nomatch q⟩
    · rw [q]; exact ⟨_, hTO, fun v q => nomatch q⟩
    · rw [q]; exact ⟨o1, e1, fun v q => by rw [d1] at q; cases q⟩
    · rw [q]; exact ⟨o2, e2, fun v q => by rw [d2] at q; cases q⟩
  keep := fun i h h' st k => by
    obtain ⟨hz, hTI, ⟨a, b, hTO⟩, ⟨o1, e1, r1⟩, ⟨o2, e2, r2⟩⟩ := st
    exact ⟨k z (by simp) _ hz, k TI (by simp) _ hTI, ⟨a, b, k TO (by simp) _ hTO⟩, ⟨o1, k i1 (by simp) _ e1, r1⟩, ⟨o2, k i2 (by simp) _ e2, r2⟩⟩
  item := by
    intro X hP hw hK hc i pins s σ H E I hf st hg
    subst hP hw hK
    obtain ⟨hz, hTI, ⟨x0, y0, hTO⟩, h1, h2⟩ := st
    have hg : i < min x.cps.size y.cps.size := hg
    have hzl : z < s.heap.objs.size := Heap.lt_size hz
    have D1 := Draws.text (prog := X.prog) (w := X.w) (A := X.A.in1) (show X.A.in1.handled = none from I.ok.hd hc) i1 x t1
    have D2 := Draws.text (prog := X.prog) (w := X.w) (A := X.A.in1) (show X.A.in1.handled = none from I.ok.hd hc) i2 y t2
    refine wpAny_pyNext_zipD2_item S D1 D2 hz hTI hTO h1 h2 (by omega) (by omega) fun x1 x2 h' tk p1 p2 z' TO' h1' h2' hT hsz hk => ?_
    obtain ⟨c, u1, q1, rfl⟩ := p1
    obtain ⟨d, u2, q2, rfl⟩ := p2
    refine ⟨_, rfl, wpAny_letOwnedTupleGo_zip (s := { s with heap := h', toks := tk }) z' fun h'' z'' sb => ?_⟩
    have hT2 : h''.get? s.heap.objs.size = some { cls := .type "tuple", data := .seq #[.str ⟨#[c]⟩ u1, .str ⟨#[d]⟩ u2] } := (sb.2 _ (Nat.ne_of_gt hzl)).trans hT
    have new : ObjOk X.prog X.w (upd H s.heap.objs.size (.tup [.str ⟨#[c]⟩, .str ⟨#[d]⟩])) h'' s.heap.objs.size (.tup [.str ⟨#[c]⟩, .str ⟨#[d]⟩]) :=
      ⟨by show 2 ≤ sizeLine; decide, [.str ⟨#[c]⟩ u1, .str ⟨#[d]⟩ u2], .cons ⟨_, rfl⟩ (.cons ⟨_, rfl⟩ .nil), ⟨_, hT2, rfl, _, rfl⟩⟩
    have I1 : Inv X pins σ (upd H s.heap.objs.size (.tup [.str ⟨#[c]⟩, .str ⟨#[d]⟩])) { s with heap := h'', toks := tk } :=
      I.turnedNew (t' := tk) (ch := [z, TI, TO, i1, i2]) (fun b o hb q => (sb.2 b (fun q' => hb (by simp [q']))).trans (hk b o (fun q' => hb (by simp [q'])) (fun q' => hb (by simp [q'])) (fun q' => hb (by simp [q'])) (fun q' => hb (by simp [q'])) q)) hf (Nat.le_refl _) new
    obtain ⟨oi1, ei1, ri1⟩ := h1'
    obtain ⟨oi2, ei2, ri2⟩ := h2'
    refine ⟨.ref s.heap.objs.size, _, I1, rfl, ⟨_, c, d, rfl, I.hok.fresh (Nat.le_refl _), rfl, q1, q2⟩, ⟨z'', ?_, ⟨.str ⟨#[c]⟩ u1, .str ⟨#[d]⟩ u2, ?_⟩, ⟨oi1, ?_, ri1⟩, ⟨oi2, ?_, ri2⟩⟩, fun b hcm => ?_⟩
    · exact (sb.2 _ S.TIz).trans (hk _ _ S.TIz S.TITO S.TIi1 S.TIi2 hTI)
    · exact (sb.2 _ S.TOz).trans TO'
    · exact (sb.2 _ (Ne.symm S.zi1)).trans ei1
    · exact (sb.2 _ (Ne.symm S.zi2)).trans ei2
    · have hlt : b < s.heap.objs.size := by
        have e' : b = z ∨ b = TI ∨ b = TO ∨ b = i1 ∨ b = i2 := by simpa using hcm
        rcases e' with q | q | q | q | q
        · rw [q]; exact hzl
        · rw [q]; exact Heap.lt_size hTI
        · rw [q]; exact Heap.lt_size hTO
        · rw [q]; obtain ⟨_, e1, _⟩ := h1; exact Heap.lt_size e1
        · rw [q]; obtain ⟨_, e2, _⟩ := h2; exact Heap.lt_size e2
      rw [upd_ne (Nat.ne_of_lt hlt)]
      exact (hf b hcm).1
  done := by
    intro X hP hw hK hc i pins s σ H E I hf st hg
    subst hP hw hK
    obtain ⟨hz, hTI, ⟨x0, y0, hTO⟩, h1, h2⟩ := st
    have hg : i = min x.cps.size y.cps.size := hg
    have D1 := Draws.text (prog := X.prog) (w := X.w) (A := X.A.in1) (show X.A.in1.handled = none from I.ok.hd hc) i1 x t1
    have D2 := Draws.text (prog := X.prog) (w := X.w) (A := X.A.in1) (show X.A.in1.handled = none from I.ok.hd hc) i2 y t2
    exact wpAny_pyNext_zipD2_end S D1 D2 hz hTI hTO h1 h2 (by omega) (by omega) (by omega) fun h' tk hk => ⟨rfl, I.turnedL (t' := tk) (ch := [z, TI, TO, i1, i2]) (fun c o hb q =>
      hk c o (fun q' => hb (by simp [q'])) (fun q' => hb (by simp [q'])) (fun q' => hb (by simp [q'])) (fun q' => hb (by simp [q'])) q) hf⟩
  self := fun A i s Q E st h => wpAny_pyIter_zip st.1 h
def iZipS (ta : TA) : TI := fun σ H R => ta σ H fun vs H1 => ∃ x y : Str, vs = [.str x, .str y] ∧ R (ItzS x y) H1
theorem pi_zipS {X : Cx} {e e2 : Expr} {ta : TA} {p pos tpos : Pos} {elts : List Expr} {kk : Nat} (hg : Gl X "zip") (hm : X.mg "zip" = none) (ha : PA X [e, e2] ta)
    (hs : starEach [e, e2] X.env = (false, eval e X.env) :: starEach [e2] X.env) (hpl : (backTo pos (starEach [e2] X.env)).any (·.1) = false) :
    PI X (.Tuple elts kk tpos) (.Call (.Name "zip" p) [e, e2] [] pos) (iZipS ta) := by
  refine ⟨fun pins s σ H R I h => ?_⟩
  refine Call_ (ld_blt I hg hm PyProof.Rows.boot_zip (PyProof.Rows.callWith_type1 (thn (ha.run pos pins s σ H _ I h) fun us s1 ⟨vs, H1, I1, r1, q1⟩ => ?_) hs hpl))
  obtain ⟨x, y, ex, q⟩ := q1
  subst ex
  cases r1 with
  | cons r rr =>
    cases rr with
    | cons r' rr =>
      cases rr
      obtain ⟨t1, rfl⟩ := r
      obtain ⟨t2, rfl⟩ := r'
      have fresh5 : ∀ c, c ∈ [s1.heap.objs.size + 4, s1.heap.objs.size + 2, s1.heap.objs.size + 3, s1.heap.objs.size, s1.heap.objs.size + 1] → FpOk X pins H1 c := fun c hcm => by
        have e' : c = s1.heap.objs.size + 4 ∨ c = s1.heap.objs.size + 2 ∨ c = s1.heap.objs.size + 3 ∨ c = s1.heap.objs.size ∨ c = s1.heap.objs.size + 1 := by simpa using hcm
        have hle : s1.heap.objs.size ≤ c := by
          rcases e' with z | z | z | z | z
          · rw [z]; exact Nat.le_add_right _ _
          · rw [z]; exact Nat.le_add_right _ _
          · rw [z]; exact Nat.le_add_right _ _
          · rw [z]; exact Nat.le_refl _
          · rw [z]; exact Nat.le_add_right _ _
        exact I1.fpOk hle (I1.hok.fresh hle)
      refine zip_begins2 (begins_text x t1) (begins_text y t2) trivial trivial fun h' hz hTI hTO h1 h2 hsz hk => wpAny_pyIter_zip hz ?_
      have I2 : Inv X pins σ H1 { s1 with heap := h' } := I1.kept (t' := s1.toks) hk
      exact ⟨s1.heap.objs.size + 4, [s1.heap.objs.size + 4, s1.heap.objs.size + 2, s1.heap.objs.size + 3, s1.heap.objs.size, s1.heap.objs.size + 1], _, _, H1, rfl, I2, turn_zipS (zipS_sep s1.heap.objs.size) x y t1 t2, ⟨hz, hTI, ⟨_, _, hTO⟩, ⟨_, h1, rfl, rfl⟩, ⟨_, h2, rfl, rfl⟩⟩, fresh5, q⟩
end PD

set_option Elab.async false
set_option linter.all false
set_option maxRecDepth 100000
set_option maxHeartbeats 4000000
/-! list.pop(k), list.insert(k, x) of a list of the frame's own. -/
namespace PD
open PySem L2 PySem.Spec PyProof.Rows
theorem list_pop_meets (l : Addr) (items : Array Value) (n : Nat) (x : Int) (u : Tok) (k : Nat) (y : Value) (hc0 : ¬(!Builtin.List.listFitsIndex x) = true) (hc1 : ¬ items.isEmpty = true) (hk : seqIndex? x items.size = some k) (hy : items[k]? = some y) (hsz : items.size ≤ sizeLine) :
    Meets (Builtin.«list.pop» ⟨[.ref l, .int x u], []⟩) (fun _ R s => s.heap.get? l = some { cls := .type "list", dict := none, data := .seq items n, slots := #[] } ∧ R (.ok (.ret y)) { s with heap := s.heap.update l (Obj.mapSeq fun xs => xs.eraseIdxIfInBounds k), toks := s.toks }) :=
  .of_wp fun prog w A R s h => by
    obtain ⟨hp, g, d, tk, os⟩ := s; obtain ⟨hl, h⟩ := h
    have hb : ((seqIndex? x items.size).bind fun k => items[k]?.map (k, ·)) = some (k, y) := by rw [hk]; show items[k]?.map _ = _; rw [hy]; rfl
    have hz' : (items.eraseIdxIfInBounds k).size ≤ sizeLine + 1 := by
      unfold Array.eraseIdxIfInBounds
      split
      · simp; omega
      · omega
    wp_walk using (wpAny_updateSeq hl rfl (hz := hsz) (_hz' := hz'))
    all_goals first | (rw [hb]; wp_walk using (wpAny_updateSeq hl rfl (hz := hsz) (_hz' := hz')); exact ⟨_, rfl, h⟩) | exact ⟨_, rfl, h⟩
theorem vals_take : ∀ {vs : List V} {us : List Value} (_ : Vals vs us) (n : Nat), Vals (vs.take n) (us.take n)
  | _, _, .nil, n => by simp only [List.take_nil]; exact .nil
  | _, _, .cons h r, 0 => by simp only [List.take_zero]; exact .nil
  | _, _, .cons h r, n + 1 => by simp only [List.take_succ_cons]; exact .cons h (vals_take r n)
theorem vals_drop : ∀ {vs : List V} {us : List Value} (_ : Vals vs us) (n : Nat), Vals (vs.drop n) (us.drop n)
  | _, _, .nil, n => by simp only [List.drop_nil]; exact .nil
  | _, _, .cons h r, 0 => by simp only [List.drop_zero]; exact .cons h r
  | _, _, .cons h r, n + 1 => by simp only [List.drop_succ_cons]; exact vals_drop r n
theorem vals_erase : ∀ {vs : List V} {us : List Value} (_ : Vals vs us) (n : Nat), Vals (vs.eraseIdx n) (us.eraseIdx n)
  | _, _, .nil, n => by simp only [List.eraseIdx_nil]; exact .nil
  | _, _, .cons h r, 0 => by simp only [List.eraseIdx_cons_zero]; exact r
  | _, _, .cons h r, n + 1 => by simp only [List.eraseIdx_cons_succ]; exact .cons h (vals_erase r n)
section
variable {X : Cx}
theorem fits_of {n : Int} (h0 : 0 ≤ n) (h1 : n < 2 ^ 62) : ¬ (!Builtin.List.listFitsIndex n) = true := by
  unfold Builtin.List.listFitsIndex
  have a : -(2 ^ 63 : Int) ≤ n := by omega
  have b : n < 2 ^ 63 := by omega
  simp
  omega
def rPop : V → List V → Hp → VK → Prop := fun x vs H Q => ∃ l xs n y, x = .ref l ∧ vs = [.int n] ∧ H l = some (.lst xs) ∧ 0 ≤ n ∧ xs[n.toNat]? = some y ∧ Q y (upd H l (.lst (xs.eraseIdx n.toNat)))
theorem mt_pop : MtM X "list.pop" rPop := by
  intro pins s σ H x vs v us Q I rx rv h
  obtain ⟨l, xs, n, y, rfl, rfl, hH, h0, hy, q⟩ := h
  cases rx
  obtain ⟨u, rfl, ru⟩ := rv.one
  obtain ⟨t, rfl⟩ := ru
  obtain ⟨z, its, c, r, hl, e⟩ := I.lstM hH
  obtain ⟨w, hw, rw'⟩ := r.get hy
  have hlt : n.toNat < its.length := (List.getElem?_eq_some_iff.mp hw).1
  have hn := line63
  have hne : ¬ its.toArray.isEmpty = true := by
    intro q
    have : its = [] := by simpa using q
    rw [this] at hlt; simp at hlt
  have hk : seqIndex? n its.toArray.size = some n.toNat := by
    rw [List.size_toArray]
    exact seqIndex_of h0 (by omega)
  have hw' : its.toArray[n.toNat]? = some w := by simpa using hw
  have hz : its.toArray.size ≤ sizeLine := by rw [List.size_toArray]; omega
  have hfit : ¬ (!Builtin.List.listFitsIndex n) = true := fits_of h0 (by
    have : (2 : Int) ^ 62 = 4611686018427387904 := by decide
    have h2 := sizeLine_eq
    omega)
  refine call_meets F.slot_list_pop ⟨_, e, rfl⟩ F.entry_list_pop (F.args_list_pop_2 _ _) (list_pop_meets l its.toArray c n t n.toNat w hfit hne hk hw' hz) ⟨e, ?_⟩
  refine ⟨y, _, I.lset (its' := its.eraseIdx n.toNat) hH e ?_ ?_ ?_, rw', q⟩
  · unfold Array.eraseIdxIfInBounds
    rw [dif_pos (by rw [List.size_toArray]; exact hlt)]
    simp
  · exact vals_erase r n.toNat
  · rw [List.length_eraseIdx]
    split <;> omega
def rIns : V → List V → Hp → VK → Prop := fun x vs H Q => ∃ l xs n y, x = .ref l ∧ vs = [.int n, y] ∧ H l = some (.lst xs) ∧ 0 ≤ n ∧ n.toNat ≤ xs.length ∧ xs.length < sizeLine ∧ Q .non (upd H l (.lst (xs.take n.toNat ++ y :: xs.drop n.toNat)))
theorem mt_ins : MtM X "list.insert" rIns := by
  intro pins s σ H x vs v us Q I rx rv h
  obtain ⟨l, xs, n, y, rfl, rfl, hH, h0, hle, hlt, q⟩ := h
  cases rx
  cases rv with
  | cons r1 rr =>
    cases rr with
    | cons r2 rr =>
      cases rr
      obtain ⟨t, rfl⟩ := r1
      rename_i u2
      obtain ⟨z, its, c, r, hl, e⟩ := I.lstM hH
      have hn := line63
      have hz : its.toArray.size ≤ sizeLine := by rw [List.size_toArray]; omega
      have hfit : ¬ (!Builtin.List.listFitsIndex n) = true := fits_of h0 (by
        have : (2 : Int) ^ 62 = 4611686018427387904 := by decide
        have h2 := sizeLine_eq
        omega)
      refine call_meets F.slot_list_insert ⟨_, e, rfl⟩ F.entry_list_insert (F.args_list_insert_3 _ _ _) (AutoListH.list_insert_list_int_val_1 l its.toArray c n t u2 hfit hz) ⟨e, ?_⟩
      refine ⟨.non, _, I.lset (its' := its.take n.toNat ++ u2 :: its.drop n.toNat) hH e ?_ ?_ ?_, rfl, q⟩
      · have hneg : ¬ n < 0 := by omega
        have hmin : min n.toNat its.toArray.size = n.toNat := by rw [List.size_toArray]; omega
        simp only [if_neg hneg, hmin]
        apply Array.toList_inj.mp
        simp only [Array.toList_append, Array.toList_push, Array.toList_extract, List.extract_eq_take_drop, List.drop_zero, Nat.sub_zero, List.append_assoc, List.singleton_append]
        rw [List.take_of_length_le (l := List.drop n.toNat its) (by rw [List.length_drop]; simp)]
      · exact (vals_take r n.toNat).append (.cons r2 (vals_drop r n.toNat))
      · simp; omega
end
end PD

set_option Elab.async false
set_option linter.all false
set_option maxRecDepth 100000
set_option maxHeartbeats 4000000
/-! set(list of texts), sorted(that set). -/
namespace PD
open PySem L2 PySem.Spec PyProof.Rows PySem.Froz

theorem perm_of_sub {α : Type} : ∀ {l m : List α}, l.Nodup → (∀ x ∈ l, x ∈ m) → m.length ≤ l.length → m.Perm l
  | [], m, _, _, h => by
    have : m = [] := List.length_eq_zero_iff.mp (Nat.le_zero.mp h)
    rw [this]
  | x :: l, m, nd, hs, h => by
    obtain ⟨m1, m2, rfl⟩ := List.append_of_mem (hs x List.mem_cons_self)
    obtain ⟨n1, n2⟩ := List.nodup_cons.mp nd
    have ih := perm_of_sub (l := l) (m := m1 ++ m2) n2 (fun y hy => by
      have := hs y (List.mem_cons_of_mem _ hy)
      rcases List.mem_append.mp this with q | q
      · exact List.mem_append_left _ q
      · rcases List.mem_cons.mp q with q | q
        · subst q; exact absurd hy n1
        · exact List.mem_append_right _ q) (by
      simp only [List.length_append, List.length_cons] at h ⊢
      omega)
    exact List.perm_middle.trans (ih.cons x)
/-- the set at a holds the texts l, each once; its table can be walked -/
def TxR (P : Program) (w : World) (h : Heap) (a : Addr) (l : List Str) : Prop :=
  ∃ D : SD, h.get? a = some (sObj "set" D) ∧ TxOk P w D l ∧ l.Nodup ∧ Ris D.2.2.place.toList ∧ (w.params.followText "set-order" = true ∨ D.2.2.led = true)
theorem TxR.at {P : Program} {w : World} {h h' : Heap} {a : Addr} {l : List Str} (R : TxR P w h a l) (k : ∀ o, h.get? a = some o → h'.get? a = some o) : TxR P w h' a l := by
  obtain ⟨D, ho, r⟩ := R
  exact ⟨D, k _ ho, r⟩
theorem add_ris {w : World} {D : SD} {k : Str} {u : Tok} (r : Ris D.2.2.place.toList) : Ris (addTx (hashStr w k) (.str k u) D).2.2.place.toList := by
  obtain ⟨es, ep, t⟩ := D
  have h1 := layNew_ris t es (hashStr w k) (.str k u) r
  unfold addTx
  generalize layNew t es (hashStr w k) (.str k u) = Z at h1
  obtain ⟨es1, t1, wd, gv⟩ := Z
  unfold tailTx
  dsimp only at h1 ⊢
  repeat' split
  all_goals first | exact h1 | exact relayAll_ris _ _ _
theorem add_led {w : World} {D : SD} {k : Str} {u : Tok} : (addTx (hashStr w k) (.str k u) D).2.2.led = D.2.2.led := by
  obtain ⟨es, ep, t⟩ := D
  have h1 := layNew_led t es (hashStr w k) (.str k u)
  unfold addTx
  generalize layNew t es (hashStr w k) (.str k u) = Z at h1
  obtain ⟨es1, t1, wd, gv⟩ := Z
  unfold tailTx
  dsimp only at h1 ⊢
  repeat' split
  all_goals first | exact h1 | exact (relayAll_led _ _ _).trans h1
section
variable {P : Program} {w : World} {A : Around} {E : Value → Shared → Prop} {s : Shared} {a : Addr} {l : List Str}
theorem txR_add {k : Str} {u : Tok} {Q : Bool → Shared → Prop} (R : TxR P w s.heap a l) (room : l.length + 1 < scanBound)
    (hQ : ∀ b h', Heap.SameBut a s.heap h' → TxR P w h' a (if k ∈ l then l else k :: l) → Q b { s with heap := h' }) : wpAny (model P w) A (setAddHashed a (.str k u) (hashStr w k)) Q E s := by
  obtain ⟨D, ho, F, nd, hr, hl⟩ := R
  by_cases hk : k ∈ l
  · rw [if_pos hk] at hQ
    obtain ⟨es, ep, t⟩ := D
    have hf : t.fits es.size = true := F.fit
    have hel : ElemsOf (strKind P w) es.toList := F.el
    have hb : es.size < scanBound := by have : es.size = l.length := F.sz; omega
    have hd : (sObj "set" (es, ep, t)).data = .set es ep t := rfl
    have hkey : (strKind P w).is k (.str k u) = true := is_str k u
    unfold setAddHashed setAddHashedIn
    refine wpAny_holding (wpAny_bind (wpAny_setState_of ho hd hf ?_))
    dsimp only
    rw [byScan_of rfl hb hel, if_pos rfl]
    unfold setAddByScan
    refine wpAny_bind (wpAny_bind (wpAny_rule (wpAny_bind (wpAny_setScan_of (knd := strKind P w) (k := k) hkey ho hd hf hel ?_))))
    cases hfi : List.findIdx? (fun e => (strKind P w).is k e.2) es.toList with
    | some j =>
      dsimp only
      exact wpAny_pure (wpAny_pure (hQ _ s.heap (Heap.SameBut.refl a s.heap) ⟨_, ho, F, nd, hr, hl⟩))
    | none =>
      obtain ⟨e, he, q⟩ := (F.mem k).mp hk
      have c := List.findIdx?_eq_none_iff.mp hfi e he
      rw [q] at c
      cases c
  · rw [if_neg hk] at hQ
    exact add_x ho F hk room (hQ _ _ (Heap.SameBut.update s.heap a _) ⟨_, get_upd _ ho rfl, add_ok u F, List.nodup_cons.mpr ⟨hk, nd⟩, add_ris hr, hl.imp id fun z => by rw [add_led]; exact z⟩)
/-- the loop of update -/
theorem txR_loop {I : Addr} {fp wr : List Addr} {G : Array GenState → Array GenState → Prop} {n : Nat} {Pv : Nat → Value → Prop} {St : Nat → Shared → Prop} {R : Result → Shared → Prop}
    (W : WalksS P w A.in1 I fp wr G n Pv St) (S : Addr) (hSf : S ∉ fp) (xs : List Str) (hn : n = xs.length) (hb : xs.length + 1 < scanBound) (hval : ∀ i v, Pv i v → ∃ k t, xs[i]? = some k ∧ v = .str k t) :
    ∀ (k i : Nat) (s : Shared), n - i = k → i ≤ n → St i s → (∃ l, l.length ≤ i ∧ (∀ x, x ∈ l ↔ x ∈ xs.take i) ∧ TxR P w s.heap S l) →
      (∀ s' l, Moved (S :: wr) G s s' → l.length ≤ n → (∀ x, x ∈ l ↔ x ∈ xs) → TxR P w s'.heap S l → R (.ok (.ret .none)) s') →
      codeAny (model P w) A (.builtin "set.update.loop" ⟨[.ref S, .ref I], []⟩) R s := by
  have hSw : S ∉ wr := fun h => hSf (W.sub _ h)
  have hsub : ∀ b ∈ wr, b ∈ S :: wr := fun b hb => List.mem_cons_of_mem _ hb
  intro k
  induction k with
  | zero =>
    rintro i s hk hi hst ⟨l, h1, h2, hS⟩ hR
    obtain rfl : i = n := by omega
    refine codeAny_builtin F.entry_set_update_loop ?_
    rw [Around.under_plainId F.plain_set_update_loop _]
    show wpAny _ A.in1 (pyNext (.ref I) >>= _) _ _ s
    refine wpAny_bind (W.done s _ _ hst fun s' hm => ?_)
    rw [List.take_of_length_le (by omega)] at h2
    exact wpAny_pure (hR s' l (hm.mono hsub) h1 h2 (hS.at fun o e => hm.heap S o hSw e))
  | succ k ih =>
    rintro i s hk hi hst ⟨l, h1, h2, hS⟩ hR
    have hlt : i < n := by omega
    refine codeAny_builtin F.entry_set_update_loop ?_
    rw [Around.under_plainId F.plain_set_update_loop _]
    show wpAny _ A.in1 (pyNext (.ref I) >>= _) _ _ s
    refine wpAny_bind (W.item i s _ _ hlt hst fun v s' hP hst' hm => ?_)
    obtain ⟨z, t, hz, rfl⟩ := hval i v hP
    have hS' : TxR P w s'.heap S l := hS.at fun o e => hm.heap S o hSw e
    show wpAny _ A.in1 (holding [Value.str z t] (setAdd S (.str z t)) >>= _) _ _ s'
    refine wpAny_bind (wpAny_holding ?_)
    unfold setAdd
    refine wpAny_holding (wpAny_bind ((strKind P w).pyHash (k := z) (is_str z t) ?_))
    refine txR_add (s := { s' with toks := s'.toks + 1 }) hS' (by omega) fun b h' hsb hS2 => ?_
    have hl2 : (if z ∈ l then l else z :: l).length ≤ i + 1 := by
      split
      · omega
      · rw [List.length_cons]; omega
    have hm2 : ∀ x, x ∈ (if z ∈ l then l else z :: l) ↔ x ∈ xs.take (i + 1) := fun x => by
      rw [List.take_add_one, hz]
      split
      · rename_i hzl
        rw [h2 x, List.mem_append]
        refine ⟨.inl, fun q => q.elim id fun q => ?_⟩
        have e : x = z := by simpa using q
        rw [e]; exact (h2 z).mp hzl
      · rw [List.mem_cons, h2 x, List.mem_append]
        simp [or_comm]
    refine wpAny_pure ⟨plainId_quiet F.plain_set_update_loop _, ih (i + 1) _ (by omega) hlt (W.frame _ s' _ _ hst' (Nat.le_succ _) fun b hb o e => ?_) ⟨_, hl2, hm2, hS2⟩ fun s'' c2 hm'' hc'' hx'' hS'' => ?_⟩
    · rw [hsb.2 b (fun h : b = S => hSf (by rw [← h]; exact hb))]; exact e
    · refine hR s'' c2 (Moved.trans W.gtrans ((hm.mono hsub).then_heap (Nat.le_succ _) fun b o hb e => ?_) hm'') hc'' hx'' hS''
      rw [hsb.2 b (fun h : b = S => hb (by rw [h]; exact List.mem_cons_self))]; exact e
theorem txR_new {h : Heap} (ho : h.get? a = some { cls := .type "set", dict := none, data := .set #[] 0 (.fresh 0 0 (!w.params.followText "set-order")) }) : TxR P w h a [] :=
  ⟨(#[], 0, _), ho, TxOk.nil rfl, List.nodup_nil, List.Pairwise.nil, by
    show _ ∨ (!w.params.followText "set-order") = true
    cases w.params.followText "set-order"
    · exact .inr rfl
    · exact .inl rfl⟩

set_option maxHeartbeats 3200000 in
theorem call_set_txts {l : Addr} {items : Array Value} (xs : List Str) {Q : Value → Shared → Prop} (hh : A.handled = none) (hl : s.heap.IsList l items) (hit : ∀ (i : Nat) (v : Value), items[i]? = some v → ∃ k t, xs[i]? = some k ∧ v = Value.str k t) (hisz : items.size = xs.length) (hb : xs.length + 1 < scanBound)
    (h : ∀ (h' : Heap) (tk : Nat) ks, TxR P w h' s.heap.objs.size ks → ks.length ≤ xs.length → (∀ x, x ∈ ks ↔ x ∈ xs) → (∀ b o, s.heap.get? b = some o → h'.get? b = some o) → Q (.ref s.heap.objs.size) { s with heap := h', toks := tk }) :
    wpAny (model P w) A (call (.type "set") [.ref l]) Q E s := by
  obtain ⟨c, tl, hmro⟩ := F.called_set.mro
  have hmade := F.called_set.made
  have hsub := F.called_set.sub
  refine wpAny_call (codeAny_of_tree ?_)
  show wpAny _ _ (callAny (.type "set") _) _ _ _
  refine wpAny_pure ⟨Code.quiet_builtin _ (by decide +kernel), codeAny_builtin F.entry_type_call ?_⟩
  rw [Around.under_plain (weight_type_call_type "set" [.ref l] []) rfl]
  have h1 := F.called_set.notType
  have h2 := F.called_set.canCreate
  have hct := F.typeCall_set_1 (.ref l)
  repeat (any_goals (first | assumption | wp_step))
  generalize hO : ({ cls := .type "set", dict := none, data := .set #[] 0 (.fresh 0 0 (!w.params.followText "set-order")) } : Obj) = O
  refine codeAny_mono (code_set_led1 (.ref l) (E := E) (Q₁ := fun obj s₁ => obj = .ref s.heap.objs.size ∧ s₁ = { s with heap := s.heap.push O }) ⟨rfl, by rw [← hO]⟩) fun r s₁ hr => ?_
  cases r with
  | error e => exact hr
  | ok fl =>
    cases fl with
    | ret obj =>
      obtain ⟨rfl, rfl⟩ := hr
      have hfr : O.isFreed = false := by rw [← hO]; rfl
      have hS : (s.heap.push O).get? s.heap.objs.size = some O := Heap.get?_push_size _ hfr
      have hT : Shared.TypeIs { s with heap := s.heap.push O } (.ref s.heap.objs.size) "set" := ⟨_, hS, by rw [← hO]⟩
      have hli := F.called_set.init.lookup
      have hbi := F.called_set.init.bind (.ref s.heap.objs.size)
      repeat (any_goals (first | assumption | wp_step))
      refine codeAny_mono (codeAny_call_builtin (R := wants (fun r s₂ => r = .none ∧ ∃ h' tk ks, s₂ = { s with heap := h', toks := tk } ∧ TxR P w h' s.heap.objs.size ks ∧ ks.length ≤ xs.length ∧ (∀ x, x ∈ ks ↔ x ∈ xs) ∧
          (∀ b o, s.heap.get? b = some o → h'.get? b = some o)) E) F.called_set.init.plain F.entry_set_init (check_set_init_1 hT ?_)) fun r₂ s₂ hr₂ => ?_
      · obtain ⟨⟨ocls, odict, odata, oslots⟩, hol, hcl, nl, hdl⟩ := hl
        simp only at hcl hdl
        subst hcl; subst hdl
        subst hO
        have hol' := Heap.get?_push_of_some { cls := .type "set", dict := none, data := .set #[] 0 (.fresh 0 0 (!w.params.followText "set-order")) } hol
        have hsls := F.sub_list_set
        have hslf := F.sub_list_frozenset
        have hne : (Value.type "list" == Value.type "dict") = false := by decide
        have hl1 : (s.heap.push { cls := .type "set", dict := none, data := .set #[] 0 (.fresh 0 0 (!w.params.followText "set-order")) }).IsList l items := ⟨_, hol', rfl, nl, rfl⟩
        unfold Builtin.«set.__init__» noKeywords Builtin.Frozenset.updateFrom
        generalize hPI : pyIter = PI
        wp_walk
        subst hPI
        refine wpAny_pyIter_list hl1 ?_
        refine wpAny_bind (wpAny_runValue ?_)
        have hlS : l < s.heap.objs.size := Heap.lt_size hol
        have hh3 : A.in1.in1.in1.handled = none := by simp [hh]
        have hz1 : (s.heap.push { cls := .type "set", dict := none, data := .set #[] 0 (.fresh 0 0 (!w.params.followText "set-order")) }).objs.size = s.heap.objs.size + 1 := Heap.size_push ..
        have hneI : l ≠ (s.heap.push { cls := .type "set", dict := none, data := .set #[] 0 (.fresh 0 0 (!w.params.followText "set-order")) }).objs.size := by rw [hz1]; exact Nat.ne_of_lt (Nat.lt_succ_of_lt hlS)
        have hSf : s.heap.objs.size ∉ [(s.heap.push { cls := .type "set", dict := none, data := .set #[] 0 (.fresh 0 0 (!w.params.followText "set-order")) }).objs.size, l] := by
          rw [hz1]
          intro hm
          have : s.heap.objs.size = s.heap.objs.size + 1 ∨ s.heap.objs.size = l := by simpa using hm
          rcases this with q | q
          · exact absurd q (Nat.ne_of_lt (Nat.lt_succ_self _))
          · exact absurd q.symm (Nat.ne_of_lt hlS)
        have none_of : ∀ b, s.heap.objs.size ≤ b → s.heap.get? b = none := fun b hb => by
          cases q : s.heap.get? b with
          | none => rfl
          | some o => exact absurd (Nat.lt_of_lt_of_le (Heap.lt_size q) hb) (Nat.lt_irrefl _)
        refine txR_loop ((Walks.list hh3 _ l hneI items).toS) s.heap.objs.size hSf xs hisz hb hit (items.size - 0) 0 _ (by omega) (Nat.zero_le _)
          ⟨⟨_, Heap.get?_push_size _ rfl, rfl, rfl⟩, (hl1.push _)⟩ ⟨[], Nat.zero_le _, fun x => by simp, txR_new (Heap.get?_push_of_some _ hS)⟩ fun s' ks hm hc' hx' hS' => ?_
        obtain ⟨h', g2, d', tk', os'⟩ := s'
        obtain rfl : g2 = s.gens := hm.gens
        obtain rfl : d' = s.drawn := hm.drawn
        obtain rfl : os' = s.os := hm.os
        show wpAny _ _ _ _ _ _
        refine wpAny_pure ?_
        show wpAny _ _ (ret Value.none) _ _ _
        refine wpAny_pure ⟨rfl, h', tk', ks, rfl, hS', by omega, hx', fun b o e => ?_⟩
        have hbl : b < s.heap.objs.size := Heap.lt_size e
        refine hm.heap b o (fun z => ?_) (Heap.get?_push_of_some _ (Heap.get?_push_of_some _ e))
        have z' : b = s.heap.objs.size ∨ b = (s.heap.push { cls := .type "set", dict := none, data := .set #[] 0 (.fresh 0 0 (!w.params.followText "set-order")) }).objs.size := by simpa using z
        rcases z' with q | q
        · exact absurd q (Nat.ne_of_lt hbl)
        · rw [hz1] at q
          exact absurd q (Nat.ne_of_lt (Nat.lt_succ_of_lt hbl))
      · cases r₂ with
        | error e => exact hr₂
        | ok fl₂ =>
          cases fl₂ with
          | ret r =>
            obtain ⟨rfl, h', tk, ks, rfl, hS', g1, g2, hk'⟩ := hr₂
            repeat (any_goals (first | assumption | wp_step))
            exact h _ _ _ hS' g1 g2 hk'
          | _ => exact hr₂.elim
    | _ => exact hr.elim

set_option maxHeartbeats 3200000 in
theorem call_set_str (x : Str) (t : Tok) (xs : List Str) (hxs : xs = x.cps.toList.map fun c => (⟨#[c]⟩ : Str)) {Q : Value → Shared → Prop} (hh : A.handled = none) (hb : xs.length + 1 < scanBound)
    (h : ∀ (h' : Heap) (tk : Nat) ks, TxR P w h' s.heap.objs.size ks → ks.length ≤ xs.length → (∀ x, x ∈ ks ↔ x ∈ xs) → (∀ b o, s.heap.get? b = some o → h'.get? b = some o) → Q (.ref s.heap.objs.size) { s with heap := h', toks := tk }) :
    wpAny (model P w) A (call (.type "set") [.str x t]) Q E s := by
  obtain ⟨c, tl, hmro⟩ := F.called_set.mro
  have hmade := F.called_set.made
  have hsub := F.called_set.sub
  refine wpAny_call (codeAny_of_tree ?_)
  show wpAny _ _ (callAny (.type "set") _) _ _ _
  refine wpAny_pure ⟨Code.quiet_builtin _ (by decide +kernel), codeAny_builtin F.entry_type_call ?_⟩
  rw [Around.under_plain (weight_type_call_type "set" [.str x t] []) rfl]
  have h1 := F.called_set.notType
  have h2 := F.called_set.canCreate
  have hct := F.typeCall_set_1 (.str x t)
  repeat (any_goals (first | assumption | wp_step))
  generalize hO : ({ cls := .type "set", dict := none, data := .set #[] 0 (.fresh 0 0 (!w.params.followText "set-order")) } : Obj) = O
  refine codeAny_mono (code_set_led1 (.str x t) (E := E) (Q₁ := fun obj s₁ => obj = .ref s.heap.objs.size ∧ s₁ = { s with heap := s.heap.push O }) ⟨rfl, by rw [← hO]⟩) fun r s₁ hr => ?_
  cases r with
  | error e => exact hr
  | ok fl =>
    cases fl with
    | ret obj =>
      obtain ⟨rfl, rfl⟩ := hr
      have hfr : O.isFreed = false := by rw [← hO]; rfl
      have hS : (s.heap.push O).get? s.heap.objs.size = some O := Heap.get?_push_size _ hfr
      have hT : Shared.TypeIs { s with heap := s.heap.push O } (.ref s.heap.objs.size) "set" := ⟨_, hS, by rw [← hO]⟩
      have hli := F.called_set.init.lookup
      have hbi := F.called_set.init.bind (.ref s.heap.objs.size)
      repeat (any_goals (first | assumption | wp_step))
      refine codeAny_mono (codeAny_call_builtin (R := wants (fun r s₂ => r = .none ∧ ∃ h' tk ks, s₂ = { s with heap := h', toks := tk } ∧ TxR P w h' s.heap.objs.size ks ∧ ks.length ≤ xs.length ∧ (∀ x, x ∈ ks ↔ x ∈ xs) ∧
          (∀ b o, s.heap.get? b = some o → h'.get? b = some o)) E) F.called_set.init.plain F.entry_set_init (check_set_init_1 hT ?_)) fun r₂ s₂ hr₂ => ?_
      · subst hO
        have hsls := F.sub_str_set
        have hslf := F.sub_str_frozenset
        have hne : (Value.type "str" == Value.type "dict") = false := by decide
        unfold Builtin.«set.__init__» noKeywords Builtin.Frozenset.updateFrom
        generalize hPI : pyIter = PI
        wp_walk
        subst hPI
        refine wpAny_pyIter_str fun oI St hW hSt => ?_
        refine wpAny_bind (wpAny_runValue ?_)
        have hh3 : A.in1.in1.in1.handled = none := by simp [hh]
        have hz1 : (s.heap.push { cls := .type "set", dict := none, data := .set #[] 0 (.fresh 0 0 (!w.params.followText "set-order")) }).objs.size = s.heap.objs.size + 1 := Heap.size_push ..
        have hSf : s.heap.objs.size ∉ [(s.heap.push { cls := .type "set", dict := none, data := .set #[] 0 (.fresh 0 0 (!w.params.followText "set-order")) }).objs.size] := by
          rw [hz1]
          intro hm
          have q : s.heap.objs.size = s.heap.objs.size + 1 := by simpa using hm
          exact absurd q (Nat.ne_of_lt (Nat.lt_succ_self _))
        have hisz : x.cps.size = xs.length := by rw [hxs]; simp
        have hit : ∀ (i : Nat) (v : Value), SignAt x i v → ∃ k t, xs[i]? = some k ∧ v = Value.str k t := fun i v ⟨c, u, hc, hv⟩ => ⟨⟨#[c]⟩, u, by rw [hxs, List.getElem?_map, Array.getElem?_toList, hc]; rfl, hv⟩
        refine txR_loop ((hW _ hh3).toS) s.heap.objs.size hSf xs hisz hb hit (x.cps.size - 0) 0 _ (by omega) (Nat.zero_le _)
          hSt ⟨[], Nat.zero_le _, fun x => by simp, txR_new (Heap.get?_push_of_some _ hS)⟩ fun s' ks hm hc' hx' hS' => ?_
        obtain ⟨h', g2, d', tk', os'⟩ := s'
        obtain rfl : g2 = s.gens := hm.gens
        obtain rfl : d' = s.drawn := hm.drawn
        obtain rfl : os' = s.os := hm.os
        show wpAny _ _ _ _ _ _
        refine wpAny_pure ?_
        show wpAny _ _ (ret Value.none) _ _ _
        refine wpAny_pure ⟨rfl, h', tk', ks, rfl, hS', by omega, hx', fun b o e => ?_⟩
        have hbl : b < s.heap.objs.size := Heap.lt_size e
        refine hm.heap b o (fun z => ?_) (Heap.get?_push_of_some _ (Heap.get?_push_of_some _ e))
        have z' : b = s.heap.objs.size ∨ b = (s.heap.push { cls := .type "set", dict := none, data := .set #[] 0 (.fresh 0 0 (!w.params.followText "set-order")) }).objs.size := by simpa using z
        rcases z' with q | q
        · exact absurd q (Nat.ne_of_lt hbl)
        · rw [hz1] at q
          exact absurd q (Nat.ne_of_lt (Nat.lt_succ_of_lt hbl))
      · cases r₂ with
        | error e => exact hr₂
        | ok fl₂ =>
          cases fl₂ with
          | ret r =>
            obtain ⟨rfl, h', tk, ks, rfl, hS', g1, g2, hk'⟩ := hr₂
            repeat (any_goals (first | assumption | wp_step))
            exact h _ _ _ hS' g1 g2 hk'
          | _ => exact hr₂.elim
    | _ => exact hr.elim

/-! ### sorted -/
theorem str_of_is {k : Str} {v : Value} (h : (strKind P w).is k v = true) : ∃ t, v = .str k t := by
  have h' : Value.isStrOf k v = true := h
  cases v with
  | str y t =>
    have : y = k := by simpa [Value.isStrOf] using h'
    exact ⟨t, by rw [this]⟩
  | _ => simp [Value.isStrOf] at h'
def keyS : Value → Str
  | .str x _ => x
  | _ => Str.empty
theorem txR_keys {es : Array (Int × Value)} {ep : Nat} {t : SetTable} {l : List Str} (F : TxOk P w (es, ep, t) l) (nd : l.Nodup) : (∀ e ∈ es.toList, ∃ k u, e.2 = .str k u) ∧ (es.toList.map fun e => keyS e.2).Perm l := by
  have h1 : ∀ e ∈ es.toList, ∃ k u, e.2 = .str k u := fun e he => by
    obtain ⟨⟨k, hk, _⟩, _⟩ := F.el e he
    obtain ⟨u, q⟩ := str_of_is hk
    exact ⟨k, u, q⟩
  refine ⟨h1, ?_⟩
  have hm : ∀ k, k ∈ l ↔ k ∈ es.toList.map fun e => keyS e.2 := fun k => by
    rw [F.mem k, List.mem_map]
    refine ⟨fun ⟨e, he, q⟩ => ⟨e, he, ?_⟩, fun ⟨e, he, q⟩ => ⟨e, he, ?_⟩⟩
    · obtain ⟨u, z⟩ := str_of_is q
      rw [z]; rfl
    · obtain ⟨k', u, z⟩ := h1 e he
      rw [z] at q ⊢
      obtain rfl : k' = k := q
      exact is_str k' u
  have hlen : (es.toList.map fun e => keyS e.2).length = l.length := by
    rw [List.length_map, Array.length_toList]
    exact F.sz
  exact perm_of_sub nd (fun k hk => (hm k).mp hk) (by omega)
end
end PD

set_option Elab.async false
set_option linter.all false
set_option maxRecDepth 100000
set_option maxHeartbeats 4000000
/-! sorted(set(list of texts)). -/
namespace PD
open PySem L2 PySem.Spec PyProof.Rows PySem.Froz
open PySem.W (EachIs)

/-! ### rising lists of codes -/
theorem rise_ext : ∀ {l m : List (List Nat)}, l.Pairwise (· < ·) → m.Pairwise (· < ·) → (∀ x, x ∈ l ↔ x ∈ m) → l = m
  | [], [], _, _, _ => rfl
  | [], y :: m, _, _, h => absurd ((h y).mpr List.mem_cons_self) (by simp)
  | x :: l, [], _, _, h => absurd ((h x).mp List.mem_cons_self) (by simp)
  | x :: l, y :: m, hl, hm, h => by
    obtain ⟨l1, l2⟩ := List.pairwise_cons.mp hl
    obtain ⟨m1, m2⟩ := List.pairwise_cons.mp hm
    have e : x = y := by
      rcases List.mem_cons.mp ((h x).mp List.mem_cons_self) with q | q
      · exact q
      · rcases List.mem_cons.mp ((h y).mpr List.mem_cons_self) with z | z
        · exact z.symm
        · exact absurd (List.lt_trans (m1 x q) (l1 y z)) (List.lt_irrefl _)
    subst e
    rw [rise_ext l2 m2 fun z => ?_]
    constructor
    · intro hz
      rcases List.mem_cons.mp ((h z).mp (List.mem_cons_of_mem _ hz)) with q | q
      · subst q; exact absurd (l1 z hz) (List.lt_irrefl _)
      · exact q
    · intro hz
      rcases List.mem_cons.mp ((h z).mpr (List.mem_cons_of_mem _ hz)) with q | q
      · subst q; exact absurd (m1 z hz) (List.lt_irrefl _)
      · exact q
theorem insS_mem (a : List Nat) : ∀ (l : List (List Nat)) (x : List Nat), x ∈ insS a l ↔ x = a ∨ x ∈ l
  | [], x => by simp [insS]
  | b :: r, x => by
    unfold insS
    split
    · simp
    · split
      · rename_i e
        subst e
        simp
      · simp only [List.mem_cons, insS_mem a r x]
        exact ⟨fun h => by rcases h with h | h | h <;> simp [h], fun h => by rcases h with h | h | h <;> simp [h]⟩
theorem lt_of_not {a b : List Nat} (h1 : ¬ a < b) (h2 : a ≠ b) : b < a := by
  rcases Classical.em (b < a) with h | h
  · exact h
  · exact absurd (List.le_antisymm (List.not_lt.mp h) (List.not_lt.mp h1)) h2
theorem insS_rise (a : List Nat) : ∀ (l : List (List Nat)), l.Pairwise (· < ·) → (insS a l).Pairwise (· < ·)
  | [], _ => by simp [insS]
  | b :: r, h => by
    obtain ⟨h1, h2⟩ := List.pairwise_cons.mp h
    unfold insS
    split
    · rename_i c
      refine List.pairwise_cons.mpr ⟨fun y hy => ?_, h⟩
      rcases List.mem_cons.mp hy with q | q
      · subst q; exact c
      · exact List.lt_trans c (h1 y q)
    · rename_i c
      split
      · exact h
      · rename_i d
        refine List.pairwise_cons.mpr ⟨fun y hy => ?_, insS_rise a r h2⟩
        rcases (insS_mem a r y).mp hy with q | q
        · subst q; exact lt_of_not c d
        · exact h1 y q
theorem foldS (ss : List (List Nat)) : ∀ acc : List (List Nat), acc.Pairwise (· < ·) → (ss.foldl (fun acc a => insS a acc) acc).Pairwise (· < ·) ∧ ∀ x, x ∈ ss.foldl (fun acc a => insS a acc) acc ↔ x ∈ ss ∨ x ∈ acc := by
  induction ss with
  | nil => intro acc h; exact ⟨h, fun x => by simp⟩
  | cons a r ih =>
    intro acc h
    obtain ⟨i1, i2⟩ := ih (insS a acc) (insS_rise a acc h)
    refine ⟨i1, fun x => ?_⟩
    rw [List.foldl_cons, i2 x, insS_mem, List.mem_cons]
    constructor
    · rintro (h | h | h) <;> simp [h]
    · rintro ((h | h) | h) <;> simp [h]
theorem sortSet_rise (ss : List (List Nat)) : (sortSetS ss).Pairwise (· < ·) := (foldS ss [] List.Pairwise.nil).1
theorem sortSet_mem (ss : List (List Nat)) (x : List Nat) : x ∈ sortSetS ss ↔ x ∈ ss := by
  rw [sortSetS, (foldS ss [] List.Pairwise.nil).2 x]
  simp
def leS (a b : Str) : Bool := decide (a.cps.toList ≤ b.cps.toList)
theorem tx_self (x : Str) : tx x.cps.toList = x := by cases x; rfl
/-- the sorted texts of a set are the codes' rising list -/
theorem sort_eq {ks : List Str} {ss : List (List Nat)} (nd : ks.Nodup) (h : ∀ x, x ∈ ks ↔ x ∈ ss.map tx) : ks.mergeSort leS = (sortSetS ss).map tx := by
  have tr : ∀ a b c : Str, leS a b = true → leS b c = true → leS a c = true := fun a b c h1 h2 => decide_eq_true (List.le_trans (of_decide_eq_true h1) (of_decide_eq_true h2))
  have tot : ∀ a b : Str, (leS a b || leS b a) = true := fun a b => by
    rcases List.le_total a.cps.toList b.cps.toList with q | q
    · rw [show leS a b = true from decide_eq_true q]; rfl
    · rw [show leS b a = true from decide_eq_true q, Bool.or_true]
  have pw := List.pairwise_mergeSort tr tot ks
  have pm := List.mergeSort_perm ks leS
  have nd2 : (ks.mergeSort leS).Nodup := pm.nodup_iff.mpr nd
  have e : (ks.mergeSort leS).map (fun x => x.cps.toList) = sortSetS ss := by
    refine rise_ext ?_ (sortSet_rise ss) fun x => ?_
    · rw [List.pairwise_map]
      have both := List.pairwise_and_iff.mpr ⟨pw, nd2⟩
      refine both.imp fun {a b} h => ?_
      have h1 : a.cps.toList ≤ b.cps.toList := of_decide_eq_true h.1
      rcases Classical.em (a.cps.toList < b.cps.toList) with q | q
      · exact q
      · refine absurd ?_ h.2
        have := List.le_antisymm h1 (List.not_lt.mp q)
        rw [← tx_self a, this, tx_self]
    · rw [sortSet_mem, List.mem_map]
      constructor
      · rintro ⟨y, hy, rfl⟩
        obtain ⟨z, hz, rfl⟩ := List.mem_map.mp ((h y).mp (pm.mem_iff.mp hy))
        exact hz
      · intro hx
        exact ⟨tx x, pm.mem_iff.mpr ((h _).mpr (List.mem_map.mpr ⟨x, hx, rfl⟩)), rfl⟩
  rw [← e, List.map_map]
  exact (List.map_id' _).symm.trans (List.map_congr_left fun x _ => (tx_self x).symm)
theorem txs_id (l : List Str) : (l.map fun x => x.cps.toList).map tx = l := by
  rw [List.map_map]
  exact (List.map_congr_left fun y _ => tx_self y).trans (List.map_id' l)
section
variable {P : Program} {w : World} {A : Around} {E : Value → Shared → Prop} {s : Shared} {a : Addr} {l : List Str}
abbrev IsTx (v : Value) (x : Str) : Prop := ∃ t, v = Value.str x t
theorem each_keys' : ∀ (vs : List Value), (∀ v ∈ vs, ∃ k u, v = Value.str k u) → EachIs IsTx vs (vs.map keyS)
  | [], _ => .nil
  | v :: vs, h => by
    obtain ⟨k, u, rfl⟩ := h v List.mem_cons_self
    exact .cons ⟨u, rfl⟩ (each_keys' vs fun x hx => h x (List.mem_cons_of_mem _ hx))
theorem each_vals : ∀ {vs : List Value} {bs : List Str}, EachIs IsTx vs bs → Vals (bs.map V.str) vs
  | _, _, .nil => .nil
  | _, _, .cons ⟨t, e⟩ r => by subst e; exact .cons ⟨t, rfl⟩ (each_vals r)
theorem sorted_txts {Q : Value → Shared → Prop} (R : TxR P w s.heap a l) (hh : A.handled = none) (hb : l.length < scanBound) (hu : A.units + 4 < cLine)
    (hQ : ∀ s' p (out : List Value) (c : Nat), (∀ b o, s.heap.get? b = some o → s'.heap.get? b = some o) → s'.gens = s.gens → s'.os = s.os → s.heap.objs.size ≤ p →
      s'.heap.get? p = some (seqObj "list" out.toArray c) → EachIs IsTx out (l.mergeSort leS) → Q (.ref p) s') :
    wpAny (model P w) A (call (.builtin "sorted") [.ref a]) Q E s := by
  obtain ⟨⟨es, ep, t⟩, ho, F, nd, hr, hl⟩ := R
  have hsz : es.size = l.length := F.sz
  obtain ⟨k1, k2⟩ := txR_keys F nd
  refine Calls.call_function_entry kind_sorted plain_sorted entry_sorted (args_sorted1 _) ?_
  unfold Builtin.«sorted»
  refine wpAny_bind (m := checkCount "sorted" 1 1 _) (wpAny_pure ?_)
  refine wpAny_bind (collect_set (A := A.in1) hh ⟨_, ho, rfl, rfl⟩ F.fit (by rw [hsz]; exact hb) hr hl fun s1 vs kp hz g1 o1 pm => ?_)
  have hv : ∀ v ∈ vs, ∃ k u, v = Value.str k u := fun v hv => by
    obtain ⟨e, he, q⟩ := List.mem_map.mp (pm.mem_iff.mp hv)
    rw [← q]; exact k1 e he
  have pk : (vs.map keyS).Perm l := by
    have q := pm.map keyS
    rw [List.map_map] at q
    exact q.trans k2
  have hvl : vs.length = l.length := by rw [← List.length_map (f := keyS)]; exact pk.length_eq
  have hfit : vs.length ≤ sizeLine := by rw [hvl]; exact fits_of_scanBound hb
  refine wpAny_bind (wpAny_newList ?_ hfit)
  have hoL : (s1.heap.push (seqObj "list" vs.toArray 0)).get? s1.heap.objs.size = some (seqObj "list" vs.toArray 0) := Heap.get?_push_size _ rfl
  have e0 := each_keys' vs hv
  refine wpAny_bind (wpAny_holding (PySem.W.list_sort_data (R := IsTx) (enc := fun x : Str => PyData.str x) (s := { s1 with heap := s1.heap.push (seqObj "list" vs.toArray 0) }) hoL e0 (e0.mono fun v x ⟨u, q⟩ => ⟨[], by rw [q]; exact .str _ _, by simp⟩)
    (PySem.W.AllAlike.of fun b b' => by simp [PySem.W.alike]) (PySem.W.Sortable.others fun b => ⟨by simp, by simp⟩) (by rw [List.length_map]; exact hfit) (fun b _ => ?_) fun out ho2 eo => ?_))
  · show A.in1.units + 1 + (PyData.str b).depth < cLine
    have : (PyData.str b).depth = 0 := by simp [PyData.depth]
    rw [this]
    have : A.in1.units ≤ A.units + 1 := by first | exact Nat.le_refl _
    omega
  · obtain ⟨c, hc⟩ := sortedHeap_at (vs := vs) (out := out.toArray) hoL
    rw [PySem.W.dataLe_str (k := fun b : Str => b)] at eo
    have em : (vs.map keyS).mergeSort leS = l.mergeSort leS := by
      have q := sort_eq (ss := l.map fun x => x.cps.toList) (pk.nodup_iff.mpr nd) fun x => by
        rw [pk.mem_iff, txs_id]
      have q2 := sort_eq (ss := l.map fun x => x.cps.toList) nd fun x => by
        rw [txs_id]
      rw [q, q2]
    have eo' : EachIs IsTx out (l.mergeSort leS) := by rw [← em]; exact eo
    refine wpAny_pure ⟨_, rfl, hQ _ s1.heap.objs.size out c (fun b u e => ?_) g1 o1 hz hc eo'⟩
    have q := kp b u e
    have hlt := Heap.lt_size q
    show (sortedHeap (s1.heap.push (seqObj "list" vs.toArray 0)) s1.heap.objs.size vs out.toArray).get? b = some u
    rw [sortedHeap_old (Nat.ne_of_lt hlt) (by rw [size_push']; exact Nat.lt_succ_of_lt hlt)]
    exact Heap.get?_push_of_some _ q
end
section
variable {X : Cx}
def TxO (P : Program) (w : World) (a : Addr) (l : List Str) : HO := .ext fun h => TxR P w h a l
theorem txO_new {P : Program} {w : World} {H : Hp} {h : Heap} {a : Addr} {l : List Str} (R : TxR P w h a l) : ObjOk P w H h a (TxO P w a l) := by
  obtain ⟨D, ho, r⟩ := id R
  exact ⟨R, ⟨_, ho⟩, fun h1 h2 p k => TxR.at p k⟩
/-- set(xs), xs a list of texts -/
def rSetTx (K : PySem.W.Frag) (P : Program) (w : World) : List V → Hp → VK → Prop := fun xs H Q => ∃ (ss : List Str), ((∃ l : Addr, xs = [V.ref l] ∧ SqL K H l (ss.map V.str)) ∨ ∃ x : Str, xs = [V.str x] ∧ ss = x.cps.toList.map fun c => (⟨#[c]⟩ : Str)) ∧ ss.length + 1 < scanBound ∧
  ∀ a ks, H a = none → ks.Nodup → ks.length ≤ ss.length → (∀ x, x ∈ ks ↔ x ∈ ss) → Q (.ref a) (upd H a (TxO P w a ks))
theorem cr_setTx (hc : X.calm = true) : CallR X (.type "set") (rSetTx X.K X.prog X.w) := by
  intro pins s σ H xs us Q I r h
  obtain ⟨ss, hk, hf, q⟩ := h
  have hn : H s.heap.objs.size = none := I.hok.fresh (Nat.le_refl _)
  rcases hk with ⟨l, rfl, hl⟩ | ⟨x, rfl, hx⟩
  case inr =>
    obtain ⟨u, rfl, t, rfl⟩ := r.one
    refine call_set_str (P := X.prog) (w := X.w) x t ss hx (I.ok.hd hc) hf fun h' tk ks R g1 g2 k => ?_
    obtain ⟨D, _, _, nd, _⟩ := id R
    exact ⟨.ref s.heap.objs.size, upd H s.heap.objs.size (TxO X.prog X.w s.heap.objs.size ks), I.laid (t' := tk) k (Nat.le_refl _) (txO_new R), rfl, q _ ks hn nd g1 g2⟩
  rw [Vals.ref1 r]
  obtain ⟨its, rv, pl, hz⟩ := I.list hl
  have hlen := rv.length
  rw [List.length_map] at hlen
  refine call_set_txts (P := X.prog) (w := X.w) ss (I.ok.hd hc) pl.isList (fun i v hv => ?_) (by simp; omega) hf fun h' tk ks R g1 g2 k => ?_
  · have hv' : its[i]? = some v := by simpa using hv
    have hi : i < its.length := (List.getElem?_eq_some_iff.mp hv').1
    have hi2 : i < ss.length := by omega
    have hx : (ss.map V.str)[i]? = some (V.str ss[i]) := by rw [List.getElem?_map, List.getElem?_eq_getElem hi2]; rfl
    obtain ⟨u, hu, ⟨t, e⟩⟩ := rv.get hx
    rw [hv'] at hu
    cases hu
    exact ⟨_, t, List.getElem?_eq_getElem hi2, e⟩
  · obtain ⟨D, _, _, nd, _⟩ := id R
    exact ⟨.ref s.heap.objs.size, upd H s.heap.objs.size (TxO X.prog X.w s.heap.objs.size ks), I.laid (t' := tk) k (Nat.le_refl _) (txO_new R), rfl, q _ ks hn nd g1 g2⟩
def rSortTx (P : Program) (w : World) : List V → Hp → VK → Prop := fun vs H Q => ∃ (a : Addr) (l : List Str), vs = [V.ref a] ∧ H a = some (TxO P w a l) ∧ l.length < scanBound ∧
  ∀ p, H p = none → Q (.ref p) (upd H p (.lst ((l.mergeSort leS).map V.str)))
theorem cr_sortTx (hc : X.calm = true) (hu : X.A.units + 4 < cLine) : CallR X (.builtin "sorted") (rSortTx X.prog X.w) := by
  intro pins s σ H vs us Q I r h
  obtain ⟨a, l, rfl, ha, hb, q⟩ := h
  have R : TxR X.prog X.w s.heap a l := (I.hok a _ ha).1
  rw [Vals.ref1 r]
  refine sorted_txts R (I.ok.hd hc) hb hu fun s' p out c k g o hp hg eo => ?_
  have hv := each_vals eo
  have hlen : ((l.mergeSort leS).map V.str).length ≤ sizeLine := by
    rw [List.length_map, (List.mergeSort_perm l leS).length_eq]; exact fits_of_scanBound hb
  have hn : H p = none := I.hok.fresh hp
  have J : Inv X pins σ (upd H p (.lst ((l.mergeSort leS).map V.str))) { s with heap := s'.heap, gens := s'.gens, drawn := s'.drawn, toks := s'.toks } :=
    I.call (ch := []) (Un.laid k hp hn) (I.hok.laid k hp ⟨hlen, out, c, hv, hg⟩) (by rw [g]; exact I.bare) (fun _ z => nomatch z)
  have e : s' = { s with heap := s'.heap, gens := s'.gens, drawn := s'.drawn, toks := s'.toks } := by
    cases s'
    cases s
    cases o
    rfl
  rw [e]
  exact ⟨.ref p, _, J, rfl, q p hn⟩
end
end PD

set_option Elab.async false
set_option linter.all false
set_option maxRecDepth 100000
set_option maxHeartbeats 4000000
/-! What a checked expression does: the proof, by the small language's own shape. -/
namespace PD
open PySem L2

section
variable {nm : Nm} {P : Sg} {C : Con} {W : TW} {X : Cx} {bk : Bool}

/-! ### targets -/
theorem Good.blk (g : Good nm P C W bk X) (s : Shared) (H : Hp) (scope : Scope) (cl : List (Str × Addr)) (Ca : Addr) (fp : List Addr) : Good nm P C W true (X.blk s H scope (compEnvC scope cl Ca X.env) fp) :=
  ⟨g.calm, g.hN, g.nd, g.hK, g.tk, g.pns, PySem.PassesOwn.never, g.units, (fun e => by cases e), g.blt, g.rng, g.isn, g.bool, g.oth, g.cst, g.fns, g.gen⟩
theorem Good.loc (g : Good nm P C W bk X) {x : Str} (h : locB bk X.env.scope x = true) : Loc X.env.scope x ∧ (X.fn x = true ∨ X.env.scope.names.lookup x = some .local) := by
  rcases loc_of h with h | ⟨h, e⟩
  · exact ⟨.inl h, .inr h⟩
  · exact ⟨.inr h, .inl (g.fnc e x h)⟩
theorem wipe_set {σ : St} {i : Nat} {v : Option V} : ∀ {own : List Nat}, i ∈ own → wipe (σ.set i v) own = wipe σ own
  | [], h => by simp at h
  | w :: ws, h => by
    by_cases hm : i ∈ ws
    · unfold wipe
      rw [wipe_set hm]
    · have e : i = w := by rcases List.mem_cons.mp h with e | e; exact e; exact absurd e hm
      subst e
      have aux : ∀ ws : List Nat, i ∉ ws → wipe (σ.set i v) ws = (wipe σ ws).set i v := by
        intro ws
        induction ws with
        | nil => intro _; rfl
        | cons u us ih =>
          intro hn
          have hu : u ≠ i := fun q => hn (q ▸ List.mem_cons_self)
          have hus : i ∉ us := fun q => hn (List.mem_cons_of_mem _ q)
          unfold wipe
          rw [ih hus, List.set_comm _ _ hu.symm]
      unfold wipe
      rw [aux ws hm, List.set_set]
/-- the items of a tuple to as many targets -/
def RdGs (C : Con) (W : TW) (t : T) : TGs := fun vs σ H Q => ∃ F0 H0 F ρ τ xs ρ', Rel C W F0 H0 F H σ ρ τ ∧ RA C F vs xs ∧ bindT t (.tup xs) ρ = some ρ' ∧ ∀ σ', Rel C W F0 H0 F H σ' ρ' τ → (∀ own : List Nat, (∀ i ∈ slotsT t, i ∈ own) → wipe σ' own = wipe σ own) → Q σ' H
def lenT : T → Option Nat
  | .nil => some 0
  | .cons _ ts => (lenT ts).map (· + 1)
  | .nm _ => none
theorem lenT_of : ∀ {t : T} {n : Nat} {xs : List D} {ρ ρ' : Env'}, lenT t = some n → bindT t (.tup xs) ρ = some ρ' → xs.length = n
  | .nm i, _, _, _, _, h, _ => by cases h
  | .nil, n, xs, ρ, ρ', h, k => by
    cases xs with
    | nil => exact Option.some.inj h
    | cons x xs => simp [bindT] at k
  | .cons t ts, n, xs, ρ, ρ', h, k => by
    cases xs with
    | nil => simp [bindT] at k
    | cons x xs =>
      simp only [lenT, Option.map_eq_some_iff] at h
      obtain ⟨m, h1, rfl⟩ := h
      simp only [bindT, Option.bind_eq_some_iff] at k
      obtain ⟨ρ1, _, k2⟩ := k
      rw [List.length_cons, lenT_of h1 k2]
theorem chk_len {sc : Scope} : ∀ {t : T} {es : List Expr} {k : Nat} {p : Pos}, chkTg nm bk sc t (.Tuple es k p) = true → lenT t = some es.length ∧ noStars es = true
  | .nm i, es, k, p, h => by simp [chkTg] at h
  | .nil, es, k, p, h => by
    cases es with
    | nil => exact ⟨rfl, rfl⟩
    | cons e es => simp [chkTg] at h
  | .cons t ts, es, k, p, h => by
    cases es with
    | nil => simp [chkTg] at h
    | cons e es =>
      simp only [chkTg, Bool.and_eq_true] at h
      obtain ⟨h1, h2⟩ := chk_len h.2
      refine ⟨by rw [lenT, h1]; rfl, ?_⟩
      unfold noStars at h2 ⊢
      rw [List.all_cons, h.1.1, h2]; rfl
theorem assignEach_of {env : Env} : ∀ {es : List Expr}, noStars es = true → (assignEach es env).length = es.length ∧ (assignEach es env).findIdx? (·.1) = none
  | [], _ => ⟨rfl, rfl⟩
  | e :: es, h => by
    unfold noStars at h
    simp only [List.all_cons, Bool.and_eq_true] at h
    obtain ⟨a, b⟩ := assignEach_of (env := env) (es := es) h.2
    have e1 : assignEach (e :: es) env = (false, assign e env) :: assignEach es env := by
      have h1 := h.1
      cases e <;> first | rfl | cases h1
    rw [e1]
    refine ⟨by rw [List.length_cons, List.length_cons, a], ?_⟩
    rw [List.findIdx?_cons, b]; rfl
mutual
theorem tg_ok (g : Good nm P C W bk X) : ∀ (t : T) (z : Expr), chkTg nm bk X.env.scope t z = true → PG X z (RdG C W t)
  | .nm i, z, h => by
    cases z with
    | Name x pos =>
      simp only [chkTg, Bool.and_eq_true, decide_eq_true_eq] at h
      have hl := g.loc h.2
      refine pg_imp (pg_name (i := i) g.nd (by rw [g.hN]; exact h.1) hl.1 hl.2) ?_
      rintro v σ H Q ⟨F0, H0, F, ρ, τ, x, ρ', r, rv, hb, k⟩
      simp only [bindT] at hb
      obtain rfl := Option.some.inj hb
      exact k _ (r.setD i rv) fun own ho => wipe_set (ho i (by simp [slotsT]))
    | _ => simp [chkTg] at h
  | .nil, z, h => tup_ok g .nil z h
  | .cons t ts, z, h => by
    cases z with
    | Tuple es k pos =>
      have hh := h
      obtain ⟨hl, hs⟩ := chk_len hh
      obtain ⟨a1, a2⟩ := assignEach_of (env := X.env) hs
      cases es with
      | nil => simp [chkTg] at h
      | cons e es =>
        simp only [chkTg, Bool.and_eq_true] at h
        have h1 := tg_ok g t e h.1.2
        have h2 := tgs_ok g ts es k pos h.2
        have e1 : (assignEach (e :: es) X.env).map (·.2) = assign e X.env :: (assignEach es X.env).map (·.2) := by
          have h1 := h.1.1
          cases e <;> first | rfl | cases h1
        refine pg_imp (pg_tup g.calm (pgs_cons h1 h2 e1) a1 a2) ?_
        rintro v σ H Q ⟨F0, H0, F, ρ, τ, x, ρ', r, rv, hb, q⟩
        cases x with
        | tup xs =>
          have hxl := lenT_of hl hb
          cases rv with
          | @tup a vs _ s1 s2 s3 =>
            refine ⟨a, vs, rfl, by rw [← g.hK]; exact sqT_sub r.sub s1, by rw [s2.len]; exact hxl, ?_⟩
            cases xs with
            | nil => simp [bindT] at hb
            | cons y ys =>
              cases s2 with
              | cons t1 t2 =>
                simp only [bindT, Option.bind_eq_some_iff] at hb
                obtain ⟨ρ1, hb1, hb2⟩ := hb
                exact ⟨_, _, rfl, F0, H0, F, ρ, τ, y, ρ1, r, t1, hb1, fun σ' r' w1 => ⟨F0, H0, F, ρ1, τ, ys, ρ', r', t2, hb2, fun σ'' r'' w2 => q σ'' r'' fun own ho => (w2 own fun i hi => ho i (by simp [slotsT, hi])).trans (w1 own fun i hi => ho i (by simp [slotsT, hi]))⟩⟩
        | _ => simp [bindT] at hb
    | _ => simp [chkTg] at h
theorem tup_ok (g : Good nm P C W bk X) : ∀ (t : T) (z : Expr), chkTg nm bk X.env.scope .nil z = true → PG X z (RdG C W .nil)
  | _, z, h => by
    cases z with
    | Tuple es k pos =>
      cases es with
      | nil =>
        refine pg_imp (pg_tup (n := 0) g.calm pgs_nil) ?_
        rintro v σ H Q ⟨F0, H0, F, ρ, τ, x, ρ', r, rv, hb, q⟩
        cases x with
        | tup xs =>
          cases xs with
          | nil =>
            cases rv with
            | @tup a vs _ s1 s2 s3 =>
              cases s2
              simp only [bindT] at hb
              obtain rfl := Option.some.inj hb
              exact ⟨a, [], rfl, by rw [← g.hK]; exact sqT_sub r.sub s1, rfl, rfl, q _ r fun _ _ => rfl⟩
          | cons y ys => simp [bindT] at hb
        | _ => simp [bindT] at hb
      | cons e es => simp [chkTg] at h
    | _ => simp [chkTg] at h
theorem tgs_ok (g : Good nm P C W bk X) : ∀ (t : T) (es : List Expr) (k : Nat) (pos : Pos), chkTg nm bk X.env.scope t (.Tuple es k pos) = true → PGs X es (RdGs C W t)
  | .nm i, es, k, pos, h => by simp [chkTg] at h
  | .nil, es, k, pos, h => by
    cases es with
    | nil =>
      refine ⟨fun pins s σ H vs us Q I r q => pgs_nil.run pins s σ H vs us Q I r ?_⟩
      obtain ⟨F0, H0, F, ρ, τ, xs, ρ', rl, rv, hb, q⟩ := q
      cases xs with
      | nil =>
        cases rv
        simp only [bindT] at hb
        obtain rfl := Option.some.inj hb
        exact ⟨rfl, q _ rl fun _ _ => rfl⟩
      | cons y ys => simp [bindT] at hb
    | cons e es => simp [chkTg] at h
  | .cons t ts, es, k, pos, h => by
    cases es with
    | nil => simp [chkTg] at h
    | cons e es =>
      simp only [chkTg, Bool.and_eq_true] at h
      have h1 := tg_ok g t e h.1.2
      have h2 := tgs_ok g ts es k pos h.2
      have e1 : (assignEach (e :: es) X.env).map (·.2) = assign e X.env :: (assignEach es X.env).map (·.2) := by
        have h1 := h.1.1
        cases e <;> first | rfl | cases h1
      refine ⟨fun pins s σ H vs us Q I r q => (pgs_cons h1 h2 e1).run pins s σ H vs us Q I r ?_⟩
      obtain ⟨F0, H0, F, ρ, τ, xs, ρ', rl, rv, hb, q⟩ := q
      cases xs with
      | nil => simp [bindT] at hb
      | cons y ys =>
        cases rv with
        | cons t1 t2 =>
          simp only [bindT, Option.bind_eq_some_iff] at hb
          obtain ⟨ρ1, hb1, hb2⟩ := hb
          exact ⟨_, _, rfl, F0, H0, F, ρ, τ, y, ρ1, rl, t1, hb1, fun σ' r' w1 => ⟨F0, H0, F, ρ1, τ, ys, ρ', r', t2, hb2, fun σ'' r'' w2 => q σ'' r'' fun own ho => (w2 own fun i hi => ho i (by simp [slotsT, hi])).trans (w1 own fun i hi => ho i (by simp [slotsT, hi]))⟩⟩
end

/-! ### the operators' rules -/
theorem bin_ok (g : Good nm P C W bk X) {o p : Operator} (h : opEq o p = true) : OpR X (binaryOp p) (rD2 C (binD P.tk o)) := by
  cases o <;> cases p <;> first
    | (cases h; done)
    | (rw [g.tk]; exact add_D g.hK)
    | exact sub_D
    | (rw [g.tk]; exact mul_D g.hK)
    | exact mod_D
    | exact fdiv_D
    | exact pow_D
theorem Good.u64 (g : Good nm P C W bk X) : X.A.units + 64 < cLine := by have := g.units; omega
theorem cmp_ok (g : Good nm P C W bk X) {o p : CmpOp} (h : cmEq o p = true) : OpR X (compareOp p) (rD2 C (cmpD o)) := by
  cases o <;> cases p <;> first
    | (cases h; done)
    | exact eq_D g.hK g.u64
    | exact ne_D g.hK g.u64
    | exact lt_D
    | exact le_D
    | exact gt_D
    | exact ge_D
    | exact in_D g.hK g.u64
    | exact notIn_D g.hK g.u64
/-- a built-in called by name -/
theorem blt_pe (g : Good nm P C W bk X) {b : B} {y : Expr} {ys : List Expr} {p pos : Pos} {t : TA} (hg : glB X.env.scope (bN b) = true) (hs : noStars (y :: ys) = true) (ha : PA X (y :: ys) t) :
    PE X (.Call (.Name (bN b) p) (y :: ys) [] pos) (tCB (rDN C (bD P.tk b)) t) := by
  have hs' := hs
  unfold noStars at hs'
  simp only [List.all_cons, Bool.and_eq_true] at hs'
  have h1 := star_of (es := ys) (env := X.env) hs'.1
  have h2 := stars_of (env := X.env) (pos := pos) (show noStars ys = true from hs'.2)
  have hb := g.blt b
  have hgl := gl_of hg
  cases b with
  | len => exact pe_callB (len_D g.hK) hgl hb (by decide +kernel) ha (by decide +kernel) (by decide +kernel) h1 h2
  | int => exact pe_callTy int_D hgl hb (by decide +kernel) ha (by decide +kernel) (by decide +kernel) h1 h2
  | max => exact pe_callB (max_D g.calm) hgl hb (by decide +kernel) ha (by decide +kernel) (by decide +kernel) h1 h2
  | min => exact pe_callB (min_D g.calm) hgl hb (by decide +kernel) ha (by decide +kernel) (by decide +kernel) h1 h2
  | list => exact pe_callTy (list_D g.calm g.hK) hgl hb (by decide +kernel) ha (by decide +kernel) (by decide +kernel) h1 h2
  | tuple => rw [g.tk]; exact pe_callTy (tuple_D g.hK) hgl hb (by decide +kernel) ha (by decide +kernel) (by decide +kernel) h1 h2
  | str => exact pe_callTy str_D hgl hb (by decide +kernel) ha (by decide +kernel) (by decide +kernel) h1 h2
  | all => exact pe_callB (all_D g.calm) hgl hb (by decide +kernel) ha (by decide +kernel) (by decide +kernel) h1 h2
  | any => exact pe_callB (any_D g.calm) hgl hb (by decide +kernel) ha (by decide +kernel) (by decide +kernel) h1 h2
theorem mth_rule (g : Good nm P C W bk X) (m : M) : ∃ id : String, PySem.Slot "str" (mN m) id ∧ typeOf (.builtin id) = pure (.type "method_descriptor") ∧ MtR X id (rDM C (mD m)) := by
  cases m with
  | join => exact ⟨_, F.slot_str_join, F.type_str_join, join_D g.hK⟩
  | lower => exact ⟨_, F.slot_str_lower, F.type_str_lower, lower_D⟩
  | upper => exact ⟨_, F.slot_str_upper, F.type_str_upper, upper_D⟩
  | starts => exact ⟨_, F.slot_str_startswith, F.type_str_startswith, starts_D⟩
  | ends => exact ⟨_, F.slot_str_endswith, F.type_str_endswith, ends_D⟩
  | strip => exact ⟨_, F.slot_str_strip, F.type_str_strip, strip_D⟩
  | split => exact ⟨_, F.slot_str_split, F.type_str_split, split_D⟩
theorem mD_str {m : M} {a : D} {ds : List D} {d : D} (h : mD m a ds = some d) : ∃ s, a = .str s := by
  cases m <;> cases a <;> first | exact ⟨_, rfl⟩ | (simp [mD, joinD, lowerD, upperD, startsD, endsD, stripD, splitD, with1] at h)
end
end PD

set_option Elab.async false
set_option linter.all false
set_option maxRecDepth 100000
set_option maxHeartbeats 4000000
/-! What a checked expression does: comprehensions, then all. -/
namespace PD
open PySem L2
section
variable {nm : Nm} {P : Sg} {C : Con} {W : TW} {X : Cx} {bk : Bool}

/-! ### comprehensions -/
theorem Rel.wipe {F0 H0 F H : Hp} {σ : St} {ρ : Env'} {τ : TS} (r : Rel C W F0 H0 F H σ ρ τ) : ∀ own : List Nat, Rel C W F0 H0 F H (L2.wipe σ own) (wipeE ρ own) τ
  | [] => r
  | v :: vs => (Rel.wipe r vs).set v none .un trivial rfl
theorem TapeAt.mono {F H F' H' : Hp} {τ : TS} (t : TapeAt W F H τ) (x : ExtP F H F' H') : TapeAt W F' H' τ := t.extP x
theorem comp_rd {elt : E} {tg : T} {it : I} {c : Tt} {own : List Nat} (hs : ∀ i ∈ slotsT tg, i ∈ own) {σ : St} {H : Hp} {Q : VK} (h : RdE P C W (.comp elt tg it c own) σ H Q) :
    tLc (RdI P C W it) (RdG C W tg) (RdT P C W c) (RdE P C W elt) own σ H Q := by
  obtain ⟨F0, H0, F, ρ, τ, d, τ', r, e, k⟩ := h
  simp only [ev, Option.bind_eq_some_iff, Prod.exists] at e
  obtain ⟨xs, τ1, e1, ys, τ2, e2, e3⟩ := e
  split at e3
  · rename_i hz
    cases e3
    refine ⟨F0, H0, F, ρ, τ, xs, τ1, r, e1, fun J F1 H1 x1 r1 wk A hA => ?_⟩
    have nF1 : F1 A = none := r1.sub.none hA
    have ntp : A ≠ W.tp := fun e => by rw [e, r1.tape.at_] at hA; cases hA
    have nH0 : H0 A = none := by
      cases q : H0 A with
      | none => rfl
      | some o =>
        cases z : F0 A with
        | none => rw [(r1.base.hh A o q z ntp).1] at hA; cases hA
        | some u => rw [r1.sub _ _ (r1.base.ff _ _ z)] at hA; cases hA
    generalize hf : (fun (x : D) (τ1 : TS) => (bindT tg x (wipeE ρ own)).bind fun ρ1 => (evt P c ρ1 τ1).bind fun q => if q.1 then (ev P elt ρ1 q.2).map fun z => (some z.1, z.2) else some (none, q.2)) = f at e2
    have hfx : ∀ x τ1, f x τ1 = (bindT tg x (wipeE ρ own)).bind fun ρ1 => (evt P c ρ1 τ1).bind fun q => if q.1 then (ev P elt ρ1 q.2).map fun z => (some z.1, z.2) else some (none, q.2) := fun x τ1 => by rw [← hf]
    refine ⟨fun i m Hc => ∃ Fc τc vs ds rest, i ≤ xs.length ∧ m = xs.length - i ∧ Ext W.tp F1 H1 Fc Hc ∧ TapeAt W Fc Hc τc ∧ Hc A = some (.lst vs) ∧ Fc A = none ∧ RA C Fc vs ds ∧ compL f (xs.drop i) τc = some (rest, τ') ∧ ds ++ rest = ys,
      ⟨xs.length, F1, τ1, [], [], ys, Nat.zero_le _, rfl, Ext.raw r1.sub _ hA, r1.tape.raw _ hA, upd_same, nF1, .nil, by rw [List.drop_zero]; exact e2, rfl⟩, ?_⟩
    rintro i m Hc ⟨Fc, τc, vs, ds, rest, hi, rfl, xc, tc, hAc, nFc, ra, ec, eds⟩
    by_cases hlt : i < xs.length
    · refine .inr ⟨wk.go i Fc Hc xc.ff xc.fh hlt, fun Hn => ∃ Fn τn vs ds rest, Ext W.tp F1 H1 Fn Hn ∧ TapeAt W Fn Hn τn ∧ Hn A = some (.lst vs) ∧ Fn A = none ∧ RA C Fn vs ds ∧ compL f (xs.drop (i + 1)) τn = some (rest, τ') ∧ ds ++ rest = ys, ?_, fun x H' hy => ?_⟩
      · rintro Hn ⟨Fn, τn, vs', ds', rest', a1, a2, a3, a4, a5, a6, a7⟩
        exact ⟨xs.length - (i + 1), by omega, Fn, τn, vs', ds', rest', by omega, rfl, a1, a2, a3, a4, a5, a6, a7⟩
      · obtain ⟨d, F2, hd, x2, rx⟩ := wk.yld i Fc Hc x H' xc.ff xc.fh hlt hy
        have hdr : xs.drop i = d :: xs.drop (i + 1) := by
          rw [List.drop_eq_getElem_cons hlt]
          rw [List.getElem?_eq_getElem hlt] at hd
          rw [Option.some.inj hd]
        rw [hdr] at ec
        simp only [compL, Option.bind_eq_some_iff, Prod.exists] at ec
        obtain ⟨oy, τd, ef, rest1, τe, er, ee⟩ := ec
        rw [hfx] at ef
        simp only [Option.bind_eq_some_iff, Prod.exists] at ef
        obtain ⟨ρ1, eb, b, τb, et, ev'⟩ := ef
        have xd : Ext W.tp F1 H1 F2 H' := xc.tr x2.ext
        have td : TapeAt W F2 H' τc := tc.extP x2
        have rd : Rel C W F0 H0 F2 H' σ ρ τc := r1.ext xd td
        have hA2 := x2.hh A _ hAc nFc
        refine ⟨F0, H0, F2, wipeE ρ own, τc, d, ρ1, rd.wipe own, rx, eb, fun σ2 r2 w2 => ⟨w2 own hs |>.trans ?_, ?_⟩⟩
        · have : ∀ (σ : St) (l : List Nat), wipe (wipe σ l) l = wipe σ l := by
            intro σ l
            have key : ∀ (l m : List Nat) (σ : St), (∀ i ∈ l, i ∈ m) → wipe (wipe σ l) m = wipe σ m := by
              intro l
              induction l with
              | nil => intro m σ _; rfl
              | cons v vs ih =>
                intro m σ hm
                show wipe ((wipe σ vs).set v none) m = wipe σ m
                rw [wipe_set (hm v List.mem_cons_self)]
                exact ih m σ fun i hi => hm i (List.mem_cons_of_mem _ hi)
            exact key l l σ fun _ h => h
          exact this σ own
        · refine ⟨F0, H0, F2, ρ1, τc, b, τb, r2, et, fun F3 H3 x3 r3 => ?_⟩
          have hA3 := x3.hh A _ hA2.1 hA2.2 ntp
          cases b with
          | false =>
            simp only [Bool.false_eq_true, if_false] at ev' ⊢
            cases ev'
            cases ee
            exact ⟨F3, τd, vs, ds, rest1, xd.tr x3, r3.tape, hA3.1, hA3.2, RA.sub (x2.ff.tr x3.ff) ds ra, er, eds⟩
          | true =>
            simp only [if_true, Option.map_eq_some_iff, Prod.exists] at ev' ⊢
            obtain ⟨y, τy, ey, e4⟩ := ev'
            cases e4
            cases ee
            refine ⟨F0, H0, F3, ρ1, τb, y, τd, r3, ey, fun u F4 H4 x4 r4 ru => ?_⟩
            have hA4 := x4.hh A _ hA3.1 hA3.2 ntp
            refine ⟨vs, hA4.1, ?_, ?_⟩
            · rw [ra.len]
              rw [← eds, List.length_append, List.length_cons] at hz
              omega
            · refine ⟨F4, τd, vs ++ [u], ds ++ [y], rest1, ((xd.tr x3).tr x4).write _ hA hA4.2, r4.tape.write _ ntp, upd_same, hA4.2, (RA.sub ((x2.ff.tr x3.ff).tr x4.ff) ds ra).snoc ru, er, ?_⟩
              rw [List.append_assoc]; exact eds
    · have hi' : i = xs.length := by omega
      subst hi'
      rw [List.drop_length] at ec
      simp only [compL] at ec
      cases ec
      rw [List.append_nil] at eds
      subst eds
      refine .inl ⟨wk.stop Fc Hc xc.ff xc.fh, ?_⟩
      have xf : Ext W.tp F1 H1 (upd Fc A (.lst vs)) Hc := xc.freeze hA nFc hAc
      exact k _ _ _ (x1.tr xf) (r1.ext xf (tc.freeze _ ntp nFc)) (.lst upd_same (RA.sub (sub_upd nFc) ds ra))
  · cases e3

/-! ### what is walked -/
theorem wk_lst {K : PySem.W.Frag} {F : Hp} {a : Addr} {vs : List V} {xs : List D} (h : F a = some (.lst vs)) (r : RA C F vs xs) : Wk C (Itl K a) F xs where
  stop := fun F' H s1 s2 => ⟨vs, .inl (.inl (s2 _ _ (s1 _ _ h))), Nat.le_of_eq r.len⟩
  go := fun i F' H s1 s2 hi => by
    have hi' : i < vs.length := by rw [r.len]; exact hi
    exact ⟨vs, vs[i], .inl (.inl (s2 _ _ (s1 _ _ h))), List.getElem?_eq_getElem hi'⟩
  yld := fun i F1 H x H' s1 s2 hi y => by
    obtain ⟨e, y⟩ := y
    subst e
    have hx := y vs (.inl (.inl (s2 _ _ (s1 _ _ h))))
    obtain ⟨v, hv, rv⟩ := r.get (List.getElem?_eq_getElem hi)
    rw [hx] at hv; cases hv
    exact ⟨xs[i], F1, List.getElem?_eq_getElem hi, ExtP.rfl' s2, R.sub s1 _ rv⟩
theorem wk_tup {K : PySem.W.Frag} {F : Hp} {a : Addr} {vs : List V} {xs : List D} (h : SqT K F a vs) (r : RA C F vs xs) : Wk C (Itt K a) F xs where
  stop := fun F' H s1 s2 => ⟨vs, sqT_sub (s1.tr s2) h, Nat.le_of_eq r.len⟩
  go := fun i F' H s1 s2 hi => by
    have hi' : i < vs.length := by rw [r.len]; exact hi
    exact ⟨vs, vs[i], sqT_sub (s1.tr s2) h, List.getElem?_eq_getElem hi'⟩
  yld := fun i F1 H x H' s1 s2 hi y => by
    obtain ⟨e, y⟩ := y
    subst e
    have hx := y vs (sqT_sub (s1.tr s2) h)
    obtain ⟨v, hv, rv⟩ := r.get (List.getElem?_eq_getElem hi)
    rw [hx] at hv; cases hv
    exact ⟨xs[i], F1, List.getElem?_eq_getElem hi, ExtP.rfl' s2, R.sub s1 _ rv⟩
theorem wk_str {F : Hp} (s : List Nat) : Wk C (Its (tx s)) F (s.map fun c => .str [c]) where
  stop := fun F' H s1 s2 => by
    show s.toArray.size ≤ _
    simp
  go := fun i F' H s1 s2 hi => by
    show i < s.toArray.size
    simpa using hi
  yld := fun i F1 H x H' s1 s2 hi y => by
    obtain ⟨e, c, hc, rfl⟩ := y
    subst e
    have hc' : s[i]? = some c := by simpa using hc
    refine ⟨.str [c], F1, ?_, ExtP.rfl' s2, .str [c]⟩
    rw [List.getElem?_map, hc']; rfl
theorem wk_rngC {F : Hp} (a : Int) (c : Int) (n : Nat) : Wk C (Itc a c n) F (rangeD a n c) where
  stop := fun F' H s1 s2 => by
    show n ≤ _
    simp [rangeD]
  go := fun i F' H s1 s2 hi => by
    show i < n
    simpa [rangeD] using hi
  yld := fun i F1 H x H' s1 s2 hi y => by
    obtain ⟨e, rfl⟩ := y
    subst e
    have hi' : i < n := by simpa [rangeD] using hi
    refine ⟨.int (a + (i : Nat) * c), F1, ?_, ExtP.rfl' s2, .int _⟩
    simp [rangeD, hi']
theorem wk_rng {F : Hp} (a : Int) (n : Nat) : Wk C (Itr a n) F (rangeD a n 1) where
  stop := fun F' H s1 s2 => by
    show n ≤ _
    simp [rangeD]
  go := fun i F' H s1 s2 hi => by
    show i < n
    simpa [rangeD] using hi
  yld := fun i F1 H x H' s1 s2 hi y => by
    obtain ⟨e, rfl⟩ := y
    subst e
    have hi' : i < n := by simpa [rangeD] using hi
    refine ⟨.int (a + (i : Nat)), F1, ?_, ExtP.rfl' s2, .int _⟩
    simp [rangeD, hi']
end
end PD

set_option Elab.async false
set_option linter.all false
set_option maxRecDepth 100000
set_option maxHeartbeats 4000000
/-! What a checked expression does. -/
namespace PD
open PySem L2
section
variable {nm : Nm} {P : Sg} {C : Con} {W : TW}

/-! ### readings put together -/
section
variable {X : Cx}
theorem rd_bin {o : Operator} {a b : E} {σ : St} {H : Hp} {Q : VK} (h : RdE P C W (.bin o a b) σ H Q) : tOp (rD2 C (binD P.tk o)) (RdE P C W a) (RdE P C W b) σ H Q := by
  obtain ⟨F0, H0, F, ρ, τ, d, τ', r, e, k⟩ := h
  simp only [ev, Option.bind_eq_some_iff, Option.map_eq_some_iff, Prod.exists] at e
  obtain ⟨d1, τ1, e1, d2, τ2, e2, d3, e3, e4⟩ := e
  cases e4
  exact ⟨F0, H0, F, ρ, τ, d1, τ1, r, e1, fun x F1 H1 x1 r1 q1 => ⟨F0, H0, F1, ρ, τ1, d2, _, r1, e2, fun y F2 H2 x2 r2 q2 =>
    ⟨F2, d1, d2, _, r2.sub, R.sub x2.ff _ q1, q2, e3, fun v F3 H3 x3 q3 => k v F3 H3 ((x1.tr x2).tr x3.ext) (r2.extP x3) q3⟩⟩⟩
theorem rd_cmp {o : CmpOp} {a b : E} {σ : St} {H : Hp} {Q : VK} (h : RdE P C W (.cmp o a b) σ H Q) : tOp (rD2 C (cmpD o)) (RdE P C W a) (RdE P C W b) σ H Q := by
  obtain ⟨F0, H0, F, ρ, τ, d, τ', r, e, k⟩ := h
  simp only [ev, Option.bind_eq_some_iff, Option.map_eq_some_iff, Prod.exists] at e
  obtain ⟨d1, τ1, e1, d2, τ2, e2, d3, e3, e4⟩ := e
  cases e4
  exact ⟨F0, H0, F, ρ, τ, d1, τ1, r, e1, fun x F1 H1 x1 r1 q1 => ⟨F0, H0, F1, ρ, τ1, d2, _, r1, e2, fun y F2 H2 x2 r2 q2 =>
    ⟨F2, d1, d2, _, r2.sub, R.sub x2.ff _ q1, q2, e3, fun v F3 H3 x3 q3 => k v F3 H3 ((x1.tr x2).tr x3.ext) (r2.extP x3) q3⟩⟩⟩
theorem rd_idx {a b : E} {σ : St} {H : Hp} {Q : VK} (h : RdE P C W (.idx a b) σ H Q) : tOp (rD2 C ixD) (RdE P C W a) (RdE P C W b) σ H Q := by
  obtain ⟨F0, H0, F, ρ, τ, d, τ', r, e, k⟩ := h
  simp only [ev, Option.bind_eq_some_iff, Option.map_eq_some_iff, Prod.exists] at e
  obtain ⟨d1, τ1, e1, d2, τ2, e2, d3, e3, e4⟩ := e
  cases e4
  exact ⟨F0, H0, F, ρ, τ, d1, τ1, r, e1, fun x F1 H1 x1 r1 q1 => ⟨F0, H0, F1, ρ, τ1, d2, _, r1, e2, fun y F2 H2 x2 r2 q2 =>
    ⟨F2, d1, d2, _, r2.sub, R.sub x2.ff _ q1, q2, e3, fun v F3 H3 x3 q3 => k v F3 H3 ((x1.tr x2).tr x3.ext) (r2.extP x3) q3⟩⟩⟩
theorem cmpD_bl {o : CmpOp} {a b d : D} (h : cmpD o a b = some d) : ∃ c, d = .bl c := by
  cases o with
  | Eq => simp only [cmpD, eqD] at h; split at h; exact ⟨_, (Option.some.inj h).symm⟩; cases h
  | NotEq => simp only [cmpD, neD] at h; split at h; exact ⟨_, (Option.some.inj h).symm⟩; cases h
  | Lt => cases a <;> cases b <;> first | exact ⟨_, (Option.some.inj h).symm⟩ | cases h
  | LtE => cases a <;> cases b <;> first | exact ⟨_, (Option.some.inj h).symm⟩ | cases h
  | Gt => cases a <;> cases b <;> first | exact ⟨_, (Option.some.inj h).symm⟩ | cases h
  | GtE => cases a <;> cases b <;> first | exact ⟨_, (Option.some.inj h).symm⟩ | cases h
  | In => simp only [cmpD, inD, Option.map_eq_some_iff] at h; obtain ⟨c, _, e⟩ := h; exact ⟨_, e.symm⟩
  | NotIn => simp only [cmpD, inD, Option.map_eq_some_iff] at h; obtain ⟨c, _, e⟩ := h; exact ⟨_, e.symm⟩
  | Is => cases h
  | IsNot => cases h
theorem rd_chn {o o' : CmpOp} {a b c : E} {σ : St} {H : Hp} {Q : VK} (h : RdE P C W (.chn o o' a b c) σ H Q) : tChain (rD2 C (cmpD o)) (rD2 C (cmpD o')) (RdE P C W a) (RdE P C W b) (RdE P C W c) σ H Q := by
  obtain ⟨F0, H0, F, ρ, τ, d, τ', r, e, k⟩ := h
  simp only [ev, Option.bind_eq_some_iff, Option.map_eq_some_iff, Prod.exists] at e
  obtain ⟨d1, τ1, e1, d2, τ2, e2, d3, e3, e4⟩ := e
  refine ⟨F0, H0, F, ρ, τ, d1, τ1, r, e1, fun x F1 H1 x1 r1 q1 => ⟨F0, H0, F1, ρ, τ1, d2, τ2, r1, e2, fun y F2 H2 x2 r2 q2 =>
    ⟨F2, d1, d2, d3, r2.sub, R.sub x2.ff _ q1, q2, e3, fun v F3 H3 x3 q3 => ?_⟩⟩⟩
  obtain ⟨k1, rfl⟩ := cmpD_bl e3
  cases q3
  have r3 := r2.extP x3
  refine ⟨k1, rfl, ?_⟩
  cases k1 with
  | false =>
    simp only at e4
    cases e4
    rw [if_neg Bool.false_ne_true]
    exact k _ F3 H3 ((x1.tr x2).tr x3.ext) r3 (.bl _)
  | true =>
    simp only [Option.bind_eq_some_iff, Option.map_eq_some_iff, Prod.exists] at e4
    obtain ⟨d4, τ4, e5, d6, e6, e7⟩ := e4
    cases e7
    rw [if_pos rfl]
    exact ⟨F0, H0, F3, ρ, τ2, d4, _, r3, e5, fun z F4 H4 x4 r4 q4 => ⟨F4, d2, d4, _, r4.sub, R.sub (x3.ff.tr x4.ff) _ q2, q4, e6, fun v F5 H5 x5 q5 =>
      k v F5 H5 (((x1.tr x2).tr x3.ext).tr x4 |>.tr x5.ext) (r4.extP x5) q5⟩⟩
theorem R.non_iff {F : Hp} {v : V} {d : D} (r : R C F v d) : decide (v = .non) = (match d with | .non => true | _ => false) := by
  cases r <;> rfl
theorem rd_isN {ng : Bool} {a : E} {σ : St} {H : Hp} {Q : VK} (h : RdE P C W (.isN ng a) σ H Q) : RdE P C W a σ H (fun x H1 => Q (.bl (if ng then !decide (x = .non) else decide (x = .non))) H1) := by
  obtain ⟨F0, H0, F, ρ, τ, d, τ', r, e, k⟩ := h
  simp only [ev, Option.map_eq_some_iff, Prod.exists] at e
  obtain ⟨d1, τ1, e1, e2⟩ := e
  cases e2
  refine ⟨F0, H0, F, ρ, τ, d1, _, r, e1, fun x F1 H1 x1 r1 q1 => ?_⟩
  show Q (.bl (if ng then !decide (x = .non) else decide (x = .non))) H1
  rw [q1.non_iff]
  have := k (.bl (if ng then !(match d1 with | .non => true | _ => false) else (match d1 with | .non => true | _ => false))) F1 H1 x1 r1
  cases d1 <;> cases ng <;> exact this (.bl _)
theorem rd_isB {ng b : Bool} {a : E} {σ : St} {H : Hp} {Q : VK} (h : RdE P C W (.isB ng a b) σ H Q) : RdE P C W a σ H (fun x H1 => ∃ c : Bool, x = .bl c ∧ Q (.bl (if ng then !decide (c = b) else decide (c = b))) H1) := by
  obtain ⟨F0, H0, F, ρ, τ, d, τ', r, e, k⟩ := h
  simp only [ev, Option.bind_eq_some_iff, Prod.exists] at e
  obtain ⟨d1, τ1, e1, e2⟩ := e
  cases d1 with
  | bl c =>
    simp only at e2
    cases e2
    refine ⟨F0, H0, F, ρ, τ, _, _, r, e1, fun x F1 H1 x1 r1 q1 => ?_⟩
    cases q1
    have e : decide (c = b) = (c == b) := by cases c <;> cases b <;> rfl
    exact ⟨c, rfl, by rw [e]; exact k _ F1 H1 x1 r1 (.bl _)⟩
  | _ => simp at e2
theorem rd_tb {e : E} {z : Expr} {t : TE} {σ : St} {H : Hp} {Q : Bool → Hp → Prop} (hb : ∀ ρ τ d τ', ev P e ρ τ = some (d, τ') → ∃ c, d = .bl c) (h : RdT P C W (.val e) σ H Q) : RdE P C W e σ H (fun x H' => ∃ k, x = .bl k ∧ Q k H') := by
  obtain ⟨F0, H0, F, ρ, τ, b, τ', r, e', k⟩ := h
  simp only [evt, Option.bind_eq_some_iff, Option.map_eq_some_iff, Prod.exists] at e'
  obtain ⟨d1, τ1, e1, b1, e2, e3⟩ := e'
  cases e3
  refine ⟨F0, H0, F, ρ, τ, d1, _, r, e1, fun x F1 H1 x1 r1 q1 => ?_⟩
  obtain ⟨c, rfl⟩ := hb _ _ _ _ e1
  cases q1
  obtain rfl := Option.some.inj e2
  exact ⟨_, rfl, k F1 H1 x1 r1⟩
end

theorem evp_ev : ∀ {e : E} {ρ : Env'} {τ τ' : TS} {o : Option Int}, e ≠ .nope → evp P e ρ τ = some (o, τ') → ∃ i, o = some i ∧ ev P e ρ τ = some (.int i, τ') := by
  intro e ρ τ τ' o hn h
  have io : ∀ {d : D} {k : Int}, intO d = some k → d = .int k := fun {d k} h => by cases d <;> first | (cases h; rfl) | cases h
  cases e with
  | int i => simp only [evp, ev] at h ⊢; cases h; exact ⟨i, rfl, rfl⟩
  | var i =>
    simp only [evp, ev] at h ⊢
    cases q : ρ[i]? with
    | none => rw [q] at h; cases h
    | some s =>
      rw [q] at h
      cases s with
      | d x =>
        cases x with
        | int k => simp only at h ⊢; cases h; exact ⟨k, rfl, rfl⟩
        | _ => cases h
      | _ => cases h
  | neg a =>
    simp only [evp, Option.bind_eq_some_iff, Option.map_eq_some_iff, Prod.exists] at h
    obtain ⟨d, τ1, e1, d2, e2, k, e3, e4⟩ := h
    cases e4
    have := io e3
    subst this
    exact ⟨k, rfl, by simp only [ev, e1, Option.bind_some, e2, Option.map_some]⟩
  | bin op a b =>
    simp only [evp, Option.bind_eq_some_iff, Option.map_eq_some_iff, Prod.exists] at h
    obtain ⟨d, τ1, e1, d2, τ2, e2, d3, e3, k, e4, e5⟩ := h
    cases e5
    have := io e4
    subst this
    exact ⟨k, rfl, by simp only [ev, e1, Option.bind_some, e2, e3, Option.map_some]⟩
  | idx a b =>
    simp only [evp, Option.bind_eq_some_iff, Option.map_eq_some_iff, Prod.exists] at h
    obtain ⟨d, τ1, e1, d2, τ2, e2, d3, e3, k, e4, e5⟩ := h
    cases e5
    have := io e4
    subst this
    exact ⟨k, rfl, by simp only [ev, e1, Option.bind_some, e2, e3, Option.map_some]⟩
  | blt b es =>
    simp only [evp, Option.bind_eq_some_iff, Option.map_eq_some_iff, Prod.exists] at h
    obtain ⟨d, τ1, e1, d2, e2, k, e3, e4⟩ := h
    cases e4
    have := io e3
    subst this
    exact ⟨k, rfl, by simp only [ev, e1, Option.bind_some, e2, Option.map_some]⟩
  | nope => exact absurd rfl hn
  | _ => simp [evp] at h
end
end PD

set_option Elab.async false
set_option linter.all false
set_option maxRecDepth 100000
set_option maxHeartbeats 4000000
/-! The tape, map steps, sorted sets, enumerate: readings. -/
namespace PD
open PySem L2 PySem.Spec PyProof.Rows
section
variable {nm : Nm} {P : Sg} {C : Con} {W : TW} {X : Cx} {bk : Bool}

/-! ### enumerate -/
theorem enumD_len : ∀ (k : Nat) (xs : List D), (enumD k xs).length = xs.length
  | _, [] => rfl
  | k, x :: xs => by rw [enumD, List.length_cons, List.length_cons, enumD_len (k + 1) xs]
theorem enumD_get : ∀ (k : Nat) (xs : List D) (i : Nat) (d : D), xs[i]? = some d → (enumD k xs)[i]? = some (.tup [.int ((k + i : Nat) : Int), d])
  | _, [], _, _, h => by simp at h
  | k, x :: xs, 0, d, h => by
    simp only [List.getElem?_cons_zero, Option.some.injEq] at h
    subst h; rfl
  | k, x :: xs, i + 1, d, h => by
    simp only [List.getElem?_cons_succ] at h
    rw [enumD, List.getElem?_cons_succ, enumD_get (k + 1) xs i d h]
    have : k + 1 + i = k + (i + 1) := by omega
    rw [this]
theorem wk_enum {go stop : Nat → Hp → Prop} {itm : Nat → Hp → V → Prop} {F : Hp} {xs : List D} (h1 : ∀ i F' H, Sub F F' → Sub F' H → i < xs.length → go i H) (h2 : ∀ F' H, Sub F F' → Sub F' H → stop xs.length H)
    (h3 : ∀ i F1 H x, Sub F F1 → Sub F1 H → i < xs.length → itm i H x → ∃ d, xs[i]? = some d ∧ R C F1 x d) : Wk C (Ieg go stop itm) F (enumD 0 xs) where
  stop := fun F' H s1 s2 => by rw [enumD_len]; exact h2 F' H s1 s2
  go := fun i F' H s1 s2 hi => h1 i F' H s1 s2 (by rw [enumD_len] at hi; exact hi)
  yld := fun i F1 H x H' s1 s2 hi y => by
    rw [enumD_len] at hi
    obtain ⟨T, v, rfl, hT, rfl, hv⟩ := y
    obtain ⟨d, hd, rd⟩ := h3 i F1 H v s1 s2 hi hv
    refine ⟨_, upd F1 T (.tup [.int (i : Nat), v]), enumD_get 0 xs i d hd, ExtP.new s2 _ hT, ?_⟩
    rw [Nat.zero_add]
    exact .tup (.inl (.inl upd_same)) (RA.sub (sub_upd (s2.none hT)) _ (.cons (.int _) (.cons rd .nil))) fun z => by
      cases hc : C.tk <;> rw [hc] at z <;> cases z
theorem rd_enum {a : E} (hK : C.K = X.K) {σ : L2.St} {H : Hp} {Rr : It → Hp → Prop} (h : RdI P C W (.enum a) σ H Rr) : iEnumG X.K (RdE P C W a) σ H Rr := by
  obtain ⟨F0, H0, F, ρ, τ, xs, τ', r, e, k⟩ := h
  simp only [evi, Option.bind_eq_some_iff, Option.map_eq_some_iff, Prod.exists] at e
  obtain ⟨d, τ1, e1, ys, e2, e3⟩ := e
  cases e3
  refine ⟨F0, H0, F, ρ, τ, d, _, r, e1, fun v F1 H1 x1 r1 q1 => ⟨v, rfl, ?_⟩⟩
  cases q1 with
  | str s =>
    cases e2
    refine .inl ⟨_, rfl, k _ F1 H1 x1 r1 (wk_enum (fun i F' H s1 s2 hi => ?_) (fun F' H s1 s2 => ?_) fun i F2 H x s1 s2 hi hv => ?_)⟩
    · show i < s.toArray.size
      simpa using hi
    · show _ = s.toArray.size
      simp
    · obtain ⟨c, hc, rfl⟩ := hv
      have hc' : s[i]? = some c := by simpa using hc
      exact ⟨.str [c], by rw [List.getElem?_map, hc']; rfl, .str [c]⟩
  | @tup p vs ds h1 h2 h3 =>
    cases e2
    rw [hK] at h1
    refine .inr (.inl ⟨p, vs, rfl, sqT_sub r1.sub h1, k _ F1 H1 x1 r1 (wk_enum (fun i F' H s1 s2 hi => ⟨vs, sqT_sub (s1.tr s2) h1, by rw [h2.len]; exact hi⟩) (fun F' H s1 s2 => ⟨vs, sqT_sub (s1.tr s2) h1, h2.len.symm⟩) fun i F2 H x s1 s2 hi hv => ?_)⟩)
    have hx := hv vs (sqT_sub (s1.tr s2) h1)
    obtain ⟨v, hv2, rv⟩ := h2.get (List.getElem?_eq_getElem hi)
    rw [hx] at hv2; cases hv2
    exact ⟨_, List.getElem?_eq_getElem hi, R.sub s1 _ rv⟩
  | @lst p vs ds h1 h2 =>
    cases e2
    have sq : ∀ {F' H : Hp}, Sub F1 F' → Sub F' H → SqL X.K H p vs := fun s1 s2 => .inl (.inl (s2 _ _ (s1 _ _ h1)))
    refine .inr (.inr ⟨p, vs, rfl, .inl (.inl (r1.sub _ _ h1)), k _ F1 H1 x1 r1 (wk_enum (fun i F' H s1 s2 hi => ⟨vs, sq s1 s2, by rw [h2.len]; exact hi⟩) (fun F' H s1 s2 => ⟨vs, sq s1 s2, h2.len.symm⟩) fun i F2 H x s1 s2 hi hv => ?_)⟩)
    have hx := hv vs (sq s1 s2)
    obtain ⟨v, hv2, rv⟩ := h2.get (List.getElem?_eq_getElem hi)
    rw [hx] at hv2; cases hv2
    exact ⟨_, List.getElem?_eq_getElem hi, R.sub s1 _ rv⟩
  | _ => cases e2
/-! ### sorted(set(..)) -/
theorem txs_of : ∀ {ds : List D} {ss : List (List Nat)}, txsO ds = some ss → ds = ss.map D.str
  | [], ss, h => by cases h; rfl
  | .str s :: r, ss, h => by
    simp only [txsO, Option.map_eq_some_iff] at h
    obtain ⟨t, h1, rfl⟩ := h
    rw [txs_of h1]; rfl
  | .non :: _, _, h => by cases h
  | .bl _ :: _, _, h => by cases h
  | .int _ :: _, _, h => by cases h
  | .tup _ :: _, _, h => by cases h
  | .lst _ :: _, _, h => by cases h
theorem rd_srt {a : E} (hK : C.K = X.K) {σ : L2.St} {H : Hp} {Q : VK} (h : RdE P C W (.srt a) σ H Q) : tCB (rSortTx X.prog X.w) (tCons (tCB (rSetTx X.K X.prog X.w) (tCons (RdE P C W a) tNil)) tNil) σ H Q := by
  obtain ⟨F0, H0, F, ρ, τ, d, τ', r, e, k⟩ := h
  simp only [ev, Option.bind_eq_some_iff, Option.map_eq_some_iff, Prod.exists] at e
  obtain ⟨d1, τ1, e1, d2, e2, e3⟩ := e
  cases e3
  refine ⟨F0, H0, F, ρ, τ, d1, _, r, e1, fun v F1 H1 x1 r1 q1 => ?_⟩
  cases q1 with
  | @lst p vs ds h1 h2 =>
    simp only [srtD, Option.bind_eq_some_iff] at e2
    obtain ⟨ss, e4, e5⟩ := e2
    split at e5
    · rename_i hl
      cases e5
      have e6 := txs_of e4
      subst e6
      have e7 := RA.strs ss h2
      subst e7
      refine ⟨ss.map tx, .inl ⟨p, rfl, .inl (.inl (r1.sub _ _ h1))⟩, by rw [List.length_map]; unfold scanBound; omega, fun b ks hb nd hlen hmem => ?_⟩
      have r2 := r1.extP (ExtP.raw r1.sub (TxO X.prog X.w b ks) hb)
      rw [List.length_map] at hlen
      refine ⟨b, ks, rfl, upd_same, by unfold scanBound; omega, fun q hq => ?_⟩
      rw [sort_eq nd hmem]
      exact k _ _ _ ((x1.tr (ExtP.raw r1.sub _ hb).ext).tr (Ext.new r2.sub _ hq)) (r2.new _ hq) (R.newL r2.sub hq (RA.of_strs _))
    · cases e5
  | str z =>
    simp only [srtD] at e2
    split at e2
    · rename_i hl
      cases e2
      have hmap : z.map (fun c => (⟨#[c]⟩ : Str)) = (z.map fun c => [c]).map tx := by rw [List.map_map]; rfl
      refine ⟨(z.map fun c => [c]).map tx, .inr ⟨tx z, rfl, by rw [← hmap]⟩, by rw [List.length_map, List.length_map]; unfold scanBound; omega, fun b ks hb nd hlen hmem => ?_⟩
      have r2 := r1.extP (ExtP.raw r1.sub (TxO X.prog X.w b ks) hb)
      rw [List.length_map, List.length_map] at hlen
      refine ⟨b, ks, rfl, upd_same, by unfold scanBound; omega, fun q hq => ?_⟩
      rw [sort_eq nd hmem]
      exact k _ _ _ ((x1.tr (ExtP.raw r1.sub _ hb).ext).tr (Ext.new r2.sub _ hq)) (r2.new _ hq) (R.newL r2.sub hq (RA.of_strs _))
    · cases e2
  | _ => cases e2
/-! ### the tape -/
theorem rd_tget {i k : Nat} (hk : k = 1 ∨ k = 2) {σ : L2.St} {H : Hp} {Q : VK} (h : RdE P C W (.tget i k) σ H Q) : tOp (rIxL X.K) (tVar i) (tC (.int (k : Int))) σ H Q := by
  obtain ⟨F0, H0, F, ρ, τ, d, τ', r, e, kk⟩ := h
  simp only [ev] at e
  cases q : ρ[i]? with
  | none => rw [q] at e; cases e
  | some s =>
    rw [q] at e
    cases s with
    | tape =>
      cases e
      obtain ⟨v, e1, e2⟩ := r.get q
      have e2 : v = some (.ref W.tp) := e2
      subst e2
      refine ⟨_, e1, W.tp, _, _, .int (if k = 1 then τ.pos else τ.cur), rfl, rfl, .inl (.inl r.tape.at_), atI_nat (j := k) ?_, kk _ F H (Ext.rfl' r.sub) r (.int _)⟩
      rcases hk with rfl | rfl <;> rfl
    | _ => cases e
theorem rd_tlen {i : Nat} {σ : L2.St} {H : Hp} {Q : VK} (h : RdE P C W (.tlen i) σ H Q) (hns : P.ns = W.ns) :
    tCB (fun xs H Q => ∃ p ys, xs = [.ref p] ∧ (SqL X.K H p ys ∨ SqT X.K H p ys) ∧ Q (.int ys.length) H) (tCons (tOp (rIxL X.K) (tVar i) (tC (.int ((0 : Nat) : Int)))) tNil) σ H Q := by
  obtain ⟨F0, H0, F, ρ, τ, d, τ', r, e, kk⟩ := h
  simp only [ev] at e
  cases q : ρ[i]? with
  | none => rw [q] at e; cases e
  | some s =>
    rw [q] at e
    cases s with
    | tape =>
      cases e
      obtain ⟨v, e1, e2⟩ := r.get q
      have e2 : v = some (.ref W.tp) := e2
      subst e2
      refine ⟨_, e1, W.tp, _, _, .ref W.L, rfl, rfl, .inl (.inl r.tape.at_), atI_nat (j := 0) rfl, W.L, _, rfl, .inl (.inl (.inl (r.sub _ _ r.tape.cells))), ?_⟩
      rw [List.length_map, ← hns]
      exact kk _ F H (Ext.rfl' r.sub) r (.int _)
    | _ => cases e
theorem rd_tcell {i : Nat} {a : E} {σ : L2.St} {H : Hp} {Q : VK} (h : RdE P C W (.tcell i a) σ H Q) (hns : P.ns = W.ns) : tOp (rIxL X.K) (tOp (rIxL X.K) (tVar i) (tC (.int ((0 : Nat) : Int)))) (RdE P C W a) σ H Q := by
  obtain ⟨F0, H0, F, ρ, τ, d, τ', r, e, kk⟩ := h
  simp only [ev] at e
  cases q : ρ[i]? with
  | none => rw [q] at e; cases e
  | some s =>
    rw [q] at e
    cases s with
    | tape =>
      simp only [Option.bind_eq_some_iff, Prod.exists] at e
      obtain ⟨d1, τ1, e1, n, e2, e3⟩ := e
      split at e3
      · rename_i h0
        simp only [Option.map_eq_some_iff] at e3
        obtain ⟨z, e4, e5⟩ := e3
        cases e5
        cases d1 with
        | int m =>
          obtain rfl : m = n := Option.some.inj e2
          obtain ⟨v, e6, e7⟩ := r.get q
          have e7 : v = some (.ref W.tp) := e7
          subst e7
          refine ⟨_, e6, W.tp, _, _, .ref W.L, rfl, rfl, .inl (.inl r.tape.at_), atI_nat (j := 0) rfl, F0, H0, F, ρ, τ, _, _, r, e1, fun v F1 H1 x1 r1 q1 => ?_⟩
          cases q1
          refine ⟨W.L, _, m, .int z, rfl, rfl, .inl (.inl (r1.sub _ _ r1.tape.cells)), ?_, kk _ F1 H1 x1 r1 (.int _)⟩
          have hm : ((m.toNat : Nat) : Int) = m := Int.toNat_of_nonneg h0
          have := atI_nat (xs := W.ns.map V.int) (j := m.toNat) (v := .int z) (by rw [List.getElem?_map, ← hns, e4]; rfl)
          rw [hm] at this
          exact this
        | _ => cases e2
      · cases e3
    | _ => cases e
theorem Rel.tset {F0 H0 F H : Hp} {σ : L2.St} {ρ : Env'} {τ τ' : TS} (r : Rel C W F0 H0 F H σ ρ τ) (e : vs = [V.ref W.L, .int τ'.pos, .int τ'.cur]) : Rel C W F0 H0 F (upd H W.tp (.lst vs)) σ ρ τ' := by
  subst e
  refine r.ext ⟨Sub.rfl' F, fun a u q => ?_, fun a u q n ht => ?_⟩ ⟨r.tape.out, upd_same, r.tape.cells⟩
  · rw [upd_ne (fun z => by rw [z, r.tape.out] at q; cases q)]; exact r.sub a u q
  · rw [upd_ne ht]; exact ⟨q, n⟩
theorem rd_tset {i k : Nat} {e : E} (hk : k = 1 ∨ k = 2) {D : Ends} {σ : L2.St} {H : Hp} (h : ∃ F0 H0 F ρ τ d τ1 n, Rel C W F0 H0 F H σ ρ τ ∧ ρ[i]? = some Slot.tape ∧ ev P e ρ τ = some (d, τ1) ∧ intO d = some n ∧
      ∀ F' H', Sub F F' → Rel C W F0 H0 F' H' σ ρ (if k = 1 then ⟨n, τ1.cur⟩ else ⟨τ1.pos, n⟩) → D.nx σ H') : tAsg (RdE P C W e) (gSub (tVar i) (tC (.int (k : Int))) rSetL) D σ H := by
  obtain ⟨F0, H0, F, ρ, τ, d, τ1, n, r, q, e1, e2, kk⟩ := h
  refine ⟨F0, H0, F, ρ, τ, d, τ1, r, e1, fun v F1 H1 x1 r1 q1 => ?_⟩
  obtain ⟨v', e3, e4⟩ := r1.get q
  have e4 : v' = some (.ref W.tp) := e4
  subst e4
  cases d with
  | int m =>
    obtain rfl : m = n := Option.some.inj e2
    cases q1
    rcases hk with rfl | rfl
    · exact ⟨_, e3, W.tp, _, _, 1, rfl, rfl, r1.tape.at_, rfl, kk F1 _ x1.ff (r1.tset rfl)⟩
    · exact ⟨_, e3, W.tp, _, _, 2, rfl, rfl, r1.tape.at_, rfl, kk F1 _ x1.ff (r1.tset rfl)⟩
  | _ => cases e2
/-! ### map steps -/
/-- a written map step: its texts are three objects -/
def tMapC (x y : Str) : TE := fun _ H Q => ∀ (a : Addr) (o : Obj) (t0 t1 t2 : Tok), H a = none → o.cls = .type "tuple" → o.data = .seq #[.str (tx mapW) t0, .str x t1, .str y t2] 0 → t1 ≠ 0 → t2 ≠ 0 → t1 ≠ t2 → Q (.ref a) (upd H a (.frz o (.tup [.str (tx mapW), .str x, .str y])))
theorem pe_mapc {w x y : Str} {j0 j1 j2 k : Nat} {c0 c1 c2 pos : Pos} (hw : w = tx mapW) : PE X (.Tuple [.Constant (.str w) j0 c0, .Constant (.str x) j1 c1, .Constant (.str y) j2 c2] k pos) (tMapC x y) := by
  subst hw
  refine ⟨fun pins s σ H Q I h => Tuple_ ?_⟩
  show wpAny _ _ (spliced ((false, eval (.Constant (.str (tx mapW)) j0 c0) X.env) :: (false, eval (.Constant (.str x) j1 c1) X.env) :: (false, eval (.Constant (.str y) j2 c2) X.env) :: backTo pos (starEach [] X.env))) _ _ s
  refine Calls.spliced_cons (Calls.Constant_str (Calls.spliced_cons (Calls.Constant_str (Calls.spliced_cons (Calls.Constant_str (Calls.spliced_nil ?_))))))
  refine wpAny_newObj_type ?_ (by show 3 ≤ sizeLine; decide)
  have h3 : (3 : Nat) ≤ sizeLine := by decide
  refine ⟨.ref s.heap.objs.size, upd H s.heap.objs.size (.frz { cls := .type "tuple", data := .seq #[.str (tx mapW) s.toks, .str x (s.toks + 1), .str y (s.toks + 1 + 1)] } (.tup [.str (tx mapW), .str x, .str y])), ?_, rfl, ?_⟩
  · exact I.laid (t' := s.toks + 1 + 1 + 1) (fun b u e => Heap.get?_push_of_some _ e) (Nat.le_refl _) ⟨Heap.get?_push_size _ rfl, h3, [.str (tx mapW) s.toks, .str x (s.toks + 1), .str y (s.toks + 1 + 1)], .cons ⟨_, rfl⟩ (.cons ⟨_, rfl⟩ (.cons ⟨_, rfl⟩ .nil)), ⟨_, Heap.get?_push_size _ rfl, rfl, _, rfl⟩⟩
  · exact h _ _ s.toks (s.toks + 1) (s.toks + 1 + 1) (I.hok.fresh (Nat.le_refl _)) rfl rfl (Nat.succ_ne_zero _) (Nat.succ_ne_zero _) (Nat.ne_of_lt (Nat.lt_succ_self _))
theorem R.newM {F H : Hp} (s : Sub F H) {p : Addr} (hp : H p = none) {o : Obj} {x y : List Nat} {t0 t1 t2 : Tok} (hc : o.cls = .type "tuple") (hd : o.data = .seq #[.str (tx mapW) t0, .str (tx x) t1, .str (tx y) t2] 0) (n1 : t1 ≠ 0) (n2 : t2 ≠ 0) (n3 : t1 ≠ t2) :
    R C (upd F p (.frz o (.tup [.str (tx mapW), .str (tx x), .str (tx y)]))) (.ref p) (.tup [.str mapW, .str x, .str y]) :=
  .tup (.inl (.inr ⟨o, upd_same⟩)) (.cons (.str _) (.cons (.str _) (.cons (.str _) .nil))) fun _ => ⟨o, _, _, _, 0, t0, t1, t2, .inl upd_same, rfl, hc, hd, n1, n2, n3⟩
theorem rd_mapc {x y : List Nat} {σ : L2.St} {H : Hp} {Q : VK} (h : RdE P C W (.mapc x y) σ H Q) : tMapC (tx x) (tx y) σ H Q := by
  obtain ⟨F0, H0, F, ρ, τ, d, τ', r, e, k⟩ := h
  simp only [ev] at e
  split at e
  · cases e
    exact fun a o t0 t1 t2 ha hc hd n1 n2 n3 => k _ _ _ (Ext.new r.sub _ ha) (r.new _ ha) (R.newM r.sub ha hc hd n1 n2 n3)
  · cases e
theorem raw_ixT {i : Nat} {x : Str} {a : Addr} {its : Array Value} {k : Int} {j m : Nat} {w : Value} {p1 cp pos : Pos} {Q E : Value → Shared → Prop} {pins : List (Addr × Obj)} {s : Shared} {σ : L2.St} {H : Hp} (hN : X.N[i]? = some x) (hv : Vis X.env.scope x) (I : Inv X pins σ H s)
    (hσ : σ[i]? = some (some (.ref a))) (hl : PyProof.Rows.IsTup s.heap a its) (hm : k = (m : Int)) (hfit : m < 100) (hx : its[m]? = some w) (fin : ∀ tk, Q w { s with toks := tk })
    (hd : (x == ("__debug__" : Str)) = false) (hcd : (x == ("__classdict__" : Str)) = false) :
    wpAny (model X.prog X.w) X.A (eval (.Subscript (.Name x p1) (.Constant (.int k) j cp) pos) X.env) Q E s := by
  subst hm
  refine Subscript_ (raw_name hN hv I hσ (fun v r => ?_) hd hcd)
  obtain rfl : v = Value.ref a := r
  refine wpAny_Constant_int ?_
  have hi : m < its.size := (Array.getElem?_eq_some_iff.mp hx).1
  refine subscriptTail_builtinR (x := w) (s := { s with toks := s.toks + 1 }) hl.typeIs PyProof.Rows.slot_tuple_getitem.lookup
    (PyProof.Rows.getItem_tuple (j := m) (Q := fun r s' => r = w ∧ Q r s') hl (by omega) (by omega) ?_ hx ⟨rfl, fin _⟩) ?_
  · have e : ixN its.size (m : Int) = some m := by
      unfold ixN
      rw [if_pos (by omega), if_pos (by omega)]
      simp
    exact (ixN_seq e).1
  · rfl
/-- text.replace(step[1], step[2]) of a map step -/
def tRepM (K : PySem.W.Frag) (i j : Nat) : TE := fun σ H Q => ∃ x a vs y z, σ[i]? = some (some (.str x)) ∧ σ[j]? = some (some (.ref a)) ∧ SqT K H a vs ∧ TokT K H a vs ∧ (∃ w, vs = [.str w, .str y, .str z]) ∧ (y == z) = false ∧ x.length + (x.length + 1) * z.length ≤ 16777216 ∧ Q (.str (Txt.replace x y z)) H
theorem pe_replM {i j : Nat} {kx px : Str} {j0 j1 : Nat} {p1 p2 p3 c0 c1 q0 q1 apos pos : Pos} (hNk : X.N[i]? = some kx) (hvk : Vis X.env.scope kx) (hNp : X.N[j]? = some px) (hvp : Vis X.env.scope px)
    (hk : okN kx = true) (hp : okN px = true) (hline : (apos.endLine == pos.line) = true) :
    PE X (.Call (.Attribute (.Name kx p1) "replace" apos) [.Subscript (.Name px p2) (.Constant (.int 1) j0 c0) q0, .Subscript (.Name px p3) (.Constant (.int 2) j1 c1) q1] [] pos) (tRepM X.K i j) := by
  refine ⟨fun pins s σ H Q I h => ?_⟩
  obtain ⟨x, a, vs, y, z, hx, ha, hs, ht, ⟨w, rfl⟩, hyz, hb, q⟩ := h
  obtain ⟨o, w', y', z', n, t0, t1, t2, ho, e1, hc, hd, n1, n2, n3⟩ := ht
  injection e1 with e2 e1
  injection e1 with e3 e1
  injection e1 with e4 _
  cases e2; cases e3; cases e4
  have hl : PyProof.Rows.IsTup s.heap a #[.str w t0, .str y t1, .str z t2] := by
    rcases ho with h1 | h1
    · obtain ⟨h5, _⟩ := I.hok a _ h1
      exact ⟨o, h5, hc, n, hd⟩
    · exact ⟨o, I.kIn a o h1, hc, n, hd⟩
  refine PySem.Call_method2 rfl rfl hline (raw_name hNk hvk I hx (fun v r => ?_) (okN_of hk).1 (okN_of hk).2.1)
  obtain ⟨tx, rfl⟩ := r
  refine ⟨"str", _, F.plainAttrs_str, F.slot_str_replace, F.type_str_replace, typeIs_str _ _ _, (fun _ e => nomatch e), Calls.callWith_builtin rfl (Calls.evalArgs_plain (Calls.spliced_cons ?_))⟩
  refine raw_ixT hNp hvp I ha hl (m := 1) rfl (by omega) rfl (fun k1 => ?_) (okN_of hp).1 (okN_of hp).2.1
  refine Calls.spliced_cons (raw_ixT hNp hvp (I.tok k1) ha hl (m := 2) rfl (by omega) rfl (fun k2 => ?_) (okN_of hp).1 (okN_of hp).2.1)
  refine Calls.spliced_nil ?_
  exact PySem.SC.replace n1 n2 n3 hyz hb fun t' k => ⟨.str (Txt.replace x y z), H, I.tok k, ⟨t', rfl⟩, q⟩
theorem rd_repl {i j : Nat} (hK : C.K = X.K) (htk : P.tk = C.tk) {σ : L2.St} {H : Hp} {Q : VK} (h : RdE P C W (.repl i j) σ H Q) : tRepM X.K i j σ H Q := by
  obtain ⟨F0, H0, F, ρ, τ, d, τ', r, e, k⟩ := h
  simp only [ev] at e
  split at e
  · rename_i t w x y q1 q2
    split at e
    · rename_i hm
      obtain ⟨m0, m1, m2, m3⟩ := hm
      cases e
      obtain ⟨v1, s1, u1, rfl, r1⟩ := r.get q1
      obtain ⟨v2, s2, u2, rfl, r2⟩ := r.get q2
      cases r1
      cases r2 with
      | @tup a vs _ h1 h2 h3 =>
        have ht := h3 (by rw [← htk, m0]; exact m1)
        have e7 := RA.strs [w, x, y] h2
        subst e7
        have hxy : (tx x == tx y) = false := by
          simp only [isMap, Bool.and_eq_true, bne_iff_ne, ne_eq] at m1
          refine beq_eq_false_iff_ne.mpr fun z => m1.2 ?_
          have := congrArg (fun s : Str => s.cps.toList) z
          exact this
        refine ⟨_, a, _, tx x, tx y, s1, s2, by rw [← hK]; exact sqT_sub r.sub h1, by rw [← hK]; exact tokT_sub r.sub ht, ⟨_, rfl⟩, hxy, by rw [tx_len, tx_len]; exact m2, ?_⟩
        have e8 : Txt.replace (tx t) (tx x) (tx y) = tx (PySem.StrLaws.replL x y t) := by
          have hx : 1 ≤ (tx x).length := by
            rw [tx_len]
            cases x with
            | nil => exact absurd rfl m3
            | cons _ _ => exact Nat.succ_le_succ (Nat.zero_le _)
          have := PySem.StrLaws.replace_list (x := tx t) (y := tx x) (z := tx y) hx
          rw [← tx_self (Txt.replace (tx t) (tx x) (tx y)), this]
        rw [e8]
        exact k _ F H (Ext.rfl' r.sub) r (.str _)
    · cases e
  · cases e
end
end PD

set_option Elab.async false
set_option linter.all false
set_option maxRecDepth 100000
set_option maxHeartbeats 8000000
/-! What a checked expression does, all forms. -/
namespace PD
open PySem L2
def tyV' : Ty → String
  | .int => "int" | .bool => "bool" | .str => "str" | .list => "list" | .tuple => "tuple"
def dTy : D → String
  | .non => "NoneType" | .bl _ => "bool" | .int _ => "int" | .str _ => "str" | .tup _ => "tuple" | .lst _ => "list"
theorem kit_D (d : D) (t : Ty) : kitB (dTy d) (tyV' t) = some (tyIs d t) := by
  cases d <;> cases t <;> simp only [dTy, tyV', tyIs] <;> decide +kernel
theorem ty_of {C : Con} {F H : Hp} (s : Sub F H) {v : V} {d : D} (r : R C F v d) : TyX C.K H v (.type (dTy d)) := by
  cases r with
  | non => exact .base .non
  | bl b => exact .base (.bl b)
  | int i => exact .base (.int i)
  | str z => exact .base (.str _)
  | lst h1 h2 => exact .base (.lst (s _ _ h1))
  | tup h1 h2 h3 =>
    rcases h1 with (h1 | ⟨o, h1⟩) | ⟨o, its, n, h1, hc, _⟩
    · exact .base (.tup (s _ _ h1))
    · exact .fTuple (s _ _ h1)
    · exact .kTuple h1 hc
section
variable {nm : Nm} {P : Sg} {C : Con} {W : TW}
theorem Good.ty {bk : Bool} {X : Cx} (g : Good nm P C W bk X) (t : Ty) : X.mg (tyN t) = none := by
  cases t with
  | int => exact g.blt .int
  | bool => exact g.bool
  | str => exact g.blt .str
  | list => exact g.blt .list
  | tuple => exact g.blt .tuple
theorem ty_pe {bk : Bool} {X : Cx} (g : Good nm P C W bk X) {t : Ty} {pos : Pos} (h : glB X.env.scope (tyN t) = true) : PE X (.Name (tyN t) pos) (tC (.ty (tyV' t))) := by
  cases t with
  | int => exact pe_bltn (gl_of h) (g.ty .int) (by decide +kernel) rfl (by decide +kernel) (by decide +kernel)
  | bool => exact pe_bltn (gl_of h) (g.ty .bool) (by decide +kernel) rfl (by decide +kernel) (by decide +kernel)
  | str => exact pe_bltn (gl_of h) (g.ty .str) (by decide +kernel) rfl (by decide +kernel) (by decide +kernel)
  | list => exact pe_bltn (gl_of h) (g.ty .list) (by decide +kernel) rfl (by decide +kernel) (by decide +kernel)
  | tuple => exact pe_bltn (gl_of h) (g.ty .tuple) (by decide +kernel) rfl (by decide +kernel) (by decide +kernel)
def tTys : List Ty → TA
  | [] => tNil
  | t :: ts => tCons (tC (.ty (tyV' t))) (tTys ts)
theorem tys_pa {bk : Bool} {X : Cx} (g : Good nm P C W bk X) : ∀ {ts : List Ty} {l : List Expr}, chkTys X.env.scope ts l = true → PA X l (tTys ts)
  | [], l, h => by
    cases l with
    | nil => exact pa_nil
    | cons _ _ => cases h
  | t :: ts, l, h => by
    cases l with
    | nil => cases h
    | cons e r =>
      cases e with
      | Name x pos =>
        simp only [chkTys, Bool.and_eq_true, decide_eq_true_eq] at h
        obtain ⟨⟨rfl, h2⟩, h3⟩ := h
        exact pa_cons (ty_pe g h2) (tys_pa g h3) rfl
      | _ => cases h
theorem tTys_run : ∀ (ts : List Ty) (σ : St) (H : Hp) (Q : List V → Hp → Prop), Q (ts.map fun t => V.ty (tyV' t)) H → tTys ts σ H Q
  | [], σ, H, Q, h => h
  | t :: ts, σ, H, Q, h => tTys_run ts σ H _ h
theorem kit_any {K : PySem.W.Frag} (d : D) : ∀ ts : List Ty, PySem.W.kitAny K (.type (dTy d)) (ts.map fun t => Value.type (tyV' t)) = some (ts.any (tyIs d))
  | [] => rfl
  | t :: ts => kitAny_cons (kit_ty (kit_D d t)) (fun e => by rw [List.any_cons, e, Bool.false_or]; exact kit_any d ts) (fun e => by rw [List.any_cons, e]; rfl)
theorem pair_tys : ∀ ts : List Ty, Paired ClsV (ts.map fun t => V.ty (tyV' t)) (ts.map fun t => Value.type (tyV' t))
  | [] => .nil
  | t :: ts => .cons (.ty _) (pair_tys ts)

section
variable {X : Cx}
theorem rd_and {a b : Tt} {σ : St} {H : Hp} {Q : Bool → Hp → Prop} (h : RdT P C W (.and a b) σ H Q) : tAnd (RdT P C W a) (RdT P C W b) σ H Q := by
  obtain ⟨F0, H0, F, ρ, τ, c, τ', r, e, k⟩ := h
  simp only [evt, Option.bind_eq_some_iff, Prod.exists] at e
  obtain ⟨c1, τ1, e1, e2⟩ := e
  refine ⟨F0, H0, F, ρ, τ, c1, τ1, r, e1, fun F1 H1 x1 r1 => ?_⟩
  cases c1 with
  | true =>
    rw [if_pos rfl] at e2 ⊢
    exact ⟨F0, H0, F1, ρ, τ1, c, τ', r1, e2, fun F2 H2 x2 r2 => k F2 H2 (x1.tr x2) r2⟩
  | false =>
    rw [if_neg Bool.false_ne_true] at e2 ⊢
    cases e2
    exact k F1 H1 x1 r1
theorem rd_or {a b : Tt} {σ : St} {H : Hp} {Q : Bool → Hp → Prop} (h : RdT P C W (.or a b) σ H Q) : tOr (RdT P C W a) (RdT P C W b) σ H Q := by
  obtain ⟨F0, H0, F, ρ, τ, c, τ', r, e, k⟩ := h
  simp only [evt, Option.bind_eq_some_iff, Prod.exists] at e
  obtain ⟨c1, τ1, e1, e2⟩ := e
  refine ⟨F0, H0, F, ρ, τ, c1, τ1, r, e1, fun F1 H1 x1 r1 => ?_⟩
  cases c1 with
  | false =>
    rw [if_neg Bool.false_ne_true] at e2 ⊢
    exact ⟨F0, H0, F1, ρ, τ1, c, τ', r1, e2, fun F2 H2 x2 r2 => k F2 H2 (x1.tr x2) r2⟩
  | true =>
    rw [if_pos rfl] at e2 ⊢
    cases e2
    exact k F1 H1 x1 r1
theorem rd_cmpT {o : CmpOp} {a b : E} {σ : St} {H : Hp} {Q : Bool → Hp → Prop} (h : RdT P C W (.cmp o a b) σ H Q) : tTest (tOp (rD2 C (cmpD o)) (RdE P C W a) (RdE P C W b)) σ H Q := by
  obtain ⟨F0, H0, F, ρ, τ, c, τ', r, e, k⟩ := h
  simp only [evt, Option.bind_eq_some_iff, Option.map_eq_some_iff, Prod.exists] at e
  obtain ⟨d1, τ1, e1, d2, τ2, e2, d3, e3, c1, e4, e5⟩ := e
  cases e5
  obtain ⟨c2, rfl⟩ := cmpD_bl e3
  obtain rfl := Option.some.inj e4
  exact ⟨F0, H0, F, ρ, τ, d1, τ1, r, e1, fun x F1 H1 x1 r1 q1 => ⟨F0, H0, F1, ρ, τ1, d2, _, r1, e2, fun y F2 H2 x2 r2 q2 =>
    ⟨F2, d1, d2, _, r2.sub, R.sub x2.ff _ q1, q2, e3, fun v F3 H3 x3 q3 => by cases q3; exact ⟨_, rfl, k F3 H3 ((x1.tr x2).tr x3.ext) (r2.extP x3)⟩⟩⟩⟩
theorem rd_chnT {o o' : CmpOp} {a b c : E} {σ : St} {H : Hp} {Q : Bool → Hp → Prop} (h : RdT P C W (.chn o o' a b c) σ H Q) : tTest (tChain (rD2 C (cmpD o)) (rD2 C (cmpD o')) (RdE P C W a) (RdE P C W b) (RdE P C W c)) σ H Q := by
  obtain ⟨F0, H0, F, ρ, τ, d, τ', r, e, k⟩ := h
  simp only [evt, Option.bind_eq_some_iff, Option.map_eq_some_iff, Prod.exists] at e
  obtain ⟨d1, τ1, e1, d2, τ2, e2, d3, e3, e4⟩ := e
  refine ⟨F0, H0, F, ρ, τ, d1, τ1, r, e1, fun x F1 H1 x1 r1 q1 => ⟨F0, H0, F1, ρ, τ1, d2, τ2, r1, e2, fun y F2 H2 x2 r2 q2 =>
    ⟨F2, d1, d2, d3, r2.sub, R.sub x2.ff _ q1, q2, e3, fun v F3 H3 x3 q3 => ?_⟩⟩⟩
  obtain ⟨k1, rfl⟩ := cmpD_bl e3
  cases q3
  have r3 := r2.extP x3
  refine ⟨k1, rfl, ?_⟩
  cases k1 with
  | false =>
    simp only at e4
    cases e4
    rw [if_neg Bool.false_ne_true]
    exact ⟨_, rfl, k F3 H3 ((x1.tr x2).tr x3.ext) r3⟩
  | true =>
    simp only [Option.bind_eq_some_iff, Option.map_eq_some_iff, Prod.exists] at e4
    obtain ⟨d4, τ4, e5, d6, e6, c7, e7, e8⟩ := e4
    cases e8
    obtain ⟨c2, rfl⟩ := cmpD_bl e6
    obtain rfl := Option.some.inj e7
    rw [if_pos rfl]
    exact ⟨F0, H0, F3, ρ, τ2, d4, _, r3, e5, fun z F4 H4 x4 r4 q4 => ⟨F4, d2, d4, _, r4.sub, R.sub (x3.ff.tr x4.ff) _ q2, q4, e6, fun v F5 H5 x5 q5 => by
      cases q5; exact ⟨_, rfl, k F5 H5 (((x1.tr x2).tr x3.ext).tr x4 |>.tr x5.ext) (r4.extP x5)⟩⟩⟩
theorem rd_isNT {ng : Bool} {a : E} {σ : St} {H : Hp} {Q : Bool → Hp → Prop} (h : RdT P C W (.isN ng a) σ H Q) : RdE P C W a σ H (fun x H1 => ∃ c, V.bl (if ng then !decide (x = .non) else decide (x = .non)) = .bl c ∧ Q c H1) := by
  obtain ⟨F0, H0, F, ρ, τ, d, τ', r, e, k⟩ := h
  simp only [evt, Option.map_eq_some_iff, Prod.exists] at e
  obtain ⟨d1, τ1, e1, e2⟩ := e
  cases e2
  refine ⟨F0, H0, F, ρ, τ, d1, _, r, e1, fun x F1 H1 x1 r1 q1 => ⟨_, rfl, ?_⟩⟩
  rw [q1.non_iff]
  have := k F1 H1 x1 r1
  cases d1 <;> cases ng <;> exact this
theorem rd_isBT {ng b : Bool} {a : E} {σ : St} {H : Hp} {Q : Bool → Hp → Prop} (h : RdT P C W (.isB ng a b) σ H Q) : tTest (tOp (fun x y H Q => ∃ a b : Bool, x = .bl a ∧ y = .bl b ∧ Q (.bl (if ng then !decide (a = b) else decide (a = b))) H) (RdE P C W a) (tC (.bl b))) σ H Q := by
  obtain ⟨F0, H0, F, ρ, τ, d, τ', r, e, k⟩ := h
  simp only [evt, Option.bind_eq_some_iff, Prod.exists] at e
  obtain ⟨d1, τ1, e1, e2⟩ := e
  cases d1 with
  | bl c =>
    simp only at e2
    cases e2
    refine ⟨F0, H0, F, ρ, τ, _, _, r, e1, fun x F1 H1 x1 r1 q1 => ?_⟩
    cases q1
    have e : decide (c = b) = (c == b) := by cases c <;> cases b <;> rfl
    refine ⟨c, b, rfl, rfl, _, rfl, ?_⟩
    rw [e]
    exact k F1 H1 x1 r1
  | _ => simp at e2
end

theorem p_ok {X : Cx} {e : E} (ih : ∀ x, chkE nm X.env.scope e x = true → PE X x (RdE P C W e)) (o : Option Expr) (h : (match o with | none => isNope e | some y => chkE nm X.env.scope e y) = true) : PO X o (RdP P C W e) := by
  cases o with
  | none =>
    cases e with
    | nope =>
      refine ⟨fun pins s σ H Q I q => po_none.run pins s σ H Q I ?_⟩
      obtain ⟨F0, H0, F, ρ, τ, o, τ', r, e, k⟩ := q
      cases e
      exact k F H (Ext.rfl' r.sub) r
    | _ => cases h
  | some x =>
    have hn : e ≠ .nope := fun z => by subst z; simp [chkE] at h
    refine ⟨fun pins s σ H Q I q => (po_some (ih x h)).run pins s σ H Q I ?_⟩
    obtain ⟨F0, H0, F, ρ, τ, o, τ', r, e1, k⟩ := q
    obtain ⟨i, rfl, e2⟩ := evp_ev hn e1
    refine ⟨F0, H0, F, ρ, τ, _, _, r, e2, fun v F1 H1 x1 r1 q1 => ?_⟩
    cases q1
    exact ⟨i, rfl, k F1 H1 x1 r1⟩
theorem c_ok {X : Cx} {c : Tt} (ih : ∀ x, chkT nm X.env.scope c x = true → PT X x (RdT P C W c)) (l : List Expr) (h : (match l with | [] => isYes c | [y] => chkT nm X.env.scope c y | _ => false) = true) : PTs X l (RdT P C W c) := by
  match l, h with
  | [], h =>
    cases c with
    | yes =>
      refine pts_imp pts_nil ?_
      rintro σ H Q ⟨F0, H0, F, ρ, τ, b, τ', r, e, k⟩
      cases e
      exact k F H (Ext.rfl' r.sub) r
    | _ => cases h
  | [x], h => exact pts_one (ih x h)
  | _ :: _ :: _, h => cases h

/-- range(a, b, c) -/
theorem rng3_pi {bk : Bool} {X : Cx} {t : Expr} (g : Good nm P C W bk X) {a b : E} {c : Int} {y z : Expr} {p1 p3 p2 : Pos} {j2 : Nat} (h2 : glB X.env.scope "range" = true) (h3 : notStar y = true) (h4 : notStar z = true) (ha : PE X y (RdE P C W a)) (hb : PE X z (RdE P C W b)) :
    PI X t (.Call (.Name "range" p1) [y, z, .Constant (.int c) j2 p2] [] p3) (RdI P C W (.rng3 a b c)) := by
  have e4 : starEach [z, .Constant (.int c) j2 p2] X.env = (false, eval z X.env) :: starEach [.Constant (.int c) j2 p2] X.env := star_of h4
  refine pi_imp (pi_range3 (gl_of h2) g.rng (pa_cons ha (pa_cons hb (pa_cons pe_int pa_nil rfl) e4) (star_of h3)) (star_of h3) (by rw [e4]; rfl)) ?_
  rintro σ H Rr ⟨F0, H0, F, ρ, τ, xs, τ', r, e1, k⟩
  simp only [evi, Option.bind_eq_some_iff, Prod.exists] at e1
  obtain ⟨d, τ1, e2, d2, τ2, e2', m, e3, n, e3', e4⟩ := e1
  split at e4
  · rename_i hn
    cases e4
    refine ⟨F0, H0, F, ρ, τ, d, _, r, e2, fun v F1 H1 x1 r1 q1 => ⟨F0, H0, F1, ρ, τ1, d2, _, r1, e2', fun v2 F2 H2 x2 r2 q2 => ?_⟩⟩
    cases d with
    | int i =>
      cases d2 with
      | int j =>
        cases e3; cases e3'
        cases q1; cases q2
        exact ⟨_, _, c, _, rfl, ⟨hn.1, hn.2.1, hn.2.2.1, (Int.toNat_of_nonneg hn.2.2.2).symm⟩, k _ F2 H2 (x1.tr x2) r2 (wk_rngC _ _ _)⟩
      | _ => cases e3'
    | _ => cases e3
  · cases e4
theorem wk_zip {F : Hp} (x y : List Nat) : Wk C (ItzS (tx x) (tx y)) F (zipC x y) where
  stop := fun F' H s1 s2 => by
    show _ = _
    simp [zipC, List.length_zip]
  go := fun i F' H s1 s2 hi => by
    show i < _
    simpa [zipC, List.length_zip] using hi
  yld := fun i F1 H v H' s1 s2 hi h => by
    obtain ⟨T, c, d, rfl, hT, rfl, q1, q2⟩ := h
    have e1 : x[i]? = some c := by simpa using q1
    have e2 : y[i]? = some d := by simpa using q2
    refine ⟨.tup [.str [c], .str [d]], upd F1 T (.tup [.str (tx [c]), .str (tx [d])]), ?_, ExtP.new s2 _ hT, .tup (.inl (.inl upd_same)) (.cons (.str _) (.cons (.str _) .nil)) fun z => by simp [isMap] at z⟩
    unfold zipC
    rw [List.getElem?_map, List.getElem?_zip_eq_some.mpr (show x[i]? = some (c, d).1 ∧ y[i]? = some (c, d).2 from ⟨e1, e2⟩)]
    rfl
/-- zip(a, b) of two texts -/
theorem zip_pi {bk : Bool} {X : Cx} {t : Expr} (g : Good nm P C W bk X) {a b : E} {y z : Expr} {p1 p2 : Pos} (ht : isTupE t = true) (h2 : glB X.env.scope "zip" = true) (h3 : notStar y = true) (h4 : notStar z = true) (ha : PE X y (RdE P C W a)) (hb : PE X z (RdE P C W b)) :
    PI X t (.Call (.Name "zip" p1) [y, z] [] p2) (RdI P C W (.zip a b)) := by
  cases t with
  | Tuple elts kk tpos =>
    have e4 : starEach [z] X.env = (false, eval z X.env) :: starEach [] X.env := star_of h4
    refine pi_imp (pi_zipS (gl_of h2) (g.oth _ (by simp)) (pa_cons ha (pa_cons hb pa_nil e4) (star_of h3)) (star_of h3) (by rw [e4]; rfl)) ?_
    rintro σ H Rr ⟨F0, H0, F, ρ, τ, xs, τ', r, e1, k⟩
    simp only [evi, Option.bind_eq_some_iff, Prod.exists] at e1
    obtain ⟨d, τ1, e2, d2, τ2, e3, e4⟩ := e1
    refine ⟨F0, H0, F, ρ, τ, d, _, r, e2, fun v F1 H1 x1 r1 q1 => ⟨F0, H0, F1, ρ, τ1, d2, _, r1, e3, fun v2 F2 H2 x2 r2 q2 => ?_⟩⟩
    cases d with
    | str x =>
      cases d2 with
      | str y =>
        cases e4
        cases q1; cases q2
        exact ⟨tx x, tx y, rfl, k _ F2 H2 (x1.tr x2) r2 (wk_zip x y)⟩
      | _ => cases e4
    | _ => cases e4
  | _ => cases ht
/-- a list of the frame's own is read -/
theorem rd_oix {K : PySem.W.Frag} {i : Nat} {e : E} {σ : L2.St} {H : Hp} {Q : VK} (h : RdE P C W (.oix i e) σ H Q) : tOp (rIxL K) (tVar i) (RdE P C W e) σ H Q := by
  obtain ⟨F0, H0, F, ρ, τ, d, τ', r, e0, kk⟩ := h
  simp only [ev] at e0
  cases q : ρ[i]? with
  | none => rw [q] at e0; cases e0
  | some s =>
    rw [q] at e0
    cases s with
    | ol xs =>
      simp only [Option.bind_eq_some_iff, Option.map_eq_some_iff, Prod.exists] at e0
      obtain ⟨d1, τ1, e1, n, e2, d2, e3, e4⟩ := e0
      cases e4
      obtain ⟨v, ea, a, e', ow⟩ := r.get q
      subst e'
      refine ⟨_, ea, F0, H0, F, ρ, τ, d1, _, r, e1, fun v F1 H1 x1 r1 q1 => ?_⟩
      cases d1 with
      | int m =>
        obtain rfl : m = n := Option.some.inj e2
        cases q1
        obtain ⟨⟨vs, hw, hr⟩, nF, ntp, nw⟩ := ow.ext x1
        obtain ⟨u, hu, ru⟩ := hr.at e3
        exact ⟨a, vs, m, u, rfl, rfl, .inl (.inl hw), hu, kk _ F1 H1 x1 r1 ru⟩
      | _ => cases e2
    | _ => cases e0
theorem rd_olen {K : PySem.W.Frag} {i : Nat} {σ : L2.St} {H : Hp} {Q : VK} (h : RdE P C W (.olen i) σ H Q) :
    tCB (fun xs H Q => ∃ p ys, xs = [.ref p] ∧ (SqL K H p ys ∨ SqT K H p ys) ∧ Q (.int ys.length) H) (tCons (tVar i) tNil) σ H Q := by
  obtain ⟨F0, H0, F, ρ, τ, d, τ', r, e0, kk⟩ := h
  simp only [ev] at e0
  cases q : ρ[i]? with
  | none => rw [q] at e0; cases e0
  | some s =>
    rw [q] at e0
    cases s with
    | ol xs =>
      cases e0
      obtain ⟨v, ea, a, e', ow⟩ := r.get q
      subst e'
      obtain ⟨⟨vs, hw, hr⟩, nF, ntp, nw⟩ := ow
      refine ⟨_, ea, a, vs, rfl, .inl (.inl (.inl hw)), ?_⟩
      rw [hr.len]
      exact kk _ F H (Ext.rfl' r.sub) r (.int _)
    | _ => cases e0
/-- the further forms -/
theorem op_pe {X : Cx} {o : Op} {z x : Expr} (hx : opArgs o z = some x) {e1 : E} (he : PE X x (RdE P C W e1)) : PE X z (RdE P C W (.op o (.cons e1 .nil))) := by
  unfold opArgs at hx
  split at hx
  · rename_i a b xa j1 c1 e p1 ya j2 c2 p2
    split at hx
    · rename_i hab
      obtain ⟨rfl, rfl⟩ := hab
      cases hx
      refine pe_imp (pe_joined (.cons pe_str (.cons (pe_fmt he) (.cons pe_str .nil)))) ?_
      rintro σ H Q ⟨F0, H0, F, ρ, τ, d, τ', r, e1, k⟩
      simp only [ev, evs, Option.bind_eq_some_iff, Option.map_eq_some_iff, Prod.exists] at e1
      obtain ⟨ds, τ1, ⟨d1, τ2, e2, ds2, τ3, e3, e4⟩, d2, e5, e6⟩ := e1
      cases e3
      cases e4
      cases e6
      cases d1 with
      | str s =>
        simp only [opD] at e5
        split at e5
        · rename_i hl
          cases e5
          refine ⟨tx a, rfl, ?_, F0, H0, F, ρ, τ, .str s, _, r, e2, fun v F1 H1 x1 r1 q1 => ?_⟩
          · rw [Str.empty_append, tx_len]; omega
          · cases q1
            refine .inl ⟨tx s, rfl, by rw [tx_len]; omega, tx s, rfl, ?_, tx b, rfl, ?_, ?_⟩
            · rw [Str.empty_append, tx_app, tx_len, List.length_append]; omega
            · rw [Str.empty_append, tx_app, tx_app, tx_len, List.length_append, List.length_append]; omega
            · rw [Str.empty_append, tx_app, tx_app]
              exact k _ _ _ x1 r1 (.str _)
        · cases e5
      | _ => simp [opD] at e5
    · cases hx
  · cases hx
theorem boot_list2 : bootBuiltins "list" = some (Value.type "list") := by decide +kernel
/-- list(f(..)) of a generator def -/
theorem genl_pe {bk : Bool} {X : Cx} (g : Good nm P C W bk X) {f : Nat} {es : Es} {x : Str} {y : Expr} {ys : List Expr} {p1 p2 p3 p4 : Pos} (h1 : glB X.env.scope "list" = true) (h2 : nm.gens[f]? = some x) (h3 : glB X.env.scope x = true) (h4 : okN x = true) (h5 : noStars (y :: ys) = true)
    (ha : PA X (y :: ys) (RdA P C W es)) : PE X (.Call (.Name "list" p1) [.Call (.Name x p2) (y :: ys) [] p3] [] p4) (RdE P C W (.genl f es)) := by
  obtain ⟨k, fa, fd, ps, ar, G, hG, hr, hF, hm, hk, hb, har⟩ := g.gen f x h2
  have h5' := h5
  unfold noStars at h5'
  simp only [List.all_cons, Bool.and_eq_true] at h5'
  refine pe_imp (pe_listG (E := E0) (pgen_call hF (hr.mono (by omega)) (gl_of h3) hm hk hb .nil ha (okN_of h4).1 (star_of h5'.1) (stars_of (show noStars ys = true from h5'.2))) ?_ ?_ hr (gl_of h1) (g.blt .list) boot_list2) ?_
  · intro pins σ H s e s' I c
    obtain ⟨a, B, H', cls, d, z1, fl, z2, ub, z3, z4, z5, z6⟩ := c
    exact z6.elim
  · intro cls d H z
    exact z.elim
  · rintro σ H Q ⟨F0, H0, F, ρ, τ, d, τ', r, e, k2⟩
    simp only [ev, Option.bind_eq_some_iff, Prod.exists] at e
    obtain ⟨ds, τ1, e1, os, e2, e3⟩ := e
    split at e3
    · rename_i hl
      cases e3
      refine ⟨F0, H0, F, ρ, τ, ds, _, r, e1, fun vs F1 H1 x1 r1 q1 => ?_⟩
      refine ⟨W, F1, ds, _, os, har _ _ e2, by rw [List.append_nil]; exact q1, r1.sub, r1.tape, by rw [hG]; exact e2, hl, rfl, fun us F2 H2 x2 t2 q2 p hp => ?_⟩
      have r2 := r1.ext x2 t2
      exact k2 _ _ _ ((x1.tr x2).tr (Ext.new r2.sub _ hp)) (r2.new _ hp) (.lst upd_same (RA.sub (ExtP.new r2.sub (.lst us) hp).ff os q2))
    · cases e3
mutual
theorem e_ok : ∀ (e : E) {bk : Bool} {X : Cx} (g : Good nm P C W bk X) (z : Expr), chkE nm X.env.scope e z = true → PE X z (RdE P C W e)
  | .var i, bk, X, g, z, h => by
    cases z with
    | Name x pos =>
      simp only [chkE, Bool.and_eq_true, decide_eq_true_eq] at h
      obtain ⟨⟨h1, h2⟩, h3⟩ := h
      refine pe_imp (pe_var (i := i) (by rw [g.hN]; exact h1) (vis_of h2) (okN_of h3).1 (okN_of h3).2.1) ?_
      rintro σ H Q ⟨F0, H0, F, ρ, τ, d, τ', r, e, k⟩
      simp only [ev] at e
      cases q : ρ[i]? with
      | none => rw [q] at e; cases e
      | some s =>
        rw [q] at e
        cases s with
        | d x =>
          simp only at e
          cases e
          obtain ⟨v, e1, u, rfl, ru⟩ := r.get q
          exact ⟨u, e1, k u F H (Ext.rfl' r.sub) r ru⟩
        | _ => cases e
    | _ => simp [chkE] at h
  | .cst n, bk, X, g, z, h => by
    cases z with
    | Name x pos =>
      simp only [chkE, Bool.and_eq_true, decide_eq_true_eq] at h
      obtain ⟨⟨h1, h2⟩, h3⟩ := h
      refine ⟨fun pins s σ H Q I q => ?_⟩
      obtain ⟨F0, H0, F, ρ, τ, d, τ', r, e, k⟩ := q
      simp only [ev, Option.map_eq_some_iff] at e
      obtain ⟨d', e1, e2⟩ := e
      cases e2
      obtain ⟨v, u, m1, rv, rr⟩ := g.cst n x _ h1 e1
      exact (pe_glob (gl_of h2) m1 rv (okN_of h3).1).run pins s σ H Q I (k v F H (Ext.rfl' r.sub) r (rr F))
    | _ => simp [chkE] at h
  | .int i, bk, X, g, z, h => by
    cases z with
    | Constant c n pos =>
      cases c with
      | int j =>
        simp only [chkE] at h
        obtain rfl := eq_of_beq h
        refine pe_imp pe_int ?_
        rintro σ H Q ⟨F0, H0, F, ρ, τ, d, τ', r, e, k⟩
        cases e
        exact k _ F H (Ext.rfl' r.sub) r (.int _)
      | _ => simp [chkE] at h
    | _ => simp [chkE] at h
  | .bl b, bk, X, g, z, h => by
    cases z with
    | Constant c n pos =>
      cases c with
      | bool j =>
        simp only [chkE] at h
        obtain rfl := eq_of_beq h
        refine pe_imp pe_bl ?_
        rintro σ H Q ⟨F0, H0, F, ρ, τ, d, τ', r, e, k⟩
        cases e
        exact k _ F H (Ext.rfl' r.sub) r (.bl _)
      | _ => simp [chkE] at h
    | _ => simp [chkE] at h
  | .non, bk, X, g, z, h => by
    cases z with
    | Constant c n pos =>
      cases c with
      | none =>
        refine pe_imp pe_non ?_
        rintro σ H Q ⟨F0, H0, F, ρ, τ, d, τ', r, e, k⟩
        cases e
        exact k _ F H (Ext.rfl' r.sub) r .non
      | _ => simp [chkE] at h
    | _ => simp [chkE] at h
  | .str s, bk, X, g, z, h => by
    cases z with
    | Constant c n pos =>
      cases c with
      | str j =>
        simp only [chkE] at h
        obtain rfl := eq_of_beq h
        refine pe_imp pe_str ?_
        rintro σ H Q ⟨F0, H0, F, ρ, τ, d, τ', r, e, k⟩
        cases e
        have := k (.str (tx j.cps.toList)) F H (Ext.rfl' r.sub) r (.str _)
        rw [tx_cps] at this
        exact this
      | _ => simp [chkE] at h
    | _ => simp [chkE] at h
  | .bin o a b, bk, X, g, z, h => by
    cases z with
    | BinOp x p y pos =>
      simp only [chkE, Bool.and_eq_true] at h
      exact pe_imp (pe_op (bin_ok g h.1.1) (e_ok a g x h.1.2) (e_ok b g y h.2)) fun σ H Q q => rd_bin q
    | _ => simp [chkE] at h
  | .neg a, bk, X, g, z, h => by
    cases z with
    | UnaryOp p x pos =>
      cases p with
      | USub =>
        simp only [chkE] at h
        refine pe_imp (pe_un (neg_D (C := C)) (e_ok a g x h)) ?_
        rintro σ H Q ⟨F0, H0, F, ρ, τ, d, τ', r, e, k⟩
        simp only [ev, Option.bind_eq_some_iff, Option.map_eq_some_iff, Prod.exists] at e
        obtain ⟨d1, τ1, e1, d2, e2, e3⟩ := e
        cases e3
        exact ⟨F0, H0, F, ρ, τ, d1, _, r, e1, fun x F1 H1 x1 r1 q1 => ⟨F1, d1, _, r1.sub, q1, e2, fun v F2 H2 x2 q2 => k v F2 H2 (x1.tr x2.ext) (r1.extP x2) q2⟩⟩
      | _ => simp [chkE] at h
    | _ => simp [chkE] at h
  | .cmp o a b, bk, X, g, z, h => by
    cases z with
    | Compare x ps ys pos =>
      match ps, ys, h with
      | [p], [y], h =>
        simp only [chkE, Bool.and_eq_true] at h
        exact pe_imp (pe_cmpR (cmp_ok g h.1.1.1) (e_ok a g x h.1.2) (e_ok b g y h.2) (behind_of h.1.1.2)) fun σ H Q q => rd_cmp q
      | [], _, h => simp [chkE] at h
      | _ :: _ :: _, [], h => simp [chkE] at h
      | _ :: _ :: _, _ :: _, h => simp [chkE] at h
      | [_], [], h => simp [chkE] at h
      | [_], _ :: _ :: _, h => simp [chkE] at h
    | _ => simp [chkE] at h
  | .chn o o' a b c, bk, X, g, z, h => by
    cases z with
    | Compare x ps ys pos =>
      match ps, ys, h with
      | [p, p'], [y, z], h =>
        simp only [chkE, Bool.and_eq_true] at h
        obtain ⟨⟨⟨⟨⟨⟨h1, h2⟩, h3⟩, h4⟩, h5⟩, h6⟩, h7⟩ := h
        exact pe_imp (pe_chain (cmp_ok g h1) (cmp_ok g h2) (e_ok a g x h5) (e_ok b g y h6) (e_ok c g z h7) (behind_of h4)) fun σ H Q q => rd_chn q
      | [], _, h => simp [chkE] at h
      | [_], _, h => simp [chkE] at h
      | _ :: _ :: _ :: _, _, h => simp [chkE] at h
      | [_, _], [], h => simp [chkE] at h
      | [_, _], [_], h => simp [chkE] at h
      | [_, _], _ :: _ :: _ :: _, h => simp [chkE] at h
    | _ => simp [chkE] at h
  | .isN ng a, bk, X, g, z, h => by
    simp only [chkE] at h
    split at h
    · rename_i x _ p1 p2
      simp only [Bool.and_eq_true] at h
      have e : ng = false := by simpa using h.1
      subst e
      exact pe_imp (pe_cmp (pc_isN (e_ok a g x h.2)) (nobehind _ (by decide) (by decide))) fun σ H Q q => rd_isN q
    · rename_i x _ p1 p2
      simp only [Bool.and_eq_true] at h
      have e : ng = true := h.1
      subst e
      exact pe_imp (pe_cmp (pc_notN (e_ok a g x h.2)) (nobehind _ (by decide) (by decide))) fun σ H Q q => rd_isN q
    · cases h
  | .isB ng a b, bk, X, g, z, h => by
    simp only [chkE] at h
    split at h
    · rename_i x c _ p1 p2
      simp only [Bool.and_eq_true] at h
      have e : ng = false := by simpa using h.1.1
      have e2 : b = c := eq_of_beq h.1.2
      subst e; subst e2
      refine pe_imp (pe_cmpR op_isBl (e_ok a g x h.2) pe_bl (nobehind _ (by decide) (by decide))) fun σ H Q q => ?_
      obtain ⟨F0, H0, F, ρ, τ, d, τ', r, e, k⟩ := rd_isB q
      exact ⟨F0, H0, F, ρ, τ, d, τ', r, e, fun v F1 H1 x1 r1 q1 => by
        obtain ⟨c, rfl, q2⟩ := k v F1 H1 x1 r1 q1
        exact ⟨c, b, rfl, rfl, q2⟩⟩
    · rename_i x c _ p1 p2
      simp only [Bool.and_eq_true] at h
      have e : ng = true := h.1.1
      have e2 : b = c := eq_of_beq h.1.2
      subst e; subst e2
      refine pe_imp (pe_cmpR op_notBl (e_ok a g x h.2) pe_bl (nobehind _ (by decide) (by decide))) fun σ H Q q => ?_
      obtain ⟨F0, H0, F, ρ, τ, d, τ', r, e, k⟩ := rd_isB q
      exact ⟨F0, H0, F, ρ, τ, d, τ', r, e, fun v F1 H1 x1 r1 q1 => by
        obtain ⟨c, rfl, q2⟩ := k v F1 H1 x1 r1 q1
        exact ⟨c, b, rfl, rfl, q2⟩⟩
    · cases h
  | .and a b, bk, X, g, z, h => by
    simp only [chkE] at h
    split at h
    · rename_i x y rs p
      simp only [Bool.and_eq_true] at h
      refine pe_imp (pe_andT (e_ok a g x h.1) (e_ok b g _ h.2)) ?_
      rintro σ H Q ⟨F0, H0, F, ρ, τ, d, τ', r, e, k⟩
      simp only [ev, Option.bind_eq_some_iff, Prod.exists] at e
      obtain ⟨d1, τ1, e1, c, e2, e3⟩ := e
      refine ⟨F0, H0, F, ρ, τ, d1, τ1, r, e1, fun x F1 H1 x1 r1 q1 => ⟨c, by rw [← g.hK]; exact tru_of r1.sub q1 e2, ?_⟩⟩
      cases c with
      | true =>
        rw [if_pos rfl] at e3 ⊢
        exact ⟨F0, H0, F1, ρ, τ1, d, τ', r1, e3, fun v F2 H2 x2 r2 q2 => k v F2 H2 (x1.tr x2) r2 q2⟩
      | false =>
        rw [if_neg Bool.false_ne_true] at e3 ⊢
        cases e3
        exact k x F1 H1 x1 r1 q1
    · cases h
  | .or a b, bk, X, g, z, h => by
    simp only [chkE] at h
    split at h
    · rename_i x y rs p
      simp only [Bool.and_eq_true] at h
      refine pe_imp (pe_orT (e_ok a g x h.1) (e_ok b g _ h.2)) ?_
      rintro σ H Q ⟨F0, H0, F, ρ, τ, d, τ', r, e, k⟩
      simp only [ev, Option.bind_eq_some_iff, Prod.exists] at e
      obtain ⟨d1, τ1, e1, c, e2, e3⟩ := e
      refine ⟨F0, H0, F, ρ, τ, d1, τ1, r, e1, fun x F1 H1 x1 r1 q1 => ⟨c, by rw [← g.hK]; exact tru_of r1.sub q1 e2, ?_⟩⟩
      cases c with
      | true =>
        rw [if_pos rfl] at e3 ⊢
        cases e3
        exact k x F1 H1 x1 r1 q1
      | false =>
        rw [if_neg Bool.false_ne_true] at e3 ⊢
        exact ⟨F0, H0, F1, ρ, τ1, d, τ', r1, e3, fun v F2 H2 x2 r2 q2 => k v F2 H2 (x1.tr x2) r2 q2⟩
    · cases h
  | .one a, bk, X, g, z, h => by
    simp only [chkE] at h
    split at h
    · rename_i op x p
      exact pe_imp (pe_one (e_ok a g x h)) fun σ H Q q => q
    · cases h
  | .not a, bk, X, g, z, h => by
    simp only [chkE] at h
    split at h
    · rename_i x p
      refine pe_imp (pe_notT (e_ok a g x h)) ?_
      rintro σ H Q ⟨F0, H0, F, ρ, τ, d, τ', r, e, k⟩
      simp only [ev, Option.bind_eq_some_iff, Option.map_eq_some_iff, Prod.exists] at e
      obtain ⟨d1, τ1, e1, c, e2, e3⟩ := e
      cases e3
      exact ⟨F0, H0, F, ρ, τ, d1, _, r, e1, fun x F1 H1 x1 r1 q1 => ⟨c, by rw [← g.hK]; exact tru_of r1.sub q1 e2, k _ F1 H1 x1 r1 (.bl _)⟩⟩
    · cases h
  | .ife c a b, bk, X, g, z, h => by
    simp only [chkE] at h
    split at h
    · rename_i zc x y p
      simp only [Bool.and_eq_true] at h
      refine pe_imp (pe_ifExp (t_ok c g zc h.1.1) (e_ok a g x h.1.2) (e_ok b g y h.2)) ?_
      rintro σ H Q ⟨F0, H0, F, ρ, τ, d, τ', r, e, k⟩
      simp only [ev, Option.bind_eq_some_iff, Prod.exists] at e
      obtain ⟨c1, τ1, e1, e2⟩ := e
      refine ⟨F0, H0, F, ρ, τ, c1, τ1, r, e1, fun F1 H1 x1 r1 => ?_⟩
      cases c1 with
      | true =>
        rw [if_pos rfl] at e2 ⊢
        exact ⟨F0, H0, F1, ρ, τ1, d, τ', r1, e2, fun v F2 H2 x2 r2 q2 => k v F2 H2 (x1.tr x2) r2 q2⟩
      | false =>
        rw [if_neg Bool.false_ne_true] at e2 ⊢
        exact ⟨F0, H0, F1, ρ, τ1, d, τ', r1, e2, fun v F2 H2 x2 r2 q2 => k v F2 H2 (x1.tr x2) r2 q2⟩
    · cases h
  | .tup es, bk, X, g, z, h => by
    simp only [chkE] at h
    split at h
    · rename_i xs j p
      refine pe_imp (pe_tup (a_ok es g xs h)) ?_
      rintro σ H Q ⟨F0, H0, F, ρ, τ, d, τ', r, e, k⟩
      simp only [ev, Option.bind_eq_some_iff, Prod.exists] at e
      obtain ⟨ds, τ1, e1, e2⟩ := e
      split at e2
      · rename_i hl
        cases e2
        refine ⟨F0, H0, F, ρ, τ, ds, _, r, e1, fun vs F1 H1 x1 r1 q1 => ⟨by rw [q1.len]; exact okT.len hl, fun q hq => ?_⟩⟩
        rw [g.tk] at hl
        exact k _ _ _ (x1.tr (Ext.new r1.sub _ hq)) (r1.new _ hq) (R.newT r1.sub hq q1 (okT.map hl))
      · cases e2
    · cases h
  | .lst es, bk, X, g, z, h => by
    simp only [chkE] at h
    split at h
    · rename_i xs p
      refine pe_imp (pe_lst (a_ok es g xs h)) ?_
      rintro σ H Q ⟨F0, H0, F, ρ, τ, d, τ', r, e, k⟩
      simp only [ev, Option.bind_eq_some_iff, Prod.exists] at e
      obtain ⟨ds, τ1, e1, e2⟩ := e
      split at e2
      · rename_i hl
        cases e2
        refine ⟨F0, H0, F, ρ, τ, ds, _, r, e1, fun vs F1 H1 x1 r1 q1 => ⟨by rw [q1.len]; exact hl, fun q hq => ?_⟩⟩
        exact k _ _ _ (x1.tr (Ext.new r1.sub _ hq)) (r1.new _ hq) (R.newL r1.sub hq q1)
      · cases e2
    · cases h
  | .idx a b, bk, X, g, z, h => by
    simp only [chkE] at h
    split at h
    · rename_i x y p
      simp only [Bool.and_eq_true] at h
      exact pe_imp (pe_ix (ix_D (C := C) g.hK) (e_ok a g x h.1.2) (e_ok b g y h.2) (plainIx_of h.1.1)) fun σ H Q q => rd_idx q
    · cases h
  | .sl a lo hi, bk, X, g, z, h => by
    simp only [chkE] at h
    split at h
    · rename_i x l u p1 p2
      simp only [Bool.and_eq_true] at h
      refine pe_imp (pe_slice (sl_D (C := C) g.hK) (e_ok a g x h.1.1) (p_ok (fun y hy => e_ok lo g y hy) l h.1.2) (p_ok (fun y hy => e_ok hi g y hy) u h.2)) ?_
      rintro σ H Q ⟨F0, H0, F, ρ, τ, d, τ', r, e, k⟩
      simp only [ev, Option.bind_eq_some_iff, Option.map_eq_some_iff, Prod.exists] at e
      obtain ⟨d1, τ1, e1, o1, τ2, e2, o2, τ3, e3, d2, e4, e5⟩ := e
      cases e5
      refine ⟨F0, H0, F, ρ, τ, d1, τ1, r, e1, fun x F1 H1 x1 r1 q1 => ⟨F0, H0, F1, ρ, τ1, o1, τ2, r1, e2, fun F2 H2 x2 r2 => ⟨F0, H0, F2, ρ, τ2, o2, _, r2, e3, fun F3 H3 x3 r3 => ?_⟩⟩⟩
      rw [g.tk] at e4
      exact ⟨F3, d1, _, r3.sub, R.sub (x2.ff.tr x3.ff) _ q1, e4, fun v F4 H4 x4 q4 => k v F4 H4 (((x1.tr x2).tr x3).tr x4.ext) (r3.extP x4) q4⟩
    · cases h
  | .rev a, bk, X, g, z, h => by
    simp only [chkE] at h
    split at h
    · rename_i x _ _ _ _ _
      refine pe_imp (pe_revL (e_ok a g x h)) ?_
      rintro σ H Q ⟨F0, H0, F, ρ, τ, d, τ', r, e, k⟩
      simp only [ev, Option.bind_eq_some_iff, Option.map_eq_some_iff, Prod.exists] at e
      obtain ⟨d1, τ1, e1, d2, e2, e3⟩ := e
      cases e3
      refine ⟨F0, H0, F, ρ, τ, d1, _, r, e1, fun v F1 H1 x1 r1 q1 => ?_⟩
      cases q1 with
      | @lst q vs ds h1 h2 =>
        cases e2
        exact ⟨q, vs, rfl, .inl (.inl (r1.sub _ _ h1)), fun q' hq => k _ _ _ (x1.tr (Ext.new r1.sub _ hq)) (r1.new _ hq) (R.newL r1.sub hq (RA.rev h2))⟩
      | _ => cases e2
    · cases h
  | .nope, bk, X, g, z, h => by simp [chkE] at h
  | .srt a, bk, X, g, z, h => by
    simp only [chkE] at h
    split at h
    · rename_i f p1 g' p2 x p3 p4
      simp only [Bool.and_eq_true, decide_eq_true_eq] at h
      obtain ⟨⟨⟨⟨⟨rfl, rfl⟩, h3⟩, h4⟩, h5⟩, h6⟩ := h
      have hu : X.A.units + 4 < cLine := by have := g.units; omega
      exact pe_imp (pe_callB (cr_sortTx g.calm hu) (gl_of h3) (g.oth _ (by simp)) (by decide +kernel) (pa_cons (pe_callTy (cr_setTx g.calm) (gl_of h4) (g.oth _ (by simp)) (by decide +kernel) (pa_cons (e_ok a g x h6) pa_nil (star_of h5)) (by decide +kernel) (by decide +kernel) (star_of h5) rfl) pa_nil rfl) (by decide +kernel) (by decide +kernel) rfl rfl) fun σ H Q q => rd_srt g.hK q
    · cases h
  | .repl i j, bk, X, g, z, h => by
    simp only [chkE] at h
    split at h
    · simp only [Bool.and_eq_true, decide_eq_true_eq] at h
      obtain ⟨⟨⟨⟨⟨⟨⟨⟨⟨⟨rfl, h2⟩, h3⟩, h4⟩, rfl⟩, rfl⟩, rfl⟩, h8⟩, h9⟩, h10⟩, h11⟩ := h
      exact pe_imp (pe_replM (by rw [g.hN]; exact h3) (vis_of h8) (by rw [g.hN]; exact h4) (vis_of h9) h10 h11 h2) fun σ H Q q => rd_repl g.hK g.tk q
    · cases h
  | .mapc x y, bk, X, g, z, h => by
    simp only [chkE] at h
    split at h
    · simp only [Bool.and_eq_true, beq_iff_eq] at h
      obtain ⟨⟨h1, h2⟩, h3⟩ := h
      refine pe_imp (pe_mapc (by rw [← h1])) fun σ H Q q => ?_
      have := rd_mapc q
      rw [← h2, ← h3, tx_self, tx_self] at this
      exact this
    · cases h
  | .tget i k, bk, X, g, z, h => by
    simp only [chkE] at h
    split at h
    · simp only [Bool.and_eq_true, decide_eq_true_eq] at h
      obtain ⟨⟨⟨⟨h1, h2⟩, h3⟩, rfl⟩, h5⟩ := h
      exact pe_imp (pe_ix ix_list (pe_var (i := i) (by rw [g.hN]; exact h1) (vis_of h2) (okN_of h3).1 (okN_of h3).2.1) pe_int (fun _ _ => rfl)) fun σ H Q q => rd_tget h5 q
    · cases h
  | .tcell i a, bk, X, g, z, h => by
    simp only [chkE] at h
    split at h
    · simp only [Bool.and_eq_true, decide_eq_true_eq] at h
      obtain ⟨⟨⟨⟨⟨h1, h2⟩, h3⟩, rfl⟩, h5⟩, h6⟩ := h
      exact pe_imp (pe_ix ix_list (pe_ix ix_list (pe_var (i := i) (by rw [g.hN]; exact h1) (vis_of h2) (okN_of h3).1 (okN_of h3).2.1) pe_int (fun _ _ => rfl)) (e_ok a g _ h6) (plainIx_of h5)) fun σ H Q q => rd_tcell q g.pns
    · cases h
  | .tlen i, bk, X, g, z, h => by
    simp only [chkE] at h
    split at h
    · simp only [Bool.and_eq_true, decide_eq_true_eq] at h
      obtain ⟨⟨⟨⟨⟨rfl, h2⟩, h3⟩, h4⟩, h5⟩, rfl⟩ := h
      exact pe_imp (pe_callB call_len_seq (gl_of h2) (g.blt .len) (by decide +kernel) (pa_cons (pe_ix ix_list (pe_var (i := i) (by rw [g.hN]; exact h3) (vis_of h4) (okN_of h5).1 (okN_of h5).2.1) pe_int (fun _ _ => rfl)) pa_nil rfl) (by decide +kernel) (by decide +kernel) rfl rfl) fun σ H Q q => rd_tlen q g.pns
    · cases h
  | .call f es, bk, X, g, z, h => by
    simp only [chkE] at h
    split at h
    · rename_i x p1 y ys p
      simp only [Bool.and_eq_true, decide_eq_true_eq] at h
      obtain ⟨⟨⟨⟨h1, h2⟩, h3⟩, h4⟩, h5⟩ := h
      obtain ⟨n, fa, fd, ps, ar, G, hG, hr, hF, hm, hk, hb, har⟩ := g.fns f x false h1
      have h4' := h4
      unfold noStars at h4'
      simp only [List.all_cons, Bool.and_eq_true] at h4'
      refine pe_imp (pe_call hF hr (gl_of h2) hm hk hb .nil (pass0 (X := X)) (a_ok es g _ h5) (okN_of h3).1 (star_of h4'.1) (stars_of (show noStars ys = true from h4'.2))) ?_
      rintro σ H Q ⟨F0, H0, F, ρ, τ, d, τ', r, e, k⟩
      simp only [ev, Option.bind_eq_some_iff, Prod.exists] at e
      obtain ⟨ds, τ1, e1, e2⟩ := e
      refine ⟨F0, H0, F, ρ, τ, ds, τ1, r, e1, fun vs F1 H1 x1 r1 q1 => ?_⟩
      refine ⟨W, F1, vs, ds, τ1, d, τ', by simp, har _ _ _ e2, q1, r1.sub, r1.tape, by rw [hG]; exact e2, fun v F2 H2 x2 t2 q2 => k v F2 H2 (x1.tr x2) (r1.ext x2 t2) q2⟩
    · cases h
  | .callT f i es, bk, X, g, z, h => by
    simp only [chkE] at h
    split at h
    · rename_i x p1 t p2 ys p
      simp only [Bool.and_eq_true, decide_eq_true_eq] at h
      obtain ⟨⟨⟨⟨⟨⟨⟨h1, h2⟩, h3⟩, h4⟩, h5⟩, h6⟩, h7⟩, h8⟩ := h
      obtain ⟨n, fa, fd, ps, ar, G, hG, hr, hF, hm, hk, hb, har⟩ := g.fns f x true h1
      refine pe_imp (pe_call hF hr (gl_of h2) hm hk hb .nil (pass0 (X := X)) (pa_cons (pe_var (i := i) (by rw [g.hN]; exact h4) (vis_of h5) (okN_of h6).1 (okN_of h6).2.1) (a_ok es g _ h8) rfl) (okN_of h3).1 rfl (stars_of h7)) ?_
      rintro σ H Q ⟨F0, H0, F, ρ, τ, d, τ', r, e, k⟩
      simp only [ev] at e
      cases q : ρ[i]? with
      | none => rw [q] at e; cases e
      | some s =>
        rw [q] at e
        cases s with
        | tape =>
          simp only [Option.bind_eq_some_iff, Prod.exists] at e
          obtain ⟨ds, τ1, e1, e2⟩ := e
          obtain ⟨v, e3, e4⟩ := r.get q
          have e4' : v = some (.ref W.tp) := e4
          subst e4'
          refine ⟨_, e3, F0, H0, F, ρ, τ, ds, τ1, r, e1, fun vs F1 H1 x1 r1 q1 => ?_⟩
          refine ⟨W, F1, vs, ds, τ1, d, τ', by simp, har _ _ _ e2, q1, r1.sub, r1.tape, by rw [hG]; exact e2, fun v F2 H2 x2 t2 q2 => k v F2 H2 (x1.tr x2) (r1.ext x2 t2) q2⟩
        | _ => cases e
    · cases h
  | .blt b es, bk, X, g, z, h => by
    simp only [chkE] at h
    split at h
    · rename_i x p1 y ys p
      simp only [Bool.and_eq_true, decide_eq_true_eq] at h
      obtain ⟨⟨⟨rfl, h2⟩, h3⟩, h4⟩ := h
      refine pe_imp (blt_pe g h2 h3 (a_ok es g _ h4)) ?_
      rintro σ H Q ⟨F0, H0, F, ρ, τ, d, τ', r, e, k⟩
      simp only [ev, Option.bind_eq_some_iff, Option.map_eq_some_iff, Prod.exists] at e
      obtain ⟨ds, τ1, e1, d2, e2, e3⟩ := e
      cases e3
      exact ⟨F0, H0, F, ρ, τ, ds, _, r, e1, fun vs F1 H1 x1 r1 q1 => ⟨F1, ds, _, r1.sub, q1, e2, fun v F2 H2 x2 q2 => k v F2 H2 (x1.tr x2.ext) (r1.extP x2) q2⟩⟩
    · cases h
  | .mth m a es, bk, X, g, z, h => by
    obtain ⟨id, hs, ht, hm⟩ := mth_rule g m
    simp only [chkE] at h
    split at h
    · rename_i o n ap p
      simp only [Bool.and_eq_true, decide_eq_true_eq] at h
      obtain ⟨⟨⟨⟨rfl, h2⟩, h3⟩, h4⟩, h5⟩ := h
      refine pe_imp (pe_bm0 F.plainAttrs_str hs ht hm (e_ok a g o h4) (base_of h2) h3) ?_
      rintro σ H Q ⟨F0, H0, F, ρ, τ, d, τ', r, e, k⟩
      simp only [ev, Option.bind_eq_some_iff, Option.map_eq_some_iff, Prod.exists] at e
      obtain ⟨d1, τ1, e1, ds, τ2, e2, d2, e3, e4⟩ := e
      cases e4
      have hes : es = .nil := by
        cases es with
        | nil => rfl
        | _ => simp [chkA] at h5
      subst hes
      simp only [evs] at e2
      cases e2
      refine ⟨F0, H0, F, ρ, τ, d1, _, r, e1, fun v F1 H1 x1 r1 q1 => ⟨?_, F1, d1, [], _, r1.sub, q1, .nil, e3, fun v F2 H2 x2 q2 => k v F2 H2 (x1.tr x2.ext) (r1.extP x2) q2⟩⟩
      obtain ⟨s, rfl⟩ := mD_str e3
      cases q1
      rfl
    · rename_i o n ap y ys p
      simp only [Bool.and_eq_true, decide_eq_true_eq] at h
      obtain ⟨⟨⟨⟨⟨⟨rfl, h2⟩, h3⟩, h4⟩, h5⟩, h6⟩, h7⟩ := h
      have h5' := h5
      unfold noStars at h5'
      simp only [List.all_cons, Bool.and_eq_true] at h5'
      have hfew : ((backTo p (starEach (y :: ys) X.env)).all (fun x => !x.1) && (backToKw p (keywordEach [] X.env)).all (fun x => x.1.isSome)
          && decide ((y :: ys).length + ([] : List Keyword).length + (if ([] : List Keyword).isEmpty then 0 else 1) < 30)) = true := by
        rw [Bool.and_eq_true, Bool.and_eq_true]
        refine ⟨⟨?_, rfl⟩, decide_eq_true (by simp only [List.length_cons, List.length_nil, List.isEmpty_nil, if_true]; omega)⟩
        have := stars_of (env := X.env) (pos := p) h5
        rw [List.any_eq_false] at this
        rw [List.all_eq_true]
        intro q hq
        have := this q hq
        simpa using this
      refine pe_imp (pe_bm F.plainAttrs_str hs ht hm (e_ok a g o h6) (a_ok es g _ h7) (base_of h2) hfew h3 (star_of h5'.1) (stars_of (show noStars ys = true from h5'.2))) ?_
      rintro σ H Q ⟨F0, H0, F, ρ, τ, d, τ', r, e, k⟩
      simp only [ev, Option.bind_eq_some_iff, Option.map_eq_some_iff, Prod.exists] at e
      obtain ⟨d1, τ1, e1, ds, τ2, e2, d2, e3, e4⟩ := e
      cases e4
      refine ⟨F0, H0, F, ρ, τ, d1, τ1, r, e1, fun v F1 H1 x1 r1 q1 => ⟨?_, F0, H0, F1, ρ, τ1, ds, _, r1, e2, fun vs F2 H2 x2 r2 q2 => ⟨F2, d1, ds, _, r2.sub, R.sub x2.ff _ q1, q2, e3, fun v F3 H3 x3 q3 => k v F3 H3 ((x1.tr x2).tr x3.ext) (r2.extP x3) q3⟩⟩⟩
      obtain ⟨s, rfl⟩ := mD_str e3
      cases q1
      rfl
    · cases h
  | .isi a t, bk, X, g, z, h => by
    simp only [chkE] at h
    split at h
    · rename_i f p1 x y p2 p
      simp only [Bool.and_eq_true, decide_eq_true_eq] at h
      obtain ⟨⟨⟨⟨⟨rfl, h2⟩, h3⟩, h4⟩, rfl⟩, h6⟩ := h
      refine pe_imp (pe_callB call_isi (gl_of h2) g.isn (by decide +kernel) (pa_cons (e_ok a g x h4) (pa_cons (ty_pe g h6) pa_nil rfl) (star_of h3)) (by decide +kernel) (by decide +kernel) (star_of h3) rfl) ?_
      rintro σ H Q ⟨F0, H0, F, ρ, τ, d, τ', r, e, k⟩
      simp only [ev, Option.map_eq_some_iff, Prod.exists] at e
      obtain ⟨d1, τ1, e1, e2⟩ := e
      cases e2
      exact ⟨F0, H0, F, ρ, τ, d1, _, r, e1, fun v F1 H1 x1 r1 q1 => ⟨v, _, _, _, _, rfl, .ty _, by rw [← g.hK]; exact ty_of r1.sub q1, kit_ty (kit_D d1 t), k _ F1 H1 x1 r1 (.bl _)⟩⟩
    · cases h
  | .isiT a ts, bk, X, g, z, h => by
    simp only [chkE] at h
    split at h
    · rename_i f p1 x l j p2 p
      simp only [Bool.and_eq_true, decide_eq_true_eq] at h
      obtain ⟨⟨⟨⟨⟨rfl, h2⟩, h3⟩, h4⟩, h5⟩, h6⟩ := h
      have hl : ts.length = l.length := by
        have : ∀ (ts : List Ty) (l : List Expr), chkTys X.env.scope ts l = true → ts.length = l.length := by
          intro ts
          induction ts with
          | nil => intro l h; cases l with
            | nil => rfl
            | cons _ _ => cases h
          | cons t ts ih => intro l h; cases l with
            | nil => cases h
            | cons e r =>
              cases e with
              | Name x pos =>
                simp only [chkTys, Bool.and_eq_true] at h
                rw [List.length_cons, List.length_cons, ih r h.2]
              | _ => cases h
        exact this ts l h6
      refine pe_imp (pe_callB call_isiT (gl_of h2) g.isn (by decide +kernel) (pa_cons (e_ok a g x h4) (pa_cons (pe_tup (tys_pa g h6)) pa_nil rfl) (star_of h3)) (by decide +kernel) (by decide +kernel) (star_of h3) rfl) ?_
      rintro σ H Q ⟨F0, H0, F, ρ, τ, d, τ', r, e, k⟩
      simp only [ev, Option.map_eq_some_iff, Prod.exists] at e
      obtain ⟨d1, τ1, e1, e2⟩ := e
      cases e2
      refine ⟨F0, H0, F, ρ, τ, d1, _, r, e1, fun v F1 H1 x1 r1 q1 => tTys_run ts _ _ _ ⟨?_, fun q hq => ?_⟩⟩
      · rw [List.length_map, hl, sizeLine_eq]; omega
      · have x2 := ExtP.raw r1.sub (HO.tup (ts.map fun t => V.ty (tyV' t))) hq
        have r2 := r1.extP x2
        refine ⟨v, q, _, .type (dTy d1), ts.map fun t => Value.type (tyV' t), _, rfl, upd_same, pair_tys ts, by rw [← g.hK]; exact ty_of r2.sub q1, kit_any d1 ts, k _ F1 _ (x1.tr x2.ext) r2 (.bl _)⟩
    · cases h
  | .comp elt tg it c own, bk, X, g, z, h => by
    simp only [chkE] at h
    split at h
    · rename_i x t iter ifs scope p
      simp only [Bool.and_eq_true] at h
      obtain ⟨⟨⟨⟨⟨⟨h1, h2⟩, h3⟩, h4⟩, h5⟩, h6⟩, h7⟩ := h
      have hw : ((own.map fun i => (nm.N.getD i "", i)).map (·.2)) = own := by rw [List.map_map]; exact List.map_id' own
      have := pe_lc (pos := p) g.calm g.nd (i_ok it g t iter h4) (blkOk_by (by rw [g.hN]; exact h3)) (fun s H Ca cl fp => tg_ok (g.blk s H scope cl Ca fp) tg t h5) (fun s H Ca cl fp => c_ok (fun y hy => t_ok c (g.blk s H scope cl Ca fp) y hy) ifs h6)
        (fun s H Ca cl fp => e_ok elt (g.blk s H scope cl Ca fp) x h7) (fold_of h1)
      rw [hw] at this
      exact pe_imp this fun σ H Q q => comp_rd (by simpa using h2) q
    · cases h
  | .op o es, bk, X, g, z, h => by
    simp only [chkE] at h
    split at h
    · rename_i x hx
      split at h
      · rename_i e1
        exact op_pe hx (e_ok e1 g x h)
      · cases h
    · cases h
  | .genl f es, bk, X, g, z, h => by
    simp only [chkE] at h
    split at h
    · rename_i l p1 x p2 y ys p3 p4
      simp only [Bool.and_eq_true, decide_eq_true_eq] at h
      obtain ⟨⟨⟨⟨⟨⟨rfl, h1⟩, h2⟩, h3⟩, h4⟩, h5⟩, h6⟩ := h
      exact genl_pe g h1 h2 h3 h4 h5 (a_ok es g _ h6)
    · cases h
  | .oix i e, bk, X, g, z, h => by
    simp only [chkE] at h
    split at h
    · simp only [Bool.and_eq_true, decide_eq_true_eq] at h
      obtain ⟨⟨⟨⟨h1, h2⟩, h3⟩, h5⟩, h6⟩ := h
      exact pe_imp (pe_ix ix_list (pe_var (i := i) (by rw [g.hN]; exact h1) (vis_of h2) (okN_of h3).1 (okN_of h3).2.1) (e_ok e g _ h6) (plainIx_of h5)) fun σ H Q q => rd_oix q
    · cases h
  | .olen i, bk, X, g, z, h => by
    simp only [chkE] at h
    split at h
    · simp only [Bool.and_eq_true, decide_eq_true_eq] at h
      obtain ⟨⟨⟨⟨rfl, h2⟩, h3⟩, h4⟩, h5⟩ := h
      exact pe_imp (pe_callB call_len_seq (gl_of h2) (g.blt .len) (by decide +kernel) (pa_cons (pe_var (i := i) (by rw [g.hN]; exact h3) (vis_of h4) (okN_of h5).1 (okN_of h5).2.1) pa_nil rfl) (by decide +kernel) (by decide +kernel) rfl rfl) fun σ H Q q => rd_olen q
    · cases h
theorem a_ok : ∀ (es : Es) {bk : Bool} {X : Cx} (g : Good nm P C W bk X) (l : List Expr), chkA nm X.env.scope es l = true → PA X l (RdA P C W es)
  | .nil, bk, X, g, l, h => by
    cases l with
    | nil =>
      refine pa_imp pa_nil ?_
      rintro σ H Q ⟨F0, H0, F, ρ, τ, ds, τ', r, e, k⟩
      simp only [evs] at e
      cases e
      exact k [] F H (Ext.rfl' r.sub) r .nil
    | cons _ _ => simp [chkA] at h
  | .cons e es, bk, X, g, l, h => by
    cases l with
    | nil => simp [chkA] at h
    | cons x xs =>
      simp only [chkA, Bool.and_eq_true] at h
      refine pa_imp (pa_cons (e_ok e g x h.1.2) (a_ok es g xs h.2) (star_of h.1.1)) ?_
      rintro σ H Q ⟨F0, H0, F, ρ, τ, ds, τ', r, e, k⟩
      simp only [evs, Option.bind_eq_some_iff, Option.map_eq_some_iff, Prod.exists] at e
      obtain ⟨d1, τ1, e1, d2, τ2, e2, e3⟩ := e
      cases e3
      exact ⟨F0, H0, F, ρ, τ, d1, τ1, r, e1, fun v F1 H1 x1 r1 q1 => ⟨F0, H0, F1, ρ, τ1, d2, _, r1, e2, fun vs F2 H2 x2 r2 q2 => k _ F2 H2 (x1.tr x2) r2 (.cons (R.sub x2.ff _ q1) q2)⟩⟩
  | .star e es, bk, X, g, l, h => by
    cases l with
    | nil => simp [chkA] at h
    | cons x xs =>
      cases x with
      | Starred x p =>
        simp only [chkA, Bool.and_eq_true] at h
        refine pa_imp (StX.pa_star (e_ok e g x h.1) (a_ok es g xs h.2)) ?_
        rintro σ H Q ⟨F0, H0, F, ρ, τ, ds, τ', r, e, k⟩
        simp only [evs, Option.bind_eq_some_iff, Prod.exists] at e
        obtain ⟨d1, τ1, e1, e2⟩ := e
        refine ⟨F0, H0, F, ρ, τ, d1, τ1, r, e1, fun v F1 H1 x1 r1 q1 => ?_⟩
        cases q1 with
        | @tup q vs zs h1 h2 h3 =>
          simp only [Option.map_eq_some_iff, Prod.exists] at e2
          obtain ⟨d2, τ2, e3, e4⟩ := e2
          cases e4
          exact ⟨q, vs, rfl, .inl (by rw [← g.hK]; exact sqT_sub r1.sub h1), F0, H0, F1, ρ, τ1, d2, _, r1, e3, fun ws F2 H2 x2 r2 q2 => k _ F2 H2 (x1.tr x2) r2 (RA.app (RA.sub x2.ff _ h2) q2)⟩
        | @lst q vs zs h1 h2 =>
          simp only [Option.map_eq_some_iff, Prod.exists] at e2
          obtain ⟨d2, τ2, e3, e4⟩ := e2
          cases e4
          exact ⟨q, vs, rfl, .inr (.inl (.inl (r1.sub _ _ h1))), F0, H0, F1, ρ, τ1, d2, _, r1, e3, fun ws F2 H2 x2 r2 q2 => k _ F2 H2 (x1.tr x2) r2 (RA.app (RA.sub x2.ff _ h2) q2)⟩
        | _ => simp at e2
      | _ => simp [chkA] at h
theorem i_ok : ∀ (it : I) {bk : Bool} {X : Cx} (g : Good nm P C W bk X) (t x : Expr), chkI nm X.env.scope it t x = true → PI X t x (RdI P C W it)
  | .data e, bk, X, g, t, x, h => by
    simp only [chkI] at h
    have he := e_ok e g x h
    refine ⟨fun pins s σ H Rr I q => ?_⟩
    obtain ⟨F0, H0, F, ρ, τ, xs, τ', r, e1, k⟩ := q
    simp only [evi, Option.bind_eq_some_iff, Option.map_eq_some_iff, Prod.exists] at e1
    obtain ⟨d, τ1, e2, ys, e3, e4⟩ := e1
    cases e4
    cases d with
    | lst ds =>
      cases e3
      refine (pi_list he).run pins s σ H Rr I ⟨F0, H0, F, ρ, τ, _, _, r, e2, fun v F1 H1 x1 r1 q1 => ?_⟩
      cases q1 with
      | @lst a vs _ h1 h2 => exact ⟨a, rfl, ⟨vs, .inl (.inl (r1.sub _ _ h1))⟩, k _ F1 H1 x1 r1 (wk_lst h1 h2)⟩
    | tup ds =>
      cases e3
      refine (pi_tup he).run pins s σ H Rr I ⟨F0, H0, F, ρ, τ, _, _, r, e2, fun v F1 H1 x1 r1 q1 => ?_⟩
      cases q1 with
      | @tup a vs _ h1 h2 h3 => exact ⟨a, rfl, ⟨vs, by rw [← g.hK]; exact sqT_sub r1.sub h1⟩, k _ F1 H1 x1 r1 (wk_tup (by rw [← g.hK]; exact h1) h2)⟩
    | str ss =>
      cases e3
      refine (pi_str he).run pins s σ H Rr I ⟨F0, H0, F, ρ, τ, _, _, r, e2, fun v F1 H1 x1 r1 q1 => ?_⟩
      cases q1
      exact ⟨tx ss, rfl, k _ F1 H1 x1 r1 (wk_str ss)⟩
    | _ => cases e3
  | .rng1 a, bk, X, g, t, z, h => by
    simp only [chkI] at h
    split at h
    · rename_i x p1 y p
      simp only [Bool.and_eq_true, decide_eq_true_eq] at h
      obtain ⟨⟨⟨rfl, h2⟩, h3⟩, h4⟩ := h
      refine pi_imp (pi_range1 (gl_of h2) g.rng (pa_cons (e_ok a g y h4) pa_nil (star_of h3)) (star_of h3)) ?_
      rintro σ H Rr ⟨F0, H0, F, ρ, τ, xs, τ', r, e1, k⟩
      simp only [evi, Option.bind_eq_some_iff, Prod.exists] at e1
      obtain ⟨d, τ1, e2, n, e3, e4⟩ := e1
      split at e4
      · rename_i hn
        cases e4
        refine ⟨F0, H0, F, ρ, τ, d, _, r, e2, fun v F1 H1 x1 r1 q1 => ?_⟩
        cases d with
        | int i =>
          cases e3
          cases q1
          unfold small62 at hn
          simp only [Bool.and_eq_true, decide_eq_true_eq] at hn
          exact ⟨_, rfl, hn.1, hn.2, k _ F1 H1 x1 r1 (wk_rng 0 _)⟩
        | _ => cases e3
      · cases e4
    · cases h
  | .rng2 a b, bk, X, g, t, z, h => by
    simp only [chkI] at h
    split at h
    · rename_i x p1 y w p
      simp only [Bool.and_eq_true, decide_eq_true_eq] at h
      obtain ⟨⟨⟨⟨⟨rfl, h2⟩, h3⟩, h4⟩, h5⟩, h6⟩ := h
      refine pi_imp (pi_range2 (gl_of h2) g.rng (pa_cons (e_ok a g y h5) (pa_cons (e_ok b g w h6) pa_nil (star_of h4)) (star_of h3)) (by rw [star_of h3, star_of h4]; rfl) (star_of h4)) ?_
      rintro σ H Rr ⟨F0, H0, F, ρ, τ, xs, τ', r, e1, k⟩
      simp only [evi, Option.bind_eq_some_iff, Prod.exists] at e1
      obtain ⟨d, τ1, e2, d2, τ2, e2', m, e3, n, e3', e4⟩ := e1
      split at e4
      · rename_i hn
        cases e4
        refine ⟨F0, H0, F, ρ, τ, d, _, r, e2, fun v F1 H1 x1 r1 q1 => ⟨F0, H0, F1, ρ, τ1, d2, _, r1, e2', fun v2 F2 H2 x2 r2 q2 => ?_⟩⟩
        cases d with
        | int i =>
          cases d2 with
          | int j =>
            cases e3; cases e3'
            cases q1; cases q2
            unfold small62 at hn
            simp only [Bool.and_eq_true, decide_eq_true_eq] at hn
            exact ⟨_, _, rfl, ⟨hn.1.1, hn.1.2, hn.2.1, hn.2.2⟩, k _ F2 H2 (x1.tr x2) r2 (wk_rng _ _)⟩
          | _ => cases e3'
        | _ => cases e3
      · cases e4
    · cases h
  | .rng3 a b c, bk, X, g, t, z, h => by
    simp only [chkI] at h
    split at h
    · rename_i x p1 y z d j2 p2 p3
      simp only [Bool.and_eq_true, decide_eq_true_eq] at h
      obtain ⟨⟨⟨⟨⟨⟨rfl, h2⟩, h3⟩, h4⟩, rfl⟩, h6⟩, h7⟩ := h
      exact rng3_pi g h2 h3 h4 (e_ok a g y h6) (e_ok b g z h7)
    · cases h
  | .enum a, bk, X, g, t, z, h => by
    simp only [chkI] at h
    split at h
    · simp only [Bool.and_eq_true, decide_eq_true_eq] at h
      obtain ⟨⟨⟨⟨h1, rfl⟩, h3⟩, h4⟩, h5⟩ := h
      cases t with
      | Tuple ts k p => exact pi_imp (pi_enumG (gl_of h3) (g.oth _ (by simp)) (e_ok a g _ h5) (star_of h4)) fun σ H Q q => rd_enum g.hK q
      | _ => cases h1
    · cases h
  | .zip a b, bk, X, g, t, z, h => by
    simp only [chkI] at h
    split at h
    · rename_i x p1 y z p2
      simp only [Bool.and_eq_true, decide_eq_true_eq] at h
      obtain ⟨⟨⟨⟨⟨⟨h1, rfl⟩, h2⟩, h3⟩, h4⟩, h5⟩, h6⟩ := h
      exact zip_pi g h1 h2 h3 h4 (e_ok a g y h5) (e_ok b g z h6)
    · cases h
theorem t_ok : ∀ (c : Tt) {bk : Bool} {X : Cx} (g : Good nm P C W bk X) (z : Expr), chkT nm X.env.scope c z = true → PT X z (RdT P C W c)
  | .yes, bk, X, g, z, h => by simp [chkT] at h
  | .val e, bk, X, g, z, h => by
    simp only [chkT, Bool.and_eq_true] at h
    refine pt_imp (pt_truth (e_ok e g z h.2) (truth_of h.1)) ?_
    rintro σ H Q ⟨F0, H0, F, ρ, τ, b, τ', r, e', k⟩
    simp only [evt, Option.bind_eq_some_iff, Option.map_eq_some_iff, Prod.exists] at e'
    obtain ⟨d1, τ1, e1, b1, e2, e3⟩ := e'
    cases e3
    exact ⟨F0, H0, F, ρ, τ, d1, _, r, e1, fun x F1 H1 x1 r1 q1 => ⟨_, by rw [← g.hK]; exact tru_of r1.sub q1 e2, k F1 H1 x1 r1⟩⟩
  | .and a b, bk, X, g, z, h => by
    simp only [chkT] at h
    split at h
    · rename_i x y rs p
      simp only [Bool.and_eq_true] at h
      exact pt_imp (pw_and (t_ok a g x h.1) (w_ok b g _ _ _ h.2)).pt fun σ H Q q => rd_and q
    · cases h
  | .or a b, bk, X, g, z, h => by
    simp only [chkT] at h
    split at h
    · rename_i x y rs p
      simp only [Bool.and_eq_true] at h
      exact pt_imp (pw_or (t_ok a g x h.1) (w_ok b g _ _ _ h.2)).pt fun σ H Q q => rd_or q
    · cases h
  | .one a, bk, X, g, z, h => by
    simp only [chkT] at h
    split at h
    · rename_i op x p
      cases op with
      | And => exact pt_imp (pw_and1 (t_ok a g x h)).pt fun σ H Q q => q
      | Or => exact pt_imp (pw_or1 (t_ok a g x h)).pt fun σ H Q q => q
    · cases h
  | .not a, bk, X, g, z, h => by
    simp only [chkT] at h
    split at h
    · rename_i x p
      refine pt_imp (pt_not (t_ok a g x h)) ?_
      rintro σ H Q ⟨F0, H0, F, ρ, τ, b, τ', r, e, k⟩
      simp only [evt, Option.map_eq_some_iff, Prod.exists] at e
      obtain ⟨c, τ1, e1, e2⟩ := e
      cases e2
      exact ⟨F0, H0, F, ρ, τ, c, _, r, e1, fun F1 H1 x1 r1 => k F1 H1 x1 r1⟩
    · cases h
  | .cmp o a b, bk, X, g, z, h => by
    simp only [chkT] at h
    split at h
    · rename_i x p y pos
      simp only [Bool.and_eq_true] at h
      exact pt_imp (pt_cmpR (cmp_ok g h.1.1.1) (e_ok a g x h.1.2) (e_ok b g y h.2) (behind_of h.1.1.2)) fun σ H Q q => rd_cmpT q
    · cases h
  | .chn o o' a b c, bk, X, g, z, h => by
    simp only [chkT] at h
    split at h
    · rename_i x p p' y w pos
      simp only [Bool.and_eq_true] at h
      obtain ⟨⟨⟨⟨⟨⟨h1, h2⟩, h3⟩, h4⟩, h5⟩, h6⟩, h7⟩ := h
      exact pt_imp (pt_chain (cmp_ok g h1) (cmp_ok g h2) (e_ok a g x h5) (e_ok b g y h6) (e_ok c g w h7) (behind_of h4)) fun σ H Q q => rd_chnT q
    · cases h
  | .isN ng a, bk, X, g, z, h => by
    simp only [chkT] at h
    split at h
    · rename_i x _ p1 p2
      simp only [Bool.and_eq_true] at h
      have e : ng = false := by simpa using h.1
      subst e
      exact pt_imp (pt_cmp (pc_isN (e_ok a g x h.2)) (nobehind _ (by decide) (by decide))) fun σ H Q q => rd_isNT q
    · rename_i x _ p1 p2
      simp only [Bool.and_eq_true] at h
      have e : ng = true := h.1
      subst e
      exact pt_imp (pt_cmp (pc_notN (e_ok a g x h.2)) (nobehind _ (by decide) (by decide))) fun σ H Q q => rd_isNT q
    · cases h
  | .isB ng a b, bk, X, g, z, h => by
    simp only [chkT] at h
    split at h
    · rename_i x c _ p1 p2
      simp only [Bool.and_eq_true] at h
      have e : ng = false := by simpa using h.1.1
      have e2 : b = c := eq_of_beq h.1.2
      subst e; subst e2
      exact pt_imp (pt_cmpR op_isBl (e_ok a g x h.2) pe_bl (nobehind _ (by decide) (by decide))) fun σ H Q q => rd_isBT q
    · rename_i x c _ p1 p2
      simp only [Bool.and_eq_true] at h
      have e : ng = true := h.1.1
      have e2 : b = c := eq_of_beq h.1.2
      subst e; subst e2
      exact pt_imp (pt_cmpR op_notBl (e_ok a g x h.2) pe_bl (nobehind _ (by decide) (by decide))) fun σ H Q q => rd_isBT q
    · cases h
theorem w_ok : ∀ (c : Tt) {bk : Bool} {X : Cx} (g : Good nm P C W bk X) (op : BoolOp) (l : List Expr) (p : Pos), chkT nm X.env.scope c (.BoolOp op l p) = true → PW X (.BoolOp op l p) (RdT P C W c)
  | .yes, bk, X, g, op, l, p, h => by simp [chkT] at h
  | .val e, bk, X, g, op, l, p, h => by
    simp only [chkT, plainT, Bool.false_and] at h
    cases h
  | .not a, bk, X, g, op, l, p, h => by simp [chkT] at h
  | .cmp _ _ _, bk, X, g, op, l, p, h => by simp [chkT] at h
  | .chn _ _ _ _ _, bk, X, g, op, l, p, h => by simp [chkT] at h
  | .isN _ _, bk, X, g, op, l, p, h => by simp [chkT] at h
  | .isB _ _ _, bk, X, g, op, l, p, h => by simp [chkT] at h
  | .and a b, bk, X, g, op, l, p, h => by
    simp only [chkT] at h
    split at h
    · rename_i x y rs p' heq
      cases heq
      simp only [Bool.and_eq_true] at h
      exact pw_imp (pw_and (t_ok a g x h.1) (w_ok b g _ _ _ h.2)) fun σ H Q q => rd_and q
    · cases h
  | .or a b, bk, X, g, op, l, p, h => by
    simp only [chkT] at h
    split at h
    · rename_i x y rs p' heq
      cases heq
      simp only [Bool.and_eq_true] at h
      exact pw_imp (pw_or (t_ok a g x h.1) (w_ok b g _ _ _ h.2)) fun σ H Q q => rd_or q
    · cases h
  | .one a, bk, X, g, op, l, p, h => by
    simp only [chkT] at h
    split at h
    · rename_i op' x p' heq
      cases heq
      cases op with
      | And => exact pw_imp (pw_and1 (t_ok a g x h)) fun σ H Q q => q
      | Or => exact pw_imp (pw_or1 (t_ok a g x h)) fun σ H Q q => q
    · cases h
end
end
end PD

set_option Elab.async false
set_option linter.all false
set_option maxRecDepth 100000
set_option maxHeartbeats 8000000
/-! Statements: the check, and what a checked block does. -/
namespace PD
open PySem L2

/-! ### the check -/
def notComp : Expr → Bool
  | .ListComp _ _ _ _ => false
  | .SetComp _ _ _ _ => false
  | .DictComp _ _ _ _ _ => false
  | _ => true
/-- whether the one place of a comprehension's value changes with the name's -/
def swB (sc : Scope) (x : Str) (px : Pos) : Expr → Option Bool
  | .ListComp _ _ s p => some (decide (sc.names.lookup x = some .local) && (px.line == p.line) && !(s.names.any fun (n, k) => n == x && (k == .local || k == .cell)))
  | .SetComp _ _ _ _ => none
  | .DictComp _ _ _ _ _ => none
  | _ => some false
def tupNames (sc : Scope) (ts : List Expr) : List Str :=
  let line := (ts.head?.map (·.pos.line)).getD 0
  ts.filterMap fun
    | .Name id pos => if sc.names.lookup id == some .local && pos.line == line then some id else none
    | _ => none
/-- the stores of a tuple of names are not exchanged -/
def noSwap (sc : Scope) (ts : List Expr) : Expr → Bool
  | .Tuple vs _ _ => !(ts.length == 2 || ts.length == 3) || vs.length != ts.length || (vs.any fun | .Starred .. => true | _ => false) || ((tupNames sc ts).length != ts.length) || ((tupNames sc ts).eraseDups.length != (tupNames sc ts).length) || vs.all (foldedForSure 8)
  | _ => true
/-- .. are -/
def doSwap (sc : Scope) (ts vs : List Expr) (xs : List Str) : Bool :=
  (ts.length == 2 || ts.length == 3) && (vs.length == ts.length) && !(vs.any fun | .Starred .. => true | _ => false) && decide (tupNames sc ts = xs) && !((tupNames sc ts).length != ts.length) && !((tupNames sc ts).eraseDups.length != (tupNames sc ts).length) && !(vs.all (foldedForSure 8)) && !(vs.all (constantsAlone 8))
mutual
def chkS (nm : Nm) (sc : Scope) (s : S) (z : Stmt) : Bool := match s with
  | .nop => (match z with
    | .Pass _ => true
    | _ => false)
  | .exp e => (match z with
    | .Expr x _ => notComp x && chkE nm sc e x
    | _ => false)
  | .ret e => (match z with
    | .Return (some x) _ => chkE nm sc e x
    | _ => false)
  | .retN => (match z with
    | .Return none _ => true
    | _ => false)
  | .set i e => (match z with
    | .Assign [.Name x px] v sp => decide (nm.N[i]? = some x) && locB false sc x && (swB sc x px v).isSome && chkE nm sc e v
    | _ => false)
  | .setO i (.lst es) => (match z with
    | .Assign [.Name x px] (.List xs _) sp => decide (nm.N[i]? = some x) && locB false sc x && chkA nm sc es xs
    | _ => false)
  | .setO i (.bin .Add a b) => (match z with
    | .Assign [.Name x px] (.BinOp v .Add w _) sp => decide (nm.N[i]? = some x) && locB false sc x && chkE nm sc a v && chkE nm sc b w
    | _ => false)
  | .setO i (.blt .list (.cons a .nil)) => (match z with
    | .Assign [.Name x px] (.Call (.Name l _) [y] [] _) sp => decide (nm.N[i]? = some x) && locB false sc x && decide (l = ("list" : Str)) && glB sc l && notStar y && chkE nm sc a y
    | _ => false)
  | .setO i (.rev a) => (match z with
    | .Assign [.Name x px] (.Subscript y (.Slice none none (some (.UnaryOp .USub (.Constant (.int 1) _ _) _)) _) _) sp => decide (nm.N[i]? = some x) && locB false sc x && chkE nm sc a y
    | _ => false)
  | .lset i k e => (match z with
    | .Assign [.Subscript (.Name x _) y _] v sp => decide (nm.N[i]? = some x) && visB sc x && okN x && notComp v && plainIxB y && chkE nm sc k y && chkE nm sc e v
    | _ => false)
  | .lpop i k => (match z with
    | .Expr (.Call (.Attribute (.Name x p) n ap) [y] [] cp) sp => decide (nm.N[i]? = some x) && visB sc x && okN x && decide (n = ("pop" : Str)) && (ap.endLine == cp.line) && notStar y && chkE nm sc k y
    | _ => false)
  | .lins i k e => (match z with
    | .Expr (.Call (.Attribute (.Name x p) n ap) [y, y2] [] cp) sp => decide (nm.N[i]? = some x) && visB sc x && okN x && decide (n = ("insert" : Str)) && (ap.endLine == cp.line) && notStar y && notStar y2 && chkE nm sc k y && chkE nm sc e y2
    | _ => false)
  | .par [i, j] es => (match z with
    | .Assign [.Tuple [.Name x px, .Name y py] kt pt] (.Tuple [a, b] k2 pt2) sp => decide (nm.N[i]? = some x) && decide (nm.N[j]? = some y) && decide (i ≠ j) && decide (sc.names.lookup x = some .local) && decide (sc.names.lookup y = some .local) && chkA nm sc es [a, b] && doSwap sc [.Name x px, .Name y py] [a, b] [x, y]
    | _ => false)
  | .par [i, j, l] es => (match z with
    | .Assign [.Tuple [.Name x px, .Name y py, .Name u pu] kt pt] (.Tuple [a, b, c] k2 pt2) sp => decide (nm.N[i]? = some x) && decide (nm.N[j]? = some y) && decide (nm.N[l]? = some u) && decide (i ≠ j ∧ i ≠ l ∧ j ≠ l) && decide (sc.names.lookup x = some .local) && decide (sc.names.lookup y = some .local) && decide (sc.names.lookup u = some .local) && chkA nm sc es [a, b, c] && doSwap sc [.Name x px, .Name y py, .Name u pu] [a, b, c] [x, y, u]
    | _ => false)
  | .unp t e => (match z with
    | .Assign [.Tuple ts k pt] v sp => noSwap sc ts v && chkTg nm false sc t (.Tuple ts k pt) && chkE nm sc e v
    | _ => false)
  | .ife c a b => (match z with
    | .If x p q _ => chkT nm sc c x && chkB nm sc a p && chkB nm sc b q
    | _ => false)
  | .whl c b => (match z with
    | .While x p [] _ => chkT nm sc c x && chkB nm sc b p
    | _ => false)
  | .fr tg it b => (match z with
    | .For t iter body [] _ => notSet iter && chkI nm sc it t iter && chkTg nm false sc tg t && chkB nm sc b body
    | _ => false)
  | .app i e => (match z with
    | .Expr (.Call (.Attribute (.Name x p) n ap) [y] [] cp) sp => decide (nm.N[i]? = some x) && visB sc x && okN x && decide (n = ("append" : Str)) && (ap.endLine == cp.line) && notStar y && chkE nm sc e y
    | _ => false)
  | .tset i k e => (match z with
    | .Assign [.Subscript (.Name x _) (.Constant (.int j) _ _) _] v sp => decide (nm.N[i]? = some x) && visB sc x && okN x && decide (j = (k : Int)) && decide (k = 1 ∨ k = 2) && notComp v && chkE nm sc e v
    | _ => false)
  | .brk => (match z with
    | .Break _ => true
    | _ => false)
  | .cnt => (match z with
    | .Continue _ => true
    | _ => false)
  | .stuck => true
  | _ => false
def chkB (nm : Nm) (sc : Scope) (b : Ss) (l : List Stmt) : Bool := match b with
  | .nil => l.isEmpty
  | .cons s ss => (match l with
    | z :: r => chkS nm sc s z && chkB nm sc ss r
    | [] => false)
  | .frz i ss => chkB nm sc ss l
end

/-! ### readings -/
section
variable {nm : Nm} {P : Sg} {C : Con} {W : TW}
/-- an outcome leads on -/
def Cont (C : Con) (W : TW) (D : Ends) (F0 H0 Fs : Hp) : Out → Prop
  | .nx ρ τ => ∀ σ' F' H', Sub Fs F' → Rel C W F0 H0 F' H' σ' ρ τ → D.nx σ' H'
  | .bk ρ τ => ∀ σ' F' H', Sub Fs F' → Rel C W F0 H0 F' H' σ' ρ τ → D.bk σ' H'
  | .ct ρ τ => ∀ σ' F' H', Sub Fs F' → Rel C W F0 H0 F' H' σ' ρ τ → D.ct σ' H'
  | .rt d τ => ∀ v F' H', Ext W.tp F0 H0 F' H' → TapeAt W F' H' τ → R C F' v d → D.rt v H'
def RdS (P : Sg) (C : Con) (W : TW) (s : S) : L2.TS := fun D σ H => ∃ F0 H0 F ρ τ o, Rel C W F0 H0 F H σ ρ τ ∧ evS P s ρ τ = some o ∧ Cont C W D F0 H0 F o
def RdB (P : Sg) (C : Con) (W : TW) (b : Ss) : L2.TS := fun D σ H => ∃ F0 H0 F ρ τ o, Rel C W F0 H0 F H σ ρ τ ∧ evB P b ρ τ = some o ∧ Cont C W D F0 H0 F o
theorem Cont.mono {D : Ends} {F0 H0 F F' : Hp} (s : Sub F F') : ∀ {o : Out}, Cont C W D F0 H0 F o → Cont C W D F0 H0 F' o
  | .nx ρ τ, k => fun σ' G H' s' => k σ' G H' (s.tr s')
  | .bk ρ τ, k => fun σ' G H' s' => k σ' G H' (s.tr s')
  | .ct ρ τ, k => fun σ' G H' s' => k σ' G H' (s.tr s')
  | .rt d τ, k => k
theorem ps_imp {X : Cx} {st : Stmt} {t t' : L2.TS} (h : PS X st t) (f : ∀ D σ H, t' D σ H → t D σ H) : PS X st t' := ⟨fun pins s σ H D I q => h.run pins s σ H D I (f D σ H q)⟩
theorem pss_imp {X : Cx} {st : List Stmt} {t t' : L2.TS} (h : PSs X st t) (f : ∀ D σ H, t' D σ H → t D σ H) : PSs X st t' := ⟨fun pins s σ H D I q => h.run pins s σ H D I (f D σ H q)⟩

/-! ### loops -/
theorem rd_whl {c : Tt} {b : Ss} {D : Ends} {σ : St} {H : Hp} (h : RdS P C W (.whl c b) D σ H) : tWhile (RdT P C W c) (RdB P C W b) D σ H := by
  obtain ⟨F0, H0, F, ρ, τ, o, r, e, k⟩ := h
  rw [evS] at e
  obtain ⟨n, e⟩ := whL_some e
  refine ⟨fun m σ H => ∃ Fc ρ τ, Sub F Fc ∧ Rel C W F0 H0 Fc H σ ρ τ ∧ whN (evt P c) (evB P b) m ρ τ = some o, ⟨n, F, ρ, τ, Sub.rfl' F, r, e⟩, ?_⟩
  rintro m σ1 H1 ⟨Fc, ρ1, τ1, s1, r1, e1⟩
  cases m with
  | zero => cases e1
  | succ m =>
    rw [whN] at e1
    simp only [Option.bind_eq_some_iff, Prod.exists] at e1
    obtain ⟨bv, τ2, e2, e3⟩ := e1
    refine ⟨F0, H0, Fc, ρ1, τ1, bv, τ2, r1, e2, fun F2 H2 x2 r2 => ?_⟩
    cases bv with
    | false =>
      simp only [Bool.false_eq_true, if_false] at e3 ⊢
      cases e3
      exact k _ _ _ (s1.tr x2.ff) r2
    | true =>
      simp only [if_true, Option.bind_eq_some_iff] at e3 ⊢
      obtain ⟨o2, e4, e5⟩ := e3
      refine ⟨fun σ' H' => ∃ F' ρ' τ', Sub F F' ∧ Rel C W F0 H0 F' H' σ' ρ' τ' ∧ whN (evt P c) (evB P b) m ρ' τ' = some o, fun σ' H' q => ⟨m, Nat.lt_succ_self m, q⟩, F0, H0, F2, ρ1, τ2, o2, r2, e4, ?_⟩
      cases o2 with
      | nx ρ3 τ3 => exact fun σ' F' H' s' r' => ⟨F', ρ3, τ3, (s1.tr x2.ff).tr s', r', e5⟩
      | ct ρ3 τ3 => exact fun σ' F' H' s' r' => ⟨F', ρ3, τ3, (s1.tr x2.ff).tr s', r', e5⟩
      | bk ρ3 τ3 =>
        cases e5
        exact fun σ' F' H' s' r' => k σ' F' H' ((s1.tr x2.ff).tr s') r'
      | rt d τ3 =>
        cases e5
        exact k
theorem rd_for {tg : T} {it : I} {b : Ss} {D : Ends} {σ : St} {H : Hp} (h : RdS P C W (.fr tg it b) D σ H) : tFor (RdI P C W it) (RdG C W tg) (RdB P C W b) D σ H := by
  obtain ⟨F0, H0, F, ρ, τ, o, r, e, k⟩ := h
  rw [evS] at e
  simp only [Option.bind_eq_some_iff, Prod.exists] at e
  obtain ⟨xs, τ1, e1, e2⟩ := e
  generalize hf : (fun (x : PD.D) (ρ1 : Env') (τ1 : TS) => (bindT tg x ρ1).bind fun ρ2 => evB P b ρ2 τ1) = f at e2
  have hfx : ∀ x ρ1 τ1, f x ρ1 τ1 = (bindT tg x ρ1).bind fun ρ2 => evB P b ρ2 τ1 := fun x ρ1 τ1 => by rw [← hf]
  refine ⟨F0, H0, F, ρ, τ, xs, τ1, r, e1, fun J F1 H1 x1 r1 wk => ?_⟩
  refine ⟨fun i m σ H => ∃ Fc ρ τ, i ≤ xs.length ∧ m = xs.length - i ∧ Sub F1 Fc ∧ Rel C W F0 H0 Fc H σ ρ τ ∧ forL f (xs.drop i) ρ τ = some o,
    ⟨xs.length, F1, ρ, τ1, Nat.zero_le _, rfl, Sub.rfl' _, r1, by rw [List.drop_zero]; exact e2⟩, ?_⟩
  rintro i m σc Hc ⟨Fc, ρc, τc, hi, rfl, sc, rc, ec⟩
  by_cases hlt : i < xs.length
  · refine .inr ⟨wk.go i Fc Hc sc rc.sub hlt, fun σ' H' => ∃ F' ρ' τ', Sub F1 F' ∧ Rel C W F0 H0 F' H' σ' ρ' τ' ∧ forL f (xs.drop (i + 1)) ρ' τ' = some o, ?_, fun x H' hy => ?_⟩
    · rintro σ' H' ⟨F', ρ', τ', a1, a2, a3⟩
      exact ⟨xs.length - (i + 1), by omega, F', ρ', τ', by omega, rfl, a1, a2, a3⟩
    · obtain ⟨d, F2, hd, x2, rx⟩ := wk.yld i Fc Hc x H' sc rc.sub hlt hy
      have hdr : xs.drop i = d :: xs.drop (i + 1) := by
        rw [List.drop_eq_getElem_cons hlt]
        rw [List.getElem?_eq_getElem hlt] at hd
        rw [Option.some.inj hd]
      rw [hdr] at ec
      simp only [forL, Option.bind_eq_some_iff] at ec
      obtain ⟨o2, ef, e3⟩ := ec
      rw [hfx] at ef
      simp only [Option.bind_eq_some_iff] at ef
      obtain ⟨ρ2, eb, eB⟩ := ef
      have r2 := rc.extP x2
      refine ⟨F0, H0, F2, ρc, τc, d, ρ2, r2, rx, eb, fun σ2 r3 _ => ⟨F0, H0, F2, ρ2, τc, o2, r3, eB, ?_⟩⟩
      have s2 : Sub F1 F2 := sc.tr x2.ff
      cases o2 with
      | nx ρ3 τ3 => exact fun σ' F' H' s' r' => ⟨F', ρ3, τ3, s2.tr s', r', e3⟩
      | ct ρ3 τ3 => exact fun σ' F' H' s' r' => ⟨F', ρ3, τ3, s2.tr s', r', e3⟩
      | bk ρ3 τ3 =>
        cases e3
        exact fun σ' F' H' s' r' => k σ' F' H' (x1.ff.tr (s2.tr s')) r'
      | rt d τ3 =>
        cases e3
        exact k
  · have e : i = xs.length := by omega
    subst e
    refine .inl ⟨wk.stop Fc Hc sc rc.sub, ?_⟩
    rw [List.drop_length] at ec
    simp only [forL] at ec
    cases ec
    exact k _ _ _ (x1.ff.tr sc) rc
end
end PD

set_option Elab.async false
set_option linter.all false
set_option maxRecDepth 100000
set_option maxHeartbeats 8000000
/-! What a checked block does. -/
namespace PD
open PySem L2
section
variable {nm : Nm} {P : Sg} {C : Con} {W : TW} {X : Cx}

theorem fnb (hk : X.env.scope.kind = .function) : X.env.blockKind = .function := by unfold Env.blockKind; rw [hk]; rfl
theorem sw_none {v : Expr} {px : Option Expr} {l : Nat} (h : notComp v = true) : swapsWith v px l X.env = pure false := by
  cases v <;> first | rfl | cases h
theorem sw_false (hk : X.env.scope.kind = .function) {v : Expr} {x : Str} {px : Pos} {l : Nat} (h : swB X.env.scope x px v = some false) : swapsWith v (some (.Name x px)) l X.env = pure false := by
  cases v with
  | ListComp elt gs s p =>
    have hb := fnb hk
    simp only [swB, Option.some.injEq] at h
    unfold swapsWith
    simp only [hb, Env.kindOf, Expr.pos]
    show pure _ = pure false
    congr 1
    rw [← h]
    have e : (X.env.scope.names.lookup x == some NameKind.local) = decide (X.env.scope.names.lookup x = some .local) := by
      by_cases q : X.env.scope.names.lookup x = some .local
      · rw [q]; rfl
      · rw [decide_eq_false q]
        exact beq_eq_false_iff_ne.mpr q
    rw [e]
    rfl
  | SetComp _ _ _ _ => cases h
  | DictComp _ _ _ _ _ => cases h
  | _ => rfl
theorem sw_sole {ts : List Expr} {k : Nat} {pt : Pos} {v : Expr} {l : Nat} : swapsWithSole [.Tuple ts k pt] v l X.env = pure false := by
  cases v <;> rfl
theorem sw_eq {ts vs : List Expr} {k k2 : Nat} {pt pt2 : Pos} {env : Env} : swappedStores [.Tuple ts k pt] (.Tuple vs k2 pt2) env =
    (if (!(ts.length == 2 || ts.length == 3) || vs.length != ts.length || env.blockKind != .function) = true then pure none
    else if (vs.any fun | .Starred .. => true | _ => false) = true then pure none
    else if ((tupNames env.scope ts).length != ts.length || (tupNames env.scope ts).eraseDups.length != (tupNames env.scope ts).length) = true then pure none
    else if vs.all (foldedForSure 8) = true then pure none
    else if vs.all (constantsAlone 8) = true then (unsupported "assign.tuple-of-constant-expressions:order-of-the-stores" >>= fun (_ : PUnit) => pure (some (tupNames env.scope ts)))
    else pure (some (tupNames env.scope ts))) := by
  unfold swappedStores
  rfl
theorem no_swap (hk : X.env.scope.kind = .function) {ts : List Expr} {k : Nat} {pt : Pos} {v : Expr} (h : noSwap X.env.scope ts v = true) : swappedStores [.Tuple ts k pt] v X.env = pure none := by
  cases v with
  | Tuple vs k2 pt2 =>
    rw [sw_eq]
    simp only [noSwap, Bool.or_eq_true] at h
    split
    · rfl
    · rename_i c1
      split
      · rfl
      · rename_i c2
        split
        · rfl
        · rename_i c3
          split
          · rfl
          · rename_i c4
            exfalso
            simp only [Bool.or_eq_true, not_or] at c1 c3
            rcases h with ((((h | h) | h) | h) | h) | h
            · exact c1.1.1 h
            · exact c1.1.2 h
            · exact c2 h
            · exact c3.1 h
            · exact c3.2 h
            · exact c4 h
  | _ => rfl
theorem do_swap (hk : X.env.scope.kind = .function) {ts vs : List Expr} {k k2 : Nat} {pt pt2 : Pos} {xs : List Str} (h : doSwap X.env.scope ts vs xs = true) : swappedStores [.Tuple ts k pt] (.Tuple vs k2 pt2) X.env = pure (some xs) := by
  have hb := fnb hk
  rw [sw_eq]
  simp only [doSwap, Bool.and_eq_true, Bool.not_eq_true', decide_eq_true_eq] at h
  obtain ⟨⟨⟨⟨⟨⟨⟨h1, h2⟩, h3⟩, h4⟩, h5⟩, h6⟩, h7⟩, h8⟩ := h
  have e1 : (!(ts.length == 2 || ts.length == 3) || vs.length != ts.length || X.env.blockKind != ScopeKind.function) = false := by
    rw [h1, hb]
    have : (vs.length != ts.length) = false := by
      rw [bne, h2]; rfl
    rw [this]; rfl
  refine (if_neg (by rw [e1]; decide)).trans ((if_neg fun z => Bool.noConfusion (h3.symm.trans z)).trans ?_)
  rw [if_neg (by rw [h5, h6]; decide), if_neg (by rw [h7]; decide), if_neg (by rw [h8]; decide), h4]

theorem rd_set {i : Nat} {e : E} {D : Ends} {σ : St} {H : Hp} (h : RdS P C W (.set i e) D σ H) : tAsg (RdE P C W e) (gName i) D σ H := by
  obtain ⟨F0, H0, F, ρ, τ, o, r, e, k⟩ := h
  rw [evS] at e
  simp only [Option.map_eq_some_iff, Prod.exists] at e
  obtain ⟨d, τ1, e1, e2⟩ := e
  cases e2
  exact ⟨F0, H0, F, ρ, τ, d, τ1, r, e1, fun v F1 H1 x1 r1 q1 => k _ _ _ x1.ff (r1.setD i q1)⟩
theorem rdS_e {F0 H0 F H : Hp} {ρ : Env'} {τ τ' : TS} {d : PD.D} {e : E} {σ : St} (r : Rel C W F0 H0 F H σ ρ τ) (e1 : ev P e ρ τ = some (d, τ')) {Q : VK} (k : ∀ v F' H', Ext W.tp F H F' H' → Rel C W F0 H0 F' H' σ ρ τ' → R C F' v d → Q v H') : RdE P C W e σ H Q := ⟨F0, H0, F, ρ, τ, d, τ', r, e1, k⟩
theorem setAll2 {i j : Nat} {ds : List PD.D} {ρ ρ1 : Env'} (h : setAll [i, j] ds ρ = some ρ1) : ∃ a b, ds = [a, b] ∧ ρ1 = (ρ.set i (.d a)).set j (.d b) := by
  cases ds with
  | nil => cases h
  | cons a ds =>
    cases ds with
    | nil => cases h
    | cons b ds =>
      cases ds with
      | nil => cases h; exact ⟨a, b, rfl, rfl⟩
      | cons _ _ => cases h
theorem setAll3 {i j l : Nat} {ds : List PD.D} {ρ ρ1 : Env'} (h : setAll [i, j, l] ds ρ = some ρ1) : ∃ a b c, ds = [a, b, c] ∧ ρ1 = ((ρ.set i (.d a)).set j (.d b)).set l (.d c) := by
  cases ds with
  | nil => cases h
  | cons a ds =>
    cases ds with
    | nil => cases h
    | cons b ds =>
      cases ds with
      | nil => cases h
      | cons c ds =>
        cases ds with
        | nil => cases h; exact ⟨a, b, c, rfl, rfl⟩
        | cons _ _ => cases h
theorem lstD_cat {tk : Bool} {a b : PD.D} {xs : List PD.D} (h : addD tk a b = some (.lst xs)) : ∃ as bs, a = .lst as ∧ b = .lst bs ∧ xs = as ++ bs ∧ as.length + bs.length ≤ sizeLine := by
  cases a <;> cases b <;> simp [addD] at h
  · exact ⟨_, _, rfl, rfl, h.2.symm, h.1⟩

variable (hk : X.env.scope.kind = .function)
theorem rd_unp {t : T} {e : E} {D : Ends} {σ : St} {H : Hp} (h : RdS P C W (.unp t e) D σ H) : tAsg (RdE P C W e) (RdG C W t) D σ H := by
  obtain ⟨F0, H0, F, ρ, τ, o, r, e, k⟩ := h
  rw [evS] at e
  simp only [Option.bind_eq_some_iff, Option.map_eq_some_iff, Prod.exists] at e
  obtain ⟨d, τ1, e1, ρ1, e2, e3⟩ := e
  cases e3
  exact ⟨F0, H0, F, ρ, τ, d, τ1, r, e1, fun v F1 H1 x1 r1 q1 => ⟨F0, H0, F1, ρ, τ1, d, ρ1, r1, q1, e2, fun σ' r' _ => k _ _ _ x1.ff r'⟩⟩
theorem rd_ret {e : E} {D : Ends} {σ : St} {H : Hp} (h : RdS P C W (.ret e) D σ H) : tRet (RdE P C W e) D σ H := by
  obtain ⟨F0, H0, F, ρ, τ, o, r, e, k⟩ := h
  rw [evS] at e
  simp only [Option.map_eq_some_iff, Prod.exists] at e
  obtain ⟨d, τ1, e1, e2⟩ := e
  cases e2
  exact ⟨F0, H0, F, ρ, τ, d, τ1, r, e1, fun v F1 H1 x1 r1 q1 => k _ _ _ (r.base.tr x1) r1.tape q1⟩
theorem rd_exp {e : E} {D : Ends} {σ : St} {H : Hp} (h : RdS P C W (.exp e) D σ H) : tDrop (RdE P C W e) D σ H := by
  obtain ⟨F0, H0, F, ρ, τ, o, r, e, k⟩ := h
  rw [evS] at e
  simp only [Option.map_eq_some_iff, Prod.exists] at e
  obtain ⟨d, τ1, e1, e2⟩ := e
  cases e2
  exact ⟨F0, H0, F, ρ, τ, d, τ1, r, e1, fun v F1 H1 x1 r1 q1 => k _ _ _ x1.ff r1⟩
theorem rd_ifS {c : Tt} {a b : Ss} {D : Ends} {σ : St} {H : Hp} (h : RdS P C W (.ife c a b) D σ H) : tIfS (RdT P C W c) (RdB P C W a) (RdB P C W b) D σ H := by
  obtain ⟨F0, H0, F, ρ, τ, o, r, e, k⟩ := h
  rw [evS] at e
  simp only [Option.bind_eq_some_iff, Prod.exists] at e
  obtain ⟨bv, τ1, e1, e2⟩ := e
  refine ⟨F0, H0, F, ρ, τ, bv, τ1, r, e1, fun F1 H1 x1 r1 => ?_⟩
  cases bv with
  | true => exact ⟨F0, H0, F1, ρ, τ1, o, r1, e2, k.mono x1.ff⟩
  | false => exact ⟨F0, H0, F1, ρ, τ1, o, r1, e2, k.mono x1.ff⟩
theorem rd_seq {s : S} {ss : Ss} {D : Ends} {σ : St} {H : Hp} (h : RdB P C W (.cons s ss) D σ H) : tSeq (RdS P C W s) (RdB P C W ss) D σ H := by
  obtain ⟨F0, H0, F, ρ, τ, o, r, e, k⟩ := h
  rw [evB] at e
  simp only [Option.bind_eq_some_iff] at e
  obtain ⟨o1, e1, e2⟩ := e
  refine ⟨F0, H0, F, ρ, τ, o1, r, e1, ?_⟩
  cases o1 with
  | nx ρ1 τ1 => exact fun σ' F' H' s' r' => ⟨F0, H0, F', ρ1, τ1, o, r', e2, k.mono s'⟩
  | bk ρ1 τ1 => cases e2; exact k
  | ct ρ1 τ1 => cases e2; exact k
  | rt d τ1 => cases e2; exact k
theorem rd_frz {i : Nat} {ss : Ss} {D : Ends} {σ : St} {H : Hp} (h : RdB P C W (.frz i ss) D σ H) : RdB P C W ss D σ H := by
  obtain ⟨F0, H0, F, ρ, τ, o, r, e, k⟩ := h
  rw [evB] at e
  cases q : ρ[i]? with
  | none => rw [q] at e; cases e
  | some s =>
    rw [q] at e
    cases s with
    | un => cases e
    | tape => cases e
    | d x => exact ⟨F0, H0, F, ρ, τ, o, r, e, k⟩
    | ol xs =>
      obtain ⟨F', sb, r'⟩ := r.freeze q
      exact ⟨F0, H0, F', _, τ, o, r', e, k.mono sb⟩
theorem RA.setI {F : Hp} {v : V} {d : PD.D} (h : R C F v d) : ∀ {vs : List V} {ds : List PD.D} (_ : RA C F vs ds) (j : Nat), RA C F (vs.set j v) (ds.set j d)
  | _, [], r, j => by cases r; simp only [List.set_nil]; exact .nil
  | _, x :: ds, r, 0 => by
    cases r with
    | cons r1 r2 => simp only [List.set_cons_zero]; exact .cons h r2
  | _, x :: ds, r, j + 1 => by
    cases r with
    | cons r1 r2 => simp only [List.set_cons_succ]; exact .cons r1 (RA.setI h r2 j)
theorem RA.eraseI {F : Hp} : ∀ {vs : List V} {ds : List PD.D} (_ : RA C F vs ds) (j : Nat), RA C F (vs.eraseIdx j) (ds.eraseIdx j)
  | _, [], r, j => by cases r; simp only [List.eraseIdx_nil]; exact .nil
  | _, x :: ds, r, 0 => by
    cases r with
    | cons r1 r2 => simp only [List.eraseIdx_cons_zero]; exact r2
  | _, x :: ds, r, j + 1 => by
    cases r with
    | cons r1 r2 => simp only [List.eraseIdx_cons_succ]; exact .cons r1 (RA.eraseI r2 j)
theorem rd_lset {i : Nat} {k e : E} {D : Ends} {σ : St} {H : Hp} (h : RdS P C W (.lset i k e) D σ H) : tAsg (RdE P C W e) (gSub (tVar i) (RdE P C W k) rSetL) D σ H := by
  obtain ⟨F0, H0, F, ρ, τ, o, r, e0, kk⟩ := h
  rw [evS] at e0
  cases q : ρ[i]? with
  | none => rw [q] at e0; cases e0
  | some s =>
    rw [q] at e0
    cases s with
    | ol xs =>
      simp only [Option.bind_eq_some_iff, Option.map_eq_some_iff, Prod.exists] at e0
      obtain ⟨d, τ1, e1, dk, τ2, e2, n, e3, j, e4, e5⟩ := e0
      cases e5
      refine ⟨F0, H0, F, ρ, τ, d, τ1, r, e1, fun v F1 H1 x1 r1 q1 => ?_⟩
      obtain ⟨v', ea, a, e', _⟩ := r1.get q
      subst e'
      refine ⟨_, ea, F0, H0, F1, ρ, τ1, dk, τ2, r1, e2, fun u F2 H2 x2 r2 q2 => ?_⟩
      cases dk with
      | int m =>
        obtain rfl : m = n := Option.some.inj e3
        cases q2
        obtain ⟨v2, ea2, a2, e2', ow⟩ := r2.get q
        subst e2'
        rw [ea] at ea2
        cases ea2
        obtain ⟨⟨vs, hw, hr⟩, nF, ntp, nw⟩ := ow
        exact ⟨a, vs, m, j, rfl, rfl, hw, by rw [hr.len]; exact e4, kk _ _ _ (x1.ff.tr x2.ff) (r2.writeO q ea (RA.setI (R.sub x2.ff _ q1) hr j))⟩
      | _ => cases e3
    | _ => cases e0
theorem rd_lpop {K : PySem.W.Frag} {i : Nat} {k : E} {D : Ends} {σ : St} {H : Hp} (h : RdS P C W (.lpop i k) D σ H) : tDrop (tBM K "list" rPop (tVar i) (tCons (RdE P C W k) tNil)) D σ H := by
  obtain ⟨F0, H0, F, ρ, τ, o, r, e, kk⟩ := h
  rw [evS] at e
  cases q : ρ[i]? with
  | none => rw [q] at e; cases e
  | some s =>
    rw [q] at e
    cases s with
    | ol xs =>
      simp only [Option.bind_eq_some_iff, Prod.exists] at e
      obtain ⟨d, τ1, e1, n, e3, e4⟩ := e
      split at e4
      · rename_i hn
        cases e4
        obtain ⟨v, ea, a, e', ow⟩ := r.get q
        subst e'
        have ow0 := ow
        obtain ⟨⟨ws, hw, hr⟩, nF, ntp, nw⟩ := ow
        refine ⟨.ref a, ea, .inl ⟨rfl, ws, .inl (.inl hw)⟩, F0, H0, F, ρ, τ, d, τ1, r, e1, fun v F1 H1 x1 r1 q1 => ?_⟩
        cases d with
        | int m =>
          obtain rfl : m = n := Option.some.inj e3
          cases q1
          obtain ⟨⟨w2, hw2, hr2⟩, nF2, ntp2, nw2⟩ := ow0.ext x1
          obtain ⟨y, hy⟩ : ∃ y, xs[m.toNat]? = some y := ⟨_, List.getElem?_eq_getElem hn.2⟩
          obtain ⟨u, hu, ru⟩ := hr2.get hy
          exact ⟨a, w2, m, u, rfl, rfl, hw2, hn.1, hu, kk _ _ _ x1.ff (r1.writeO q ea (RA.eraseI hr2 m.toNat))⟩
        | _ => cases e3
      · cases e4
    | _ => cases e
theorem rd_lins {K : PySem.W.Frag} {i : Nat} {k e : E} {D : Ends} {σ : St} {H : Hp} (h : RdS P C W (.lins i k e) D σ H) : tDrop (tBM K "list" rIns (tVar i) (tCons (RdE P C W k) (tCons (RdE P C W e) tNil))) D σ H := by
  obtain ⟨F0, H0, F, ρ, τ, o, r, e0, kk⟩ := h
  rw [evS] at e0
  cases q : ρ[i]? with
  | none => rw [q] at e0; cases e0
  | some s =>
    rw [q] at e0
    cases s with
    | ol xs =>
      simp only [Option.bind_eq_some_iff, Prod.exists] at e0
      obtain ⟨d, τ1, e1, d2, τ2, e2, n, e3, e4⟩ := e0
      split at e4
      · rename_i hn
        cases e4
        obtain ⟨v, ea, a, e', ow⟩ := r.get q
        subst e'
        have ow0 := ow
        obtain ⟨⟨ws, hw, hr⟩, nF, ntp, nw⟩ := ow
        refine ⟨.ref a, ea, .inl ⟨rfl, ws, .inl (.inl hw)⟩, F0, H0, F, ρ, τ, d, τ1, r, e1, fun v F1 H1 x1 r1 q1 => ⟨F0, H0, F1, ρ, τ1, d2, τ2, r1, e2, fun u F2 H2 x2 r2 q2 => ?_⟩⟩
        cases d with
        | int m =>
          obtain rfl : m = n := Option.some.inj e3
          cases q1
          obtain ⟨⟨w2, hw2, hr2⟩, nF2, ntp2, nw2⟩ := (ow0.ext x1).ext x2
          have hl := hr2.len
          exact ⟨a, w2, m, u, rfl, rfl, hw2, hn.1, by omega, by omega, kk _ _ _ (x1.ff.tr x2.ff) (r2.writeO q ea ((hr2.take m.toNat).app (.cons q2 (hr2.drop m.toNat))))⟩
        | _ => cases e3
      · cases e4
    | _ => cases e0
theorem rd_app {i : Nat} {e : E} {D : Ends} {σ : St} {H : Hp} (hK : C.K = X.K) (h : RdS P C W (.app i e) D σ H) : tDrop (tBM X.K "list" rAppend (tVar i) (tCons (RdE P C W e) tNil)) D σ H := by
  obtain ⟨F0, H0, F, ρ, τ, o, r, e, k⟩ := h
  rw [evS] at e
  cases q : ρ[i]? with
  | none => rw [q] at e; cases e
  | some s =>
    rw [q] at e
    cases s with
    | ol xs =>
      simp only [Option.bind_eq_some_iff, Prod.exists] at e
      obtain ⟨d, τ1, e1, e2⟩ := e
      split at e2
      · rename_i hl
        cases e2
        obtain ⟨v, ea, a, e', ow⟩ := r.get q
        subst e'
        obtain ⟨⟨ws, hw, hr⟩, nF, ntp, nw⟩ := ow
        refine ⟨.ref a, ea, .inl ⟨rfl, ws, .inl (.inl hw)⟩, F0, H0, F, ρ, τ, d, τ1, r, e1, fun v F1 H1 x1 r1 q1 => ?_⟩
        have := x1.hh a _ hw nF ntp
        have hr1 := RA.sub x1.ff xs hr
        refine ⟨a, ws, v, rfl, rfl, this.1, by rw [hr.len]; exact hl, ?_⟩
        exact k _ _ _ x1.ff (r1.writeO q ea (hr1.snoc q1))
      · cases e2
    | _ => cases e
end
end PD

set_option Elab.async false
set_option linter.all false
set_option maxRecDepth 100000
set_option maxHeartbeats 8000000
/-! What a checked block does, all forms. -/
namespace PD
open PySem L2
section
variable {nm : Nm} {P : Sg} {C : Con} {W : TW} {X : Cx}
theorem rd_setOl {i : Nat} {es : Es} {D : Ends} {σ : St} {H : Hp} (h : RdS P C W (.setO i (.lst es)) D σ H) : tAsg (tLst (RdA P C W es)) (gName i) D σ H := by
  obtain ⟨F0, H0, F, ρ, τ, o, r, e, k⟩ := h
  rw [evS] at e
  simp only [ev, Option.bind_eq_some_iff, Prod.exists] at e
  obtain ⟨d, τ1, ⟨ds, τ2, e1, e2⟩, e3⟩ := e
  split at e2
  · rename_i hl
    cases e2
    cases e3
    exact ⟨F0, H0, F, ρ, τ, ds, _, r, e1, fun vs F1 H1 x1 r1 q1 => ⟨by rw [q1.len]; exact hl, fun q hq => k _ _ _ x1.ff (r1.setO i hq q1)⟩⟩
  · cases e2
theorem rd_setOb {i : Nat} {a b : E} {D : Ends} {σ : St} {H : Hp} (h : RdS P C W (.setO i (.bin .Add a b)) D σ H) : tAsg (tOp rCat (RdE P C W a) (RdE P C W b)) (gName i) D σ H := by
  obtain ⟨F0, H0, F, ρ, τ, o, r, e, k⟩ := h
  rw [evS] at e
  simp only [ev, Option.bind_eq_some_iff, Option.map_eq_some_iff, Prod.exists] at e
  obtain ⟨d, τ1, ⟨d1, τ2, e1, d2, τ3, e2, d3, e4, e5⟩, e3⟩ := e
  cases e5
  cases d with
  | lst xs =>
    cases e3
    obtain ⟨as, bs, rfl, rfl, rfl, hl⟩ := lstD_cat (show addD P.tk d1 d2 = some (.lst xs) from e4)
    refine ⟨F0, H0, F, ρ, τ, _, τ2, r, e1, fun x F1 H1 x1 r1 q1 => ⟨F0, H0, F1, ρ, τ2, _, _, r1, e2, fun y F2 H2 x2 r2 q2 => ?_⟩⟩
    have q1' := R.sub x2.ff _ q1
    cases q1' with
    | @lst p vs _ h1 h2 =>
      cases q2 with
      | @lst q ws _ k1 k2 =>
        exact ⟨p, q, vs, ws, rfl, rfl, r2.sub _ _ h1, r2.sub _ _ k1, by rw [h2.len, k2.len]; exact hl, fun z hz => k _ _ _ (x1.ff.tr x2.ff) (r2.setO i hz (h2.app k2))⟩
  | _ => cases e3
theorem rd_par2 {i j : Nat} {es : Es} {D : Ends} {σ : St} {H : Hp} (h : RdS P C W (.par [i, j] es) D σ H) : tPar i j (RdA P C W es) D σ H := by
  obtain ⟨F0, H0, F, ρ, τ, o, r, e, k⟩ := h
  rw [evS] at e
  simp only [Option.bind_eq_some_iff, Option.map_eq_some_iff, Prod.exists] at e
  obtain ⟨ds, τ1, e1, ρ1, e2, e3⟩ := e
  cases e3
  obtain ⟨a, b, rfl, rfl⟩ := setAll2 e2
  refine ⟨F0, H0, F, ρ, τ, _, τ1, r, e1, fun vs F1 H1 x1 r1 q1 => ?_⟩
  cases q1 with
  | cons q1 q2 =>
    cases q2 with
    | cons q2 q3 =>
      cases q3
      exact ⟨_, _, rfl, k _ _ _ x1.ff ((r1.setD i q1).setD j q2)⟩
theorem rd_par3 {i j l : Nat} {es : Es} {D : Ends} {σ : St} {H : Hp} (h : RdS P C W (.par [i, j, l] es) D σ H) : tPar3 i j l (RdA P C W es) D σ H := by
  obtain ⟨F0, H0, F, ρ, τ, o, r, e, k⟩ := h
  rw [evS] at e
  simp only [Option.bind_eq_some_iff, Option.map_eq_some_iff, Prod.exists] at e
  obtain ⟨ds, τ1, e1, ρ1, e2, e3⟩ := e
  cases e3
  obtain ⟨a, b, c, rfl, rfl⟩ := setAll3 e2
  refine ⟨F0, H0, F, ρ, τ, _, τ1, r, e1, fun vs F1 H1 x1 r1 q1 => ?_⟩
  cases q1 with
  | cons q1 q2 =>
    cases q2 with
    | cons q2 q3 =>
      cases q3 with
      | cons q3 q4 =>
        cases q4
        exact ⟨_, _, _, rfl, k _ _ _ x1.ff (((r1.setD i q1).setD j q2).setD l q3)⟩
theorem set_ok (g : Good nm P C W false X) (hk : X.env.scope.kind = .function) {i : Nat} {e : E} {x : Str} {px sp : Pos} {v : Expr} (h1 : nm.N[i]? = some x) (h2 : locB false X.env.scope x = true) (h3 : swB X.env.scope x px v = some false) (h4 : chkE nm X.env.scope e v = true) :
    PS X (.Assign [.Name x px] v sp) (RdS P C W (.set i e)) := by
  have hl := g.loc h2
  exact ps_imp (ps_set g.nd (by rw [g.hN]; exact h1) hl.1 (e_ok e g v h4) (sw_false hk h3) hl.2) fun D σ H q => rd_set q
theorem setLc_ok (g : Good nm P C W false X) (hk : X.env.scope.kind = .function) {i : Nat} {x : Str} {px sp : Pos} {e : E} {v : Expr} (h1 : nm.N[i]? = some x) (h2 : locB false X.env.scope x = true)
    (h3 : (swB X.env.scope x px v).isSome = true) (h4 : chkE nm X.env.scope e v = true) : PS X (.Assign [.Name x px] v sp) (RdS P C W (.set i e)) := by
  cases hs : swB X.env.scope x px v with
  | none => rw [hs] at h3; cases h3
  | some b =>
    cases b with
    | false => exact set_ok g hk h1 h2 hs h4
    | true =>
      cases v with
      | ListComp y gs scope p =>
        cases e with
        | comp elt tg it c own =>
          simp only [chkE] at h4
          split at h4
          · rename_i x2 t iter ifs scope2 p2 heq
            cases heq
            simp only [swB, Option.some.injEq, Bool.and_eq_true, decide_eq_true_eq, Bool.not_eq_true'] at hs
            simp only [Bool.and_eq_true] at h4
            obtain ⟨⟨⟨⟨⟨⟨a1, a2⟩, a3⟩, a4⟩, a5⟩, a6⟩, a7⟩ := h4
            have hw : ((own.map fun i => (nm.N.getD i "", i)).map (·.2)) = own := by rw [List.map_map]; exact List.map_id' own
            have := ps_setLc (pos := p) (spos := sp) (i := i) (y := x) (py := px) g.calm g.nd (by rw [g.hN]; exact h1) hs.1.1 (sw_true hk hs.1.1 hs.1.2 hs.2) (i_ok it g t iter a4) (blkOk_by (by rw [g.hN]; exact a3)) (fun s H Ca cl fp => tg_ok (g.blk s H scope cl Ca fp) tg t a5) (fun s H Ca cl fp => c_ok (fun y hy => t_ok c (g.blk s H scope cl Ca fp) y hy) ifs a6)
              (fun s H Ca cl fp => e_ok elt (g.blk s H scope cl Ca fp) y a7) (fold_of a1)
            rw [hw] at this
            refine ps_imp this fun D σ H q => ?_
            have q2 := rd_set q
            exact comp_rd (by simpa using a2) q2
          · cases h4
        | op o es => cases o <;> simp [chkE, opArgs] at h4
        | _ => simp [chkE] at h4
      | _ => cases hs
mutual
theorem s_ok (g : Good nm P C W false X) (hk : X.env.scope.kind = .function) : ∀ (s : S) (z : Stmt), chkS nm X.env.scope s z = true → PS X z (RdS P C W s)
  | .nop, z, h => by
    cases z with
    | Pass p =>
      refine ps_imp ps_pass ?_
      rintro D σ H ⟨F0, H0, F, ρ, τ, o, r, e, k⟩
      rw [evS] at e
      cases e
      exact k _ _ _ (Sub.rfl' F) r
    | _ => simp [chkS] at h
  | .exp e, z, h => by
    simp only [chkS] at h
    split at h
    · rename_i x p
      simp only [Bool.and_eq_true] at h
      exact ps_imp (ps_expr (e_ok e g x h.2) (sw_none h.1)) fun D σ H q => rd_exp q
    · cases h
  | .ret e, z, h => by
    simp only [chkS] at h
    split at h
    · exact ps_imp (ps_ret (e_ok e g _ h)) fun D σ H q => rd_ret q
    · cases h
  | .retN, z, h => by
    simp only [chkS] at h
    split at h
    · refine ps_imp ps_retN ?_
      rintro D σ H ⟨F0, H0, F, ρ, τ, o, r, e, k⟩
      rw [evS] at e
      cases e
      exact k _ _ _ r.base r.tape .non
    · cases h
  | .set i e, z, h => by
    simp only [chkS] at h
    split at h
    · simp only [Bool.and_eq_true, decide_eq_true_eq] at h
      exact setLc_ok g hk h.1.1.1 h.1.1.2 h.1.2 h.2
    · cases h
  | .setO i (.lst es), z, h => by
    simp only [chkS] at h
    split at h
    · simp only [Bool.and_eq_true, decide_eq_true_eq] at h
      have hl := g.loc h.1.2
      exact ps_imp (ps_set g.nd (by rw [g.hN]; exact h.1.1) hl.1 (pe_lst (a_ok es g _ h.2)) rfl hl.2) fun D σ H q => rd_setOl q
    · cases h
  | .setO i (.bin .Add a b), z, h => by
    simp only [chkS] at h
    split at h
    · simp only [Bool.and_eq_true, decide_eq_true_eq] at h
      have hl := g.loc h.1.1.2
      exact ps_imp (ps_set g.nd (by rw [g.hN]; exact h.1.1.1) hl.1 (pe_op op_cat (e_ok a g _ h.1.2) (e_ok b g _ h.2)) rfl hl.2) fun D σ H q => rd_setOb q
    · cases h
  | .setO i (.blt .list (.cons a .nil)), z, h => by
    simp only [chkS] at h
    split at h
    · simp only [Bool.and_eq_true, decide_eq_true_eq] at h
      obtain ⟨⟨⟨⟨⟨h1, h2⟩, rfl⟩, h4⟩, h5⟩, h6⟩ := h
      have hl := g.loc h2
      have h8 := star_of (es := []) (env := X.env) h5
      refine ps_imp (ps_set g.nd (by rw [g.hN]; exact h1) hl.1 (pe_callTy (cr_or call_list_of (call_list_sgn g.calm)) (gl_of h4) (g.blt .list) boot_list2 (pa_cons (e_ok a g _ h6) pa_nil h8) (by decide +kernel) (by decide +kernel) h8 rfl) rfl hl.2) ?_
      rintro D σ H ⟨F0, H0, F, ρ, τ, o, r, e, k⟩
      rw [evS] at e
      simp only [ev, evs, Option.bind_eq_some_iff, Option.map_eq_some_iff, Prod.exists] at e
      obtain ⟨d, τ1, ⟨ds, τ2, ⟨d1, τ3, e1, ds1, τ4, e2, e3⟩, d2, e4, e5⟩, e6⟩ := e
      cases e2
      cases e3
      cases e5
      refine ⟨F0, H0, F, ρ, τ, d1, _, r, e1, fun v F1 H1 x1 r1 q1 => ?_⟩
      cases q1 with
      | @tup p vs xs h1 h2 h3 =>
        cases e4
        cases e6
        exact .inl ⟨p, vs, rfl, .inr (by rw [← g.hK]; exact sqT_sub r1.sub h1), fun l hl => k _ _ _ x1.ff (r1.setO i hl h2)⟩
      | @lst p vs xs h1 h2 =>
        cases e4
        cases e6
        exact .inl ⟨p, vs, rfl, .inl (.inl (.inl (r1.sub _ _ h1))), fun l hl => k _ _ _ x1.ff (r1.setO i hl h2)⟩
      | str z =>
        simp only [bD, listD] at e4
        split at e4
        · rename_i hz
          cases e4
          cases e6
          exact .inr ⟨z, rfl, hz, fun l hl => k _ _ _ x1.ff (r1.setO i hl (RA.of_strs _))⟩
        · cases e4
      | _ => cases e4
    · cases h
  | .setO i (.rev a), z, h => by
    simp only [chkS] at h
    split at h
    · simp only [Bool.and_eq_true, decide_eq_true_eq] at h
      have hl := g.loc h.1.2
      refine ps_imp (ps_set g.nd (by rw [g.hN]; exact h.1.1) hl.1 (pe_revL (e_ok a g _ h.2)) rfl hl.2) ?_
      rintro D σ H ⟨F0, H0, F, ρ, τ, o, r, e, k⟩
      rw [evS] at e
      simp only [ev, Option.bind_eq_some_iff, Option.map_eq_some_iff, Prod.exists] at e
      obtain ⟨d, τ1, ⟨d1, τ2, e1, d2, e2, e3⟩, e4⟩ := e
      cases e3
      refine ⟨F0, H0, F, ρ, τ, d1, _, r, e1, fun v F1 H1 x1 r1 q1 => ?_⟩
      cases q1 with
      | @lst q vs ds h1 h2 =>
        cases e2
        cases e4
        exact ⟨q, vs, rfl, .inl (.inl (r1.sub _ _ h1)), fun q' hq => k _ _ _ x1.ff (r1.setO i hq (RA.rev h2))⟩
      | _ => cases e2
    · cases h
  | .lset i k e, z, h => by
    simp only [chkS] at h
    split at h
    · rename_i x p1 y p3 v sp
      simp only [Bool.and_eq_true, decide_eq_true_eq] at h
      obtain ⟨⟨⟨⟨⟨⟨h1, h2⟩, h3⟩, h4⟩, hpl⟩, h5⟩, h6⟩ := h
      have w1 : swapsWithSole [.Subscript (.Name x p1) y p3] v sp.line X.env = pure false := by cases v <;> first | rfl | cases h4
      have w2 : swappedStores [.Subscript (.Name x p1) y p3] v X.env = pure none := by cases v <;> rfl
      exact ps_imp (ps_asg (e_ok e g v h6) (pg_sub (pe_var (i := i) (by rw [g.hN]; exact h1) (vis_of h2) (okN_of h3).1 (okN_of h3).2.1) (e_ok k g y h5) set_list (ha := by intro v; cases y <;> first | rfl | cases hpl)) w1 w2) fun D σ H q => rd_lset q
    · cases h
  | .lpop i k, z, h => by
    simp only [chkS] at h
    split at h
    · rename_i x p n ap y cp sp
      simp only [Bool.and_eq_true, decide_eq_true_eq] at h
      obtain ⟨⟨⟨⟨⟨⟨h1, h2⟩, h3⟩, rfl⟩, h5⟩, h6⟩, h7⟩ := h
      have h8 := star_of (es := []) (env := X.env) h6
      refine ps_imp (ps_expr (pe_bm F.plainAttrs_list F.slot_list_pop F.type_list_pop mt_pop (pe_var (i := i) (by rw [g.hN]; exact h1) (vis_of h2) (okN_of h3).1 (okN_of h3).2.1) (pa_cons (e_ok k g y h7) pa_nil h8) rfl ?_ h5 h8 rfl) rfl) fun D σ H q => rd_lpop q
      unfold backTo
      rw [h8]; rfl
    · cases h
  | .lins i k e, z, h => by
    simp only [chkS] at h
    split at h
    · rename_i x p n ap y y2 cp sp
      simp only [Bool.and_eq_true, decide_eq_true_eq] at h
      obtain ⟨⟨⟨⟨⟨⟨⟨⟨h1, h2⟩, h3⟩, rfl⟩, h5⟩, h6⟩, h6'⟩, h7⟩, h7'⟩ := h
      have h8 := star_of (es := [y2]) (env := X.env) h6
      have h9 := star_of (es := []) (env := X.env) h6'
      refine ps_imp (ps_expr (pe_bm F.plainAttrs_list F.slot_list_insert F.type_list_insert mt_ins (pe_var (i := i) (by rw [g.hN]; exact h1) (vis_of h2) (okN_of h3).1 (okN_of h3).2.1) (pa_cons (e_ok k g y h7) (pa_cons (e_ok e g y2 h7') pa_nil h9) h8) rfl ?_ h5 h8 ?_) rfl) fun D σ H q => rd_lins q
      · unfold backTo
        rw [h8, h9]; rfl
      · unfold backTo
        rw [h9]; rfl
    · cases h
  | .par [i, j] es, z, h => by
    simp only [chkS] at h
    split at h
    · simp only [Bool.and_eq_true, decide_eq_true_eq] at h
      obtain ⟨⟨⟨⟨⟨⟨h1, h2⟩, h3⟩, h4⟩, h5⟩, h6⟩, h7⟩ := h
      exact ps_imp (ps_par g.calm g.nd (by rw [g.hN]; exact h1) (by rw [g.hN]; exact h2) h3 h4 h5 (a_ok es g _ h6) (do_swap hk h7) sw_sole) fun D σ H q => rd_par2 q
    · cases h
  | .par [i, j, l] es, z, h => by
    simp only [chkS] at h
    split at h
    · simp only [Bool.and_eq_true, decide_eq_true_eq] at h
      obtain ⟨⟨⟨⟨⟨⟨⟨⟨h1, h2⟩, h3⟩, h4⟩, h5⟩, h6⟩, h7⟩, h8⟩, h9⟩ := h
      exact ps_imp (ps_par3 g.calm g.nd (by rw [g.hN]; exact h1) (by rw [g.hN]; exact h2) (by rw [g.hN]; exact h3) h4.1 h4.2.1 h4.2.2 h5 h6 h7 (a_ok es g _ h8) (do_swap hk h9) sw_sole) fun D σ H q => rd_par3 q
    · cases h
  | .unp t e, z, h => by
    simp only [chkS] at h
    split at h
    · simp only [Bool.and_eq_true, decide_eq_true_eq] at h
      exact ps_imp (ps_asg (e_ok e g _ h.2) (tg_ok g t _ h.1.2) sw_sole (no_swap hk h.1.1)) fun D σ H q => rd_unp q
    · cases h
  | .ife c a b, z, h => by
    simp only [chkS] at h
    split at h
    · simp only [Bool.and_eq_true] at h
      exact ps_imp (ps_if (t_ok c g _ h.1.1) (b_ok g hk a _ h.1.2) (b_ok g hk b _ h.2)) fun D σ H q => rd_ifS q
    · cases h
  | .whl c b, z, h => by
    simp only [chkS] at h
    split at h
    · simp only [Bool.and_eq_true] at h
      exact ps_imp (ps_while g.xe (t_ok c g _ h.1) (b_ok g hk b _ h.2)) fun D σ H q => rd_whl q
    · cases h
  | .fr tg it b, z, h => by
    simp only [chkS] at h
    split at h
    · simp only [Bool.and_eq_true] at h
      exact ps_imp (ps_for g.xe g.calm (i_ok it g _ _ h.1.1.2) (tg_ok g tg _ h.1.2) (b_ok g hk b _ h.2) (fold_of h.1.1.1)) fun D σ H q => rd_for q
    · cases h
  | .app i e, z, h => by
    simp only [chkS] at h
    split at h
    · rename_i x p n ap y cp sp
      simp only [Bool.and_eq_true, decide_eq_true_eq] at h
      obtain ⟨⟨⟨⟨⟨⟨h1, h2⟩, h3⟩, rfl⟩, h5⟩, h6⟩, h7⟩ := h
      have h8 := star_of (es := []) (env := X.env) h6
      refine ps_imp (ps_expr (pe_bm F.plainAttrs_list F.slot_list_append F.type_list_append mt_append (pe_var (i := i) (by rw [g.hN]; exact h1) (vis_of h2) (okN_of h3).1 (okN_of h3).2.1) (pa_cons (e_ok e g y h7) pa_nil h8) rfl ?_ h5 h8 rfl) rfl) fun D σ H q => rd_app g.hK q
      unfold backTo
      rw [h8]; rfl
    · cases h
  | .tset i k e, z, h => by
    simp only [chkS] at h
    split at h
    · rename_i x p1 j _ p2 p3 v sp
      simp only [Bool.and_eq_true, decide_eq_true_eq] at h
      obtain ⟨⟨⟨⟨⟨⟨h1, h2⟩, h3⟩, rfl⟩, h5⟩, h6⟩, h7⟩ := h
      have w1 : ∀ m, swapsWithSole [.Subscript (.Name x p1) (.Constant (.int (k : Int)) m p2) p3] v sp.line X.env = pure false := by intro m; cases v <;> first | rfl | cases h6
      have w2 : ∀ m, swappedStores [.Subscript (.Name x p1) (.Constant (.int (k : Int)) m p2) p3] v X.env = pure none := by intro m; cases v <;> rfl
      refine ps_imp (ps_asg (e_ok e g v h7) (pg_sub (pe_var (i := i) (by rw [g.hN]; exact h1) (vis_of h2) (okN_of h3).1 (okN_of h3).2.1) pe_int set_list) (w1 _) (w2 _)) fun D σ H q => rd_tset h5 ?_
      obtain ⟨F0, H0, F, ρ, τ, o, r, e1, kk⟩ := q
      rw [evS] at e1
      cases q1 : ρ[i]? with
      | none => rw [q1] at e1; cases e1
      | some s =>
        rw [q1] at e1
        cases s with
        | tape =>
          simp only [Option.bind_eq_some_iff, Option.map_eq_some_iff, Prod.exists] at e1
          obtain ⟨d, τ1, e2, n, e3, e4⟩ := e1
          cases e4
          exact ⟨F0, H0, F, ρ, τ, d, τ1, n, r, q1, e2, e3, fun F' H' s' r' => kk _ _ _ s' r'⟩
        | _ => cases e1
    · cases h
  | .brk, z, h => by
    cases z with
    | Break p =>
      refine ps_imp ps_break ?_
      rintro D σ H ⟨F0, H0, F, ρ, τ, o, r, e, k⟩
      rw [evS] at e
      cases e
      exact k _ _ _ (Sub.rfl' F) r
    | _ => simp [chkS] at h
  | .cnt, z, h => by
    cases z with
    | Continue p =>
      refine ps_imp ps_continue ?_
      rintro D σ H ⟨F0, H0, F, ρ, τ, o, r, e, k⟩
      rw [evS] at e
      cases e
      exact k _ _ _ (Sub.rfl' F) r
    | _ => simp [chkS] at h
  | .stuck, z, h => by
    refine ps_imp ps_never ?_
    rintro D σ H ⟨F0, H0, F, ρ, τ, o, r, e, k⟩
    rw [evS] at e
    cases e
theorem b_ok (g : Good nm P C W false X) (hk : X.env.scope.kind = .function) : ∀ (b : Ss) (l : List Stmt), chkB nm X.env.scope b l = true → PSs X l (RdB P C W b)
  | .nil, l, h => by
    cases l with
    | nil =>
      refine pss_imp pss_nil ?_
      rintro D σ H ⟨F0, H0, F, ρ, τ, o, r, e, k⟩
      rw [evB] at e
      cases e
      exact k _ _ _ (Sub.rfl' F) r
    | cons _ _ => simp [chkB] at h
  | .cons s ss, l, h => by
    cases l with
    | nil => simp [chkB] at h
    | cons z r =>
      simp only [chkB, Bool.and_eq_true] at h
      exact pss_imp (pss_cons (s_ok g hk s z h.1) (b_ok g hk ss r h.2)) fun D σ H q => rd_seq q
  | .frz i ss, l, h => by
    simp only [chkB] at h
    exact pss_imp (b_ok g hk ss l h) fun D σ H q => rd_frz q
end
end
end PD

set_option Elab.async false
set_option linter.all false
set_option maxRecDepth 100000
set_option maxHeartbeats 8000000
/-! Defs: what the text says they do. -/
namespace PD
open PySem L2

abbrev GF := List Int → List D → TS → Option (D × TS)
/-- a def: its name, whether it takes the tape ahead, how many other arguments, what it does -/
structure Cal where
  x : Str
  tp : Bool
  ar : Nat
  G : GF
/-- a generator def: its name, how many arguments, what it hands out -/
structure Gal where
  x : Str
  ar : Nat
  G : List Int → List D → Option (List D)
def mkNmG (N : List Str) (cal : List Cal) (csts : List (Str × D)) (gal : List Gal) : Nm := ⟨N, cal.map fun c => (c.x, c.tp), csts.map (·.1), gal.map (·.x)⟩
abbrev mkNm (N : List Str) (cal : List Cal) (csts : List (Str × D)) : Nm := mkNmG N cal csts []
def mkSgG (tk : Bool) (cal : List Cal) (csts : List (Str × D)) (gal : List Gal) (ns : List Int) : Sg := ⟨ns, tk, csts.map (·.2), fun f => match cal[f]? with
  | some c => c.G ns
  | none => fun _ _ => none, fun f => match gal[f]? with
  | some c => c.G ns
  | none => fun _ => none⟩
abbrev mkSg (tk : Bool) (cal : List Cal) (csts : List (Str × D)) (ns : List Int) : Sg := mkSgG tk cal csts [] ns
/-- the module's names -/
structure Mo (C : Con) (K : PySem.W.Frag) (mg : Str → Option Value) : Prop where
  hK : C.K = K
  blt : ∀ b : B, mg (bN b) = none
  rng : mg "range" = none
  isn : mg "isinstance" = none
  bool : mg "bool" = none
  oth : ∀ x ∈ (["sorted", "set", "enumerate", "zip"] : List Str), mg x = none
def CstOk (C : Con) (mg : Str → Option Value) (p : Str × D) : Prop := ∃ v u, mg p.1 = some u ∧ RelV v u ∧ ∀ F, R C F v p.2
def DefOk (K : PySem.W.Frag) (mg : Str → Option Value) (x : Str) (st : Stmt) (ps : List Str) : Prop := ∃ f fd, L2.Fun K x x st f fd ∧ mg x = some (.ref f) ∧ Binds K fd ps []
/-- a def is known to do what c says, k calls deep -/
def Kn (Pg : Program) (w : World) (K : PySem.W.Frag) (mg : Str → Option Value) (base : Heap) (C : Con) (k : Nat) (c : Cal) : Prop :=
  ∃ fa fd ps, FnOk Pg w K mg base CX0 k fa fd ps (spD C c.tp c.ar c.G) ∧ mg c.x = some (.ref fa) ∧ PySem.W.keepIn K (.ref fa) = true ∧ Binds K fd ps [] ∧ ∀ ns ds τ r, c.G ns ds τ = some r → ds.length = c.ar

/-- a generator def is known -/
def KnG (Pg : Program) (w : World) (K : PySem.W.Frag) (mg : Str → Option Value) (base : Heap) (C : Con) (k : Nat) (c : Gal) : Prop :=
  ∃ fa fd ps, GFn Pg w K mg base k fa fd ps (spG C c.ar c.G) ∧ mg c.x = some (.ref fa) ∧ PySem.W.keepIn K (.ref fa) = true ∧ Binds K fd ps [] ∧ ∀ ns ds r, c.G ns ds = some r → ds.length = c.ar
/-- what a def's own frame sees is good -/
theorem good_ofX {Pg : Program} {w : World} {K : PySem.W.Frag} {mg : Str → Option Value} {base : Heap} {C : Con} (M : Mo C K mg) {N : List Str} {cal : List Cal} {csts : List (Str × D)} {gal : List Gal} {k : Nat} {X : Cx} {W : TW} (hcalm : X.calm = true) (hN : X.N = N) (nd : X.N.Nodup) (hXK : X.K = K) (xe : PySem.PassesOwn (model X.prog X.w) X.A X.env X.xe)
    (units : X.A.units + 65 < cLine) (fnc : ∀ x, X.env.scope.names.lookup x = some .cell → X.fn x = true) (hmg : X.mg = mg) (hprog : X.prog = Pg) (hw : X.w = w) (hbase : X.base = base) (hr : Room k X.A)
    (hcst : ∀ p ∈ csts, CstOk C mg p) (hc : ∀ c ∈ cal, Kn Pg w K mg base C k c) (hg : ∀ c ∈ gal, ∃ j, j + 3 ≤ k ∧ KnG Pg w K mg base C j c) : Good (mkNmG N cal csts gal) (mkSgG C.tk cal csts gal W.ns) C W false X := by
  subst hmg hprog hw hbase hXK
  refine ⟨hcalm, hN, nd, M.hK, rfl, rfl, xe, units, fun _ => fnc, M.blt, M.rng, M.isn, M.bool, M.oth, fun i y d' e1 e2 => ?_, fun i y t e1 => ?_, fun i y e1 => ?_⟩
  · simp only [mkNmG, mkSgG, List.getElem?_map, Option.map_eq_some_iff] at e1 e2
    obtain ⟨p, e1, rfl⟩ := e1
    obtain ⟨p', e2, rfl⟩ := e2
    rw [e1] at e2; cases e2
    exact hcst p (List.mem_of_getElem? e1)
  · simp only [mkNmG, List.getElem?_map, Option.map_eq_some_iff, Prod.mk.injEq] at e1
    obtain ⟨c, e1, rfl, rfl⟩ := e1
    obtain ⟨fa, fd', ps', a1, a2, a3, a4, a5⟩ := hc c (List.mem_of_getElem? e1)
    refine ⟨k, fa, fd', ps', c.ar, c.G, ?_, hr, a1, a2, a3, a4, fun ds τ r e => a5 W.ns ds τ r ?_⟩
    · simp only [mkSgG, e1]
    · simpa only [mkSgG, e1] using e
  · simp only [mkNmG, List.getElem?_map, Option.map_eq_some_iff] at e1
    obtain ⟨c, e1, rfl⟩ := e1
    obtain ⟨j, hj, fa, fd', ps', a1, a2, a3, a4, a5⟩ := hg c (List.mem_of_getElem? e1)
    refine ⟨j, fa, fd', ps', c.ar, c.G, ?_, hr.mono hj, a1, a2, a3, a4, fun ds r e => a5 W.ns ds r ?_⟩
    · simp only [mkSgG, e1]
    · simpa only [mkSgG, e1] using e
/-- .. where nothing is let out -/
theorem good_of {Pg : Program} {w : World} {K : PySem.W.Frag} {mg : Str → Option Value} {base : Heap} {C : Con} (M : Mo C K mg) {N : List Str} {cal : List Cal} {csts : List (Str × D)} {gal : List Gal} {k : Nat} {X : Cx} {W : TW} (hcalm : X.calm = true) (hN : X.N = N) (nd : X.N.Nodup) (hXK : X.K = K) (xe : X.xe = fun _ _ => False)
    (units : X.A.units + 65 < cLine) (fnc : ∀ x, X.env.scope.names.lookup x = some .cell → X.fn x = true) (hmg : X.mg = mg) (hprog : X.prog = Pg) (hw : X.w = w) (hbase : X.base = base) (hr : Room k X.A)
    (hcst : ∀ p ∈ csts, CstOk C mg p) (hc : ∀ c ∈ cal, Kn Pg w K mg base C k c) (hg : ∀ c ∈ gal, ∃ j, j + 3 ≤ k ∧ KnG Pg w K mg base C j c) : Good (mkNmG N cal csts gal) (mkSgG C.tk cal csts gal W.ns) C W false X := good_ofX M hcalm hN nd hXK (by rw [xe]; exact PySem.PassesOwn.never) units fnc hmg hprog hw hbase hr hcst hc hg
theorem start_rel {C : Con} {W : TW} {F H : Hp} {N : List Str} {tp : Bool} {us : List V} {ds : List D} {τ : TS} (hl : ((if tp then [V.ref W.tp] else []) ++ us).length ≤ N.length) (ra : RA C F us ds) (sb : Sub F H) (t : TapeAt W F H τ) :
    Rel C W F H F H (start N ((if tp then [V.ref W.tp] else []) ++ us)) (start' N.length tp ds) τ := by
  have ln := ra.len
  have e0 : ((if tp then [Slot.tape] else []) ++ ds.map Slot.d).length = ((if tp then [V.ref W.tp] else []) ++ us).length := by cases tp <;> simp [ln]
  have hs : ∀ (i : Nat) (s : Slot) (v : Option V), (start' N.length tp ds)[i]? = some s → (start N ((if tp then [V.ref W.tp] else []) ++ us))[i]? = some v → SlotR C W H F H v s ∧ s.own = false := by
    intro i s v h1 h2
    unfold start' at h1
    unfold L2.start at h2
    by_cases hi : i < ((if tp then [Slot.tape] else []) ++ ds.map Slot.d).length
    · rw [List.getElem?_append_left hi] at h1
      rw [List.getElem?_append_left (by rw [List.length_map, ← e0]; exact hi)] at h2
      cases tp with
      | false =>
        simp only [Bool.false_eq_true, if_false, List.nil_append, List.getElem?_map, Option.map_eq_some_iff] at h1 h2
        obtain ⟨d, e1, rfl⟩ := h1
        obtain ⟨u, e2, rfl⟩ := h2
        obtain ⟨u', e3, r⟩ := ra.get e1
        rw [e2] at e3; cases e3
        exact ⟨⟨u, rfl, r⟩, rfl⟩
      | true =>
        cases i with
        | zero =>
          simp only [if_true, List.singleton_append, List.getElem?_cons_zero, Option.some.injEq] at h1
          simp only [if_true, List.singleton_append, List.map_cons, List.getElem?_cons_zero, Option.some.injEq] at h2
          subst h1; subst h2
          exact ⟨rfl, rfl⟩
        | succ i =>
          simp only [if_true, List.singleton_append, List.getElem?_cons_succ, List.getElem?_map, Option.map_eq_some_iff] at h1
          simp only [if_true, List.singleton_append, List.map_cons, List.getElem?_cons_succ, List.getElem?_map, Option.map_eq_some_iff] at h2
          obtain ⟨d, e1, rfl⟩ := h1
          obtain ⟨u, e2, rfl⟩ := h2
          obtain ⟨u', e3, r⟩ := ra.get e1
          rw [e2] at e3; cases e3
          exact ⟨⟨u, rfl, r⟩, rfl⟩
    · rw [List.getElem?_append_right (by omega)] at h1
      have e := List.eq_of_mem_replicate (List.mem_of_getElem? h1)
      subst e
      exact ⟨trivial, rfl⟩
  refine ⟨?_, Ext.rfl' sb, fun i s v h1 h2 => (hs i s v h1 h2).1, fun i j s t a h1 _ o1 _ h3 _ => ?_, t⟩
  · unfold L2.start start'
    simp only [List.length_append, List.length_replicate, List.length_map] at e0 hl ⊢
    omega
  · rw [(hs i s _ h1 h3).2] at o1; cases o1

theorem def_ok {Pg : Program} {w : World} {K : PySem.W.Frag} {mg : Str → Option Value} {base : Heap} {C : Con} (M : Mo C K mg) {x : Str} {st : Stmt} {ps N : List Str} {tp : Bool} {ar k : Nat} {body : Ss} {cal : List Cal} {csts : List (Str × D)}
    (D0 : DefOk K mg x st ps) (S : FnScope N ps (defScope st)) (chk : chkB (mkNm N cal csts) (defScope st) body (defBody st) = true) (hl : (if tp then 1 else 0) + ar = ps.length)
    (hcst : ∀ p ∈ csts, CstOk C mg p) (hc : ∀ c ∈ cal, Kn Pg w K mg base C k c) (G : GF) (hG : ∀ ns ds τ r, G ns ds τ = some r → ds.length = ar ∧ runF (mkSg C.tk cal csts ns) N.length tp body ds τ = some r) :
    Kn Pg w K mg base C (k + 1) ⟨x, tp, ar, G⟩ := by
  obtain ⟨f, fd, Fn, hm, hb⟩ := D0
  refine ⟨f, fd, ps, ?_, hm, Fn.kp, hb, fun ns ds τ r e => (hG ns ds τ r e).1⟩
  have hlen : ∀ vs H Q E, spD C tp ar G vs H Q E → vs.length = ps.length := by
    rintro vs H Q E ⟨W, F, us, ds, τ, d, τ', rfl, h1, h2, _⟩
    rw [← hl, List.length_append, h2.len, h1]
    cases tp <;> rfl
  refine Fn.ok S hlen fun cdv A outer s H vs Q E hr hsp => ?_
  have hvl := hlen _ _ _ _ hsp
  obtain ⟨W, F, us, ds, τ, d, τ', rfl, h1, h2, h3, h4, h5, h6⟩ := hsp
  obtain ⟨_, hrun⟩ := hG _ _ _ _ h5
  have g : Good (mkNm N cal csts) (mkSg C.tk cal csts W.ns) C W false (cxOf CX0 Pg w K mg base N x (defScope st) f cdv A outer s H E).nox :=
    good_of M rfl rfl S.nd rfl rfl (by
      have := hr.un
      show (A.deeper _).units + 65 < cLine
      omega) (fun _ _ => rfl) rfl rfl rfl rfl hr hcst hc (by simp)
  have hN : N.length = (mkNm N cal csts).N.length := rfl
  have hpl : ps.length ≤ N.length := by have := congrArg List.length S.pre; rw [List.length_take] at this; omega
  refine ⟨_, b_ok g S.kind body _ chk, F, H, F, start' N.length tp ds, τ, ?_⟩
  unfold runF at hrun
  simp only [Option.bind_eq_some_iff] at hrun
  obtain ⟨o, e1, e2⟩ := hrun
  refine ⟨o, start_rel (by rw [hvl]; exact hpl) h2 h3 h4, e1, ?_⟩
  cases o with
  | nx ρ τ1 =>
    cases e2
    exact fun σ' F' H' s' r' => h6 _ _ _ r'.base r'.tape .non
  | bk ρ τ1 => cases e2
  | ct ρ τ1 => cases e2
  | rt d' τ1 =>
    cases e2
    exact fun v F' H' x' t' r' => h6 _ _ _ x' t' r'
end PD

set_option Elab.async false
set_option linter.all false
set_option maxRecDepth 100000
set_option maxHeartbeats 8000000
/-! The law's own def. -/
namespace PD
open PySem L2
/-- the first statement of a law: tape = [list(script), 0, 0] -/
def chkTape (sc : Scope) (j : Nat) (N : List Str) (z : Stmt) : Bool := match z with
  | .Assign [.Name x _] (.List [.Call (.Name l _) [.Name y _] [] _, .Constant (.int a) _ _, .Constant (.int b) _ _] _) _ =>
    decide (N[0]? = some y) && visB sc y && okN y && decide (l = ("list" : Str)) && glB sc l && decide (N[j]? = some x) && locB false sc x && decide (a = 0) && decide (b = 0)
  | _ => false
def startLaw (n j : Nat) : Env' := (List.replicate n Slot.un).set j .tape
/-- the law answers True at every script -/
def spLaw (K : PySem.W.Frag) : Sp := fun vs H Q _ => ∃ (a : Addr) (ns : List Int), vs = [.ref a] ∧ SqL K H a (ns.map V.int) ∧ ns.length ≤ 63 ∧ ∀ H', Q (.bl true) H'
theorem boot_list' : bootBuiltins (Str.ofString "list") = some (Value.type "list") := by decide +kernel
theorem law_okG {Pg : Program} {w : World} {K : PySem.W.Frag} {mg : Str → Option Value} {base : Heap} {C : Con} (M : Mo C K mg) {x : Str} {st : Stmt} {f : Addr} {fd : FuncData} {N : List Str} {s0 : Str} {k j : Nat} {body : Ss} {cal : List Cal} {csts : List (Str × D)} {gal : List Gal} {z : Stmt} {rest : List Stmt}
    (Fn : L2.Fun K x x st f fd) (S : FnScope N [s0] (defScope st)) (hb : defBody st = z :: rest) (hz : chkTape (defScope st) j N z = true) (chk : chkB (mkNmG N cal csts gal) (defScope st) body rest = true)
    (hcst : ∀ p ∈ csts, CstOk C mg p) (hc : ∀ c ∈ cal, Kn Pg w K mg base C k c) (hg : ∀ c ∈ gal, ∃ j, j + 3 ≤ k ∧ KnG Pg w K mg base C j c)
    (hG : ∀ ns : List Int, ns.length ≤ 63 → ∃ τ, evB (mkSgG C.tk cal csts gal ns) body (startLaw N.length j) ⟨0, 0⟩ = some (.rt (.bl true) τ)) :
    FnOk Pg w K mg base CX0 (k + 1) f fd [s0] (spLaw K) := by
  refine Fn.ok S (fun vs H Q E h => ?_) fun cdv A outer s H vs Q E hr hsp => ?_
  · obtain ⟨a, ns, rfl, _⟩ := h; rfl
  obtain ⟨a, ns, rfl, hS, hlen, q⟩ := hsp
  have g : ∀ W : TW, W.ns = ns → Good (mkNmG N cal csts gal) (mkSgG C.tk cal csts gal ns) C W false (cxOf CX0 Pg w K mg base N x (defScope st) f cdv A outer s H E).nox := by
    intro W hW
    subst hW
    exact good_of M rfl rfl S.nd rfl rfl (by
      have := hr.un
      show (A.deeper _).units + 65 < cLine
      omega) (fun _ _ => rfl) rfl rfl rfl rfl hr hcst hc hg
  rw [hb]
  unfold chkTape at hz
  split at hz
  · rename_i tx p1 l p2 y p3 p4 a0 k1 p5 b0 k2 p6 p7 p8
    simp only [Bool.and_eq_true, decide_eq_true_eq] at hz
    obtain ⟨⟨⟨⟨⟨⟨⟨⟨h1, h2⟩, h3⟩, rfl⟩, h5⟩, h6⟩, h7⟩, rfl⟩, rfl⟩ := hz
    have hl := (g ⟨0, 0, ns⟩ rfl).loc h7
    have hbody : ∀ W : TW, W.ns = ns → PSs (cxOf CX0 Pg w K mg base N x (defScope st) f cdv A outer s H E).nox rest (RdB (mkSgG C.tk cal csts gal ns) C W body) := fun W hW => b_ok (g W hW) S.kind body rest chk
    -- the tape's addresses are not known before the first statement has run: all of them at once
    have hall : PSs (cxOf CX0 Pg w K mg base N x (defScope st) f cdv A outer s H E).nox rest (fun D σ H => ∃ W : TW, W.ns = ns ∧ RdB (mkSgG C.tk cal csts gal ns) C W body D σ H) :=
      ⟨fun pins s σ H D I ⟨W, hW, h⟩ => (hbody W hW).run pins s σ H D I h⟩
    refine ⟨_, pss_cons (ps_set (i := j) S.nd h6 hl.1 (pe_lst (pa_cons (pe_callTy call_list_of (gl_of h5) (M.blt .list) boot_list' (pa_cons (pe_var (i := 0) h1 (vis_of h2) (okN_of h3).1 (okN_of h3).2.1) pa_nil rfl) (by decide +kernel) (by decide +kernel) rfl rfl) (pa_cons pe_int (pa_cons pe_int pa_nil rfl) rfl) rfl)) rfl hl.2) hall, ?_⟩
    -- the script
    refine ⟨_, rfl, a, ns.map V.int, rfl, .inl hS, fun L hL => ?_⟩
    refine ⟨by show 3 ≤ sizeLine; decide, fun tp htp => ?_⟩
    have hne : L ≠ tp := fun e => by rw [e, upd_same] at htp; cases htp
    obtain ⟨τ, hrun⟩ := hG ns hlen
    have hjl : j < N.length := (List.getElem?_eq_some_iff.mp h6).1
    have sb : Sub (upd (fun _ => none) L (.lst (ns.map V.int))) (upd (upd H L (.lst (ns.map V.int))) tp (.lst [.ref L, .int 0, .int 0])) := fun b o e => by
      by_cases z : b = L
      · subst z
        rw [upd_same] at e
        rw [upd_ne hne, upd_same]
        exact e
      · rw [upd_ne z] at e; cases e
    have hlen0 : (L2.start N [V.ref a]).length = N.length := by
      have hpl : ([s0] : List Str).length ≤ N.length := by have := congrArg List.length S.pre; rw [List.length_take] at this; omega
      unfold L2.start
      rw [List.length_append, List.length_map, List.length_replicate]
      simp only [List.length_singleton] at hpl ⊢
      omega
    refine ⟨⟨tp, L, ns⟩, rfl, upd (fun _ => none) L (.lst (ns.map V.int)), _, upd (fun _ => none) L (.lst (ns.map V.int)), startLaw N.length j, ⟨0, 0⟩, .rt (.bl true) τ, ⟨?_, Ext.rfl' sb, fun i s v e1 e2 => ?_, fun i i2 s t b e1 _ o1 _ _ _ => ?_, ⟨?_, upd_same, upd_same⟩⟩, hrun, fun v F' H' x' t' r' => ?_⟩
    · show ((L2.start N [V.ref a]).set j (some (V.ref tp))).length = _
      rw [List.length_set, hlen0]
      unfold startLaw
      rw [List.length_set, List.length_replicate]
    · have e2 : ((L2.start N [V.ref a]).set j (some (V.ref tp)))[i]? = some v := e2
      unfold startLaw at e1
      by_cases z : j = i
      · subst z
        rw [List.getElem?_set_self (by rw [List.length_replicate]; exact hjl)] at e1
        rw [List.getElem?_set_self (by rw [hlen0]; exact hjl)] at e2
        cases e1; cases e2
        rfl
      · rw [List.getElem?_set_ne z] at e1
        have := List.eq_of_mem_replicate (List.mem_of_getElem? e1)
        subst this
        trivial
    · unfold startLaw at e1
      by_cases z : j = i
      · subst z
        rw [List.getElem?_set_self (by rw [List.length_replicate]; exact hjl)] at e1
        cases e1; cases o1
      · rw [List.getElem?_set_ne z] at e1
        have := List.eq_of_mem_replicate (List.mem_of_getElem? e1)
        subst this
        cases o1
    · exact upd_ne hne.symm
    · cases r'
      exact q H'
  · cases hz
theorem law_ok {Pg : Program} {w : World} {K : PySem.W.Frag} {mg : Str → Option Value} {base : Heap} {C : Con} (M : Mo C K mg) {x : Str} {st : Stmt} {f : Addr} {fd : FuncData} {N : List Str} {s0 : Str} {k j : Nat} {body : Ss} {cal : List Cal} {csts : List (Str × D)} {z : Stmt} {rest : List Stmt}
    (Fn : L2.Fun K x x st f fd) (S : FnScope N [s0] (defScope st)) (hb : defBody st = z :: rest) (hz : chkTape (defScope st) j N z = true) (chk : chkB (mkNm N cal csts) (defScope st) body rest = true)
    (hcst : ∀ p ∈ csts, CstOk C mg p) (hc : ∀ c ∈ cal, Kn Pg w K mg base C k c)
    (hG : ∀ ns : List Int, ns.length ≤ 63 → ∃ τ, evB (mkSg C.tk cal csts ns) body (startLaw N.length j) ⟨0, 0⟩ = some (.rt (.bl true) τ)) :
    FnOk Pg w K mg base CX0 (k + 1) f fd [s0] (spLaw K) := law_okG (gal := []) M Fn S hb hz chk hcst hc (by simp) hG
end PD

set_option Elab.async false
set_option linter.all false
set_option maxRecDepth 100000
set_option maxHeartbeats 4000000
/-! Texts by their codes. -/
namespace PD
open PySem L2
theorem beq_arr (a b : List Nat) : (a.toArray == b.toArray) = (a == b) := by
  by_cases h : a = b
  · subst h; simp
  · have : a.toArray ≠ b.toArray := fun e => h (by simpa using e)
    rw [beq_eq_false_iff_ne.mpr h, beq_eq_false_iff_ne.mpr this]
theorem subAt_l (a b : List Nat) (i : Nat) : Builtin.Str.subAt (tx a) (tx b) i = (((a.drop i).take b.length) == b) := by
  unfold Builtin.Str.subAt
  have e : (tx a).cps.extract i (i + (tx b).length) = ((a.drop i).take b.length).toArray := by
    rw [tx_len]
    apply Array.toList_inj.mp
    show (a.toArray.extract i (i + b.length)).toList = _
    rw [Array.toList_extract, List.extract_eq_take_drop]
    simp
  rw [e]
  exact beq_arr _ _
theorem starts_l (a b : List Nat) : Txt.startswith (tx a) (tx b) = (a.take b.length == b) := by
  unfold Txt.startswith
  rw [subAt_l, tx_len, tx_len, List.drop_zero]
  by_cases h : a.take b.length = b
  · have hl : b.length ≤ a.length := by
      have := congrArg List.length h
      rw [List.length_take] at this
      omega
    rw [h]
    simp [hl]
  · rw [beq_eq_false_iff_ne.mpr h, Bool.and_false]
theorem ends_l (a b : List Nat) : Txt.endswith (tx a) (tx b) = (decide (b.length ≤ a.length) && (a.drop (a.length - b.length) == b)) := by
  unfold Txt.endswith
  rw [subAt_l, tx_len, tx_len, Nat.zero_add]
  by_cases h : b.length ≤ a.length
  · rw [List.take_of_length_le (by rw [List.length_drop]; omega)]
  · rw [decide_eq_false h]; rfl
def trimL (s t : List Nat) : List Nat := ((t.dropWhile fun c => decide (c ∈ s)).reverse.dropWhile fun c => decide (c ∈ s)).reverse
theorem drop_tw (p : Nat → Bool) (l : List Nat) : l.drop (l.takeWhile p).length = l.dropWhile p := by
  induction l with
  | nil => rfl
  | cons c r ih =>
    by_cases h : p c
    · rw [List.takeWhile_cons_of_pos h, List.dropWhile_cons_of_pos h, List.length_cons, List.drop_succ_cons, ih]
    · rw [List.takeWhile_cons_of_neg h, List.dropWhile_cons_of_neg h]; rfl
theorem contains_l (s : List Nat) (c : Nat) : (tx s).cps.contains c = decide (c ∈ s) := by
  show s.toArray.contains c = _
  simp
theorem strip_l (a s : List Nat) : (Txt.stripChars (tx a) (tx s)).cps.toList = trimL s a := by
  have hg : (tx s).cps.contains = fun c => decide (c ∈ s) := funext fun c => contains_l s c
  unfold Txt.stripChars trimL
  rw [hg]
  generalize (fun c => decide (c ∈ s)) = p
  have main : (stripped p true true (tx a)).cps.toList = ((a.dropWhile p).reverse.dropWhile p).reverse := by
    unfold stripped stripLo stripHi
    rw [PySem.StrLaws.strSub_toList]
    show ((a.drop (if true = true then (a.takeWhile p).length else 0)).take _) = _
    rw [if_pos rfl, if_pos rfl, drop_tw, tx_len]
    have hl : (a.takeWhile p).length + (a.dropWhile p).length = a.length := by
      rw [← List.length_append, List.takeWhile_append_dropWhile]
    generalize hd : a.dropWhile p = d at *
    have e : d.take (d.length - (d.reverse.takeWhile p).length) = (d.reverse.dropWhile p).reverse := by
      rw [← drop_tw, List.drop_reverse, List.reverse_reverse]
    rw [← e]
    have e2 : (List.takeWhile p (tx a).cps.toList).length = (a.takeWhile p).length := rfl
    rw [e2]
    congr 1
    omega
  unfold Txt.stripBy
  split
  · rename_i h
    rw [show ((a.dropWhile p).reverse.dropWhile p).reverse = a from ?_]
    unfold stripSame at h
    simp only [Bool.and_eq_true, beq_iff_eq] at h
    rw [← main]
    unfold stripped
    rw [h.2, h.1, PySem.StrLaws.strSub_toList]
    show (a.drop 0).take ((tx a).length - 0) = a
    rw [tx_len]
    simp
  · exact main
theorem lower_l {a : List Nat} (h : ∀ c ∈ a, c < 128) : loS a = a.map PyProof.Rows.lo1 := by
  unfold loS
  have := SX.lower_S (a := a) (List.all_eq_true.mpr fun c hc => decide_eq_true (h c hc))
  show (Txt.lower (SX.S a)).cps.toList = _
  rw [this]
theorem cut_from {α : Type} (xs : List α) (n : Nat) : cutL xs (some (n : Int)) none = xs.drop n := by
  unfold cutL
  rw [HT.sIx_nat, HT.sIx_none]
  by_cases h : n ≤ xs.length
  · rw [Nat.min_eq_left h, List.take_of_length_le (by rw [List.length_drop]; omega)]
  · rw [Nat.min_eq_right (by omega), List.drop_eq_nil_of_le (by omega), List.drop_eq_nil_of_le (by omega), List.take_nil]
theorem cut_to {α : Type} (xs : List α) (n : Nat) : cutL xs none (some (n : Int)) = xs.take n := by
  unfold cutL
  rw [HT.sIx_nat, HT.sIx_none, List.drop_zero, Nat.sub_zero]
  by_cases h : n ≤ xs.length
  · rw [Nat.min_eq_left h]
  · rw [Nat.min_eq_right (by omega), List.take_of_length_le (Nat.le_refl _), List.take_of_length_le (by omega)]
theorem sIx_neg (n d k : Nat) (h : 0 < k) : HT.sIx n d (some (-(k : Int))) = n - k := by
  show (if (-(k : Int)) < 0 then ((-(k : Int)) + (n : Int)).toNat else _) = _
  rw [if_pos (by omega)]
  omega
theorem cut_but {α : Type} (xs : List α) (k : Nat) (h : 0 < k) : cutL xs none (some (-(k : Int))) = xs.take (xs.length - k) := by
  unfold cutL
  rw [sIx_neg _ _ _ h, HT.sIx_none, List.drop_zero, Nat.sub_zero]
theorem cut_last {α : Type} (xs : List α) (k : Nat) (h : 0 < k) : cutL xs (some (-(k : Int))) none = xs.drop (xs.length - k) := by
  unfold cutL
  rw [sIx_neg _ _ _ h, HT.sIx_none, List.take_of_length_le (by rw [List.length_drop]; omega)]
theorem atI_last' (xs : List Nat) (h : xs ≠ []) : atI xs (-1) = xs.getLast? := by
  unfold atI ixN
  have hl : 0 < xs.length := List.length_pos_iff.mpr h
  rw [if_neg (by omega), if_pos (by omega), List.getLast?_eq_getElem?]
  show xs[((-1 : Int) + xs.length).toNat]? = _
  congr 1
  omega
theorem join_nil : ∀ ss : List (List Nat), TL.joinL [] ss = ss.flatten
  | [] => rfl
  | [s] => by simp [TL.joinL]
  | s :: t :: r => by
    have := join_nil (t :: r)
    simp only [TL.joinL, List.flatten_cons] at this ⊢
    rw [this]; simp
end PD
namespace PD
open PySem L2
@[simp] theorem atI_zero {α : Type} (c : α) (r : List α) : atI (c :: r) 0 = some c := by simp [atI, ixN]
@[simp] theorem atI_one {α : Type} (c d : α) (r : List α) : atI (c :: d :: r) 1 = some d := by
  have := atI_nat (xs := c :: d :: r) (j := 1) (v := d) rfl
  exact this
@[simp] theorem atI_two {α : Type} (c d e : α) (r : List α) : atI (c :: d :: e :: r) 2 = some e := by
  have := atI_nat (xs := c :: d :: e :: r) (j := 2) (v := e) rfl
  exact this
@[simp] theorem atI_neg {α : Type} (l : List α) (c : α) : atI (l ++ [c]) (-1) = some c := by
  unfold atI ixN
  rw [if_neg (by omega), if_pos (by simp; omega)]
  show (l ++ [c])[((-1 : Int) + ((l ++ [c]).length : Nat)).toNat]? = some c
  rw [show ((-1 : Int) + ((l ++ [c]).length : Nat)).toNat = l.length by simp; omega]
  simp
@[simp] theorem cut_tail {α : Type} (c : α) (r : List α) : cutL (c :: r) (some 1) none = r := by
  have := cut_from (c :: r) 1
  exact this
@[simp] theorem cut_init {α : Type} (l : List α) (c : α) : cutL (l ++ [c]) none (some (-1)) = l := by
  have := cut_but (l ++ [c]) 1 (by omega)
  rw [show (-((1 : Nat) : Int)) = -1 from rfl] at this
  rw [this]; simp
theorem sl1 {n : Nat} (h : n ≤ 4000) : n ≤ sizeLine := by rw [sizeLine_eq]; omega
end PD
namespace PD
open PySem L2
theorem evB_nx {P : Sg} {s : S} {ss : Ss} {ρ ρ1 : Env'} {τ τ1 : TS} (h : evS P s ρ τ = some (.nx ρ1 τ1)) : evB P (.cons s ss) ρ τ = evB P ss ρ1 τ1 := by
  rw [evB, h]; rfl
theorem evB_rt {P : Sg} {s : S} {ss : Ss} {ρ : Env'} {τ τ1 : TS} {d : D} (h : evS P s ρ τ = some (.rt d τ1)) : evB P (.cons s ss) ρ τ = some (.rt d τ1) := by
  rw [evB, h]; rfl
theorem runF_rt {P : Sg} {n : Nat} {tp : Bool} {b : Ss} {ds : List D} {τ τ1 : TS} {d : D} (h : evB P b (start' n tp ds) τ = some (.rt d τ1)) : runF P n tp b ds τ = some (d, τ1) := by
  unfold runF
  rw [h]; rfl
theorem dw_len {α : Type} (p : α → Bool) : ∀ l : List α, (l.dropWhile p).length ≤ l.length
  | [] => Nat.le_refl _
  | c :: r => by
    cases h : p c with
    | true => rw [List.dropWhile_cons_of_pos h]; exact Nat.le_succ_of_le (dw_len p r)
    | false => rw [List.dropWhile_cons_of_neg (by rw [h]; exact Bool.false_ne_true)]; exact Nat.le_refl _
theorem forL_step {f : D → Env' → TS → Option Out} {x : D} {xs : List D} {ρ ρ1 : Env'} {τ τ1 : TS} (h : f x ρ τ = some (.nx ρ1 τ1)) : forL f (x :: xs) ρ τ = forL f xs ρ1 τ1 := by
  rw [forL, h]; rfl
end PD
namespace PD
open PySem L2
@[simp] theorem eqv_str (x y : List Nat) : eqv (.str x) (.str y) = (x == y) := by rw [eqv]
@[simp] theorem eqv_int (x y : Int) : eqv (.int x) (.int y) = (x == y) := by rw [eqv]
@[simp] theorem eqv_bl (x y : Bool) : eqv (.bl x) (.bl y) = (x == y) := by rw [eqv]
@[simp] theorem eqv_non : eqv .non .non = true := by rw [eqv]
@[simp] theorem eqv_tup (x y : List D) : eqv (.tup x) (.tup y) = eqvs x y := by rw [eqv]
@[simp] theorem eqv_lst (x y : List D) : eqv (.lst x) (.lst y) = eqvs x y := by rw [eqv]
@[simp] theorem eqvs_nil : eqvs [] [] = true := by rw [eqvs]
@[simp] theorem eqvs_nc (x : D) (xs : List D) : eqvs [] (x :: xs) = false := by simp [eqvs]
@[simp] theorem eqvs_cn (x : D) (xs : List D) : eqvs (x :: xs) [] = false := by simp [eqvs]
@[simp] theorem eqvs_cc (x y : D) (xs ys : List D) : eqvs (x :: xs) (y :: ys) = (eqv x y && eqvs xs ys) := by rw [eqvs]
@[simp] theorem dep_non : dep .non = 0 := by simp [dep]
@[simp] theorem dep_bl (x : Bool) : dep (.bl x) = 0 := by simp [dep]
@[simp] theorem dep_int (x : Int) : dep (.int x) = 0 := by simp [dep]
@[simp] theorem dep_str (x : List Nat) : dep (.str x) = 0 := by simp [dep]
@[simp] theorem dep_tup (x : List D) : dep (.tup x) = deps x + 1 := by simp [dep]
@[simp] theorem dep_lst (x : List D) : dep (.lst x) = deps x + 1 := by simp [dep]
@[simp] theorem deps_nil : deps [] = 0 := by simp [deps]
@[simp] theorem deps_cons (x : D) (xs : List D) : deps (x :: xs) = max (dep x) (deps xs) := by simp [deps]
@[simp] theorem eqv_in (x : Int) : eqv (.int x) .non = false := by simp [eqv]
@[simp] theorem eqv_sn (x : List Nat) : eqv (.str x) .non = false := by simp [eqv]
@[simp] theorem eqv_si (x : List Nat) (y : Int) : eqv (.str x) (.int y) = false := by simp [eqv]
@[simp] theorem eqv_is (x : List Nat) (y : Int) : eqv (.int y) (.str x) = false := by simp [eqv]
@[simp] theorem eqv_sb (x : List Nat) (y : Bool) : eqv (.str x) (.bl y) = false := by simp [eqv]
@[simp] theorem eqv_bs (x : List Nat) (y : Bool) : eqv (.bl y) (.str x) = false := by simp [eqv]
@[simp] theorem eqv_st (x : List Nat) (y : List D) : eqv (.str x) (.tup y) = false := by simp [eqv]
@[simp] theorem eqv_ts (x : List Nat) (y : List D) : eqv (.tup y) (.str x) = false := by simp [eqv]
@[simp] theorem eqv_sl (x : List Nat) (y : List D) : eqv (.str x) (.lst y) = false := by simp [eqv]
@[simp] theorem eqv_ls (x : List Nat) (y : List D) : eqv (.lst y) (.str x) = false := by simp [eqv]
@[simp] theorem eqv_tl (x y : List D) : eqv (.tup x) (.lst y) = false := by simp [eqv]
@[simp] theorem eqv_lt (x y : List D) : eqv (.lst x) (.tup y) = false := by simp [eqv]
end PD
namespace PD
open PySem L2
def cbody (P : Sg) (elt : E) (tg : T) (c : Tt) (own : List Nat) (ρ : Env') : D → TS → Option (Option D × TS) := fun x τ1 => (bindT tg x (wipeE ρ own)).bind fun ρ1 => (evt P c ρ1 τ1).bind fun q => if q.1 then (ev P elt ρ1 q.2).map fun z => (some z.1, z.2) else some (none, q.2)
theorem ev_comp {P : Sg} {elt : E} {tg : T} {it : I} {c : Tt} {own : List Nat} {ρ : Env'} {τ τ1 τ2 : TS} {xs ys : List D} (h1 : evi P it ρ τ = some (xs, τ1)) (h2 : compL (cbody P elt tg c own ρ) xs τ1 = some (ys, τ2)) (h3 : ys.length ≤ sizeLine) :
    ev P (.comp elt tg it c own) ρ τ = some (.lst ys, τ2) := by
  rw [ev, h1]
  simp only [Option.bind_some]
  unfold cbody at h2
  rw [h2]
  simp only [Option.bind_some]
  rw [if_pos h3]
theorem ev_join {P : Sg} {e : E} {ρ : Env'} {τ τ1 : TS} {ds : List D} {d : D} (h1 : ev P e ρ τ = some (.lst ds, τ1)) (h2 : joinD (.str []) [.lst ds] = some d) : ev P (.mth .join (.str []) (.cons e .nil)) ρ τ = some (d, τ1) := by
  simp only [ev, evs, h1, Option.bind_some, Option.map_some, mD, h2]
theorem evS_ret {P : Sg} {e : E} {ρ : Env'} {τ τ1 : TS} {d : D} (h : ev P e ρ τ = some (d, τ1)) : evS P (.ret e) ρ τ = some (.rt d τ1) := by
  rw [evS, h]; rfl
theorem evS_set {P : Sg} {e : E} {i : Nat} {ρ : Env'} {τ τ1 : TS} {d : D} (h : ev P e ρ τ = some (d, τ1)) : evS P (.set i e) ρ τ = some (.nx (ρ.set i (.d d)) τ1) := by
  rw [evS, h]; rfl
theorem evS_t {P : Sg} {c : Tt} {a b : Ss} {ρ : Env'} {τ τ1 : TS} {o : Out} (h : evt P c ρ τ = some (true, τ1)) (h2 : evB P a ρ τ1 = some o) : evS P (.ife c a b) ρ τ = some o := by
  rw [evS, h]; exact h2
theorem evS_f {P : Sg} {c : Tt} {a b : Ss} {ρ : Env'} {τ τ1 : TS} {o : Out} (h : evt P c ρ τ = some (false, τ1)) (h2 : evB P b ρ τ1 = some o) : evS P (.ife c a b) ρ τ = some o := by
  rw [evS, h]; exact h2
end PD

set_option Elab.async false
set_option linter.all false
set_option maxRecDepth 100000
set_option maxHeartbeats 4000000
/-! What the defs of textcleaners.running do. -/
namespace PD
open PySem L2
def ir_trimmed : Ss := (.cons (.whl (.and (.cmp .NotEq (.var 0) (.str [])) (.one (.cmp .In (.idx (.var 0) (.int 0)) (.var 1)))) (.cons (.set 0 (.sl (.var 0) (.int 1) .nope)) .nil)) (.cons (.whl (.and (.cmp .NotEq (.var 0) (.str [])) (.one (.cmp .In (.idx (.var 0) (.neg (.int 1))) (.var 1)))) (.cons (.set 0 (.sl (.var 0) .nope (.neg (.int 1)))) .nil)) (.cons (.ret (.var 0)) .nil)))
def ir_squeezed : Ss := (.cons (.set 2 (.str [])) (.cons (.fr (.nm 3) (.data (.var 0)) (.cons (.ife (.or (.cmp .NotIn (.var 3) (.var 1)) (.one (.cmp .NotEq (.sl (.var 2) (.neg (.int 1)) .nope) (.var 3)))) (.cons (.set 2 (.bin .Add (.var 2) (.var 3))) .nil) .nil) .nil)) (.cons (.ret (.var 2)) .nil)))
def ir_joined : Ss := (.cons (.unp (.cons (.nm 3) (.cons (.nm 4) .nil)) (.tup (.cons (.str []) (.cons (.bl false) .nil)))) (.cons (.fr (.nm 5) (.data (.var 0)) (.cons (.ife (.cmp .NotIn (.var 5) (.var 1)) (.cons (.set 3 (.bin .Add (.var 3) (.var 5))) .nil) (.cons (.ife (.not (.val (.var 4))) (.cons (.set 3 (.bin .Add (.var 3) (.var 2))) .nil) .nil) .nil)) (.cons (.set 4 (.cmp .In (.var 5) (.var 1))) .nil))) (.cons (.ret (.var 3)) .nil)))
def ir_unfronted : Ss := (.cons (.ife (.not (.val (.mth .starts (.var 0) (.cons (.var 1) .nil)))) (.cons (.ret (.var 0)) .nil) .nil) (.cons (.ret (.ife (.val (.var 2)) (.call 0 (.cons (.sl (.var 0) (.blt .len (.cons (.var 1) .nil)) .nope) (.cons (.var 1) (.cons (.var 2) .nil)))) (.sl (.var 0) (.blt .len (.cons (.var 1) .nil)) .nope))) .nil))
def ir_unbacked : Ss := (.cons (.ife (.not (.val (.mth .ends (.var 0) (.cons (.var 1) .nil)))) (.cons (.ret (.var 0)) .nil) .nil) (.cons (.set 3 (.sl (.var 0) .nope (.bin .Sub (.blt .len (.cons (.var 0) .nil)) (.blt .len (.cons (.var 1) .nil))))) (.cons (.ret (.ife (.val (.var 2)) (.call 0 (.cons (.var 3) (.cons (.var 1) (.cons (.var 2) .nil)))) (.var 3))) .nil)))
def ir_ended : Ss := (.cons (.par [2, 3] (.cons (.idx (.var 1) (.int 0)) (.cons (.idx (.var 1) (.int 1)) .nil))) (.cons (.ife (.cmp .Eq (.var 2) (.str [102, 105, 114, 115, 116])) (.cons (.ret (.sl (.var 0) .nope (.var 3))) .nil) .nil) (.cons (.ife (.cmp .Eq (.var 2) (.str [108, 97, 115, 116])) (.cons (.ret (.sl (.var 0) (.blt .max (.cons (.int 0) (.cons (.bin .Sub (.blt .len (.cons (.var 0) .nil)) (.var 3)) .nil))) .nope)) .nil) .nil) (.cons (.ife (.cmp .In (.var 2) (.tup (.cons (.str [102, 114, 111, 110, 116]) (.cons (.str [102, 114, 111, 110, 116, 115]) .nil)))) (.cons (.ret (.call 0 (.cons (.var 0) (.cons (.var 3) (.cons (.cmp .Eq (.var 2) (.str [102, 114, 111, 110, 116, 115])) .nil))))) .nil) .nil) (.cons (.ret (.call 1 (.cons (.var 0) (.cons (.var 3) (.cons (.cmp .Eq (.var 2) (.str [98, 97, 99, 107, 115])) .nil))))) .nil)))))
def ir_done : Ss := (.cons (.set 2 (.idx (.var 1) (.int 0))) (.cons (.ife (.cmp .Eq (.var 2) (.str [115, 109, 97, 108, 108])) (.cons (.ret (.mth .join (.str []) (.cons (.comp (.ife (.cmp .In (.var 3) (.cst 0)) (.mth .lower (.var 3) .nil) (.var 3)) (.nm 3) (.data (.var 0)) .yes [3]) .nil))) .nil) .nil) (.cons (.ife (.cmp .Eq (.var 2) (.str [109, 97, 112])) (.cons (.ret (.repl 0 1)) .nil) .nil) (.cons (.ife (.cmp .Eq (.var 2) (.str [100, 114, 111, 112])) (.cons (.ret (.mth .join (.str []) (.cons (.comp (.var 3) (.nm 3) (.data (.var 0)) (.cmp .NotIn (.var 3) (.idx (.var 1) (.int 1))) [3]) .nil))) .nil) .nil) (.cons (.ife (.cmp .Eq (.var 2) (.str [116, 114, 105, 109])) (.cons (.ret (.call 0 (.cons (.var 0) (.cons (.idx (.var 1) (.int 1)) .nil)))) .nil) .nil) (.cons (.ife (.cmp .Eq (.var 2) (.str [115, 113, 117, 101, 101, 122, 101])) (.cons (.ret (.call 1 (.cons (.var 0) (.cons (.idx (.var 1) (.int 1)) .nil)))) .nil) .nil) (.cons (.ret (.ife (.cmp .Eq (.var 2) (.str [106, 111, 105, 110])) (.call 2 (.cons (.var 0) (.cons (.idx (.var 1) (.int 1)) (.cons (.idx (.var 1) (.int 2)) .nil)))) (.call 3 (.cons (.var 0) (.cons (.var 1) .nil))))) .nil)))))))
def ir_cleaned : Ss := (.cons (.fr (.nm 2) (.data (.var 1)) (.cons (.set 0 (.call 0 (.cons (.var 0) (.cons (.var 2) .nil)))) .nil)) (.cons (.ret (.var 0)) .nil))
/-! ### trimmed -/
theorem trim_loop1 (P : Sg) (s : List Nat) : ∀ (t : List Nat) (τ : TS), t.length ≤ 4000 →
    evS P (.whl (.and (.cmp .NotEq (.var 0) (.str [])) (.one (.cmp .In (.idx (.var 0) (.int 0)) (.var 1)))) (.cons (.set 0 (.sl (.var 0) (.int 1) .nope)) .nil)) [.d (.str t), .d (.str s)] τ = some (.nx [.d (.str (t.dropWhile fun c => decide (c ∈ s))), .d (.str s)] τ)
  | [], τ, h => by
    rw [evS]; refine whL_stop ?_
    simp [evB, evS, ev, evs, evt, evp, evi, binD, cmpD, bD, mD, neD, eqD, truD, ixD, inD, inB, slD, lenD, intD, maxD, minD, addD, subD, negD, joinD, joinS, txsO, lowerD, upperD, startsD, endsD, stripD, with1, ordD, mulD, modD, fdivD, powD, intO, Out.then, bindT, setAll, itemsD, rangeD, runF, start', mkSg, mkSgG, opD, small62, wipeE, compL, forL, List.replicate, tyIs]
  | c :: r, τ, h => by
    have hs := sl1 h
    simp only [List.length_cons] at hs
    by_cases hc : c ∈ s
    · have ih := trim_loop1 P s r τ (by simp at h; omega)
      rw [List.dropWhile_cons_of_pos (by simpa using hc)]
      rw [evS] at ih ⊢; refine whL_go (ρ1 := [.d (.str r), .d (.str s)]) (τ1 := τ) (τ2 := τ) ?_ ?_ ih
      · simp [evB, evS, ev, evs, evt, evp, evi, binD, cmpD, bD, mD, neD, eqD, truD, ixD, inD, inB, slD, lenD, intD, maxD, minD, addD, subD, negD, joinD, joinS, txsO, lowerD, upperD, startsD, endsD, stripD, with1, ordD, mulD, modD, fdivD, powD, intO, Out.then, bindT, setAll, itemsD, rangeD, runF, start', mkSg, mkSgG, opD, small62, wipeE, compL, forL, List.replicate, tyIs, hs, hc]
      · simp [evB, evS, ev, evs, evt, evp, evi, binD, cmpD, bD, mD, neD, eqD, truD, ixD, inD, inB, slD, lenD, intD, maxD, minD, addD, subD, negD, joinD, joinS, txsO, lowerD, upperD, startsD, endsD, stripD, with1, ordD, mulD, modD, fdivD, powD, intO, Out.then, bindT, setAll, itemsD, rangeD, runF, start', mkSg, mkSgG, opD, small62, wipeE, compL, forL, List.replicate, tyIs, hs]
    · rw [List.dropWhile_cons_of_neg (by simpa using hc)]
      rw [evS]; refine whL_stop ?_
      simp [evB, evS, ev, evs, evt, evp, evi, binD, cmpD, bD, mD, neD, eqD, truD, ixD, inD, inB, slD, lenD, intD, maxD, minD, addD, subD, negD, joinD, joinS, txsO, lowerD, upperD, startsD, endsD, stripD, with1, ordD, mulD, modD, fdivD, powD, intO, Out.then, bindT, setAll, itemsD, rangeD, runF, start', mkSg, mkSgG, opD, small62, wipeE, compL, forL, List.replicate, tyIs, hs, hc]
theorem trim_loop2 (P : Sg) (s : List Nat) : ∀ (n : Nat) (t : List Nat) (τ : TS), t.length = n → t.length ≤ 4000 →
    evS P (.whl (.and (.cmp .NotEq (.var 0) (.str [])) (.one (.cmp .In (.idx (.var 0) (.neg (.int 1))) (.var 1)))) (.cons (.set 0 (.sl (.var 0) .nope (.neg (.int 1)))) .nil)) [.d (.str t), .d (.str s)] τ = some (.nx [.d (.str ((t.reverse.dropWhile fun c => decide (c ∈ s)).reverse)), .d (.str s)] τ)
  | 0, t, τ, e, h => by
    obtain rfl := List.length_eq_zero_iff.mp e
    rw [evS]; refine whL_stop ?_
    simp [evB, evS, ev, evs, evt, evp, evi, binD, cmpD, bD, mD, neD, eqD, truD, ixD, inD, inB, slD, lenD, intD, maxD, minD, addD, subD, negD, joinD, joinS, txsO, lowerD, upperD, startsD, endsD, stripD, with1, ordD, mulD, modD, fdivD, powD, intO, Out.then, bindT, setAll, itemsD, rangeD, runF, start', mkSg, mkSgG, opD, small62, wipeE, compL, forL, List.replicate, tyIs]
  | n + 1, t, τ, e, h => by
    obtain ⟨l, c, rfl⟩ : ∃ l c, t = l ++ [c] := ⟨t.dropLast, t.getLast (by intro z; subst z; cases e), (List.dropLast_concat_getLast _).symm⟩
    have hs := sl1 h
    simp only [List.length_append, List.length_cons, List.length_nil, Nat.zero_add] at hs e h
    rw [List.reverse_append, List.reverse_singleton, List.singleton_append]
    by_cases hc : c ∈ s
    · have ih := trim_loop2 P s n l τ (by omega) (by omega)
      rw [List.dropWhile_cons_of_pos (by simpa using hc)]
      rw [evS] at ih ⊢; refine whL_go (ρ1 := [.d (.str l), .d (.str s)]) (τ1 := τ) (τ2 := τ) ?_ ?_ ih
      · simp [evB, evS, ev, evs, evt, evp, evi, binD, cmpD, bD, mD, neD, eqD, truD, ixD, inD, inB, slD, lenD, intD, maxD, minD, addD, subD, negD, joinD, joinS, txsO, lowerD, upperD, startsD, endsD, stripD, with1, ordD, mulD, modD, fdivD, powD, intO, Out.then, bindT, setAll, itemsD, rangeD, runF, start', mkSg, mkSgG, opD, small62, wipeE, compL, forL, List.replicate, tyIs, hs, hc]
      · simp [evB, evS, ev, evs, evt, evp, evi, binD, cmpD, bD, mD, neD, eqD, truD, ixD, inD, inB, slD, lenD, intD, maxD, minD, addD, subD, negD, joinD, joinS, txsO, lowerD, upperD, startsD, endsD, stripD, with1, ordD, mulD, modD, fdivD, powD, intO, Out.then, bindT, setAll, itemsD, rangeD, runF, start', mkSg, mkSgG, opD, small62, wipeE, compL, forL, List.replicate, tyIs, hs]
    · rw [List.dropWhile_cons_of_neg (by simpa using hc), List.reverse_cons, List.reverse_reverse]
      rw [evS]; refine whL_stop ?_
      simp [evB, evS, ev, evs, evt, evp, evi, binD, cmpD, bD, mD, neD, eqD, truD, ixD, inD, inB, slD, lenD, intD, maxD, minD, addD, subD, negD, joinD, joinS, txsO, lowerD, upperD, startsD, endsD, stripD, with1, ordD, mulD, modD, fdivD, powD, intO, Out.then, bindT, setAll, itemsD, rangeD, runF, start', mkSg, mkSgG, opD, small62, wipeE, compL, forL, List.replicate, tyIs, hs, hc]
theorem run_trimmed (P : Sg) (t s : List Nat) (τ : TS) (h : t.length ≤ 4000) : runF P 2 false ir_trimmed [.str t, .str s] τ = some (.str (trimL s t), τ) := by
  refine runF_rt ?_
  show evB P ir_trimmed [.d (.str t), .d (.str s)] τ = _
  unfold ir_trimmed
  rw [evB_nx (trim_loop1 P s t τ h), evB_nx (trim_loop2 P s _ _ τ rfl (Nat.le_trans (dw_len _ _) h))]
  simp [evB, evS, ev, evs, evt, evp, evi, binD, cmpD, bD, mD, neD, eqD, truD, ixD, inD, inB, slD, lenD, intD, maxD, minD, addD, subD, negD, joinD, joinS, txsO, lowerD, upperD, startsD, endsD, stripD, with1, ordD, mulD, modD, fdivD, powD, intO, Out.then, bindT, setAll, itemsD, rangeD, runF, start', mkSg, mkSgG, opD, small62, wipeE, compL, forL, List.replicate, tyIs, trimL]
end PD

set_option Elab.async false
set_option linter.all false
set_option maxRecDepth 100000
set_option maxHeartbeats 4000000
/-! What the defs of textcleaners.running do: squeezed, joined, unfronted, unbacked. -/
namespace PD
open PySem L2
/-! ### squeezed -/
def sqL (s : List Nat) : Option Nat → List Nat → List Nat
  | _, [] => []
  | p, c :: r => if c ∈ s ∧ p = some c then sqL s (some c) r else c :: sqL s (some c) r
theorem cut_lst (l : List Nat) : cutL l (some (-1)) none = l.getLast?.toList := by
  have := cut_last l 1 (by omega)
  rw [show (-((1 : Nat) : Int)) = -1 from rfl] at this
  rw [this]
  rcases List.eq_nil_or_concat l with h | ⟨m, c, h⟩
  · subst h; rfl
  · subst h; simp
theorem lst_beq (o : Option Nat) (c : Nat) : (o.toList == [c]) = decide (o = some c) := by
  cases o with
  | none => rfl
  | some d =>
    show ([d] == [c]) = _
    by_cases h : d = c
    · subst h; simp
    · simp [h]
theorem sq_loop (P : Sg) (t s : List Nat) (τ : TS) : ∀ (r f : List Nat) (g : Slot), f.length + r.length ≤ 4000 →
    ∃ g', forL (fun x ρ1 τ1 => (bindT (.nm 3) x ρ1).bind fun ρ2 => evB P (.cons (.ife (.or (.cmp .NotIn (.var 3) (.var 1)) (.one (.cmp .NotEq (.sl (.var 2) (.neg (.int 1)) .nope) (.var 3)))) (.cons (.set 2 (.bin .Add (.var 2) (.var 3))) .nil) .nil) .nil) ρ2 τ1) (r.map fun c => .str [c]) [.d (.str t), .d (.str s), .d (.str f), g] τ
      = some (.nx [.d (.str t), .d (.str s), .d (.str (f ++ sqL s f.getLast? r)), g'] τ)
  | [], f, g, h => ⟨g, by simp [forL, sqL]⟩
  | c :: r, f, g, h => by
    simp only [List.length_cons] at h
    have h1 := sl1 (show f.length ≤ 4000 by omega)
    have h2 := sl1 (show f.length + 1 ≤ 4000 by omega)
    by_cases hc : c ∈ s ∧ f.getLast? = some c
    · obtain ⟨g', e⟩ := sq_loop P t s τ r f (.d (.str [c])) (by omega)
      refine ⟨g', ?_⟩
      rw [List.map_cons, forL_step (ρ1 := [.d (.str t), .d (.str s), .d (.str f), .d (.str [c])]) (τ1 := τ) ?_, e]
      · rw [sqL, if_pos hc, hc.2]
      · simp [evB, evS, ev, evs, evt, evp, evi, binD, cmpD, bD, mD, neD, eqD, truD, ixD, inD, inB, slD, lenD, intD, maxD, minD, addD, subD, negD, joinD, joinS, txsO, lowerD, upperD, startsD, endsD, stripD, with1, ordD, mulD, modD, fdivD, powD, intO, Out.then, bindT, setAll, itemsD, rangeD, runF, start', mkSg, mkSgG, opD, small62, wipeE, compL, forL, List.replicate, tyIs, h1, hc.1, cut_lst, lst_beq, hc.2]
    · obtain ⟨g', e⟩ := sq_loop P t s τ r (f ++ [c]) (.d (.str [c])) (by simp; omega)
      refine ⟨g', ?_⟩
      rw [List.map_cons, forL_step (ρ1 := [.d (.str t), .d (.str s), .d (.str (f ++ [c])), .d (.str [c])]) (τ1 := τ) ?_, e]
      · rw [sqL, if_neg hc]; simp
      · by_cases h3 : c ∈ s
        · have h4 : f.getLast? ≠ some c := fun z => hc ⟨h3, z⟩
          simp [evB, evS, ev, evs, evt, evp, evi, binD, cmpD, bD, mD, neD, eqD, truD, ixD, inD, inB, slD, lenD, intD, maxD, minD, addD, subD, negD, joinD, joinS, txsO, lowerD, upperD, startsD, endsD, stripD, with1, ordD, mulD, modD, fdivD, powD, intO, Out.then, bindT, setAll, itemsD, rangeD, runF, start', mkSg, mkSgG, opD, small62, wipeE, compL, forL, List.replicate, tyIs, h1, h2, h3, cut_lst, lst_beq, h4]
        · simp [evB, evS, ev, evs, evt, evp, evi, binD, cmpD, bD, mD, neD, eqD, truD, ixD, inD, inB, slD, lenD, intD, maxD, minD, addD, subD, negD, joinD, joinS, txsO, lowerD, upperD, startsD, endsD, stripD, with1, ordD, mulD, modD, fdivD, powD, intO, Out.then, bindT, setAll, itemsD, rangeD, runF, start', mkSg, mkSgG, opD, small62, wipeE, compL, forL, List.replicate, tyIs, h1, h2, h3]
theorem run_squeezed (P : Sg) (t s : List Nat) (τ : TS) (h : t.length ≤ 4000) : runF P 4 false ir_squeezed [.str t, .str s] τ = some (.str (sqL s none t), τ) := by
  refine runF_rt ?_
  show evB P ir_squeezed [.d (.str t), .d (.str s), .un, .un] τ = _
  unfold ir_squeezed
  obtain ⟨g', e⟩ := sq_loop P t s τ t [] .un (by simpa using h)
  rw [evB_nx (ρ1 := [.d (.str t), .d (.str s), .d (.str []), .un]) (τ1 := τ) (by simp [evB, evS, ev, evs, evt, evp, evi, binD, cmpD, bD, mD, neD, eqD, truD, ixD, inD, inB, slD, lenD, intD, maxD, minD, addD, subD, negD, joinD, joinS, txsO, lowerD, upperD, startsD, endsD, stripD, with1, ordD, mulD, modD, fdivD, powD, intO, Out.then, bindT, setAll, itemsD, rangeD, runF, start', mkSg, mkSgG, opD, small62, wipeE, compL, forL, List.replicate, tyIs])]
  rw [evB_nx (ρ1 := [.d (.str t), .d (.str s), .d (.str ([] ++ sqL s ([] : List Nat).getLast? t)), g']) (τ1 := τ) (by rw [evS]; simp only [evi, ev, List.getElem?_cons_zero, Option.bind_some, itemsD, Option.map_some]; exact e)]
  simp [evB, evS, ev, evs, evt, evp, evi, binD, cmpD, bD, mD, neD, eqD, truD, ixD, inD, inB, slD, lenD, intD, maxD, minD, addD, subD, negD, joinD, joinS, txsO, lowerD, upperD, startsD, endsD, stripD, with1, ordD, mulD, modD, fdivD, powD, intO, Out.then, bindT, setAll, itemsD, rangeD, runF, start', mkSg, mkSgG, opD, small62, wipeE, compL, forL, List.replicate, tyIs]
/-! ### joined -/
def joL (s o : List Nat) : Bool → List Nat → List Nat
  | _, [] => []
  | b, c :: r => if c ∈ s then (if b then joL s o true r else o ++ joL s o true r) else c :: joL s o false r
theorem jo_loop (P : Sg) (t s o : List Nat) (ho : o.length ≤ 1) (τ : TS) : ∀ (r f : List Nat) (b : Bool) (g : Slot), f.length + r.length ≤ 4000 →
    ∃ b' g', forL (fun x ρ1 τ1 => (bindT (.nm 5) x ρ1).bind fun ρ2 => evB P (.cons (.ife (.cmp .NotIn (.var 5) (.var 1)) (.cons (.set 3 (.bin .Add (.var 3) (.var 5))) .nil) (.cons (.ife (.not (.val (.var 4))) (.cons (.set 3 (.bin .Add (.var 3) (.var 2))) .nil) .nil) .nil)) (.cons (.set 4 (.cmp .In (.var 5) (.var 1))) .nil)) ρ2 τ1) (r.map fun c => .str [c]) [.d (.str t), .d (.str s), .d (.str o), .d (.str f), .d (.bl b), g] τ
      = some (.nx [.d (.str t), .d (.str s), .d (.str o), .d (.str (f ++ joL s o b r)), .d (.bl b'), g'] τ)
  | [], f, b, g, h => ⟨b, g, by simp [forL, joL]⟩
  | c :: r, f, b, g, h => by
    simp only [List.length_cons] at h
    have h1 := sl1 (show f.length ≤ 4000 by omega)
    have h2 := sl1 (show f.length + 1 ≤ 4000 by omega)
    have h3 := sl1 (show f.length + o.length ≤ 4000 by omega)
    by_cases hc : c ∈ s
    · cases b with
      | true =>
        obtain ⟨b', g', e⟩ := jo_loop P t s o ho τ r f true (.d (.str [c])) (by omega)
        refine ⟨b', g', ?_⟩
        rw [List.map_cons, forL_step (ρ1 := [.d (.str t), .d (.str s), .d (.str o), .d (.str f), .d (.bl true), .d (.str [c])]) (τ1 := τ) ?_, e]
        · rw [joL, if_pos hc]; rfl
        · simp [evB, evS, ev, evs, evt, evp, evi, binD, cmpD, bD, mD, neD, eqD, truD, ixD, inD, inB, slD, lenD, intD, maxD, minD, addD, subD, negD, joinD, joinS, txsO, lowerD, upperD, startsD, endsD, stripD, with1, ordD, mulD, modD, fdivD, powD, intO, Out.then, bindT, setAll, itemsD, rangeD, runF, start', mkSg, mkSgG, opD, small62, wipeE, compL, forL, List.replicate, tyIs, h1, hc]
      | false =>
        obtain ⟨b', g', e⟩ := jo_loop P t s o ho τ r (f ++ o) true (.d (.str [c])) (by simp; omega)
        refine ⟨b', g', ?_⟩
        rw [List.map_cons, forL_step (ρ1 := [.d (.str t), .d (.str s), .d (.str o), .d (.str (f ++ o)), .d (.bl true), .d (.str [c])]) (τ1 := τ) ?_, e]
        · rw [joL, if_pos hc]; simp
        · simp [evB, evS, ev, evs, evt, evp, evi, binD, cmpD, bD, mD, neD, eqD, truD, ixD, inD, inB, slD, lenD, intD, maxD, minD, addD, subD, negD, joinD, joinS, txsO, lowerD, upperD, startsD, endsD, stripD, with1, ordD, mulD, modD, fdivD, powD, intO, Out.then, bindT, setAll, itemsD, rangeD, runF, start', mkSg, mkSgG, opD, small62, wipeE, compL, forL, List.replicate, tyIs, h1, h3, hc]
    · obtain ⟨b', g', e⟩ := jo_loop P t s o ho τ r (f ++ [c]) false (.d (.str [c])) (by simp; omega)
      refine ⟨b', g', ?_⟩
      rw [List.map_cons, forL_step (ρ1 := [.d (.str t), .d (.str s), .d (.str o), .d (.str (f ++ [c])), .d (.bl false), .d (.str [c])]) (τ1 := τ) ?_, e]
      · rw [joL, if_neg hc]; simp
      · simp [evB, evS, ev, evs, evt, evp, evi, binD, cmpD, bD, mD, neD, eqD, truD, ixD, inD, inB, slD, lenD, intD, maxD, minD, addD, subD, negD, joinD, joinS, txsO, lowerD, upperD, startsD, endsD, stripD, with1, ordD, mulD, modD, fdivD, powD, intO, Out.then, bindT, setAll, itemsD, rangeD, runF, start', mkSg, mkSgG, opD, small62, wipeE, compL, forL, List.replicate, tyIs, h1, h2, hc]
theorem run_joined (P : Sg) (hk : P.tk = true) (t s o : List Nat) (ho : o.length ≤ 1) (τ : TS) (h : t.length ≤ 4000) : runF P 6 false ir_joined [.str t, .str s, .str o] τ = some (.str (joL s o false t), τ) := by
  refine runF_rt ?_
  show evB P ir_joined [.d (.str t), .d (.str s), .d (.str o), .un, .un, .un] τ = _
  unfold ir_joined
  obtain ⟨b', g', e⟩ := jo_loop P t s o ho τ t [] false .un (by simpa using h)
  rw [evB_nx (ρ1 := [.d (.str t), .d (.str s), .d (.str o), .d (.str []), .d (.bl false), .un]) (τ1 := τ) (by simp [evB, evS, ev, evs, evt, evp, evi, binD, cmpD, bD, mD, neD, eqD, truD, ixD, inD, inB, slD, lenD, intD, maxD, minD, addD, subD, negD, joinD, joinS, txsO, lowerD, upperD, startsD, endsD, stripD, with1, ordD, mulD, modD, fdivD, powD, intO, Out.then, bindT, setAll, itemsD, rangeD, runF, start', mkSg, mkSgG, opD, small62, wipeE, compL, forL, List.replicate, tyIs, okT, isMap, hk, sl1])]
  rw [evB_nx (ρ1 := [.d (.str t), .d (.str s), .d (.str o), .d (.str ([] ++ joL s o false t)), .d (.bl b'), g']) (τ1 := τ) (by rw [evS]; simp only [evi, ev, List.getElem?_cons_zero, Option.bind_some, itemsD, Option.map_some]; exact e)]
  simp [evB, evS, ev, evs, evt, evp, evi, binD, cmpD, bD, mD, neD, eqD, truD, ixD, inD, inB, slD, lenD, intD, maxD, minD, addD, subD, negD, joinD, joinS, txsO, lowerD, upperD, startsD, endsD, stripD, with1, ordD, mulD, modD, fdivD, powD, intO, Out.then, bindT, setAll, itemsD, rangeD, runF, start', mkSg, mkSgG, opD, small62, wipeE, compL, forL, List.replicate, tyIs]
/-! ### unfronted, unbacked -/
def frS (w : List Nat) : Nat → List Nat → List Nat
  | 0, t => t
  | n + 1, t => if t.take w.length = w then frS w n (t.drop w.length) else t
def frF (w : List Nat) (b : Bool) (t : List Nat) : List Nat := if b then frS w t.length t else if t.take w.length = w then t.drop w.length else t
theorem frS_more (w : List Nat) (hw : w ≠ []) : ∀ (n m : Nat) (t : List Nat), t.length ≤ n → t.length ≤ m → frS w n t = frS w m t := by
  intro n
  have hl : 0 < w.length := List.length_pos_iff.mpr hw
  induction n with
  | zero =>
    intro m t h1 h2
    obtain rfl := List.length_eq_zero_iff.mp (Nat.le_zero.mp h1)
    cases m with
    | zero => rfl
    | succ m => rw [frS, frS, if_neg (by simp; exact fun z => hw z)]
  | succ n ih =>
    intro m t h1 h2
    cases m with
    | zero =>
      obtain rfl := List.length_eq_zero_iff.mp (Nat.le_zero.mp h2)
      rw [frS, frS, if_neg (by simp; exact fun z => hw z)]
    | succ m =>
      rw [frS, frS]
      split
      · rename_i h
        have : t.length ≠ 0 := fun z => by
          obtain rfl := List.length_eq_zero_iff.mp z
          simp at h; exact hw h
        exact ih m _ (by rw [List.length_drop]; omega) (by rw [List.length_drop]; omega)
      · rfl
theorem frF_step (w : List Nat) (hw : w ≠ []) (t : List Nat) (h : t.take w.length = w) : frF w true t = frF w true (t.drop w.length) := by
  unfold frF
  rw [if_pos rfl, if_pos rfl]
  have hl : 0 < w.length := List.length_pos_iff.mpr hw
  have : t.length ≠ 0 := fun z => by
    obtain rfl := List.length_eq_zero_iff.mp z
    simp at h; exact hw h
  obtain ⟨n, hn⟩ := Nat.exists_eq_succ_of_ne_zero this
  rw [hn, frS, if_pos h]
  exact frS_more w hw _ _ _ (by rw [List.length_drop]; omega) (Nat.le_refl _)
theorem frF_stop (w : List Nat) (b : Bool) (t : List Nat) (h : ¬ t.take w.length = w) : frF w b t = t := by
  unfold frF
  cases b with
  | false => rw [if_neg Bool.false_ne_true, if_neg h]
  | true =>
    rw [if_pos rfl]
    cases hn : t.length with
    | zero => rfl
    | succ n => rw [frS, if_neg h]
def GUnfr (n : Nat) : GF := fun _ ds τ => match ds with
  | [.str t, .str w, .bl b] => if w ≠ [] ∧ t.length < n ∧ t.length ≤ 4000 ∧ w.length ≤ 4000 then some (.str (frF w b t), τ) else none
  | _ => none
theorem run_unfronted (n : Nat) (ns : List Int) (tk : Bool) (ds : List D) (τ : TS) (r : D × TS) (h : GUnfr (n + 1) ns ds τ = some r) :
    ds.length = 3 ∧ runF (mkSg tk [⟨"unfronted", false, 3, GUnfr n⟩] [] ns) 3 false ir_unfronted ds τ = some r := by
  unfold GUnfr at h
  split at h
  · rename_i t w b
    split at h
    · rename_i hd
      obtain ⟨hw, h1, h2, h3⟩ := hd
      have hl : 0 < w.length := List.length_pos_iff.mpr hw
      have e1 := sl1 h2
      have e2 := sl1 h3
      cases h
      refine ⟨rfl, runF_rt ?_⟩
      show evB _ ir_unfronted [.d (.str t), .d (.str w), .d (.bl b)] τ = _
      unfold ir_unfronted
      by_cases hp : t.take w.length = w
      · have ht : t.length ≠ 0 := fun z => by
          obtain rfl := List.length_eq_zero_iff.mp z
          simp at hp; exact hw hp
        rw [evB_nx (ρ1 := [.d (.str t), .d (.str w), .d (.bl b)]) (τ1 := τ) (by simp [evB, evS, ev, evs, evt, evp, evi, binD, cmpD, bD, mD, neD, eqD, truD, ixD, inD, inB, slD, lenD, intD, maxD, minD, addD, subD, negD, joinD, joinS, txsO, lowerD, upperD, startsD, endsD, stripD, with1, ordD, mulD, modD, fdivD, powD, intO, Out.then, bindT, setAll, itemsD, rangeD, runF, start', mkSg, mkSgG, opD, small62, wipeE, compL, forL, List.replicate, tyIs, starts_l, hp])]
        cases b with
        | true =>
          rw [frF_step w hw t hp]
          have e3 : t.length - w.length < n := by omega
          have e4 : t.length - w.length ≤ 4000 := by omega
          simp [evB, evS, ev, evs, evt, evp, evi, binD, cmpD, bD, mD, neD, eqD, truD, ixD, inD, inB, slD, lenD, intD, maxD, minD, addD, subD, negD, joinD, joinS, txsO, lowerD, upperD, startsD, endsD, stripD, with1, ordD, mulD, modD, fdivD, powD, intO, Out.then, bindT, setAll, itemsD, rangeD, runF, start', mkSg, mkSgG, opD, small62, wipeE, compL, forL, List.replicate, tyIs, e1, e2, cut_from, GUnfr, hw, e3, e4, h3]
        | false => simp [evB, evS, ev, evs, evt, evp, evi, binD, cmpD, bD, mD, neD, eqD, truD, ixD, inD, inB, slD, lenD, intD, maxD, minD, addD, subD, negD, joinD, joinS, txsO, lowerD, upperD, startsD, endsD, stripD, with1, ordD, mulD, modD, fdivD, powD, intO, Out.then, bindT, setAll, itemsD, rangeD, runF, start', mkSg, mkSgG, opD, small62, wipeE, compL, forL, List.replicate, tyIs, e1, e2, cut_from, frF, hp]
      · rw [frF_stop w b t hp]
        rw [evB_rt (d := .str t) (τ1 := τ) (by simp [evB, evS, ev, evs, evt, evp, evi, binD, cmpD, bD, mD, neD, eqD, truD, ixD, inD, inB, slD, lenD, intD, maxD, minD, addD, subD, negD, joinD, joinS, txsO, lowerD, upperD, startsD, endsD, stripD, with1, ordD, mulD, modD, fdivD, powD, intO, Out.then, bindT, setAll, itemsD, rangeD, runF, start', mkSg, mkSgG, opD, small62, wipeE, compL, forL, List.replicate, tyIs, starts_l, hp])]
    · cases h
  · cases h
def bkS (w : List Nat) : Nat → List Nat → List Nat
  | 0, t => t
  | n + 1, t => if w.length ≤ t.length ∧ t.drop (t.length - w.length) = w then bkS w n (t.take (t.length - w.length)) else t
def bkF (w : List Nat) (b : Bool) (t : List Nat) : List Nat := if b then bkS w t.length t else if w.length ≤ t.length ∧ t.drop (t.length - w.length) = w then t.take (t.length - w.length) else t
theorem bkS_more (w : List Nat) (hw : w ≠ []) : ∀ (n m : Nat) (t : List Nat), t.length ≤ n → t.length ≤ m → bkS w n t = bkS w m t := by
  intro n
  have hl : 0 < w.length := List.length_pos_iff.mpr hw
  induction n with
  | zero =>
    intro m t h1 h2
    cases m with
    | zero => rfl
    | succ m => rw [bkS, bkS, if_neg (fun z => by omega)]
  | succ n ih =>
    intro m t h1 h2
    cases m with
    | zero => rw [bkS, bkS, if_neg (fun z => by omega)]
    | succ m =>
      rw [bkS, bkS]
      split
      · rename_i h
        exact ih m _ (by rw [List.length_take]; omega) (by rw [List.length_take]; omega)
      · rfl
theorem bkF_step (w : List Nat) (hw : w ≠ []) (t : List Nat) (h : w.length ≤ t.length ∧ t.drop (t.length - w.length) = w) : bkF w true t = bkF w true (t.take (t.length - w.length)) := by
  unfold bkF
  rw [if_pos rfl, if_pos rfl]
  have hl : 0 < w.length := List.length_pos_iff.mpr hw
  obtain ⟨n, hn⟩ := Nat.exists_eq_succ_of_ne_zero (show t.length ≠ 0 by omega)
  have e : bkS w t.length t = bkS w n (t.take (t.length - w.length)) := by
    conv => lhs; rw [hn]
    rw [bkS, if_pos h]
  rw [e]
  exact bkS_more w hw _ _ _ (by rw [List.length_take]; omega) (Nat.le_refl _)
theorem bkF_stop (w : List Nat) (b : Bool) (t : List Nat) (h : ¬ (w.length ≤ t.length ∧ t.drop (t.length - w.length) = w)) : bkF w b t = t := by
  unfold bkF
  cases b with
  | false => rw [if_neg Bool.false_ne_true, if_neg h]
  | true =>
    rw [if_pos rfl]
    cases hn : t.length with
    | zero => rfl
    | succ n => rw [bkS, if_neg h]
def GUnbk (n : Nat) : GF := fun _ ds τ => match ds with
  | [.str t, .str w, .bl b] => if w ≠ [] ∧ t.length < n ∧ t.length ≤ 4000 ∧ w.length ≤ 4000 then some (.str (bkF w b t), τ) else none
  | _ => none
theorem ends_iff (t w : List Nat) : Txt.endswith (tx t) (tx w) = decide (w.length ≤ t.length ∧ t.drop (t.length - w.length) = w) := by
  rw [ends_l]
  by_cases h1 : w.length ≤ t.length
  · by_cases h2 : t.drop (t.length - w.length) = w
    · rw [h2]; simp [h1]
    · simp [h1, h2]
  · simp [h1]
theorem cut_sub (t : List Nat) (m : Nat) (h : m ≤ t.length) : cutL t none (some ((t.length : Int) - (m : Int))) = t.take (t.length - m) := by
  have := cut_to t (t.length - m)
  rw [← this]
  congr 2
  omega
theorem run_unbacked (n : Nat) (ns : List Int) (tk : Bool) (ds : List D) (τ : TS) (r : D × TS) (h : GUnbk (n + 1) ns ds τ = some r) :
    ds.length = 3 ∧ runF (mkSg tk [⟨"unbacked", false, 3, GUnbk n⟩] [] ns) 4 false ir_unbacked ds τ = some r := by
  unfold GUnbk at h
  split at h
  · rename_i t w b
    split at h
    · rename_i hd
      obtain ⟨hw, h1, h2, h3⟩ := hd
      have hl : 0 < w.length := List.length_pos_iff.mpr hw
      have e1 := sl1 h2
      have e2 := sl1 h3
      cases h
      refine ⟨rfl, runF_rt ?_⟩
      show evB _ ir_unbacked [.d (.str t), .d (.str w), .d (.bl b), .un] τ = _
      unfold ir_unbacked
      by_cases hp : w.length ≤ t.length ∧ t.drop (t.length - w.length) = w
      · have hp1 := hp.1
        rw [evB_nx (ρ1 := [.d (.str t), .d (.str w), .d (.bl b), .un]) (τ1 := τ) (by simp only [evB, evS, ev, evs, evt, evp, evi, binD, cmpD, bD, mD, neD, eqD, truD, ixD, inD, inB, slD, lenD, intD, maxD, minD, addD, subD, negD, joinD, joinS, txsO, lowerD, upperD, startsD, endsD, stripD, with1, ordD, mulD, modD, fdivD, powD, intO, Out.then, bindT, setAll, itemsD, rangeD, runF, start', mkSg, mkSgG, opD, small62, wipeE, compL, forL, List.replicate, tyIs, ends_iff]; simp [hp])]
        rw [evB_nx (ρ1 := [.d (.str t), .d (.str w), .d (.bl b), .d (.str (t.take (t.length - w.length)))]) (τ1 := τ) (by simp [evB, evS, ev, evs, evt, evp, evi, binD, cmpD, bD, mD, neD, eqD, truD, ixD, inD, inB, slD, lenD, intD, maxD, minD, addD, subD, negD, joinD, joinS, txsO, lowerD, upperD, startsD, endsD, stripD, with1, ordD, mulD, modD, fdivD, powD, intO, Out.then, bindT, setAll, itemsD, rangeD, runF, start', mkSg, mkSgG, opD, small62, wipeE, compL, forL, List.replicate, tyIs, e1, e2, cut_sub t w.length hp1])]
        cases b with
        | true =>
          rw [bkF_step w hw t hp]
          have e3 : t.length - w.length < n := by omega
          simp [evB, evS, ev, evs, evt, evp, evi, binD, cmpD, bD, mD, neD, eqD, truD, ixD, inD, inB, slD, lenD, intD, maxD, minD, addD, subD, negD, joinD, joinS, txsO, lowerD, upperD, startsD, endsD, stripD, with1, ordD, mulD, modD, fdivD, powD, intO, Out.then, bindT, setAll, itemsD, rangeD, runF, start', mkSg, mkSgG, opD, small62, wipeE, compL, forL, List.replicate, tyIs, e1, e2, GUnbk, hw, h3]
          rw [if_pos ⟨e3, by omega⟩]; rfl
        | false => simp [evB, evS, ev, evs, evt, evp, evi, binD, cmpD, bD, mD, neD, eqD, truD, ixD, inD, inB, slD, lenD, intD, maxD, minD, addD, subD, negD, joinD, joinS, txsO, lowerD, upperD, startsD, endsD, stripD, with1, ordD, mulD, modD, fdivD, powD, intO, Out.then, bindT, setAll, itemsD, rangeD, runF, start', mkSg, mkSgG, opD, small62, wipeE, compL, forL, List.replicate, tyIs, e1, e2, bkF, hp]
      · rw [bkF_stop w b t hp]
        rw [evB_rt (d := .str t) (τ1 := τ) (by simp only [evB, evS, ev, evs, evt, evp, evi, binD, cmpD, bD, mD, neD, eqD, truD, ixD, inD, inB, slD, lenD, intD, maxD, minD, addD, subD, negD, joinD, joinS, txsO, lowerD, upperD, startsD, endsD, stripD, with1, ordD, mulD, modD, fdivD, powD, intO, Out.then, bindT, setAll, itemsD, rangeD, runF, start', mkSg, mkSgG, opD, small62, wipeE, compL, forL, List.replicate, tyIs, ends_iff]; simp [hp])]
    · cases h
  · cases h
end PD

set_option Elab.async false
set_option linter.all false
set_option maxRecDepth 100000
set_option maxHeartbeats 4000000
/-! Steps; what ended, done, cleaned do. -/
namespace PD
open PySem L2
inductive Stp where
  | small | map (x y : Nat) | drop (s : List Nat) | trim (s : List Nat) | squeeze (s : List Nat) | join (s : List Nat) (o : Nat)
  | front (w : List Nat) | fronts (w : List Nat) | back (w : List Nat) | backs (w : List Nat) | first (n : Nat) | last (n : Nat)
def Stp.d : Stp → D
  | .small => .tup [.str [115, 109, 97, 108, 108]]
  | .map x y => .tup [.str mapW, .str [x], .str [y]]
  | .drop s => .tup [.str [100, 114, 111, 112], .str s]
  | .trim s => .tup [.str [116, 114, 105, 109], .str s]
  | .squeeze s => .tup [.str [115, 113, 117, 101, 101, 122, 101], .str s]
  | .join s o => .tup [.str [106, 111, 105, 110], .str s, .str [o]]
  | .front w => .tup [.str [102, 114, 111, 110, 116], .str w]
  | .fronts w => .tup [.str [102, 114, 111, 110, 116, 115], .str w]
  | .back w => .tup [.str [98, 97, 99, 107], .str w]
  | .backs w => .tup [.str [98, 97, 99, 107, 115], .str w]
  | .first n => .tup [.str [102, 105, 114, 115, 116], .int n]
  | .last n => .tup [.str [108, 97, 115, 116], .int n]
def Stp.ok : Stp → Prop
  | .map x y => x ≠ y
  | .front w => w ≠ [] ∧ w.length ≤ 4000
  | .fronts w => w ≠ [] ∧ w.length ≤ 4000
  | .back w => w ≠ [] ∧ w.length ≤ 4000
  | .backs w => w ≠ [] ∧ w.length ≤ 4000
  | .first n => 1 ≤ n
  | .last n => 1 ≤ n
  | _ => True
def Stp.ap : Stp → List Nat → List Nat
  | .small, t => t.map PyProof.Rows.lo1
  | .map x y, t => t.map fun c => if c = x then y else c
  | .drop s, t => t.filter fun c => !decide (c ∈ s)
  | .trim s, t => trimL s t
  | .squeeze s, t => sqL s none t
  | .join s o, t => joL s [o] false t
  | .front w, t => frF w false t
  | .fronts w, t => frF w true t
  | .back w, t => bkF w false t
  | .backs w, t => bkF w true t
  | .first n, t => t.take n
  | .last n, t => t.drop (t.length - n)
def Stp.isEnd : Stp → Prop
  | .front _ => True
  | .fronts _ => True
  | .back _ => True
  | .backs _ => True
  | .first _ => True
  | .last _ => True
  | _ => False
theorem Stp.inj {s s' : Stp} (h : s.d = s'.d) : s = s' := by
  cases s <;> cases s' <;> simp [Stp.d, mapW] at h ⊢ <;> first | exact h | omega
/-! ### no text gets longer -/
theorem sqL_len (s : List Nat) : ∀ (p : Option Nat) (t : List Nat), (sqL s p t).length ≤ t.length
  | _, [] => Nat.le_refl _
  | p, c :: r => by
    rw [sqL]
    split
    · exact Nat.le_succ_of_le (sqL_len s _ r)
    · exact Nat.succ_le_succ (sqL_len s _ r)
theorem joL_len (s : List Nat) (o : Nat) : ∀ (b : Bool) (t : List Nat), (joL s [o] b t).length ≤ t.length
  | _, [] => Nat.le_refl _
  | b, c :: r => by
    rw [joL]
    split
    · split
      · exact Nat.le_succ_of_le (joL_len s o _ r)
      · exact Nat.succ_le_succ (joL_len s o _ r)
    · exact Nat.succ_le_succ (joL_len s o _ r)
theorem frS_len (w : List Nat) : ∀ (n : Nat) (t : List Nat), (frS w n t).length ≤ t.length
  | 0, _ => Nat.le_refl _
  | n + 1, t => by
    rw [frS]
    split
    · exact Nat.le_trans (frS_len w n _) (by rw [List.length_drop]; omega)
    · exact Nat.le_refl _
theorem bkS_len (w : List Nat) : ∀ (n : Nat) (t : List Nat), (bkS w n t).length ≤ t.length
  | 0, _ => Nat.le_refl _
  | n + 1, t => by
    rw [bkS]
    split
    · exact Nat.le_trans (bkS_len w n _) (by rw [List.length_take]; omega)
    · exact Nat.le_refl _
theorem frF_len (w : List Nat) (b : Bool) (t : List Nat) : (frF w b t).length ≤ t.length := by
  unfold frF
  split
  · exact frS_len _ _ _
  · split
    · rw [List.length_drop]; omega
    · exact Nat.le_refl _
theorem bkF_len (w : List Nat) (b : Bool) (t : List Nat) : (bkF w b t).length ≤ t.length := by
  unfold bkF
  split
  · exact bkS_len _ _ _
  · split
    · rw [List.length_take]; omega
    · exact Nat.le_refl _
theorem trimL_len (s t : List Nat) : (trimL s t).length ≤ t.length := by
  unfold trimL
  rw [List.length_reverse]
  exact Nat.le_trans (dw_len _ _) (by rw [List.length_reverse]; exact dw_len _ _)
theorem Stp.len (s : Stp) (t : List Nat) : (s.ap t).length ≤ t.length := by
  cases s <;> simp only [Stp.ap]
  · simp
  · simp
  · exact List.length_filter_le _ _
  · exact trimL_len _ _
  · exact sqL_len _ _ _
  · exact joL_len _ _ _ _
  · exact frF_len _ _ _
  · exact frF_len _ _ _
  · exact bkF_len _ _ _
  · exact bkF_len _ _ _
  · rw [List.length_take]; omega
  · rw [List.length_drop]; omega
/-! ### defs of a text and a step -/
open Classical in
noncomputable def GStp (n : Nat) (K : Stp → Prop) : GF := fun _ ds τ =>
  if h : ∃ p : List Nat × Stp, ds = [.str p.1, p.2.d] ∧ K p.2 ∧ p.2.ok ∧ p.1.length < n ∧ p.1.length ≤ 4000 then some (.str ((choose h).2.ap (choose h).1), τ) else none
theorem GStp_eq {n : Nat} {K : Stp → Prop} {ns : List Int} {t : List Nat} {s : Stp} {τ : TS} (hK : K s) (hs : s.ok) (h1 : t.length < n) (h2 : t.length ≤ 4000) : GStp n K ns [.str t, s.d] τ = some (.str (s.ap t), τ) := by
  have h : ∃ p : List Nat × Stp, [D.str t, s.d] = [.str p.1, p.2.d] ∧ K p.2 ∧ p.2.ok ∧ p.1.length < n ∧ p.1.length ≤ 4000 := ⟨(t, s), rfl, hK, hs, h1, h2⟩
  unfold GStp
  rw [dif_pos h]
  have e := (Classical.choose_spec h).1
  injection e with e1 e
  injection e1 with e1
  injection e with e2 _
  rw [← e1, ← Stp.inj e2]
theorem GStp_out {n : Nat} {K : Stp → Prop} {ns : List Int} {ds : List D} {τ : TS} {r : D × TS} (h : GStp n K ns ds τ = some r) : ∃ t s, ds = [.str t, Stp.d s] ∧ K s ∧ s.ok ∧ t.length < n ∧ t.length ≤ 4000 ∧ r = (.str (s.ap t), τ) := by
  unfold GStp at h
  split at h
  · rename_i hx
    obtain ⟨a, b, c, d, e⟩ := Classical.choose_spec hx
    cases h
    exact ⟨_, _, a, b, c, d, e, rfl⟩
  · cases h
theorem cut_max (t : List Nat) (n : Nat) : cutL t (some (if (t.length : Int) - (n : Int) > 0 then (t.length : Int) - (n : Int) else 0)) none = t.drop (t.length - n) := by
  have := cut_from t (t.length - n)
  rw [← this]
  congr 2
  split <;> omega
theorem run_ended (n : Nat) (ns : List Int) (tk : Bool) (ds : List D) (τ : TS) (r : D × TS) (h : GStp n Stp.isEnd ns ds τ = some r) :
    ds.length = 2 ∧ runF (mkSg tk [⟨"unfronted", false, 3, GUnfr n⟩, ⟨"unbacked", false, 3, GUnbk n⟩] [] ns) 4 false ir_ended ds τ = some r := by
  obtain ⟨t, s, rfl, hk, hs, h1, h2, rfl⟩ := GStp_out h
  have e1 := sl1 h2
  refine ⟨rfl, runF_rt ?_⟩
  show evB _ ir_ended [.d (.str t), .d s.d, .un, .un] τ = _
  unfold ir_ended
  cases s <;> simp only [Stp.isEnd] at hk <;> simp only [Stp.ok] at hs <;> simp only [Stp.d, Stp.ap]
  · rename_i w
    obtain ⟨w1, w2⟩ := hs
    simp [evB, evS, ev, evs, evt, evp, evi, binD, cmpD, bD, mD, neD, eqD, truD, ixD, inD, inB, slD, lenD, intD, maxD, minD, addD, subD, negD, joinD, joinS, txsO, lowerD, upperD, startsD, endsD, stripD, with1, ordD, mulD, modD, fdivD, powD, intO, Out.then, bindT, setAll, itemsD, rangeD, runF, start', mkSg, mkSgG, opD, small62, wipeE, compL, forL, List.replicate, tyIs, okT, isMap, GUnfr, e1, h1, h2, w1, w2, sl1]
  · rename_i w
    obtain ⟨w1, w2⟩ := hs
    simp [evB, evS, ev, evs, evt, evp, evi, binD, cmpD, bD, mD, neD, eqD, truD, ixD, inD, inB, slD, lenD, intD, maxD, minD, addD, subD, negD, joinD, joinS, txsO, lowerD, upperD, startsD, endsD, stripD, with1, ordD, mulD, modD, fdivD, powD, intO, Out.then, bindT, setAll, itemsD, rangeD, runF, start', mkSg, mkSgG, opD, small62, wipeE, compL, forL, List.replicate, tyIs, okT, isMap, GUnfr, e1, h1, h2, w1, w2, sl1]
  · rename_i w
    obtain ⟨w1, w2⟩ := hs
    simp [evB, evS, ev, evs, evt, evp, evi, binD, cmpD, bD, mD, neD, eqD, truD, ixD, inD, inB, slD, lenD, intD, maxD, minD, addD, subD, negD, joinD, joinS, txsO, lowerD, upperD, startsD, endsD, stripD, with1, ordD, mulD, modD, fdivD, powD, intO, Out.then, bindT, setAll, itemsD, rangeD, runF, start', mkSg, mkSgG, opD, small62, wipeE, compL, forL, List.replicate, tyIs, okT, isMap, GUnbk, e1, h1, h2, w1, w2, sl1]
  · rename_i w
    obtain ⟨w1, w2⟩ := hs
    simp [evB, evS, ev, evs, evt, evp, evi, binD, cmpD, bD, mD, neD, eqD, truD, ixD, inD, inB, slD, lenD, intD, maxD, minD, addD, subD, negD, joinD, joinS, txsO, lowerD, upperD, startsD, endsD, stripD, with1, ordD, mulD, modD, fdivD, powD, intO, Out.then, bindT, setAll, itemsD, rangeD, runF, start', mkSg, mkSgG, opD, small62, wipeE, compL, forL, List.replicate, tyIs, okT, isMap, GUnbk, e1, h1, h2, w1, w2, sl1]
  · rename_i m
    simp [evB, evS, ev, evs, evt, evp, evi, binD, cmpD, bD, mD, neD, eqD, truD, ixD, inD, inB, slD, lenD, intD, maxD, minD, addD, subD, negD, joinD, joinS, txsO, lowerD, upperD, startsD, endsD, stripD, with1, ordD, mulD, modD, fdivD, powD, intO, Out.then, bindT, setAll, itemsD, rangeD, runF, start', mkSg, mkSgG, opD, small62, wipeE, compL, forL, List.replicate, tyIs, e1, cut_to]
  · rename_i m
    have e2 : ∀ i : Int, i = (if (t.length : Int) - (m : Int) > 0 then (t.length : Int) - (m : Int) else 0) → cutL t (some i) none = t.drop (t.length - m) := fun i hi => by rw [hi]; exact cut_max t m
    simp [evB, evS, ev, evs, evt, evp, evi, binD, cmpD, bD, mD, neD, eqD, truD, ixD, inD, inB, slD, lenD, intD, maxD, minD, addD, subD, negD, joinD, joinS, txsO, lowerD, upperD, startsD, endsD, stripD, with1, ordD, mulD, modD, fdivD, powD, intO, Out.then, bindT, setAll, itemsD, rangeD, runF, start', mkSg, mkSgG, opD, small62, wipeE, compL, forL, List.replicate, tyIs, e1]
    refine e2 _ ?_
    split <;> split <;> omega
end PD

set_option Elab.async false
set_option linter.all false
set_option maxRecDepth 100000
set_option maxHeartbeats 4000000
/-! What done, cleaned do. -/
namespace PD
open PySem L2
theorem compL_chars {f : D → TS → Option (Option D × TS)} {h : Nat → List Nat} {τ : TS} : ∀ {t : List Nat}, (∀ c ∈ t, f (.str [c]) τ = some (some (.str (h c)), τ)) → compL f (t.map fun c => .str [c]) τ = some ((t.map h).map .str, τ)
  | [], _ => rfl
  | c :: r, hf => by
    rw [List.map_cons, compL, hf c List.mem_cons_self]
    simp only [Option.bind_some]
    rw [compL_chars (t := r) fun x hx => hf x (List.mem_cons_of_mem _ hx)]
    rfl
theorem compL_filt {f : D → TS → Option (Option D × TS)} {p : Nat → Bool} {τ : TS} : ∀ {t : List Nat}, (∀ c ∈ t, f (.str [c]) τ = some (if p c then some (.str [c]) else none, τ)) → compL f (t.map fun c => .str [c]) τ = some (((t.filter p).map fun c => [c]).map .str, τ)
  | [], _ => rfl
  | c :: r, hf => by
    rw [List.map_cons, compL, hf c List.mem_cons_self]
    simp only [Option.bind_some]
    rw [compL_filt (t := r) fun x hx => hf x (List.mem_cons_of_mem _ hx)]
    cases hp : p c with
    | true => rw [List.filter_cons_of_pos hp]; rfl
    | false => rw [List.filter_cons_of_neg (by rw [hp]; exact Bool.false_ne_true)]; rfl
theorem sum_ones {α : Type} (h : α → Nat) : ∀ t : List α, ((t.map fun c => [h c]).map List.length).sum = t.length
  | [] => rfl
  | c :: r => by
    rw [List.map_cons, List.map_cons, List.sum_cons, sum_ones h r, List.length_cons]
    simp; omega
theorem flat_ones {α : Type} (h : α → Nat) : ∀ t : List α, (t.map fun c => [h c]).flatten = t.map h
  | [] => rfl
  | c :: r => by simp [flat_ones h r]
/-- a text made of signs -/
theorem join_ones {α : Type} (h : α → Nat) (t : List α) (hl : t.length ≤ 4000) : joinD (.str []) [.lst ((t.map fun c => [h c]).map .str)] = some (.str (t.map h)) := by
  show (txsO _).bind (joinS []) = _
  rw [strs_map]
  show joinS [] _ = _
  unfold joinS
  rw [sum_ones, join_nil, flat_ones, if_pos]
  simp; omega
theorem lo_caps (c : Nat) : PyProof.Rows.lo1 c = if c ∈ [65, 66, 67, 68, 69, 70, 71, 72, 73, 74, 75, 76, 77, 78, 79, 80, 81, 82, 83, 84, 85, 86, 87, 88, 89, 90] then c + 32 else c := by
  unfold PyProof.Rows.lo1
  by_cases h : 65 ≤ c ∧ c ≤ 90
  · rw [if_pos h, if_pos]
    simp
    omega
  · rw [if_neg h, if_neg]
    simp
    omega
def capsL : List Nat := [65, 66, 67, 68, 69, 70, 71, 72, 73, 74, 75, 76, 77, 78, 79, 80, 81, 82, 83, 84, 85, 86, 87, 88, 89, 90]
theorem lo1_in {c : Nat} (h : c ∈ capsL) : loS [c] = [PyProof.Rows.lo1 c] := by
  refine lower_l fun x hx => ?_
  have e : x = c := by simpa using hx
  subst e
  simp [capsL] at h
  omega
theorem lo1_out {c : Nat} (h : ¬ c ∈ capsL) : PyProof.Rows.lo1 c = c := by
  rw [lo_caps]; exact if_neg h
theorem repl_one {x y : Nat} : ∀ t : List Nat, PySem.StrLaws.replL [x] [y] t = t.map fun c => if c = x then y else c
  | [] => PySem.StrLaws.replL_nil
  | c :: r => by
    by_cases h : c = x
    · subst h
      rw [PySem.StrLaws.replL_hit (by simp) (by simp)]
      simp [repl_one r]
    · rw [PySem.StrLaws.replL_miss (by simp [h])]
      simp [repl_one r, h]
def ir_law_draw : Ss := (.cons (.set 2 (.int 2305843009213693951)) (.cons (.ife (.cmp .Lt (.tget 0 2) (.var 1)) (.cons (.set 3 (.int 0)) (.cons (.ife (.cmp .Gt (.tlen 0) (.int 0)) (.cons (.set 3 (.tcell 0 (.bin .Mod (.blt .int (.cons (.tget 0 1) .nil)) (.tlen 0)))) .nil) .nil) (.cons (.ife (.or (.cmp .GtE (.tget 0 1) (.tlen 0)) (.one (.cmp .Lt (.var 3) (.bin .Pow (.int 10) (.int 18))))) (.cons (.set 3 (.bin .Mod (.blt .int (.cons (.bin .Add (.var 3) (.bin .Mult (.int 1000003) (.tget 0 1))) .nil)) (.var 2))) (.cons (.set 3 (.bin .Mod (.blt .int (.cons (.bin .Add (.bin .Add (.bin .Mult (.var 3) (.var 3)) (.bin .Mult (.int 1181783497276652981) (.var 3))) (.int 2049848353892358983)) .nil)) (.var 2))) (.cons (.set 3 (.bin .Mod (.blt .int (.cons (.bin .Add (.bin .Mult (.var 3) (.var 3)) (.int 1442695040888963407)) .nil)) (.var 2))) .nil))) .nil) (.cons (.tset 0 1 (.bin .Add (.tget 0 1) (.int 1))) (.cons (.tset 0 2 (.var 3)) .nil))))) .nil) (.cons (.set 4 (.bin .Mod (.blt .int (.cons (.tget 0 2) .nil)) (.var 1))) (.cons (.tset 0 2 (.bin .FloorDiv (.tget 0 2) (.var 1))) (.cons (.ret (.var 4)) .nil)))))
def ir_law_like : Ss := (.cons (.ife (.val (.isiT (.var 0) [.list, .tuple])) (.cons (.ife (.or (.cmp .NotEq (.isi (.var 0) .list) (.isi (.var 1) .list)) (.one (.cmp .NotEq (.isi (.var 0) .tuple) (.isi (.var 1) .tuple)))) (.cons (.ret (.bl false)) .nil) .nil) (.cons (.ife (.cmp .NotEq (.blt .len (.cons (.var 0) .nil)) (.blt .len (.cons (.var 1) .nil))) (.cons (.ret (.bl false)) .nil) .nil) (.cons (.ret (.cmp .Eq (.comp (.var 2) (.nm 2) (.rng1 (.blt .len (.cons (.var 0) .nil))) (.not (.val (.call 0 (.cons (.idx (.var 0) (.var 2)) (.cons (.idx (.var 1) (.var 2)) .nil))))) [2]) (.lst .nil))) .nil))) .nil) (.cons (.ife (.val (.isiT (.var 1) [.list, .tuple])) (.cons (.ret (.bl false)) .nil) .nil) (.cons (.ret (.and (.cmp .Eq (.isi (.var 0) .bool) (.isi (.var 1) .bool)) (.one (.cmp .Eq (.var 0) (.var 1))))) .nil)))
def ir_law_sign : Ss := (.cons (.ret (.idx (.str [97, 97, 98, 98, 65, 32, 45, 95, 46, 66, 99]) (.callT 0 0 (.cons (.int 11) .nil)))) .nil)
def ir_law_word : Ss := (.cons (.set 1 (.callT 0 0 .nil)) (.cons (.ret (.ife (.cmp .Eq (.callT 1 0 (.cons (.int 2) .nil)) (.int 0)) (.var 1) (.bin .Add (.var 1) (.callT 0 0 .nil)))) .nil))
def ir_law_set : Ss := (.cons (.setO 1 (.lst (.cons (.callT 0 0 .nil) .nil))) (.cons (.fr (.nm 2) (.rng1 (.callT 1 0 (.cons (.int 3) .nil))) (.cons (.app 1 (.callT 0 0 .nil)) .nil)) (.frz 1 (.cons (.ret (.mth .join (.str []) (.cons (.srt (.var 1)) .nil))) .nil))))
def ir_law_text : Ss := (.cons (.set 2 (.str [])) (.cons (.fr (.nm 3) (.rng1 (.callT 0 0 (.cons (.bin .Add (.var 1) (.int 1)) .nil))) (.cons (.set 2 (.bin .Add (.var 2) (.bin .Mult (.idx (.str [97, 97, 98, 98, 65, 32, 45, 95, 46, 66, 99, 120, 88]) (.callT 0 0 (.cons (.int 13) .nil))) (.bin .Add (.int 1) (.callT 0 0 (.cons (.int 2) .nil)))))) .nil)) (.cons (.ret (.sl (.var 2) .nope (.var 1))) .nil)))
def ir_law_done : Ss := (.cons (.set 2 (.idx (.var 1) (.int 0))) (.cons (.ife (.cmp .Eq (.var 2) (.str [100, 114, 111, 112])) (.cons (.ret (.mth .join (.str []) (.cons (.comp (.var 5) (.nm 5) (.data (.var 0)) (.cmp .NotIn (.var 5) (.idx (.var 1) (.int 1))) [5]) .nil))) .nil) .nil) (.cons (.ife (.cmp .Eq (.var 2) (.str [109, 97, 112])) (.cons (.ret (.mth .join (.str []) (.cons (.comp (.ife (.cmp .Eq (.var 5) (.idx (.var 1) (.int 1))) (.idx (.var 1) (.int 2)) (.var 5)) (.nm 5) (.data (.var 0)) .yes [5]) .nil))) .nil) .nil) (.cons (.ife (.cmp .Eq (.var 2) (.str [115, 109, 97, 108, 108])) (.cons (.ret (.mth .lower (.var 0) .nil)) .nil) .nil) (.cons (.ife (.cmp .Eq (.var 2) (.str [102, 105, 114, 115, 116])) (.cons (.ret (.sl (.var 0) .nope (.idx (.var 1) (.int 1)))) .nil) .nil) (.cons (.ife (.cmp .Eq (.var 2) (.str [108, 97, 115, 116])) (.cons (.ret (.sl (.var 0) (.neg (.idx (.var 1) (.int 1))) .nope)) .nil) .nil) (.cons (.ife (.cmp .Eq (.var 2) (.str [116, 114, 105, 109])) (.cons (.ret (.mth .strip (.var 0) (.cons (.idx (.var 1) (.int 1)) .nil))) .nil) .nil) (.cons (.ife (.cmp .In (.var 2) (.tup (.cons (.str [115, 113, 117, 101, 101, 122, 101]) (.cons (.str [106, 111, 105, 110]) .nil)))) (.cons (.set 3 (.str [])) (.cons (.fr (.cons (.nm 4) (.cons (.nm 5) .nil)) (.enum (.var 0)) (.cons (.ife (.cmp .NotIn (.var 5) (.idx (.var 1) (.int 1))) (.cons (.set 3 (.bin .Add (.var 3) (.var 5))) .nil) (.cons (.ife (.and (.cmp .Eq (.var 2) (.str [115, 113, 117, 101, 101, 122, 101])) (.one (.or (.cmp .Eq (.var 4) (.int 0)) (.one (.cmp .NotEq (.idx (.var 0) (.bin .Sub (.var 4) (.int 1))) (.var 5)))))) (.cons (.set 3 (.bin .Add (.var 3) (.var 5))) .nil) (.cons (.ife (.and (.cmp .Eq (.var 2) (.str [106, 111, 105, 110])) (.one (.or (.cmp .Eq (.var 4) (.int 0)) (.one (.cmp .NotIn (.idx (.var 0) (.bin .Sub (.var 4) (.int 1))) (.idx (.var 1) (.int 1))))))) (.cons (.set 3 (.bin .Add (.var 3) (.idx (.var 1) (.int 2)))) .nil) .nil) .nil)) .nil)) .nil)) (.cons (.ret (.var 3)) .nil))) .nil) (.cons (.set 6 (.bl true)) (.cons (.whl (.val (.var 6)) (.cons (.ife (.cmp .In (.var 2) (.tup (.cons (.str [102, 114, 111, 110, 116]) (.cons (.str [102, 114, 111, 110, 116, 115]) .nil)))) (.cons (.set 6 (.cmp .Eq (.sl (.var 0) .nope (.blt .len (.cons (.idx (.var 1) (.int 1)) .nil))) (.idx (.var 1) (.int 1)))) (.cons (.set 0 (.ife (.val (.var 6)) (.sl (.var 0) (.blt .len (.cons (.idx (.var 1) (.int 1)) .nil)) .nope) (.var 0))) .nil)) (.cons (.set 6 (.and (.cmp .GtE (.blt .len (.cons (.var 0) .nil)) (.blt .len (.cons (.idx (.var 1) (.int 1)) .nil))) (.one (.cmp .Eq (.sl (.var 0) (.bin .Sub (.blt .len (.cons (.var 0) .nil)) (.blt .len (.cons (.idx (.var 1) (.int 1)) .nil))) .nope) (.idx (.var 1) (.int 1)))))) (.cons (.set 0 (.ife (.val (.var 6)) (.sl (.var 0) .nope (.bin .Sub (.blt .len (.cons (.var 0) .nil)) (.blt .len (.cons (.idx (.var 1) (.int 1)) .nil)))) (.var 0))) .nil))) (.cons (.set 6 (.and (.var 6) (.one (.cmp .In (.var 2) (.tup (.cons (.str [102, 114, 111, 110, 116, 115]) (.cons (.str [98, 97, 99, 107, 115]) .nil))))))) .nil))) (.cons (.ret (.var 0)) .nil)))))))))))
def GTrim : GF := fun _ ds τ => match ds with
  | [.str t, .str s] => if t.length ≤ 4000 then some (.str (trimL s t), τ) else none
  | _ => none
def GSq : GF := fun _ ds τ => match ds with
  | [.str t, .str s] => if t.length ≤ 4000 then some (.str (sqL s none t), τ) else none
  | _ => none
def GJo : GF := fun _ ds τ => match ds with
  | [.str t, .str s, .str [o]] => if t.length ≤ 4000 then some (.str (joL s [o] false t), τ) else none
  | _ => none
noncomputable def calDone (n : Nat) : List Cal := [⟨"trimmed", false, 2, GTrim⟩, ⟨"squeezed", false, 2, GSq⟩, ⟨"joined", false, 3, GJo⟩, ⟨"ended", false, 2, GStp n Stp.isEnd⟩]
def cstDone : List (Str × D) := [("CAPITALS", .str capsL)]
theorem run_done (n : Nat) (ns : List Int) (ds : List D) (τ : TS) (r : D × TS) (h : GStp n (fun _ => True) ns ds τ = some r) :
    ds.length = 2 ∧ runF (mkSg true (calDone n) cstDone ns) 4 false ir_done ds τ = some r := by
  obtain ⟨t, s, rfl, hk, hs, h1, h2, rfl⟩ := GStp_out h
  have e1 := sl1 h2
  refine ⟨rfl, runF_rt ?_⟩
  show evB _ ir_done [.d (.str t), .d s.d, .un, .un] τ = _
  unfold ir_done
  generalize hP : mkSg true (calDone n) cstDone ns = P
  have g0 : ∀ ds, P.G 0 ds = GTrim ns ds := fun ds => by rw [← hP]; rfl
  have g1 : ∀ ds, P.G 1 ds = GSq ns ds := fun ds => by rw [← hP]; rfl
  have g2 : ∀ ds, P.G 2 ds = GJo ns ds := fun ds => by rw [← hP]; rfl
  have g3 : ∀ ds, P.G 3 ds = GStp n Stp.isEnd ns ds := fun ds => by rw [← hP]; rfl
  have gk : P.tk = true := by rw [← hP]; rfl
  have gc : P.cs[0]? = some (.str capsL) := by rw [← hP]; rfl
  rw [evB_nx (ρ1 := [.d (.str t), .d s.d, .d (match s.d with | .tup (k :: _) => k | d => d), .un]) (τ1 := τ) (by cases s <;> simp [evB, evS, ev, evs, evt, evp, evi, binD, cmpD, bD, mD, neD, eqD, truD, ixD, inD, inB, slD, lenD, intD, maxD, minD, addD, subD, negD, joinD, joinS, txsO, lowerD, upperD, startsD, endsD, stripD, with1, ordD, mulD, modD, fdivD, powD, intO, Out.then, bindT, setAll, itemsD, rangeD, runF, start', mkSg, mkSgG, opD, small62, wipeE, compL, forL, List.replicate, tyIs, Stp.d])]
  cases s
  · have hcomp : compL (cbody P (.ife (.cmp .In (.var 3) (.cst 0)) (.mth .lower (.var 3) .nil) (.var 3)) (.nm 3) .yes [3] [.d (.str t), .d Stp.small.d, .d (.str [115, 109, 97, 108, 108]), .un]) (t.map fun c => .str [c]) τ = some ((t.map fun c => [PyProof.Rows.lo1 c]).map .str, τ) := by
      refine compL_chars fun c hc => ?_
      by_cases hm : c ∈ capsL
      · simp [cbody, evB, evS, ev, evs, evt, evp, evi, binD, cmpD, bD, mD, neD, eqD, truD, ixD, inD, inB, slD, lenD, intD, maxD, minD, addD, subD, negD, joinD, joinS, txsO, lowerD, upperD, startsD, endsD, stripD, with1, ordD, mulD, modD, fdivD, powD, intO, Out.then, bindT, setAll, itemsD, rangeD, runF, start', mkSg, mkSgG, opD, small62, wipeE, compL, forL, List.replicate, tyIs, gc, hm, lo1_in hm]
      · simp [cbody, evB, evS, ev, evs, evt, evp, evi, binD, cmpD, bD, mD, neD, eqD, truD, ixD, inD, inB, slD, lenD, intD, maxD, minD, addD, subD, negD, joinD, joinS, txsO, lowerD, upperD, startsD, endsD, stripD, with1, ordD, mulD, modD, fdivD, powD, intO, Out.then, bindT, setAll, itemsD, rangeD, runF, start', mkSg, mkSgG, opD, small62, wipeE, compL, forL, List.replicate, tyIs, gc, hm, lo1_out hm]
    exact evB_rt (evS_t (τ1 := τ) (by simp [evB, evS, ev, evs, evt, evp, evi, binD, cmpD, bD, mD, neD, eqD, truD, ixD, inD, inB, slD, lenD, intD, maxD, minD, addD, subD, negD, joinD, joinS, txsO, lowerD, upperD, startsD, endsD, stripD, with1, ordD, mulD, modD, fdivD, powD, intO, Out.then, bindT, setAll, itemsD, rangeD, runF, start', mkSg, mkSgG, opD, small62, wipeE, compL, forL, List.replicate, tyIs, Stp.d]) (evB_rt (evS_ret (ev_join (ev_comp (τ1 := τ) (by simp [evB, evS, ev, evs, evt, evp, evi, binD, cmpD, bD, mD, neD, eqD, truD, ixD, inD, inB, slD, lenD, intD, maxD, minD, addD, subD, negD, joinD, joinS, txsO, lowerD, upperD, startsD, endsD, stripD, with1, ordD, mulD, modD, fdivD, powD, intO, Out.then, bindT, setAll, itemsD, rangeD, runF, start', mkSg, mkSgG, opD, small62, wipeE, compL, forL, List.replicate, tyIs]) hcomp (by rw [List.length_map, List.length_map]; exact e1)) (join_ones PyProof.Rows.lo1 t h2)))))
  · rename_i x y
    simp only [Stp.ok] at hs
    have hm : isMap [.str mapW, .str [x], .str [y]] = true := by simp [isMap, hs]
    refine (evB_nx (ρ1 := [.d (.str t), .d (Stp.map x y).d, .d (.str mapW), .un]) (τ1 := τ) (by simp [evB, evS, ev, evs, evt, evp, evi, binD, cmpD, bD, mD, neD, eqD, truD, ixD, inD, inB, slD, lenD, intD, maxD, minD, addD, subD, negD, joinD, joinS, txsO, lowerD, upperD, startsD, endsD, stripD, with1, ordD, mulD, modD, fdivD, powD, intO, Out.then, bindT, setAll, itemsD, rangeD, runF, start', mkSg, mkSgG, opD, small62, wipeE, compL, forL, List.replicate, tyIs, Stp.d, mapW])).trans (evB_rt (d := .str _) ?_)
    have hb : t.length + (t.length + 1) * 1 ≤ 16777216 := by omega
    have hb' : t.length + (t.length + 1) ≤ 16777216 := by omega
    simp [evB, evS, ev, evs, evt, evp, evi, binD, cmpD, bD, mD, neD, eqD, truD, ixD, inD, inB, slD, lenD, intD, maxD, minD, addD, subD, negD, joinD, joinS, txsO, lowerD, upperD, startsD, endsD, stripD, with1, ordD, mulD, modD, fdivD, powD, intO, Out.then, bindT, setAll, itemsD, rangeD, runF, start', mkSg, mkSgG, opD, small62, wipeE, compL, forL, List.replicate, tyIs, Stp.d, Stp.ap, gk, hm, repl_one, hb']
  · rename_i s
    refine (evB_nx (ρ1 := [.d (.str t), .d (Stp.drop s).d, .d (.str [100, 114, 111, 112]), .un]) (τ1 := τ) (by simp [evB, evS, ev, evs, evt, evp, evi, binD, cmpD, bD, mD, neD, eqD, truD, ixD, inD, inB, slD, lenD, intD, maxD, minD, addD, subD, negD, joinD, joinS, txsO, lowerD, upperD, startsD, endsD, stripD, with1, ordD, mulD, modD, fdivD, powD, intO, Out.then, bindT, setAll, itemsD, rangeD, runF, start', mkSg, mkSgG, opD, small62, wipeE, compL, forL, List.replicate, tyIs, Stp.d])).trans ((evB_nx (ρ1 := [.d (.str t), .d (Stp.drop s).d, .d (.str [100, 114, 111, 112]), .un]) (τ1 := τ) (by simp [evB, evS, ev, evs, evt, evp, evi, binD, cmpD, bD, mD, neD, eqD, truD, ixD, inD, inB, slD, lenD, intD, maxD, minD, addD, subD, negD, joinD, joinS, txsO, lowerD, upperD, startsD, endsD, stripD, with1, ordD, mulD, modD, fdivD, powD, intO, Out.then, bindT, setAll, itemsD, rangeD, runF, start', mkSg, mkSgG, opD, small62, wipeE, compL, forL, List.replicate, tyIs, Stp.d])).trans (evB_rt (d := .str _) ?_))
    have hcomp : compL (cbody P (.var 3) (.nm 3) (.cmp .NotIn (.var 3) (.idx (.var 1) (.int 1))) [3] [.d (.str t), .d (Stp.drop s).d, .d (.str [100, 114, 111, 112]), .un]) (t.map fun c => .str [c]) τ = some (((t.filter fun c => !decide (c ∈ s)).map fun c => [c]).map .str, τ) := by
      refine compL_filt fun c hc => ?_
      by_cases hm : c ∈ s <;> simp [cbody, evB, evS, ev, evs, evt, evp, evi, binD, cmpD, bD, mD, neD, eqD, truD, ixD, inD, inB, slD, lenD, intD, maxD, minD, addD, subD, negD, joinD, joinS, txsO, lowerD, upperD, startsD, endsD, stripD, with1, ordD, mulD, modD, fdivD, powD, intO, Out.then, bindT, setAll, itemsD, rangeD, runF, start', mkSg, mkSgG, opD, small62, wipeE, compL, forL, List.replicate, tyIs, Stp.d, hm]
    have hl : (t.filter fun c => !decide (c ∈ s)).length ≤ 4000 := Nat.le_trans (List.length_filter_le _ _) h2
    have hj := join_ones (fun c => c) (t.filter fun c => !decide (c ∈ s)) hl
    rw [List.map_id'] at hj
    exact evS_t (τ1 := τ) (by simp [evB, evS, ev, evs, evt, evp, evi, binD, cmpD, bD, mD, neD, eqD, truD, ixD, inD, inB, slD, lenD, intD, maxD, minD, addD, subD, negD, joinD, joinS, txsO, lowerD, upperD, startsD, endsD, stripD, with1, ordD, mulD, modD, fdivD, powD, intO, Out.then, bindT, setAll, itemsD, rangeD, runF, start', mkSg, mkSgG, opD, small62, wipeE, compL, forL, List.replicate, tyIs, Stp.d]) (evB_rt (evS_ret (ev_join (ev_comp (τ1 := τ) (by simp [evB, evS, ev, evs, evt, evp, evi, binD, cmpD, bD, mD, neD, eqD, truD, ixD, inD, inB, slD, lenD, intD, maxD, minD, addD, subD, negD, joinD, joinS, txsO, lowerD, upperD, startsD, endsD, stripD, with1, ordD, mulD, modD, fdivD, powD, intO, Out.then, bindT, setAll, itemsD, rangeD, runF, start', mkSg, mkSgG, opD, small62, wipeE, compL, forL, List.replicate, tyIs]) hcomp (by rw [List.length_map, List.length_map]; exact sl1 hl)) hj)))
  · rename_i s
    simp [evB, evS, ev, evs, evt, evp, evi, binD, cmpD, bD, mD, neD, eqD, truD, ixD, inD, inB, slD, lenD, intD, maxD, minD, addD, subD, negD, joinD, joinS, txsO, lowerD, upperD, startsD, endsD, stripD, with1, ordD, mulD, modD, fdivD, powD, intO, Out.then, bindT, setAll, itemsD, rangeD, runF, start', mkSg, mkSgG, opD, small62, wipeE, compL, forL, List.replicate, tyIs, Stp.d, Stp.ap, g0, GTrim, h2]
  · rename_i s
    simp [evB, evS, ev, evs, evt, evp, evi, binD, cmpD, bD, mD, neD, eqD, truD, ixD, inD, inB, slD, lenD, intD, maxD, minD, addD, subD, negD, joinD, joinS, txsO, lowerD, upperD, startsD, endsD, stripD, with1, ordD, mulD, modD, fdivD, powD, intO, Out.then, bindT, setAll, itemsD, rangeD, runF, start', mkSg, mkSgG, opD, small62, wipeE, compL, forL, List.replicate, tyIs, Stp.d, Stp.ap, g1, GSq, h2]
  · rename_i s o
    simp [evB, evS, ev, evs, evt, evp, evi, binD, cmpD, bD, mD, neD, eqD, truD, ixD, inD, inB, slD, lenD, intD, maxD, minD, addD, subD, negD, joinD, joinS, txsO, lowerD, upperD, startsD, endsD, stripD, with1, ordD, mulD, modD, fdivD, powD, intO, Out.then, bindT, setAll, itemsD, rangeD, runF, start', mkSg, mkSgG, opD, small62, wipeE, compL, forL, List.replicate, tyIs, Stp.d, Stp.ap, g2, GJo, h2]
  · rename_i w
    have e := GStp_eq (K := Stp.isEnd) (s := .front w) (ns := ns) (τ := τ) trivial hs h1 h2
    simp only [Stp.d, Stp.ap] at e ⊢
    simp [evB, evS, ev, evs, evt, evp, evi, binD, cmpD, bD, mD, neD, eqD, truD, ixD, inD, inB, slD, lenD, intD, maxD, minD, addD, subD, negD, joinD, joinS, txsO, lowerD, upperD, startsD, endsD, stripD, with1, ordD, mulD, modD, fdivD, powD, intO, Out.then, bindT, setAll, itemsD, rangeD, runF, start', mkSg, mkSgG, opD, small62, wipeE, compL, forL, List.replicate, tyIs, g3, e]
  · rename_i w
    have e := GStp_eq (K := Stp.isEnd) (s := .fronts w) (ns := ns) (τ := τ) trivial hs h1 h2
    simp only [Stp.d, Stp.ap] at e ⊢
    simp [evB, evS, ev, evs, evt, evp, evi, binD, cmpD, bD, mD, neD, eqD, truD, ixD, inD, inB, slD, lenD, intD, maxD, minD, addD, subD, negD, joinD, joinS, txsO, lowerD, upperD, startsD, endsD, stripD, with1, ordD, mulD, modD, fdivD, powD, intO, Out.then, bindT, setAll, itemsD, rangeD, runF, start', mkSg, mkSgG, opD, small62, wipeE, compL, forL, List.replicate, tyIs, g3, e]
  · rename_i w
    have e := GStp_eq (K := Stp.isEnd) (s := .back w) (ns := ns) (τ := τ) trivial hs h1 h2
    simp only [Stp.d, Stp.ap] at e ⊢
    simp [evB, evS, ev, evs, evt, evp, evi, binD, cmpD, bD, mD, neD, eqD, truD, ixD, inD, inB, slD, lenD, intD, maxD, minD, addD, subD, negD, joinD, joinS, txsO, lowerD, upperD, startsD, endsD, stripD, with1, ordD, mulD, modD, fdivD, powD, intO, Out.then, bindT, setAll, itemsD, rangeD, runF, start', mkSg, mkSgG, opD, small62, wipeE, compL, forL, List.replicate, tyIs, g3, e]
  · rename_i w
    have e := GStp_eq (K := Stp.isEnd) (s := .backs w) (ns := ns) (τ := τ) trivial hs h1 h2
    simp only [Stp.d, Stp.ap] at e ⊢
    simp [evB, evS, ev, evs, evt, evp, evi, binD, cmpD, bD, mD, neD, eqD, truD, ixD, inD, inB, slD, lenD, intD, maxD, minD, addD, subD, negD, joinD, joinS, txsO, lowerD, upperD, startsD, endsD, stripD, with1, ordD, mulD, modD, fdivD, powD, intO, Out.then, bindT, setAll, itemsD, rangeD, runF, start', mkSg, mkSgG, opD, small62, wipeE, compL, forL, List.replicate, tyIs, g3, e]
  · rename_i w
    have e := GStp_eq (K := Stp.isEnd) (s := .first w) (ns := ns) (τ := τ) trivial hs h1 h2
    simp only [Stp.d, Stp.ap] at e ⊢
    simp [evB, evS, ev, evs, evt, evp, evi, binD, cmpD, bD, mD, neD, eqD, truD, ixD, inD, inB, slD, lenD, intD, maxD, minD, addD, subD, negD, joinD, joinS, txsO, lowerD, upperD, startsD, endsD, stripD, with1, ordD, mulD, modD, fdivD, powD, intO, Out.then, bindT, setAll, itemsD, rangeD, runF, start', mkSg, mkSgG, opD, small62, wipeE, compL, forL, List.replicate, tyIs, g3, e]
  · rename_i w
    have e := GStp_eq (K := Stp.isEnd) (s := .last w) (ns := ns) (τ := τ) trivial hs h1 h2
    simp only [Stp.d, Stp.ap] at e ⊢
    simp [evB, evS, ev, evs, evt, evp, evi, binD, cmpD, bD, mD, neD, eqD, truD, ixD, inD, inB, slD, lenD, intD, maxD, minD, addD, subD, negD, joinD, joinS, txsO, lowerD, upperD, startsD, endsD, stripD, with1, ordD, mulD, modD, fdivD, powD, intO, Out.then, bindT, setAll, itemsD, rangeD, runF, start', mkSg, mkSgG, opD, small62, wipeE, compL, forL, List.replicate, tyIs, g3, e]
/-! ### cleaned -/
def apAll (ss : List Stp) (t : List Nat) : List Nat := ss.foldl (fun t s => s.ap t) t
theorem apAll_len : ∀ (ss : List Stp) (t : List Nat), (apAll ss t).length ≤ t.length
  | [], _ => Nat.le_refl _
  | s :: ss, t => Nat.le_trans (apAll_len ss (s.ap t)) (s.len t)
theorem dmap_inj : ∀ {a b : List Stp}, a.map Stp.d = b.map Stp.d → a = b
  | [], [], _ => rfl
  | [], _ :: _, h => by cases h
  | _ :: _, [], h => by cases h
  | x :: a, y :: b, h => by
    injection h with h1 h2
    rw [Stp.inj h1, dmap_inj h2]
open Classical in
noncomputable def GCl (n : Nat) : GF := fun _ ds τ =>
  if h : ∃ p : List Nat × List Stp, ds = [.str p.1, .tup (p.2.map Stp.d)] ∧ (∀ s ∈ p.2, s.ok) ∧ p.1.length < n ∧ p.1.length ≤ 4000 then some (.str (apAll (choose h).2 (choose h).1), τ) else none
theorem GCl_eq {n : Nat} {ns : List Int} {t : List Nat} {ss : List Stp} {τ : TS} (hs : ∀ s ∈ ss, s.ok) (h1 : t.length < n) (h2 : t.length ≤ 4000) : GCl n ns [.str t, .tup (ss.map Stp.d)] τ = some (.str (apAll ss t), τ) := by
  have h : ∃ p : List Nat × List Stp, [D.str t, .tup (ss.map Stp.d)] = [.str p.1, .tup (p.2.map Stp.d)] ∧ (∀ s ∈ p.2, s.ok) ∧ p.1.length < n ∧ p.1.length ≤ 4000 := ⟨(t, ss), rfl, hs, h1, h2⟩
  unfold GCl
  rw [dif_pos h]
  have e := (Classical.choose_spec h).1
  injection e with e1 e
  injection e1 with e1
  injection e with e2 _
  injection e2 with e2
  rw [← e1, ← dmap_inj e2]
theorem cl_loop (n : Nat) (P : Sg) (ns : List Int) (g0 : ∀ ds, P.G 0 ds = GStp n (fun _ => True) ns ds) (row : D) (τ : TS) : ∀ (ss : List Stp) (t : List Nat) (g : Slot), (∀ s ∈ ss, s.ok) → t.length < n → t.length ≤ 4000 →
    ∃ g', forL (fun x ρ1 τ1 => (bindT (.nm 2) x ρ1).bind fun ρ2 => evB P (.cons (.set 0 (.call 0 (.cons (.var 0) (.cons (.var 2) .nil)))) .nil) ρ2 τ1) (ss.map Stp.d) [.d (.str t), .d row, g] τ = some (.nx [.d (.str (apAll ss t)), .d row, g'] τ)
  | [], t, g, _, _, _ => ⟨g, rfl⟩
  | s :: ss, t, g, hs, h1, h2 => by
    have hl := s.len t
    obtain ⟨g', e⟩ := cl_loop n P ns g0 row τ ss (s.ap t) (.d s.d) (fun x hx => hs x (List.mem_cons_of_mem _ hx)) (by omega) (by omega)
    refine ⟨g', ?_⟩
    have es := GStp_eq (n := n) (K := fun _ => True) (ns := ns) (τ := τ) trivial (hs s List.mem_cons_self) h1 h2
    rw [List.map_cons, forL_step (ρ1 := [.d (.str (s.ap t)), .d row, .d s.d]) (τ1 := τ) (by simp [evB, evS, ev, evs, evt, evp, evi, binD, cmpD, bD, mD, neD, eqD, truD, ixD, inD, inB, slD, lenD, intD, maxD, minD, addD, subD, negD, joinD, joinS, txsO, lowerD, upperD, startsD, endsD, stripD, with1, ordD, mulD, modD, fdivD, powD, intO, Out.then, bindT, setAll, itemsD, rangeD, runF, start', mkSg, mkSgG, opD, small62, wipeE, compL, forL, List.replicate, tyIs, g0, es]), e]
    rfl
theorem run_cleaned (n : Nat) (ns : List Int) (ds : List D) (τ : TS) (r : D × TS) (h : GCl n ns ds τ = some r) :
    ds.length = 2 ∧ runF (mkSg true [⟨"done", false, 2, GStp n fun _ => True⟩] [] ns) 3 false ir_cleaned ds τ = some r := by
  unfold GCl at h
  split at h
  · rename_i hx
    obtain ⟨a, b, c, d⟩ := Classical.choose_spec hx
    cases h
    generalize (Classical.choose hx).1 = t at *
    generalize (Classical.choose hx).2 = ss at *
    subst a
    refine ⟨rfl, runF_rt ?_⟩
    show evB _ ir_cleaned [.d (.str t), .d (.tup (ss.map Stp.d)), .un] τ = _
    unfold ir_cleaned
    obtain ⟨g', e⟩ := cl_loop n (mkSg true [⟨"done", false, 2, GStp n fun _ => True⟩] [] ns) ns (fun _ => rfl) (.tup (ss.map Stp.d)) τ ss t .un b c d
    rw [evB_nx (ρ1 := [.d (.str (apAll ss t)), .d (.tup (ss.map Stp.d)), g']) (τ1 := τ) (by rw [evS]; simp only [evi, ev, List.getElem?_cons_zero, List.getElem?_cons_succ, Option.bind_some, itemsD, Option.map_some]; exact e)]
    simp [evB, evS, ev, evs, evt, evp, evi, binD, cmpD, bD, mD, neD, eqD, truD, ixD, inD, inB, slD, lenD, intD, maxD, minD, addD, subD, negD, joinD, joinS, txsO, lowerD, upperD, startsD, endsD, stripD, with1, ordD, mulD, modD, fdivD, powD, intO, Out.then, bindT, setAll, itemsD, rangeD, runF, start', mkSg, mkSgG, opD, small62, wipeE, compL, forL, List.replicate, tyIs]
  · cases h
end PD

set_option Elab.async false
set_option linter.all false
set_option maxRecDepth 100000
set_option maxHeartbeats 4000000
/-! The laws' own draws. -/
namespace PD
open PySem L2
/-- a def by its body -/
noncomputable def Grun (tk : Bool) (n : Nat) (tp : Bool) (ar : Nat) (body : Ss) (cal : List Cal) (csts : List (Str × D)) : GF := fun ns ds τ => if ds.length = ar then runF (mkSg tk cal csts ns) n tp body ds τ else none
theorem Grun_out {tk : Bool} {n : Nat} {tp : Bool} {ar : Nat} {body : Ss} {cal : List Cal} {csts : List (Str × D)} : ∀ ns ds τ r, Grun tk n tp ar body cal csts ns ds τ = some r → ds.length = ar ∧ runF (mkSg tk cal csts ns) n tp body ds τ = some r := by
  intro ns ds τ r h
  unfold Grun at h
  split at h
  · rename_i e; exact ⟨e, h⟩
  · cases h
/-! ### _law_draw -/
noncomputable def GDraw (tk : Bool) : GF := Grun tk 5 true 1 ir_law_draw [] []
theorem draw_cell (P : Sg) (m p : Int) (τ : TS) (x : Int) : ∃ c, evS P (.ife (.cmp .Gt (.tlen 0) (.int 0)) (.cons (.set 3 (.tcell 0 (.bin .Mod (.blt .int (.cons (.tget 0 1) .nil)) (.tlen 0)))) .nil) .nil) [.tape, .d (.int m), .d (.int p), .d (.int x), .un] τ = some (.nx [.tape, .d (.int m), .d (.int p), .d (.int c), .un] τ) := by
  by_cases h : 0 < P.ns.length
  · have h0 : (0 : Int) < (P.ns.length : Int) := by omega
    have h1 := Int.emod_nonneg τ.pos (show (P.ns.length : Int) ≠ 0 by omega)
    have h2 := Int.emod_lt_of_pos τ.pos h0
    have h3 : (τ.pos % (P.ns.length : Int)).toNat < P.ns.length := by omega
    refine ⟨P.ns[(τ.pos % (P.ns.length : Int)).toNat], evS_t (τ1 := τ) (by simp [evB, evS, ev, evs, evt, evp, evi, binD, cmpD, bD, mD, neD, eqD, truD, ixD, inD, inB, slD, lenD, intD, maxD, minD, addD, subD, negD, joinD, joinS, txsO, lowerD, upperD, startsD, endsD, stripD, with1, ordD, mulD, modD, fdivD, powD, intO, Out.then, bindT, setAll, itemsD, rangeD, runF, start', mkSg, mkSgG, opD, small62, wipeE, compL, forL, List.replicate, tyIs, h]) ?_⟩
    rw [evB_nx (ρ1 := [.tape, .d (.int m), .d (.int p), .d (.int P.ns[(τ.pos % (P.ns.length : Int)).toNat]), .un]) (τ1 := τ) ?_]
    · simp [evB]
    · simp only [evB, evS, ev, evs, evt, evp, evi, binD, cmpD, bD, mD, neD, eqD, truD, ixD, inD, inB, slD, lenD, intD, maxD, minD, addD, subD, negD, joinD, joinS, txsO, lowerD, upperD, startsD, endsD, stripD, with1, ordD, mulD, modD, fdivD, powD, intO, Out.then, bindT, setAll, itemsD, rangeD, runF, start', mkSg, mkSgG, opD, small62, wipeE, compL, forL, List.replicate, tyIs, List.getElem?_cons_zero, Option.bind_some, Option.map_some, if_true, h0, h1, List.getElem?_eq_getElem h3]
      rfl
  · exact ⟨x, evS_f (τ1 := τ) (by simp [evB, evS, ev, evs, evt, evp, evi, binD, cmpD, bD, mD, neD, eqD, truD, ixD, inD, inB, slD, lenD, intD, maxD, minD, addD, subD, negD, joinD, joinS, txsO, lowerD, upperD, startsD, endsD, stripD, with1, ordD, mulD, modD, fdivD, powD, intO, Out.then, bindT, setAll, itemsD, rangeD, runF, start', mkSg, mkSgG, opD, small62, wipeE, compL, forL, List.replicate, tyIs, h]) (by simp [evB])⟩
theorem draw_mix (P : Sg) (m : Int) (τ : TS) (x : Int) : ∃ c, evB P (.cons (.set 3 (.bin .Mod (.blt .int (.cons (.bin .Add (.var 3) (.bin .Mult (.int 1000003) (.tget 0 1))) .nil)) (.var 2))) (.cons (.set 3 (.bin .Mod (.blt .int (.cons (.bin .Add (.bin .Add (.bin .Mult (.var 3) (.var 3)) (.bin .Mult (.int 1181783497276652981) (.var 3))) (.int 2049848353892358983)) .nil)) (.var 2))) (.cons (.set 3 (.bin .Mod (.blt .int (.cons (.bin .Add (.bin .Mult (.var 3) (.var 3)) (.int 1442695040888963407)) .nil)) (.var 2))) .nil)))
    [.tape, .d (.int m), .d (.int 2305843009213693951), .d (.int x), .un] τ = some (.nx [.tape, .d (.int m), .d (.int 2305843009213693951), .d (.int c), .un] τ) := by
  have b : ∀ y : Int, (-(2 ^ 64) < y % 2305843009213693951 ∧ y % 2305843009213693951 < 2 ^ 64) := fun y => by
    have h1 := Int.emod_nonneg y (show (2305843009213693951 : Int) ≠ 0 by omega)
    have h2 := Int.emod_lt_of_pos y (show (0 : Int) < 2305843009213693951 by omega)
    omega
  obtain ⟨y, hy, by1⟩ : ∃ y : Int, y = (x + 1000003 * τ.pos) % 2305843009213693951 ∧ (-(2 ^ 64) < y ∧ y < 2 ^ 64) := ⟨_, rfl, b _⟩
  obtain ⟨z, hz, by2⟩ : ∃ z : Int, z = (y * y + 1181783497276652981 * y + 2049848353892358983) % 2305843009213693951 ∧ (-(2 ^ 64) < z ∧ z < 2 ^ 64) := ⟨_, rfl, b _⟩
  refine ⟨(z * z + 1442695040888963407) % 2305843009213693951, ?_⟩
  rw [evB_nx (ρ1 := [.tape, .d (.int m), .d (.int 2305843009213693951), .d (.int y), .un]) (τ1 := τ) (by simp [evB, evS, ev, evs, evt, evp, evi, binD, cmpD, bD, mD, neD, eqD, truD, ixD, inD, inB, slD, lenD, intD, maxD, minD, addD, subD, negD, joinD, joinS, txsO, lowerD, upperD, startsD, endsD, stripD, with1, ordD, mulD, modD, fdivD, powD, intO, Out.then, bindT, setAll, itemsD, rangeD, runF, start', mkSg, mkSgG, opD, small62, wipeE, compL, forL, List.replicate, tyIs, hy])]
  rw [evB_nx (ρ1 := [.tape, .d (.int m), .d (.int 2305843009213693951), .d (.int z), .un]) (τ1 := τ) (by
    simp only [evB, evS, ev, evs, evt, evp, evi, binD, cmpD, bD, mD, neD, eqD, truD, ixD, inD, inB, slD, lenD, intD, maxD, minD, addD, subD, negD, joinD, joinS, txsO, lowerD, upperD, startsD, endsD, stripD, with1, ordD, mulD, modD, fdivD, powD, intO, Out.then, bindT, setAll, itemsD, rangeD, runF, start', mkSg, mkSgG, opD, small62, wipeE, compL, forL, List.replicate, tyIs, List.getElem?_cons_zero, List.getElem?_cons_succ, Option.bind_some, Option.map_some, by1, and_self, true_or, if_true]; simp [hz])]
  rw [evB_nx (ρ1 := [.tape, .d (.int m), .d (.int 2305843009213693951), .d (.int ((z * z + 1442695040888963407) % 2305843009213693951)), .un]) (τ1 := τ) (by
    simp only [evB, evS, ev, evs, evt, evp, evi, binD, cmpD, bD, mD, neD, eqD, truD, ixD, inD, inB, slD, lenD, intD, maxD, minD, addD, subD, negD, joinD, joinS, txsO, lowerD, upperD, startsD, endsD, stripD, with1, ordD, mulD, modD, fdivD, powD, intO, Out.then, bindT, setAll, itemsD, rangeD, runF, start', mkSg, mkSgG, opD, small62, wipeE, compL, forL, List.replicate, tyIs, List.getElem?_cons_zero, List.getElem?_cons_succ, Option.bind_some, Option.map_some, by2, and_self, true_or, if_true]; simp)]
  simp [evB]
theorem draw_ok (tk : Bool) (ns : List Int) (m : Int) (h0 : 0 < m) (h1 : m.natAbs.log2 < 9000) (τ : TS) : ∃ r τ', GDraw tk ns [.int m] τ = some (.int r, τ') ∧ 0 ≤ r ∧ r < m := by
  have hif : ∀ P : Sg, ∃ X τ1, evS P (.ife (.cmp .Lt (.tget 0 2) (.var 1)) (.cons (.set 3 (.int 0)) (.cons (.ife (.cmp .Gt (.tlen 0) (.int 0)) (.cons (.set 3 (.tcell 0 (.bin .Mod (.blt .int (.cons (.tget 0 1) .nil)) (.tlen 0)))) .nil) .nil) (.cons (.ife (.or (.cmp .GtE (.tget 0 1) (.tlen 0)) (.one (.cmp .Lt (.var 3) (.bin .Pow (.int 10) (.int 18))))) (.cons (.set 3 (.bin .Mod (.blt .int (.cons (.bin .Add (.var 3) (.bin .Mult (.int 1000003) (.tget 0 1))) .nil)) (.var 2))) (.cons (.set 3 (.bin .Mod (.blt .int (.cons (.bin .Add (.bin .Add (.bin .Mult (.var 3) (.var 3)) (.bin .Mult (.int 1181783497276652981) (.var 3))) (.int 2049848353892358983)) .nil)) (.var 2))) (.cons (.set 3 (.bin .Mod (.blt .int (.cons (.bin .Add (.bin .Mult (.var 3) (.var 3)) (.int 1442695040888963407)) .nil)) (.var 2))) .nil))) .nil) (.cons (.tset 0 1 (.bin .Add (.tget 0 1) (.int 1))) (.cons (.tset 0 2 (.var 3)) .nil))))) .nil)
      [.tape, .d (.int m), .d (.int 2305843009213693951), .un, .un] τ = some (.nx [.tape, .d (.int m), .d (.int 2305843009213693951), X, .un] τ1) := by
    intro P
    by_cases hc : τ.cur < m
    · obtain ⟨c, hcell⟩ := draw_cell P m 2305843009213693951 τ 0
      have hmid : ∃ c2, evS P (.ife (.or (.cmp .GtE (.tget 0 1) (.tlen 0)) (.one (.cmp .Lt (.var 3) (.bin .Pow (.int 10) (.int 18))))) (.cons (.set 3 (.bin .Mod (.blt .int (.cons (.bin .Add (.var 3) (.bin .Mult (.int 1000003) (.tget 0 1))) .nil)) (.var 2))) (.cons (.set 3 (.bin .Mod (.blt .int (.cons (.bin .Add (.bin .Add (.bin .Mult (.var 3) (.var 3)) (.bin .Mult (.int 1181783497276652981) (.var 3))) (.int 2049848353892358983)) .nil)) (.var 2))) (.cons (.set 3 (.bin .Mod (.blt .int (.cons (.bin .Add (.bin .Mult (.var 3) (.var 3)) (.int 1442695040888963407)) .nil)) (.var 2))) .nil))) .nil) [.tape, .d (.int m), .d (.int 2305843009213693951), .d (.int c), .un] τ = some (.nx [.tape, .d (.int m), .d (.int 2305843009213693951), .d (.int c2), .un] τ) := by
        by_cases hg : τ.pos < (P.ns.length : Int)
        · by_cases hs : c < 10 ^ 18
          · obtain ⟨c2, e⟩ := draw_mix P m τ c
            exact ⟨c2, evS_t (τ1 := τ) (by simp [evB, evS, ev, evs, evt, evp, evi, binD, cmpD, bD, mD, neD, eqD, truD, ixD, inD, inB, slD, lenD, intD, maxD, minD, addD, subD, negD, joinD, joinS, txsO, lowerD, upperD, startsD, endsD, stripD, with1, ordD, mulD, modD, fdivD, powD, intO, Out.then, bindT, setAll, itemsD, rangeD, runF, start', mkSg, mkSgG, opD, small62, wipeE, compL, forL, List.replicate, tyIs, Int.not_le.mpr hg]; simpa using hs) e⟩
          · exact ⟨c, evS_f (τ1 := τ) (by simp [evB, evS, ev, evs, evt, evp, evi, binD, cmpD, bD, mD, neD, eqD, truD, ixD, inD, inB, slD, lenD, intD, maxD, minD, addD, subD, negD, joinD, joinS, txsO, lowerD, upperD, startsD, endsD, stripD, with1, ordD, mulD, modD, fdivD, powD, intO, Out.then, bindT, setAll, itemsD, rangeD, runF, start', mkSg, mkSgG, opD, small62, wipeE, compL, forL, List.replicate, tyIs, Int.not_le.mpr hg]; simpa using hs) (by simp [evB])⟩
        · obtain ⟨c2, e⟩ := draw_mix P m τ c
          exact ⟨c2, evS_t (τ1 := τ) (by simp [evB, evS, ev, evs, evt, evp, evi, binD, cmpD, bD, mD, neD, eqD, truD, ixD, inD, inB, slD, lenD, intD, maxD, minD, addD, subD, negD, joinD, joinS, txsO, lowerD, upperD, startsD, endsD, stripD, with1, ordD, mulD, modD, fdivD, powD, intO, Out.then, bindT, setAll, itemsD, rangeD, runF, start', mkSg, mkSgG, opD, small62, wipeE, compL, forL, List.replicate, tyIs, Int.not_lt.mp hg]) e⟩
      obtain ⟨c2, hmid⟩ := hmid
      refine ⟨.d (.int c2), ⟨τ.pos + 1, c2⟩, evS_t (τ1 := τ) (by simp [evB, evS, ev, evs, evt, evp, evi, binD, cmpD, bD, mD, neD, eqD, truD, ixD, inD, inB, slD, lenD, intD, maxD, minD, addD, subD, negD, joinD, joinS, txsO, lowerD, upperD, startsD, endsD, stripD, with1, ordD, mulD, modD, fdivD, powD, intO, Out.then, bindT, setAll, itemsD, rangeD, runF, start', mkSg, mkSgG, opD, small62, wipeE, compL, forL, List.replicate, tyIs, hc]) ?_⟩
      rw [evB_nx (ρ1 := [.tape, .d (.int m), .d (.int 2305843009213693951), .d (.int 0), .un]) (τ1 := τ) (by simp [evB, evS, ev, evs, evt, evp, evi, binD, cmpD, bD, mD, neD, eqD, truD, ixD, inD, inB, slD, lenD, intD, maxD, minD, addD, subD, negD, joinD, joinS, txsO, lowerD, upperD, startsD, endsD, stripD, with1, ordD, mulD, modD, fdivD, powD, intO, Out.then, bindT, setAll, itemsD, rangeD, runF, start', mkSg, mkSgG, opD, small62, wipeE, compL, forL, List.replicate, tyIs]), evB_nx hcell, evB_nx hmid]
      rw [evB_nx (ρ1 := [.tape, .d (.int m), .d (.int 2305843009213693951), .d (.int c2), .un]) (τ1 := ⟨τ.pos + 1, τ.cur⟩) (by simp [evB, evS, ev, evs, evt, evp, evi, binD, cmpD, bD, mD, neD, eqD, truD, ixD, inD, inB, slD, lenD, intD, maxD, minD, addD, subD, negD, joinD, joinS, txsO, lowerD, upperD, startsD, endsD, stripD, with1, ordD, mulD, modD, fdivD, powD, intO, Out.then, bindT, setAll, itemsD, rangeD, runF, start', mkSg, mkSgG, opD, small62, wipeE, compL, forL, List.replicate, tyIs]), evB_nx (ρ1 := [.tape, .d (.int m), .d (.int 2305843009213693951), .d (.int c2), .un]) (τ1 := ⟨τ.pos + 1, c2⟩) (by simp [evB, evS, ev, evs, evt, evp, evi, binD, cmpD, bD, mD, neD, eqD, truD, ixD, inD, inB, slD, lenD, intD, maxD, minD, addD, subD, negD, joinD, joinS, txsO, lowerD, upperD, startsD, endsD, stripD, with1, ordD, mulD, modD, fdivD, powD, intO, Out.then, bindT, setAll, itemsD, rangeD, runF, start', mkSg, mkSgG, opD, small62, wipeE, compL, forL, List.replicate, tyIs])]
      simp [evB]
    · exact ⟨.un, τ, evS_f (τ1 := τ) (by simp [evB, evS, ev, evs, evt, evp, evi, binD, cmpD, bD, mD, neD, eqD, truD, ixD, inD, inB, slD, lenD, intD, maxD, minD, addD, subD, negD, joinD, joinS, txsO, lowerD, upperD, startsD, endsD, stripD, with1, ordD, mulD, modD, fdivD, powD, intO, Out.then, bindT, setAll, itemsD, rangeD, runF, start', mkSg, mkSgG, opD, small62, wipeE, compL, forL, List.replicate, tyIs, hc]) (by simp [evB])⟩
  obtain ⟨X, τ1, hif⟩ := hif (mkSg tk [] [] ns)
  refine ⟨τ1.cur % m, ⟨τ1.pos, τ1.cur / m⟩, ?_, Int.emod_nonneg _ (by omega), Int.emod_lt_of_pos _ h0⟩
  unfold GDraw Grun
  rw [if_pos (show [D.int m].length = 1 from rfl)]
  refine runF_rt ?_
  show evB _ ir_law_draw [.tape, .d (.int m), .un, .un, .un] τ = _
  unfold ir_law_draw
  rw [evB_nx (ρ1 := [.tape, .d (.int m), .d (.int 2305843009213693951), .un, .un]) (τ1 := τ) (by simp [evB, evS, ev, evs, evt, evp, evi, binD, cmpD, bD, mD, neD, eqD, truD, ixD, inD, inB, slD, lenD, intD, maxD, minD, addD, subD, negD, joinD, joinS, txsO, lowerD, upperD, startsD, endsD, stripD, with1, ordD, mulD, modD, fdivD, powD, intO, Out.then, bindT, setAll, itemsD, rangeD, runF, start', mkSg, mkSgG, opD, small62, wipeE, compL, forL, List.replicate, tyIs]), evB_nx hif]
  rw [evB_nx (ρ1 := [.tape, .d (.int m), .d (.int 2305843009213693951), X, .d (.int (τ1.cur % m))]) (τ1 := τ1) (by simp [evB, evS, ev, evs, evt, evp, evi, binD, cmpD, bD, mD, neD, eqD, truD, ixD, inD, inB, slD, lenD, intD, maxD, minD, addD, subD, negD, joinD, joinS, txsO, lowerD, upperD, startsD, endsD, stripD, with1, ordD, mulD, modD, fdivD, powD, intO, Out.then, bindT, setAll, itemsD, rangeD, runF, start', mkSg, mkSgG, opD, small62, wipeE, compL, forL, List.replicate, tyIs, h0])]
  rw [evB_nx (ρ1 := [.tape, .d (.int m), .d (.int 2305843009213693951), X, .d (.int (τ1.cur % m))]) (τ1 := ⟨τ1.pos, τ1.cur / m⟩) (by simp [evB, evS, ev, evs, evt, evp, evi, binD, cmpD, bD, mD, neD, eqD, truD, ixD, inD, inB, slD, lenD, intD, maxD, minD, addD, subD, negD, joinD, joinS, txsO, lowerD, upperD, startsD, endsD, stripD, with1, ordD, mulD, modD, fdivD, powD, intO, Out.then, bindT, setAll, itemsD, rangeD, runF, start', mkSg, mkSgG, opD, small62, wipeE, compL, forL, List.replicate, tyIs, h0, h1])]
  simp [evB, evS, ev, evs, evt, evp, evi, binD, cmpD, bD, mD, neD, eqD, truD, ixD, inD, inB, slD, lenD, intD, maxD, minD, addD, subD, negD, joinD, joinS, txsO, lowerD, upperD, startsD, endsD, stripD, with1, ordD, mulD, modD, fdivD, powD, intO, Out.then, bindT, setAll, itemsD, rangeD, runF, start', mkSg, mkSgG, opD, small62, wipeE, compL, forL, List.replicate, tyIs]
/-- a small draw -/
theorem draw_nat (tk : Bool) (ns : List Int) (m : Nat) (h0 : 0 < m) (h1 : m ≤ 100000) (τ : TS) : ∃ (r : Nat) (τ' : TS), GDraw tk ns [.int m] τ = some (.int r, τ') ∧ r < m := by
  obtain ⟨r, τ', e, h2, h3⟩ := draw_ok tk ns m (by omega) (by
    rw [Int.natAbs_natCast]
    have : m.log2 < 17 := (Nat.log2_lt (by omega)).mpr (by omega)
    omega) τ
  obtain ⟨k, rfl⟩ := Int.eq_ofNat_of_zero_le h2
  exact ⟨k, τ', e, by omega⟩
end PD

set_option Elab.async false
set_option linter.all false
set_option maxRecDepth 100000
set_option maxHeartbeats 4000000
/-! What the laws draw: signs, words, sets, texts. -/
namespace PD
open PySem L2
theorem draw_int (tk : Bool) (ns : List Int) (m : Nat) (mi : Int) (hm : mi = m) (h0 : 0 < m) (h1 : m ≤ 100000) (τ : TS) : ∃ (r : Nat) (τ' : TS), GDraw tk ns [.int mi] τ = some (.int r, τ') ∧ r < m := by
  subst hm
  exact draw_nat tk ns m h0 h1 τ
noncomputable abbrev cDraw (tk : Bool) : Cal := ⟨"_law_draw", true, 1, GDraw tk⟩
theorem Grun_in {tk : Bool} {n : Nat} {tp : Bool} {ar : Nat} {body : Ss} {cal : List Cal} {csts : List (Str × D)} {ns : List Int} {ds : List D} {τ τ1 : TS} {d : D} (h : ds.length = ar) (e : evB (mkSg tk cal csts ns) body (start' n tp ds) τ = some (.rt d τ1)) : Grun tk n tp ar body cal csts ns ds τ = some (d, τ1) := by
  unfold Grun
  rw [if_pos h]
  exact runF_rt e
theorem small62_nat {k : Nat} (h : k ≤ 1000000) : small62 (k : Int) = true := by
  unfold small62
  rw [decide_eq_true (show -(2 ^ 62 : Int) ≤ (k : Int) by omega), decide_eq_true (show (k : Int) < 2 ^ 62 by omega)]
  rfl
theorem rng1_aux (p : Int → Bool) (k : Int) (τ1 : TS) (hp : p k = true) : ((some (D.int k, τ1)).bind fun r => (intO r.1).bind fun n => if p n then some (rangeD 0 n.toNat 1, r.2) else none) = some (rangeD 0 k.toNat 1, τ1) := by
  simp only [Option.bind_some, intO, hp, if_true]
theorem evi_rng1 {P : Sg} {a : E} {ρ : Env'} {τ τ1 : TS} {k : Nat} (h : ev P a ρ τ = some (.int (k : Int), τ1)) (hk : k ≤ 1000000) : evi P (.rng1 a) ρ τ = some (rangeD 0 k 1, τ1) := by
  rw [evi, h]
  exact rng1_aux small62 (k : Int) τ1 (small62_nat hk)
theorem evS_fr {P : Sg} {tg : T} {it : I} {b : Ss} {ρ : Env'} {τ τ1 : TS} {xs : List D} {o : Out} (h : evi P it ρ τ = some (xs, τ1)) (h2 : forL (fun x ρ1 τ1 => (bindT tg x ρ1).bind fun ρ2 => evB P b ρ2 τ1) xs ρ τ1 = some o) : evS P (.fr tg it b) ρ τ = some o := by
  rw [evS, h]
  exact h2
/-! ### _law_sign -/
def SGN : List Nat := [97, 97, 98, 98, 65, 32, 45, 95, 46, 66, 99]
noncomputable def GSign (tk : Bool) : GF := Grun tk 1 true 0 ir_law_sign [cDraw tk] []
theorem atI_in {α : Type} {l : List α} {r : Nat} (h : r < l.length) : ∃ c, atI l (r : Int) = some c ∧ c ∈ l := ⟨l[r], atI_nat (List.getElem?_eq_getElem h), List.getElem_mem h⟩
theorem sign_ok (tk : Bool) (ns : List Int) (τ : TS) : ∃ c τ', GSign tk ns [] τ = some (.str [c], τ') ∧ c ∈ SGN := by
  obtain ⟨r, τ', e, h⟩ := draw_int tk ns 11 11 rfl (by omega) (by omega) τ
  obtain ⟨c, hc, hm⟩ := atI_in (l := SGN) (r := r) h
  refine ⟨c, τ', ?_, hm⟩
  refine Grun_in rfl ?_
  show evB _ ir_law_sign [.tape] τ = _
  unfold ir_law_sign
  refine evB_rt (evS_ret ?_)
  unfold SGN at hc
  simp [evB, evS, ev, evs, evt, evp, evi, binD, cmpD, bD, mD, neD, eqD, truD, ixD, inD, inB, slD, lenD, intD, maxD, minD, addD, subD, negD, joinD, joinS, txsO, lowerD, upperD, startsD, endsD, stripD, with1, ordD, mulD, modD, fdivD, powD, intO, Out.then, bindT, setAll, itemsD, rangeD, runF, start', mkSg, mkSgG, opD, small62, wipeE, compL, forL, List.replicate, tyIs, e, hc, sl1]
noncomputable abbrev cSign (tk : Bool) : Cal := ⟨"_law_sign", true, 0, GSign tk⟩
/-! ### _law_word -/
noncomputable def GWord (tk : Bool) : GF := Grun tk 2 true 0 ir_law_word [cSign tk, cDraw tk] []
theorem word_ok (tk : Bool) (ns : List Int) (τ : TS) : ∃ w τ', GWord tk ns [] τ = some (.str w, τ') ∧ w ≠ [] ∧ w.length ≤ 2 ∧ ∀ c ∈ w, c ∈ SGN := by
  obtain ⟨c, τ1, e1, h1⟩ := sign_ok tk ns τ
  obtain ⟨r, τ2, e2, h2⟩ := draw_int tk ns 2 2 rfl (by omega) (by omega) τ1
  obtain ⟨d, τ3, e3, h3⟩ := sign_ok tk ns τ2
  have hr : ∀ w τ', evB (mkSg tk [cSign tk, cDraw tk] [] ns) ir_law_word [.tape, .un] τ = some (.rt (.str w) τ') → GWord tk ns [] τ = some (.str w, τ') := fun w τ' h => by
    exact Grun_in rfl h
  by_cases hz : r = 0
  · subst hz
    refine ⟨[c], τ2, hr _ _ ?_, by simp, by simp, by simpa using h1⟩
    unfold ir_law_word
    rw [evB_nx (ρ1 := [.tape, .d (.str [c])]) (τ1 := τ1) (by simp [evB, evS, ev, evs, evt, evp, evi, binD, cmpD, bD, mD, neD, eqD, truD, ixD, inD, inB, slD, lenD, intD, maxD, minD, addD, subD, negD, joinD, joinS, txsO, lowerD, upperD, startsD, endsD, stripD, with1, ordD, mulD, modD, fdivD, powD, intO, Out.then, bindT, setAll, itemsD, rangeD, runF, start', mkSg, mkSgG, opD, small62, wipeE, compL, forL, List.replicate, tyIs, e1])]
    refine evB_rt (evS_ret ?_)
    simp [evB, evS, ev, evs, evt, evp, evi, binD, cmpD, bD, mD, neD, eqD, truD, ixD, inD, inB, slD, lenD, intD, maxD, minD, addD, subD, negD, joinD, joinS, txsO, lowerD, upperD, startsD, endsD, stripD, with1, ordD, mulD, modD, fdivD, powD, intO, Out.then, bindT, setAll, itemsD, rangeD, runF, start', mkSg, mkSgG, opD, small62, wipeE, compL, forL, List.replicate, tyIs, e2]
  · refine ⟨[c, d], τ3, hr _ _ ?_, by simp, by simp, by simp [h1, h3]⟩
    unfold ir_law_word
    rw [evB_nx (ρ1 := [.tape, .d (.str [c])]) (τ1 := τ1) (by simp [evB, evS, ev, evs, evt, evp, evi, binD, cmpD, bD, mD, neD, eqD, truD, ixD, inD, inB, slD, lenD, intD, maxD, minD, addD, subD, negD, joinD, joinS, txsO, lowerD, upperD, startsD, endsD, stripD, with1, ordD, mulD, modD, fdivD, powD, intO, Out.then, bindT, setAll, itemsD, rangeD, runF, start', mkSg, mkSgG, opD, small62, wipeE, compL, forL, List.replicate, tyIs, e1])]
    refine evB_rt (evS_ret ?_)
    simp [evB, evS, ev, evs, evt, evp, evi, binD, cmpD, bD, mD, neD, eqD, truD, ixD, inD, inB, slD, lenD, intD, maxD, minD, addD, subD, negD, joinD, joinS, txsO, lowerD, upperD, startsD, endsD, stripD, with1, ordD, mulD, modD, fdivD, powD, intO, Out.then, bindT, setAll, itemsD, rangeD, runF, start', mkSg, mkSgG, opD, small62, wipeE, compL, forL, List.replicate, tyIs, e2, e3, hz, sl1]
/-! ### _law_set -/
noncomputable def GSet (tk : Bool) : GF := Grun tk 3 true 0 ir_law_set [cSign tk, cDraw tk] []
theorem insS_len (a : List Nat) : ∀ l : List (List Nat), (insS a l).length ≤ l.length + 1
  | [] => by simp [insS]
  | b :: r => by
    unfold insS
    split
    · simp
    · split
      · simp
      · have := insS_len a r
        simp only [List.length_cons]; omega
theorem foldS_len (ss : List (List Nat)) : ∀ acc : List (List Nat), (ss.foldl (fun acc a => insS a acc) acc).length ≤ acc.length + ss.length := by
  induction ss with
  | nil => intro acc; simp
  | cons a r ih =>
    intro acc
    have h1 := ih (insS a acc)
    have h2 := insS_len a acc
    simp only [List.foldl_cons, List.length_cons] at *
    omega
theorem ones_of : ∀ {l : List (List Nat)}, (∀ x ∈ l, ∃ c, x = [c]) → ∃ es : List Nat, l = es.map fun c => [c]
  | [], _ => ⟨[], rfl⟩
  | x :: l, h => by
    obtain ⟨c, rfl⟩ := h x List.mem_cons_self
    obtain ⟨es, rfl⟩ := ones_of (l := l) fun y hy => h y (List.mem_cons_of_mem _ hy)
    exact ⟨c :: es, rfl⟩
/-- the sorted set of signs -/
theorem set_of (ds : List Nat) : ∃ es : List Nat, sortSetS (ds.map fun c => [c]) = es.map (fun c => [c]) ∧ es.Pairwise (· < ·) ∧ (∀ c, c ∈ es ↔ c ∈ ds) ∧ es.length ≤ ds.length := by
  have hm := sortSet_mem (ds.map fun c => [c])
  obtain ⟨es, he⟩ := ones_of (l := sortSetS (ds.map fun c => [c])) fun x hx => by
    obtain ⟨c, _, rfl⟩ := List.mem_map.mp ((hm x).mp hx)
    exact ⟨c, rfl⟩
  refine ⟨es, he, ?_, fun c => ?_, ?_⟩
  · have hp := sortSet_rise (ds.map fun c => [c])
    rw [he, List.pairwise_map] at hp
    refine hp.imp fun {a b} h => ?_
    have := List.cons_lt_cons_iff.mp h
    simpa using this
  · have := hm [c]
    rw [he] at this
    simpa using this
  · have := foldS_len (ds.map fun c => [c]) []
    have h2 : (sortSetS (ds.map fun c => [c])).length ≤ ds.length := by
      unfold sortSetS
      simpa using this
    rw [he, List.length_map] at h2
    exact h2
theorem set_loop (tk : Bool) (ns : List Int) (P : Sg) (g0 : ∀ ds, P.G 0 ds = GSign tk ns ds) : ∀ (xs : List D) (ds : List Nat) (g : Slot) (τ : TS), ds.length + xs.length ≤ 100 → (∀ c ∈ ds, c ∈ SGN) →
    ∃ (ds' : List Nat) (g' : Slot) (τ' : TS), forL (fun x ρ1 τ1 => (bindT (.nm 2) x ρ1).bind fun ρ2 => evB P (.cons (.app 1 (.callT 0 0 .nil)) .nil) ρ2 τ1) xs [.tape, .ol (ds.map fun c => .str [c]), g] τ = some (.nx [.tape, .ol (ds'.map fun c => .str [c]), g'] τ') ∧ ds'.length = ds.length + xs.length ∧ ∀ c ∈ ds', c ∈ SGN
  | [], ds, g, τ, _, h => ⟨ds, g, τ, rfl, rfl, h⟩
  | x :: xs, ds, g, τ, hl, h => by
    simp only [List.length_cons] at hl
    obtain ⟨c, τ1, e1, h1⟩ := sign_ok tk ns τ
    obtain ⟨ds', g', τ', e, h2, h3⟩ := set_loop tk ns P g0 xs (ds ++ [c]) (.d x) τ1 (by simp; omega) (fun y hy => by
      rcases List.mem_append.mp hy with q | q
      · exact h y q
      · have : y = c := by simpa using q
        rw [this]; exact h1)
    refine ⟨ds', g', τ', ?_, by rw [h2]; simp; omega, h3⟩
    have hs : ds.length < sizeLine := by rw [sizeLine_eq]; omega
    rw [forL_step (ρ1 := [.tape, .ol ((ds ++ [c]).map fun c => .str [c]), .d x]) (τ1 := τ1) (by simp [evB, evS, ev, evs, evt, evp, evi, binD, cmpD, bD, mD, neD, eqD, truD, ixD, inD, inB, slD, lenD, intD, maxD, minD, addD, subD, negD, joinD, joinS, txsO, lowerD, upperD, startsD, endsD, stripD, with1, ordD, mulD, modD, fdivD, powD, intO, Out.then, bindT, setAll, itemsD, rangeD, runF, start', mkSg, mkSgG, opD, small62, wipeE, compL, forL, List.replicate, tyIs, g0, e1, hs]), e]
theorem sset_ok (tk : Bool) (ns : List Int) (τ : TS) : ∃ s τ', GSet tk ns [] τ = some (.str s, τ') ∧ s ≠ [] ∧ s.length ≤ 3 ∧ s.Pairwise (· < ·) ∧ ∀ c ∈ s, c ∈ SGN := by
  obtain ⟨c, τ1, e1, h1⟩ := sign_ok tk ns τ
  obtain ⟨k, τ2, e2, h2⟩ := draw_int tk ns 3 3 rfl (by omega) (by omega) τ1
  obtain ⟨ds', g', τ3, e3, h3, h4⟩ := set_loop tk ns (mkSg tk [cSign tk, cDraw tk] [] ns) (fun _ => rfl) (rangeD 0 k 1) [c] .un τ2 (by simp [rangeD]; omega) (by simpa using h1)
  simp only [rangeD, List.length_map, List.length_range, List.length_singleton] at h3
  obtain ⟨es, s1, s2, s3, s4⟩ := set_of ds'
  refine ⟨es, τ3, ?_, ?_, by omega, s2, fun x hx => h4 x ((s3 x).mp hx)⟩
  · refine Grun_in rfl ?_
    show evB _ ir_law_set [.tape, .un, .un] τ = _
    unfold ir_law_set
    rw [evB_nx (ρ1 := [.tape, .ol ([c].map fun c => .str [c]), .un]) (τ1 := τ1) (by simp [evB, evS, ev, evs, evt, evp, evi, binD, cmpD, bD, mD, neD, eqD, truD, ixD, inD, inB, slD, lenD, intD, maxD, minD, addD, subD, negD, joinD, joinS, txsO, lowerD, upperD, startsD, endsD, stripD, with1, ordD, mulD, modD, fdivD, powD, intO, Out.then, bindT, setAll, itemsD, rangeD, runF, start', mkSg, mkSgG, opD, small62, wipeE, compL, forL, List.replicate, tyIs, e1, sl1])]
    rw [evB_nx (ρ1 := [.tape, .ol (ds'.map fun c => .str [c]), g']) (τ1 := τ3) (by
      refine evS_fr (evi_rng1 (k := k) (τ1 := τ2) ?_ (by omega)) e3
      simp [ev, evs, mkSg, mkSgG, e2])]
    rw [evB]
    simp only [List.getElem?_cons_zero, List.getElem?_cons_succ]
    refine evB_rt (evS_ret ?_)
    have hj := join_ones (fun c => c) es (by omega)
    rw [List.map_id'] at hj
    have ht : txsO (ds'.map fun c => .str [c]) = some (ds'.map fun c => [c]) := by
      have := strs_map (ds'.map fun c => [c])
      rw [List.map_map] at this
      exact this
    have hl : (ds'.map fun c => [c]).length + 1 < 4000 := by rw [List.length_map]; omega
    refine ev_join (ds := (es.map fun c => [c]).map .str) ?_ hj
    simp only [ev, List.set, List.getElem?_cons_zero, List.getElem?_cons_succ, Option.bind_some, srtD, ht, hl, if_true, s1, Option.map_some]
  · intro z
    subst z
    have : ds' ≠ [] := fun z => by rw [z] at h3; simp at h3; omega
    cases ds' with
    | nil => exact this rfl
    | cons x r => have := (s3 x).mpr List.mem_cons_self; simp at this
/-! ### _law_text -/
def ALP : List Nat := [97, 97, 98, 98, 65, 32, 45, 95, 46, 66, 99, 120, 88]
noncomputable def GText (tk : Bool) : GF := Grun tk 4 true 1 ir_law_text [cDraw tk] []
theorem text_loop (tk : Bool) (ns : List Int) (P : Sg) (g0 : ∀ ds, P.G 0 ds = GDraw tk ns ds) (m : D) : ∀ (xs : List D) (f : List Nat) (g : Slot) (τ : TS), f.length + 2 * xs.length ≤ 4000 → (∀ c ∈ f, c ∈ ALP) →
    ∃ (f' : List Nat) (g' : Slot) (τ' : TS), forL (fun x ρ1 τ1 => (bindT (.nm 3) x ρ1).bind fun ρ2 => evB P (.cons (.set 2 (.bin .Add (.var 2) (.bin .Mult (.idx (.str [97, 97, 98, 98, 65, 32, 45, 95, 46, 66, 99, 120, 88]) (.callT 0 0 (.cons (.int 13) .nil))) (.bin .Add (.int 1) (.callT 0 0 (.cons (.int 2) .nil)))))) .nil) ρ2 τ1) xs [.tape, .d m, .d (.str f), g] τ = some (.nx [.tape, .d m, .d (.str f'), g'] τ') ∧ f'.length ≤ f.length + 2 * xs.length ∧ ∀ c ∈ f', c ∈ ALP
  | [], f, g, τ, _, h => ⟨f, g, τ, rfl, by simp, h⟩
  | x :: xs, f, g, τ, hl, h => by
    simp only [List.length_cons] at hl
    obtain ⟨r, τ1, e1, h1⟩ := draw_int tk ns 13 13 rfl (by omega) (by omega) τ
    obtain ⟨c, hc, hm⟩ := atI_in (l := ALP) (r := r) h1
    obtain ⟨k, τ2, e2, h2⟩ := draw_int tk ns 2 2 rfl (by omega) (by omega) τ1
    obtain ⟨f', g', τ', e, h3, h4⟩ := text_loop tk ns P g0 m xs (f ++ List.replicate (1 + k) c) (.d x) τ2 (by simp; omega) (fun y hy => by
      rcases List.mem_append.mp hy with q | q
      · exact h y q
      · rw [(List.mem_replicate.mp q).2]; exact hm)
    refine ⟨f', g', τ', ?_, by simp at h3 ⊢; omega, h4⟩
    have hs : f.length + (1 + k) ≤ sizeLine := by rw [sizeLine_eq]; omega
    have hk : (1 + (k : Int)).toNat = 1 + k := by omega
    have hk1 : (0 : Int) ≤ 1 + (k : Int) := by omega
    have hk2 : 1 + (k : Int) ≤ 1000 := by omega
    have hfl : (List.replicate (1 + k) [c]).flatten = List.replicate (1 + k) c := by simp
    unfold ALP at hc
    rw [forL_step (ρ1 := [.tape, .d m, .d (.str (f ++ List.replicate (1 + k) c)), .d x]) (τ1 := τ2) (by simp [evB, evS, ev, evs, binD, addD, mulD, ixD, bindT, Out.then, g0, e1, e2, hc, hk, hk1, hk2, hs, sl1]), e]
theorem text_ok (tk : Bool) (ns : List Int) (m : Nat) (mi : Int) (hmi : mi = m) (hm : m ≤ 1000) (τ : TS) : ∃ t τ', GText tk ns [.int mi] τ = some (.str t, τ') ∧ t.length ≤ m ∧ ∀ c ∈ t, c ∈ ALP := by
  subst hmi
  obtain ⟨k, τ1, e1, h1⟩ := draw_int tk ns (m + 1) ((m : Int) + 1) (by omega) (by omega) (by omega) τ
  obtain ⟨f', g', τ', e, h3, h4⟩ := text_loop tk ns (mkSg tk [cDraw tk] [] ns) (fun _ => rfl) (.int m) (rangeD 0 k 1) [] .un τ1 (by simp [rangeD]; omega) (by simp)
  refine ⟨f'.take m, τ', ?_, by rw [List.length_take]; omega, fun c hc => h4 c (List.mem_of_mem_take hc)⟩
  refine Grun_in rfl ?_
  show evB _ ir_law_text [.tape, .d (.int m), .un, .un] τ = _
  unfold ir_law_text
  rw [evB_nx (ρ1 := [.tape, .d (.int m), .d (.str []), .un]) (τ1 := τ) (by simp [evB, evS, ev, evs, evt, evp, evi, binD, cmpD, bD, mD, neD, eqD, truD, ixD, inD, inB, slD, lenD, intD, maxD, minD, addD, subD, negD, joinD, joinS, txsO, lowerD, upperD, startsD, endsD, stripD, with1, ordD, mulD, modD, fdivD, powD, intO, Out.then, bindT, setAll, itemsD, rangeD, runF, start', mkSg, mkSgG, opD, small62, wipeE, compL, forL, List.replicate, tyIs])]
  rw [evB_nx (ρ1 := [.tape, .d (.int m), .d (.str f'), g']) (τ1 := τ') (by
    refine evS_fr (evi_rng1 (k := k) (τ1 := τ1) ?_ (by omega)) e
    simp [ev, evs, mkSg, mkSgG, binD, addD, e1])]
  have hl : f'.length ≤ 4000 := by simp [rangeD] at h3; omega
  refine evB_rt (evS_ret ?_)
  simp [evB, evS, ev, evs, evt, evp, evi, binD, cmpD, bD, mD, neD, eqD, truD, ixD, inD, inB, slD, lenD, intD, maxD, minD, addD, subD, negD, joinD, joinS, txsO, lowerD, upperD, startsD, endsD, stripD, with1, ordD, mulD, modD, fdivD, powD, intO, Out.then, bindT, setAll, itemsD, rangeD, runF, start', mkSg, mkSgG, opD, small62, wipeE, compL, forL, List.replicate, tyIs, cut_to, sl1 hl]
end PD

set_option Elab.async false
set_option linter.all false
set_option maxRecDepth 100000
set_option maxHeartbeats 4000000
/-! _law_done, _law_like. -/
namespace PD
open PySem L2
noncomputable def GLD (tk : Bool) : GF := Grun tk 7 false 2 ir_law_done [] []
theorem last_at (p : List Nat) (c : Nat) (r : List Nat) : atI (p ++ c :: r) (p.length : Int) = some c := atI_nat (xs := p ++ c :: r) (j := p.length) (v := c) (by simp)
abbrev sqBody : Ss := (.cons (.ife (.cmp .NotIn (.var 5) (.idx (.var 1) (.int 1))) (.cons (.set 3 (.bin .Add (.var 3) (.var 5))) .nil) (.cons (.ife (.and (.cmp .Eq (.var 2) (.str [115, 113, 117, 101, 101, 122, 101])) (.one (.or (.cmp .Eq (.var 4) (.int 0)) (.one (.cmp .NotEq (.idx (.var 0) (.bin .Sub (.var 4) (.int 1))) (.var 5)))))) (.cons (.set 3 (.bin .Add (.var 3) (.var 5))) .nil) (.cons (.ife (.and (.cmp .Eq (.var 2) (.str [106, 111, 105, 110])) (.one (.or (.cmp .Eq (.var 4) (.int 0)) (.one (.cmp .NotIn (.idx (.var 0) (.bin .Sub (.var 4) (.int 1))) (.idx (.var 1) (.int 1))))))) (.cons (.set 3 (.bin .Add (.var 3) (.idx (.var 1) (.int 2)))) .nil) .nil) .nil)) .nil)) .nil)
noncomputable abbrev sqF (P : Sg) : D → Env' → TS → Option Out := fun x ρ1 τ1 => (bindT (.cons (.nm 4) (.cons (.nm 5) .nil)) x ρ1).bind fun ρ2 => evB P sqBody ρ2 τ1
theorem lsq_loop (P : Sg) (s : List Nat) (τ : TS) : ∀ (r p f : List Nat) (g4 g5 g6 : Slot), f.length + r.length ≤ 4000 → (p ++ r).length ≤ 4000 →
    ∃ g4' g5', forL (sqF P) (enumD p.length (r.map fun c => .str [c])) [.d (.str (p ++ r)), .d (Stp.squeeze s).d, .d (.str [115, 113, 117, 101, 101, 122, 101]), .d (.str f), g4, g5, g6] τ
      = some (.nx [.d (.str (p ++ r)), .d (Stp.squeeze s).d, .d (.str [115, 113, 117, 101, 101, 122, 101]), .d (.str (f ++ sqL s p.getLast? r)), g4', g5', g6] τ)
  | [], p, f, g4, g5, g6, _, _ => ⟨g4, g5, by simp [forL, sqL, enumD]⟩
  | c :: r, p, f, g4, g5, g6, h, h' => by
    simp only [List.length_cons] at h
    have h2 := sl1 (show f.length + 1 ≤ 4000 by omega)
    have hpl := sl1 h'
    simp only [List.length_append, List.length_cons] at hpl
    have eP : p ++ c :: r = (p ++ [c]) ++ r := by simp
    have hl : (p ++ [c]).length = p.length + 1 := by simp
    have hla : (p ++ [c]).getLast? = some c := by simp
    rw [List.map_cons, enumD, sqL]
    have step : ∀ f1, evB P sqBody [.d (.str (p ++ c :: r)), .d (Stp.squeeze s).d, .d (.str [115, 113, 117, 101, 101, 122, 101]), .d (.str f), .d (.int p.length), .d (.str [c]), g6] τ = some (.nx [.d (.str (p ++ c :: r)), .d (Stp.squeeze s).d, .d (.str [115, 113, 117, 101, 101, 122, 101]), .d (.str f1), .d (.int p.length), .d (.str [c]), g6] τ) →
        f1.length + r.length ≤ 4000 → ∃ g4' g5', forL (sqF P) (.tup [.int p.length, .str [c]] :: enumD (p.length + 1) (r.map fun c => .str [c])) [.d (.str (p ++ c :: r)), .d (Stp.squeeze s).d, .d (.str [115, 113, 117, 101, 101, 122, 101]), .d (.str f), g4, g5, g6] τ
          = some (.nx [.d (.str (p ++ c :: r)), .d (Stp.squeeze s).d, .d (.str [115, 113, 117, 101, 101, 122, 101]), .d (.str (f1 ++ sqL s (some c) r)), g4', g5', g6] τ) := by
      intro f1 e1 hf
      obtain ⟨g4', g5', e⟩ := lsq_loop P s τ r (p ++ [c]) f1 (.d (.int p.length)) (.d (.str [c])) g6 hf (by rw [← eP]; exact h')
      refine ⟨g4', g5', ?_⟩
      rw [forL_step (ρ1 := [.d (.str (p ++ c :: r)), .d (Stp.squeeze s).d, .d (.str [115, 113, 117, 101, 101, 122, 101]), .d (.str f1), .d (.int p.length), .d (.str [c]), g6]) (τ1 := τ) (by simp only [sqF, bindT, Option.bind_some, List.set]; exact e1)]
      rw [hl, hla, ← eP] at e
      exact e
    by_cases hc : c ∈ s
    · by_cases hp : p.getLast? = some c
      · rw [if_pos ⟨hc, hp⟩]
        refine step f ?_ (by omega)
        obtain ⟨q, rfl⟩ : ∃ q, p = q ++ [c] := by
          rcases List.eq_nil_or_concat p with z | ⟨q, d, z⟩
          · subst z; simp at hp
          · subst z
            have : d = c := by simpa using hp
            exact ⟨q, by rw [this]; simp⟩
        have ha := last_at q c (c :: r)
        have hz : ¬ ((q.length : Int) + 1 = 0) := by omega
        simp only [List.length_append, List.length_singleton] at hpl
        have hpl' : q.length + (r.length + 1 + 1) ≤ sizeLine := by omega
        have hpl2 : q.length + 1 + (r.length + 1) ≤ sizeLine := by omega
        simp [evB, evS, ev, evs, evt, evp, evi, binD, cmpD, bD, mD, neD, eqD, truD, ixD, inD, inB, slD, lenD, intD, maxD, minD, addD, subD, negD, joinD, joinS, txsO, lowerD, upperD, startsD, endsD, stripD, with1, ordD, mulD, modD, fdivD, powD, intO, Out.then, bindT, setAll, itemsD, rangeD, runF, start', mkSg, mkSgG, opD, small62, wipeE, compL, forL, List.replicate, tyIs, sqBody, Stp.d, hc, hpl', hpl2, hz, ha]
      · rw [if_neg (fun z => hp z.2)]
        obtain ⟨g4', g5', e⟩ := step (f ++ [c]) (by
          rcases List.eq_nil_or_concat p with z | ⟨q, d, z⟩
          · subst z
            simp [evB, evS, ev, evs, evt, evp, evi, binD, cmpD, bD, mD, neD, eqD, truD, ixD, inD, inB, slD, lenD, intD, maxD, minD, addD, subD, negD, joinD, joinS, txsO, lowerD, upperD, startsD, endsD, stripD, with1, ordD, mulD, modD, fdivD, powD, intO, Out.then, bindT, setAll, itemsD, rangeD, runF, start', mkSg, mkSgG, opD, small62, wipeE, compL, forL, List.replicate, tyIs, sqBody, Stp.d, hc, h2]
          · have z : p = q ++ [d] := by rw [z]; simp
            subst z
            have hd : ¬ d = c := by simpa using hp
            have ha := last_at q d (c :: r)
            have hz : ¬ ((q.length : Int) + 1 = 0) := by omega
            simp only [List.length_append, List.length_singleton] at hpl
            have hpl' : q.length + (r.length + 1 + 1) ≤ sizeLine := by omega
            have hpl2 : q.length + 1 + (r.length + 1) ≤ sizeLine := by omega
            simp [evB, evS, ev, evs, evt, evp, evi, binD, cmpD, bD, mD, neD, eqD, truD, ixD, inD, inB, slD, lenD, intD, maxD, minD, addD, subD, negD, joinD, joinS, txsO, lowerD, upperD, startsD, endsD, stripD, with1, ordD, mulD, modD, fdivD, powD, intO, Out.then, bindT, setAll, itemsD, rangeD, runF, start', mkSg, mkSgG, opD, small62, wipeE, compL, forL, List.replicate, tyIs, sqBody, Stp.d, hc, h2, hpl', hpl2, hz, ha, hd]) (by simp; omega)
        exact ⟨g4', g5', by rw [e]; simp⟩
    · rw [if_neg (fun z => hc z.1)]
      obtain ⟨g4', g5', e⟩ := step (f ++ [c]) (by simp [evB, evS, ev, evs, evt, evp, evi, binD, cmpD, bD, mD, neD, eqD, truD, ixD, inD, inB, slD, lenD, intD, maxD, minD, addD, subD, negD, joinD, joinS, txsO, lowerD, upperD, startsD, endsD, stripD, with1, ordD, mulD, modD, fdivD, powD, intO, Out.then, bindT, setAll, itemsD, rangeD, runF, start', mkSg, mkSgG, opD, small62, wipeE, compL, forL, List.replicate, tyIs, sqBody, Stp.d, hc, h2]) (by simp; omega)
      exact ⟨g4', g5', by rw [e]; simp⟩
def prevIn (s : List Nat) (p : List Nat) : Bool := match p.getLast? with
  | some c => decide (c ∈ s)
  | none => false
theorem ljo_loop (P : Sg) (s : List Nat) (o : Nat) (τ : TS) : ∀ (r p f : List Nat) (g4 g5 g6 : Slot), f.length + r.length ≤ 4000 → (p ++ r).length ≤ 4000 →
    ∃ g4' g5', forL (sqF P) (enumD p.length (r.map fun c => .str [c])) [.d (.str (p ++ r)), .d (Stp.join s o).d, .d (.str [106, 111, 105, 110]), .d (.str f), g4, g5, g6] τ
      = some (.nx [.d (.str (p ++ r)), .d (Stp.join s o).d, .d (.str [106, 111, 105, 110]), .d (.str (f ++ joL s [o] (prevIn s p) r)), g4', g5', g6] τ)
  | [], p, f, g4, g5, g6, _, _ => ⟨g4, g5, by simp [forL, joL, enumD]⟩
  | c :: r, p, f, g4, g5, g6, h, h' => by
    simp only [List.length_cons] at h
    have h2 := sl1 (show f.length + 1 ≤ 4000 by omega)
    have hpl := sl1 h'
    simp only [List.length_append, List.length_cons] at hpl
    have eP : p ++ c :: r = (p ++ [c]) ++ r := by simp
    have hl : (p ++ [c]).length = p.length + 1 := by simp
    have hla : prevIn s (p ++ [c]) = decide (c ∈ s) := by simp [prevIn]
    rw [List.map_cons, enumD, joL]
    have step : ∀ f1, evB P sqBody [.d (.str (p ++ c :: r)), .d (Stp.join s o).d, .d (.str [106, 111, 105, 110]), .d (.str f), .d (.int p.length), .d (.str [c]), g6] τ = some (.nx [.d (.str (p ++ c :: r)), .d (Stp.join s o).d, .d (.str [106, 111, 105, 110]), .d (.str f1), .d (.int p.length), .d (.str [c]), g6] τ) →
        f1.length + r.length ≤ 4000 → ∃ g4' g5', forL (sqF P) (.tup [.int p.length, .str [c]] :: enumD (p.length + 1) (r.map fun c => .str [c])) [.d (.str (p ++ c :: r)), .d (Stp.join s o).d, .d (.str [106, 111, 105, 110]), .d (.str f), g4, g5, g6] τ
          = some (.nx [.d (.str (p ++ c :: r)), .d (Stp.join s o).d, .d (.str [106, 111, 105, 110]), .d (.str (f1 ++ joL s [o] (decide (c ∈ s)) r)), g4', g5', g6] τ) := by
      intro f1 e1 hf
      obtain ⟨g4', g5', e⟩ := ljo_loop P s o τ r (p ++ [c]) f1 (.d (.int p.length)) (.d (.str [c])) g6 hf (by rw [← eP]; exact h')
      refine ⟨g4', g5', ?_⟩
      rw [forL_step (ρ1 := [.d (.str (p ++ c :: r)), .d (Stp.join s o).d, .d (.str [106, 111, 105, 110]), .d (.str f1), .d (.int p.length), .d (.str [c]), g6]) (τ1 := τ) (by simp only [sqF, bindT, Option.bind_some, List.set]; exact e1)]
      rw [hl, hla, ← eP] at e
      exact e
    by_cases hc : c ∈ s
    · rw [if_pos hc]
      have hcd : decide (c ∈ s) = true := decide_eq_true hc
      rw [hcd] at step
      rcases List.eq_nil_or_concat p with z | ⟨q, d, z⟩
      · subst z
        obtain ⟨g4', g5', e⟩ := step (f ++ [o]) (by simp [evB, evS, ev, evs, evt, evp, evi, binD, cmpD, bD, mD, neD, eqD, truD, ixD, inD, inB, slD, lenD, intD, maxD, minD, addD, subD, negD, joinD, joinS, txsO, lowerD, upperD, startsD, endsD, stripD, with1, ordD, mulD, modD, fdivD, powD, intO, Out.then, bindT, setAll, itemsD, rangeD, runF, start', mkSg, mkSgG, opD, small62, wipeE, compL, forL, List.replicate, tyIs, sqBody, Stp.d, hc, h2]) (by simp; omega)
        exact ⟨g4', g5', by rw [e]; simp [prevIn]⟩
      · have z : p = q ++ [d] := by rw [z]; simp
        subst z
        have ha := last_at q d (c :: r)
        have hz : ¬ ((q.length : Int) + 1 = 0) := by omega
        simp only [List.length_append, List.length_singleton] at hpl
        have hpl' : q.length + (r.length + 1 + 1) ≤ sizeLine := by omega
        have hpl2 : q.length + 1 + (r.length + 1) ≤ sizeLine := by omega
        by_cases hd : d ∈ s
        · obtain ⟨g4', g5', e⟩ := step f (by simp [evB, evS, ev, evs, evt, evp, evi, binD, cmpD, bD, mD, neD, eqD, truD, ixD, inD, inB, slD, lenD, intD, maxD, minD, addD, subD, negD, joinD, joinS, txsO, lowerD, upperD, startsD, endsD, stripD, with1, ordD, mulD, modD, fdivD, powD, intO, Out.then, bindT, setAll, itemsD, rangeD, runF, start', mkSg, mkSgG, opD, small62, wipeE, compL, forL, List.replicate, tyIs, sqBody, Stp.d, hc, hpl', hpl2, hz, ha, hd]) (by omega)
          exact ⟨g4', g5', by rw [e]; simp [prevIn, hd]⟩
        · obtain ⟨g4', g5', e⟩ := step (f ++ [o]) (by simp [evB, evS, ev, evs, evt, evp, evi, binD, cmpD, bD, mD, neD, eqD, truD, ixD, inD, inB, slD, lenD, intD, maxD, minD, addD, subD, negD, joinD, joinS, txsO, lowerD, upperD, startsD, endsD, stripD, with1, ordD, mulD, modD, fdivD, powD, intO, Out.then, bindT, setAll, itemsD, rangeD, runF, start', mkSg, mkSgG, opD, small62, wipeE, compL, forL, List.replicate, tyIs, sqBody, Stp.d, hc, h2, hpl', hpl2, hz, ha, hd]) (by simp; omega)
          exact ⟨g4', g5', by rw [e]; simp [prevIn, hd]⟩
    · rw [if_neg hc]
      have hcd : decide (c ∈ s) = false := decide_eq_false hc
      rw [hcd] at step
      obtain ⟨g4', g5', e⟩ := step (f ++ [c]) (by simp [evB, evS, ev, evs, evt, evp, evi, binD, cmpD, bD, mD, neD, eqD, truD, ixD, inD, inB, slD, lenD, intD, maxD, minD, addD, subD, negD, joinD, joinS, txsO, lowerD, upperD, startsD, endsD, stripD, with1, ordD, mulD, modD, fdivD, powD, intO, Out.then, bindT, setAll, itemsD, rangeD, runF, start', mkSg, mkSgG, opD, small62, wipeE, compL, forL, List.replicate, tyIs, sqBody, Stp.d, hc, h2]) (by simp; omega)
      exact ⟨g4', g5', by rw [e]; simp⟩
end PD

set_option Elab.async false
set_option linter.all false
set_option maxRecDepth 100000
set_option maxHeartbeats 8000000
/-! _law_done of a step; _law_like of two texts. -/
namespace PD
open PySem L2
abbrev whB : Ss := (.cons (.ife (.cmp .In (.var 2) (.tup (.cons (.str [102, 114, 111, 110, 116]) (.cons (.str [102, 114, 111, 110, 116, 115]) .nil)))) (.cons (.set 6 (.cmp .Eq (.sl (.var 0) .nope (.blt .len (.cons (.idx (.var 1) (.int 1)) .nil))) (.idx (.var 1) (.int 1)))) (.cons (.set 0 (.ife (.val (.var 6)) (.sl (.var 0) (.blt .len (.cons (.idx (.var 1) (.int 1)) .nil)) .nope) (.var 0))) .nil)) (.cons (.set 6 (.and (.cmp .GtE (.blt .len (.cons (.var 0) .nil)) (.blt .len (.cons (.idx (.var 1) (.int 1)) .nil))) (.one (.cmp .Eq (.sl (.var 0) (.bin .Sub (.blt .len (.cons (.var 0) .nil)) (.blt .len (.cons (.idx (.var 1) (.int 1)) .nil))) .nope) (.idx (.var 1) (.int 1)))))) (.cons (.set 0 (.ife (.val (.var 6)) (.sl (.var 0) .nope (.bin .Sub (.blt .len (.cons (.var 0) .nil)) (.blt .len (.cons (.idx (.var 1) (.int 1)) .nil)))) (.var 0))) .nil))) (.cons (.set 6 (.and (.var 6) (.one (.cmp .In (.var 2) (.tup (.cons (.str [102, 114, 111, 110, 116, 115]) (.cons (.str [98, 97, 99, 107, 115]) .nil))))))) .nil))
abbrev FrW (st : D) (k : List Nat) (t : List Nat) (b : Bool) : Env' := [.d (.str t), .d st, .d (.str k), .un, .un, .un, .d (.bl b)]
theorem cut_subf (t : List Nat) (m : Nat) (h : m ≤ t.length) : cutL t (some ((t.length : Int) - (m : Int))) none = t.drop (t.length - m) := by
  have := cut_from t (t.length - m)
  rw [← this]
  congr 2
  omega
theorem whB_front (P : Sg) (w t : List Nat) (hw : w ≠ []) (hl : w.length ≤ 4000) (ht : t.length ≤ 4000) (τ : TS) :
    evB P whB (FrW (Stp.front w).d [102, 114, 111, 110, 116] t true) τ = some (.nx (FrW (Stp.front w).d [102, 114, 111, 110, 116] (if t.take w.length = w then t.drop w.length else t) false) τ) := by
  by_cases h : t.take w.length = w
  · simp [evB, evS, ev, evs, evt, evp, evi, binD, cmpD, bD, mD, neD, eqD, truD, ixD, inD, inB, slD, lenD, intD, maxD, minD, addD, subD, negD, joinD, joinS, txsO, lowerD, upperD, startsD, endsD, stripD, with1, ordD, mulD, modD, fdivD, powD, intO, Out.then, bindT, setAll, itemsD, rangeD, runF, start', mkSg, mkSgG, opD, small62, wipeE, compL, forL, List.replicate, tyIs, whB, FrW, Stp.d, okT, isMap, sl1, sl1 hl, sl1 ht, cut_to, cut_from, h]
  · simp [evB, evS, ev, evs, evt, evp, evi, binD, cmpD, bD, mD, neD, eqD, truD, ixD, inD, inB, slD, lenD, intD, maxD, minD, addD, subD, negD, joinD, joinS, txsO, lowerD, upperD, startsD, endsD, stripD, with1, ordD, mulD, modD, fdivD, powD, intO, Out.then, bindT, setAll, itemsD, rangeD, runF, start', mkSg, mkSgG, opD, small62, wipeE, compL, forL, List.replicate, tyIs, whB, FrW, Stp.d, okT, isMap, sl1, sl1 hl, sl1 ht, cut_to, cut_from, h]
theorem whB_fronts (P : Sg) (w t : List Nat) (hw : w ≠ []) (hl : w.length ≤ 4000) (ht : t.length ≤ 4000) (τ : TS) :
    evB P whB (FrW (Stp.fronts w).d [102, 114, 111, 110, 116, 115] t true) τ = some (.nx (FrW (Stp.fronts w).d [102, 114, 111, 110, 116, 115] (if t.take w.length = w then t.drop w.length else t) (decide (t.take w.length = w))) τ) := by
  by_cases h : t.take w.length = w
  · simp [evB, evS, ev, evs, evt, evp, evi, binD, cmpD, bD, mD, neD, eqD, truD, ixD, inD, inB, slD, lenD, intD, maxD, minD, addD, subD, negD, joinD, joinS, txsO, lowerD, upperD, startsD, endsD, stripD, with1, ordD, mulD, modD, fdivD, powD, intO, Out.then, bindT, setAll, itemsD, rangeD, runF, start', mkSg, mkSgG, opD, small62, wipeE, compL, forL, List.replicate, tyIs, whB, FrW, Stp.d, okT, isMap, sl1, sl1 hl, sl1 ht, cut_to, cut_from, h]
  · simp [evB, evS, ev, evs, evt, evp, evi, binD, cmpD, bD, mD, neD, eqD, truD, ixD, inD, inB, slD, lenD, intD, maxD, minD, addD, subD, negD, joinD, joinS, txsO, lowerD, upperD, startsD, endsD, stripD, with1, ordD, mulD, modD, fdivD, powD, intO, Out.then, bindT, setAll, itemsD, rangeD, runF, start', mkSg, mkSgG, opD, small62, wipeE, compL, forL, List.replicate, tyIs, whB, FrW, Stp.d, okT, isMap, sl1, sl1 hl, sl1 ht, cut_to, cut_from, h]
theorem whB_back (P : Sg) (w t : List Nat) (hw : w ≠ []) (hl : w.length ≤ 4000) (ht : t.length ≤ 4000) (τ : TS) :
    evB P whB (FrW (Stp.back w).d [98, 97, 99, 107] t true) τ = some (.nx (FrW (Stp.back w).d [98, 97, 99, 107] (if w.length ≤ t.length ∧ t.drop (t.length - w.length) = w then t.take (t.length - w.length) else t) false) τ) := by
  by_cases h1 : w.length ≤ t.length
  · by_cases h : t.drop (t.length - w.length) = w
    · simp [evB, evS, ev, evs, evt, evp, evi, binD, cmpD, bD, mD, neD, eqD, truD, ixD, inD, inB, slD, lenD, intD, maxD, minD, addD, subD, negD, joinD, joinS, txsO, lowerD, upperD, startsD, endsD, stripD, with1, ordD, mulD, modD, fdivD, powD, intO, Out.then, bindT, setAll, itemsD, rangeD, runF, start', mkSg, mkSgG, opD, small62, wipeE, compL, forL, List.replicate, tyIs, whB, FrW, Stp.d, okT, isMap, sl1, sl1 hl, sl1 ht, cut_subf t w.length h1, cut_sub t w.length h1, h, h1, Nat.not_lt.mpr h1]
    · simp [evB, evS, ev, evs, evt, evp, evi, binD, cmpD, bD, mD, neD, eqD, truD, ixD, inD, inB, slD, lenD, intD, maxD, minD, addD, subD, negD, joinD, joinS, txsO, lowerD, upperD, startsD, endsD, stripD, with1, ordD, mulD, modD, fdivD, powD, intO, Out.then, bindT, setAll, itemsD, rangeD, runF, start', mkSg, mkSgG, opD, small62, wipeE, compL, forL, List.replicate, tyIs, whB, FrW, Stp.d, okT, isMap, sl1, sl1 hl, sl1 ht, cut_subf t w.length h1, cut_sub t w.length h1, h, h1, Nat.not_lt.mpr h1]
  · simp [evB, evS, ev, evs, evt, evp, evi, binD, cmpD, bD, mD, neD, eqD, truD, ixD, inD, inB, slD, lenD, intD, maxD, minD, addD, subD, negD, joinD, joinS, txsO, lowerD, upperD, startsD, endsD, stripD, with1, ordD, mulD, modD, fdivD, powD, intO, Out.then, bindT, setAll, itemsD, rangeD, runF, start', mkSg, mkSgG, opD, small62, wipeE, compL, forL, List.replicate, tyIs, whB, FrW, Stp.d, okT, isMap, sl1, sl1 hl, sl1 ht, h1, Nat.lt_of_not_le h1]
theorem whB_backs (P : Sg) (w t : List Nat) (hw : w ≠ []) (hl : w.length ≤ 4000) (ht : t.length ≤ 4000) (τ : TS) :
    evB P whB (FrW (Stp.backs w).d [98, 97, 99, 107, 115] t true) τ = some (.nx (FrW (Stp.backs w).d [98, 97, 99, 107, 115] (if w.length ≤ t.length ∧ t.drop (t.length - w.length) = w then t.take (t.length - w.length) else t) (decide (w.length ≤ t.length ∧ t.drop (t.length - w.length) = w))) τ) := by
  by_cases h1 : w.length ≤ t.length
  · by_cases h : t.drop (t.length - w.length) = w
    · simp [evB, evS, ev, evs, evt, evp, evi, binD, cmpD, bD, mD, neD, eqD, truD, ixD, inD, inB, slD, lenD, intD, maxD, minD, addD, subD, negD, joinD, joinS, txsO, lowerD, upperD, startsD, endsD, stripD, with1, ordD, mulD, modD, fdivD, powD, intO, Out.then, bindT, setAll, itemsD, rangeD, runF, start', mkSg, mkSgG, opD, small62, wipeE, compL, forL, List.replicate, tyIs, whB, FrW, Stp.d, okT, isMap, sl1, sl1 hl, sl1 ht, cut_subf t w.length h1, cut_sub t w.length h1, h, h1, Nat.not_lt.mpr h1]
    · simp [evB, evS, ev, evs, evt, evp, evi, binD, cmpD, bD, mD, neD, eqD, truD, ixD, inD, inB, slD, lenD, intD, maxD, minD, addD, subD, negD, joinD, joinS, txsO, lowerD, upperD, startsD, endsD, stripD, with1, ordD, mulD, modD, fdivD, powD, intO, Out.then, bindT, setAll, itemsD, rangeD, runF, start', mkSg, mkSgG, opD, small62, wipeE, compL, forL, List.replicate, tyIs, whB, FrW, Stp.d, okT, isMap, sl1, sl1 hl, sl1 ht, cut_subf t w.length h1, cut_sub t w.length h1, h, h1, Nat.not_lt.mpr h1]
  · simp [evB, evS, ev, evs, evt, evp, evi, binD, cmpD, bD, mD, neD, eqD, truD, ixD, inD, inB, slD, lenD, intD, maxD, minD, addD, subD, negD, joinD, joinS, txsO, lowerD, upperD, startsD, endsD, stripD, with1, ordD, mulD, modD, fdivD, powD, intO, Out.then, bindT, setAll, itemsD, rangeD, runF, start', mkSg, mkSgG, opD, small62, wipeE, compL, forL, List.replicate, tyIs, whB, FrW, Stp.d, okT, isMap, sl1, sl1 hl, sl1 ht, h1, Nat.lt_of_not_le h1]
theorem wh_more (P : Sg) (st : D) (k t : List Nat) (b : Bool) (τ : TS) : evt P (.val (.var 6)) (FrW st k t b) τ = some (b, τ) := by simp [evB, evS, ev, evs, evt, evp, evi, binD, cmpD, bD, mD, neD, eqD, truD, ixD, inD, inB, slD, lenD, intD, maxD, minD, addD, subD, negD, joinD, joinS, txsO, lowerD, upperD, startsD, endsD, stripD, with1, ordD, mulD, modD, fdivD, powD, intO, Out.then, bindT, setAll, itemsD, rangeD, runF, start', mkSg, mkSgG, opD, small62, wipeE, compL, forL, List.replicate, tyIs, FrW]
theorem wh_once (P : Sg) (st : D) (k t t' : List Nat) (τ : TS) (h : evB P whB (FrW st k t true) τ = some (.nx (FrW st k t' false) τ)) : evS P (.whl (.val (.var 6)) whB) (FrW st k t true) τ = some (.nx (FrW st k t' false) τ) := by
  rw [evS]
  exact whL_go (wh_more P st k t true τ) h (whL_stop (wh_more P st k t' false τ))
theorem wh_fronts (P : Sg) (w : List Nat) (hw : w ≠ []) (hl : w.length ≤ 4000) (τ : TS) : ∀ (n : Nat) (t : List Nat), t.length ≤ n → t.length ≤ 4000 →
    evS P (.whl (.val (.var 6)) whB) (FrW (Stp.fronts w).d [102, 114, 111, 110, 116, 115] t true) τ = some (.nx (FrW (Stp.fronts w).d [102, 114, 111, 110, 116, 115] (frS w n t) false) τ) := by
  intro n
  have hl0 : 0 < w.length := List.length_pos_iff.mpr hw
  induction n with
  | zero =>
    intro t h0 ht
    obtain rfl := List.length_eq_zero_iff.mp (Nat.le_zero.mp h0)
    have e := whB_fronts P w [] hw hl ht τ
    have hn : ¬ ([] : List Nat).take w.length = w := by simp; exact fun z => hw z
    rw [if_neg hn, decide_eq_false hn] at e
    exact wh_once P _ _ _ _ τ e
  | succ n ih =>
    intro t h0 ht
    have e := whB_fronts P w t hw hl ht τ
    rw [frS]
    by_cases h : t.take w.length = w
    · rw [if_pos h, decide_eq_true h] at e
      rw [if_pos h]
      have hne : t.length ≠ 0 := fun z => by
        obtain rfl := List.length_eq_zero_iff.mp z
        simp at h; exact hw h
      have i1 := ih (t.drop w.length) (by rw [List.length_drop]; omega) (by rw [List.length_drop]; omega)
      rw [evS] at i1 ⊢
      exact whL_go (wh_more P _ _ t true τ) e i1
    · rw [if_neg h, decide_eq_false h] at e
      rw [if_neg h]
      exact wh_once P _ _ _ _ τ e
theorem wh_backs (P : Sg) (w : List Nat) (hw : w ≠ []) (hl : w.length ≤ 4000) (τ : TS) : ∀ (n : Nat) (t : List Nat), t.length ≤ n → t.length ≤ 4000 →
    evS P (.whl (.val (.var 6)) whB) (FrW (Stp.backs w).d [98, 97, 99, 107, 115] t true) τ = some (.nx (FrW (Stp.backs w).d [98, 97, 99, 107, 115] (bkS w n t) false) τ) := by
  intro n
  have hl0 : 0 < w.length := List.length_pos_iff.mpr hw
  induction n with
  | zero =>
    intro t h0 ht
    have e := whB_backs P w t hw hl ht τ
    have hn : ¬ (w.length ≤ t.length ∧ t.drop (t.length - w.length) = w) := fun z => by omega
    rw [if_neg hn, decide_eq_false hn] at e
    exact wh_once P _ _ _ _ τ e
  | succ n ih =>
    intro t h0 ht
    have e := whB_backs P w t hw hl ht τ
    rw [bkS]
    by_cases h : w.length ≤ t.length ∧ t.drop (t.length - w.length) = w
    · rw [if_pos h, decide_eq_true h] at e
      rw [if_pos h]
      have i1 := ih (t.take (t.length - w.length)) (by rw [List.length_take]; omega) (by rw [List.length_take]; omega)
      rw [evS] at i1 ⊢
      exact whL_go (wh_more P _ _ t true τ) e i1
    · rw [if_neg h, decide_eq_false h] at e
      rw [if_neg h]
      exact wh_once P _ _ _ _ τ e
theorem lawdone_ok (tk : Bool) (ns : List Int) (t : List Nat) (s : Stp) (τ : TS) (hs : s.ok) (h2 : t.length ≤ 4000) (ha : ∀ c ∈ t, c < 128) : GLD tk ns [.str t, s.d] τ = some (.str (s.ap t), τ) := by
  have e1 := sl1 h2
  have e5 : t.length ≤ 5592405 := by omega
  refine Grun_in rfl ?_
  show evB _ ir_law_done [.d (.str t), .d s.d, .un, .un, .un, .un, .un] τ = _
  unfold ir_law_done
  generalize mkSg tk [] [] ns = P
  cases s
  · simp [evB, evS, ev, evs, evt, evp, evi, binD, cmpD, bD, mD, neD, eqD, truD, ixD, inD, inB, slD, lenD, intD, maxD, minD, addD, subD, negD, joinD, joinS, txsO, lowerD, upperD, startsD, endsD, stripD, with1, ordD, mulD, modD, fdivD, powD, intO, Out.then, bindT, setAll, itemsD, rangeD, runF, start', mkSg, mkSgG, opD, small62, wipeE, compL, forL, List.replicate, tyIs, Stp.d, Stp.ap, e5, lower_l ha]
  · rename_i x y
    rw [evB_nx (ρ1 := [.d (.str t), .d (Stp.map x y).d, .d (.str mapW), .un, .un, .un, .un]) (τ1 := τ) (by simp [evB, evS, ev, evs, evt, evp, evi, binD, cmpD, bD, mD, neD, eqD, truD, ixD, inD, inB, slD, lenD, intD, maxD, minD, addD, subD, negD, joinD, joinS, txsO, lowerD, upperD, startsD, endsD, stripD, with1, ordD, mulD, modD, fdivD, powD, intO, Out.then, bindT, setAll, itemsD, rangeD, runF, start', mkSg, mkSgG, opD, small62, wipeE, compL, forL, List.replicate, tyIs, Stp.d])]
    rw [evB_nx (ρ1 := [.d (.str t), .d (Stp.map x y).d, .d (.str mapW), .un, .un, .un, .un]) (τ1 := τ) (by simp [evB, evS, ev, evs, evt, evp, evi, binD, cmpD, bD, mD, neD, eqD, truD, ixD, inD, inB, slD, lenD, intD, maxD, minD, addD, subD, negD, joinD, joinS, txsO, lowerD, upperD, startsD, endsD, stripD, with1, ordD, mulD, modD, fdivD, powD, intO, Out.then, bindT, setAll, itemsD, rangeD, runF, start', mkSg, mkSgG, opD, small62, wipeE, compL, forL, List.replicate, tyIs, Stp.d, mapW])]
    have hcomp : compL (cbody P (.ife (.cmp .Eq (.var 5) (.idx (.var 1) (.int 1))) (.idx (.var 1) (.int 2)) (.var 5)) (.nm 5) .yes [5] [.d (.str t), .d (Stp.map x y).d, .d (.str mapW), .un, .un, .un, .un]) (t.map fun c => .str [c]) τ = some ((t.map fun c => [if c = x then y else c]).map .str, τ) := by
      refine compL_chars fun c hc => ?_
      by_cases hm : c = x <;> simp [cbody, evB, evS, ev, evs, evt, evp, evi, binD, cmpD, bD, mD, neD, eqD, truD, ixD, inD, inB, slD, lenD, intD, maxD, minD, addD, subD, negD, joinD, joinS, txsO, lowerD, upperD, startsD, endsD, stripD, with1, ordD, mulD, modD, fdivD, powD, intO, Out.then, bindT, setAll, itemsD, rangeD, runF, start', mkSg, mkSgG, opD, small62, wipeE, compL, forL, List.replicate, tyIs, Stp.d, hm]
    exact evB_rt (evS_t (τ1 := τ) (by simp [evB, evS, ev, evs, evt, evp, evi, binD, cmpD, bD, mD, neD, eqD, truD, ixD, inD, inB, slD, lenD, intD, maxD, minD, addD, subD, negD, joinD, joinS, txsO, lowerD, upperD, startsD, endsD, stripD, with1, ordD, mulD, modD, fdivD, powD, intO, Out.then, bindT, setAll, itemsD, rangeD, runF, start', mkSg, mkSgG, opD, small62, wipeE, compL, forL, List.replicate, tyIs, mapW]) (evB_rt (evS_ret (ev_join (ev_comp (τ1 := τ) (by simp [evB, evS, ev, evs, evt, evp, evi, binD, cmpD, bD, mD, neD, eqD, truD, ixD, inD, inB, slD, lenD, intD, maxD, minD, addD, subD, negD, joinD, joinS, txsO, lowerD, upperD, startsD, endsD, stripD, with1, ordD, mulD, modD, fdivD, powD, intO, Out.then, bindT, setAll, itemsD, rangeD, runF, start', mkSg, mkSgG, opD, small62, wipeE, compL, forL, List.replicate, tyIs]) hcomp (by rw [List.length_map, List.length_map]; exact e1)) (join_ones (fun c => if c = x then y else c) t h2)))))
  · rename_i s
    rw [evB_nx (ρ1 := [.d (.str t), .d (Stp.drop s).d, .d (.str [100, 114, 111, 112]), .un, .un, .un, .un]) (τ1 := τ) (by simp [evB, evS, ev, evs, evt, evp, evi, binD, cmpD, bD, mD, neD, eqD, truD, ixD, inD, inB, slD, lenD, intD, maxD, minD, addD, subD, negD, joinD, joinS, txsO, lowerD, upperD, startsD, endsD, stripD, with1, ordD, mulD, modD, fdivD, powD, intO, Out.then, bindT, setAll, itemsD, rangeD, runF, start', mkSg, mkSgG, opD, small62, wipeE, compL, forL, List.replicate, tyIs, Stp.d])]
    have hcomp : compL (cbody P (.var 5) (.nm 5) (.cmp .NotIn (.var 5) (.idx (.var 1) (.int 1))) [5] [.d (.str t), .d (Stp.drop s).d, .d (.str [100, 114, 111, 112]), .un, .un, .un, .un]) (t.map fun c => .str [c]) τ = some (((t.filter fun c => !decide (c ∈ s)).map fun c => [c]).map .str, τ) := by
      refine compL_filt fun c hc => ?_
      by_cases hm : c ∈ s <;> simp [cbody, evB, evS, ev, evs, evt, evp, evi, binD, cmpD, bD, mD, neD, eqD, truD, ixD, inD, inB, slD, lenD, intD, maxD, minD, addD, subD, negD, joinD, joinS, txsO, lowerD, upperD, startsD, endsD, stripD, with1, ordD, mulD, modD, fdivD, powD, intO, Out.then, bindT, setAll, itemsD, rangeD, runF, start', mkSg, mkSgG, opD, small62, wipeE, compL, forL, List.replicate, tyIs, Stp.d, hm]
    have hl : (t.filter fun c => !decide (c ∈ s)).length ≤ 4000 := Nat.le_trans (List.length_filter_le _ _) h2
    have hj := join_ones (fun c => c) (t.filter fun c => !decide (c ∈ s)) hl
    rw [List.map_id'] at hj
    exact evB_rt (evS_t (τ1 := τ) (by simp [evB, evS, ev, evs, evt, evp, evi, binD, cmpD, bD, mD, neD, eqD, truD, ixD, inD, inB, slD, lenD, intD, maxD, minD, addD, subD, negD, joinD, joinS, txsO, lowerD, upperD, startsD, endsD, stripD, with1, ordD, mulD, modD, fdivD, powD, intO, Out.then, bindT, setAll, itemsD, rangeD, runF, start', mkSg, mkSgG, opD, small62, wipeE, compL, forL, List.replicate, tyIs]) (evB_rt (evS_ret (ev_join (ev_comp (τ1 := τ) (by simp [evB, evS, ev, evs, evt, evp, evi, binD, cmpD, bD, mD, neD, eqD, truD, ixD, inD, inB, slD, lenD, intD, maxD, minD, addD, subD, negD, joinD, joinS, txsO, lowerD, upperD, startsD, endsD, stripD, with1, ordD, mulD, modD, fdivD, powD, intO, Out.then, bindT, setAll, itemsD, rangeD, runF, start', mkSg, mkSgG, opD, small62, wipeE, compL, forL, List.replicate, tyIs]) hcomp (by rw [List.length_map, List.length_map]; exact sl1 hl)) hj))))
  · rename_i s
    simp [evB, evS, ev, evs, evt, evp, evi, binD, cmpD, bD, mD, neD, eqD, truD, ixD, inD, inB, slD, lenD, intD, maxD, minD, addD, subD, negD, joinD, joinS, txsO, lowerD, upperD, startsD, endsD, stripD, with1, ordD, mulD, modD, fdivD, powD, intO, Out.then, bindT, setAll, itemsD, rangeD, runF, start', mkSg, mkSgG, opD, small62, wipeE, compL, forL, List.replicate, tyIs, Stp.d, Stp.ap, e1, strip_l]
  · rename_i s
    obtain ⟨g4, g5, e⟩ := lsq_loop P s τ t [] [] .un .un .un (by simpa using h2) (by simpa using h2)
    rw [evB_nx (ρ1 := [.d (.str t), .d (Stp.squeeze s).d, .d (.str [115, 113, 117, 101, 101, 122, 101]), .un, .un, .un, .un]) (τ1 := τ) (by simp [evB, evS, ev, evs, evt, evp, evi, binD, cmpD, bD, mD, neD, eqD, truD, ixD, inD, inB, slD, lenD, intD, maxD, minD, addD, subD, negD, joinD, joinS, txsO, lowerD, upperD, startsD, endsD, stripD, with1, ordD, mulD, modD, fdivD, powD, intO, Out.then, bindT, setAll, itemsD, rangeD, runF, start', mkSg, mkSgG, opD, small62, wipeE, compL, forL, List.replicate, tyIs, Stp.d])]
    iterate 6 rw [evB_nx (ρ1 := [.d (.str t), .d (Stp.squeeze s).d, .d (.str [115, 113, 117, 101, 101, 122, 101]), .un, .un, .un, .un]) (τ1 := τ) (by simp [evB, evS, ev, evs, evt, evp, evi, binD, cmpD, bD, mD, neD, eqD, truD, ixD, inD, inB, slD, lenD, intD, maxD, minD, addD, subD, negD, joinD, joinS, txsO, lowerD, upperD, startsD, endsD, stripD, with1, ordD, mulD, modD, fdivD, powD, intO, Out.then, bindT, setAll, itemsD, rangeD, runF, start', mkSg, mkSgG, opD, small62, wipeE, compL, forL, List.replicate, tyIs, Stp.d])]
    refine evB_rt (evS_t (τ1 := τ) (by simp [evB, evS, ev, evs, evt, evp, evi, binD, cmpD, bD, mD, neD, eqD, truD, ixD, inD, inB, slD, lenD, intD, maxD, minD, addD, subD, negD, joinD, joinS, txsO, lowerD, upperD, startsD, endsD, stripD, with1, ordD, mulD, modD, fdivD, powD, intO, Out.then, bindT, setAll, itemsD, rangeD, runF, start', mkSg, mkSgG, opD, small62, wipeE, compL, forL, List.replicate, tyIs, Stp.d, okT, isMap, sl1]) ?_)
    rw [evB_nx (ρ1 := [.d (.str t), .d (Stp.squeeze s).d, .d (.str [115, 113, 117, 101, 101, 122, 101]), .d (.str []), .un, .un, .un]) (τ1 := τ) (by simp [evB, evS, ev, evs, evt, evp, evi, binD, cmpD, bD, mD, neD, eqD, truD, ixD, inD, inB, slD, lenD, intD, maxD, minD, addD, subD, negD, joinD, joinS, txsO, lowerD, upperD, startsD, endsD, stripD, with1, ordD, mulD, modD, fdivD, powD, intO, Out.then, bindT, setAll, itemsD, rangeD, runF, start', mkSg, mkSgG, opD, small62, wipeE, compL, forL, List.replicate, tyIs])]
    simp only [List.nil_append, List.length_nil] at e
    refine (evB_nx (evS_fr (it := .enum (.var 0)) (xs := enumD 0 (t.map fun c => .str [c])) (τ1 := τ) (by simp [evi, ev, itemsD]) e)).trans ?_
    refine evB_rt (evS_ret ?_)
    simp [ev, Stp.ap]
  · rename_i s o
    obtain ⟨g4, g5, e⟩ := ljo_loop P s o τ t [] [] .un .un .un (by simpa using h2) (by simpa using h2)
    rw [evB_nx (ρ1 := [.d (.str t), .d (Stp.join s o).d, .d (.str [106, 111, 105, 110]), .un, .un, .un, .un]) (τ1 := τ) (by simp [evB, evS, ev, evs, evt, evp, evi, binD, cmpD, bD, mD, neD, eqD, truD, ixD, inD, inB, slD, lenD, intD, maxD, minD, addD, subD, negD, joinD, joinS, txsO, lowerD, upperD, startsD, endsD, stripD, with1, ordD, mulD, modD, fdivD, powD, intO, Out.then, bindT, setAll, itemsD, rangeD, runF, start', mkSg, mkSgG, opD, small62, wipeE, compL, forL, List.replicate, tyIs, Stp.d])]
    iterate 6 rw [evB_nx (ρ1 := [.d (.str t), .d (Stp.join s o).d, .d (.str [106, 111, 105, 110]), .un, .un, .un, .un]) (τ1 := τ) (by simp [evB, evS, ev, evs, evt, evp, evi, binD, cmpD, bD, mD, neD, eqD, truD, ixD, inD, inB, slD, lenD, intD, maxD, minD, addD, subD, negD, joinD, joinS, txsO, lowerD, upperD, startsD, endsD, stripD, with1, ordD, mulD, modD, fdivD, powD, intO, Out.then, bindT, setAll, itemsD, rangeD, runF, start', mkSg, mkSgG, opD, small62, wipeE, compL, forL, List.replicate, tyIs, Stp.d])]
    refine evB_rt (evS_t (τ1 := τ) (by simp [evB, evS, ev, evs, evt, evp, evi, binD, cmpD, bD, mD, neD, eqD, truD, ixD, inD, inB, slD, lenD, intD, maxD, minD, addD, subD, negD, joinD, joinS, txsO, lowerD, upperD, startsD, endsD, stripD, with1, ordD, mulD, modD, fdivD, powD, intO, Out.then, bindT, setAll, itemsD, rangeD, runF, start', mkSg, mkSgG, opD, small62, wipeE, compL, forL, List.replicate, tyIs, Stp.d, okT, isMap, sl1]) ?_)
    rw [evB_nx (ρ1 := [.d (.str t), .d (Stp.join s o).d, .d (.str [106, 111, 105, 110]), .d (.str []), .un, .un, .un]) (τ1 := τ) (by simp [evB, evS, ev, evs, evt, evp, evi, binD, cmpD, bD, mD, neD, eqD, truD, ixD, inD, inB, slD, lenD, intD, maxD, minD, addD, subD, negD, joinD, joinS, txsO, lowerD, upperD, startsD, endsD, stripD, with1, ordD, mulD, modD, fdivD, powD, intO, Out.then, bindT, setAll, itemsD, rangeD, runF, start', mkSg, mkSgG, opD, small62, wipeE, compL, forL, List.replicate, tyIs])]
    simp only [List.nil_append, List.length_nil] at e
    refine (evB_nx (evS_fr (it := .enum (.var 0)) (xs := enumD 0 (t.map fun c => .str [c])) (τ1 := τ) (by simp [evi, ev, itemsD]) e)).trans ?_
    refine evB_rt (evS_ret ?_)
    simp [ev, Stp.ap, prevIn]
  · rename_i w
    obtain ⟨w1, w2⟩ := hs
    rw [evB_nx (ρ1 := [.d (.str t), .d (Stp.front w).d, .d (.str [102, 114, 111, 110, 116]), .un, .un, .un, .un]) (τ1 := τ) (by simp [evB, evS, ev, evs, evt, evp, evi, binD, cmpD, bD, mD, neD, eqD, truD, ixD, inD, inB, slD, lenD, intD, maxD, minD, addD, subD, negD, joinD, joinS, txsO, lowerD, upperD, startsD, endsD, stripD, with1, ordD, mulD, modD, fdivD, powD, intO, Out.then, bindT, setAll, itemsD, rangeD, runF, start', mkSg, mkSgG, opD, small62, wipeE, compL, forL, List.replicate, tyIs, Stp.d])]
    iterate 7 rw [evB_nx (ρ1 := [.d (.str t), .d (Stp.front w).d, .d (.str [102, 114, 111, 110, 116]), .un, .un, .un, .un]) (τ1 := τ) (by simp [evB, evS, ev, evs, evt, evp, evi, binD, cmpD, bD, mD, neD, eqD, truD, ixD, inD, inB, slD, lenD, intD, maxD, minD, addD, subD, negD, joinD, joinS, txsO, lowerD, upperD, startsD, endsD, stripD, with1, ordD, mulD, modD, fdivD, powD, intO, Out.then, bindT, setAll, itemsD, rangeD, runF, start', mkSg, mkSgG, opD, small62, wipeE, compL, forL, List.replicate, tyIs, Stp.d, okT, isMap, sl1])]
    rw [evB_nx (ρ1 := FrW (Stp.front w).d [102, 114, 111, 110, 116] t true) (τ1 := τ) (by simp [evB, evS, ev, evs, evt, evp, evi, binD, cmpD, bD, mD, neD, eqD, truD, ixD, inD, inB, slD, lenD, intD, maxD, minD, addD, subD, negD, joinD, joinS, txsO, lowerD, upperD, startsD, endsD, stripD, with1, ordD, mulD, modD, fdivD, powD, intO, Out.then, bindT, setAll, itemsD, rangeD, runF, start', mkSg, mkSgG, opD, small62, wipeE, compL, forL, List.replicate, tyIs, FrW])]
    rw [evB_nx (wh_once P _ _ _ _ τ (whB_front P w t w1 w2 h2 τ))]
    refine evB_rt (evS_ret ?_)
    simp [ev, Stp.ap, frF, FrW]
  · rename_i w
    obtain ⟨w1, w2⟩ := hs
    rw [evB_nx (ρ1 := [.d (.str t), .d (Stp.fronts w).d, .d (.str [102, 114, 111, 110, 116, 115]), .un, .un, .un, .un]) (τ1 := τ) (by simp [evB, evS, ev, evs, evt, evp, evi, binD, cmpD, bD, mD, neD, eqD, truD, ixD, inD, inB, slD, lenD, intD, maxD, minD, addD, subD, negD, joinD, joinS, txsO, lowerD, upperD, startsD, endsD, stripD, with1, ordD, mulD, modD, fdivD, powD, intO, Out.then, bindT, setAll, itemsD, rangeD, runF, start', mkSg, mkSgG, opD, small62, wipeE, compL, forL, List.replicate, tyIs, Stp.d])]
    iterate 7 rw [evB_nx (ρ1 := [.d (.str t), .d (Stp.fronts w).d, .d (.str [102, 114, 111, 110, 116, 115]), .un, .un, .un, .un]) (τ1 := τ) (by simp [evB, evS, ev, evs, evt, evp, evi, binD, cmpD, bD, mD, neD, eqD, truD, ixD, inD, inB, slD, lenD, intD, maxD, minD, addD, subD, negD, joinD, joinS, txsO, lowerD, upperD, startsD, endsD, stripD, with1, ordD, mulD, modD, fdivD, powD, intO, Out.then, bindT, setAll, itemsD, rangeD, runF, start', mkSg, mkSgG, opD, small62, wipeE, compL, forL, List.replicate, tyIs, Stp.d, okT, isMap, sl1])]
    rw [evB_nx (ρ1 := FrW (Stp.fronts w).d [102, 114, 111, 110, 116, 115] t true) (τ1 := τ) (by simp [evB, evS, ev, evs, evt, evp, evi, binD, cmpD, bD, mD, neD, eqD, truD, ixD, inD, inB, slD, lenD, intD, maxD, minD, addD, subD, negD, joinD, joinS, txsO, lowerD, upperD, startsD, endsD, stripD, with1, ordD, mulD, modD, fdivD, powD, intO, Out.then, bindT, setAll, itemsD, rangeD, runF, start', mkSg, mkSgG, opD, small62, wipeE, compL, forL, List.replicate, tyIs, FrW])]
    rw [evB_nx (wh_fronts P w w1 w2 τ t.length t (Nat.le_refl _) h2)]
    refine evB_rt (evS_ret ?_)
    simp [ev, Stp.ap, frF, FrW]
  · rename_i w
    obtain ⟨w1, w2⟩ := hs
    rw [evB_nx (ρ1 := [.d (.str t), .d (Stp.back w).d, .d (.str [98, 97, 99, 107]), .un, .un, .un, .un]) (τ1 := τ) (by simp [evB, evS, ev, evs, evt, evp, evi, binD, cmpD, bD, mD, neD, eqD, truD, ixD, inD, inB, slD, lenD, intD, maxD, minD, addD, subD, negD, joinD, joinS, txsO, lowerD, upperD, startsD, endsD, stripD, with1, ordD, mulD, modD, fdivD, powD, intO, Out.then, bindT, setAll, itemsD, rangeD, runF, start', mkSg, mkSgG, opD, small62, wipeE, compL, forL, List.replicate, tyIs, Stp.d])]
    iterate 7 rw [evB_nx (ρ1 := [.d (.str t), .d (Stp.back w).d, .d (.str [98, 97, 99, 107]), .un, .un, .un, .un]) (τ1 := τ) (by simp [evB, evS, ev, evs, evt, evp, evi, binD, cmpD, bD, mD, neD, eqD, truD, ixD, inD, inB, slD, lenD, intD, maxD, minD, addD, subD, negD, joinD, joinS, txsO, lowerD, upperD, startsD, endsD, stripD, with1, ordD, mulD, modD, fdivD, powD, intO, Out.then, bindT, setAll, itemsD, rangeD, runF, start', mkSg, mkSgG, opD, small62, wipeE, compL, forL, List.replicate, tyIs, Stp.d, okT, isMap, sl1])]
    rw [evB_nx (ρ1 := FrW (Stp.back w).d [98, 97, 99, 107] t true) (τ1 := τ) (by simp [evB, evS, ev, evs, evt, evp, evi, binD, cmpD, bD, mD, neD, eqD, truD, ixD, inD, inB, slD, lenD, intD, maxD, minD, addD, subD, negD, joinD, joinS, txsO, lowerD, upperD, startsD, endsD, stripD, with1, ordD, mulD, modD, fdivD, powD, intO, Out.then, bindT, setAll, itemsD, rangeD, runF, start', mkSg, mkSgG, opD, small62, wipeE, compL, forL, List.replicate, tyIs, FrW])]
    rw [evB_nx (wh_once P _ _ _ _ τ (whB_back P w t w1 w2 h2 τ))]
    refine evB_rt (evS_ret ?_)
    simp [ev, Stp.ap, bkF, FrW]
  · rename_i w
    obtain ⟨w1, w2⟩ := hs
    rw [evB_nx (ρ1 := [.d (.str t), .d (Stp.backs w).d, .d (.str [98, 97, 99, 107, 115]), .un, .un, .un, .un]) (τ1 := τ) (by simp [evB, evS, ev, evs, evt, evp, evi, binD, cmpD, bD, mD, neD, eqD, truD, ixD, inD, inB, slD, lenD, intD, maxD, minD, addD, subD, negD, joinD, joinS, txsO, lowerD, upperD, startsD, endsD, stripD, with1, ordD, mulD, modD, fdivD, powD, intO, Out.then, bindT, setAll, itemsD, rangeD, runF, start', mkSg, mkSgG, opD, small62, wipeE, compL, forL, List.replicate, tyIs, Stp.d])]
    iterate 7 rw [evB_nx (ρ1 := [.d (.str t), .d (Stp.backs w).d, .d (.str [98, 97, 99, 107, 115]), .un, .un, .un, .un]) (τ1 := τ) (by simp [evB, evS, ev, evs, evt, evp, evi, binD, cmpD, bD, mD, neD, eqD, truD, ixD, inD, inB, slD, lenD, intD, maxD, minD, addD, subD, negD, joinD, joinS, txsO, lowerD, upperD, startsD, endsD, stripD, with1, ordD, mulD, modD, fdivD, powD, intO, Out.then, bindT, setAll, itemsD, rangeD, runF, start', mkSg, mkSgG, opD, small62, wipeE, compL, forL, List.replicate, tyIs, Stp.d, okT, isMap, sl1])]
    rw [evB_nx (ρ1 := FrW (Stp.backs w).d [98, 97, 99, 107, 115] t true) (τ1 := τ) (by simp [evB, evS, ev, evs, evt, evp, evi, binD, cmpD, bD, mD, neD, eqD, truD, ixD, inD, inB, slD, lenD, intD, maxD, minD, addD, subD, negD, joinD, joinS, txsO, lowerD, upperD, startsD, endsD, stripD, with1, ordD, mulD, modD, fdivD, powD, intO, Out.then, bindT, setAll, itemsD, rangeD, runF, start', mkSg, mkSgG, opD, small62, wipeE, compL, forL, List.replicate, tyIs, FrW])]
    rw [evB_nx (wh_backs P w w1 w2 τ t.length t (Nat.le_refl _) h2)]
    refine evB_rt (evS_ret ?_)
    simp [ev, Stp.ap, bkF, FrW]
  · rename_i m
    simp [evB, evS, ev, evs, evt, evp, evi, binD, cmpD, bD, mD, neD, eqD, truD, ixD, inD, inB, slD, lenD, intD, maxD, minD, addD, subD, negD, joinD, joinS, txsO, lowerD, upperD, startsD, endsD, stripD, with1, ordD, mulD, modD, fdivD, powD, intO, Out.then, bindT, setAll, itemsD, rangeD, runF, start', mkSg, mkSgG, opD, small62, wipeE, compL, forL, List.replicate, tyIs, Stp.d, Stp.ap, e1, cut_to]
  · rename_i m
    have hm : 0 < m := hs
    simp [evB, evS, ev, evs, evt, evp, evi, binD, cmpD, bD, mD, neD, eqD, truD, ixD, inD, inB, slD, lenD, intD, maxD, minD, addD, subD, negD, joinD, joinS, txsO, lowerD, upperD, startsD, endsD, stripD, with1, ordD, mulD, modD, fdivD, powD, intO, Out.then, bindT, setAll, itemsD, rangeD, runF, start', mkSg, mkSgG, opD, small62, wipeE, compL, forL, List.replicate, tyIs, Stp.d, Stp.ap, e1, cut_last t m hm]
/-! ### _law_like -/
noncomputable def GLike (tk : Bool) : Nat → GF
  | 0 => fun _ _ _ => none
  | n + 1 => Grun tk 3 false 2 ir_law_like [⟨"_law_like", false, 2, GLike tk n⟩] []
theorem like_str (tk : Bool) (n : Nat) (ns : List Int) (a b : List Nat) (τ : TS) : GLike tk (n + 1) ns [.str a, .str b] τ = some (.bl (a == b), τ) := by
  refine Grun_in rfl ?_
  show evB _ ir_law_like [.d (.str a), .d (.str b), .un] τ = _
  unfold ir_law_like
  simp [evB, evS, ev, evs, evt, evp, evi, binD, cmpD, bD, mD, neD, eqD, truD, ixD, inD, inB, slD, lenD, intD, maxD, minD, addD, subD, negD, joinD, joinS, txsO, lowerD, upperD, startsD, endsD, stripD, with1, ordD, mulD, modD, fdivD, powD, intO, Out.then, bindT, setAll, itemsD, rangeD, runF, start', mkSg, mkSgG, opD, small62, wipeE, compL, forL, List.replicate, tyIs]
end PD

set_option Elab.async false
set_option linter.all false
set_option maxRecDepth 100000
set_option maxHeartbeats 8000000
/-! k02: the law's own loops. -/
namespace PD
open PySem L2
noncomputable def cal02 : List Cal := [⟨"_law_text", true, 1, GText true⟩, ⟨"_law_word", true, 0, GWord true⟩, ⟨"_law_set", true, 0, GSet true⟩, cDraw true, cSign true, ⟨"_law_like", false, 2, GLike true 1⟩, ⟨"_law_done", false, 2, GLD true⟩, ⟨"cleaned", false, 2, GCl 61⟩]
structure P02 (P : Sg) (ns : List Int) : Prop where
  g0 : ∀ ds, P.G 0 ds = GText true ns ds
  g1 : ∀ ds, P.G 1 ds = GWord true ns ds
  g2 : ∀ ds, P.G 2 ds = GSet true ns ds
  g3 : ∀ ds, P.G 3 ds = GDraw true ns ds
  g4 : ∀ ds, P.G 4 ds = GSign true ns ds
  g5 : ∀ ds, P.G 5 ds = GLike true 1 ns ds
  g6 : ∀ ds, P.G 6 ds = GLD true ns ds
  g7 : ∀ ds, P.G 7 ds = GCl 61 ns ds
  tk : P.tk = true
/-- the signs of which texts are made -/
theorem alp_ascii {t : List Nat} (h : ∀ c ∈ t, c ∈ ALP) : ∀ c ∈ t, c < 128 := fun c hc => by
  have := h c hc
  simp [ALP] at this
  omega
abbrev Fr2 (g2 : Slot) (t : List Nat) (g4 g5 g6 g7 g8 g9 g10 : Slot) : Env' := [.un, .tape, g2, .d (.str t), g4, g5, g6, g7, g8, g9, g10]
theorem or_front (P : Sg) (t : List Nat) (ht : t.length ≤ 4000) (ρ : Env') (hρ : ρ[3]? = some (.d (.str t))) (τ : TS) : ∃ w, ev P (.or (.sl (.var 3) .nope (.int 1)) (.one (.str [97]))) ρ τ = some (.str w, τ) ∧ w ≠ [] ∧ w.length ≤ 4000 := by
  have h1 := sl1 ht
  cases t with
  | nil => exact ⟨[97], by simp [ev, evp, hρ, slD, cutL, truD, HT.sIx_none], by simp, by simp⟩
  | cons c r =>
    have e : cutL (c :: r) none (some 1) = [c] := cut_to (c :: r) 1
    simp only [List.length_cons] at h1
    exact ⟨[c], by simp [ev, evp, hρ, slD, e, truD, sl1, h1], by simp, by simp⟩
theorem or_back (P : Sg) (t : List Nat) (ht : t.length ≤ 4000) (ρ : Env') (hρ : ρ[3]? = some (.d (.str t))) (τ : TS) : ∃ w, ev P (.or (.sl (.var 3) (.neg (.int 2)) .nope) (.one (.str [97]))) ρ τ = some (.str w, τ) ∧ w ≠ [] ∧ w.length ≤ 4000 := by
  have h1 := sl1 ht
  have e : cutL t (some (-2)) none = t.drop (t.length - 2) := cut_last t 2 (by omega)
  have hl := sl1 (show (t.drop (t.length - 2)).length ≤ 4000 by rw [List.length_drop]; omega)
  by_cases hz : t.drop (t.length - 2) = []
  · refine ⟨[97], ?_, by simp, by simp⟩
    rw [hz] at e
    simp [ev, evp, hρ, slD, e, truD, h1, negD, intO]
  · refine ⟨t.drop (t.length - 2), ?_, hz, by rw [List.length_drop]; omega⟩
    have hne : (t.drop (t.length - 2)).isEmpty = false := by
      cases h : t.drop (t.length - 2) with
      | nil => exact absurd h hz
      | cons _ _ => rfl
    simp only [ev, evp, hρ, slD, e, truD, h1, negD, intO, hl, hne, Option.bind_some, Option.map_some, if_true, Bool.not_false]
abbrev askB : Ss := (.cons (.unp (.cons (.nm 6) (.cons (.nm 7) .nil)) (.tup (.cons (.callT 2 1 .nil) (.cons (.callT 1 1 .nil) .nil)))) (.cons (.set 8 (.bin .Add (.int 1) (.callT 3 1 (.cons (.int 3) .nil)))) (.frz 4 (.cons (.setO 4 (.bin .Add (.var 4) (.lst (.cons (.tup (.cons (.str [116, 114, 105, 109]) (.cons (.var 6) .nil))) (.cons (.tup (.cons (.str [100, 114, 111, 112]) (.cons (.var 6) .nil))) (.cons (.tup (.cons (.str [115, 113, 117, 101, 101, 122, 101]) (.cons (.var 6) .nil))) (.cons (.tup (.cons (.str [106, 111, 105, 110]) (.cons (.var 6) (.cons (.callT 4 1 .nil) .nil)))) .nil))))))) (.frz 4 (.cons (.setO 4 (.bin .Add (.var 4) (.comp (.tup (.cons (.var 10) (.cons (.var 7) .nil))) (.nm 10) (.data (.tup (.cons (.str [102, 114, 111, 110, 116]) (.cons (.str [102, 114, 111, 110, 116, 115]) (.cons (.str [98, 97, 99, 107]) (.cons (.str [98, 97, 99, 107, 115]) .nil)))))) .yes [10]))) (.frz 4 (.cons (.setO 4 (.bin .Add (.var 4) (.lst (.cons (.tup (.cons (.str [102, 105, 114, 115, 116]) (.cons (.var 8) .nil))) (.cons (.tup (.cons (.str [108, 97, 115, 116]) (.cons (.var 8) .nil))) (.cons (.tup (.cons (.str [102, 114, 111, 110, 116, 115]) (.cons (.or (.sl (.var 3) .nope (.int 1)) (.one (.str [97]))) .nil))) .nil)))))) (.cons (.app 4 (.tup (.cons (.str [98, 97, 99, 107, 115]) (.cons (.or (.sl (.var 3) (.neg (.int 2)) .nope) (.one (.str [97]))) .nil)))) .nil)))))))))
theorem evB_frz {P : Sg} {i : Nat} {ss : Ss} {ρ : Env'} {τ : TS} {xs : List D} (h : ρ[i]? = some (.ol xs)) : evB P (.frz i ss) ρ τ = evB P ss (ρ.set i (.d (.lst xs))) τ := by
  rw [evB, h]
theorem evs_nil {P : Sg} {ρ : Env'} {τ : TS} : evs P .nil ρ τ = some ([], τ) := by rw [evs]
theorem evs_cons {P : Sg} {e : E} {es : Es} {ρ : Env'} {τ τ1 τ2 : TS} {d : D} {ds : List D} (h1 : ev P e ρ τ = some (d, τ1)) (h2 : evs P es ρ τ1 = some (ds, τ2)) : evs P (.cons e es) ρ τ = some (d :: ds, τ2) := by
  rw [evs, h1]
  simp only [Option.bind_some, h2, Option.map_some]
theorem ev_lst {P : Sg} {es : Es} {ρ : Env'} {τ τ1 : TS} {ds : List D} (h : evs P es ρ τ = some (ds, τ1)) (hl : ds.length ≤ 4000) : ev P (.lst es) ρ τ = some (.lst ds, τ1) := by
  rw [ev, h]
  simp only [Option.bind_some, sl1 hl, if_true]
theorem ev_tup {P : Sg} {es : Es} {ρ : Env'} {τ τ1 : TS} {ds : List D} (h : evs P es ρ τ = some (ds, τ1)) (hl : ds.length ≤ 4000) (hm : isMap ds = false) : ev P (.tup es) ρ τ = some (.tup ds, τ1) := by
  rw [ev, h]
  simp only [Option.bind_some, okT, sl1 hl, hm, Bool.and_false, Bool.not_false, decide_true, Bool.and_true, if_true]
theorem ev_str {P : Sg} {s : List Nat} {ρ : Env'} {τ : TS} : ev P (.str s) ρ τ = some (.str s, τ) := by rw [ev]
theorem ev_var {P : Sg} {i : Nat} {ρ : Env'} {τ : TS} {d : D} (h : ρ[i]? = some (.d d)) : ev P (.var i) ρ τ = some (d, τ) := by rw [ev, h]
theorem evS_cat {P : Sg} {i : Nat} {e : E} {xs ys : List D} {ρ : Env'} {τ τ1 : TS} (hρ : ρ[i]? = some (.d (.lst xs))) (he : ev P e ρ τ = some (.lst ys, τ1)) (hl : xs.length + ys.length ≤ 4000) : evS P (.setO i (.bin .Add (.var i) e)) ρ τ = some (.nx (ρ.set i (.ol (xs ++ ys))) τ1) := by
  rw [evS, ev, ev_var hρ]
  simp only [Option.bind_some, he, binD, addD, sl1 hl, if_true, Option.map_some]
theorem evS_app {P : Sg} {i : Nat} {e : E} {xs : List D} {ρ : Env'} {τ τ1 : TS} {d : D} (hρ : ρ[i]? = some (.ol xs)) (he : ev P e ρ τ = some (d, τ1)) (hl : xs.length < 4000) : evS P (.app i e) ρ τ = some (.nx (ρ.set i (.ol (xs ++ [d]))) τ1) := by
  have h2 : xs.length < sizeLine := by rw [sizeLine_eq]; omega
  rw [evS, hρ]
  simp only [he, Option.bind_some, h2, if_true]
theorem askB_ok (P : Sg) (ns : List Int) (hP : P02 P ns) (g2 : Slot) (t : List Nat) (ht : t.length ≤ 60) (ss : List Stp) (hs : ∀ s ∈ ss, s.ok) (hl : ss.length ≤ 100) (g5 g6 g7 g8 g9 g10 : Slot) (τ : TS) :
    ∃ (ss' : List Stp) (g6' g7' g8' : Slot) (τ' : TS), evB P askB (Fr2 g2 t (.ol (ss.map Stp.d)) g5 g6 g7 g8 g9 g10) τ = some (.nx (Fr2 g2 t (.ol (ss'.map Stp.d)) g5 g6' g7' g8' g9 g10) τ') ∧ (∀ s ∈ ss', s.ok) ∧ ss'.length = ss.length + 12 := by
  obtain ⟨s, τ1, e1, _, hs3, _, _⟩ := sset_ok true ns τ
  obtain ⟨w, τ2, e2, hw1, hw2, _⟩ := word_ok true ns τ1
  obtain ⟨k, τ3, e3, hk⟩ := draw_int true ns 3 3 rfl (by omega) (by omega) τ2
  obtain ⟨o, τ4, e4, _⟩ := sign_ok true ns τ3
  have tk := hP.tk
  have a1 := sl1 (show ss.length + 4 ≤ 4000 by omega)
  have a2 := sl1 (show ss.length + 4 + 4 ≤ 4000 by omega)
  have a3 := sl1 (show ss.length + 4 + 4 + 3 ≤ 4000 by omega)
  have ek : ((1 : Int) + (k : Int)) = ((1 + k : Nat) : Int) := by omega
  obtain ⟨w1, o1, hw3, hw4⟩ := or_front P t (by omega) (Fr2 g2 t (.d (.lst (((ss ++ [Stp.trim s, Stp.drop s, Stp.squeeze s, Stp.join s o]) ++ [Stp.front w, Stp.fronts w, Stp.back w, Stp.backs w]).map Stp.d))) g5 (.d (.str s)) (.d (.str w)) (.d (.int ((1 + k : Nat) : Int))) g9 g10) rfl τ4
  obtain ⟨w2, o2, hw5, hw6⟩ := or_back P t (by omega) (Fr2 g2 t (.ol ((((ss ++ [Stp.trim s, Stp.drop s, Stp.squeeze s, Stp.join s o]) ++ [Stp.front w, Stp.fronts w, Stp.back w, Stp.backs w]) ++ [Stp.first (1 + k), Stp.last (1 + k), Stp.fronts w1]).map Stp.d)) g5 (.d (.str s)) (.d (.str w)) (.d (.int ((1 + k : Nat) : Int))) g9 g10) rfl τ4
  refine ⟨(((ss ++ [Stp.trim s, Stp.drop s, Stp.squeeze s, Stp.join s o]) ++ [Stp.front w, Stp.fronts w, Stp.back w, Stp.backs w]) ++ [Stp.first (1 + k), Stp.last (1 + k), Stp.fronts w1]) ++ [Stp.backs w2], .d (.str s), .d (.str w), .d (.int ((1 + k : Nat) : Int)), τ4, ?_, ?_, by simp⟩
  · refine (evB_nx (ρ1 := Fr2 g2 t (.ol (ss.map Stp.d)) g5 (.d (.str s)) (.d (.str w)) g8 g9 g10) (τ1 := τ2) (by simp [evB, evS, ev, evs, evt, evp, evi, binD, cmpD, bD, mD, neD, eqD, truD, ixD, inD, inB, slD, lenD, intD, maxD, minD, addD, subD, negD, joinD, joinS, txsO, lowerD, upperD, startsD, endsD, stripD, with1, ordD, mulD, modD, fdivD, powD, intO, Out.then, bindT, setAll, itemsD, rangeD, runF, start', mkSg, mkSgG, opD, small62, wipeE, compL, forL, List.replicate, tyIs, Fr2, hP.g1, hP.g2, e1, e2, okT, isMap, sl1])).trans ?_
    refine (evB_nx (ρ1 := Fr2 g2 t (.ol (ss.map Stp.d)) g5 (.d (.str s)) (.d (.str w)) (.d (.int ((1 + k : Nat) : Int))) g9 g10) (τ1 := τ3) (by simp [evB, evS, ev, evs, evt, evp, evi, binD, cmpD, bD, mD, neD, eqD, truD, ixD, inD, inB, slD, lenD, intD, maxD, minD, addD, subD, negD, joinD, joinS, txsO, lowerD, upperD, startsD, endsD, stripD, with1, ordD, mulD, modD, fdivD, powD, intO, Out.then, bindT, setAll, itemsD, rangeD, runF, start', mkSg, mkSgG, opD, small62, wipeE, compL, forL, List.replicate, tyIs, Fr2, hP.g3, e3])).trans ?_
    rw [evB_frz (xs := ss.map Stp.d) rfl]
    have hmap : ∀ l m : List Stp, (l ++ m).map Stp.d = l.map Stp.d ++ m.map Stp.d := fun l m => List.map_append
    rw [evB_nx (ρ1 := Fr2 g2 t (.ol ((ss ++ [Stp.trim s, Stp.drop s, Stp.squeeze s, Stp.join s o]).map Stp.d)) g5 (.d (.str s)) (.d (.str w)) (.d (.int ((1 + k : Nat) : Int))) g9 g10) (τ1 := τ4) (by
      rw [hmap]
      refine evS_cat rfl (ev_lst (evs_cons (ev_tup (evs_cons ev_str (evs_cons (ev_var rfl) evs_nil)) (by simp) rfl) (evs_cons (ev_tup (evs_cons ev_str (evs_cons (ev_var rfl) evs_nil)) (by simp) rfl) (evs_cons (ev_tup (evs_cons ev_str (evs_cons (ev_var rfl) evs_nil)) (by simp) rfl) (evs_cons (ev_tup (evs_cons ev_str (evs_cons (ev_var rfl) (evs_cons (τ1 := τ4) (d := .str [o]) ?_ evs_nil))) (by simp) rfl) evs_nil)))) (by simp)) (by simp; omega)
      simp [ev, evs, hP.g4, e4])]
    rw [evB_frz (xs := (ss ++ [Stp.trim s, Stp.drop s, Stp.squeeze s, Stp.join s o]).map Stp.d) rfl]
    rw [evB_nx (ρ1 := Fr2 g2 t (.ol (((ss ++ [Stp.trim s, Stp.drop s, Stp.squeeze s, Stp.join s o]) ++ [Stp.front w, Stp.fronts w, Stp.back w, Stp.backs w]).map Stp.d)) g5 (.d (.str s)) (.d (.str w)) (.d (.int ((1 + k : Nat) : Int))) g9 g10) (τ1 := τ4) (by
      rw [hmap (ss ++ [Stp.trim s, Stp.drop s, Stp.squeeze s, Stp.join s o])]
      refine evS_cat rfl (ev_comp (xs := [.str [102, 114, 111, 110, 116], .str [102, 114, 111, 110, 116, 115], .str [98, 97, 99, 107], .str [98, 97, 99, 107, 115]]) (τ1 := τ4) ?_ (ys := [Stp.front w, Stp.fronts w, Stp.back w, Stp.backs w].map Stp.d) ?_ (sl1 (by simp))) (by simp; omega)
      · simp [evi, ev, evs, itemsD, okT, isMap, sl1]
      · simp [cbody, evB, evS, ev, evs, evt, evp, evi, binD, cmpD, bD, mD, neD, eqD, truD, ixD, inD, inB, slD, lenD, intD, maxD, minD, addD, subD, negD, joinD, joinS, txsO, lowerD, upperD, startsD, endsD, stripD, with1, ordD, mulD, modD, fdivD, powD, intO, Out.then, bindT, setAll, itemsD, rangeD, runF, start', mkSg, mkSgG, opD, small62, wipeE, compL, forL, List.replicate, tyIs, okT, isMap, sl1, Stp.d])]
    rw [evB_frz (xs := ((ss ++ [Stp.trim s, Stp.drop s, Stp.squeeze s, Stp.join s o]) ++ [Stp.front w, Stp.fronts w, Stp.back w, Stp.backs w]).map Stp.d) rfl]
    rw [evB_nx (ρ1 := Fr2 g2 t (.ol ((((ss ++ [Stp.trim s, Stp.drop s, Stp.squeeze s, Stp.join s o]) ++ [Stp.front w, Stp.fronts w, Stp.back w, Stp.backs w]) ++ [Stp.first (1 + k), Stp.last (1 + k), Stp.fronts w1]).map Stp.d)) g5 (.d (.str s)) (.d (.str w)) (.d (.int ((1 + k : Nat) : Int))) g9 g10) (τ1 := τ4) (by
      rw [hmap ((ss ++ [Stp.trim s, Stp.drop s, Stp.squeeze s, Stp.join s o]) ++ [Stp.front w, Stp.fronts w, Stp.back w, Stp.backs w])]
      exact evS_cat rfl (ev_lst (evs_cons (ev_tup (evs_cons ev_str (evs_cons (ev_var rfl) evs_nil)) (by simp) rfl) (evs_cons (ev_tup (evs_cons ev_str (evs_cons (ev_var rfl) evs_nil)) (by simp) rfl) (evs_cons (ev_tup (evs_cons ev_str (evs_cons o1 evs_nil)) (by simp) rfl) evs_nil))) (by simp)) (by simp; omega))]
    refine (evB_nx (ρ1 := Fr2 g2 t (.ol (((((ss ++ [Stp.trim s, Stp.drop s, Stp.squeeze s, Stp.join s o]) ++ [Stp.front w, Stp.fronts w, Stp.back w, Stp.backs w]) ++ [Stp.first (1 + k), Stp.last (1 + k), Stp.fronts w1]) ++ [Stp.backs w2]).map Stp.d)) g5 (.d (.str s)) (.d (.str w)) (.d (.int ((1 + k : Nat) : Int))) g9 g10) (τ1 := τ4) ?_).trans (by simp [evB])
    rw [hmap (((ss ++ [Stp.trim s, Stp.drop s, Stp.squeeze s, Stp.join s o]) ++ [Stp.front w, Stp.fronts w, Stp.back w, Stp.backs w]) ++ [Stp.first (1 + k), Stp.last (1 + k), Stp.fronts w1])]
    exact evS_app rfl (ev_tup (evs_cons ev_str (evs_cons o2 evs_nil)) (by simp) rfl) (by simp; omega)
  · intro x hx
    simp only [List.mem_append, List.mem_cons, List.not_mem_nil, or_false] at hx
    have hw2' : w.length ≤ 4000 := by omega
    rcases hx with ((((hx | hx) | hx) | hx) | hx)
    all_goals first | exact hs x hx | skip
    · rcases hx with rfl | rfl | rfl | rfl <;> trivial
    · rcases hx with rfl | rfl | rfl | rfl <;> exact ⟨hw1, hw2'⟩
    · rcases hx with rfl | rfl | rfl
      · exact Nat.le_add_right 1 k
      · exact Nat.le_add_right 1 k
      · exact ⟨hw3, hw4⟩
    · subst hx; exact ⟨hw5, hw6⟩
end PD

set_option Elab.async false
set_option linter.all false
set_option maxRecDepth 100000
set_option maxHeartbeats 8000000
/-! k02: the law answers True. -/
namespace PD
open PySem L2
def ir_law02 : Ss := (.cons (.fr (.nm 2) (.rng1 (.int 12)) (.cons (.set 3 (.callT 0 1 (.cons (.int 60) .nil))) (.cons (.setO 4 (.lst (.cons (.tup (.cons (.str [115, 109, 97, 108, 108]) .nil)) (.cons (.mapc [97] [98]) (.cons (.mapc [45] [95]) .nil))))) (.cons (.fr (.nm 5) (.rng1 (.int 3)) (.cons (.unp (.cons (.nm 6) (.cons (.nm 7) .nil)) (.tup (.cons (.callT 2 1 .nil) (.cons (.callT 1 1 .nil) .nil)))) (.cons (.set 8 (.bin .Add (.int 1) (.callT 3 1 (.cons (.int 3) .nil)))) (.frz 4 (.cons (.setO 4 (.bin .Add (.var 4) (.lst (.cons (.tup (.cons (.str [116, 114, 105, 109]) (.cons (.var 6) .nil))) (.cons (.tup (.cons (.str [100, 114, 111, 112]) (.cons (.var 6) .nil))) (.cons (.tup (.cons (.str [115, 113, 117, 101, 101, 122, 101]) (.cons (.var 6) .nil))) (.cons (.tup (.cons (.str [106, 111, 105, 110]) (.cons (.var 6) (.cons (.callT 4 1 .nil) .nil)))) .nil))))))) (.frz 4 (.cons (.setO 4 (.bin .Add (.var 4) (.comp (.tup (.cons (.var 10) (.cons (.var 7) .nil))) (.nm 10) (.data (.tup (.cons (.str [102, 114, 111, 110, 116]) (.cons (.str [102, 114, 111, 110, 116, 115]) (.cons (.str [98, 97, 99, 107]) (.cons (.str [98, 97, 99, 107, 115]) .nil)))))) .yes [10]))) (.frz 4 (.cons (.setO 4 (.bin .Add (.var 4) (.lst (.cons (.tup (.cons (.str [102, 105, 114, 115, 116]) (.cons (.var 8) .nil))) (.cons (.tup (.cons (.str [108, 97, 115, 116]) (.cons (.var 8) .nil))) (.cons (.tup (.cons (.str [102, 114, 111, 110, 116, 115]) (.cons (.or (.sl (.var 3) .nope (.int 1)) (.one (.str [97]))) .nil))) .nil)))))) (.cons (.app 4 (.tup (.cons (.str [98, 97, 99, 107, 115]) (.cons (.or (.sl (.var 3) (.neg (.int 2)) .nope) (.one (.str [97]))) .nil)))) .nil)))))))))) (.frz 4 (.cons (.fr (.nm 9) (.data (.var 4)) (.cons (.ife (.not (.val (.call 5 (.cons (.call 7 (.cons (.var 3) (.cons (.tup (.cons (.var 9) .nil)) .nil))) (.cons (.call 6 (.cons (.var 3) (.cons (.var 9) .nil))) .nil))))) (.cons (.ret (.bl false)) .nil) .nil) .nil)) .nil)))))) (.cons (.ife (.cmp .NotEq (.lst (.cons (.call 7 (.cons (.str [97, 97, 97, 97, 97]) (.cons (.tup (.cons (.tup (.cons (.str [102, 114, 111, 110, 116, 115]) (.cons (.str [97, 97]) .nil))) .nil)) .nil))) (.cons (.call 7 (.cons (.str [98, 97, 98, 97, 98]) (.cons (.tup (.cons (.tup (.cons (.str [98, 97, 99, 107, 115]) (.cons (.str [97, 98]) .nil))) .nil)) .nil))) .nil))) (.lst (.cons (.str [97]) (.cons (.str [98]) .nil)))) (.cons (.ret (.bl false)) .nil) .nil) (.cons (.ret (.cmp .Eq (.lst (.cons (.call 7 (.cons (.str [97, 97, 45, 97, 97]) (.cons (.tup (.cons (.tup (.cons (.str [116, 114, 105, 109]) (.cons (.str [97]) .nil))) .nil)) .nil))) (.cons (.call 7 (.cons (.str []) (.cons (.tup (.cons (.tup (.cons (.str [106, 111, 105, 110]) (.cons (.str [97]) (.cons (.str [98]) .nil)))) .nil)) .nil))) .nil))) (.lst (.cons (.str [45]) (.cons (.str []) .nil))))) .nil)))
theorem one_ok {s : Stp} (hs : s.ok) : ∀ x ∈ [s], x.ok := by
  intro x hx
  have : x = s := by simpa using hx
  rw [this]
  exact hs
theorem ask_loop (P : Sg) (ns : List Int) (hP : P02 P ns) (g2 : Slot) (t : List Nat) (ht : t.length ≤ 60) (g9 g10 : Slot) : ∀ (xs : List D) (ss : List Stp) (g5 g6 g7 g8 : Slot) (τ : TS), (∀ s ∈ ss, s.ok) → ss.length + 12 * xs.length ≤ 100 →
    ∃ (ss' : List Stp) (g5' g6' g7' g8' : Slot) (τ' : TS), forL (fun x ρ1 τ1 => (bindT (.nm 5) x ρ1).bind fun ρ2 => evB P askB ρ2 τ1) xs (Fr2 g2 t (.ol (ss.map Stp.d)) g5 g6 g7 g8 g9 g10) τ = some (.nx (Fr2 g2 t (.ol (ss'.map Stp.d)) g5' g6' g7' g8' g9 g10) τ') ∧ (∀ s ∈ ss', s.ok)
  | [], ss, g5, g6, g7, g8, τ, hs, _ => ⟨ss, g5, g6, g7, g8, τ, rfl, hs⟩
  | x :: xs, ss, g5, g6, g7, g8, τ, hs, hl => by
    simp only [List.length_cons] at hl
    obtain ⟨s1, a6, a7, a8, τ1, e1, h1, h2⟩ := askB_ok P ns hP g2 t ht ss hs (by omega) (.d x) g6 g7 g8 g9 g10 τ
    obtain ⟨s2, b5, b6, b7, b8, τ2, e2, h3⟩ := ask_loop P ns hP g2 t ht g9 g10 xs s1 (.d x) a6 a7 a8 τ1 h1 (by omega)
    refine ⟨s2, b5, b6, b7, b8, τ2, ?_, h3⟩
    rw [forL_step (ρ1 := Fr2 g2 t (.ol (s1.map Stp.d)) (.d x) a6 a7 a8 g9 g10) (τ1 := τ1) (by simp only [bindT, Option.bind_some]; exact e1)]
    exact e2
abbrev seeB : Ss := (.cons (.ife (.not (.val (.call 5 (.cons (.call 7 (.cons (.var 3) (.cons (.tup (.cons (.var 9) .nil)) .nil))) (.cons (.call 6 (.cons (.var 3) (.cons (.var 9) .nil))) .nil))))) (.cons (.ret (.bl false)) .nil) .nil) .nil)
theorem see_one (P : Sg) (ns : List Int) (hP : P02 P ns) (g2 : Slot) (t : List Nat) (ht : t.length ≤ 60) (ha : ∀ c ∈ t, c < 128) (g4 g5 g6 g7 g8 g10 : Slot) (s : Stp) (hs : s.ok) (τ : TS) :
    evB P seeB (Fr2 g2 t g4 g5 g6 g7 g8 (.d s.d) g10) τ = some (.nx (Fr2 g2 t g4 g5 g6 g7 g8 (.d s.d) g10) τ) := by
  have h2 : t.length ≤ 4000 := by omega
  have c1 : GCl 61 ns [.str t, .tup [s.d]] τ = some (.str (s.ap t), τ) := GCl_eq (ss := [s]) (one_ok hs) (by omega) h2
  have c2 := lawdone_ok true ns t s τ hs h2 ha
  have c3 := like_str true 0 ns (s.ap t) (s.ap t) τ
  rw [beq_self_eq_true] at c3
  have e7 : ev P (.call 7 (.cons (.var 3) (.cons (.tup (.cons (.var 9) .nil)) .nil))) (Fr2 g2 t g4 g5 g6 g7 g8 (.d s.d) g10) τ = some (.str (s.ap t), τ) := by
    rw [ev, evs_cons (ev_var rfl) (evs_cons (ev_tup (evs_cons (ev_var rfl) evs_nil) (by simp) (by cases s <;> rfl)) evs_nil)]
    simp only [Option.bind_some, hP.g7, c1]
  have e6 : ev P (.call 6 (.cons (.var 3) (.cons (.var 9) .nil))) (Fr2 g2 t g4 g5 g6 g7 g8 (.d s.d) g10) τ = some (.str (s.ap t), τ) := by
    rw [ev, evs_cons (ev_var rfl) (evs_cons (ev_var rfl) evs_nil)]
    simp only [Option.bind_some, hP.g6, c2]
  have e5 : ev P (.call 5 (.cons (.call 7 (.cons (.var 3) (.cons (.tup (.cons (.var 9) .nil)) .nil))) (.cons (.call 6 (.cons (.var 3) (.cons (.var 9) .nil))) .nil))) (Fr2 g2 t g4 g5 g6 g7 g8 (.d s.d) g10) τ = some (.bl true, τ) := by
    rw [ev, evs_cons e7 (evs_cons e6 evs_nil)]
    simp only [Option.bind_some, hP.g5, c3]
  refine (evB_nx (evS_f (τ1 := τ) (o := .nx (Fr2 g2 t g4 g5 g6 g7 g8 (.d s.d) g10) τ) ?_ (by rw [evB]))).trans (by rw [evB])
  rw [evt, evt, e5]
  rfl
theorem see_loop (P : Sg) (ns : List Int) (hP : P02 P ns) (g2 : Slot) (t : List Nat) (ht : t.length ≤ 60) (ha : ∀ c ∈ t, c < 128) (g4 g5 g6 g7 g8 g10 : Slot) (τ : TS) : ∀ (ss : List Stp) (g9 : Slot), (∀ s ∈ ss, s.ok) →
    ∃ g9', forL (fun x ρ1 τ1 => (bindT (.nm 9) x ρ1).bind fun ρ2 => evB P seeB ρ2 τ1) (ss.map Stp.d) (Fr2 g2 t g4 g5 g6 g7 g8 g9 g10) τ = some (.nx (Fr2 g2 t g4 g5 g6 g7 g8 g9' g10) τ)
  | [], g9, _ => ⟨g9, rfl⟩
  | s :: ss, g9, hs => by
    obtain ⟨g9', e⟩ := see_loop P ns hP g2 t ht ha g4 g5 g6 g7 g8 g10 τ ss (.d s.d) fun x hx => hs x (List.mem_cons_of_mem _ hx)
    refine ⟨g9', ?_⟩
    rw [List.map_cons, forL_step (ρ1 := Fr2 g2 t g4 g5 g6 g7 g8 (.d s.d) g10) (τ1 := τ) (by simp only [bindT, Option.bind_some]; exact see_one P ns hP g2 t ht ha g4 g5 g6 g7 g8 g10 s (hs s List.mem_cons_self) τ)]
    exact e
abbrev turnB : Ss := (.cons (.set 3 (.callT 0 1 (.cons (.int 60) .nil))) (.cons (.setO 4 (.lst (.cons (.tup (.cons (.str [115, 109, 97, 108, 108]) .nil)) (.cons (.mapc [97] [98]) (.cons (.mapc [45] [95]) .nil))))) (.cons (.fr (.nm 5) (.rng1 (.int 3)) askB) (.frz 4 (.cons (.fr (.nm 9) (.data (.var 4)) seeB) .nil)))))
abbrev Fr0 (g2 g3 g4 g5 g6 g7 g8 g9 g10 : Slot) : Env' := [.un, .tape, g2, g3, g4, g5, g6, g7, g8, g9, g10]
theorem evi_data {P : Sg} {e : E} {ρ : Env'} {τ τ1 : TS} {d : D} {xs : List D} (h : ev P e ρ τ = some (d, τ1)) (h2 : itemsD d = some xs) : evi P (.data e) ρ τ = some (xs, τ1) := by
  rw [evi, h]
  simp only [Option.bind_some, h2, Option.map_some]
theorem evS_setO {P : Sg} {i : Nat} {e : E} {xs : List D} {ρ : Env'} {τ τ1 : TS} (he : ev P e ρ τ = some (.lst xs, τ1)) : evS P (.setO i e) ρ τ = some (.nx (ρ.set i (.ol xs)) τ1) := by
  rw [evS, he]
  rfl
theorem ev_int {P : Sg} {i : Int} {ρ : Env'} {τ : TS} : ev P (.int i) ρ τ = some (.int i, τ) := by rw [ev]
theorem turn_ok (P : Sg) (ns : List Int) (hP : P02 P ns) (g2 g3 g4 g5 g6 g7 g8 g9 g10 : Slot) (τ : TS) : ∃ (a3 a4 a5 a6 a7 a8 a9 : Slot) (τ' : TS), evB P turnB (Fr0 g2 g3 g4 g5 g6 g7 g8 g9 g10) τ = some (.nx (Fr0 g2 a3 a4 a5 a6 a7 a8 a9 g10) τ') := by
  obtain ⟨t, τ1, e1, h1, h2⟩ := text_ok true ns 60 60 rfl (by omega) τ
  have ha := alp_ascii h2
  obtain ⟨ss', b5, b6, b7, b8, τ2, e2, h3⟩ := ask_loop P ns hP g2 t h1 g9 g10 (rangeD 0 3 1) [.small, .map 97 98, .map 45 95] g5 g6 g7 g8 τ1 (by simp [Stp.ok]) (by simp [rangeD])
  obtain ⟨g9', e3⟩ := see_loop P ns hP g2 t h1 ha (.d (.lst (ss'.map Stp.d))) b5 b6 b7 b8 g10 τ2 ss' g9 h3
  refine ⟨.d (.str t), .d (.lst (ss'.map Stp.d)), b5, b6, b7, b8, g9', τ2, ?_⟩
  refine (evB_nx (ρ1 := Fr2 g2 t g4 g5 g6 g7 g8 g9 g10) (τ1 := τ1) (evS_set (d := .str t) (by
    rw [ev]
    show ((evs P (.cons (.int 60) .nil) _ τ).bind fun r => P.G 0 r.1 r.2) = _
    rw [evs_cons ev_int evs_nil]
    simp only [Option.bind_some, hP.g0, e1]))).trans ?_
  refine (evB_nx (ρ1 := Fr2 g2 t (.ol ([Stp.small, Stp.map 97 98, Stp.map 45 95].map Stp.d)) g5 g6 g7 g8 g9 g10) (τ1 := τ1) (evS_setO (ev_lst (evs_cons (ev_tup (evs_cons ev_str evs_nil) (by simp) rfl) (evs_cons (by rw [ev]; rfl) (evs_cons (by rw [ev]; rfl) evs_nil))) (by simp)))).trans ?_
  refine (evB_nx (evS_fr (evi_rng1 (k := 3) (τ1 := τ1) ev_int (by omega)) e2)).trans ?_
  rw [evB_frz (xs := ss'.map Stp.d) rfl]
  exact (evB_nx (evS_fr (evi_data (ev_var rfl) rfl) e3)).trans (by rw [evB])
theorem turn_loop (P : Sg) (ns : List Int) (hP : P02 P ns) (g10 : Slot) : ∀ (xs : List D) (g2 g3 g4 g5 g6 g7 g8 g9 : Slot) (τ : TS), ∃ (a2 a3 a4 a5 a6 a7 a8 a9 : Slot) (τ' : TS),
    forL (fun x ρ1 τ1 => (bindT (.nm 2) x ρ1).bind fun ρ2 => evB P turnB ρ2 τ1) xs (Fr0 g2 g3 g4 g5 g6 g7 g8 g9 g10) τ = some (.nx (Fr0 a2 a3 a4 a5 a6 a7 a8 a9 g10) τ')
  | [], g2, g3, g4, g5, g6, g7, g8, g9, τ => ⟨g2, g3, g4, g5, g6, g7, g8, g9, τ, rfl⟩
  | x :: xs, g2, g3, g4, g5, g6, g7, g8, g9, τ => by
    obtain ⟨a3, a4, a5, a6, a7, a8, a9, τ1, e1⟩ := turn_ok P ns hP (.d x) g3 g4 g5 g6 g7 g8 g9 g10 τ
    obtain ⟨b2, b3, b4, b5, b6, b7, b8, b9, τ2, e2⟩ := turn_loop P ns hP g10 xs (.d x) a3 a4 a5 a6 a7 a8 a9 τ1
    refine ⟨b2, b3, b4, b5, b6, b7, b8, b9, τ2, ?_⟩
    rw [forL_step (ρ1 := Fr0 (.d x) a3 a4 a5 a6 a7 a8 a9 g10) (τ1 := τ1) (by simp only [bindT, Option.bind_some]; exact e1)]
    exact e2
theorem call_cl (P : Sg) (ns : List Int) (hP : P02 P ns) (t : List Nat) (s : Stp) (hs : s.ok) (ht : t.length ≤ 60) (e : E) (ρ : Env') (τ : TS) (he : ev P e ρ τ = some (s.d, τ)) :
    ev P (.call 7 (.cons (.str t) (.cons (.tup (.cons e .nil)) .nil))) ρ τ = some (.str (s.ap t), τ) := by
  have c1 : GCl 61 ns [.str t, .tup [s.d]] τ = some (.str (s.ap t), τ) := GCl_eq (ss := [s]) (one_ok hs) (by omega) (by omega)
  rw [ev, evs_cons ev_str (evs_cons (ev_tup (evs_cons he evs_nil) (by simp) (by cases s <;> rfl)) evs_nil)]
  simp only [Option.bind_some, hP.g7, c1]
theorem law02 (P : Sg) (ns : List Int) (hP : P02 P ns) : ∃ τ, evB P ir_law02 (startLaw 11 1) ⟨0, 0⟩ = some (.rt (.bl true) τ) := by
  obtain ⟨b2, b3, b4, b5, b6, b7, b8, b9, τ, e⟩ := turn_loop P ns hP .un (rangeD 0 12 1) .un .un .un .un .un .un .un .un ⟨0, 0⟩
  refine ⟨τ, ?_⟩
  show evB P ir_law02 (Fr0 .un .un .un .un .un .un .un .un .un) ⟨0, 0⟩ = _
  unfold ir_law02
  refine (evB_nx (evS_fr (evi_rng1 (k := 12) (τ1 := ⟨0, 0⟩) ev_int (by omega)) e)).trans ?_
  have r1 := call_cl P ns hP [97, 97, 97, 97, 97] (.fronts [97, 97]) ⟨by simp, by simp⟩ (by simp) (.tup (.cons (.str [102, 114, 111, 110, 116, 115]) (.cons (.str [97, 97]) .nil))) (Fr0 b2 b3 b4 b5 b6 b7 b8 b9 .un) τ (ev_tup (evs_cons ev_str (evs_cons ev_str evs_nil)) (by simp) rfl)
  have r2 := call_cl P ns hP [98, 97, 98, 97, 98] (.backs [97, 98]) ⟨by simp, by simp⟩ (by simp) (.tup (.cons (.str [98, 97, 99, 107, 115]) (.cons (.str [97, 98]) .nil))) (Fr0 b2 b3 b4 b5 b6 b7 b8 b9 .un) τ (ev_tup (evs_cons ev_str (evs_cons ev_str evs_nil)) (by simp) rfl)
  have r3 := call_cl P ns hP [97, 97, 45, 97, 97] (.trim [97]) trivial (by simp) (.tup (.cons (.str [116, 114, 105, 109]) (.cons (.str [97]) .nil))) (Fr0 b2 b3 b4 b5 b6 b7 b8 b9 .un) τ (ev_tup (evs_cons ev_str (evs_cons ev_str evs_nil)) (by simp) rfl)
  have r4 := call_cl P ns hP [] (.join [97] 98) trivial (by simp) (.tup (.cons (.str [106, 111, 105, 110]) (.cons (.str [97]) (.cons (.str [98]) .nil)))) (Fr0 b2 b3 b4 b5 b6 b7 b8 b9 .un) τ (ev_tup (evs_cons ev_str (evs_cons ev_str (evs_cons ev_str evs_nil))) (by simp) rfl)
  have v1 : (Stp.fronts [97, 97]).ap [97, 97, 97, 97, 97] = [97] := by decide
  have v2 : (Stp.backs [97, 98]).ap [98, 97, 98, 97, 98] = [98] := by decide
  have v3 : (Stp.trim [97]).ap [97, 97, 45, 97, 97] = [45] := by decide
  have v4 : (Stp.join [97] 98).ap [] = [] := by decide
  rw [v1] at r1; rw [v2] at r2; rw [v3] at r3; rw [v4] at r4
  have l1 := ev_lst (evs_cons r1 (evs_cons r2 evs_nil)) (by simp)
  have l2 := ev_lst (evs_cons r3 (evs_cons r4 evs_nil)) (by simp)
  refine (evB_nx (evS_f (τ1 := τ) (o := .nx (Fr0 b2 b3 b4 b5 b6 b7 b8 b9 .un) τ) ?_ (by rw [evB]))).trans (evB_rt (evS_ret ?_))
  · rw [evt, l1]
    simp only [Option.bind_some]
    rw [ev_lst (evs_cons ev_str (evs_cons ev_str evs_nil)) (by simp)]
    simp [cmpD, neD, truD]
  · rw [ev, l2]
    simp only [Option.bind_some]
    rw [ev_lst (evs_cons ev_str (evs_cons ev_str evs_nil)) (by simp)]
    simp [cmpD, eqD]
end PD

set_option Elab.async false
set_option linter.all false
set_option maxRecDepth 100000
set_option maxHeartbeats 8000000
/-! Small words for the last chain. -/
namespace PD
open PySem L2
theorem Kn.mono {Pg : Program} {w : World} {K : PySem.W.Frag} {mg : Str → Option Value} {base : Heap} {C : Con} {j k : Nat} {c : Cal} (h : Kn Pg w K mg base C j c) (hjk : j ≤ k) : Kn Pg w K mg base C k c := by
  obtain ⟨fa, fd, ps, a, b⟩ := h
  exact ⟨fa, fd, ps, a.mono hjk, b⟩
theorem Kn_void {Pg : Program} {w : World} {K : PySem.W.Frag} {mg : Str → Option Value} {base : Heap} {C : Con} {k : Nat} {x : Str} {st : Stmt} {ps : List Str} {tp : Bool} {ar : Nat} {G : GF} (D0 : DefOk K mg x st ps) (hG : ∀ ns ds τ r, G ns ds τ = some r → False) : Kn Pg w K mg base C k ⟨x, tp, ar, G⟩ := by
  obtain ⟨f, fd, Fn, hm, hb⟩ := D0
  refine ⟨f, fd, ps, ⟨fun vs H Q E h => ?_, fun A outer s H args us vs Q E hr he hb hv h => ?_⟩, hm, Fn.kp, hb, fun ns ds τ r e => (hG ns ds τ r e).elim⟩
  · obtain ⟨W, F, us, ds, τ, d, τ', _, _, _, _, _, e, _⟩ := h
    exact (hG _ _ _ _ e).elim
  · obtain ⟨W, F, us, ds, τ, d, τ', _, _, _, _, _, e, _⟩ := h
    exact (hG _ _ _ _ e).elim
theorem all1 {α : Type} {p : α → Prop} {a : α} (h : p a) : ∀ c ∈ [a], p c := by
  intro c hc
  have : c = a := by simpa using hc
  rw [this]; exact h
theorem all2 {α : Type} {p : α → Prop} {a b : α} (h : p a) (h2 : p b) : ∀ c ∈ [a, b], p c := by
  intro c hc
  simp only [List.mem_cons, List.not_mem_nil, or_false] at hc
  rcases hc with rfl | rfl
  · exact h
  · exact h2
theorem all4 {α : Type} {p : α → Prop} {a b c d : α} (h : p a) (h2 : p b) (h3 : p c) (h4 : p d) : ∀ x ∈ [a, b, c, d], p x := by
  intro x hx
  simp only [List.mem_cons, List.not_mem_nil, or_false] at hx
  rcases hx with rfl | rfl | rfl | rfl
  · exact h
  · exact h2
  · exact h3
  · exact h4
theorem run_trimG (ns : List Int) (ds : List D) (τ : TS) (r : D × TS) (h : GTrim ns ds τ = some r) : ds.length = 2 ∧ runF (mkSg true [] [] ns) 2 false ir_trimmed ds τ = some r := by
  unfold GTrim at h
  split at h
  · split at h
    · rename_i hl
      cases h
      exact ⟨rfl, run_trimmed _ _ _ τ hl⟩
    · cases h
  · cases h
theorem run_sqG (ns : List Int) (ds : List D) (τ : TS) (r : D × TS) (h : GSq ns ds τ = some r) : ds.length = 2 ∧ runF (mkSg true [] [] ns) 4 false ir_squeezed ds τ = some r := by
  unfold GSq at h
  split at h
  · split at h
    · rename_i hl
      cases h
      exact ⟨rfl, run_squeezed _ _ _ τ hl⟩
    · cases h
  · cases h
theorem run_joG (ns : List Int) (ds : List D) (τ : TS) (r : D × TS) (h : GJo ns ds τ = some r) : ds.length = 3 ∧ runF (mkSg true [] [] ns) 6 false ir_joined ds τ = some r := by
  unfold GJo at h
  split at h
  · split at h
    · rename_i hl
      cases h
      exact ⟨rfl, run_joined _ rfl _ _ _ (by simp) τ hl⟩
    · cases h
  · cases h
end PD
namespace PD
open PySem L2
theorem GUnfr0 (ns : List Int) (ds : List D) (τ : TS) (r : D × TS) (h : GUnfr 0 ns ds τ = some r) : False := by
  unfold GUnfr at h
  split at h
  · split at h
    · rename_i hd; exact absurd hd.2.1 (Nat.not_lt_zero _)
    · cases h
  · cases h
theorem GUnbk0 (ns : List Int) (ds : List D) (τ : TS) (r : D × TS) (h : GUnbk 0 ns ds τ = some r) : False := by
  unfold GUnbk at h
  split at h
  · split at h
    · rename_i hd; exact absurd hd.2.1 (Nat.not_lt_zero _)
    · cases h
  · cases h
end PD

set_option Elab.async false
set_option linter.all false
set_option maxRecDepth 100000
set_option maxHeartbeats 4000000
/-! A def that gives out a fresh text: its token is known to be new. -/
namespace PD
open PySem L2 PySem.Spec PyProof.Rows
/-- u is a text made since the tokens stood at n, and before they stand at m -/
def Fresh (n m : Nat) (u : Value) : Prop := ∃ (x : Str) (t : Tok), u = .str x t ∧ n < t ∧ t < m
/-- a block whose answer is a fresh text -/
def PSF (X : Cx) (st : List Stmt) (t : L2.TS) : Prop :=
  ∀ (pins : List (Addr × Obj)) (s : Shared) (σ : L2.St) (H : Hp) (D : Ends), L2.Inv X pins σ H s → t D σ H →
    wpAny (model X.prog X.w) X.A (execs st X.env) (fun f s' => SP X pins D f s' ∧ ∀ u, f = .ret u → Fresh s.toks s'.toks u) X.xe s
theorem psf_sub {X : Cx} {a : Str} {j : Nat} {cp sp rp : Pos} {e : Expr} {te : TE} (he : PE X e te) (hs : PlainIx e) : PSF X [.Return (some (.Subscript (.Constant (.str a) j cp) e sp)) rp] (tRet (tOp rIxS (tC (.str a)) te)) := by
  intro pins s σ H D I h
  refine wpAny_execs_cons (wpAny_Return_some (Subscript_ (Calls.Constant_str ?_)))
  have I1 := I.tok (s.toks + 1)
  refine wpAny_mono (PySem.wpAny_toks (he.run pins { s with toks := s.toks + 1 } σ H _ I1 h)) (fun v s1 q => ?_) fun _ _ z => z.2
  obtain ⟨hk, y, H1, I2, r1, q⟩ := q
  obtain ⟨z, i, c, e1, rfl, hz, he2, q⟩ := q
  cases e1
  obtain ⟨t', rfl⟩ := r1
  obtain ⟨k, h1, h2, h3, h4, h5⟩ := atI_get he2
  have hl : a.cps.toList.length = a.length := by simp [Str.length]
  rw [hl] at h1 h4 h5
  have hn := line63
  have hk' : s.toks + 1 ≤ s1.toks := hk
  exact tail_any (typeIs_str s1 a s.toks) slot_str_getitem.lookup (getItem_str (c := c) (by
    have e1 : decide (i < -(2 ^ 63 : Int)) = false := decide_eq_false (by omega)
    have e2 : decide (i ≥ 2 ^ 63) = false := decide_eq_false (by omega)
    rw [e1, e2, Bool.or_false]) (by rw [h1]; simpa using h2) ⟨⟨.str ⟨#[c]⟩, σ, H1, I2.tok _, ⟨_, rfl⟩, q⟩, fun u hu => by
      cases hu
      exact ⟨_, s1.toks, rfl, Nat.lt_of_lt_of_le (Nat.lt_succ_self _) hk', Nat.lt_succ_self _⟩⟩) (hs _ _)
/-- a def that gives out a fresh text -/
def FnT (P : Program) (w : World) (K : PySem.W.Frag) (mg : Str → Option Value) (base : Heap) (k : Nat) (f : Addr) (fd : FuncData) (ps : List Str) (sp : Sp) : Prop :=
  ∀ (A : Around) (outer : List Env) (s : Shared) (H : Hp) (args : Args) (us : List Value) (vs : List V) (Q : VK), Room k A → Env0 P w K mg base A outer s H → BindsTo s fd args (ps.zip us) → Vals vs us → sp vs H Q E0 →
    codeAny (model P w) A (.call (.ref f) args) (fun r s' => CR CX0 outer P w H s Q E0 r s' ∧ ∀ u, r = .ok (.ret u) → Fresh s.toks s'.toks u) s
theorem fnT_of {P : Program} {w : World} {K : PySem.W.Frag} {mg : Str → Option Value} {base : Heap} {x qual : Str} {st : Stmt} {f : Addr} {fd : FuncData} {N ps : List Str} {k : Nat} {sp : Sp} (Fn : L2.Fun K x qual st f fd) (S : FnScope N ps (defScope st)) (len : ∀ vs H Q E, sp vs H Q E → vs.length = ps.length)
    (hbody : ∀ (cdv : Value) (A : Around) (outer : List Env) (s : Shared) (H : Hp) (vs : List V) (Q : VK), Room k (A.deeper (envOfC qual (defScope st) s.heap.objs.size f cdv)) → sp vs H Q E0 →
      ∃ t, PSF (cxOf CX0 P w K mg base N qual (defScope st) f cdv A outer s H E0).nox (defBody st) t ∧ t { nx := fun _ _ => False, rt := Q } (L2.start N vs) H) : FnT P w K mg base (k + 1) f fd ps sp := by
  obtain ⟨oc, od, kV, doc, pm, an, cdv, ct, osl, rfl, lk, hcd⟩ := Fn.ex
  intro A outer s H args us vs Q hr e0 hb r hsp
  have hl := len _ _ _ _ hsp
  have KX : K.In s.heap := e0.mod.kin.keeps fun b o e => (e0.bs b o e).1
  have lim : s.heap.NoLimit := e0.mod.nolimit.keeps fun b o e => (e0.bs b o e).1
  have hkind : ∀ y ∈ ps.zip us, (defScope st).names.lookup y.1 = some .local ∨ ((defScope st).names.lookup y.1 = some .cell ∧ ((cellsFrom (s.heap.objs.size + 1) (defScope st).names []).lookup y.1).isSome = true) := fun ⟨n, v⟩ hy => by
    rcases S.par n (List.of_mem_zip hy).1 with q | q
    · exact .inl q
    · exact .inr ⟨q, PySem.W.cellsFrom_some _ _ _ (.inl q)⟩
  refine codeAny_call_function hr.depth (KX _ _ lk) rfl S.co S.gen rfl (PySem.W.codeRec_of KX hcd) (hb _ _ _ _ ?_)
  refine PySem.wpAny_with_toks (Nat.le_refl s.toks) (wpAny_newFunctionEnv_cells S.kind hkind fun env he s1 x => fun hto => ?_)
  subst he
  refine ⟨lim.keeps x.toInCall.keep, codeAny_func ?_⟩
  obtain ⟨t, ht, hq⟩ := hbody cdv A outer s H vs Q (hr.deeper _) hsp
  have I : L2.Inv (cxOf CX0 P w K mg base N qual (defScope st) f cdv A outer s H E0) [] (L2.start N vs) H s1 := inv_start S hr.hd e0 hl r x
  refine wpAny_mono (ht [] s1 (L2.start N vs) H _ (I.wish _) hq) (fun fl s' hs => ?_) fun e s' hs => False.elim hs
  obtain ⟨hs, hf⟩ := hs
  cases fl with
  | ret u =>
    obtain ⟨v, σ', H', J, rv, q⟩ := hs
    refine ⟨⟨v, H', J.unwish.os, J.unwish.bare, J.unwish.base, J.unwish.hok, rv, q⟩, fun u' hu => ?_⟩
    cases hu
    obtain ⟨y, t', e1, e2, e3⟩ := hf u rfl
    exact ⟨y, t', e1, Nat.lt_of_le_of_lt hto e2, e3⟩
  | next =>
    obtain ⟨σ', H', J, q⟩ := hs
    exact q.elim
  | brk =>
    obtain ⟨_, _, _, q⟩ := hs
    exact False.elim q
  | cont =>
    obtain ⟨_, _, _, q⟩ := hs
    exact False.elim q
end PD

set_option Elab.async false
set_option linter.all false
set_option maxRecDepth 100000
set_option maxHeartbeats 4000000
/-! A local name is stored, and its very value is known behind it. -/
namespace PD
open PySem L2 PySem.Spec PyProof.Rows
theorem ns_inj {h : Heap} {a : Addr} {m m' : Str → Option Value} (x : h.Ns a m) (y : h.Ns a m') : m = m' := by
  obtain ⟨o, es, ep, ho, hd, _, hm⟩ := x
  obtain ⟨o', es', ep', ho', hd', _, hm'⟩ := y
  rw [ho] at ho'
  cases ho'
  rw [hd] at hd'
  cases hd'
  exact funext fun n => (hm n).symm.trans (hm' n)
section
variable {X : Cx} {pins : List (Addr × Obj)} {σ : L2.St} {H : Hp} {s : Shared}
/-- the frame's own dict has changed, by one name -/
theorem Inv.named {h' : Heap} {i : Nat} {x : Str} {v : V} {u : Value} {m : Str → Option Value} {t : Nat} (I : L2.Inv X pins σ H s) (hN : X.N.Nodup) (hi : X.N[i]? = some x) (hk : X.env.scope.names.lookup x = some .local) (r : RelV v u)
    (hn : s.heap.Ns X.env.locals m) (hn' : h'.Ns X.env.locals fun y => if y = x then some u else m y) (hs : Heap.SameBut X.env.locals s.heap h') : L2.Inv X pins (σ.set i (some v)) H { s with heap := h', toks := t } := by
  obtain ⟨m0, hn0, hl⟩ := I.loc
  obtain rfl := ns_inj hn0 hn
  obtain ⟨oL, _, _, hoL, _⟩ := id hn
  have hiσ : i < σ.length := by rw [I.len]; exact (List.getElem?_eq_some_iff.mp hi).1
  have old : ∀ b o, X.s_0.heap.get? b = some o → h'.get? b = s.heap.get? b := fun b o e => hs.2 b (Nat.ne_of_lt (Nat.lt_of_lt_of_le (Heap.lt_size e) I.ok.above))
  have stay : HOk X.prog X.w H h' := fun b ob e => by
    refine (I.hok b ob e).stay (fun c w' hc q => (hs.2 c fun z => ?_).trans q) (fun _ q => q) fun _ _ q => q
    subst z
    have hf := I.free
    rcases hc with rfl | hc
    · rw [hf] at e; cases e
    · rw [hf] at hc; cases hc
  refine ⟨I.ok, I.os, I.bare, ⟨fun b o e n hb hx => (old b o e).trans (I.base.keep b o e n hb hx), fun b o e n hb hx => ?_, I.base.free, fun b o e hx => ?_, I.base.tups, I.base.frzs, I.base.tbls⟩, ⟨_, hn', fun j y w e1 e2 e3 => ?_⟩, fun y c e => ?_, I.free, I.freeC, fun p hp => ?_, stay, by rw [List.length_set]; exact I.len⟩
  · obtain ⟨sl, q⟩ := I.base.slot b o e n hb hx
    exact ⟨sl, (old b o e).trans q⟩
  · obtain ⟨o', q⟩ := I.base.there b o e hx
    exact ⟨o', (old b o e).trans q⟩
  · by_cases hj : j = i
    · subst hj
      rw [hi] at e1; cases e1
      rw [List.getElem?_set_self hiσ] at e2; cases e2
      exact ⟨u, r, .inl ⟨hk, if_pos rfl⟩⟩
    · rw [List.getElem?_set_ne (Ne.symm hj)] at e2
      obtain ⟨u', r', q⟩ := hl j y w e1 e2 e3
      refine ⟨u', r', q.imp (fun ⟨k, e⟩ => ⟨k, ?_⟩) fun ⟨k, c, e, z⟩ => ⟨k, c, e, z.sameBut hs (I.cne y c e)⟩⟩
      have hyx : y ≠ x := fun e => hj (nodup_ix hN e1 (e ▸ hi))
      exact (if_neg hyx).trans e
  · obtain ⟨w', z⟩ := I.cell y c e
    exact ⟨w', z.sameBut hs (I.cne y c e)⟩
  · obtain ⟨e, n, ne, nf, d⟩ := I.pin p hp
    exact ⟨(hs.2 p.1 ne).trans e, n, ne, nf, d⟩
theorem store_raw {M : Model} {A : Around} {E : Value → Shared → Prop} {i : Nat} {x : Str} {v : V} {u : Value} {m : Str → Option Value} {Q : Unit → Shared → Prop} (I : L2.Inv X pins σ H s) (hN : X.N.Nodup) (hi : X.N[i]? = some x) (hk : X.env.scope.names.lookup x = some .local) (r : RelV v u)
    (hn : s.heap.Ns X.env.locals m) (h : ∀ s', L2.Inv X pins (σ.set i (some v)) H s' → (s'.heap.Ns X.env.locals fun y => if y = x then some u else m y) → Q () s') : wpAny M A (storeName X.env x u) Q E s :=
  wpAny_storeName_local hk hn (fun h' hn' hs => h _ (Inv.named I hN hi hk r hn hn' hs) hn') (by rw [I.ok.kind]; rfl)
end
end PD

set_option Elab.async false
set_option linter.all false
set_option maxRecDepth 100000
set_option maxHeartbeats 4000000
/-! A call that answers with a fresh text; two of them stored side by side. -/
namespace PD
open PySem L2 PySem.Spec PyProof.Rows
/-- an expression whose value is a fresh text -/
def PEF (X : Cx) (e : Expr) (t : TE) : Prop :=
  ∀ (pins : List (Addr × Obj)) (s : Shared) (σ : L2.St) (H : Hp) (Q : VK), L2.Inv X pins σ H s → t σ H Q →
    wpAny (model X.prog X.w) X.A (eval e X.env) (fun u s' => EP X pins σ Q u s' ∧ Fresh s.toks s'.toks u) X.xe s
section
variable {X : Cx} {k : Nat} {f : Addr} {fd : FuncData} {ps : List Str} {sp : Sp} {x : Str} {e : Expr} {es : List Expr} {t : TA} {p pos : Pos}
theorem pef_call (Fn : FnT X.prog X.w X.K X.mg X.base k f fd ps sp) (len : ∀ vs H Q E, sp vs H Q E → vs.length = ps.length) (hr : Room k X.A) (hg : Gl X x) (hm : X.mg x = some (.ref f)) (hk : PySem.W.keepIn X.K (.ref f) = true) (hb : Binds X.K fd ps [])
    (ha : PA X (e :: es) t) (hdb : (x == ("__debug__" : Str)) = false) (he : starEach (e :: es) X.env = (false, eval e X.env) :: starEach es X.env) (hpl : (backTo pos (starEach es X.env)).any (·.1) = false) :
    PEF X (.Call (.Name x p) (e :: es) [] pos) (fun σ H Q => t σ H fun vs H1 => sp vs H1 Q E0) := by
  intro pins s σ H Q I h
  refine wpAny_Call_Name_kw (ld_glob I hg hm ?_ hdb)
  refine PySem.W.callWith_K (h₀ := X.base) I.ok.mod.kin hk (wpAny_mono (PySem.wpAny_toks (ha.run pos pins s σ H _ I h)) (fun us s1 ⟨ht, vs, H1, I1, r, q⟩ => ⟨I1.kIn, ?_⟩) fun _ _ z => z.2) he hpl
  have hl : (us ++ []).length = ps.length := by rw [List.append_nil, ← r.length]; exact len _ _ _ _ q
  have hbt := hb s1 us I1.kIn hl
  rw [List.append_nil] at hbt
  refine wpAny_call (codeAny_mono (Fn X.A X.stack s1 H1 ⟨us, []⟩ us vs Q hr I1.env0 hbt r q) fun r s' hq => ?_)
  obtain ⟨hq, hf⟩ := hq
  cases r with
  | error e => exact hq.elim
  | ok fl =>
    cases fl with
    | ret u =>
      obtain ⟨y, t', e1, e2, e3⟩ := hf u rfl
      exact ⟨I1.after hq, y, t', e1, Nat.lt_of_le_of_lt ht e2, e3⟩
    | next => exact False.elim hq
    | brk => exact False.elim hq
    | cont => exact False.elim hq
/-- the frame's dict tells these two, and they are two objects -/
def TwoAt (X : Cx) (s : Shared) (x y : Str) : Prop := ∃ (m : Str → Option Value) (a b : Str) (t1 t2 : Tok), s.heap.Ns X.env.locals m ∧ m x = some (.str a t1) ∧ m y = some (.str b t2) ∧ t1 < t2 ∧ 0 < t1
theorem ps_pairF {i j : Nat} {x y : Str} {a b : Expr} {ta tb : TE} {px py pt pos : Pos} {kt k2 : Nat} {pt2 : Pos} (hc : X.calm = true) (hN : X.N.Nodup) (hi : X.N[i]? = some x) (hj : X.N[j]? = some y) (hij : i ≠ j)
    (hx : X.env.scope.names.lookup x = some .local) (hy : X.env.scope.names.lookup y = some .local) (ha : PEF X a ta) (hb : PEF X b tb) (h1 : starEach [a, b] X.env = [(false, eval a X.env), (false, eval b X.env)])
    (hw : swappedStores [.Tuple [.Name x px, .Name y py] kt pt] (.Tuple [a, b] k2 pt2) X.env = pure (some [x, y]))
    (hs : swapsWithSole [.Tuple [.Name x px, .Name y py] kt pt] (.Tuple [a, b] k2 pt2) pos.line X.env = pure false)
    {pins : List (Addr × Obj)} {s : Shared} {σ : L2.St} {H : Hp} {Q : V → V → Hp → Prop} {R : Flow → Shared → Prop} (I : L2.Inv X pins σ H s) (h : ta σ H fun v H1 => tb σ H1 fun w H2 => Q v w H2)
    (hR : ∀ v w H' s', L2.Inv X pins ((σ.set i (some v)).set j (some w)) H' s' → TwoAt X s' x y → Q v w H' → R .next s') :
    wpAny (model X.prog X.w) X.A (exec (.Assign [.Tuple [.Name x px, .Name y py] kt pt] (.Tuple [a, b] k2 pt2) pos) X.env) R X.xe s := by
  have hxy : x ≠ y := fun e => hij (nodup_ix hN hi (e ▸ hj))
  rw [exec_Assign_arm]
  refine wpAny_bind (wpAny_standAt ?_)
  rw [hs]
  refine wpAny_bind (wpAny_pure ?_)
  rw [if_neg (by decide)]
  refine wpAny_bind (Tuple_ ?_)
  rw [h1]
  refine Calls.spliced_cons (wpAny_mono (ha pins s σ H _ I h) (fun u1 s1 q1 => ?_) fun _ _ z => z)
  obtain ⟨⟨v, H1, I1, r1, q1⟩, y1, t1, rfl, f1, g1⟩ := q1
  refine Calls.spliced_cons (wpAny_mono (hb pins s1 σ H1 _ I1 q1) (fun u2 s2 q2 => ?_) fun _ _ z => z)
  obtain ⟨⟨w, H2, I2, r2, q2⟩, y2, t2, rfl, f2, g2⟩ := q2
  refine Calls.spliced_nil ?_
  refine wpAny_newObj_type ?_ (by show 2 ≤ sizeLine; decide)
  have I3 : L2.Inv X pins σ H2 { s2 with heap := s2.heap.push { cls := .type "tuple", data := .seq [Value.str y1 t1, Value.str y2 t2].toArray } } := I2.kept (t' := s2.toks) fun b o e => Heap.get?_push_of_some _ e
  rw [hw]
  refine wpAny_bind (wpAny_pure ?_)
  show wpAny (model X.prog X.w) X.A (do rule "assign.swapped-stores"; let items ← unpackItems (.ref s2.heap.objs.size) 2 none; assignInOrder [fun v => bindName X.env y v, fun v => bindName X.env x v] items.reverse; pure Flow.next) _ _ _
  refine wpAny_bind (wpAny_rule (wpAny_bind (unpackItems_tuple (items := #[Value.str y1 t1, Value.str y2 t2]) (I.ok.hd hc) (IsTup.new s2.heap _) fun h' hx' => ?_)))
  have I4 := I3.kept (h' := h') (t' := s2.toks) fun b o e => hx' b o (Nat.ne_of_lt (Heap.lt_size e)) e
  show wpAny _ _ (assignInOrder [fun v => bindName X.env y v, fun v => bindName X.env x v] [Value.str y2 t2, Value.str y1 t1] >>= fun _ => pure Flow.next) _ _ _
  obtain ⟨m, hn, _⟩ := id I4.loc
  refine wpAny_bind (assignInOrder_cons (wpAny_bindName (store_raw I4 hN hj hy r2 hn fun s5 I5 hn5 => ?_)))
  refine assignInOrder_cons (wpAny_bindName (store_raw I5 hN hi hx r1 hn5 fun s6 I6 hn6 => assignInOrder_nil (wpAny_pure ?_)))
  rw [List.set_comm _ _ (Ne.symm hij)] at I6
  refine hR v w H2 s6 I6 ⟨_, y1, y2, t1, t2, hn6, if_pos rfl, (if_neg (Ne.symm hxy)).trans (if_pos rfl), Nat.lt_trans g1 f2, Nat.lt_of_le_of_lt (Nat.zero_le _) f1⟩ q2
end
end PD

set_option Elab.async false
set_option linter.all false
set_option maxRecDepth 100000
set_option maxHeartbeats 4000000
/-! return ("map", one, other) if word == "map" and one != other else ("small",), by values. -/
namespace PD
open PySem L2 PySem.Spec PyProof.Rows
section
variable {X : Cx} {pins : List (Addr × Obj)} {σ : L2.St} {H : Hp} {s : Shared}
theorem two_tok {x y : Str} (h : TwoAt X s x y) (t : Nat) : TwoAt X { s with toks := t } x y := h
theorem raw_loc {x : Str} {u : Value} {m : Str → Option Value} {pos : Pos} {Q E : Value → Shared → Prop} (I : L2.Inv X pins σ H s) (hk : X.env.scope.names.lookup x = some .local) (hn : s.heap.Ns X.env.locals m) (hm : m x = some u) (hd : (x == ("__debug__" : Str)) = false) (h : Q u s) :
    wpAny (model X.prog X.w) X.A (eval (.Name x pos) X.env) Q E s := wpAny_Name (wpAny_loadName_local I.ok.kind hk hn hm h) hd
theorem eq_strs {prog : Program} {w : World} {A : Around} {E : Value → Shared → Prop} {s : Shared} {a b : Str} {t u : Tok} {Q : Value → Shared → Prop} (hu : A.units < cLine) (h : Q (.bool (a == b)) s) : wpAny (model prog w) A (compareOp .Eq (.str a t) (.str b u)) Q E s := by
  refine SeqAt.eq_plain (.str a t) (.str b u) rfl rfl (by simpa [PyData.depth] using hu) ?_
  have e : PyData.eqv (.str a) (.str b) = (a == b) := by simp [PyData.eqv]
  rw [e]; exact h
theorem ne_strs {prog : Program} {w : World} {A : Around} {E : Value → Shared → Prop} {s : Shared} {a b : Str} {t u : Tok} {Q : Value → Shared → Prop} (hu : A.units < cLine) (h : Q (.bool (!(a == b))) s) : wpAny (model prog w) A (compareOp .NotEq (.str a t) (.str b u)) Q E s := by
  refine SeqAt.ne_plain (.str a t) (.str b u) rfl rfl (by simpa [PyData.depth] using hu) ?_
  have e : PyData.eqv (.str a) (.str b) = (a == b) := by simp [PyData.eqv]
  rw [e]; exact h
theorem ret_map {i j iw : Nat} {x y wn mp sm wv a b : Str} {jm j2 j3 kt k3 : Nat} {pw cm p1 px1 py1 p2 pb c2 px2 py2 pt c3 p3 pi rp : Pos} {D : Ends} (I : L2.Inv X pins σ H s) (hT : TwoAt X s x y) (hu : X.A.units < cLine)
    (hNw : X.N[iw]? = some wn) (hvw : Vis X.env.scope wn) (hw : okN wn = true) (hσw : σ[iw]? = some (some (.str wv)))
    (hNx : X.N[i]? = some x) (hx : X.env.scope.names.lookup x = some .local) (hxd : (x == ("__debug__" : Str)) = false) (hσx : σ[i]? = some (some (.str a)))
    (hNy : X.N[j]? = some y) (hy : X.env.scope.names.lookup y = some .local) (hyd : (y == ("__debug__" : Str)) = false) (hσy : σ[j]? = some (some (.str b)))
    (h1 : wv = mp → a ≠ b → ∀ (p : Addr) (o : Obj) (t0 t1 t2 : Tok), H p = none → o.cls = .type "tuple" → o.data = .seq #[.str mp t0, .str a t1, .str b t2] 0 → t1 ≠ 0 → t2 ≠ 0 → t1 ≠ t2 → D.rt (.ref p) (upd H p (.frz o (.tup [.str mp, .str a, .str b]))))
    (h2 : ¬ (wv = mp ∧ a ≠ b) → ∀ p, H p = none → D.rt (.ref p) (upd H p (.tup [.str sm]))) :
    wpAny (model X.prog X.w) X.A (exec (.Return (some (.IfExp (.BoolOp .And [.Compare (.Name wn pw) [.Eq] [.Constant (.str mp) jm cm] p1, .Compare (.Name x px1) [.NotEq] [.Name y py1] p2] pb) (.Tuple [.Constant (.str mp) j2 c2, .Name x px2, .Name y py2] kt pt) (.Tuple [.Constant (.str sm) j3 c3] k3 p3) pi)) rp) X.env) (SP X pins D) X.xe s := by
  obtain ⟨m, a', b', t1, t2, hn, mx, my, hlt, h0⟩ := hT
  have ea : a' = a := by
    obtain ⟨m0, hn0, hl⟩ := I.loc
    obtain rfl := ns_inj hn0 hn
    obtain ⟨u, r, q⟩ := hl i x _ hNx hσx (.inl hx)
    rcases q with ⟨_, e⟩ | ⟨k, _⟩
    · rw [mx] at e
      obtain ⟨t, e'⟩ := r
      rw [e'] at e
      cases e; rfl
    · rcases k with k | k
      · exact absurd (hx.symm.trans k) (by decide)
      · exact absurd (hx.symm.trans k) (by decide)
  have eb : b' = b := by
    obtain ⟨m0, hn0, hl⟩ := I.loc
    obtain rfl := ns_inj hn0 hn
    obtain ⟨u, r, q⟩ := hl j y _ hNy hσy (.inl hy)
    rcases q with ⟨_, e⟩ | ⟨k, _⟩
    · rw [my] at e
      obtain ⟨t, e'⟩ := r
      rw [e'] at e
      cases e; rfl
    · rcases k with k | k
      · exact absurd (hy.symm.trans k) (by decide)
      · exact absurd (hy.symm.trans k) (by decide)
  subst ea; subst eb
  -- the tuples
  have small : ∀ k, ¬ (wv = mp ∧ a' ≠ b') → wpAny (model X.prog X.w) X.A (eval (.Tuple [.Constant (.str sm) j3 c3] k3 p3) X.env) (fun u s' => SP X pins D (.ret u) s') X.xe { s with toks := k } := by
    intro k hne
    refine Tuple_ ?_
    show wpAny _ _ (spliced ((false, eval (.Constant (.str sm) j3 c3) X.env) :: backTo p3 (starEach [] X.env))) _ _ _
    refine Calls.spliced_cons (Calls.Constant_str (Calls.spliced_nil ?_))
    refine wpAny_newObj_type ?_ (by show 1 ≤ sizeLine; decide)
    refine ⟨.ref s.heap.objs.size, σ, upd H s.heap.objs.size (.tup [.str sm]), ?_, rfl, h2 hne _ (I.hok.fresh (Nat.le_refl _))⟩
    exact I.laid (t' := k + 1) (fun b u e => Heap.get?_push_of_some _ e) (Nat.le_refl _) ⟨by show 1 ≤ sizeLine; decide, [.str sm k], .cons ⟨_, rfl⟩ .nil, ⟨_, Heap.get?_push_size _ rfl, rfl, _, rfl⟩⟩
  have whole : ∀ k, wv = mp → a' ≠ b' → wpAny (model X.prog X.w) X.A (eval (.Tuple [.Constant (.str mp) j2 c2, .Name x px2, .Name y py2] kt pt) X.env) (fun u s' => SP X pins D (.ret u) s') X.xe { s with toks := k } := by
    intro k e1 e2
    have Ik := I.tok k
    refine Tuple_ ?_
    show wpAny _ _ (spliced ((false, eval (.Constant (.str mp) j2 c2) X.env) :: (false, eval (.Name x px2) X.env) :: (false, eval (.Name y py2) X.env) :: backTo pt (starEach [] X.env))) _ _ _
    refine Calls.spliced_cons (Calls.Constant_str (Calls.spliced_cons (raw_loc (I.tok (k + 1)) hx hn mx hxd (Calls.spliced_cons (raw_loc (I.tok (k + 1)) hy hn my hyd (Calls.spliced_nil ?_))))))
    refine wpAny_newObj_type ?_ (by show 3 ≤ sizeLine; decide)
    have h3 : (3 : Nat) ≤ sizeLine := by decide
    refine ⟨.ref s.heap.objs.size, σ, upd H s.heap.objs.size (.frz { cls := .type "tuple", data := .seq #[.str mp k, .str a' t1, .str b' t2] } (.tup [.str mp, .str a', .str b'])), ?_, rfl, h1 e1 e2 _ _ k t1 t2 (I.hok.fresh (Nat.le_refl _)) rfl rfl (Nat.ne_of_gt h0) (Nat.ne_of_gt (Nat.lt_trans h0 hlt)) (Nat.ne_of_lt hlt)⟩
    exact I.laid (t' := k + 1) (fun b u e => Heap.get?_push_of_some _ e) (Nat.le_refl _) ⟨Heap.get?_push_size _ rfl, h3, [.str mp k, .str a' t1, .str b' t2], .cons ⟨_, rfl⟩ (.cons ⟨_, rfl⟩ (.cons ⟨_, rfl⟩ .nil)), ⟨_, Heap.get?_push_size _ rfl, rfl, _, rfl⟩⟩
  refine wpAny_Return_some (wpAny_IfExp (isTrue_and (wpAny_isTrue_Compare1 (raw_name hNw hvw I hσw (fun v r => ?_) (okN_of hw).1 (okN_of hw).2.1) (nobehind _ (by decide) (by decide)))))
  obtain ⟨tw, rfl⟩ := r
  refine Calls.Constant_str (eq_strs hu (wpAny_truthy_bool ?_))
  by_cases e1 : wv = mp
  · have : (wv == mp) = true := by rw [e1]; exact beq_self_eq_true _
    rw [this, if_pos rfl]
    refine isTrue_and (wpAny_isTrue_Compare1 (raw_loc (I.tok (s.toks + 1)) hx hn mx hxd (raw_loc (I.tok (s.toks + 1)) hy hn my hyd (ne_strs hu (wpAny_truthy_bool ?_)))) (nobehind _ (by decide) (by decide)))
    by_cases e2 : a' = b'
    · have : (!(a' == b')) = false := by rw [e2, beq_self_eq_true]; rfl
      rw [this, if_neg Bool.false_ne_true]
      exact small _ fun z => z.2 e2
    · have : (!(a' == b')) = true := by rw [beq_eq_false_iff_ne.mpr e2]; rfl
      rw [this, if_pos rfl]
      exact isTrue_and_nil (whole _ e1 e2)
  · have : (wv == mp) = false := beq_eq_false_iff_ne.mpr e1
    rw [this, if_neg Bool.false_ne_true]
    exact small _ fun z => e1 z.1
end
end PD

set_option Elab.async false
set_option linter.all false
set_option maxRecDepth 100000
set_option maxHeartbeats 4000000
/-! A checked block with a tail behind it; the tail of _law_step. -/
namespace PD
open PySem L2 PySem.Spec PyProof.Rows
section
variable {nm : Nm} {P : Sg} {C : Con} {W : TW} {X : Cx}
theorem bt_ok (g : Good nm P C W false X) (hk : X.env.scope.kind = .function) {r : List Stmt} {tr : L2.TS} (hr : PSs X r tr) : ∀ (b : Ss) (l : List Stmt), chkB nm X.env.scope b l = true → PSs X (l ++ r) (fun D σ H => RdB P C W b { D with nx := tr D } σ H)
  | .nil, l, h => by
    cases l with
    | nil =>
      refine pss_imp hr ?_
      rintro D σ H ⟨F0, H0, F, ρ, τ, o, r, e, k⟩
      rw [evB] at e
      cases e
      exact k _ _ _ (Sub.rfl' F) r
    | cons _ _ => simp [chkB] at h
  | .cons s ss, l, h => by
    cases l with
    | nil => simp [chkB] at h
    | cons z l' =>
      simp only [chkB, Bool.and_eq_true] at h
      exact pss_imp (pss_cons (s_ok g hk s z h.1) (bt_ok g hk hr ss l' h.2)) fun D σ H q => rd_seq q
  | .frz i ss, l, h => by
    simp only [chkB] at h
    exact pss_imp (bt_ok g hk hr ss l h) fun D σ H q => rd_frz q
theorem pef_imp {e : Expr} {t t' : TE} (h : PEF X e t) (f : ∀ σ H Q, t' σ H Q → t σ H Q) : PEF X e t' := fun pins s σ H Q I q => h pins s σ H Q I (f σ H Q q)
/-- f(tape), a fresh text -/
theorem pef_callT (g : Good nm P C W false X) {f i : Nat} {x t : Str} {p1 p2 p : Pos} {n : Nat} {fa : Addr} {fd : FuncData} {ps : List Str} {G : GF} (hG : G W.ns = P.G f) (h1 : nm.fns[f]? = some (x, true)) (h2 : glB X.env.scope x = true) (h3 : okN x = true) (h4 : nm.N[i]? = some t) (h5 : visB X.env.scope t = true) (h6 : okN t = true)
    (Fn : FnT X.prog X.w X.K X.mg X.base n fa fd ps (spD C true 0 G)) (hr : Room n X.A) (hm : X.mg x = some (.ref fa)) (hkp : PySem.W.keepIn X.K (.ref fa) = true) (hb : Binds X.K fd ps []) (hl : ps.length = 1) :
    PEF X (.Call (.Name x p1) [.Name t p2] [] p) (RdE P C W (.callT f i .nil)) := by
  have len : ∀ vs H Q E, spD C true 0 G vs H Q E → vs.length = ps.length := by
    rintro vs H Q E ⟨W, F, us, ds, τ, d, τ', rfl, h1, h2, _⟩
    rw [hl, List.length_append, h2.len, h1]; rfl
  refine pef_imp (pef_call Fn len hr (gl_of h2) hm hkp hb (pa_cons (pe_var (i := i) (by rw [g.hN]; exact h4) (vis_of h5) (okN_of h6).1 (okN_of h6).2.1) pa_nil rfl) (okN_of h3).1 rfl rfl) ?_
  rintro σ H Q ⟨F0, H0, F, ρ, τ, d, τ', r, e, k⟩
  simp only [ev] at e
  cases q : ρ[i]? with
  | none => rw [q] at e; cases e
  | some s =>
    rw [q] at e
    cases s with
    | tape =>
      simp only [Option.bind_eq_some_iff, Prod.exists] at e
      obtain ⟨ds, τ1, e1, e2⟩ := e
      simp only [evs, Option.some.injEq, Prod.mk.injEq] at e1
      obtain ⟨rfl, rfl⟩ := e1
      obtain ⟨v, e3, e4⟩ := r.get q
      have e4' : v = some (.ref W.tp) := e4
      subst e4'
      refine ⟨_, e3, ?_⟩
      exact ⟨W, F, [], [], τ, d, τ', by simp, rfl, .nil, r.sub, r.tape, by rw [hG]; exact e2, fun v F2 H2 x2 t2 q2 => k v F2 H2 x2 (r.ext x2 t2) q2⟩
    | _ => cases e
/-- `one, other = f(tape), f(tape)` and `return (m, one, other) if word == m and one != other else (s,)` -/
def tTail (P : Sg) (C : Con) (W : TW) (iw i j : Nat) (e : E) (sm : List Nat) : L2.TS := fun D σ H => ∃ F0 H0 F ρ τ w a b τ1 τ2, Rel C W F0 H0 F H σ ρ τ ∧ ρ[iw]? = some (.d (.str w)) ∧ ρ.length > i ∧ ρ.length > j ∧ ev P e ρ τ = some (.str a, τ1) ∧ ev P e ρ τ1 = some (.str b, τ2) ∧
  Cont C W D F0 H0 F (.rt (if w = mapW ∧ a ≠ b then .tup [.str mapW, .str a, .str b] else .tup [.str sm]) τ2)
theorem tail_ok (g : Good nm P C W false X) {iw i j : Nat} {x y wn mp sm : Str} {e : E} {ca cb : Expr} {px py pt spos : Pos} {kt k2 : Nat} {pt2 : Pos} {jm j2 j3 kt' k3 : Nat} {pw cm p1 px1 py1 p2 pb c2 px2 py2 pt' c3 p3 pi rp : Pos}
    (hmp : mp = tx mapW) {sml : List Nat} (hsm : sm = tx sml)
    (hi : X.N[i]? = some x) (hj : X.N[j]? = some y) (hij : i ≠ j) (hwi : iw ≠ i) (hwj : iw ≠ j)
    (hx : X.env.scope.names.lookup x = some .local) (hy : X.env.scope.names.lookup y = some .local) (hxd : (x == ("__debug__" : Str)) = false) (hyd : (y == ("__debug__" : Str)) = false)
    (ha : PEF X ca (RdE P C W e)) (hb : PEF X cb (RdE P C W e)) (h1 : starEach [ca, cb] X.env = [(false, eval ca X.env), (false, eval cb X.env)])
    (hw : swappedStores [.Tuple [.Name x px, .Name y py] kt pt] (.Tuple [ca, cb] k2 pt2) X.env = pure (some [x, y]))
    (hs : swapsWithSole [.Tuple [.Name x px, .Name y py] kt pt] (.Tuple [ca, cb] k2 pt2) spos.line X.env = pure false)
    (hNw : X.N[iw]? = some wn) (hvw : Vis X.env.scope wn) (hwn : okN wn = true) :
    PSs X [.Assign [.Tuple [.Name x px, .Name y py] kt pt] (.Tuple [ca, cb] k2 pt2) spos,
      .Return (some (.IfExp (.BoolOp .And [.Compare (.Name wn pw) [.Eq] [.Constant (.str mp) jm cm] p1, .Compare (.Name x px1) [.NotEq] [.Name y py1] p2] pb) (.Tuple [.Constant (.str mp) j2 c2, .Name x px2, .Name y py2] kt' pt') (.Tuple [.Constant (.str sm) j3 c3] k3 p3) pi)) rp] (tTail P C W iw i j e sml) := by
  subst hmp; subst hsm
  refine ⟨fun pins s σ H D I h => ?_⟩
  obtain ⟨F0, H0, F, ρ, τ, w, a, b, τ1, τ2, r, hρ, li, lj, e1, e2, k⟩ := h
  obtain ⟨vw, hσw, sw⟩ := r.get hρ
  obtain ⟨u, rfl, ru⟩ := sw
  cases ru
  refine wpAny_execs_cons (ps_pairF (Q := fun v v2 H2 => ∃ F', R C F' v (.str a) ∧ R C F' v2 (.str b) ∧ Rel C W F0 H0 F' H2 σ ρ τ2 ∧ Sub F F') g.calm g.nd hi hj hij hx hy ha hb h1 hw hs I ?_ ?_)
  · refine ⟨F0, H0, F, ρ, τ, _, τ1, r, e1, fun v F1 H1 x1 r1 q1 => ⟨F0, H0, F1, ρ, τ1, _, τ2, r1, e2, fun v2 F2 H2 x2 r2 q2 => ⟨F2, R.sub x2.ff _ q1, q2, r2, x1.ff.tr x2.ff⟩⟩⟩
  · rintro v v2 H' s' I' hT ⟨F', q1, q2, r', sF⟩
    cases q1
    cases q2
    have ll := r.len
    have hli : i < σ.length := by omega
    have hlj : j < σ.length := by omega
    show wpAny _ _ _ _ _ _
    refine wpAny_execs_cons (thn (ret_map (D := D) (iw := iw) (wv := tx w) (a := tx a) (b := tx b) I' hT (Nat.lt_of_le_of_lt (Nat.le_add_right _ 65) g.units) hNw hvw hwn ?_ hi hx hxd ?_ hj hy hyd ?_ ?_ ?_) fun f s1 q => ?_)
    · rw [List.getElem?_set_ne (Ne.symm hwj), List.getElem?_set_ne (Ne.symm hwi)]; exact hσw
    · rw [List.getElem?_set_ne (Ne.symm hij), List.getElem?_set_self hli]
    · rw [List.getElem?_set_self (by rw [List.length_set]; exact hlj)]
    · intro ew ne p o t0 t1 t2 hp hc hd n1 n2 n3
      have ew' : w = mapW := by have := tx_beq w mapW; rw [ew, beq_self_eq_true] at this; exact (beq_iff_eq.mp this.symm)
      have ne' : a ≠ b := fun z => ne (by rw [z])
      rw [if_pos ⟨ew', ne'⟩] at k
      exact k _ _ _ ((r'.base.tr (Ext.new r'.sub _ hp))) (r'.tape.extP (ExtP.new r'.sub _ hp)) (R.newM r'.sub hp hc hd n1 n2 n3)
    · intro hn p hp
      have hn' : ¬ (w = mapW ∧ a ≠ b) := fun z => hn ⟨by rw [z.1], fun q => z.2 (by have := tx_beq a b; rw [q, beq_self_eq_true] at this; exact beq_iff_eq.mp this.symm)⟩
      rw [if_neg hn'] at k
      exact k _ _ _ ((r'.base.tr (Ext.new r'.sub _ hp))) (r'.tape.extP (ExtP.new r'.sub _ hp)) (.tup (.inl (.inl upd_same)) (.cons (.str _) .nil) fun z => by simp [isMap] at z)
    · cases f with
      | next => exact wpAny_execs_nil q
      | brk => exact q
      | cont => exact q
      | ret u => exact q
end
end PD

set_option Elab.async false
set_option linter.all false
set_option maxRecDepth 100000
set_option maxHeartbeats 8000000
/-! A def whose checked block has the tail of _law_step behind it. -/
namespace PD
open PySem L2 PySem.Spec PyProof.Rows
/-- what the tail answers -/
def tailD (w a b sm : List Nat) : D := if w = mapW ∧ a ≠ b then .tup [.str mapW, .str a, .str b] else .tup [.str sm]
def TailRun (P : Sg) (iw i j : Nat) (e : E) (sm : List Nat) (r : D × TS) : Out → Prop
  | .rt d τ => (d, τ) = r
  | .nx ρ τ => ∃ w a b τ1 τ2, ρ[iw]? = some (.d (.str w)) ∧ ρ.length > i ∧ ρ.length > j ∧ ev P e ρ τ = some (.str a, τ1) ∧ ev P e ρ τ1 = some (.str b, τ2) ∧ r = (tailD w a b sm, τ2)
  | _ => False
theorem def_okB {Pg : Program} {w : World} {K : PySem.W.Frag} {mg : Str → Option Value} {base : Heap} {C : Con} (M : Mo C K mg) {x : Str} {st : Stmt} {ps N : List Str} {tp : Bool} {ar k : Nat} {body : Ss} {cal : List Cal} {csts : List (Str × D)}
    (D0 : DefOk K mg x st ps) (S : FnScope N ps (defScope st)) {l r : List Stmt} (hlr : defBody st = l ++ r) (chk : chkB (mkNm N cal csts) (defScope st) body l = true) (hl : (if tp then 1 else 0) + ar = ps.length)
    (hcst : ∀ p ∈ csts, CstOk C mg p) (hc : ∀ c ∈ cal, Kn Pg w K mg base C k c) {iw i j : Nat} {e : E} {sm : List Nat}
    (hr : ∀ (W : TW) (X : Cx), Good (mkNm N cal csts) (mkSg C.tk cal csts W.ns) C W false X → X.prog = Pg → X.w = w → X.K = K → X.mg = mg → X.base = base → X.N = N → Room k X.A → X.env.scope = defScope st → PSs X r (tTail (mkSg C.tk cal csts W.ns) C W iw i j e sm))
    (G : GF) (hG : ∀ ns ds τ r, G ns ds τ = some r → ds.length = ar ∧ ∃ o, evB (mkSg C.tk cal csts ns) body (start' N.length tp ds) τ = some o ∧ TailRun (mkSg C.tk cal csts ns) iw i j e sm r o) :
    Kn Pg w K mg base C (k + 1) ⟨x, tp, ar, G⟩ := by
  obtain ⟨f, fd, Fn, hm, hb⟩ := D0
  refine ⟨f, fd, ps, ?_, hm, Fn.kp, hb, fun ns ds τ r e => (hG ns ds τ r e).1⟩
  have hlen : ∀ vs H Q E, spD C tp ar G vs H Q E → vs.length = ps.length := by
    rintro vs H Q E ⟨W, F, us, ds, τ, d, τ', rfl, h1, h2, _⟩
    rw [← hl, List.length_append, h2.len, h1]
    cases tp <;> rfl
  refine Fn.ok S hlen fun cdv A outer s H vs Q E hrm hsp => ?_
  have hvl := hlen _ _ _ _ hsp
  obtain ⟨W, F, us, ds, τ, d, τ', rfl, h1, h2, h3, h4, h5, h6⟩ := hsp
  obtain ⟨_, o, hrun, hto⟩ := hG _ _ _ _ h5
  have g : Good (mkNm N cal csts) (mkSg C.tk cal csts W.ns) C W false (cxOf CX0 Pg w K mg base N x (defScope st) f cdv A outer s H E).nox := by
    exact good_of M rfl rfl S.nd rfl rfl (by
      have := hrm.un
      show (A.deeper _).units + 65 < cLine
      omega) (fun _ _ => rfl) rfl rfl rfl rfl hrm hcst hc (by simp)
  have hpl : ps.length ≤ N.length := by have := congrArg List.length S.pre; rw [List.length_take] at this; omega
  have ht := hr W _ g rfl rfl rfl rfl rfl rfl hrm rfl
  have hb2 := bt_ok g S.kind ht body l chk
  rw [← hlr] at hb2
  refine ⟨_, hb2, F, H, F, start' N.length tp ds, τ, o, start_rel (by rw [hvl]; exact hpl) h2 h3 h4, hrun, ?_⟩
  cases o with
  | nx ρ τ1 =>
    obtain ⟨w, a, b, τ2, τ3, q1, q2, q3, q4, q5, q6⟩ := hto
    cases q6
    intro σ' F' H' s' r'
    exact ⟨_, _, F', ρ, τ1, w, a, b, τ2, _, r', q1, q2, q3, q4, q5, fun v F2 H2 x2 t2 r2 => h6 _ _ _ x2 t2 r2⟩
  | bk ρ τ1 => cases hto
  | ct ρ τ1 => cases hto
  | rt d' τ1 =>
    cases hto
    exact fun v F' H' x' t' r' => h6 _ _ _ x' t' r'
end PD

set_option Elab.async false
set_option linter.all false
set_option maxRecDepth 100000
set_option maxHeartbeats 8000000
/-! What _law_step draws. -/
namespace PD
open PySem L2
def ir_step7 : Ss := (.cons (.set 1 (.lst (.cons (.str [116, 114, 105, 109]) (.cons (.str [116, 114, 105, 109]) (.cons (.str [100, 114, 111, 112]) (.cons (.str [115, 113, 117, 101, 101, 122, 101]) (.cons (.str [106, 111, 105, 110]) (.cons (.str [109, 97, 112]) (.cons (.str [115, 109, 97, 108, 108]) .nil))))))))) (.cons (.set 1 (.bin .Add (.var 1) (.lst (.cons (.str [102, 114, 111, 110, 116]) (.cons (.str [102, 114, 111, 110, 116, 115]) (.cons (.str [98, 97, 99, 107]) (.cons (.str [98, 97, 99, 107, 115]) (.cons (.str [102, 105, 114, 115, 116]) (.cons (.str [108, 97, 115, 116]) .nil))))))))) (.cons (.set 2 (.idx (.var 1) (.callT 0 0 (.cons (.int 13) .nil)))) (.cons (.ife (.cmp .In (.var 2) (.tup (.cons (.str [116, 114, 105, 109]) (.cons (.str [100, 114, 111, 112]) (.cons (.str [115, 113, 117, 101, 101, 122, 101]) .nil))))) (.cons (.ret (.tup (.cons (.var 2) (.cons (.callT 1 0 .nil) .nil)))) .nil) .nil) (.cons (.ife (.cmp .In (.var 2) (.tup (.cons (.str [102, 105, 114, 115, 116]) (.cons (.str [108, 97, 115, 116]) .nil)))) (.cons (.ret (.tup (.cons (.var 2) (.cons (.bin .Add (.int 1) (.callT 0 0 (.cons (.int 3) .nil))) .nil)))) .nil) .nil) (.cons (.ife (.cmp .In (.var 2) (.tup (.cons (.str [102, 114, 111, 110, 116]) (.cons (.str [102, 114, 111, 110, 116, 115]) (.cons (.str [98, 97, 99, 107]) (.cons (.str [98, 97, 99, 107, 115]) .nil)))))) (.cons (.ret (.tup (.cons (.var 2) (.cons (.callT 2 0 .nil) .nil)))) .nil) .nil) (.cons (.ife (.cmp .Eq (.var 2) (.str [106, 111, 105, 110])) (.cons (.ret (.tup (.cons (.var 2) (.cons (.callT 1 0 .nil) (.cons (.callT 3 0 .nil) .nil))))) .nil) .nil) .nil)))))))
noncomputable abbrev calStep (tk : Bool) : List Cal := [cDraw tk, ⟨"_law_set", true, 0, GSet tk⟩, ⟨"_law_word", true, 0, GWord tk⟩, cSign tk]
def SML : List Nat := [115, 109, 97, 108, 108]
noncomputable def outTail (P : Sg) : Out → Option (D × TS)
  | .rt d τ1 => some (d, τ1)
  | .nx ρ τ1 => (match (ρ[2]? : Option Slot) with
      | some (.d (.str w)) => if ρ.length = 5 then (match (ev P (.callT 3 0 .nil) ρ τ1 : Option (D × TS)) with
        | some (.str a, τ2) => (match (ev P (.callT 3 0 .nil) ρ τ2 : Option (D × TS)) with
          | some (.str b, τ3) => some (tailD w a b SML, τ3)
          | _ => none)
        | _ => none) else none
      | _ => none)
  | _ => none
noncomputable def GStepD (tk : Bool) : GF := fun ns ds τ =>
  if ds.length = 0 then (evB (mkSg tk (calStep tk) [] ns) ir_step7 (start' 5 true ds) τ).bind (outTail (mkSg tk (calStep tk) [] ns)) else none
theorem GStepD_run {tk : Bool} {ns : List Int} {ds : List D} {τ : TS} {r : D × TS} (h : GStepD tk ns ds τ = some r) : ds.length = 0 ∧ ∃ o, evB (mkSg tk (calStep tk) [] ns) ir_step7 (start' 5 true ds) τ = some o ∧ TailRun (mkSg tk (calStep tk) [] ns) 2 3 4 (.callT 3 0 .nil) SML r o := by
  unfold GStepD at h
  split at h
  · rename_i hl
    simp only [Option.bind_eq_some_iff] at h
    obtain ⟨o, e1, e2⟩ := h
    refine ⟨hl, o, e1, ?_⟩
    unfold outTail at e2
    cases o with
    | rt d τ1 => exact Option.some.inj e2
    | nx ρ τ1 =>
      simp only at e2
      split at e2
      · rename_i w hw
        split at e2
        · rename_i h5
          split at e2
          · rename_i a τ2 q1
            split at e2
            · rename_i b τ3 q2
              exact ⟨w, a, b, τ2, τ3, hw, by omega, by omega, q1, q2, (Option.some.inj e2).symm⟩
            · cases e2
          · cases e2
        · cases e2
      · cases e2
    | bk _ _ => cases e2
    | ct _ _ => cases e2
  · cases h
end PD

set_option Elab.async false
set_option linter.all false
set_option maxRecDepth 100000
set_option maxHeartbeats 8000000
/-! What _law_step draws: an ok step. -/
namespace PD
open PySem L2
def KND : List (List Nat) := [[116, 114, 105, 109], [116, 114, 105, 109], [100, 114, 111, 112], [115, 113, 117, 101, 101, 122, 101], [106, 111, 105, 110], [109, 97, 112], [115, 109, 97, 108, 108], [102, 114, 111, 110, 116], [102, 114, 111, 110, 116, 115], [98, 97, 99, 107], [98, 97, 99, 107, 115], [102, 105, 114, 115, 116], [108, 97, 115, 116]]
def Stp.drawn : Stp → Prop
  | .small => True
  | .map x y => x ∈ SGN ∧ y ∈ SGN
  | .drop s | .trim s | .squeeze s => s ≠ [] ∧ s.length ≤ 3 ∧ s.Pairwise (· < ·) ∧ ∀ c ∈ s, c ∈ SGN
  | .join s o => (s ≠ [] ∧ s.length ≤ 3 ∧ s.Pairwise (· < ·) ∧ ∀ c ∈ s, c ∈ SGN) ∧ o ∈ SGN
  | .front w | .fronts w | .back w | .backs w => w ≠ [] ∧ w.length ≤ 2 ∧ ∀ c ∈ w, c ∈ SGN
  | .first n | .last n => 1 ≤ n ∧ n ≤ 3
theorem step_ok (tk : Bool) (ns : List Int) (τ : TS) : ∃ s τ', GStepD tk ns [] τ = some (Stp.d s, τ') ∧ s.ok ∧ s.drawn := by
  obtain ⟨r, τ1, e1, h1⟩ := draw_int tk ns 13 13 rfl (by omega) (by omega) τ
  obtain ⟨s, τ2, e2, a1, a2, a3, a4⟩ := sset_ok tk ns τ1
  obtain ⟨w, τ3, e3, b1, b2, b3⟩ := word_ok tk ns τ1
  obtain ⟨n, τ4, e4, h4⟩ := draw_int tk ns 3 3 rfl (by omega) (by omega) τ1
  obtain ⟨o, τ5, e5, h5⟩ := sign_ok tk ns τ2
  obtain ⟨x, τ6, e6, h6⟩ := sign_ok tk ns τ1
  obtain ⟨y, τ7, e7, h7⟩ := sign_ok tk ns τ6
  have z1 : 1 ≤ sizeLine := by decide
  have z6 : 6 ≤ sizeLine := by decide
  have z7 : 7 ≤ sizeLine := by decide
  have z13 : 13 ≤ sizeLine := by decide
  have hrun : ∀ d τ', (evB (mkSg tk (calStep tk) [] ns) ir_step7 [.tape, .un, .un, .un, .un] τ).bind (outTail (mkSg tk (calStep tk) [] ns)) = some (d, τ') → GStepD tk ns [] τ = some (d, τ') := fun d τ' h => by
    unfold GStepD
    exact (if_pos (c := ([] : List D).length = 0) rfl).trans h
  have hk : ∃ k, atI KND (r : Int) = some k ∧ KND[r]? = some k := ⟨KND[r], atI_nat (List.getElem?_eq_getElem h1), List.getElem?_eq_getElem h1⟩
  obtain ⟨k, k1, k2⟩ := hk
  have k3 : atI (KND.map D.str) (r : Int) = some (.str k) := atI_nat (by rw [List.getElem?_map, k2]; rfl)
  simp only [KND, List.map_cons, List.map_nil] at k3
  have z2 : 2 ≤ sizeLine := by decide
  have z3 : 3 ≤ sizeLine := by decide
  have z4 : 4 ≤ sizeLine := by decide
  have h13 : r = 0 ∨ r = 1 ∨ r = 2 ∨ r = 3 ∨ r = 4 ∨ r = 5 ∨ r = 6 ∨ r = 7 ∨ r = 8 ∨ r = 9 ∨ r = 10 ∨ r = 11 ∨ r = 12 := by omega
  have hw : ∀ R, (evB (mkSg tk (calStep tk) [] ns) ir_step7 [.tape, .un, .un, .un, .un] τ).bind (outTail (mkSg tk (calStep tk) [] ns)) = R ↔ (evB (mkSg tk (calStep tk) [] ns) (match ir_step7 with | .cons _ (.cons _ (.cons _ t)) => t | t => t) [.tape, .d (.lst (KND.map .str)), .d (.str k), .un, .un] τ1).bind (outTail (mkSg tk (calStep tk) [] ns)) = R := by
    intro R
    unfold ir_step7
    rw [evB_nx (ρ1 := [.tape, .d (.lst ((KND.take 7).map .str)), .un, .un, .un]) (τ1 := τ) (by simp [evB, evS, ev, evs, evt, evp, evi, binD, cmpD, bD, mD, neD, eqD, truD, ixD, inD, inB, slD, lenD, intD, maxD, minD, addD, subD, negD, joinD, joinS, txsO, lowerD, upperD, startsD, endsD, stripD, with1, ordD, mulD, modD, fdivD, powD, intO, Out.then, bindT, setAll, itemsD, rangeD, runF, start', mkSg, mkSgG, opD, small62, wipeE, compL, forL, List.replicate, tyIs, KND, okT, isMap, z6, z7, z13]),
      evB_nx (ρ1 := [.tape, .d (.lst (KND.map .str)), .un, .un, .un]) (τ1 := τ) (by simp [evB, evS, ev, evs, evt, evp, evi, binD, cmpD, bD, mD, neD, eqD, truD, ixD, inD, inB, slD, lenD, intD, maxD, minD, addD, subD, negD, joinD, joinS, txsO, lowerD, upperD, startsD, endsD, stripD, with1, ordD, mulD, modD, fdivD, powD, intO, Out.then, bindT, setAll, itemsD, rangeD, runF, start', mkSg, mkSgG, opD, small62, wipeE, compL, forL, List.replicate, tyIs, KND, okT, isMap, z6, z7, z13]),
      evB_nx (ρ1 := [.tape, .d (.lst (KND.map .str)), .d (.str k), .un, .un]) (τ1 := τ1) (by simp [evB, evS, ev, evs, evt, evp, evi, binD, cmpD, bD, mD, neD, eqD, truD, ixD, inD, inB, slD, lenD, intD, maxD, minD, addD, subD, negD, joinD, joinS, txsO, lowerD, upperD, startsD, endsD, stripD, with1, ordD, mulD, modD, fdivD, powD, intO, Out.then, bindT, setAll, itemsD, rangeD, runF, start', mkSg, mkSgG, opD, small62, wipeE, compL, forL, List.replicate, tyIs, KND, e1, k3])]
  have fin : ∀ d τ', (evB (mkSg tk (calStep tk) [] ns) (match ir_step7 with | .cons _ (.cons _ (.cons _ t)) => t | t => t) [.tape, .d (.lst (KND.map .str)), .d (.str k), .un, .un] τ1).bind (outTail (mkSg tk (calStep tk) [] ns)) = some (d, τ') → GStepD tk ns [] τ = some (d, τ') := fun d τ' h => hrun d τ' ((hw _).mpr h)
  unfold ir_step7 at fin
  simp only at fin
  rcases h13 with rfl | rfl | rfl | rfl | rfl | rfl | rfl | rfl | rfl | rfl | rfl | rfl | rfl <;> (simp only [KND, List.getElem?_cons_zero, List.getElem?_cons_succ, Option.some.injEq] at k2; subst k2)
  · exact ⟨.trim s, τ2, fin _ _ (by simp [evB, evS, ev, evs, evt, evp, evi, binD, cmpD, bD, mD, neD, eqD, truD, ixD, inD, inB, slD, lenD, intD, maxD, minD, addD, subD, negD, joinD, joinS, txsO, lowerD, upperD, startsD, endsD, stripD, with1, ordD, mulD, modD, fdivD, powD, intO, Out.then, bindT, setAll, itemsD, rangeD, runF, start', mkSg, mkSgG, opD, small62, wipeE, compL, forL, List.replicate, tyIs, okT, isMap, mapW, z1, z2, z3, z4, outTail, e2, Stp.d]), trivial, a1, a2, a3, a4⟩
  · exact ⟨.trim s, τ2, fin _ _ (by simp [evB, evS, ev, evs, evt, evp, evi, binD, cmpD, bD, mD, neD, eqD, truD, ixD, inD, inB, slD, lenD, intD, maxD, minD, addD, subD, negD, joinD, joinS, txsO, lowerD, upperD, startsD, endsD, stripD, with1, ordD, mulD, modD, fdivD, powD, intO, Out.then, bindT, setAll, itemsD, rangeD, runF, start', mkSg, mkSgG, opD, small62, wipeE, compL, forL, List.replicate, tyIs, okT, isMap, mapW, z1, z2, z3, z4, outTail, e2, Stp.d]), trivial, a1, a2, a3, a4⟩
  · exact ⟨.drop s, τ2, fin _ _ (by simp [evB, evS, ev, evs, evt, evp, evi, binD, cmpD, bD, mD, neD, eqD, truD, ixD, inD, inB, slD, lenD, intD, maxD, minD, addD, subD, negD, joinD, joinS, txsO, lowerD, upperD, startsD, endsD, stripD, with1, ordD, mulD, modD, fdivD, powD, intO, Out.then, bindT, setAll, itemsD, rangeD, runF, start', mkSg, mkSgG, opD, small62, wipeE, compL, forL, List.replicate, tyIs, okT, isMap, mapW, z1, z2, z3, z4, outTail, e2, Stp.d]), trivial, a1, a2, a3, a4⟩
  · exact ⟨.squeeze s, τ2, fin _ _ (by simp [evB, evS, ev, evs, evt, evp, evi, binD, cmpD, bD, mD, neD, eqD, truD, ixD, inD, inB, slD, lenD, intD, maxD, minD, addD, subD, negD, joinD, joinS, txsO, lowerD, upperD, startsD, endsD, stripD, with1, ordD, mulD, modD, fdivD, powD, intO, Out.then, bindT, setAll, itemsD, rangeD, runF, start', mkSg, mkSgG, opD, small62, wipeE, compL, forL, List.replicate, tyIs, okT, isMap, mapW, z1, z2, z3, z4, outTail, e2, Stp.d]), trivial, a1, a2, a3, a4⟩
  · exact ⟨.join s o, τ5, fin _ _ (by simp [evB, evS, ev, evs, evt, evp, evi, binD, cmpD, bD, mD, neD, eqD, truD, ixD, inD, inB, slD, lenD, intD, maxD, minD, addD, subD, negD, joinD, joinS, txsO, lowerD, upperD, startsD, endsD, stripD, with1, ordD, mulD, modD, fdivD, powD, intO, Out.then, bindT, setAll, itemsD, rangeD, runF, start', mkSg, mkSgG, opD, small62, wipeE, compL, forL, List.replicate, tyIs, okT, isMap, mapW, z1, z2, z3, z4, outTail, e2, e5, Stp.d]), trivial, ⟨a1, a2, a3, a4⟩, h5⟩
  · by_cases q : x = y
    · exact ⟨.small, τ7, fin _ _ (by simp [evB, evS, ev, evs, evt, evp, evi, binD, cmpD, bD, mD, neD, eqD, truD, ixD, inD, inB, slD, lenD, intD, maxD, minD, addD, subD, negD, joinD, joinS, txsO, lowerD, upperD, startsD, endsD, stripD, with1, ordD, mulD, modD, fdivD, powD, intO, Out.then, bindT, setAll, itemsD, rangeD, runF, start', mkSg, mkSgG, opD, small62, wipeE, compL, forL, List.replicate, tyIs, okT, isMap, mapW, z1, z2, z3, z4, outTail, e6, e7, Stp.d, tailD, SML, q]), trivial, trivial⟩
    · exact ⟨.map x y, τ7, fin _ _ (by simp [evB, evS, ev, evs, evt, evp, evi, binD, cmpD, bD, mD, neD, eqD, truD, ixD, inD, inB, slD, lenD, intD, maxD, minD, addD, subD, negD, joinD, joinS, txsO, lowerD, upperD, startsD, endsD, stripD, with1, ordD, mulD, modD, fdivD, powD, intO, Out.then, bindT, setAll, itemsD, rangeD, runF, start', mkSg, mkSgG, opD, small62, wipeE, compL, forL, List.replicate, tyIs, okT, isMap, mapW, z1, z2, z3, z4, outTail, e6, e7, Stp.d, tailD, SML, q]), q, h6, h7⟩
  · exact ⟨.small, τ7, fin _ _ (by simp [evB, evS, ev, evs, evt, evp, evi, binD, cmpD, bD, mD, neD, eqD, truD, ixD, inD, inB, slD, lenD, intD, maxD, minD, addD, subD, negD, joinD, joinS, txsO, lowerD, upperD, startsD, endsD, stripD, with1, ordD, mulD, modD, fdivD, powD, intO, Out.then, bindT, setAll, itemsD, rangeD, runF, start', mkSg, mkSgG, opD, small62, wipeE, compL, forL, List.replicate, tyIs, okT, isMap, mapW, z1, z2, z3, z4, outTail, e6, e7, Stp.d, tailD, SML]), trivial, trivial⟩
  · exact ⟨.front w, τ3, fin _ _ (by simp [evB, evS, ev, evs, evt, evp, evi, binD, cmpD, bD, mD, neD, eqD, truD, ixD, inD, inB, slD, lenD, intD, maxD, minD, addD, subD, negD, joinD, joinS, txsO, lowerD, upperD, startsD, endsD, stripD, with1, ordD, mulD, modD, fdivD, powD, intO, Out.then, bindT, setAll, itemsD, rangeD, runF, start', mkSg, mkSgG, opD, small62, wipeE, compL, forL, List.replicate, tyIs, okT, isMap, mapW, z1, z2, z3, z4, outTail, e3, Stp.d]), ⟨b1, by omega⟩, b1, b2, b3⟩
  · exact ⟨.fronts w, τ3, fin _ _ (by simp [evB, evS, ev, evs, evt, evp, evi, binD, cmpD, bD, mD, neD, eqD, truD, ixD, inD, inB, slD, lenD, intD, maxD, minD, addD, subD, negD, joinD, joinS, txsO, lowerD, upperD, startsD, endsD, stripD, with1, ordD, mulD, modD, fdivD, powD, intO, Out.then, bindT, setAll, itemsD, rangeD, runF, start', mkSg, mkSgG, opD, small62, wipeE, compL, forL, List.replicate, tyIs, okT, isMap, mapW, z1, z2, z3, z4, outTail, e3, Stp.d]), ⟨b1, by omega⟩, b1, b2, b3⟩
  · exact ⟨.back w, τ3, fin _ _ (by simp [evB, evS, ev, evs, evt, evp, evi, binD, cmpD, bD, mD, neD, eqD, truD, ixD, inD, inB, slD, lenD, intD, maxD, minD, addD, subD, negD, joinD, joinS, txsO, lowerD, upperD, startsD, endsD, stripD, with1, ordD, mulD, modD, fdivD, powD, intO, Out.then, bindT, setAll, itemsD, rangeD, runF, start', mkSg, mkSgG, opD, small62, wipeE, compL, forL, List.replicate, tyIs, okT, isMap, mapW, z1, z2, z3, z4, outTail, e3, Stp.d]), ⟨b1, by omega⟩, b1, b2, b3⟩
  · exact ⟨.backs w, τ3, fin _ _ (by simp [evB, evS, ev, evs, evt, evp, evi, binD, cmpD, bD, mD, neD, eqD, truD, ixD, inD, inB, slD, lenD, intD, maxD, minD, addD, subD, negD, joinD, joinS, txsO, lowerD, upperD, startsD, endsD, stripD, with1, ordD, mulD, modD, fdivD, powD, intO, Out.then, bindT, setAll, itemsD, rangeD, runF, start', mkSg, mkSgG, opD, small62, wipeE, compL, forL, List.replicate, tyIs, okT, isMap, mapW, z1, z2, z3, z4, outTail, e3, Stp.d]), ⟨b1, by omega⟩, b1, b2, b3⟩
  · exact ⟨.first (1 + n), τ4, fin _ _ (by simp [evB, evS, ev, evs, evt, evp, evi, binD, cmpD, bD, mD, neD, eqD, truD, ixD, inD, inB, slD, lenD, intD, maxD, minD, addD, subD, negD, joinD, joinS, txsO, lowerD, upperD, startsD, endsD, stripD, with1, ordD, mulD, modD, fdivD, powD, intO, Out.then, bindT, setAll, itemsD, rangeD, runF, start', mkSg, mkSgG, opD, small62, wipeE, compL, forL, List.replicate, tyIs, okT, isMap, mapW, z1, z2, z3, z4, outTail, e4, Stp.d]), by show 1 ≤ 1 + n; omega, by omega, by omega⟩
  · exact ⟨.last (1 + n), τ4, fin _ _ (by simp [evB, evS, ev, evs, evt, evp, evi, binD, cmpD, bD, mD, neD, eqD, truD, ixD, inD, inB, slD, lenD, intD, maxD, minD, addD, subD, negD, joinD, joinS, txsO, lowerD, upperD, startsD, endsD, stripD, with1, ordD, mulD, modD, fdivD, powD, intO, Out.then, bindT, setAll, itemsD, rangeD, runF, start', mkSg, mkSgG, opD, small62, wipeE, compL, forL, List.replicate, tyIs, okT, isMap, mapW, z1, z2, z3, z4, outTail, e4, Stp.d]), by show 1 ≤ 1 + n; omega, by omega, by omega⟩
end PD

set_option Elab.async false
set_option linter.all false
set_option maxRecDepth 100000
set_option maxHeartbeats 8000000
/-! A def `return TEXT[e]` gives out a fresh text. -/
namespace PD
open PySem L2 PySem.Spec PyProof.Rows
def KnT (Pg : Program) (w : World) (K : PySem.W.Frag) (mg : Str → Option Value) (base : Heap) (C : Con) (k : Nat) (c : Cal) : Prop :=
  ∃ fa fd ps, FnT Pg w K mg base k fa fd ps (spD C c.tp c.ar c.G) ∧ mg c.x = some (.ref fa) ∧ PySem.W.keepIn K (.ref fa) = true ∧ Binds K fd ps [] ∧ ps.length = (if c.tp then 1 else 0) + c.ar
theorem def_okT {Pg : Program} {w : World} {K : PySem.W.Frag} {mg : Str → Option Value} {base : Heap} {C : Con} (M : Mo C K mg) {x : Str} {st : Stmt} {ps N : List Str} {tp : Bool} {ar k : Nat} {cal : List Cal} {csts : List (Str × D)}
    (D0 : DefOk K mg x st ps) (S : FnScope N ps (defScope st)) {a : Str} {j : Nat} {cp sp rp : Pos} {ex : Expr} {ie : E} (hbd : defBody st = [.Return (some (.Subscript (.Constant (.str a) j cp) ex sp)) rp]) (hpx : PlainIx ex) (hsz : a.length ≤ sizeLine)
    (chk : chkE (mkNm N cal csts) (defScope st) ie ex = true) (hl : (if tp then 1 else 0) + ar = ps.length)
    (hcst : ∀ p ∈ csts, CstOk C mg p) (hc : ∀ c ∈ cal, Kn Pg w K mg base C k c)
    (G : GF) (hG : ∀ ns ds τ r, G ns ds τ = some r → ds.length = ar ∧ ∃ i τ' c, ev (mkSg C.tk cal csts ns) ie (start' N.length tp ds) τ = some (.int i, τ') ∧ atI a.cps.toList i = some c ∧ r = (.str [c], τ')) :
    KnT Pg w K mg base C (k + 1) ⟨x, tp, ar, G⟩ := by
  obtain ⟨f, fd, Fn, hm, hb⟩ := D0
  refine ⟨f, fd, ps, ?_, hm, Fn.kp, hb, hl.symm⟩
  have hlen : ∀ vs H Q E, spD C tp ar G vs H Q E → vs.length = ps.length := by
    rintro vs H Q E ⟨W, F, us, ds, τ, d, τ', rfl, h1, h2, _⟩
    rw [← hl, List.length_append, h2.len, h1]
    cases tp <;> rfl
  refine fnT_of Fn S hlen fun cdv A outer s H vs Q hrm hsp => ?_
  have hvl := hlen _ _ _ _ hsp
  obtain ⟨W, F, us, ds, τ, d, τ', rfl, h1, h2, h3, h4, h5, h6⟩ := hsp
  obtain ⟨_, i, τ2, c, hrun, hat, heq⟩ := hG _ _ _ _ h5
  have g : Good (mkNm N cal csts) (mkSg C.tk cal csts W.ns) C W false (cxOf CX0 Pg w K mg base N x (defScope st) f cdv A outer s H E0).nox := by
    exact good_of M rfl rfl S.nd rfl rfl (by
      have := hrm.un
      show (A.deeper _).units + 65 < cLine
      omega) (fun _ _ => rfl) rfl rfl rfl rfl hrm hcst hc (by simp)
  have hpl : ps.length ≤ N.length := by have := congrArg List.length S.pre; rw [List.length_take] at this; omega
  have hb2 := psf_sub (a := a) (j := j) (cp := cp) (sp := sp) (rp := rp) (e_ok ie g ex chk) hpx
  rw [← hbd] at hb2
  refine ⟨_, hb2, F, H, F, start' N.length tp ds, τ, .int i, τ2, start_rel (by rw [hvl]; exact hpl) h2 h3 h4, hrun, fun v F' H' x' r' q' => ?_⟩
  cases q'
  cases heq
  exact ⟨a, i, c, rfl, rfl, hsz, hat, h6 _ _ _ x' r'.tape (R.str [c])⟩
end PD

set_option Elab.async false
set_option linter.all false
set_option maxRecDepth 100000
set_option maxHeartbeats 4000000
/-! _law_row, _law_after. -/
namespace PD
open PySem L2
def ir_law_row : Ss := (.cons (.set 2 (.tup .nil)) (.cons (.fr (.nm 3) (.rng1 (.callT 0 0 (.cons (.bin .Add (.var 1) (.int 1)) .nil))) (.cons (.set 2 (.bin .Add (.var 2) (.tup (.cons (.callT 1 0 .nil) .nil)))) .nil)) (.cons (.ret (.var 2)) .nil)))
def ir_law_after : Ss := (.cons (.fr (.nm 2) (.data (.var 1)) (.cons (.set 0 (.call 0 (.cons (.var 0) (.cons (.var 2) .nil)))) .nil)) (.cons (.ret (.var 0)) .nil))
noncomputable abbrev cStep (tk : Bool) : Cal := ⟨"_law_step", true, 0, GStepD tk⟩
noncomputable def GRow (tk : Bool) : GF := Grun tk 4 true 1 ir_law_row [cDraw tk, cStep tk] []
theorem step_notmap (a : List Stp) : isMap (a.map Stp.d) = false := by
  cases a with
  | nil => rfl
  | cons s r => cases s <;> rfl
theorem row_loop (tk : Bool) (ns : List Int) (P : Sg) (ht : P.tk = tk) (g1 : ∀ ds, P.G 1 ds = GStepD tk ns ds) (m : D) : ∀ (xs : List D) (f : List Stp) (g : Slot) (τ : TS), f.length + xs.length ≤ 1000 → (∀ s ∈ f, s.ok ∧ s.drawn) →
    ∃ (f' : List Stp) (g' : Slot) (τ' : TS), forL (fun x ρ1 τ1 => (bindT (.nm 3) x ρ1).bind fun ρ2 => evB P (.cons (.set 2 (.bin .Add (.var 2) (.tup (.cons (.callT 1 0 .nil) .nil)))) .nil) ρ2 τ1) xs [.tape, .d m, .d (.tup (f.map Stp.d)), g] τ = some (.nx [.tape, .d m, .d (.tup (f'.map Stp.d)), g'] τ') ∧ f'.length = f.length + xs.length ∧ ∀ s ∈ f', s.ok ∧ s.drawn
  | [], f, g, τ, _, h => ⟨f, g, τ, rfl, by simp, h⟩
  | x :: xs, f, g, τ, hl, h => by
    simp only [List.length_cons] at hl
    obtain ⟨s, τ1, e1, h1, h2⟩ := step_ok tk ns τ
    obtain ⟨f', g', τ', e, h3, h4⟩ := row_loop tk ns P ht g1 m xs (f ++ [s]) (.d x) τ1 (by simp; omega) (fun y hy => by
      rcases List.mem_append.mp hy with q | q
      · exact h y q
      · have : y = s := by simpa using q
        rw [this]; exact ⟨h1, h2⟩)
    refine ⟨f', g', τ', ?_, by rw [h3]; simp; omega, h4⟩
    have z1 : 1 ≤ sizeLine := by decide
    have hs : f.length + 1 ≤ sizeLine := by rw [sizeLine_eq]; omega
    have n1 : isMap [s.d] = false := step_notmap [s]
    have n2 : isMap (f.map Stp.d ++ [s.d]) = false := by
      have := step_notmap (f ++ [s])
      rwa [List.map_append] at this
    rw [forL_step (ρ1 := [.tape, .d m, .d (.tup ((f ++ [s]).map Stp.d)), .d x]) (τ1 := τ1) (by simp [evB, evS, ev, evs, binD, addD, bindT, Out.then, g1, e1, hs, okT, n1, n2, z1, ht]), e]
theorem row_ok (tk : Bool) (ns : List Int) (m : Nat) (mi : Int) (hmi : mi = m) (hm : m ≤ 900) (τ : TS) : ∃ (f : List Stp) (τ' : TS), GRow tk ns [.int mi] τ = some (.tup (f.map Stp.d), τ') ∧ f.length ≤ m ∧ ∀ s ∈ f, s.ok ∧ s.drawn := by
  subst hmi
  obtain ⟨k, τ1, e1, h1⟩ := draw_int tk ns (m + 1) ((m : Int) + 1) (by omega) (by omega) (by omega) τ
  obtain ⟨f', g', τ', e, h3, h4⟩ := row_loop tk ns (mkSg tk [cDraw tk, cStep tk] [] ns) rfl (fun _ => rfl) (.int m) (rangeD 0 k 1) [] .un τ1 (by simp [rangeD]; omega) (by simp)
  have hl : f'.length = k := by simpa [rangeD] using h3
  refine ⟨f', τ', ?_, by omega, h4⟩
  refine Grun_in rfl ?_
  show evB _ ir_law_row [.tape, .d (.int m), .un, .un] τ = _
  unfold ir_law_row
  rw [evB_nx (ρ1 := [.tape, .d (.int m), .d (.tup []), .un]) (τ1 := τ) (by simp [evB, evS, ev, evs, evt, evp, evi, binD, cmpD, bD, mD, neD, eqD, truD, ixD, inD, inB, slD, lenD, intD, maxD, minD, addD, subD, negD, joinD, joinS, txsO, lowerD, upperD, startsD, endsD, stripD, with1, ordD, mulD, modD, fdivD, powD, intO, Out.then, bindT, setAll, itemsD, rangeD, runF, start', mkSg, mkSgG, opD, small62, wipeE, compL, forL, List.replicate, tyIs, okT, isMap])]
  rw [evB_nx (ρ1 := [.tape, .d (.int m), .d (.tup (f'.map Stp.d)), g']) (τ1 := τ') (by
    refine evS_fr (evi_rng1 (k := k) (τ1 := τ1) ?_ (by omega)) e
    simp [ev, evs, mkSg, mkSgG, binD, addD, e1])]
  refine evB_rt (evS_ret ?_)
  simp [evB, evS, ev, evs, evt, evp, evi, binD, cmpD, bD, mD, neD, eqD, truD, ixD, inD, inB, slD, lenD, intD, maxD, minD, addD, subD, negD, joinD, joinS, txsO, lowerD, upperD, startsD, endsD, stripD, with1, ordD, mulD, modD, fdivD, powD, intO, Out.then, bindT, setAll, itemsD, rangeD, runF, start', mkSg, mkSgG, opD, small62, wipeE, compL, forL, List.replicate, tyIs]
/-! ### texts of signs stay so -/
theorem trimL_mem {s t : List Nat} {c : Nat} (h : c ∈ trimL s t) : c ∈ t := by
  unfold trimL at h
  rw [List.mem_reverse] at h
  have h1 := (List.dropWhile_sublist _).mem h
  rw [List.mem_reverse] at h1
  exact (List.dropWhile_sublist _).mem h1
theorem sqL_mem {s : List Nat} {c : Nat} : ∀ {t : List Nat} {p : Option Nat}, c ∈ sqL s p t → c ∈ t
  | [], p, h => by simp [sqL] at h
  | x :: r, p, h => by
    unfold sqL at h
    split at h
    · exact List.mem_cons_of_mem _ (sqL_mem h)
    · rcases List.mem_cons.mp h with q | q
      · rw [q]; exact List.mem_cons_self
      · exact List.mem_cons_of_mem _ (sqL_mem q)
theorem joL_mem {s o : List Nat} {c : Nat} : ∀ {t : List Nat} {b : Bool}, c ∈ joL s o b t → c ∈ t ∨ c ∈ o
  | [], b, h => by simp [joL] at h
  | x :: r, b, h => by
    unfold joL at h
    split at h
    · split at h
      · exact (joL_mem h).imp (List.mem_cons_of_mem _) id
      · rcases List.mem_append.mp h with q | q
        · exact .inr q
        · exact (joL_mem q).imp (List.mem_cons_of_mem _) id
    · rcases List.mem_cons.mp h with q | q
      · rw [q]; exact .inl List.mem_cons_self
      · exact (joL_mem q).imp (List.mem_cons_of_mem _) id
theorem frS_mem {w : List Nat} {c : Nat} : ∀ {n : Nat} {t : List Nat}, c ∈ frS w n t → c ∈ t
  | 0, t, h => h
  | n + 1, t, h => by
    unfold frS at h
    split at h
    · exact List.mem_of_mem_drop (frS_mem h)
    · exact h
theorem bkS_mem {w : List Nat} {c : Nat} : ∀ {n : Nat} {t : List Nat}, c ∈ bkS w n t → c ∈ t
  | 0, t, h => h
  | n + 1, t, h => by
    unfold bkS at h
    split at h
    · exact List.mem_of_mem_take (bkS_mem h)
    · exact h
theorem frF_mem {w : List Nat} {b : Bool} {t : List Nat} {c : Nat} (h : c ∈ frF w b t) : c ∈ t := by
  unfold frF at h
  split at h
  · exact frS_mem h
  · split at h
    · exact List.mem_of_mem_drop h
    · exact h
theorem bkF_mem {w : List Nat} {b : Bool} {t : List Nat} {c : Nat} (h : c ∈ bkF w b t) : c ∈ t := by
  unfold bkF at h
  split at h
  · exact bkS_mem h
  · split at h
    · exact List.mem_of_mem_take h
    · exact h
theorem sgn_ascii {c : Nat} (h : c ∈ SGN) : c < 128 := by
  simp [SGN] at h
  omega
theorem ap_ascii {s : Stp} (hd : s.drawn) {t : List Nat} (h : ∀ c ∈ t, c < 128) : ∀ c ∈ s.ap t, c < 128 := by
  intro c hc
  cases s
  · simp only [Stp.ap, List.mem_map] at hc
    obtain ⟨x, hx, rfl⟩ := hc
    have := h x hx
    unfold PyProof.Rows.lo1
    split <;> omega
  · simp only [Stp.ap, List.mem_map] at hc
    obtain ⟨x, hx, rfl⟩ := hc
    have := h x hx
    split
    · exact sgn_ascii hd.2
    · exact this
  · exact h c (List.mem_filter.mp hc).1
  · exact h c (trimL_mem hc)
  · exact h c (sqL_mem hc)
  · rcases joL_mem hc with q | q
    · exact h c q
    · rw [List.mem_singleton.mp q]; exact sgn_ascii hd.2
  · exact h c (frF_mem hc)
  · exact h c (frF_mem hc)
  · exact h c (bkF_mem hc)
  · exact h c (bkF_mem hc)
  · exact h c (List.mem_of_mem_take hc)
  · exact h c (List.mem_of_mem_drop hc)
/-! ### _law_after -/
noncomputable def GAfter (tk : Bool) : GF := Grun tk 3 false 2 ir_law_after [⟨"_law_done", false, 2, GLD tk⟩] []
theorem af_loop (tk : Bool) (P : Sg) (ns : List Int) (g0 : ∀ ds, P.G 0 ds = GLD tk ns ds) (row : D) (τ : TS) : ∀ (ss : List Stp) (t : List Nat) (g : Slot), (∀ s ∈ ss, s.ok ∧ s.drawn) → t.length ≤ 4000 → (∀ c ∈ t, c < 128) →
    ∃ g', forL (fun x ρ1 τ1 => (bindT (.nm 2) x ρ1).bind fun ρ2 => evB P (.cons (.set 0 (.call 0 (.cons (.var 0) (.cons (.var 2) .nil)))) .nil) ρ2 τ1) (ss.map Stp.d) [.d (.str t), .d row, g] τ = some (.nx [.d (.str (apAll ss t)), .d row, g'] τ)
  | [], t, g, _, _, _ => ⟨g, rfl⟩
  | s :: ss, t, g, hs, h2, ha => by
    have hl := s.len t
    have h0 := hs s List.mem_cons_self
    obtain ⟨g', e⟩ := af_loop tk P ns g0 row τ ss (s.ap t) (.d s.d) (fun x hx => hs x (List.mem_cons_of_mem _ hx)) (by omega) (ap_ascii h0.2 ha)
    refine ⟨g', ?_⟩
    have es := lawdone_ok tk ns t s τ h0.1 h2 ha
    rw [List.map_cons, forL_step (ρ1 := [.d (.str (s.ap t)), .d row, .d s.d]) (τ1 := τ) (by simp [evB, evS, ev, evs, evt, evp, evi, binD, cmpD, bD, mD, neD, eqD, truD, ixD, inD, inB, slD, lenD, intD, maxD, minD, addD, subD, negD, joinD, joinS, txsO, lowerD, upperD, startsD, endsD, stripD, with1, ordD, mulD, modD, fdivD, powD, intO, Out.then, bindT, setAll, itemsD, rangeD, runF, start', mkSg, mkSgG, opD, small62, wipeE, compL, forL, List.replicate, tyIs, g0, es]), e]
    rfl
theorem after_ok (tk : Bool) (ns : List Int) (ss : List Stp) (t : List Nat) (τ : TS) (hs : ∀ s ∈ ss, s.ok ∧ s.drawn) (h2 : t.length ≤ 4000) (ha : ∀ c ∈ t, c < 128) : GAfter tk ns [.str t, .tup (ss.map Stp.d)] τ = some (.str (apAll ss t), τ) := by
  refine Grun_in rfl ?_
  show evB _ ir_law_after [.d (.str t), .d (.tup (ss.map Stp.d)), .un] τ = _
  unfold ir_law_after
  obtain ⟨g', e⟩ := af_loop tk (mkSg tk [⟨"_law_done", false, 2, GLD tk⟩] [] ns) ns (fun _ => rfl) (.tup (ss.map Stp.d)) τ ss t .un hs h2 ha
  rw [evB_nx (evS_fr (evi_data (ev_var rfl) rfl) e)]
  exact evB_rt (evS_ret (ev_var rfl))
theorem apAll_ascii : ∀ (ss : List Stp) (t : List Nat), (∀ s ∈ ss, s.ok ∧ s.drawn) → (∀ c ∈ t, c < 128) → ∀ c ∈ apAll ss t, c < 128
  | [], t, _, h => h
  | s :: ss, t, hs, h => apAll_ascii ss (s.ap t) (fun x hx => hs x (List.mem_cons_of_mem _ hx)) (ap_ascii (hs s List.mem_cons_self).2 h)
end PD

set_option Elab.async false
set_option linter.all false
set_option maxRecDepth 100000
set_option maxHeartbeats 8000000
/-! textcleaners.told: fitting_rows, missing_steps; _law_like of lists of numbers. -/
namespace PD
open PySem L2
def ir_fitting_rows : Ss := (.cons (.setO 2 (.lst .nil)) (.cons (.fr (.cons (.nm 3) (.cons (.nm 4) .nil)) (.enum (.var 0)) (.cons (.ife (.val (.blt .all (.cons (.comp (.cmp .Eq (.call 0 (.cons (.var 5) (.cons (.var 4) .nil))) (.var 6)) (.cons (.nm 5) (.cons (.nm 6) .nil)) (.data (.var 1)) .yes [5, 6]) .nil))) (.cons (.app 2 (.var 3)) .nil) .nil) .nil)) (.frz 2 (.cons (.ret (.var 2)) .nil))))
def ir_missing_steps : Ss := (.cons (.set 4 (.comp (.tup (.star (.sl (.var 1) .nope (.var 2)) (.cons (.var 5) (.star (.sl (.var 1) (.var 2) .nope) .nil)))) (.nm 5) (.data (.var 0)) .yes [5])) (.cons (.ret (.call 0 (.cons (.var 4) (.cons (.var 3) .nil)))) .nil))
abbrev prD (p : List Nat × List Nat) : D := .tup [.str p.1, .str p.2]
abbrev rowD (r : List Stp) : D := .tup (r.map Stp.d)
def fitB (row : List Stp) (ps : List (List Nat × List Nat)) : Bool := ps.all fun p => apAll row p.1 == p.2
def fits (k : Nat) : List (List Stp) → List (List Nat × List Nat) → List Nat
  | [], _ => []
  | r :: rs, ps => if fitB r ps then k :: fits (k + 1) rs ps else fits (k + 1) rs ps
theorem fits_len (ps : List (List Nat × List Nat)) : ∀ (rs : List (List Stp)) (k : Nat), (fits k rs ps).length ≤ rs.length
  | [], k => Nat.le_refl _
  | r :: rs, k => by
    have := fits_len ps rs (k + 1)
    unfold fits
    split <;> simp <;> omega
theorem compL_map {α : Type} {f : D → TS → Option (Option D × TS)} {g h : α → D} {τ : TS} : ∀ {l : List α}, (∀ x ∈ l, f (g x) τ = some (some (h x), τ)) → compL f (l.map g) τ = some (l.map h, τ)
  | [], _ => rfl
  | x :: r, hf => by
    rw [List.map_cons, compL, hf x List.mem_cons_self]
    simp only [Option.bind_some]
    rw [compL_map (l := r) fun y hy => hf y (List.mem_cons_of_mem _ hy)]
    rfl
theorem compL_mapf {α : Type} {f : D → TS → Option (Option D × TS)} {g h : α → D} {p : α → Bool} {τ : TS} : ∀ {l : List α}, (∀ x ∈ l, f (g x) τ = some (if p x then some (h x) else none, τ)) → compL f (l.map g) τ = some ((l.filter p).map h, τ)
  | [], _ => rfl
  | x :: r, hf => by
    rw [List.map_cons, compL, hf x List.mem_cons_self]
    simp only [Option.bind_some]
    rw [compL_mapf (l := r) fun y hy => hf y (List.mem_cons_of_mem _ hy)]
    cases hp : p x with
    | true => rw [List.filter_cons_of_pos hp]; rfl
    | false => rw [List.filter_cons_of_neg (by rw [hp]; exact Bool.false_ne_true)]; rfl
theorem bools_map : ∀ bs : List Bool, bools (bs.map D.bl) = some bs
  | [] => rfl
  | b :: bs => by rw [List.map_cons, bools, bools_map bs]; rfl
theorem fit_comp (P : Sg) (ns : List Int) (g0 : ∀ ds, P.G 0 ds = GCl 61 ns ds) (row : List Stp) (hr : ∀ s ∈ row, s.ok) (ps : List (List Nat × List Nat)) (hp : ∀ p ∈ ps, p.1.length ≤ 60) (r0 r1 r2 r3 r5 r6 : Slot) (τ : TS) :
    compL (cbody P (.cmp .Eq (.call 0 (.cons (.var 5) (.cons (.var 4) .nil))) (.var 6)) (.cons (.nm 5) (.cons (.nm 6) .nil)) .yes [5, 6] [r0, r1, r2, r3, .d (rowD row), r5, r6]) (ps.map prD) τ = some (ps.map fun p => D.bl (apAll row p.1 == p.2), τ) := by
  refine compL_map fun p hm => ?_
  have h1 := hp p hm
  have e := GCl_eq (n := 61) (ns := ns) (t := p.1) (ss := row) (τ := τ) hr (by omega) (by omega)
  simp [cbody, evB, evS, ev, evs, evt, evp, evi, binD, cmpD, bD, mD, neD, eqD, truD, ixD, inD, inB, slD, lenD, intD, maxD, minD, addD, subD, negD, joinD, joinS, txsO, lowerD, upperD, startsD, endsD, stripD, with1, ordD, mulD, modD, fdivD, powD, intO, Out.then, bindT, setAll, itemsD, rangeD, runF, start', mkSg, mkSgG, opD, small62, wipeE, compL, forL, List.replicate, tyIs, g0, e]
theorem fit_loop (P : Sg) (ns : List Int) (g0 : ∀ ds, P.G 0 ds = GCl 61 ns ds) (ps : List (List Nat × List Nat)) (hp : ∀ p ∈ ps, p.1.length ≤ 60) (hpl : ps.length ≤ 1000) (X : D) (τ : TS) : ∀ (rs : List (List Stp)) (k : Nat) (f : List Nat) (g3 g4 : Slot), (∀ r ∈ rs, ∀ s ∈ r, s.ok) → f.length + rs.length ≤ 1000 →
    ∃ g3' g4', forL (fun x ρ1 τ1 => (bindT (.cons (.nm 3) (.cons (.nm 4) .nil)) x ρ1).bind fun ρ2 => evB P (.cons (.ife (.val (.blt .all (.cons (.comp (.cmp .Eq (.call 0 (.cons (.var 5) (.cons (.var 4) .nil))) (.var 6)) (.cons (.nm 5) (.cons (.nm 6) .nil)) (.data (.var 1)) .yes [5, 6]) .nil))) (.cons (.app 2 (.var 3)) .nil) .nil) .nil) ρ2 τ1) (enumD k (rs.map rowD)) [.d X, .d (.tup (ps.map prD)), .ol (f.map fun i : Nat => .int (i : Int)), g3, g4, .un, .un] τ
      = some (.nx [.d X, .d (.tup (ps.map prD)), .ol ((f ++ fits k rs ps).map fun i : Nat => .int (i : Int)), g3', g4', .un, .un] τ)
  | [], k, f, g3, g4, _, _ => ⟨g3, g4, by simp [forL, fits, enumD]⟩
  | r :: rs, k, f, g3, g4, hr, hl => by
    simp only [List.length_cons] at hl
    have hc := fit_comp P ns g0 r (hr r List.mem_cons_self) ps hp (.d X) (.d (.tup (ps.map prD))) (.ol (f.map fun i : Nat => .int (i : Int))) (.d (.int k)) .un .un τ
    have he : ev P (.blt .all (.cons (.comp (.cmp .Eq (.call 0 (.cons (.var 5) (.cons (.var 4) .nil))) (.var 6)) (.cons (.nm 5) (.cons (.nm 6) .nil)) (.data (.var 1)) .yes [5, 6]) .nil)) [.d X, .d (.tup (ps.map prD)), .ol (f.map fun i : Nat => .int (i : Int)), .d (.int k), .d (rowD r), .un, .un] τ = some (.bl (fitB r ps), τ) := by
      rw [ev, evs_cons (ev_comp (evi_data (ev_var rfl) rfl) hc (sl1 (by simp; omega))) evs_nil]
      have e2 := bools_map (ps.map fun p => apAll r p.1 == p.2)
      rw [List.map_map] at e2
      have e3 : (ps.map fun p => D.bl (apAll r p.1 == p.2)) = ps.map (D.bl ∘ fun p => apAll r p.1 == p.2) := rfl
      simp only [Option.bind_some, bD, allD, e3, e2, Option.map_some, fitB, List.all_map]
      rfl
    have hs : f.length < sizeLine := by rw [sizeLine_eq]; omega
    rw [List.map_cons, enumD]
    cases hb : fitB r ps with
    | true =>
      obtain ⟨g3', g4', e⟩ := fit_loop P ns g0 ps hp hpl X τ rs (k + 1) (f ++ [k]) (.d (.int k)) (.d (rowD r)) (fun x hx => hr x (List.mem_cons_of_mem _ hx)) (by simp; omega)
      refine ⟨g3', g4', ?_⟩
      rw [forL_step (ρ1 := [.d X, .d (.tup (ps.map prD)), .ol ((f ++ [k]).map fun i : Nat => .int (i : Int)), .d (.int k), .d (rowD r), .un, .un]) (τ1 := τ) ?_, e]
      · simp [fits, hb]
      · simp only [bindT, Option.bind_some, List.set]
        rw [evB_nx (evS_t (τ1 := τ) (by rw [evt, he, hb]; rfl) (evB_nx (evS_app rfl (ev_var rfl) (by simp; omega))))]
        simp [evB]
    | false =>
      obtain ⟨g3', g4', e⟩ := fit_loop P ns g0 ps hp hpl X τ rs (k + 1) f (.d (.int k)) (.d (rowD r)) (fun x hx => hr x (List.mem_cons_of_mem _ hx)) (by omega)
      refine ⟨g3', g4', ?_⟩
      rw [forL_step (ρ1 := [.d X, .d (.tup (ps.map prD)), .ol (f.map fun i : Nat => .int (i : Int)), .d (.int k), .d (rowD r), .un, .un]) (τ1 := τ) ?_, e]
      · simp [fits, hb]
      · simp only [bindT, Option.bind_some, List.set]
        rw [evB_nx (evS_f (τ1 := τ) (by rw [evt, he, hb]; rfl) (by rw [evB]))]
        simp [evB]
noncomputable def GFit : GF := Grun true 7 false 2 ir_fitting_rows [⟨"cleaned", false, 2, GCl 61⟩] []
theorem fit_ok (ns : List Int) (X : D) (rows : List (List Stp)) (hX : itemsD X = some (rows.map rowD)) (ps : List (List Nat × List Nat)) (hr : ∀ r ∈ rows, ∀ s ∈ r, s.ok) (hl : rows.length ≤ 1000) (hp : ∀ p ∈ ps, p.1.length ≤ 60) (hpl : ps.length ≤ 1000) (τ : TS) :
    GFit ns [X, .tup (ps.map prD)] τ = some (.lst ((fits 0 rows ps).map fun i : Nat => .int (i : Int)), τ) := by
  refine Grun_in rfl ?_
  show evB _ ir_fitting_rows [.d X, .d (.tup (ps.map prD)), .un, .un, .un, .un, .un] τ = _
  unfold ir_fitting_rows
  obtain ⟨g3', g4', e⟩ := fit_loop (mkSg true [⟨"cleaned", false, 2, GCl 61⟩] [] ns) ns (fun _ => rfl) ps hp hpl X τ rows 0 [] .un .un hr (by simpa using hl)
  rw [evB_nx (evS_setO (ev_lst evs_nil (by simp)))]
  refine (evB_nx (evS_fr (it := .enum (.var 0)) (xs := enumD 0 (rows.map rowD)) (τ1 := τ) (by simp [evi, ev, hX]) e)).trans ?_
  rw [evB_frz (xs := ([] ++ fits 0 rows ps).map fun i : Nat => .int (i : Int)) rfl]
  exact evB_rt (evS_ret (ev_var rfl))
/-! ### missing_steps -/
def insR (row : List Stp) (at_ : Nat) (s : Stp) : List Stp := row.take at_ ++ s :: row.drop at_
noncomputable def GMiss : GF := Grun true 6 false 4 ir_missing_steps [⟨"fitting_rows", false, 2, GFit⟩] []
theorem ev_star_tup {P : Sg} {e : E} {es : Es} {ρ : Env'} {τ τ1 τ2 : TS} {xs ys : List D} (h : ev P e ρ τ = some (.tup xs, τ1)) (h2 : evs P es ρ τ1 = some (ys, τ2)) : evs P (.star e es) ρ τ = some (xs ++ ys, τ2) := by
  rw [evs, h]
  simp only [Option.bind_some, h2, Option.map_some]
theorem ev_slT {P : Sg} {i j : Nat} {ρ : Env'} {τ : TS} {row : List Stp} {k : Nat} (h : ρ[i]? = some (.d (rowD row))) (hj : ρ[j]? = some (.d (.int (k : Int)))) (hl : row.length ≤ 1000) : ev P (.sl (.var i) .nope (.var j)) ρ τ = some (rowD (row.take k), τ) := by
  have h1 : isMap (row.map Stp.d) = false := step_notmap row
  have h2 : isMap ((row.take k).map Stp.d) = false := step_notmap _
  rw [List.map_take] at h2
  have h3 := sl1 (show (row.take k).length ≤ 4000 by rw [List.length_take]; omega)
  rw [List.length_take] at h3
  rw [ev, ev_var h]
  simp [evp, hj, slD, cut_to, okT, h2, h3, rowD, List.map_take]
theorem ev_slF {P : Sg} {i j : Nat} {ρ : Env'} {τ : TS} {row : List Stp} {k : Nat} (h : ρ[i]? = some (.d (rowD row))) (hj : ρ[j]? = some (.d (.int (k : Int)))) (hl : row.length ≤ 1000) : ev P (.sl (.var i) (.var j) .nope) ρ τ = some (rowD (row.drop k), τ) := by
  have h2 : isMap ((row.drop k).map Stp.d) = false := step_notmap _
  rw [List.map_drop] at h2
  have h3 : row.length ≤ sizeLine + k := by have := sl1 (show row.length ≤ 4000 by omega); omega
  rw [ev, ev_var h]
  simp [evp, hj, slD, cut_from, okT, h2, h3, rowD, List.map_drop]
theorem miss_ok (ns : List Int) (steps row : List Stp) (k : Nat) (ps : List (List Nat × List Nat)) (hs : ∀ s ∈ steps, s.ok) (hl : steps.length ≤ 1000) (hr : ∀ s ∈ row, s.ok) (hrl : row.length ≤ 100) (hp : ∀ p ∈ ps, p.1.length ≤ 60) (hpl : ps.length ≤ 1000) (τ : TS) :
    GMiss ns [.tup (steps.map Stp.d), rowD row, .int (k : Int), .tup (ps.map prD)] τ = some (.lst ((fits 0 (steps.map (insR row k)) ps).map fun i : Nat => .int (i : Int)), τ) := by
  refine Grun_in rfl ?_
  show evB _ ir_missing_steps [.d (.tup (steps.map Stp.d)), .d (rowD row), .d (.int (k : Int)), .d (.tup (ps.map prD)), .un, .un] τ = _
  unfold ir_missing_steps
  have hok : ∀ r ∈ steps.map (insR row k), ∀ s ∈ r, s.ok := by
    intro r hr' s hm
    obtain ⟨x, hx, rfl⟩ := List.mem_map.mp hr'
    simp only [insR, List.mem_append, List.mem_cons] at hm
    rcases hm with q | rfl | q
    · exact hr s (List.mem_of_mem_take q)
    · exact hs s hx
    · exact hr s (List.mem_of_mem_drop q)
  have hfit := fit_ok ns (.lst ((steps.map (insR row k)).map rowD)) (steps.map (insR row k)) rfl ps hok (by simpa using hl) hp hpl τ
  have hc : compL (cbody (mkSg true [⟨"fitting_rows", false, 2, GFit⟩] [] ns) (.tup (.star (.sl (.var 1) .nope (.var 2)) (.cons (.var 5) (.star (.sl (.var 1) (.var 2) .nope) .nil)))) (.nm 5) .yes [5] [.d (.tup (steps.map Stp.d)), .d (rowD row), .d (.int (k : Int)), .d (.tup (ps.map prD)), .un, .un]) (steps.map Stp.d) τ = some (steps.map fun s => rowD (insR row k s), τ) := by
    refine compL_map fun s hm => ?_
    unfold cbody
    simp only [wipeE, bindT, Option.bind_some, evt, if_true, List.set]
    have e : ev (mkSg true [⟨"fitting_rows", false, 2, GFit⟩] [] ns) (.tup (.star (.sl (.var 1) .nope (.var 2)) (.cons (.var 5) (.star (.sl (.var 1) (.var 2) .nope) .nil)))) [.d (.tup (steps.map Stp.d)), .d (rowD row), .d (.int (k : Int)), .d (.tup (ps.map prD)), .un, .d s.d] τ = some (rowD (insR row k s), τ) := by
      have e1 := ev_star_tup (P := mkSg true [⟨"fitting_rows", false, 2, GFit⟩] [] ns) (ev_slT (i := 1) (j := 2) (ρ := [.d (.tup (steps.map Stp.d)), .d (rowD row), .d (.int (k : Int)), .d (.tup (ps.map prD)), .un, .d s.d]) (τ := τ) rfl rfl (by omega)) (evs_cons (ev_var (i := 5) rfl) (ev_star_tup (ev_slF (i := 1) (j := 2) rfl rfl (by omega)) evs_nil))
      have e2 : (row.take k).map Stp.d ++ s.d :: ((row.drop k).map Stp.d ++ []) = (insR row k s).map Stp.d := by simp [insR]
      rw [e2] at e1
      refine ev_tup e1 ?_ (step_notmap _)
      simp [insR]
      omega
    rw [e]
    rfl
  rw [evB_nx (evS_set (ev_comp (evi_data (ev_var rfl) rfl) hc (sl1 (by simp; omega))))]
  refine evB_rt (evS_ret ?_)
  rw [ev, evs_cons (ev_var rfl) (evs_cons (ev_var rfl) evs_nil)]
  rw [List.map_map] at hfit
  exact hfit
/-! ### _law_like of lists of numbers -/
theorem like_int (tk : Bool) (n : Nat) (ns : List Int) (a b : Int) (τ : TS) : GLike tk (n + 1) ns [.int a, .int b] τ = some (.bl (a == b), τ) := by
  refine Grun_in rfl ?_
  show evB _ ir_law_like [.d (.int a), .d (.int b), .un] τ = _
  unfold ir_law_like
  simp [evB, evS, ev, evs, evt, evp, evi, binD, cmpD, bD, mD, neD, eqD, truD, ixD, inD, inB, slD, lenD, intD, maxD, minD, addD, subD, negD, joinD, joinS, txsO, lowerD, upperD, startsD, endsD, stripD, with1, ordD, mulD, modD, fdivD, powD, intO, Out.then, bindT, setAll, itemsD, rangeD, runF, start', mkSg, mkSgG, opD, small62, wipeE, compL, forL, List.replicate, tyIs]
theorem rangeD_map (k : Nat) : rangeD 0 k 1 = (List.range k).map fun i : Nat => D.int (i : Int) := by
  unfold rangeD
  refine List.map_congr_left fun i _ => ?_
  simp
mutual
/-- the longest list in a value -/
def wid : D → Nat
  | .tup xs => max xs.length (wids xs)
  | .lst xs => max xs.length (wids xs)
  | _ => 0
def wids : List D → Nat
  | [] => 0
  | x :: xs => max (wid x) (wids xs)
end
theorem wid_mem : ∀ {xs : List D} {x : D}, x ∈ xs → wid x ≤ wids xs
  | y :: ys, x, h => by
    rw [wids]
    rcases List.mem_cons.mp h with q | q
    · rw [q]; omega
    · have := wid_mem q; omega
theorem dep_mem : ∀ {xs : List D} {x : D}, x ∈ xs → dep x ≤ deps xs
  | y :: ys, x, h => by
    rw [deps_cons]
    rcases List.mem_cons.mp h with q | q
    · rw [q]; omega
    · have := dep_mem q; omega
theorem like_many (tk : Bool) (n : Nat) (ns : List Int) (P : Sg) (g0 : ∀ ds, P.G 0 ds = GLike tk n ns ds) (a : D) (xs : List D) (ha : a = .lst xs ∨ a = .tup xs) (τ : TS) (h : ∀ x ∈ xs, GLike tk n ns [x, x] τ = some (.bl true, τ)) (r2 : Slot) :
    compL (cbody P (.var 2) (.nm 2) (.not (.val (.call 0 (.cons (.idx (.var 0) (.var 2)) (.cons (.idx (.var 1) (.var 2)) .nil))))) [2] [.d a, .d a, r2]) (rangeD 0 xs.length 1) τ = some ([], τ) := by
  rw [rangeD_map]
  rw [compL_mapf (p := fun _ => false) (h := fun i : Nat => .int (i : Int)) (τ := τ)]
  · simp
  · intro i hi
    have hi' : i < xs.length := List.mem_range.mp hi
    have e1 := h xs[i] (List.getElem_mem hi')
    have e2 : atI xs (i : Int) = some xs[i] := atI_nat (List.getElem?_eq_getElem hi')
    rcases ha with rfl | rfl <;> simp [cbody, evB, evS, ev, evs, evt, evp, evi, binD, cmpD, bD, mD, neD, eqD, truD, ixD, inD, inB, slD, lenD, intD, maxD, minD, addD, subD, negD, joinD, joinS, txsO, lowerD, upperD, startsD, endsD, stripD, with1, ordD, mulD, modD, fdivD, powD, intO, Out.then, bindT, setAll, itemsD, rangeD, runF, start', mkSg, mkSgG, opD, small62, wipeE, compL, forL, List.replicate, tyIs, g0, e1, e2]
/-- a value is like itself -/
theorem like_refl (tk : Bool) (ns : List Int) : ∀ (n : Nat) (a : D) (τ : TS), dep a < n → wid a ≤ 4000 → GLike tk n ns [a, a] τ = some (.bl true, τ) := by
  intro n
  induction n with
  | zero => intro a τ h; omega
  | succ n ih =>
    intro a τ h hw
    refine Grun_in rfl ?_
    show evB _ ir_law_like [.d a, .d a, .un] τ = _
    unfold ir_law_like
    cases a with
    | non => simp [evB, evS, ev, evs, evt, evp, evi, binD, cmpD, bD, mD, neD, eqD, truD, ixD, inD, inB, slD, lenD, intD, maxD, minD, addD, subD, negD, joinD, joinS, txsO, lowerD, upperD, startsD, endsD, stripD, with1, ordD, mulD, modD, fdivD, powD, intO, Out.then, bindT, setAll, itemsD, rangeD, runF, start', mkSg, mkSgG, opD, small62, wipeE, compL, forL, List.replicate, tyIs]
    | bl b => simp [evB, evS, ev, evs, evt, evp, evi, binD, cmpD, bD, mD, neD, eqD, truD, ixD, inD, inB, slD, lenD, intD, maxD, minD, addD, subD, negD, joinD, joinS, txsO, lowerD, upperD, startsD, endsD, stripD, with1, ordD, mulD, modD, fdivD, powD, intO, Out.then, bindT, setAll, itemsD, rangeD, runF, start', mkSg, mkSgG, opD, small62, wipeE, compL, forL, List.replicate, tyIs]
    | int i => simp [evB, evS, ev, evs, evt, evp, evi, binD, cmpD, bD, mD, neD, eqD, truD, ixD, inD, inB, slD, lenD, intD, maxD, minD, addD, subD, negD, joinD, joinS, txsO, lowerD, upperD, startsD, endsD, stripD, with1, ordD, mulD, modD, fdivD, powD, intO, Out.then, bindT, setAll, itemsD, rangeD, runF, start', mkSg, mkSgG, opD, small62, wipeE, compL, forL, List.replicate, tyIs]
    | str s => simp [evB, evS, ev, evs, evt, evp, evi, binD, cmpD, bD, mD, neD, eqD, truD, ixD, inD, inB, slD, lenD, intD, maxD, minD, addD, subD, negD, joinD, joinS, txsO, lowerD, upperD, startsD, endsD, stripD, with1, ordD, mulD, modD, fdivD, powD, intO, Out.then, bindT, setAll, itemsD, rangeD, runF, start', mkSg, mkSgG, opD, small62, wipeE, compL, forL, List.replicate, tyIs]
    | tup xs =>
      rw [dep_tup] at h
      rw [wid] at hw
      have hm := like_many tk n ns (mkSg tk [⟨"_law_like", false, 2, GLike tk n⟩] [] ns) (fun _ => rfl) (.tup xs) xs (.inr rfl) τ (fun x hx => ih x τ (by have := dep_mem hx; omega) (by have := wid_mem hx; omega)) .un
      have hc := ev_comp (evi_rng1 (P := mkSg tk [⟨"_law_like", false, 2, GLike tk n⟩] [] ns) (a := .blt .len (.cons (.var 0) .nil)) (ρ := [.d (.tup xs), .d (.tup xs), .un]) (k := xs.length) (τ := τ) (τ1 := τ) (by simp [evB, evS, ev, evs, evt, evp, evi, binD, cmpD, bD, mD, neD, eqD, truD, ixD, inD, inB, slD, lenD, intD, maxD, minD, addD, subD, negD, joinD, joinS, txsO, lowerD, upperD, startsD, endsD, stripD, with1, ordD, mulD, modD, fdivD, powD, intO, Out.then, bindT, setAll, itemsD, rangeD, runF, start', mkSg, mkSgG, opD, small62, wipeE, compL, forL, List.replicate, tyIs]) (by omega)) hm (by simp)
      refine evB_rt (evS_t (τ1 := τ) (by simp [evB, evS, ev, evs, evt, evp, evi, binD, cmpD, bD, mD, neD, eqD, truD, ixD, inD, inB, slD, lenD, intD, maxD, minD, addD, subD, negD, joinD, joinS, txsO, lowerD, upperD, startsD, endsD, stripD, with1, ordD, mulD, modD, fdivD, powD, intO, Out.then, bindT, setAll, itemsD, rangeD, runF, start', mkSg, mkSgG, opD, small62, wipeE, compL, forL, List.replicate, tyIs]) ?_)
      rw [evB_nx (evS_f (τ1 := τ) (o := .nx [.d (.tup xs), .d (.tup xs), .un] τ) (by simp [evB, evS, ev, evs, evt, evp, evi, binD, cmpD, bD, mD, neD, eqD, truD, ixD, inD, inB, slD, lenD, intD, maxD, minD, addD, subD, negD, joinD, joinS, txsO, lowerD, upperD, startsD, endsD, stripD, with1, ordD, mulD, modD, fdivD, powD, intO, Out.then, bindT, setAll, itemsD, rangeD, runF, start', mkSg, mkSgG, opD, small62, wipeE, compL, forL, List.replicate, tyIs]) (by rw [evB])), evB_nx (evS_f (τ1 := τ) (o := .nx [.d (.tup xs), .d (.tup xs), .un] τ) (by simp [evB, evS, ev, evs, evt, evp, evi, binD, cmpD, bD, mD, neD, eqD, truD, ixD, inD, inB, slD, lenD, intD, maxD, minD, addD, subD, negD, joinD, joinS, txsO, lowerD, upperD, startsD, endsD, stripD, with1, ordD, mulD, modD, fdivD, powD, intO, Out.then, bindT, setAll, itemsD, rangeD, runF, start', mkSg, mkSgG, opD, small62, wipeE, compL, forL, List.replicate, tyIs]) (by rw [evB]))]
      refine evB_rt (evS_ret ?_)
      rw [ev, hc]
      simp [ev, evs, cmpD, eqD]
    | lst xs =>
      rw [dep_lst] at h
      rw [wid] at hw
      have hm := like_many tk n ns (mkSg tk [⟨"_law_like", false, 2, GLike tk n⟩] [] ns) (fun _ => rfl) (.lst xs) xs (.inl rfl) τ (fun x hx => ih x τ (by have := dep_mem hx; omega) (by have := wid_mem hx; omega)) .un
      have hc := ev_comp (evi_rng1 (P := mkSg tk [⟨"_law_like", false, 2, GLike tk n⟩] [] ns) (a := .blt .len (.cons (.var 0) .nil)) (ρ := [.d (.lst xs), .d (.lst xs), .un]) (k := xs.length) (τ := τ) (τ1 := τ) (by simp [evB, evS, ev, evs, evt, evp, evi, binD, cmpD, bD, mD, neD, eqD, truD, ixD, inD, inB, slD, lenD, intD, maxD, minD, addD, subD, negD, joinD, joinS, txsO, lowerD, upperD, startsD, endsD, stripD, with1, ordD, mulD, modD, fdivD, powD, intO, Out.then, bindT, setAll, itemsD, rangeD, runF, start', mkSg, mkSgG, opD, small62, wipeE, compL, forL, List.replicate, tyIs]) (by omega)) hm (by simp)
      refine evB_rt (evS_t (τ1 := τ) (by simp [evB, evS, ev, evs, evt, evp, evi, binD, cmpD, bD, mD, neD, eqD, truD, ixD, inD, inB, slD, lenD, intD, maxD, minD, addD, subD, negD, joinD, joinS, txsO, lowerD, upperD, startsD, endsD, stripD, with1, ordD, mulD, modD, fdivD, powD, intO, Out.then, bindT, setAll, itemsD, rangeD, runF, start', mkSg, mkSgG, opD, small62, wipeE, compL, forL, List.replicate, tyIs]) ?_)
      rw [evB_nx (evS_f (τ1 := τ) (o := .nx [.d (.lst xs), .d (.lst xs), .un] τ) (by simp [evB, evS, ev, evs, evt, evp, evi, binD, cmpD, bD, mD, neD, eqD, truD, ixD, inD, inB, slD, lenD, intD, maxD, minD, addD, subD, negD, joinD, joinS, txsO, lowerD, upperD, startsD, endsD, stripD, with1, ordD, mulD, modD, fdivD, powD, intO, Out.then, bindT, setAll, itemsD, rangeD, runF, start', mkSg, mkSgG, opD, small62, wipeE, compL, forL, List.replicate, tyIs]) (by rw [evB])), evB_nx (evS_f (τ1 := τ) (o := .nx [.d (.lst xs), .d (.lst xs), .un] τ) (by simp [evB, evS, ev, evs, evt, evp, evi, binD, cmpD, bD, mD, neD, eqD, truD, ixD, inD, inB, slD, lenD, intD, maxD, minD, addD, subD, negD, joinD, joinS, txsO, lowerD, upperD, startsD, endsD, stripD, with1, ordD, mulD, modD, fdivD, powD, intO, Out.then, bindT, setAll, itemsD, rangeD, runF, start', mkSg, mkSgG, opD, small62, wipeE, compL, forL, List.replicate, tyIs]) (by rw [evB]))]
      refine evB_rt (evS_ret ?_)
      rw [ev, hc]
      simp [ev, evs, cmpD, eqD]
end PD

set_option Elab.async false
set_option linter.all false
set_option maxRecDepth 100000
set_option maxHeartbeats 8000000
/-! k13: the law's own loops. -/
namespace PD
open PySem L2
noncomputable def cal13 : List Cal := [cDraw true, cStep true, ⟨"_law_row", true, 1, GRow true⟩, ⟨"_law_text", true, 1, GText true⟩, ⟨"_law_after", false, 2, GAfter true⟩, ⟨"_law_like", false, 2, GLike true 3⟩, ⟨"fitting_rows", false, 2, GFit⟩, ⟨"missing_steps", false, 4, GMiss⟩]
structure P13 (P : Sg) (ns : List Int) : Prop where
  g0 : ∀ ds, P.G 0 ds = GDraw true ns ds
  g1 : ∀ ds, P.G 1 ds = GStepD true ns ds
  g2 : ∀ ds, P.G 2 ds = GRow true ns ds
  g3 : ∀ ds, P.G 3 ds = GText true ns ds
  g4 : ∀ ds, P.G 4 ds = GAfter true ns ds
  g5 : ∀ ds, P.G 5 ds = GLike true 3 ns ds
  g6 : ∀ ds, P.G 6 ds = GFit ns ds
  g7 : ∀ ds, P.G 7 ds = GMiss ns ds
  tk : P.tk = true
def RowOk (r : List Stp) : Prop := r.length ≤ 3 ∧ ∀ s ∈ r, s.ok ∧ s.drawn
def StOk (s : Stp) : Prop := s.ok ∧ s.drawn
theorem rows_notmap (l : List (List Stp)) : isMap (l.map rowD) = false := by
  cases l with
  | nil => rfl
  | cons r l => rfl
theorem prs_notmap (l : List (List Nat × List Nat)) : isMap (l.map prD) = false := by
  cases l with
  | nil => rfl
  | cons r l => rfl
theorem ev_add_tup {P : Sg} {a b : E} {ρ : Env'} {τ τ1 τ2 : TS} {xs ys : List D} (h : ev P a ρ τ = some (.tup xs, τ1)) (h2 : ev P b ρ τ1 = some (.tup ys, τ2)) (hl : xs.length + ys.length ≤ 4000) (hm : isMap (xs ++ ys) = false) : ev P (.bin .Add a b) ρ τ = some (.tup (xs ++ ys), τ2) := by
  have := sl1 hl
  rw [ev, h]
  simp only [Option.bind_some, h2, binD, addD, okT, hm, List.length_append, this, Bool.and_false, Bool.not_false, decide_true, Bool.and_true, if_true, Option.map_some]
theorem ev_callT {P : Sg} {f i : Nat} {es : Es} {ρ : Env'} {τ τ1 τ2 : TS} {ds : List D} {d : D} (h : ρ[i]? = some .tape) (h1 : evs P es ρ τ = some (ds, τ1)) (h2 : P.G f ds τ1 = some (d, τ2)) : ev P (.callT f i es) ρ τ = some (d, τ2) := by
  rw [ev, h]
  simp only [h1, Option.bind_some, h2]
theorem ev_call {P : Sg} {f : Nat} {es : Es} {ρ : Env'} {τ τ1 τ2 : TS} {ds : List D} {d : D} (h1 : evs P es ρ τ = some (ds, τ1)) (h2 : P.G f ds τ1 = some (d, τ2)) : ev P (.call f es) ρ τ = some (d, τ2) := by
  rw [ev, h1]
  simp only [Option.bind_some, h2]
theorem ev_addi {P : Sg} {a b : E} {ρ : Env'} {τ τ1 τ2 : TS} {x y : Int} (h : ev P a ρ τ = some (.int x, τ1)) (h2 : ev P b ρ τ1 = some (.int y, τ2)) : ev P (.bin .Add a b) ρ τ = some (.int (x + y), τ2) := by
  rw [ev, h]
  simp only [Option.bind_some, h2, binD, addD, Option.map_some]
theorem ev_len_tup {P : Sg} {a : E} {ρ : Env'} {τ τ1 : TS} {xs : List D} (h : ev P a ρ τ = some (.tup xs, τ1)) : ev P (.blt .len (.cons a .nil)) ρ τ = some (.int xs.length, τ1) := by
  rw [ev, evs_cons h evs_nil]
  simp [bD, lenD]
theorem ev_idx_tup {P : Sg} {a b : E} {ρ : Env'} {τ τ1 τ2 : TS} {xs : List D} {i : Nat} {d : D} (h : ev P a ρ τ = some (.tup xs, τ1)) (h2 : ev P b ρ τ1 = some (.int (i : Int), τ2)) (h3 : xs[i]? = some d) : ev P (.idx a b) ρ τ = some (d, τ2) := by
  rw [ev, h]
  simp only [Option.bind_some, h2, ixD, atI_nat h3, Option.map_some]
/-! rows and steps are drawn -/
abbrev b13a : Ss := (.cons (.unp (.cons (.nm 3) (.cons (.nm 4) .nil)) (.tup (.cons (.bin .Add (.var 3) (.tup (.cons (.callT 2 1 (.cons (.int 3) .nil)) .nil))) (.cons (.bin .Add (.var 4) (.tup (.cons (.callT 1 1 .nil) .nil))) .nil)))) .nil)
theorem evS_unp2 {P : Sg} {i j : Nat} {a b : E} {ρ : Env'} {τ τ1 τ2 : TS} {x y : D} (h : ev P a ρ τ = some (x, τ1)) (h2 : ev P b ρ τ1 = some (y, τ2)) : evS P (.unp (.cons (.nm i) (.cons (.nm j) .nil)) (.tup (.cons a (.cons b .nil)))) ρ τ = some (.nx ((ρ.set i (.d x)).set j (.d y)) τ2) := by
  rw [evS, ev_tup (evs_cons h (evs_cons h2 evs_nil)) (by simp) (by simp [isMap])]
  simp [bindT]
theorem l13a (P : Sg) (ns : List Int) (hP : P13 P ns) (g2 : Slot) (rest : Env') : ∀ (xs : List D) (rows : List (List Stp)) (steps : List Stp) (g5 : Slot) (τ : TS), (∀ r ∈ rows, RowOk r) → (∀ s ∈ steps, StOk s) → rows.length = steps.length → rows.length + xs.length ≤ 100 →
    ∃ (rows' : List (List Stp)) (steps' : List Stp) (g5' : Slot) (τ' : TS), forL (fun x ρ1 τ1 => (bindT (.nm 5) x ρ1).bind fun ρ2 => evB P b13a ρ2 τ1) xs (.un :: .tape :: g2 :: .d (.tup (rows.map rowD)) :: .d (.tup (steps.map Stp.d)) :: g5 :: rest) τ = some (.nx (.un :: .tape :: g2 :: .d (.tup (rows'.map rowD)) :: .d (.tup (steps'.map Stp.d)) :: g5' :: rest) τ') ∧
      (∀ r ∈ rows', RowOk r) ∧ (∀ s ∈ steps', StOk s) ∧ rows'.length = steps'.length ∧ rows'.length = rows.length + xs.length
  | [], rows, steps, g5, τ, h1, h2, h3, _ => ⟨rows, steps, g5, τ, rfl, h1, h2, h3, rfl⟩
  | x :: xs, rows, steps, g5, τ, h1, h2, h3, hl => by
    simp only [List.length_cons] at hl
    obtain ⟨row, τ1, e1, r1, r2⟩ := row_ok true ns 3 3 rfl (by omega) τ
    obtain ⟨s, τ2, e2, s1, s2⟩ := step_ok true ns τ1
    obtain ⟨rows', steps', g5', τ', e, q1, q2, q3, q4⟩ := l13a P ns hP g2 rest xs (rows ++ [row]) (steps ++ [s]) (.d x) τ2 (by
      intro r hr
      rcases List.mem_append.mp hr with q | q
      · exact h1 r q
      · have : r = row := by simpa using q
        rw [this]; exact ⟨r1, r2⟩) (by
      intro r hr
      rcases List.mem_append.mp hr with q | q
      · exact h2 r q
      · have : r = s := by simpa using q
        rw [this]; exact ⟨s1, s2⟩) (by simp [h3]) (by simp; omega)
    refine ⟨rows', steps', g5', τ', ?_, q1, q2, q3, by rw [q4]; simp; omega⟩
    rw [forL_step (ρ1 := .un :: .tape :: g2 :: .d (.tup ((rows ++ [row]).map rowD)) :: .d (.tup ((steps ++ [s]).map Stp.d)) :: .d x :: rest) (τ1 := τ2) ?_, e]
    simp only [bindT, Option.bind_some, List.set]
    refine (evB_nx (evS_unp2 (x := .tup (rows.map rowD ++ [rowD row])) (y := .tup (steps.map Stp.d ++ [s.d])) (τ1 := τ1) (τ2 := τ2) (ev_add_tup (ev_var rfl) (ev_tup (evs_cons (ev_callT rfl (evs_cons ev_int evs_nil) (by rw [hP.g2]; exact e1)) evs_nil) (by simp) rfl) (by simp; omega) ?_) (ev_add_tup (ev_var rfl) (ev_tup (evs_cons (ev_callT rfl evs_nil (by rw [hP.g1]; exact e2)) evs_nil) (by simp) (step_notmap [s])) (by simp; omega) ?_))).trans ?_
    · have := rows_notmap (rows ++ [row])
      rwa [List.map_append] at this
    · have := step_notmap (steps ++ [s])
      rwa [List.map_append] at this
    · simp [evB]
/-! pairs are drawn -/
abbrev b13b : Ss := (.cons (.set 12 (.callT 3 1 (.cons (.int 12) .nil))) (.cons (.set 13 (.ife (.cmp .Gt (.callT 0 1 (.cons (.int 6) .nil)) (.int 0)) (.call 4 (.cons (.var 12) (.cons (.var 8) .nil))) (.callT 3 1 (.cons (.int 6) .nil)))) (.cons (.set 10 (.bin .Add (.var 10) (.tup (.cons (.tup (.cons (.var 12) (.cons (.var 13) .nil))) .nil)))) (.cons (.set 14 (.bin .Add (.bin .Add (.sl (.var 6) .nope (.var 7)) (.tup (.cons (.var 9) .nil))) (.sl (.var 6) (.var 7) .nope))) (.cons (.set 11 (.bin .Add (.var 11) (.tup (.cons (.tup (.cons (.var 12) (.cons (.call 4 (.cons (.var 12) (.cons (.var 14) .nil))) .nil))) .nil)))) .nil)))))
theorem ins_ok {row : List Stp} {k : Nat} {s : Stp} (h : ∀ x ∈ row, StOk x) (hs : StOk s) : ∀ x ∈ insR row k s, StOk x := by
  intro x hm
  simp only [insR, List.mem_append, List.mem_cons] at hm
  rcases hm with q | rfl | q
  · exact h x (List.mem_of_mem_take q)
  · exact hs
  · exact h x (List.mem_of_mem_drop q)
theorem ev_ins {P : Sg} {i j : Nat} {e : E} {row : List Stp} {k : Nat} {s : Stp} {ρ : Env'} {τ : TS} (hi : ρ[i]? = some (.d (rowD row))) (hj : ρ[j]? = some (.d (.int (k : Int)))) (hrl : row.length ≤ 3) (he : ev P e ρ τ = some (s.d, τ)) :
    ev P (.bin .Add (.bin .Add (.sl (.var i) .nope (.var j)) (.tup (.cons e .nil))) (.sl (.var i) (.var j) .nope)) ρ τ = some (rowD (insR row k s), τ) := by
  have h1 : isMap ((row.take k).map Stp.d ++ [s.d]) = false := by
    have := step_notmap (row.take k ++ [s])
    rwa [List.map_append] at this
  have e1 := ev_add_tup (ev_slT (P := P) (τ := τ) hi hj (by omega)) (ev_tup (evs_cons he evs_nil) (by simp) (step_notmap [s])) (by simp; omega) h1
  have h2 : isMap (((row.take k).map Stp.d ++ [s.d]) ++ (row.drop k).map Stp.d) = false := by
    have := step_notmap ((row.take k ++ [s]) ++ row.drop k)
    rwa [List.map_append, List.map_append] at this
  have e2 := ev_add_tup e1 (ev_slF (P := P) (τ := τ) hi hj (by omega)) (by simp; omega) h2
  rw [e2]
  simp [insR, rowD]
def PairOk (p : List Nat × List Nat) : Prop := p.1.length ≤ 12 ∧ ∀ c ∈ p.1, c < 128
theorem l13b (P : Sg) (ns : List Int) (hP : P13 P ns) (g2 g3 g4 : Slot) (row : List Stp) (hrow : RowOk row) (k : Nat) (hk : k ≤ row.length) (sec : List Stp) (hsec : RowOk sec) (st : Stp) (hst : StOk st) (rest : Env') : ∀ (xs : List D) (p1 p2 : List (List Nat × List Nat)) (g5 g12 g13 g14 : Slot) (τ : TS), (∀ p ∈ p1, PairOk p) → (∀ p ∈ p2, PairOk p) → p1.length = p2.length → p1.length + xs.length ≤ 100 →
    ∃ (p1' p2' : List (List Nat × List Nat)) (g5' g12' g13' g14' : Slot) (τ' : TS), forL (fun x ρ1 τ1 => (bindT (.nm 5) x ρ1).bind fun ρ2 => evB P b13b ρ2 τ1) xs (.un :: .tape :: g2 :: g3 :: g4 :: g5 :: .d (rowD row) :: .d (.int (k : Int)) :: .d (rowD sec) :: .d st.d :: .d (.tup (p1.map prD)) :: .d (.tup (p2.map prD)) :: g12 :: g13 :: g14 :: rest) τ
      = some (.nx (.un :: .tape :: g2 :: g3 :: g4 :: g5' :: .d (rowD row) :: .d (.int (k : Int)) :: .d (rowD sec) :: .d st.d :: .d (.tup (p1'.map prD)) :: .d (.tup (p2'.map prD)) :: g12' :: g13' :: g14' :: rest) τ') ∧ (∀ p ∈ p1', PairOk p) ∧ (∀ p ∈ p2', PairOk p) ∧ p1'.length ≤ p1.length + xs.length ∧ p2'.length ≤ p1.length + xs.length
  | [], p1, p2, g5, g12, g13, g14, τ, h1, h2, h3, _ => ⟨p1, p2, g5, g12, g13, g14, τ, rfl, h1, h2, by simp, by simp [h3]⟩
  | x :: xs, p1, p2, g5, g12, g13, g14, τ, h1, h2, h3, hl => by
    simp only [List.length_cons] at hl
    obtain ⟨t, τ1, e1, t1, t2⟩ := text_ok true ns 12 12 rfl (by omega) τ
    have ta := alp_ascii t2
    obtain ⟨r, τ2, e2, r1⟩ := draw_int true ns 6 6 rfl (by omega) (by omega) τ1
    obtain ⟨t', τ3, e3, _, _⟩ := text_ok true ns 6 6 rfl (by omega) τ2
    have ha := after_ok true ns sec t τ2 hsec.2 (by omega) ta
    have hins := ins_ok (k := k) hrow.2 hst
    obtain ⟨w, τ4, hw⟩ : ∃ w τ4, ∀ y5 y13 y14 q1 q2, ev P (.ife (.cmp .Gt (.callT 0 1 (.cons (.int 6) .nil)) (.int 0)) (.call 4 (.cons (.var 12) (.cons (.var 8) .nil))) (.callT 3 1 (.cons (.int 6) .nil))) (.un :: .tape :: g2 :: g3 :: g4 :: y5 :: .d (rowD row) :: .d (.int (k : Int)) :: .d (rowD sec) :: .d st.d :: q1 :: q2 :: .d (.str t) :: y13 :: y14 :: rest) τ1 = some (.str w, τ4) := by
      by_cases hz : 0 < r
      · refine ⟨apAll sec t, τ2, fun y5 y13 y14 q1 q2 => ?_⟩
        · have hz' : (0 : Int) < (r : Int) := by omega
          rw [ev]
          rw [evt, ev_callT rfl (evs_cons ev_int evs_nil) (by rw [hP.g0]; exact e2)]
          simp only [Option.bind_some, ev_int, cmpD, gtD, ordD, truD]
          rw [decide_eq_true hz']
          simp only [Option.map_some, Option.bind_some, if_true]
          exact ev_call (evs_cons (ev_var rfl) (evs_cons (ev_var rfl) evs_nil)) (by rw [hP.g4]; exact ha)
      · refine ⟨t', τ3, fun y5 y13 y14 q1 q2 => ?_⟩
        · have hz' : ¬ (0 : Int) < (r : Int) := by omega
          rw [ev]
          rw [evt, ev_callT rfl (evs_cons ev_int evs_nil) (by rw [hP.g0]; exact e2)]
          simp only [Option.bind_some, ev_int, cmpD, gtD, ordD, truD]
          rw [decide_eq_false hz']
          simp only [Option.map_some, Option.bind_some, Bool.false_eq_true, if_false]
          exact ev_callT rfl (evs_cons ev_int evs_nil) (by rw [hP.g3]; exact e3)
    have hb := after_ok true ns (insR row k st) t τ4 hins (by omega) ta
    obtain ⟨p1', p2', g5', g12', g13', g14', τ', e, q1, q2, q3, q4⟩ := l13b P ns hP g2 g3 g4 row hrow k hk sec hsec st hst rest xs (p1 ++ [(t, w)]) (p2 ++ [(t, apAll (insR row k st) t)]) (.d x) (.d (.str t)) (.d (.str w)) (.d (rowD (insR row k st))) τ4 (by
      intro p hp
      rcases List.mem_append.mp hp with q | q
      · exact h1 p q
      · have : p = (t, w) := by simpa using q
        rw [this]; exact ⟨t1, ta⟩) (by
      intro p hp
      rcases List.mem_append.mp hp with q | q
      · exact h2 p q
      · have : p = (t, apAll (insR row k st) t) := by simpa using q
        rw [this]; exact ⟨t1, ta⟩) (by simp [h3]) (by simp; omega)
    refine ⟨p1', p2', g5', g12', g13', g14', τ', ?_, q1, q2, by simp at q3 ⊢; omega, by simp at q4 ⊢; omega⟩
    rw [forL_step (τ1 := τ4) ?_, e]
    simp only [bindT, Option.bind_some, List.set]
    refine (evB_nx (evS_set (d := .str t) (τ1 := τ1) (ev_callT rfl (evs_cons ev_int evs_nil) (by rw [hP.g3]; exact e1)))).trans ?_
    simp only [List.set]
    refine (evB_nx (evS_set (hw _ _ _ _ _))).trans ?_
    simp only [List.set]
    refine (evB_nx (evS_set (d := .tup (p1.map prD ++ [prD (t, w)])) (τ1 := τ4) (ev_add_tup (ev_var rfl) (ev_tup (evs_cons (ev_tup (evs_cons (ev_var rfl) (evs_cons (ev_var rfl) evs_nil)) (by simp) rfl) evs_nil) (by simp) rfl) (by simp; omega) (by have := prs_notmap (p1 ++ [(t, w)]); rwa [List.map_append] at this)))).trans ?_
    simp only [List.set]
    refine (evB_nx (evS_set (ev_ins (s := st) rfl rfl hrow.1 (ev_var rfl)))).trans ?_
    simp only [List.set]
    refine (evB_nx (evS_set (d := .tup (p2.map prD ++ [prD (t, apAll (insR row k st) t)])) (τ1 := τ4) (ev_add_tup (ev_var rfl) (ev_tup (evs_cons (ev_tup (evs_cons (ev_var rfl) (evs_cons (ev_call (evs_cons (ev_var rfl) (evs_cons (ev_var rfl) evs_nil)) (by rw [hP.g4]; exact hb)) evs_nil)) (by simp) rfl) evs_nil) (by simp) rfl) (by simp; omega) (by have := prs_notmap (p2 ++ [(t, apAll (insR row k st) t)]); rwa [List.map_append] at this)))).trans ?_
    simp [evB]
end PD

set_option Elab.async false
set_option linter.all false
set_option maxRecDepth 100000
set_option maxHeartbeats 8000000
/-! _law_sign and _law_step at a law's own text. -/
namespace PD
open PySem L2 PySem.Spec PyProof.Rows
def chkSub (l : List Stmt) (a : Str) (f : Expr → Bool) : Bool := match l with
  | [.Return (some (.Subscript (.Constant (.str b) j cp) ex sp)) rp] => decide (b = a) && plainIxB ex && f ex
  | _ => false
theorem chkSub_of {l : List Stmt} {a : Str} {f : Expr → Bool} (h : chkSub l a f = true) : ∃ j cp ex sp rp, l = [.Return (some (.Subscript (.Constant (.str a) j cp) ex sp)) rp] ∧ PlainIx ex ∧ f ex = true := by
  unfold chkSub at h
  split at h
  · rename_i b j cp ex sp rp
    simp only [Bool.and_eq_true, decide_eq_true_eq] at h
    obtain ⟨⟨rfl, h2⟩, h3⟩ := h
    exact ⟨j, cp, ex, sp, rp, rfl, plainIx_of h2, h3⟩
  · cases h
theorem sign_kn {Pg : Program} {w : World} {K : PySem.W.Frag} {mg : Str → Option Value} {base : Heap} {C : Con} (M : Mo C K mg) {st : Stmt} {k : Nat} (D0 : DefOk K mg "_law_sign" st ["tape"]) (S : FnScope ["tape"] ["tape"] (defScope st))
    (hch : chkSub (defBody st) (tx SGN) (chkE ⟨["tape"], [("_law_draw", true)], [], []⟩ (defScope st) (.callT 0 0 (.cons (.int 11) .nil))) = true) (kd : Kn Pg w K mg base C k (cDraw C.tk)) :
    KnT Pg w K mg base C (k + 1) (cSign C.tk) := by
  obtain ⟨j, cp, ex, sp, rp, h1, h2, h3⟩ := chkSub_of hch
  refine def_okT (N := ["tape"]) (cal := [cDraw C.tk]) (csts := []) (ie := .callT 0 0 (.cons (.int 11) .nil)) M D0 S h1 h2 (by rw [tx_len]; exact sl1 (by decide)) h3 rfl (by simp) (all1 kd) _ ?_
  intro ns ds τ r h
  unfold GSign Grun at h
  split at h
  · rename_i hl
    refine ⟨hl, ?_⟩
    obtain rfl := List.length_eq_zero_iff.mp hl
    unfold runF at h
    simp only [Option.bind_eq_some_iff] at h
    obtain ⟨o, e1, e2⟩ := h
    have e1' : evB (mkSg C.tk [cDraw C.tk] [] ns) ir_law_sign [.tape] τ = some o := e1
    obtain ⟨i, τ', e, hi⟩ := draw_int C.tk ns 11 11 rfl (by omega) (by omega) τ
    obtain ⟨c, hc, _⟩ := atI_in (l := SGN) (r := i) hi
    refine ⟨i, τ', c, ?_, hc, ?_⟩
    · show ev (mkSg C.tk [cDraw C.tk] [] ns) (.callT 0 0 (.cons (.int 11) .nil)) [.tape] τ = _
      simp [ev, evs, mkSg, mkSgG, e]
    · unfold ir_law_sign at e1'
      unfold SGN at hc
      rw [evB_rt (evS_ret (d := .str [c]) (τ1 := τ') (by simp [evB, evS, ev, evs, evt, evp, evi, binD, cmpD, bD, mD, neD, eqD, truD, ixD, inD, inB, slD, lenD, intD, maxD, minD, addD, subD, negD, joinD, joinS, txsO, lowerD, upperD, startsD, endsD, stripD, with1, ordD, mulD, modD, fdivD, powD, intO, Out.then, bindT, setAll, itemsD, rangeD, runF, start', mkSg, mkSgG, opD, small62, wipeE, compL, forL, List.replicate, tyIs, e, hc, sl1]))] at e1'
      cases e1'
      exact (Option.some.inj e2).symm
  · cases h
/-- the last two statements of _law_step -/
def chkTail (sc : Scope) (l : List Stmt) : Bool := match l with
  | [.Assign [.Tuple [.Name x px, .Name y py] kt pt] (.Tuple [.Call (.Name f1 p1) [.Name t1 p2] [] p3, .Call (.Name f2 p4) [.Name t2 p5] [] p6] k2 pt2) spos,
     .Return (some (.IfExp (.BoolOp .And [.Compare (.Name wn pw) [.Eq] [.Constant (.str mp) jm cm] p7, .Compare (.Name x1 px1) [.NotEq] [.Name y1 py1] p8] pb) (.Tuple [.Constant (.str mp2) j2 c2, .Name x2 px2, .Name y2 py2] kt' pt') (.Tuple [.Constant (.str sm) j3 c3] k3 p9) pi)) rp] =>
    decide (x = "one") && decide (y = "other") && decide (f1 = "_law_sign") && decide (f2 = "_law_sign") && decide (t1 = "tape") && decide (t2 = "tape") && decide (wn = "word") && decide (mp = tx mapW) && decide (x1 = "one") && decide (y1 = "other") && decide (mp2 = tx mapW) && decide (x2 = "one") && decide (y2 = "other") && decide (sm = tx SML) &&
      doSwap sc [.Name x px, .Name y py] [.Call (.Name f1 p1) [.Name t1 p2] [] p3, .Call (.Name f2 p4) [.Name t2 p5] [] p6] [x, y]
  | _ => false
def locOf (sc : Scope) (x : Str) : Bool := match sc.names.lookup x with
  | some .local => true
  | _ => false
theorem locOf_of {sc : Scope} {x : Str} (h : locOf sc x = true) : sc.names.lookup x = some .local := by
  unfold locOf at h
  split at h
  · rename_i q; exact q
  · cases h
theorem step_kn {Pg : Program} {w : World} {K : PySem.W.Frag} {mg : Str → Option Value} {base : Heap} {C : Con} (M : Mo C K mg) {st : Stmt} {k : Nat} (D0 : DefOk K mg "_law_step" st ["tape"]) (S : FnScope ["tape", "kinds", "word", "one", "other"] ["tape"] (defScope st))
    (chk : chkB ⟨["tape", "kinds", "word", "one", "other"], [("_law_draw", true), ("_law_set", true), ("_law_word", true), ("_law_sign", true)], [], []⟩ (defScope st) ir_step7 ((defBody st).take 7) = true)
    (hT : chkTail (defScope st) ((defBody st).drop 7) = true) (hone : locOf (defScope st) "one" = true) (hoth : locOf (defScope st) "other" = true) (hwd : visB (defScope st) "word" = true) (htp : visB (defScope st) "tape" = true) (hgl : glB (defScope st) "_law_sign" = true)
    (kd : Kn Pg w K mg base C k (cDraw C.tk)) (ks : Kn Pg w K mg base C k ⟨"_law_set", true, 0, GSet C.tk⟩) (kw : Kn Pg w K mg base C k ⟨"_law_word", true, 0, GWord C.tk⟩) (kg : Kn Pg w K mg base C k (cSign C.tk)) (kt : KnT Pg w K mg base C k (cSign C.tk)) :
    Kn Pg w K mg base C (k + 1) ⟨"_law_step", true, 0, GStepD C.tk⟩ := by
  refine def_okB (N := ["tape", "kinds", "word", "one", "other"]) (l := (defBody st).take 7) (r := (defBody st).drop 7) (cal := calStep C.tk) (csts := []) (iw := 2) (i := 3) (j := 4) (e := .callT 3 0 .nil) (sm := SML) M D0 S (List.take_append_drop 7 _).symm chk rfl (by simp) (all4 kd ks kw kg) ?_ _ (fun ns ds τ r h => GStepD_run h)
  intro W X g hPg hw hK hmg hbase hN hRoom hsc
  subst hPg hw hK hmg hbase
  obtain ⟨fa, fd, ps, a1, a2, a3, a4, a5⟩ := kt
  generalize (defBody st).drop 7 = r at hT
  unfold chkTail at hT
  split at hT
  · simp only [Bool.and_eq_true, decide_eq_true_eq] at hT
    obtain ⟨⟨⟨⟨⟨⟨⟨⟨⟨⟨⟨⟨⟨⟨rfl, rfl⟩, rfl⟩, rfl⟩, rfl⟩, rfl⟩, rfl⟩, rfl⟩, rfl⟩, rfl⟩, rfl⟩, rfl⟩, rfl⟩, rfl⟩, hsw⟩ := hT
    have pf : ∀ p1 p2 p, PEF X (.Call (.Name "_law_sign" p1) [.Name "tape" p2] [] p) (RdE (mkSg C.tk (calStep C.tk) [] W.ns) C W (.callT 3 0 .nil)) := fun p1 p2 p =>
      pef_callT g (f := 3) (i := 0) (x := "_law_sign") (t := "tape") (G := GSign C.tk) rfl rfl (by rw [hsc]; exact hgl) (by decide) rfl (by rw [hsc]; exact htp) (by decide) a1 hRoom a2 a3 a4 a5
    refine tail_ok (x := "one") (y := "other") (wn := "word") g rfl rfl (by rw [hN]; rfl) (by rw [hN]; rfl) (by decide) (by decide) (by decide) (by rw [hsc]; exact locOf_of hone) (by rw [hsc]; exact locOf_of hoth) (by decide) (by decide) (pf _ _ _) (pf _ _ _) rfl (do_swap (by rw [hsc]; exact S.kind) (by rw [hsc]; exact hsw)) sw_sole (by rw [hN]; rfl) (vis_of (by rw [hsc]; exact hwd)) (by decide)
  · cases hT
end PD

set_option Elab.async false
set_option linter.all false
set_option maxRecDepth 100000
set_option maxHeartbeats 8000000
/-! textcleaners.steps: texts, steps, rows recognized, for any value. -/
namespace PD
open PySem L2
def ir_is_string : Ss := (.cons (.ret (.and (.isi (.var 0) .str) (.and (.chn .LtE .LtE (.var 1) (.blt .len (.cons (.var 0) .nil)) (.var 2)) (.one (.blt .all (.cons (.comp (.cmp .In (.var 3) (.cst 0)) (.nm 3) (.data (.var 0)) .yes [3]) .nil)))))) .nil)
def ir_is_set : Ss := (.cons (.ret (.and (.call 0 (.cons (.var 0) (.cons (.int 1) (.cons (.int 3) .nil)))) (.one (.blt .all (.cons (.comp (.cmp .Lt (.var 1) (.var 2)) (.cons (.nm 1) (.cons (.nm 2) .nil)) (.zip (.var 0) (.sl (.var 0) (.int 1) .nope)) .yes [1, 2]) .nil))))) .nil)
def ir_is_number : Ss := (.cons (.ret (.and (.isi (.var 0) .int) (.and (.not (.isi (.var 0) .bool)) (.one (.chn .LtE .LtE (.int 1) (.var 0) (.int 3)))))) .nil)
def ir_is_step : Ss := (.cons (.ife (.or (.not (.val (.isi (.var 0) .tuple))) (.or (.cmp .Eq (.blt .len (.cons (.var 0) .nil)) (.int 0)) (.one (.not (.val (.isi (.idx (.var 0) (.int 0)) .str)))))) (.cons (.ret (.bl false)) .nil) .nil) (.cons (.par [1, 2] (.cons (.idx (.var 0) (.int 0)) (.cons (.sl (.var 0) (.int 1) .nope) .nil))) (.cons (.ife (.cmp .In (.var 1) (.cst 0)) (.cons (.ret (.and (.cmp .Eq (.blt .len (.cons (.var 2) .nil)) (.int 1)) (.one (.call 0 (.cons (.idx (.var 2) (.int 0)) .nil))))) .nil) .nil) (.cons (.ife (.cmp .In (.var 1) (.cst 1)) (.cons (.ret (.and (.cmp .Eq (.blt .len (.cons (.var 2) .nil)) (.int 1)) (.one (.call 1 (.cons (.idx (.var 2) (.int 0)) (.cons (.int 1) (.cons (.int 2) .nil))))))) .nil) .nil) (.cons (.ife (.cmp .In (.var 1) (.cst 2)) (.cons (.ret (.and (.cmp .Eq (.blt .len (.cons (.var 2) .nil)) (.int 1)) (.one (.call 2 (.cons (.idx (.var 2) (.int 0)) .nil))))) .nil) .nil) (.cons (.ife (.cmp .Eq (.var 1) (.str [109, 97, 112])) (.cons (.ret (.and (.cmp .Eq (.blt .len (.cons (.var 2) .nil)) (.int 2)) (.and (.call 1 (.cons (.idx (.var 2) (.int 0)) (.cons (.int 1) (.cons (.int 1) .nil)))) (.and (.call 1 (.cons (.idx (.var 2) (.int 1)) (.cons (.int 1) (.cons (.int 1) .nil)))) (.one (.cmp .NotEq (.idx (.var 2) (.int 0)) (.idx (.var 2) (.int 1)))))))) .nil) .nil) (.cons (.ife (.cmp .Eq (.var 1) (.str [106, 111, 105, 110])) (.cons (.ret (.and (.cmp .Eq (.blt .len (.cons (.var 2) .nil)) (.int 2)) (.and (.call 0 (.cons (.idx (.var 2) (.int 0)) .nil)) (.one (.call 1 (.cons (.idx (.var 2) (.int 1)) (.cons (.int 1) (.cons (.int 1) .nil)))))))) .nil) .nil) (.cons (.ret (.and (.cmp .Eq (.var 1) (.str [115, 109, 97, 108, 108])) (.one (.cmp .Eq (.var 2) (.tup .nil))))) .nil))))))))
def ir_is_row : Ss := (.cons (.ret (.and (.isi (.var 0) .tuple) (.and (.cmp .LtE (.blt .len (.cons (.var 0) .nil)) (.cst 0)) (.one (.blt .all (.cons (.comp (.call 0 (.cons (.var 1) .nil)) (.nm 1) (.data (.var 0)) .yes [1]) .nil)))))) .nil)
def sgL : List Nat := [32, 45, 46] ++ capsL ++ [95] ++ [97, 98, 99, 100, 101, 102, 103, 104, 105, 106, 107, 108, 109, 110, 111, 112, 113, 114, 115, 116, 117, 118, 119, 120, 121, 122]
def signsOf (lo hi : Nat) (s : List Nat) : Bool := decide (lo ≤ s.length) && (decide (s.length ≤ hi) && s.all fun c => decide (c ∈ sgL))
def isStr (lo hi : Nat) : D → Bool
  | .str s => signsOf lo hi s
  | _ => false
def riseB (s : List Nat) : Bool := (List.zip s (s.drop 1)).all fun p => decide (p.1 < p.2)
def isSetD : D → Bool
  | .str s => signsOf 1 3 s && riseB s
  | _ => false
def isNumD : D → Bool
  | .int i => decide (1 ≤ i) && decide (i ≤ 3)
  | _ => false
def wTrim : List Nat := [116, 114, 105, 109]
def wDrop : List Nat := [100, 114, 111, 112]
def wSqueeze : List Nat := [115, 113, 117, 101, 101, 122, 101]
def wFront : List Nat := [102, 114, 111, 110, 116]
def wFronts : List Nat := [102, 114, 111, 110, 116, 115]
def wBack : List Nat := [98, 97, 99, 107]
def wBacks : List Nat := [98, 97, 99, 107, 115]
def wFirst : List Nat := [102, 105, 114, 115, 116]
def wLast : List Nat := [108, 97, 115, 116]
def wJoin : List Nat := [106, 111, 105, 110]
def wSmall : List Nat := [115, 109, 97, 108, 108]
def one1 (f : D → Bool) : List D → Bool
  | [a] => f a
  | _ => false
def two2 (f : D → D → Bool) : List D → Bool
  | [a, b] => f a b
  | _ => false
def isStepD : D → Bool
  | .tup (.str w :: rest) =>
    if w = wTrim ∨ w = wDrop ∨ w = wSqueeze then one1 isSetD rest
    else if w = wFront ∨ w = wFronts ∨ w = wBack ∨ w = wBacks then one1 (isStr 1 2) rest
    else if w = wFirst ∨ w = wLast then one1 isNumD rest
    else if w = mapW then two2 (fun a b => isStr 1 1 a && (isStr 1 1 b && !eqv a b)) rest
    else if w = wJoin then two2 (fun a b => isSetD a && isStr 1 1 b) rest
    else if w = wSmall then rest.isEmpty else false
  | _ => false
def isRowD : D → Bool
  | .tup xs => decide (xs.length ≤ 3) && xs.all isStepD
  | _ => false
def cSigns : Str × D := ("SIGNS", .str sgL)
def cWset : Str × D := ("WITH_SET", .tup [.str wTrim, .str wDrop, .str wSqueeze])
def cWword : Str × D := ("WITH_WORD", .tup [.str wFront, .str wFronts, .str wBack, .str wBacks])
def cWnum : Str × D := ("WITH_NUMBER", .tup [.str wFirst, .str wLast])
def cMost : Str × D := ("MOST_STEPS", .int 3)
/-- short enough -/
def shortD : D → Prop
  | .str s => s.length ≤ 4000
  | _ => True
/-! ### is_string -/
noncomputable def GIsStr (tk : Bool) : GF := Grun tk 4 false 3 ir_is_string [] [cSigns]
theorem ev_len_str0 {P : Sg} {a : E} {ρ : Env'} {τ τ1 : TS} {s : List Nat} (h : ev P a ρ τ = some (.str s, τ1)) (hl : s.length ≤ 4000) : ev P (.blt .len (.cons a .nil)) ρ τ = some (.int s.length, τ1) := by
  rw [ev, evs_cons h evs_nil]
  simp [bD, lenD, sl1 hl]
theorem all_bools (p : Nat → Bool) (s : List Nat) : (bools (s.map fun c => D.bl (p c))).map (fun bs => D.bl (bs.all id)) = some (.bl (s.all p)) := by
  have e := bools_map (s.map p)
  rw [List.map_map] at e
  have e3 : (s.map fun c => D.bl (p c)) = s.map (D.bl ∘ p) := rfl
  rw [e3, e]
  simp [List.all_map]
theorem signs_comp (P : Sg) (hc : P.cs[0]? = some (.str sgL)) (r0 r1 r2 r3 : Slot) (s : List Nat) (τ : TS) :
    compL (cbody P (.cmp .In (.var 3) (.cst 0)) (.nm 3) .yes [3] [r0, r1, r2, r3]) (s.map fun c => .str [c]) τ = some (s.map (fun c => D.bl (decide (c ∈ sgL))), τ) := by
  refine compL_map fun c hm => ?_
  simp [cbody, evB, evS, ev, evs, evt, evp, evi, binD, cmpD, bD, mD, neD, eqD, truD, ixD, inD, inB, slD, lenD, intD, maxD, minD, addD, subD, negD, joinD, joinS, txsO, lowerD, upperD, startsD, endsD, stripD, with1, ordD, mulD, modD, fdivD, powD, intO, Out.then, bindT, setAll, itemsD, rangeD, runF, start', mkSg, mkSgG, opD, small62, wipeE, compL, forL, List.replicate, tyIs, hc]
theorem isstr_ok (tk : Bool) (ns : List Int) (d : D) (hd : shortD d) (lo hi : Nat) (τ : TS) : GIsStr tk ns [d, .int lo, .int hi] τ = some (.bl (isStr lo hi d), τ) := by
  refine Grun_in rfl ?_
  show evB _ ir_is_string [.d d, .d (.int lo), .d (.int hi), .un] τ = _
  unfold ir_is_string
  refine evB_rt (evS_ret ?_)
  cases d with
  | str s =>
    have hs : s.length ≤ 4000 := hd
    have hcomp := signs_comp (mkSg tk [] [cSigns] ns) rfl (.d (.str s)) (.d (.int lo)) (.d (.int hi)) .un s τ
    have hall : ev (mkSg tk [] [cSigns] ns) (.blt .all (.cons (.comp (.cmp .In (.var 3) (.cst 0)) (.nm 3) (.data (.var 0)) .yes [3]) .nil)) [.d (.str s), .d (.int lo), .d (.int hi), .un] τ = some (.bl (s.all fun c => decide (c ∈ sgL)), τ) := by
      rw [ev, evs_cons (ev_comp (evi_data (ev_var rfl) rfl) hcomp (sl1 (by simpa using hs))) evs_nil]
      simp only [Option.bind_some, bD, allD]
      rw [all_bools (fun c => decide (c ∈ sgL)) s]
      rfl
    by_cases h1 : lo ≤ s.length
    · by_cases h2 : s.length ≤ hi
      · rw [ev, ev, ev_var rfl]
        simp only [Option.map_some, Option.bind_some, tyIs, truD, if_true]
        rw [ev, ev, ev_var rfl]
        simp only [Option.bind_some]
        rw [ev_len_str0 (ev_var rfl) hs]
        simp only [Option.bind_some, cmpD, leD, ordD, decide_eq_true (show (lo : Int) ≤ (s.length : Int) by omega), ev_var (show ([Slot.d (.str s), .d (.int lo), .d (.int hi), .un] : Env')[2]? = some (.d (.int hi)) from rfl), decide_eq_true (show (s.length : Int) ≤ (hi : Int) by omega), Option.map_some, truD, if_true]
        rw [ev, hall]
        simp [isStr, signsOf, h1, h2]
      · rw [ev, ev, ev_var rfl]
        simp only [Option.map_some, Option.bind_some, tyIs, truD, if_true]
        rw [ev, ev, ev_var rfl]
        simp only [Option.bind_some]
        rw [ev_len_str0 (ev_var rfl) hs]
        simp only [Option.bind_some, cmpD, leD, ordD, decide_eq_true (show (lo : Int) ≤ (s.length : Int) by omega), ev_var (show ([Slot.d (.str s), .d (.int lo), .d (.int hi), .un] : Env')[2]? = some (.d (.int hi)) from rfl), decide_eq_false (show ¬ (s.length : Int) ≤ (hi : Int) by omega), Option.map_some, truD, Bool.false_eq_true, if_false]
        simp [isStr, signsOf, h1, h2]
    · rw [ev, ev, ev_var rfl]
      simp only [Option.map_some, Option.bind_some, tyIs, truD, if_true]
      rw [ev, ev, ev_var rfl]
      simp only [Option.bind_some]
      rw [ev_len_str0 (ev_var rfl) hs]
      simp only [Option.bind_some, cmpD, leD, ordD, decide_eq_false (show ¬ (lo : Int) ≤ (s.length : Int) by omega), truD, Bool.false_eq_true, if_false]
      simp [isStr, signsOf, h1]
  | non => simp [ev, tyIs, truD, isStr]
  | bl b => simp [ev, tyIs, truD, isStr]
  | int i => simp [ev, tyIs, truD, isStr]
  | tup xs => simp [ev, tyIs, truD, isStr]
  | lst xs => simp [ev, tyIs, truD, isStr]
end PD

set_option Elab.async false
set_option linter.all false
set_option maxRecDepth 100000
set_option maxHeartbeats 8000000
/-! is_set, is_number, is_step, is_row of any value. -/
namespace PD
open PySem L2
mutual
/-- short texts, short lists, at every depth -/
def bnd : D → Bool
  | .str s => decide (s.length ≤ 1000)
  | .tup xs => decide (xs.length ≤ 1000) && bnds xs
  | .lst xs => decide (xs.length ≤ 1000) && bnds xs
  | _ => true
def bnds : List D → Bool
  | [] => true
  | x :: xs => bnd x && bnds xs
end
theorem bnds_iff : ∀ {xs : List D}, bnds xs = true ↔ ∀ x ∈ xs, bnd x = true
  | [] => by simp [bnds]
  | x :: xs => by rw [bnds, Bool.and_eq_true, bnds_iff]; simp
theorem bnd_str {s : List Nat} (h : bnd (.str s) = true) : s.length ≤ 1000 := by simpa [bnd] using h
theorem bnd_tup {xs : List D} (h : bnd (.tup xs) = true) : xs.length ≤ 1000 ∧ ∀ x ∈ xs, bnd x = true := by
  simp only [bnd, Bool.and_eq_true, decide_eq_true_eq, bnds_iff] at h
  exact h
theorem bnd_short {d : D} (h : bnd d = true) : shortD d := by
  cases d with
  | str s => have := bnd_str h; show s.length ≤ 4000; omega
  | _ => trivial
theorem ev_call0 {P : Sg} {f : Nat} {es : Es} {ρ : Env'} {τ τ1 τ2 : TS} {ds : List D} {d : D} (h1 : evs P es ρ τ = some (ds, τ1)) (h2 : P.G f ds τ1 = some (d, τ2)) : ev P (.call f es) ρ τ = some (d, τ2) := by
  rw [ev, h1]
  simp only [Option.bind_some, h2]
/-! ### is_set -/
noncomputable def GIsSet (tk : Bool) : GF := Grun tk 3 false 1 ir_is_set [⟨"is_string", false, 3, GIsStr tk⟩] []
theorem rise_comp (P : Sg) (r0 r1 r2 : Slot) (s : List Nat) (τ : TS) :
    compL (cbody P (.cmp .Lt (.var 1) (.var 2)) (.cons (.nm 1) (.cons (.nm 2) .nil)) .yes [1, 2] [r0, r1, r2]) (zipC s (s.drop 1)) τ = some ((List.zip s (s.drop 1)).map (fun p => D.bl (decide (p.1 < p.2))), τ) := by
  unfold zipC
  refine compL_map fun p hm => ?_
  simp [cbody, evB, evS, ev, evs, evt, evp, evi, binD, cmpD, bD, mD, neD, eqD, truD, ixD, inD, inB, slD, lenD, intD, maxD, minD, addD, subD, negD, joinD, joinS, txsO, lowerD, upperD, startsD, endsD, stripD, with1, ordD, mulD, modD, fdivD, powD, intO, Out.then, bindT, setAll, itemsD, rangeD, runF, start', mkSg, mkSgG, opD, small62, wipeE, compL, forL, List.replicate, tyIs, ltD, List.cons_lt_cons_iff]
theorem isset_ok (tk : Bool) (ns : List Int) (d : D) (hd : bnd d = true) (τ : TS) : GIsSet tk ns [d] τ = some (.bl (isSetD d), τ) := by
  have h1 := isstr_ok tk ns d (bnd_short hd) 1 3 τ
  refine Grun_in rfl ?_
  show evB _ ir_is_set [.d d, .un, .un] τ = _
  unfold ir_is_set
  refine evB_rt (evS_ret ?_)
  have hc : ev (mkSg tk [⟨"is_string", false, 3, GIsStr tk⟩] [] ns) (.call 0 (.cons (.var 0) (.cons (.int 1) (.cons (.int 3) .nil)))) [.d d, .un, .un] τ = some (.bl (isStr 1 3 d), τ) :=
    ev_call0 (evs_cons (ev_var rfl) (evs_cons ev_int (evs_cons ev_int evs_nil))) h1
  rw [ev, hc]
  simp only [Option.bind_some, truD]
  cases hb : isStr 1 3 d with
  | false =>
    simp only [Bool.false_eq_true, if_false]
    cases d with
    | str s =>
      have hb' : signsOf 1 3 s = false := hb
      simp [isSetD, hb']
    | _ => rfl
  | true =>
    simp only [if_true]
    cases d with
    | str s =>
      have hb' : signsOf 1 3 s = true := hb
      have hl := bnd_str hd
      have hz : evi (mkSg tk [⟨"is_string", false, 3, GIsStr tk⟩] [] ns) (.zip (.var 0) (.sl (.var 0) (.int 1) .nope)) [.d (.str s), .un, .un] τ = some (zipC s (s.drop 1), τ) := by
        have e1 : cutL s (some 1) none = s.drop 1 := cut_from s 1
        have e2 := sl1 (show s.length ≤ 4000 by omega)
        simp [evi, ev, evp, slD, e1, e2]
      have hlen : ((List.zip s (s.drop 1)).map (fun p => D.bl (decide (p.1 < p.2)))).length ≤ sizeLine := by
        rw [List.length_map, List.length_zip]
        exact Nat.le_trans (Nat.min_le_left _ _) (sl1 (by omega))
      rw [ev, ev, evs_cons (ev_comp hz (rise_comp _ _ _ _ s τ) hlen) evs_nil]
      simp only [Option.bind_some, bD, allD]
      have e := bools_map ((List.zip s (s.drop 1)).map fun p => decide (p.1 < p.2))
      rw [List.map_map] at e
      have e3 : ((List.zip s (s.drop 1)).map (fun p => D.bl (decide (p.1 < p.2)))) = (List.zip s (s.drop 1)).map (D.bl ∘ fun p => decide (p.1 < p.2)) := rfl
      rw [e3, e]
      simp only [Option.map_some, isSetD, hb', Bool.true_and, riseB, List.all_map]
      rfl
    | non => cases hb
    | bl b => cases hb
    | int i => cases hb
    | tup xs => cases hb
    | lst xs => cases hb
/-! ### is_number -/
noncomputable def GIsNum (tk : Bool) : GF := Grun tk 1 false 1 ir_is_number [] []
theorem isnum_ok (tk : Bool) (ns : List Int) (d : D) (τ : TS) : GIsNum tk ns [d] τ = some (.bl (isNumD d), τ) := by
  refine Grun_in rfl ?_
  show evB _ ir_is_number [.d d] τ = _
  unfold ir_is_number
  refine evB_rt (evS_ret ?_)
  cases d with
  | int i =>
    by_cases h1 : 1 ≤ i
    · by_cases h2 : i ≤ 3 <;> simp [evB, evS, ev, evs, evt, evp, evi, binD, cmpD, bD, mD, neD, eqD, truD, ixD, inD, inB, slD, lenD, intD, maxD, minD, addD, subD, negD, joinD, joinS, txsO, lowerD, upperD, startsD, endsD, stripD, with1, ordD, mulD, modD, fdivD, powD, intO, Out.then, bindT, setAll, itemsD, rangeD, runF, start', mkSg, mkSgG, opD, small62, wipeE, compL, forL, List.replicate, tyIs, tyIs, leD, isNumD, h1, h2]
    · simp [evB, evS, ev, evs, evt, evp, evi, binD, cmpD, bD, mD, neD, eqD, truD, ixD, inD, inB, slD, lenD, intD, maxD, minD, addD, subD, negD, joinD, joinS, txsO, lowerD, upperD, startsD, endsD, stripD, with1, ordD, mulD, modD, fdivD, powD, intO, Out.then, bindT, setAll, itemsD, rangeD, runF, start', mkSg, mkSgG, opD, small62, wipeE, compL, forL, List.replicate, tyIs, tyIs, leD, isNumD, h1]
  | bl b => cases b <;> simp [evB, evS, ev, evs, evt, evp, evi, binD, cmpD, bD, mD, neD, eqD, truD, ixD, inD, inB, slD, lenD, intD, maxD, minD, addD, subD, negD, joinD, joinS, txsO, lowerD, upperD, startsD, endsD, stripD, with1, ordD, mulD, modD, fdivD, powD, intO, Out.then, bindT, setAll, itemsD, rangeD, runF, start', mkSg, mkSgG, opD, small62, wipeE, compL, forL, List.replicate, tyIs, tyIs, isNumD]
  | _ => simp [evB, evS, ev, evs, evt, evp, evi, binD, cmpD, bD, mD, neD, eqD, truD, ixD, inD, inB, slD, lenD, intD, maxD, minD, addD, subD, negD, joinD, joinS, txsO, lowerD, upperD, startsD, endsD, stripD, with1, ordD, mulD, modD, fdivD, powD, intO, Out.then, bindT, setAll, itemsD, rangeD, runF, start', mkSg, mkSgG, opD, small62, wipeE, compL, forL, List.replicate, tyIs, tyIs, isNumD]
end PD
namespace PD
open PySem L2
/-! ### is_step -/
noncomputable abbrev calIsStep (tk : Bool) : List Cal := [⟨"is_set", false, 1, GIsSet tk⟩, ⟨"is_string", false, 3, GIsStr tk⟩, ⟨"is_number", false, 1, GIsNum tk⟩]
def cstIsStep : List (Str × D) := [cWset, cWword, cWnum]
noncomputable def GIsStep (tk : Bool) : GF := Grun tk 3 false 1 ir_is_step (calIsStep tk) cstIsStep
abbrev stepT : Ss := match ir_is_step with
  | .cons _ (.cons _ t) => t
  | t => t
theorem evB_nil0 {P : Sg} {ρ : Env'} {τ : TS} : evB P .nil ρ τ = some (.nx ρ τ) := by rw [evB]
theorem len_tup0 {P : Sg} {a : E} {ρ : Env'} {τ τ1 : TS} {xs : List D} (h : ev P a ρ τ = some (.tup xs, τ1)) : ev P (.blt .len (.cons a .nil)) ρ τ = some (.int xs.length, τ1) := by
  rw [ev, evs_cons h evs_nil]
  simp [bD, lenD]
theorem evt_cmp0 {P : Sg} {o : CmpOp} {a b : E} {ρ : Env'} {τ τ1 τ2 : TS} {x y : D} {c : Bool} (h : ev P a ρ τ = some (x, τ1)) (h2 : ev P b ρ τ1 = some (y, τ2)) (h3 : cmpD o x y = some (.bl c)) : evt P (.cmp o a b) ρ τ = some (c, τ2) := by
  rw [evt, h]
  simp only [Option.bind_some, h2, h3, truD, Option.map_some]
theorem ev_cmp0 {P : Sg} {o : CmpOp} {a b : E} {ρ : Env'} {τ τ1 τ2 : TS} {x y d : D} (h : ev P a ρ τ = some (x, τ1)) (h2 : ev P b ρ τ1 = some (y, τ2)) (h3 : cmpD o x y = some d) : ev P (.cmp o a b) ρ τ = some (d, τ2) := by
  rw [ev, h]
  simp only [Option.bind_some, h2, h3, Option.map_some]
theorem ev_and0 {P : Sg} {a b : E} {ρ : Env'} {τ τ1 : TS} {c : Bool} {r : Option (D × TS)} (h : ev P a ρ τ = some (.bl c, τ1)) (h2 : c = true → ev P b ρ τ1 = r) (h3 : c = false → r = some (.bl false, τ1)) : ev P (.and a b) ρ τ = r := by
  rw [ev, h]
  cases c with
  | true => simp only [Option.bind_some, truD, if_true]; exact h2 rfl
  | false => simp only [Option.bind_some, truD, Bool.false_eq_true, if_false]; exact (h3 rfl).symm
theorem ev_one0 {P : Sg} {a : E} {ρ : Env'} {τ : TS} {r : Option (D × TS)} (h : ev P a ρ τ = r) : ev P (.one a) ρ τ = r := by
  rw [ev, h]
theorem idx0 {P : Sg} {a : E} {ρ : Env'} {τ τ1 : TS} {xs : List D} {i : Nat} {d : D} (h : ev P a ρ τ = some (.tup xs, τ1)) (h3 : xs[i]? = some d) : ev P (.idx a (.int (i : Int))) ρ τ = some (d, τ1) := by
  rw [ev, h]
  simp only [Option.bind_some, ev, ixD, atI_nat h3, Option.map_some]
/-- a text among written texts -/
theorem in_cst {P : Sg} {k : Nat} {ws : List (List Nat)} {ρ : Env'} {τ : TS} {w : List Nat} (hc : P.cs[k]? = some (.tup (ws.map .str))) (hρ : ρ[1]? = some (.d (.str w))) : evt P (.cmp .In (.var 1) (.cst k)) ρ τ = some (decide (w ∈ ws), τ) := by
  refine evt_cmp0 (ev_var hρ) (y := .tup (ws.map .str)) (by rw [ev, hc]; rfl) ?_
  have : ∀ l : List (List Nat), ((l.map D.str).any fun y => eqv y (.str w)) = decide (w ∈ l) := by
    intro l
    induction l with
    | nil => rfl
    | cons x l ih =>
      rw [List.map_cons, List.any_cons, ih, eqv_str]
      by_cases h : x = w
      · subst h; simp
      · have h2 : ¬ w = x := fun z => h z.symm
        simp [h, h2]
  simp only [cmpD, inD, inB, dep_str, Nat.min_zero, Nat.zero_le, if_true, Option.map_some, this, Bool.false_eq_true, if_false]
/-- what stands behind the second statement -/
theorem step_go (tk : Bool) (ns : List Int) (w : List Nat) (rest : List D) (hr : rest.length ≤ 1000) (hb : ∀ x ∈ rest, bnd x = true) (v : D) (τ : TS) : evB (mkSg tk (calIsStep tk) cstIsStep ns) stepT [.d v, .d (.str w), .d (.tup rest)] τ = some (.rt (.bl (isStepD (.tup (.str w :: rest)))) τ) := by
  generalize hP : mkSg tk (calIsStep tk) cstIsStep ns = P
  have g0 : ∀ ds, P.G 0 ds = GIsSet tk ns ds := fun ds => by rw [← hP]; rfl
  have g1 : ∀ ds, P.G 1 ds = GIsStr tk ns ds := fun ds => by rw [← hP]; rfl
  have g2 : ∀ ds, P.G 2 ds = GIsNum tk ns ds := fun ds => by rw [← hP]; rfl
  have c0 : P.cs[0]? = some (.tup ([wTrim, wDrop, wSqueeze].map .str)) := by rw [← hP]; rfl
  have c1 : P.cs[1]? = some (.tup ([wFront, wFronts, wBack, wBacks].map .str)) := by rw [← hP]; rfl
  have c2 : P.cs[2]? = some (.tup ([wFirst, wLast].map .str)) := by rw [← hP]; rfl
  generalize hρ : ([.d v, .d (.str w), .d (.tup rest)] : Env') = ρ
  have r1 : ρ[1]? = some (.d (.str w)) := by rw [← hρ]; rfl
  have r2 : ρ[2]? = some (.d (.tup rest)) := by rw [← hρ]; rfl
  have i0 := in_cst (τ := τ) c0 r1
  have i1 := in_cst (τ := τ) c1 r1
  have i2 := in_cst (τ := τ) c2 r1
  have ln : ∀ k : Nat, ev P (.cmp .Eq (.blt .len (.cons (.var 2) .nil)) (.int (k : Int))) ρ τ = some (.bl (decide (rest.length = k)), τ) := fun k => by
    refine ev_cmp0 (len_tup0 (ev_var r2)) ev_int ?_
    simp only [cmpD, eqD, dep_int, Nat.min_self, Nat.zero_le, if_true, eqv_int]
    by_cases h : rest.length = k <;> simp [h]
    omega
  have e1 : ∀ s : List Nat, evt P (.cmp .Eq (.var 1) (.str s)) ρ τ = some (decide (w = s), τ) := fun s => by
    refine evt_cmp0 (ev_var r1) ev_str ?_
    have : (w == s) = decide (w = s) := by by_cases h : w = s <;> simp [h]
    simp [cmpD, eqD, this]
  have one : ∀ (f : D → Bool) (e : E), (∀ a, rest = [a] → ev P e ρ τ = some (.bl (f a), τ)) → ev P (.and (.cmp .Eq (.blt .len (.cons (.var 2) .nil)) (.int 1)) (.one e)) ρ τ = some (.bl (one1 f rest), τ) := fun f e h => by
    refine ev_and0 (ln 1) (fun hl => ?_) fun hl => ?_
    · have hl := of_decide_eq_true hl
      match rest, hl, h with
      | [a], _, h => exact ev_one0 (h a rfl)
    · have hl := of_decide_eq_false hl
      match rest, hl with
      | [], _ => rfl
      | [a], hl => exact absurd rfl hl
      | _ :: _ :: _, _ => rfl
  have two : ∀ (f : D → D → Bool) (e : E), (∀ a b, rest = [a, b] → ev P e ρ τ = some (.bl (f a b), τ)) → ev P (.and (.cmp .Eq (.blt .len (.cons (.var 2) .nil)) (.int 2)) e) ρ τ = some (.bl (two2 f rest), τ) := fun f e h => by
    refine ev_and0 (ln 2) (fun hl => ?_) fun hl => ?_
    · have hl := of_decide_eq_true hl
      match rest, hl, h with
      | [a, b], _, h => exact h a b rfl
    · have hl := of_decide_eq_false hl
      match rest, hl with
      | [], _ => rfl
      | [a], _ => rfl
      | [a, b], hl => exact absurd rfl hl
      | _ :: _ :: _ :: _, _ => rfl
  have a0 : ∀ a b, rest = a :: b → ev P (.idx (.var 2) (.int 0)) ρ τ = some (a, τ) := fun a b h => idx0 (i := 0) (ev_var r2) (by rw [h]; rfl)
  have a1 : ∀ a b c, rest = a :: b :: c → ev P (.idx (.var 2) (.int 1)) ρ τ = some (b, τ) := fun a b c h => idx0 (i := 1) (ev_var r2) (by rw [h]; rfl)
  have sstr : ∀ (e : E) (x : D) (lo hi : Nat), bnd x = true → ev P e ρ τ = some (x, τ) → ev P (.call 1 (.cons e (.cons (.int (lo : Int)) (.cons (.int (hi : Int)) .nil)))) ρ τ = some (.bl (isStr lo hi x), τ) := fun e x lo hi hx he =>
    ev_call0 (evs_cons he (evs_cons ev_int (evs_cons ev_int evs_nil))) (by rw [g1]; exact isstr_ok tk ns x (bnd_short hx) lo hi τ)
  have sset : ∀ (e : E) (x : D), bnd x = true → ev P e ρ τ = some (x, τ) → ev P (.call 0 (.cons e .nil)) ρ τ = some (.bl (isSetD x), τ) := fun e x hx he =>
    ev_call0 (evs_cons he evs_nil) (by rw [g0]; exact isset_ok tk ns x hx τ)
  have snum : ∀ (e : E) (x : D), ev P e ρ τ = some (x, τ) → ev P (.call 2 (.cons e .nil)) ρ τ = some (.bl (isNumD x), τ) := fun e x he =>
    ev_call0 (evs_cons he evs_nil) (by rw [g2]; exact isnum_ok tk ns x τ)
  have m0 : ∀ a b, rest = a :: b → bnd a = true := fun a b h => hb a (by rw [h]; exact List.mem_cons_self)
  have m1 : ∀ a b c, rest = a :: b :: c → bnd b = true := fun a b c h => hb b (by rw [h]; simp)
  unfold stepT ir_is_step
  simp only
  rw [isStepD]
  by_cases h0 : w = wTrim ∨ w = wDrop ∨ w = wSqueeze
  · rw [if_pos h0]
    refine evB_rt (evS_t (by rw [i0, decide_eq_true (by simpa using h0)]) (evB_rt (evS_ret (one isSetD _ fun a h => sset _ a (m0 a [] h) (a0 a [] h)))))
  rw [if_neg h0]
  refine (evB_nx (evS_f (by rw [i0, decide_eq_false (by simpa using h0)]) evB_nil0)).trans ?_
  by_cases h1 : w = wFront ∨ w = wFronts ∨ w = wBack ∨ w = wBacks
  · rw [if_pos h1]
    refine evB_rt (evS_t (by rw [i1, decide_eq_true (by simpa using h1)]) (evB_rt (evS_ret (one (isStr 1 2) _ fun a h => sstr _ a 1 2 (m0 a [] h) (a0 a [] h)))))
  rw [if_neg h1]
  refine (evB_nx (evS_f (by rw [i1, decide_eq_false (by simpa using h1)]) evB_nil0)).trans ?_
  by_cases h2 : w = wFirst ∨ w = wLast
  · rw [if_pos h2]
    refine evB_rt (evS_t (by rw [i2, decide_eq_true (by simpa using h2)]) (evB_rt (evS_ret (one isNumD _ fun a h => snum _ a (a0 a [] h)))))
  rw [if_neg h2]
  refine (evB_nx (evS_f (by rw [i2, decide_eq_false (by simpa using h2)]) evB_nil0)).trans ?_
  by_cases h3 : w = mapW
  · rw [if_pos h3]
    refine evB_rt (evS_t (by rw [e1, decide_eq_true h3]) (evB_rt (evS_ret (two (fun a b => isStr 1 1 a && (isStr 1 1 b && !eqv a b)) _ fun a b h => ?_))))
    refine ev_and0 (sstr _ a 1 1 (m0 a [b] h) (a0 a [b] h)) (fun q => ?_) fun q => by rw [q]; rfl
    refine ev_and0 (sstr _ b 1 1 (m1 a b [] h) (a1 a b [] h)) (fun q2 => ?_) fun q2 => by rw [q, q2]; rfl
    refine ev_one0 (ev_cmp0 (a0 a [b] h) (a1 a b [] h) ?_)
    rw [q, q2]
    cases a with
    | str x => cases b with
      | str y => simp [cmpD, neD]
      | _ => cases q2
    | _ => cases q
  rw [if_neg h3]
  refine (evB_nx (evS_f (by rw [e1, decide_eq_false h3]) evB_nil0)).trans ?_
  by_cases h4 : w = wJoin
  · rw [if_pos h4]
    refine evB_rt (evS_t (by rw [show ([106, 111, 105, 110] : List Nat) = wJoin from rfl, e1, decide_eq_true h4]) (evB_rt (evS_ret (two (fun a b => isSetD a && isStr 1 1 b) _ fun a b h => ?_))))
    refine ev_and0 (sset _ a (m0 a [b] h) (a0 a [b] h)) (fun q => ?_) fun q => by rw [q]; rfl
    rw [q]
    exact ev_one0 (sstr _ b 1 1 (m1 a b [] h) (a1 a b [] h))
  rw [if_neg h4]
  refine (evB_nx (evS_f (by rw [show ([106, 111, 105, 110] : List Nat) = wJoin from rfl, e1, decide_eq_false h4]) evB_nil0)).trans ?_
  refine evB_rt (evS_ret ?_)
  by_cases h5 : w = wSmall
  · rw [if_pos h5]
    refine ev_and0 (c := true) (ev_cmp0 (ev_var r1) ev_str (by rw [h5]; simp [cmpD, eqD, wSmall])) (fun _ => ?_) fun q => by cases q
    refine ev_one0 (ev_cmp0 (ev_var r2) (ev_tup evs_nil (by simp) rfl) ?_)
    cases rest with
    | nil => simp [cmpD, eqD]
    | cons a b => simp [cmpD, eqD]
  · rw [if_neg h5]
    exact ev_and0 (c := false) (ev_cmp0 (ev_var r1) ev_str (by
      have : ¬ w = [115, 109, 97, 108, 108] := h5
      simp [cmpD, eqD, this])) (fun q => by cases q) fun _ => rfl
theorem isstep_ok (tk : Bool) (ns : List Int) (d : D) (hd : bnd d = true) (hm : tk = true → ∀ w rest, d = .tup (w :: rest) → isMap rest = false) (τ : TS) : GIsStep tk ns [d] τ = some (.bl (isStepD d), τ) := by
  refine Grun_in rfl ?_
  show evB _ ir_is_step [.d d, .un, .un] τ = _
  have split : ir_is_step = .cons (.ife (.or (.not (.val (.isi (.var 0) .tuple))) (.or (.cmp .Eq (.blt .len (.cons (.var 0) .nil)) (.int 0)) (.one (.not (.val (.isi (.idx (.var 0) (.int 0)) .str)))))) (.cons (.ret (.bl false)) .nil) .nil) (.cons (.par [1, 2] (.cons (.idx (.var 0) (.int 0)) (.cons (.sl (.var 0) (.int 1) .nope) .nil))) stepT) := rfl
  rw [split]
  have no : evt (mkSg tk (calIsStep tk) cstIsStep ns) (.or (.not (.val (.isi (.var 0) .tuple))) (.or (.cmp .Eq (.blt .len (.cons (.var 0) .nil)) (.int 0)) (.one (.not (.val (.isi (.idx (.var 0) (.int 0)) .str)))))) [.d d, .un, .un] τ = some (true, τ) → isStepD d = false → evB (mkSg tk (calIsStep tk) cstIsStep ns) (.cons (.ife (.or (.not (.val (.isi (.var 0) .tuple))) (.or (.cmp .Eq (.blt .len (.cons (.var 0) .nil)) (.int 0)) (.one (.not (.val (.isi (.idx (.var 0) (.int 0)) .str)))))) (.cons (.ret (.bl false)) .nil) .nil) (.cons (.par [1, 2] (.cons (.idx (.var 0) (.int 0)) (.cons (.sl (.var 0) (.int 1) .nope) .nil))) stepT)) [.d d, .un, .un] τ = some (.rt (.bl (isStepD d)) τ) := fun h q => by
    rw [q]
    exact evB_rt (evS_t h (evB_rt (evS_ret (by rw [ev]))))
  cases d with
  | tup xs =>
    cases xs with
    | nil => exact no (by simp [evB, evS, ev, evs, evt, evp, evi, binD, cmpD, bD, mD, neD, eqD, truD, ixD, inD, inB, slD, lenD, intD, maxD, minD, addD, subD, negD, joinD, joinS, txsO, lowerD, upperD, startsD, endsD, stripD, with1, ordD, mulD, modD, fdivD, powD, intO, Out.then, bindT, setAll, itemsD, rangeD, runF, start', mkSg, mkSgG, opD, small62, wipeE, compL, forL, List.replicate, tyIs, tyIs]) rfl
    | cons x rest =>
      cases x with
      | str w =>
        obtain ⟨hl, hb⟩ := bnd_tup hd
        simp only [List.length_cons] at hl
        have hs := sl1 (show rest.length ≤ 4000 by omega)
        have hz : ¬ ((rest.length : Int) + 1 = 0) := by omega
        have hmm : tk = false ∨ isMap rest = false := by
          cases tk with
          | false => exact .inl rfl
          | true => exact .inr (hm rfl _ _ rfl)
        refine (evB_nx (ρ1 := [.d (.tup (.str w :: rest)), .un, .un]) (τ1 := τ) (evS_f (τ1 := τ) (by simp [evB, evS, ev, evs, evt, evp, evi, binD, cmpD, bD, mD, neD, eqD, truD, ixD, inD, inB, slD, lenD, intD, maxD, minD, addD, subD, negD, joinD, joinS, txsO, lowerD, upperD, startsD, endsD, stripD, with1, ordD, mulD, modD, fdivD, powD, intO, Out.then, bindT, setAll, itemsD, rangeD, runF, start', mkSg, mkSgG, opD, small62, wipeE, compL, forL, List.replicate, tyIs, tyIs, hz]) evB_nil0)).trans ?_
        refine (evB_nx (ρ1 := [.d (.tup (.str w :: rest)), .d (.str w), .d (.tup rest)]) (τ1 := τ) (by simp [evB, evS, ev, evs, evt, evp, evi, binD, cmpD, bD, mD, neD, eqD, truD, ixD, inD, inB, slD, lenD, intD, maxD, minD, addD, subD, negD, joinD, joinS, txsO, lowerD, upperD, startsD, endsD, stripD, with1, ordD, mulD, modD, fdivD, powD, intO, Out.then, bindT, setAll, itemsD, rangeD, runF, start', mkSg, mkSgG, opD, small62, wipeE, compL, forL, List.replicate, tyIs, okT, hs, hmm])).trans ?_
        exact step_go tk ns w rest (by omega) (fun x hx => hb x (List.mem_cons_of_mem _ hx)) _ τ
      | non => exact no (by simp [evB, evS, ev, evs, evt, evp, evi, binD, cmpD, bD, mD, neD, eqD, truD, ixD, inD, inB, slD, lenD, intD, maxD, minD, addD, subD, negD, joinD, joinS, txsO, lowerD, upperD, startsD, endsD, stripD, with1, ordD, mulD, modD, fdivD, powD, intO, Out.then, bindT, setAll, itemsD, rangeD, runF, start', mkSg, mkSgG, opD, small62, wipeE, compL, forL, List.replicate, tyIs, tyIs]) rfl
      | bl b => exact no (by simp [evB, evS, ev, evs, evt, evp, evi, binD, cmpD, bD, mD, neD, eqD, truD, ixD, inD, inB, slD, lenD, intD, maxD, minD, addD, subD, negD, joinD, joinS, txsO, lowerD, upperD, startsD, endsD, stripD, with1, ordD, mulD, modD, fdivD, powD, intO, Out.then, bindT, setAll, itemsD, rangeD, runF, start', mkSg, mkSgG, opD, small62, wipeE, compL, forL, List.replicate, tyIs, tyIs]) rfl
      | int i => exact no (by simp [evB, evS, ev, evs, evt, evp, evi, binD, cmpD, bD, mD, neD, eqD, truD, ixD, inD, inB, slD, lenD, intD, maxD, minD, addD, subD, negD, joinD, joinS, txsO, lowerD, upperD, startsD, endsD, stripD, with1, ordD, mulD, modD, fdivD, powD, intO, Out.then, bindT, setAll, itemsD, rangeD, runF, start', mkSg, mkSgG, opD, small62, wipeE, compL, forL, List.replicate, tyIs, tyIs]) rfl
      | tup ys => exact no (by simp [evB, evS, ev, evs, evt, evp, evi, binD, cmpD, bD, mD, neD, eqD, truD, ixD, inD, inB, slD, lenD, intD, maxD, minD, addD, subD, negD, joinD, joinS, txsO, lowerD, upperD, startsD, endsD, stripD, with1, ordD, mulD, modD, fdivD, powD, intO, Out.then, bindT, setAll, itemsD, rangeD, runF, start', mkSg, mkSgG, opD, small62, wipeE, compL, forL, List.replicate, tyIs, tyIs]) rfl
      | lst ys => exact no (by simp [evB, evS, ev, evs, evt, evp, evi, binD, cmpD, bD, mD, neD, eqD, truD, ixD, inD, inB, slD, lenD, intD, maxD, minD, addD, subD, negD, joinD, joinS, txsO, lowerD, upperD, startsD, endsD, stripD, with1, ordD, mulD, modD, fdivD, powD, intO, Out.then, bindT, setAll, itemsD, rangeD, runF, start', mkSg, mkSgG, opD, small62, wipeE, compL, forL, List.replicate, tyIs, tyIs]) rfl
  | non => exact no (by simp [evB, evS, ev, evs, evt, evp, evi, binD, cmpD, bD, mD, neD, eqD, truD, ixD, inD, inB, slD, lenD, intD, maxD, minD, addD, subD, negD, joinD, joinS, txsO, lowerD, upperD, startsD, endsD, stripD, with1, ordD, mulD, modD, fdivD, powD, intO, Out.then, bindT, setAll, itemsD, rangeD, runF, start', mkSg, mkSgG, opD, small62, wipeE, compL, forL, List.replicate, tyIs, tyIs]) rfl
  | bl b => exact no (by simp [evB, evS, ev, evs, evt, evp, evi, binD, cmpD, bD, mD, neD, eqD, truD, ixD, inD, inB, slD, lenD, intD, maxD, minD, addD, subD, negD, joinD, joinS, txsO, lowerD, upperD, startsD, endsD, stripD, with1, ordD, mulD, modD, fdivD, powD, intO, Out.then, bindT, setAll, itemsD, rangeD, runF, start', mkSg, mkSgG, opD, small62, wipeE, compL, forL, List.replicate, tyIs, tyIs]) rfl
  | int i => exact no (by simp [evB, evS, ev, evs, evt, evp, evi, binD, cmpD, bD, mD, neD, eqD, truD, ixD, inD, inB, slD, lenD, intD, maxD, minD, addD, subD, negD, joinD, joinS, txsO, lowerD, upperD, startsD, endsD, stripD, with1, ordD, mulD, modD, fdivD, powD, intO, Out.then, bindT, setAll, itemsD, rangeD, runF, start', mkSg, mkSgG, opD, small62, wipeE, compL, forL, List.replicate, tyIs, tyIs]) rfl
  | str s => exact no (by simp [evB, evS, ev, evs, evt, evp, evi, binD, cmpD, bD, mD, neD, eqD, truD, ixD, inD, inB, slD, lenD, intD, maxD, minD, addD, subD, negD, joinD, joinS, txsO, lowerD, upperD, startsD, endsD, stripD, with1, ordD, mulD, modD, fdivD, powD, intO, Out.then, bindT, setAll, itemsD, rangeD, runF, start', mkSg, mkSgG, opD, small62, wipeE, compL, forL, List.replicate, tyIs, tyIs]) rfl
  | lst xs => exact no (by simp [evB, evS, ev, evs, evt, evp, evi, binD, cmpD, bD, mD, neD, eqD, truD, ixD, inD, inB, slD, lenD, intD, maxD, minD, addD, subD, negD, joinD, joinS, txsO, lowerD, upperD, startsD, endsD, stripD, with1, ordD, mulD, modD, fdivD, powD, intO, Out.then, bindT, setAll, itemsD, rangeD, runF, start', mkSg, mkSgG, opD, small62, wipeE, compL, forL, List.replicate, tyIs, tyIs]) rfl
/-! ### is_row -/
noncomputable def GIsRow (tk : Bool) : GF := Grun tk 2 false 1 ir_is_row [⟨"is_step", false, 1, GIsStep tk⟩] [cMost]
theorem isrow_ok (tk : Bool) (ns : List Int) (d : D) (hd : bnd d = true) (hm : tk = true → ∀ xs, d = .tup xs → ∀ x ∈ xs, ∀ w rest, x = .tup (w :: rest) → isMap rest = false) (τ : TS) : GIsRow tk ns [d] τ = some (.bl (isRowD d), τ) := by
  refine Grun_in rfl ?_
  show evB _ ir_is_row [.d d, .un] τ = _
  unfold ir_is_row
  refine evB_rt (evS_ret ?_)
  cases d with
  | tup xs =>
    obtain ⟨hl, hb⟩ := bnd_tup hd
    refine ev_and0 (c := true) (by rw [ev, ev_var rfl]; rfl) (fun _ => ?_) fun q => by cases q
    refine ev_and0 (c := decide (xs.length ≤ 3)) (ev_cmp0 (len_tup0 (ev_var rfl)) (y := .int 3) rfl (by simp [cmpD, leD, ordD]; omega)) (fun h => ?_) fun h => ?_
    · have hc : compL (cbody (mkSg tk [⟨"is_step", false, 1, GIsStep tk⟩] [cMost] ns) (.call 0 (.cons (.var 1) .nil)) (.nm 1) .yes [1] [.d (.tup xs), .un]) xs τ = some (xs.map fun x => D.bl (isStepD x), τ) := by
        have := compL_map (f := cbody (mkSg tk [⟨"is_step", false, 1, GIsStep tk⟩] [cMost] ns) (.call 0 (.cons (.var 1) .nil)) (.nm 1) .yes [1] [.d (.tup xs), .un]) (g := id) (h := fun x => D.bl (isStepD x)) (τ := τ) (l := xs) fun x hx => by
          unfold cbody
          simp only [wipeE, bindT, Option.bind_some, evt, if_true, List.set, id]
          rw [ev_call0 (evs_cons (ev_var rfl) evs_nil) (show (mkSg tk [⟨"is_step", false, 1, GIsStep tk⟩] [cMost] ns).G 0 [x] τ = _ from isstep_ok tk ns x (hb x hx) (fun ht w rest he => hm ht xs rfl x hx w rest he) τ)]
          rfl
        rw [List.map_id] at this
        exact this
      refine ev_one0 ?_
      rw [ev, evs_cons (ev_comp (evi_data (ev_var rfl) rfl) hc (sl1 (by rw [List.length_map]; omega))) evs_nil]
      simp only [Option.bind_some, bD, allD]
      have e := bools_map (xs.map isStepD)
      rw [List.map_map] at e
      have e3 : (xs.map fun x => D.bl (isStepD x)) = xs.map (D.bl ∘ isStepD) := rfl
      rw [e3, e]
      simp only [Option.map_some, isRowD, h, Bool.true_and, List.all_map]
      rfl
    · rw [isRowD, h]; rfl
  | non => simp [evB, evS, ev, evs, evt, evp, evi, binD, cmpD, bD, mD, neD, eqD, truD, ixD, inD, inB, slD, lenD, intD, maxD, minD, addD, subD, negD, joinD, joinS, txsO, lowerD, upperD, startsD, endsD, stripD, with1, ordD, mulD, modD, fdivD, powD, intO, Out.then, bindT, setAll, itemsD, rangeD, runF, start', mkSg, mkSgG, opD, small62, wipeE, compL, forL, List.replicate, tyIs, tyIs, isRowD]
  | bl b => simp [evB, evS, ev, evs, evt, evp, evi, binD, cmpD, bD, mD, neD, eqD, truD, ixD, inD, inB, slD, lenD, intD, maxD, minD, addD, subD, negD, joinD, joinS, txsO, lowerD, upperD, startsD, endsD, stripD, with1, ordD, mulD, modD, fdivD, powD, intO, Out.then, bindT, setAll, itemsD, rangeD, runF, start', mkSg, mkSgG, opD, small62, wipeE, compL, forL, List.replicate, tyIs, tyIs, isRowD]
  | int i => simp [evB, evS, ev, evs, evt, evp, evi, binD, cmpD, bD, mD, neD, eqD, truD, ixD, inD, inB, slD, lenD, intD, maxD, minD, addD, subD, negD, joinD, joinS, txsO, lowerD, upperD, startsD, endsD, stripD, with1, ordD, mulD, modD, fdivD, powD, intO, Out.then, bindT, setAll, itemsD, rangeD, runF, start', mkSg, mkSgG, opD, small62, wipeE, compL, forL, List.replicate, tyIs, tyIs, isRowD]
  | str s => simp [evB, evS, ev, evs, evt, evp, evi, binD, cmpD, bD, mD, neD, eqD, truD, ixD, inD, inB, slD, lenD, intD, maxD, minD, addD, subD, negD, joinD, joinS, txsO, lowerD, upperD, startsD, endsD, stripD, with1, ordD, mulD, modD, fdivD, powD, intO, Out.then, bindT, setAll, itemsD, rangeD, runF, start', mkSg, mkSgG, opD, small62, wipeE, compL, forL, List.replicate, tyIs, tyIs, isRowD]
  | lst xs => simp [evB, evS, ev, evs, evt, evp, evi, binD, cmpD, bD, mD, neD, eqD, truD, ixD, inD, inB, slD, lenD, intD, maxD, minD, addD, subD, negD, joinD, joinS, txsO, lowerD, upperD, startsD, endsD, stripD, with1, ordD, mulD, modD, fdivD, powD, intO, Out.then, bindT, setAll, itemsD, rangeD, runF, start', mkSg, mkSgG, opD, small62, wipeE, compL, forL, List.replicate, tyIs, tyIs, isRowD]
end PD

set_option Elab.async false
set_option linter.all false
set_option maxRecDepth 100000
set_option maxHeartbeats 8000000
/-! Arbitrary values that the laws draw: _law_any, _law_spoilt. -/
namespace PD
open PySem L2
def ir_law_any : Ss := (.cons (.set 2 (.callT 0 0 (.cons (.int 13) .nil))) (.cons (.ife (.and (.cmp .Lt (.var 2) (.int 4)) (.one (.cmp .Gt (.var 1) (.int 0)))) (.cons (.set 3 (.comp (.callT 1 0 (.cons (.bin .Sub (.var 1) (.int 1)) .nil)) (.nm 4) (.rng1 (.callT 0 0 (.cons (.int 4) .nil))) .yes [4])) (.cons (.ret (.idx (.lst (.cons (.var 3) (.cons (.blt .tuple (.cons (.var 3) .nil)) (.cons (.blt .tuple (.cons (.var 3) .nil)) (.cons (.blt .tuple (.cons (.var 3) .nil)) .nil))))) (.var 2))) .nil)) .nil) (.cons (.ife (.cmp .Lt (.var 2) (.int 8)) (.cons (.ret (.idx (.lst (.cons (.bin .Sub (.callT 0 0 (.cons (.int 12) .nil)) (.int 2)) (.cons (.callT 0 0 (.cons (.bin .Pow (.int 10) (.int 12)) .nil)) (.cons (.int 0) (.cons (.int 3) .nil))))) (.blt .max (.cons (.int 0) (.cons (.bin .Sub (.var 2) (.int 4)) .nil))))) .nil) .nil) (.cons (.set 3 (.lst (.cons (.str []) (.cons (.str [32]) (.cons (.str [97]) (.cons (.str [116, 114, 105, 109]) (.cons (.str [97, 98]) (.cons (.str [115, 109, 97, 108, 108]) (.cons (.str [102, 105, 114, 115, 116, 32, 50]) .nil))))))))) (.cons (.ret (.idx (.lst (.cons (.bl true) (.cons (.bl false) (.cons .non (.cons (.idx (.var 3) (.callT 0 0 (.cons (.int 7) .nil))) (.cons (.tup (.cons (.int 1) (.cons (.int 2) .nil))) .nil)))))) (.bin .Sub (.var 2) (.int 8)))) .nil)))))
abbrev spS1 : S := (.ife (.and (.val (.isiT (.var 1) [.tuple, .list])) (.and (.cmp .Gt (.blt .len (.cons (.var 1) .nil)) (.int 0)) (.one (.cmp .Gt (.callT 0 0 (.cons (.int 7) .nil)) (.int 0))))) (.cons (.set 2 (.callT 0 0 (.cons (.blt .len (.cons (.var 1) .nil)) .nil))) (.cons (.setO 3 (.blt .list (.cons (.var 1) .nil))) (.cons (.set 4 (.callT 0 0 (.cons (.int 12) .nil))) (.cons (.ife (.cmp .Lt (.var 4) (.int 8)) (.cons (.lset 3 (.var 2) (.callT 1 0 (.cons (.oix 3 (.var 2)) .nil))) .nil) (.cons (.ife (.cmp .Eq (.var 4) (.int 8)) (.cons (.lpop 3 (.var 2)) .nil) (.cons (.ife (.cmp .Eq (.var 4) (.int 9)) (.cons (.lins 3 (.var 2) (.oix 3 (.callT 0 0 (.cons (.olen 3) .nil)))) .nil) (.cons (.ife (.cmp .Eq (.var 4) (.int 10)) (.frz 3 (.cons (.setO 3 (.rev (.var 3))) .nil)) (.cons (.lins 3 (.var 2) (.callT 2 0 (.cons (.int 1) .nil))) .nil)) .nil)) .nil)) .nil)) (.frz 3 (.cons (.ret (.ife (.val (.isi (.var 1) .tuple)) (.blt .tuple (.cons (.var 3) .nil)) (.var 3))) .nil)))))) .nil)
abbrev spS2 : S := (.ife (.and (.val (.call 3 (.cons (.var 1) .nil))) (.one (.cmp .Gt (.callT 0 0 (.cons (.int 6) .nil)) (.int 0)))) (.cons (.ret (.bin .Add (.var 1) (.idx (.lst (.cons (.int 1) (.cons (.neg (.int 1)) (.cons (.int 2) (.cons (.neg (.int 2)) (.cons (.int 9) (.cons (.int 1000) .nil))))))) (.callT 0 0 (.cons (.int 6) .nil))))) .nil) .nil)
abbrev spS3 : S := (.ife (.and (.val (.isi (.var 1) .str)) (.one (.cmp .Gt (.callT 0 0 (.cons (.int 3) .nil)) (.int 0)))) (.cons (.set 5 (.callT 0 0 (.cons (.bin .Add (.blt .len (.cons (.var 1) .nil)) (.int 1)) .nil))) (.cons (.ret (.bin .Add (.bin .Add (.sl (.var 1) .nope (.var 5)) (.idx (.lst (.cons (.str [32]) (.cons (.str [122]) (.cons (.str [65]) (.cons (.str [124]) (.cons (.str [97, 98, 99, 100, 101, 102, 103, 104]) (.cons (.str []) .nil))))))) (.callT 0 0 (.cons (.int 6) .nil)))) (.sl (.var 1) (.var 5) .nope))) .nil)) .nil)
abbrev spS4 : S := (.ife (.and (.val (.isiT (.var 1) [.tuple, .list])) (.one (.cmp .Eq (.callT 0 0 (.cons (.int 2) .nil)) (.int 0)))) (.cons (.ret (.ife (.val (.isi (.var 1) .tuple)) (.blt .list (.cons (.var 1) .nil)) (.blt .tuple (.cons (.var 1) .nil)))) .nil) .nil)
abbrev spS5 : S := (.ret (.callT 2 0 (.cons (.int 2) .nil)))
def ir_law_spoilt : Ss := .cons spS1 (.cons spS2 (.cons spS3 (.cons spS4 (.cons spS5 .nil))))
def ir_law_whole : Ss := (.cons (.ret (.and (.isi (.var 0) .int) (.one (.not (.isi (.var 0) .bool))))) .nil)
mutual
/-- texts and lists of at most N, at every depth -/
def bd (N : Nat) : D → Bool
  | .str s => decide (s.length ≤ N)
  | .tup xs => decide (xs.length ≤ N) && bds N xs
  | .lst xs => decide (xs.length ≤ N) && bds N xs
  | _ => true
def bds (N : Nat) : List D → Bool
  | [] => true
  | x :: xs => bd N x && bds N xs
end
theorem bds_iff {N : Nat} : ∀ {xs : List D}, bds N xs = true ↔ ∀ x ∈ xs, bd N x = true
  | [] => by simp [bds]
  | x :: xs => by rw [bds, Bool.and_eq_true, bds_iff]; simp
theorem bd_str {N : Nat} {s : List Nat} : bd N (.str s) = true ↔ s.length ≤ N := by simp [bd]
theorem bd_tup {N : Nat} {xs : List D} : bd N (.tup xs) = true ↔ xs.length ≤ N ∧ ∀ x ∈ xs, bd N x = true := by
  simp only [bd, Bool.and_eq_true, decide_eq_true_eq, bds_iff]
theorem bd_lst {N : Nat} {xs : List D} : bd N (.lst xs) = true ↔ xs.length ≤ N ∧ ∀ x ∈ xs, bd N x = true := by
  simp only [bd, Bool.and_eq_true, decide_eq_true_eq, bds_iff]
mutual
theorem bd_mono {N M : Nat} (h : N ≤ M) : ∀ (d : D), bd N d = true → bd M d = true
  | .non, _ => rfl
  | .bl _, _ => rfl
  | .int _, _ => rfl
  | .str s, q => by rw [bd_str] at q ⊢; omega
  | .tup xs, q => by
    simp only [bd, Bool.and_eq_true, decide_eq_true_eq] at q ⊢
    exact ⟨by omega, bds_mono h xs q.2⟩
  | .lst xs, q => by
    simp only [bd, Bool.and_eq_true, decide_eq_true_eq] at q ⊢
    exact ⟨by omega, bds_mono h xs q.2⟩
theorem bds_mono {N M : Nat} (h : N ≤ M) : ∀ (xs : List D), bds N xs = true → bds M xs = true
  | [], _ => rfl
  | x :: xs, q => by
    simp only [bds, Bool.and_eq_true] at q ⊢
    exact ⟨bd_mono h x q.1, bds_mono h xs q.2⟩
end
mutual
theorem bd_bnd : ∀ (d : D), bd 1000 d = true → bnd d = true
  | .non, _ => rfl
  | .bl _, _ => rfl
  | .int _, _ => rfl
  | .str s, q => q
  | .tup xs, q => by
    simp only [bd, bnd, Bool.and_eq_true, decide_eq_true_eq] at q ⊢
    exact ⟨q.1, bds_bnds xs q.2⟩
  | .lst xs, q => by
    simp only [bd, bnd, Bool.and_eq_true, decide_eq_true_eq] at q ⊢
    exact ⟨q.1, bds_bnds xs q.2⟩
theorem bds_bnds : ∀ (xs : List D), bds 1000 xs = true → bnds xs = true
  | [], _ => rfl
  | x :: xs, q => by
    simp only [bds, bnds, Bool.and_eq_true] at q ⊢
    exact ⟨bd_bnd x q.1, bds_bnds xs q.2⟩
end
/-! ### _law_any -/
noncomputable def GAny (tk : Bool) : Nat → GF
  | 0 => fun _ _ _ => none
  | n + 1 => Grun tk 5 true 1 ir_law_any [cDraw tk, ⟨"_law_any", true, 1, GAny tk n⟩] []
/-- a comprehension that draws -/
theorem compL_draw {f : D → TS → Option (Option D × TS)} {Ok : D → Prop} (h : ∀ x τ, ∃ y τ', f x τ = some (some y, τ') ∧ Ok y) : ∀ (xs : List D) (τ : TS), ∃ ys τ', compL f xs τ = some (ys, τ') ∧ ys.length = xs.length ∧ ∀ y ∈ ys, Ok y
  | [], τ => ⟨[], τ, rfl, rfl, by simp⟩
  | x :: xs, τ => by
    obtain ⟨y, τ1, e1, h1⟩ := h x τ
    obtain ⟨ys, τ2, e2, h2, h3⟩ := compL_draw h xs τ1
    refine ⟨y :: ys, τ2, ?_, by simp [h2], fun z hz => ?_⟩
    · rw [compL, e1]
      simp only [Option.bind_some, e2]
    · rcases List.mem_cons.mp hz with q | q
      · rw [q]; exact h1
      · exact h3 z q
theorem draw_big (tk : Bool) (ns : List Int) (τ : TS) : ∃ (r : Int) (τ' : TS), GDraw tk ns [.int 1000000000000] τ = some (.int r, τ') := by
  obtain ⟨r, τ', e, _⟩ := draw_ok tk ns 1000000000000 (by omega) (by
    have : (1000000000000 : Int).natAbs.log2 < 100 := (Nat.log2_lt (by decide)).mpr (by decide)
    omega) τ
  exact ⟨r, τ', e⟩
theorem any_ok8 (ns : List Int) : ∀ (n deep : Nat), deep < n → deep ≤ 100 → ∀ τ, ∃ d τ', GAny false n ns [.int (deep : Int)] τ = some (d, τ') ∧ bd 8 d = true ∧ dep d ≤ deep + 1 := by
  intro n
  induction n with
  | zero => intro deep h; omega
  | succ n ih =>
    intro deep hdn hdeep τ
    obtain ⟨r, τ1, e1, h1⟩ := draw_int false ns 13 13 rfl (by omega) (by omega) τ
    have hrun : ∀ d τ', evB (mkSg false [cDraw false, ⟨"_law_any", true, 1, GAny false n⟩] [] ns) (match ir_law_any with | .cons _ t => t | t => t) [.tape, .d (.int (deep : Int)), .d (.int (r : Int)), .un, .un] τ1 = some (.rt d τ') → GAny false (n + 1) ns [.int (deep : Int)] τ = some (d, τ') := fun d τ' h => by
      refine Grun_in rfl ?_
      show evB _ ir_law_any [.tape, .d (.int (deep : Int)), .un, .un, .un] τ = _
      unfold ir_law_any
      exact (evB_nx (evS_set (ev_callT rfl (evs_cons ev_int evs_nil) (show GDraw false ns [.int 13] τ = _ from e1)))).trans h
    unfold ir_law_any at hrun
    simp only at hrun
    have z10 : ∀ k : Nat, k ≤ 8 → k ≤ sizeLine := fun k h => sl1 (by omega)
    by_cases hA : r < 4 ∧ 0 < deep
    · obtain ⟨h4, h0⟩ := hA
      obtain ⟨m, τ2, e2, h2⟩ := draw_int false ns 4 4 rfl (by omega) (by omega) τ1
      have hcb : ∀ x τ, ∃ y τ', cbody (mkSg false [cDraw false, ⟨"_law_any", true, 1, GAny false n⟩] [] ns) (.callT 1 0 (.cons (.bin .Sub (.var 1) (.int 1)) .nil)) (.nm 4) .yes [4] [.tape, .d (.int (deep : Int)), .d (.int (r : Int)), .un, .un] x τ = some (some y, τ') ∧ (bd 8 y = true ∧ dep y ≤ deep) := by
        intro x τ
        obtain ⟨d, τ', e, q1, q2⟩ := ih (deep - 1) (by omega) (by omega) τ
        refine ⟨d, τ', ?_, q1, by omega⟩
        unfold cbody
        simp only [wipeE, bindT, Option.bind_some, evt, if_true, List.set]
        have ed : ((deep : Int) - 1) = ((deep - 1 : Nat) : Int) := by omega
        rw [ev_callT rfl (evs_cons (d := .int ((deep - 1 : Nat) : Int)) (by
          rw [ev, ev_var rfl]
          simp only [Option.bind_some, ev_int, binD, subD, Option.map_some, ed]) evs_nil) (show GAny false n ns [.int ((deep - 1 : Nat) : Int)] τ = _ from e)]
        rfl
      obtain ⟨ys, τ3, e3, l3, q3⟩ := compL_draw hcb (rangeD 0 m 1) τ2
      have hl : ys.length ≤ 8 := by rw [l3]; simp [rangeD]; omega
      have hc := ev_comp (evi_rng1 (P := mkSg false [cDraw false, ⟨"_law_any", true, 1, GAny false n⟩] [] ns) (a := .callT 0 0 (.cons (.int 4) .nil)) (ρ := [.tape, .d (.int (deep : Int)), .d (.int (r : Int)), .un, .un]) (k := m) (τ := τ1) (τ1 := τ2) (ev_callT rfl (evs_cons ev_int evs_nil) e2) (by omega)) e3 (z10 _ hl)
      have hb : bd 8 (.lst ys) = true := bd_lst.mpr ⟨hl, fun y hy => (q3 y hy).1⟩
      have hb2 : bd 8 (.tup ys) = true := bd_tup.mpr ⟨hl, fun y hy => (q3 y hy).1⟩
      have hdp : deps ys ≤ deep := by
        have : ∀ l : List D, (∀ y ∈ l, dep y ≤ deep) → deps l ≤ deep := fun l => by
          induction l with
          | nil => simp
          | cons x l ih => intro h; rw [deps_cons]; have h1 := h x List.mem_cons_self; have h2 := ih fun y hy => h y (List.mem_cons_of_mem _ hy); omega
        exact this ys fun y hy => (q3 y hy).2
      have hok : okT false ys = true := by simp [okT, z10 _ hl]
      have hz4 : (4 : Nat) ≤ sizeLine := z10 4 (by omega)
      have fin : ∀ d, atI [D.lst ys, .tup ys, .tup ys, .tup ys] (r : Int) = some d → bd 8 d = true → dep d ≤ deep + 1 → ∃ d τ', GAny false (n + 1) ns [.int (deep : Int)] τ = some (d, τ') ∧ bd 8 d = true ∧ dep d ≤ deep + 1 := fun d hd q1 q2 => by
        refine ⟨d, τ3, hrun d τ3 (evB_rt (evS_t (τ1 := τ1) ?_ ?_)), q1, q2⟩
        · have a1 : (r : Int) < 4 := by omega
          have a2 : (0 : Int) < (deep : Int) := by omega
          simp [evB, evS, ev, evs, evt, evp, evi, binD, cmpD, bD, mD, neD, eqD, truD, ixD, inD, inB, slD, lenD, intD, maxD, minD, addD, subD, negD, joinD, joinS, txsO, lowerD, upperD, startsD, endsD, stripD, with1, ordD, mulD, modD, fdivD, powD, intO, Out.then, bindT, setAll, itemsD, rangeD, runF, start', mkSg, mkSgG, opD, small62, wipeE, compL, forL, List.replicate, tyIs, a1, h0]
        · refine (evB_nx (evS_set hc)).trans (evB_rt (evS_ret ?_))
          simp only [List.set]
          simp [evB, evS, ev, evs, evt, evp, evi, binD, cmpD, bD, mD, neD, eqD, truD, ixD, inD, inB, slD, lenD, intD, maxD, minD, addD, subD, negD, joinD, joinS, txsO, lowerD, upperD, startsD, endsD, stripD, with1, ordD, mulD, modD, fdivD, powD, intO, Out.then, bindT, setAll, itemsD, rangeD, runF, start', mkSg, mkSgG, opD, small62, wipeE, compL, forL, List.replicate, tyIs, tupleD, hok, hz4, hd]
      have h4' : r = 0 ∨ r = 1 ∨ r = 2 ∨ r = 3 := by omega
      rcases h4' with rfl | rfl | rfl | rfl
      · exact fin (.lst ys) rfl hb (by rw [dep_lst]; omega)
      · exact fin (.tup ys) rfl hb2 (by rw [dep_tup]; omega)
      · exact fin (.tup ys) rfl hb2 (by rw [dep_tup]; omega)
      · exact fin (.tup ys) rfl hb2 (by rw [dep_tup]; omega)
    · have hskip : evt (mkSg false [cDraw false, ⟨"_law_any", true, 1, GAny false n⟩] [] ns) (.and (.cmp .Lt (.var 2) (.int 4)) (.one (.cmp .Gt (.var 1) (.int 0)))) [.tape, .d (.int (deep : Int)), .d (.int (r : Int)), .un, .un] τ1 = some (false, τ1) := by
        by_cases h4 : (r : Int) < 4
        · have h0 : ¬ (0 : Int) < (deep : Int) := by omega
          simp [evB, evS, ev, evs, evt, evp, evi, binD, cmpD, bD, mD, neD, eqD, truD, ixD, inD, inB, slD, lenD, intD, maxD, minD, addD, subD, negD, joinD, joinS, txsO, lowerD, upperD, startsD, endsD, stripD, with1, ordD, mulD, modD, fdivD, powD, intO, Out.then, bindT, setAll, itemsD, rangeD, runF, start', mkSg, mkSgG, opD, small62, wipeE, compL, forL, List.replicate, tyIs, ltD, gtD, h4]
          omega
        · simp [evB, evS, ev, evs, evt, evp, evi, binD, cmpD, bD, mD, neD, eqD, truD, ixD, inD, inB, slD, lenD, intD, maxD, minD, addD, subD, negD, joinD, joinS, txsO, lowerD, upperD, startsD, endsD, stripD, with1, ordD, mulD, modD, fdivD, powD, intO, Out.then, bindT, setAll, itemsD, rangeD, runF, start', mkSg, mkSgG, opD, small62, wipeE, compL, forL, List.replicate, tyIs, ltD, gtD, h4]
      by_cases h8 : r < 8
      · obtain ⟨a, τ2, e2, h2⟩ := draw_int false ns 12 12 rfl (by omega) (by omega) τ1
        obtain ⟨b, τ3, e3⟩ := draw_big false ns τ2
        have hpow : (10 : Int) ^ (12 : Nat) = 1000000000000 := by decide
        have fin : ∀ d, atI [D.int ((a : Int) - 2), .int b, .int 0, .int 3] (if (r : Int) - 4 > 0 then (r : Int) - 4 else 0) = some d → bd 8 d = true → dep d ≤ deep + 1 → ∃ d τ', GAny false (n + 1) ns [.int (deep : Int)] τ = some (d, τ') ∧ bd 8 d = true ∧ dep d ≤ deep + 1 := fun d hd q1 q2 => by
          have a1 : (r : Int) < 8 := by omega
          refine ⟨d, τ3, hrun d τ3 ((evB_nx (evS_f hskip evB_nil0)).trans (evB_rt (evS_t (τ1 := τ1) (by simp [evB, evS, ev, evs, evt, evp, evi, binD, cmpD, bD, mD, neD, eqD, truD, ixD, inD, inB, slD, lenD, intD, maxD, minD, addD, subD, negD, joinD, joinS, txsO, lowerD, upperD, startsD, endsD, stripD, with1, ordD, mulD, modD, fdivD, powD, intO, Out.then, bindT, setAll, itemsD, rangeD, runF, start', mkSg, mkSgG, opD, small62, wipeE, compL, forL, List.replicate, tyIs, ltD, a1]) (evB_rt (evS_ret ?_))))), q1, q2⟩
          simp [evB, evS, ev, evs, evt, evp, evi, binD, cmpD, bD, mD, neD, eqD, truD, ixD, inD, inB, slD, lenD, intD, maxD, minD, addD, subD, negD, joinD, joinS, txsO, lowerD, upperD, startsD, endsD, stripD, with1, ordD, mulD, modD, fdivD, powD, intO, Out.then, bindT, setAll, itemsD, rangeD, runF, start', mkSg, mkSgG, opD, small62, wipeE, compL, forL, List.replicate, tyIs, e2, e3, z10] at hd ⊢
          simp [hd]
        have h8' : r = 0 ∨ r = 1 ∨ r = 2 ∨ r = 3 ∨ r = 4 ∨ r = 5 ∨ r = 6 ∨ r = 7 := by omega
        rcases h8' with rfl | rfl | rfl | rfl | rfl | rfl | rfl | rfl <;> exact fin _ rfl rfl (by rw [dep_int]; omega)
      · obtain ⟨a, τ2, e2, h2⟩ := draw_int false ns 7 7 rfl (by omega) (by omega) τ1
        obtain ⟨w, hw, hm⟩ := atI_in (l := ([[], [32], [97], [116, 114, 105, 109], [97, 98], [115, 109, 97, 108, 108], [102, 105, 114, 115, 116, 32, 50]] : List (List Nat)).map D.str) (r := a) (by simpa using h2)
        have hwb : ∃ s, w = .str s ∧ s.length ≤ 8 := by
          simp only [List.mem_map, List.mem_cons, List.not_mem_nil, or_false] at hm
          obtain ⟨s, hs, rfl⟩ := hm
          refine ⟨s, rfl, ?_⟩
          rcases hs with rfl | rfl | rfl | rfl | rfl | rfl | rfl <;> decide
        obtain ⟨s, rfl, hs⟩ := hwb
        simp only [List.map_cons, List.map_nil] at hw
        have fin : ∀ d, atI [D.bl true, .bl false, .non, .str s, .tup [.int 1, .int 2]] ((r : Int) - 8) = some d → bd 8 d = true → dep d ≤ deep + 1 → ∃ d τ', GAny false (n + 1) ns [.int (deep : Int)] τ = some (d, τ') ∧ bd 8 d = true ∧ dep d ≤ deep + 1 := fun d hd q1 q2 => by
          have a1 : ¬ (r : Int) < 8 := by omega
          refine ⟨d, τ2, hrun d τ2 ((evB_nx (evS_f hskip evB_nil0)).trans ((evB_nx (evS_f (τ1 := τ1) (by simp [evB, evS, ev, evs, evt, evp, evi, binD, cmpD, bD, mD, neD, eqD, truD, ixD, inD, inB, slD, lenD, intD, maxD, minD, addD, subD, negD, joinD, joinS, txsO, lowerD, upperD, startsD, endsD, stripD, with1, ordD, mulD, modD, fdivD, powD, intO, Out.then, bindT, setAll, itemsD, rangeD, runF, start', mkSg, mkSgG, opD, small62, wipeE, compL, forL, List.replicate, tyIs, ltD, a1]) evB_nil0)).trans ?_)), q1, q2⟩
          refine (evB_nx (ρ1 := [.tape, .d (.int (deep : Int)), .d (.int (r : Int)), .d (.lst [.str [], .str [32], .str [97], .str [116, 114, 105, 109], .str [97, 98], .str [115, 109, 97, 108, 108], .str [102, 105, 114, 115, 116, 32, 50]]), .un]) (τ1 := τ1) (by simp [evB, evS, ev, evs, evt, evp, evi, binD, cmpD, bD, mD, neD, eqD, truD, ixD, inD, inB, slD, lenD, intD, maxD, minD, addD, subD, negD, joinD, joinS, txsO, lowerD, upperD, startsD, endsD, stripD, with1, ordD, mulD, modD, fdivD, powD, intO, Out.then, bindT, setAll, itemsD, rangeD, runF, start', mkSg, mkSgG, opD, small62, wipeE, compL, forL, List.replicate, tyIs, z10])).trans (evB_rt (evS_ret ?_))
          simp [evB, evS, ev, evs, evt, evp, evi, binD, cmpD, bD, mD, neD, eqD, truD, ixD, inD, inB, slD, lenD, intD, maxD, minD, addD, subD, negD, joinD, joinS, txsO, lowerD, upperD, startsD, endsD, stripD, with1, ordD, mulD, modD, fdivD, powD, intO, Out.then, bindT, setAll, itemsD, rangeD, runF, start', mkSg, mkSgG, opD, small62, wipeE, compL, forL, List.replicate, tyIs, e2, z10, hw, okT, hd]
        have h13 : r = 8 ∨ r = 9 ∨ r = 10 ∨ r = 11 ∨ r = 12 := by omega
        rcases h13 with rfl | rfl | rfl | rfl | rfl
        · exact fin (.bl true) rfl rfl (by simp)
        · exact fin (.bl false) rfl rfl (by simp)
        · exact fin .non rfl rfl (by simp)
        · exact fin (.str s) rfl (bd_str.mpr hs) (by simp)
        · exact fin (.tup [.int 1, .int 2]) rfl rfl (by simp)
theorem any_ok (ns : List Int) (n deep : Nat) (h : deep < n) (h2 : deep ≤ 100) (τ : TS) : ∃ d τ', GAny false n ns [.int (deep : Int)] τ = some (d, τ') ∧ bd 10 d = true ∧ dep d ≤ deep + 1 := by
  obtain ⟨d, τ', e, q1, q2⟩ := any_ok8 ns n deep h h2 τ
  exact ⟨d, τ', e, bd_mono (by omega) d q1, q2⟩
end PD

set_option Elab.async false
set_option linter.all false
set_option maxRecDepth 100000
set_option maxHeartbeats 8000000
/-! _law_spoilt. -/
namespace PD
open PySem L2
noncomputable def GWhole (tk : Bool) : GF := Grun tk 1 false 1 ir_law_whole [] []
def isWh : D → Bool
  | .int _ => true
  | _ => false
theorem whole_ok (tk : Bool) (ns : List Int) (d : D) (τ : TS) : GWhole tk ns [d] τ = some (.bl (isWh d), τ) := by
  refine Grun_in rfl ?_
  show evB _ ir_law_whole [.d d] τ = _
  unfold ir_law_whole
  refine evB_rt (evS_ret ?_)
  cases d <;> simp [evB, evS, ev, evs, evt, evp, evi, binD, cmpD, bD, mD, neD, eqD, truD, ixD, inD, inB, slD, lenD, intD, maxD, minD, addD, subD, negD, joinD, joinS, txsO, lowerD, upperD, startsD, endsD, stripD, with1, ordD, mulD, modD, fdivD, powD, intO, Out.then, bindT, setAll, itemsD, rangeD, runF, start', mkSg, mkSgG, opD, small62, wipeE, compL, forL, List.replicate, tyIs, tyIs, isWh]
noncomputable def GSpo : Nat → GF
  | 0 => fun _ _ _ => none
  | n + 1 => Grun false 6 true 1 ir_law_spoilt [cDraw false, ⟨"_law_spoilt", true, 1, GSpo n⟩, ⟨"_law_any", true, 1, GAny false 3⟩, ⟨"_law_whole", false, 1, GWhole false⟩] []
structure PSpo (P : Sg) (ns : List Int) (n : Nat) : Prop where
  g0 : ∀ ds, P.G 0 ds = GDraw false ns ds
  g1 : ∀ ds, P.G 1 ds = GSpo n ns ds
  g2 : ∀ ds, P.G 2 ds = GAny false 3 ns ds
  g3 : ∀ ds, P.G 3 ds = GWhole false ns ds
  tk : P.tk = false
def Ends' (P : Sg) (b : Ss) (ρ : Env') (τ : TS) (N : Nat) : Prop := ∃ d τ', evB P b ρ τ = some (.rt d τ') ∧ bd N d = true
theorem Ends'.nx {P : Sg} {s : S} {b : Ss} {ρ ρ1 : Env'} {τ τ1 : TS} {N : Nat} (h : evS P s ρ τ = some (.nx ρ1 τ1)) (k : Ends' P b ρ1 τ1 N) : Ends' P (.cons s b) ρ τ N := by
  obtain ⟨d, τ', e, q⟩ := k
  exact ⟨d, τ', (evB_nx h).trans e, q⟩
theorem Ends'.rt {P : Sg} {s : S} {b : Ss} {ρ : Env'} {τ : TS} {N : Nat} {d : D} {τ1 : TS} (h : evS P s ρ τ = some (.rt d τ1)) (q : bd N d = true) : Ends' P (.cons s b) ρ τ N := ⟨d, τ1, evB_rt h, q⟩
theorem sp5 (P : Sg) (ns : List Int) (n : Nat) (hP : PSpo P ns n) (d : D) (N : Nat) (g2 g3 g4 g5 : Slot) (τ : TS) : Ends' P (.cons spS5 .nil) [.tape, .d d, g2, g3, g4, g5] τ (N + 10) := by
  obtain ⟨y, τ1, e, q, _⟩ := any_ok ns 3 2 (by omega) (by omega) τ
  exact Ends'.rt (evS_ret (ev_callT rfl (evs_cons ev_int evs_nil) (by rw [hP.g2]; exact e))) (bd_mono (by omega) y q)
def isSq : D → Bool
  | .tup _ => true
  | .lst _ => true
  | _ => false
theorem sq_ev (P : Sg) (d : D) (g2 g3 g4 g5 : Slot) (τ : TS) : evt P (.val (.isiT (.var 1) [.tuple, .list])) [.tape, .d d, g2, g3, g4, g5] τ = some (isSq d, τ) := by
  cases d <;> simp [evB, evS, ev, evs, evt, evp, evi, binD, cmpD, bD, mD, neD, eqD, truD, ixD, inD, inB, slD, lenD, intD, maxD, minD, addD, subD, negD, joinD, joinS, txsO, lowerD, upperD, startsD, endsD, stripD, with1, ordD, mulD, modD, fdivD, powD, intO, Out.then, bindT, setAll, itemsD, rangeD, runF, start', mkSg, mkSgG, opD, small62, wipeE, compL, forL, List.replicate, tyIs, tyIs, isSq]
theorem evt_andF {P : Sg} {a b : Tt} {ρ : Env'} {τ τ1 : TS} (h : evt P a ρ τ = some (false, τ1)) : evt P (.and a b) ρ τ = some (false, τ1) := by
  rw [evt, h]; rfl
theorem evt_andT {P : Sg} {a b : Tt} {ρ : Env'} {τ τ1 : TS} {r : Option (Bool × TS)} (h : evt P a ρ τ = some (true, τ1)) (h2 : evt P b ρ τ1 = r) : evt P (.and a b) ρ τ = r := by
  rw [evt, h]; exact h2
theorem evt_one1 {P : Sg} {a : Tt} {ρ : Env'} {τ : TS} {r : Option (Bool × TS)} (h : evt P a ρ τ = r) : evt P (.one a) ρ τ = r := by rw [evt]; exact h
/-- a draw against 0 -/
theorem evt_draw (P : Sg) (ns : List Int) (n : Nat) (hP : PSpo P ns n) (m : Nat) (mi : Int) (hm : mi = m) (h0 : 0 < m) (h1 : m ≤ 1000) (d : D) (g2 g3 g4 g5 : Slot) (τ : TS) : ∃ b τ', evt P (.cmp .Gt (.callT 0 0 (.cons (.int mi) .nil)) (.int 0)) [.tape, .d d, g2, g3, g4, g5] τ = some (b, τ') := by
  obtain ⟨r, τ1, e, _⟩ := draw_int false ns m mi hm h0 (by omega) τ
  exact ⟨decide ((r : Int) > 0), τ1, evt_cmp0 (ev_callT rfl (evs_cons ev_int evs_nil) (by rw [hP.g0]; exact e)) ev_int rfl⟩
theorem evt_drawE (P : Sg) (ns : List Int) (n : Nat) (hP : PSpo P ns n) (m : Nat) (mi : Int) (hm : mi = m) (h0 : 0 < m) (h1 : m ≤ 1000) (d : D) (g2 g3 g4 g5 : Slot) (τ : TS) : ∃ b τ', evt P (.cmp .Eq (.callT 0 0 (.cons (.int mi) .nil)) (.int 0)) [.tape, .d d, g2, g3, g4, g5] τ = some (b, τ') := by
  obtain ⟨r, τ1, e, _⟩ := draw_int false ns m mi hm h0 (by omega) τ
  exact ⟨(r : Int) == 0, τ1, evt_cmp0 (ev_callT rfl (evs_cons ev_int evs_nil) (by rw [hP.g0]; exact e)) ev_int (by simp [cmpD, eqD])⟩
theorem sp4 (P : Sg) (ns : List Int) (n : Nat) (hP : PSpo P ns n) (d : D) (N : Nat) (hN : N ≤ 900) (hd : bd N d = true) (g2 g3 g4 g5 : Slot) (τ : TS) : Ends' P (.cons spS4 (.cons spS5 .nil)) [.tape, .d d, g2, g3, g4, g5] τ (N + 10) := by
  have k1 := sq_ev P d g2 g3 g4 g5 τ
  have tk := hP.tk
  cases hs : isSq d with
  | false =>
    rw [hs] at k1
    exact Ends'.nx (evS_f (evt_andF k1) evB_nil0) (sp5 P ns n hP d N g2 g3 g4 g5 τ)
  | true =>
    rw [hs] at k1
    obtain ⟨b, τ1, e⟩ := evt_drawE P ns n hP 2 2 rfl (by omega) (by omega) d g2 g3 g4 g5 τ
    cases b with
    | false => exact Ends'.nx (evS_f (evt_andT k1 (evt_one1 e)) evB_nil0) (sp5 P ns n hP d N g2 g3 g4 g5 τ1)
    | true =>
      cases d with
      | tup xs =>
        obtain ⟨hl, hx⟩ := bd_tup.mp hd
        refine Ends'.rt (d := .lst xs) (τ1 := τ1) (evS_t (evt_andT k1 (evt_one1 e)) (evB_rt (evS_ret ?_))) (bd_lst.mpr ⟨by omega, fun x h => bd_mono (by omega) x (hx x h)⟩)
        simp [evB, evS, ev, evs, evt, evp, evi, binD, cmpD, bD, mD, neD, eqD, truD, ixD, inD, inB, slD, lenD, intD, maxD, minD, addD, subD, negD, joinD, joinS, txsO, lowerD, upperD, startsD, endsD, stripD, with1, ordD, mulD, modD, fdivD, powD, intO, Out.then, bindT, setAll, itemsD, rangeD, runF, start', mkSg, mkSgG, opD, small62, wipeE, compL, forL, List.replicate, tyIs, tyIs, listD]
      | lst xs =>
        obtain ⟨hl, hx⟩ := bd_lst.mp hd
        refine Ends'.rt (d := .tup xs) (τ1 := τ1) (evS_t (evt_andT k1 (evt_one1 e)) (evB_rt (evS_ret ?_))) (bd_tup.mpr ⟨by omega, fun x h => bd_mono (by omega) x (hx x h)⟩)
        have h1 := sl1 (show xs.length ≤ 4000 by omega)
        simp [evB, evS, ev, evs, evt, evp, evi, binD, cmpD, bD, mD, neD, eqD, truD, ixD, inD, inB, slD, lenD, intD, maxD, minD, addD, subD, negD, joinD, joinS, txsO, lowerD, upperD, startsD, endsD, stripD, with1, ordD, mulD, modD, fdivD, powD, intO, Out.then, bindT, setAll, itemsD, rangeD, runF, start', mkSg, mkSgG, opD, small62, wipeE, compL, forL, List.replicate, tyIs, tyIs, tupleD, okT, tk, h1]
      | _ => cases hs
theorem sp3 (P : Sg) (ns : List Int) (n : Nat) (hP : PSpo P ns n) (d : D) (N : Nat) (hN : N ≤ 900) (hd : bd N d = true) (g2 g3 g4 g5 : Slot) (τ : TS) : Ends' P (.cons spS3 (.cons spS4 (.cons spS5 .nil))) [.tape, .d d, g2, g3, g4, g5] τ (N + 10) := by
  have no : evt P (.val (.isi (.var 1) .str)) [.tape, .d d, g2, g3, g4, g5] τ = some (false, τ) → Ends' P (.cons spS3 (.cons spS4 (.cons spS5 .nil))) [.tape, .d d, g2, g3, g4, g5] τ (N + 10) := fun h =>
    Ends'.nx (evS_f (evt_andF h) evB_nil0) (sp4 P ns n hP d N hN hd g2 g3 g4 g5 τ)
  cases d with
  | str s =>
    have hs : s.length ≤ N := bd_str.mp hd
    have k1 : evt P (.val (.isi (.var 1) .str)) [.tape, .d (.str s), g2, g3, g4, g5] τ = some (true, τ) := by simp [evB, evS, ev, evs, evt, evp, evi, binD, cmpD, bD, mD, neD, eqD, truD, ixD, inD, inB, slD, lenD, intD, maxD, minD, addD, subD, negD, joinD, joinS, txsO, lowerD, upperD, startsD, endsD, stripD, with1, ordD, mulD, modD, fdivD, powD, intO, Out.then, bindT, setAll, itemsD, rangeD, runF, start', mkSg, mkSgG, opD, small62, wipeE, compL, forL, List.replicate, tyIs, tyIs]
    obtain ⟨b, τ1, e⟩ := evt_draw P ns n hP 3 3 rfl (by omega) (by omega) (.str s) g2 g3 g4 g5 τ
    cases b with
    | false => exact Ends'.nx (evS_f (evt_andT k1 (evt_one1 e)) evB_nil0) (sp4 P ns n hP (.str s) N hN hd g2 g3 g4 g5 τ1)
    | true =>
      obtain ⟨k, τ2, e2, h2⟩ := draw_int false ns (s.length + 1) ((s.length : Int) + 1) (by omega) (by omega) (by omega) τ1
      obtain ⟨a, τ3, e3, h3⟩ := draw_int false ns 6 6 rfl (by omega) (by omega) τ2
      obtain ⟨w, hw, hm⟩ := atI_in (l := ([[32], [122], [65], [124], [97, 98, 99, 100, 101, 102, 103, 104], []] : List (List Nat)).map D.str) (r := a) (by simpa using h3)
      have hwb : ∃ u, w = .str u ∧ u.length ≤ 8 := by
        simp only [List.mem_map, List.mem_cons, List.not_mem_nil, or_false] at hm
        obtain ⟨u, hu, rfl⟩ := hm
        refine ⟨u, rfl, ?_⟩
        rcases hu with rfl | rfl | rfl | rfl | rfl | rfl <;> decide
      obtain ⟨u, rfl, hu⟩ := hwb
      simp only [List.map_cons, List.map_nil] at hw
      have b1 := sl1 (show s.length ≤ 4000 by omega)
      have b2 := sl1 (show 6 ≤ 4000 by omega)
      have b3 := sl1 (show min k s.length + u.length ≤ 4000 by omega)
      have b4 := sl1 (show min k s.length + u.length + (s.length - k) ≤ 4000 by omega)
      refine Ends'.rt (d := .str (s.take k ++ u ++ s.drop k)) (τ1 := τ3) (evS_t (evt_andT k1 (evt_one1 e)) ?_) (bd_str.mpr (by simp; omega))
      refine (evB_nx (ρ1 := [.tape, .d (.str s), g2, g3, g4, .d (.int (k : Int))]) (τ1 := τ2) (evS_set (ev_callT rfl (evs_cons (ev_addi (ev_len_str0 (ev_var rfl) (by omega)) ev_int) evs_nil) (by rw [hP.g0]; exact e2)))).trans (evB_rt (evS_ret ?_))
      simp [evB, evS, ev, evs, evt, evp, evi, binD, cmpD, bD, mD, neD, eqD, truD, ixD, inD, inB, slD, lenD, intD, maxD, minD, addD, subD, negD, joinD, joinS, txsO, lowerD, upperD, startsD, endsD, stripD, with1, ordD, mulD, modD, fdivD, powD, intO, Out.then, bindT, setAll, itemsD, rangeD, runF, start', mkSg, mkSgG, opD, small62, wipeE, compL, forL, List.replicate, tyIs, cut_to, cut_from, hP.g0, e3, hw, b1, b2, b3, b4, Nat.add_assoc]
      have b5 := b4
      rw [Nat.add_assoc] at b5
      exact b5
  | non => exact no (by simp [evB, evS, ev, evs, evt, evp, evi, binD, cmpD, bD, mD, neD, eqD, truD, ixD, inD, inB, slD, lenD, intD, maxD, minD, addD, subD, negD, joinD, joinS, txsO, lowerD, upperD, startsD, endsD, stripD, with1, ordD, mulD, modD, fdivD, powD, intO, Out.then, bindT, setAll, itemsD, rangeD, runF, start', mkSg, mkSgG, opD, small62, wipeE, compL, forL, List.replicate, tyIs, tyIs])
  | bl b => exact no (by simp [evB, evS, ev, evs, evt, evp, evi, binD, cmpD, bD, mD, neD, eqD, truD, ixD, inD, inB, slD, lenD, intD, maxD, minD, addD, subD, negD, joinD, joinS, txsO, lowerD, upperD, startsD, endsD, stripD, with1, ordD, mulD, modD, fdivD, powD, intO, Out.then, bindT, setAll, itemsD, rangeD, runF, start', mkSg, mkSgG, opD, small62, wipeE, compL, forL, List.replicate, tyIs, tyIs])
  | int i => exact no (by simp [evB, evS, ev, evs, evt, evp, evi, binD, cmpD, bD, mD, neD, eqD, truD, ixD, inD, inB, slD, lenD, intD, maxD, minD, addD, subD, negD, joinD, joinS, txsO, lowerD, upperD, startsD, endsD, stripD, with1, ordD, mulD, modD, fdivD, powD, intO, Out.then, bindT, setAll, itemsD, rangeD, runF, start', mkSg, mkSgG, opD, small62, wipeE, compL, forL, List.replicate, tyIs, tyIs])
  | tup xs => exact no (by simp [evB, evS, ev, evs, evt, evp, evi, binD, cmpD, bD, mD, neD, eqD, truD, ixD, inD, inB, slD, lenD, intD, maxD, minD, addD, subD, negD, joinD, joinS, txsO, lowerD, upperD, startsD, endsD, stripD, with1, ordD, mulD, modD, fdivD, powD, intO, Out.then, bindT, setAll, itemsD, rangeD, runF, start', mkSg, mkSgG, opD, small62, wipeE, compL, forL, List.replicate, tyIs, tyIs])
  | lst xs => exact no (by simp [evB, evS, ev, evs, evt, evp, evi, binD, cmpD, bD, mD, neD, eqD, truD, ixD, inD, inB, slD, lenD, intD, maxD, minD, addD, subD, negD, joinD, joinS, txsO, lowerD, upperD, startsD, endsD, stripD, with1, ordD, mulD, modD, fdivD, powD, intO, Out.then, bindT, setAll, itemsD, rangeD, runF, start', mkSg, mkSgG, opD, small62, wipeE, compL, forL, List.replicate, tyIs, tyIs])
theorem sp2 (P : Sg) (ns : List Int) (n : Nat) (hP : PSpo P ns n) (d : D) (N : Nat) (hN : N ≤ 900) (hd : bd N d = true) (g2 g3 g4 g5 : Slot) (τ : TS) : Ends' P (.cons spS2 (.cons spS3 (.cons spS4 (.cons spS5 .nil)))) [.tape, .d d, g2, g3, g4, g5] τ (N + 10) := by
  have kw : evt P (.val (.call 3 (.cons (.var 1) .nil))) [.tape, .d d, g2, g3, g4, g5] τ = some (isWh d, τ) := by
    rw [evt, ev_call (evs_cons (ev_var rfl) evs_nil) (by rw [hP.g3]; exact whole_ok false ns d τ)]
    rfl
  have no : isWh d = false → Ends' P (.cons spS2 (.cons spS3 (.cons spS4 (.cons spS5 .nil)))) [.tape, .d d, g2, g3, g4, g5] τ (N + 10) := fun h =>
    Ends'.nx (evS_f (evt_andF (by rw [kw, h])) evB_nil0) (sp3 P ns n hP d N hN hd g2 g3 g4 g5 τ)
  cases d with
  | int i =>
    obtain ⟨b, τ1, e⟩ := evt_draw P ns n hP 6 6 rfl (by omega) (by omega) (.int i) g2 g3 g4 g5 τ
    cases b with
    | false => exact Ends'.nx (evS_f (evt_andT kw (evt_one1 e)) evB_nil0) (sp3 P ns n hP (.int i) N hN hd g2 g3 g4 g5 τ1)
    | true =>
      obtain ⟨a, τ2, e2, h2⟩ := draw_int false ns 6 6 rfl (by omega) (by omega) τ1
      obtain ⟨w, hw, hm⟩ := atI_in (l := ([1, -1, 2, -2, 9, 1000] : List Int)) (r := a) (by simpa using h2)
      have hw2 : atI (([1, -1, 2, -2, 9, 1000] : List Int).map D.int) (a : Int) = some (.int w) := by
        unfold atI at hw ⊢
        rw [List.length_map]
        cases hq : ixN ([1, -1, 2, -2, 9, 1000] : List Int).length (a : Int) with
        | none => rw [hq] at hw; cases hw
        | some j =>
          rw [hq] at hw
          simp only [Option.bind_some] at hw ⊢
          rw [List.getElem?_map, hw]; rfl
      simp only [List.map_cons, List.map_nil] at hw2
      refine Ends'.rt (d := .int (i + w)) (τ1 := τ2) (evS_t (evt_andT kw (evt_one1 e)) (evB_rt (evS_ret ?_))) rfl
      have b2 := sl1 (show 6 ≤ 4000 by omega)
      simp [evB, evS, ev, evs, evt, evp, evi, binD, cmpD, bD, mD, neD, eqD, truD, ixD, inD, inB, slD, lenD, intD, maxD, minD, addD, subD, negD, joinD, joinS, txsO, lowerD, upperD, startsD, endsD, stripD, with1, ordD, mulD, modD, fdivD, powD, intO, Out.then, bindT, setAll, itemsD, rangeD, runF, start', mkSg, mkSgG, opD, small62, wipeE, compL, forL, List.replicate, tyIs, hP.g0, e2, b2, hw2]
  | non => exact no rfl
  | bl b => exact no rfl
  | str s => exact no rfl
  | tup xs => exact no rfl
  | lst xs => exact no rfl
end PD

set_option Elab.async false
set_option linter.all false
set_option maxRecDepth 100000
set_option maxHeartbeats 8000000
/-! _law_spoilt, its first case. -/
namespace PD
open PySem L2
abbrev spCond : Tt := match spS1 with
  | .ife c _ _ => c
  | _ => .yes
abbrev spMid : S := match spS1 with
  | .ife _ (.cons _ (.cons _ (.cons _ (.cons m _)))) _ => m
  | s => s
abbrev spEnd : Ss := .frz 3 (.cons (.ret (.ife (.val (.isi (.var 1) .tuple)) (.blt .tuple (.cons (.var 3) .nil)) (.var 3))) .nil)
theorem spS1_eq : spS1 = .ife spCond (.cons (.set 2 (.callT 0 0 (.cons (.blt .len (.cons (.var 1) .nil)) .nil))) (.cons (.setO 3 (.blt .list (.cons (.var 1) .nil))) (.cons (.set 4 (.callT 0 0 (.cons (.int 12) .nil))) (.cons spMid spEnd)))) .nil := rfl
theorem evS_setO0 {P : Sg} {i : Nat} {e : E} {ρ : Env'} {τ τ1 : TS} {xs : List D} (h : ev P e ρ τ = some (.lst xs, τ1)) : evS P (.setO i e) ρ τ = some (.nx (ρ.set i (.ol xs)) τ1) := by
  rw [evS, h]; rfl
theorem ev_oix0 {P : Sg} {i : Nat} {e : E} {ρ : Env'} {τ τ1 : TS} {xs : List D} {k : Nat} {d : D} (hρ : ρ[i]? = some (.ol xs)) (h : ev P e ρ τ = some (.int (k : Int), τ1)) (hx : xs[k]? = some d) : ev P (.oix i e) ρ τ = some (d, τ1) := by
  rw [ev, hρ]
  simp only [h, Option.bind_some, intO, atI_nat hx, Option.map_some]
theorem evS_lset0 {P : Sg} {i : Nat} {k e : E} {ρ : Env'} {τ τ1 τ2 : TS} {xs : List D} {j : Nat} {d : D} (hρ : ρ[i]? = some (.ol xs)) (h : ev P e ρ τ = some (d, τ1)) (h2 : ev P k ρ τ1 = some (.int (j : Int), τ2)) (hj : j < xs.length) : evS P (.lset i k e) ρ τ = some (.nx (ρ.set i (.ol (xs.set j d))) τ2) := by
  have hx : ixN xs.length (j : Int) = some j := by
    unfold ixN
    rw [if_pos (by omega), if_pos (by omega)]
    rfl
  rw [evS, hρ]
  simp only [h, Option.bind_some, h2, intO, hx, Option.map_some]
theorem evS_lpop0 {P : Sg} {i : Nat} {k : E} {ρ : Env'} {τ τ2 : TS} {xs : List D} {j : Nat} (hρ : ρ[i]? = some (.ol xs)) (h2 : ev P k ρ τ = some (.int (j : Int), τ2)) (hj : j < xs.length) : evS P (.lpop i k) ρ τ = some (.nx (ρ.set i (.ol (xs.eraseIdx j))) τ2) := by
  rw [evS, hρ]
  have e : ((j : Int)).toNat = j := rfl
  simp only [Option.bind_some, h2, intO, e]
  rw [if_pos ⟨by omega, hj⟩]
theorem evS_lins0 {P : Sg} {i : Nat} {k e : E} {ρ : Env'} {τ τ1 τ2 : TS} {xs : List D} {j : Nat} {d : D} (hρ : ρ[i]? = some (.ol xs)) (h2 : ev P k ρ τ = some (.int (j : Int), τ1)) (h : ev P e ρ τ1 = some (d, τ2)) (hj : j ≤ xs.length) (hl : xs.length ≤ 2000) : evS P (.lins i k e) ρ τ = some (.nx (ρ.set i (.ol (xs.take j ++ d :: xs.drop j))) τ2) := by
  rw [evS, hρ]
  have e : ((j : Int)).toNat = j := rfl
  have hs := sl1 (show xs.length + 1 ≤ 4000 by omega)
  simp only [Option.bind_some, h, h2, intO, e]
  rw [if_pos ⟨by omega, hj, by omega⟩]
theorem deps_mem {x : D} : ∀ {xs : List D}, x ∈ xs → dep x ≤ deps xs
  | [], h => by cases h
  | y :: ys, h => by
    rw [deps_cons]
    rcases List.mem_cons.mp h with q | q
    · rw [q]; omega
    · have := deps_mem q; omega
theorem mid_ok (P : Sg) (ns : List Int) (n : Nat) (hP : PSpo P ns n) (N : Nat) (hN : N ≤ 900)
    (ih : ∀ (d : D) (τ : TS), dep d < n → bd N d = true → ∃ d' τ', GSpo n ns [d] τ = some (d', τ') ∧ bd (N + 10) d' = true)
    (v : D) (xs : List D) (hl : xs.length ≤ N) (hx : ∀ x ∈ xs, bd N x = true) (hdp : deps xs < n) (k : Nat) (hk : k < xs.length) (c : Nat) (g5 : Slot) (τ : TS) :
    ∃ ys τ', evS P spMid [.tape, .d v, .d (.int (k : Int)), .ol xs, .d (.int (c : Int)), g5] τ = some (.nx [.tape, .d v, .d (.int (k : Int)), .ol ys, .d (.int (c : Int)), g5] τ') ∧ ys.length ≤ N + 10 ∧ ∀ y ∈ ys, bd (N + 10) y = true := by
  have up : ∀ x ∈ xs, bd (N + 10) x = true := fun x h => bd_mono (by omega) x (hx x h)
  have cmpI : ∀ (o : CmpOp) (m : Int) (b : Bool), cmpD o (.int (c : Int)) (.int m) = some (.bl b) → evt P (.cmp o (.var 4) (.int m)) [.tape, .d v, .d (.int (k : Int)), .ol xs, .d (.int (c : Int)), g5] τ = some (b, τ) := fun o m b h => evt_cmp0 (ev_var rfl) ev_int h
  unfold spMid
  by_cases c8 : c < 8
  · obtain ⟨y, τ1, e1, q1⟩ := ih xs[k] τ (by have := deps_mem (List.getElem_mem hk); omega) (hx _ (List.getElem_mem hk))
    refine ⟨xs.set k y, τ1, ?_, by simp; omega, fun z hz => ?_⟩
    · refine evS_t (τ1 := τ) (cmpI .Lt 8 true ?_) ?_
      · simp only [cmpD, ltD, ordD]
        rw [decide_eq_true (by omega)]
      · refine (evB_nx (evS_lset0 rfl (ev_callT rfl (evs_cons (ev_oix0 rfl (ev_var rfl) (List.getElem?_eq_getElem hk)) evs_nil) (by rw [hP.g1]; exact e1)) (ev_var rfl) hk)).trans ?_
        simp only [List.set, evB]
    · rcases List.mem_or_eq_of_mem_set hz with q | q
      · exact up z q
      · rw [q]; exact q1
  have n8 : cmpD .Lt (.int (c : Int)) (.int 8) = some (.bl false) := by
    simp only [cmpD, ltD, ordD]
    rw [decide_eq_false (by omega)]
  have eqI : ∀ (m : Nat) (mi : Int), mi = m → cmpD .Eq (.int (c : Int)) (.int mi) = some (.bl (decide (c = m))) := fun m mi hmi => by
    subst hmi
    have : ((c : Int) == (m : Int)) = decide (c = m) := by
      by_cases h : c = m
      · subst h; simp
      · have : ¬ (c : Int) = (m : Int) := by omega
        simp [h]
        omega
    simp only [cmpD, eqD, dep_int, Nat.min_self, Nat.zero_le, if_true, eqv_int, Option.map_some, this]
  by_cases e8 : c = 8
  · refine ⟨xs.eraseIdx k, τ, ?_, by rw [List.length_eraseIdx_of_lt hk]; omega, fun z hz => up z (List.mem_of_mem_eraseIdx hz)⟩
    refine evS_f (τ1 := τ) (cmpI .Lt 8 false n8) (?_ : evB P (.cons _ .nil) _ _ = _)
    refine (evB_nx (evS_t (τ1 := τ) (cmpI .Eq 8 true (by rw [eqI 8 8 rfl, decide_eq_true e8])) ((evB_nx (evS_lpop0 rfl (ev_var rfl) hk)).trans (by rw [evB])))).trans ?_
    simp only [List.set, evB]
  have h8 := cmpI .Eq 8 false (by rw [eqI 8 8 rfl, decide_eq_false e8])
  by_cases e9 : c = 9
  · obtain ⟨j, τ1, e1, h1⟩ := draw_int false ns xs.length (xs.length : Int) rfl (by omega) (by omega) τ
    refine ⟨xs.take k ++ xs[j] :: xs.drop k, τ1, ?_, by simp; omega, fun z hz => ?_⟩
    · refine evS_f (τ1 := τ) (cmpI .Lt 8 false n8) (?_ : evB P (.cons _ .nil) _ _ = _)
      refine (evB_nx (evS_f (τ1 := τ) h8 ((evB_nx (evS_t (τ1 := τ) (cmpI .Eq 9 true (by rw [eqI 9 9 rfl, decide_eq_true e9])) ((evB_nx (evS_lins0 rfl (ev_var rfl) (ev_oix0 (k := j) rfl (ev_callT rfl (evs_cons (by rw [ev]; rfl) evs_nil) (by rw [hP.g0]; exact e1)) (List.getElem?_eq_getElem h1)) (by omega) (by omega))).trans (by rw [evB])))).trans (by rw [evB])))).trans ?_
      simp only [List.set, evB]
    · rcases List.mem_append.mp hz with q | q
      · exact up z (List.mem_of_mem_take q)
      · rcases List.mem_cons.mp q with q | q
        · rw [q]; exact up _ (List.getElem_mem h1)
        · exact up z (List.mem_of_mem_drop q)
  have h9 := cmpI .Eq 9 false (by rw [eqI 9 9 rfl, decide_eq_false e9])
  by_cases e10 : c = 10
  · refine ⟨xs.reverse, τ, ?_, by simp; omega, fun z hz => up z (List.mem_reverse.mp hz)⟩
    refine evS_f (τ1 := τ) (cmpI .Lt 8 false n8) (?_ : evB P (.cons _ .nil) _ _ = _)
    refine (evB_nx (evS_f (τ1 := τ) h8 ((evB_nx (evS_f (τ1 := τ) h9 ((evB_nx (evS_t (τ1 := τ) (cmpI .Eq 10 true (by rw [eqI 10 10 rfl, decide_eq_true e10])) ?_)).trans (by rw [evB])))).trans (by rw [evB])))).trans (by rw [evB])
    rw [evB]
    simp only [List.getElem?_cons_succ, List.getElem?_cons_zero, List.set]
    refine (evB_nx (evS_setO0 (xs := xs.reverse) (τ1 := τ) (by rw [ev, ev_var rfl]; rfl))).trans ?_
    simp only [List.set, evB]
  have h10 := cmpI .Eq 10 false (by rw [eqI 10 10 rfl, decide_eq_false e10])
  obtain ⟨y, τ1, e1, q1, _⟩ := any_ok ns 3 1 (by omega) (by omega) τ
  refine ⟨xs.take k ++ y :: xs.drop k, τ1, ?_, by simp; omega, fun z hz => ?_⟩
  · refine evS_f (τ1 := τ) (cmpI .Lt 8 false n8) (?_ : evB P (.cons _ .nil) _ _ = _)
    refine (evB_nx (evS_f (τ1 := τ) h8 ((evB_nx (evS_f (τ1 := τ) h9 ((evB_nx (evS_f (τ1 := τ) h10 ((evB_nx (evS_lins0 rfl (ev_var rfl) (ev_callT rfl (evs_cons ev_int evs_nil) (by rw [hP.g2]; exact e1)) (by omega) (by omega))).trans (by rw [evB])))).trans (by rw [evB])))).trans (by rw [evB])))).trans ?_
    simp only [List.set, evB]
  · rcases List.mem_append.mp hz with q | q
    · exact up z (List.mem_of_mem_take q)
    · rcases List.mem_cons.mp q with q | q
      · rw [q]; exact bd_mono (by omega) _ q1
      · exact up z (List.mem_of_mem_drop q)
theorem sp1 (P : Sg) (ns : List Int) (n : Nat) (hP : PSpo P ns n) (N : Nat) (hN : N ≤ 900)
    (ih : ∀ (d : D) (τ : TS), dep d < n → bd N d = true → ∃ d' τ', GSpo n ns [d] τ = some (d', τ') ∧ bd (N + 10) d' = true)
    (d : D) (hd : bd N d = true) (hn : dep d < n + 1) (τ : TS) : Ends' P ir_law_spoilt [.tape, .d d, .un, .un, .un, .un] τ (N + 10) := by
  have tk := hP.tk
  unfold ir_law_spoilt
  rw [spS1_eq]
  have k1 := sq_ev P d .un .un .un .un τ
  have main : ∀ xs : List D, bd N (.lst xs) = true → deps xs < n → isSq d = true → itemsD d = some xs → listD [d] = some (.lst xs) → lenD [d] = some (.int (xs.length : Int)) → (d = .tup xs ∨ d = .lst xs) →
      Ends' P (.cons (.ife spCond (.cons (.set 2 (.callT 0 0 (.cons (.blt .len (.cons (.var 1) .nil)) .nil))) (.cons (.setO 3 (.blt .list (.cons (.var 1) .nil))) (.cons (.set 4 (.callT 0 0 (.cons (.int 12) .nil))) (.cons spMid spEnd)))) .nil) (.cons spS2 (.cons spS3 (.cons spS4 (.cons spS5 .nil))))) [.tape, .d d, .un, .un, .un, .un] τ (N + 10) := by
    intro xs hb hdp hs hi hli hle hor
    rw [hs] at k1
    obtain ⟨hl, hx⟩ := bd_lst.mp hb
    have elen : ∀ (g2 g3 g4 g5 : Slot) (τ : TS), ev P (.blt .len (.cons (.var 1) .nil)) [.tape, .d d, g2, g3, g4, g5] τ = some (.int (xs.length : Int), τ) := fun g2 g3 g4 g5 τ => by
      rw [ev, evs_cons (ev_var rfl) evs_nil]
      simp only [Option.bind_some, bD, hle, Option.map_some]
    by_cases h0 : xs.length = 0
    · refine Ends'.nx (evS_f (τ1 := τ) (evt_andT k1 (evt_andF (evt_cmp0 (elen _ _ _ _ τ) ev_int ?_))) evB_nil0) (sp2 P ns n hP d N hN hd _ _ _ _ τ)
      rw [h0]; rfl
    have hp : cmpD .Gt (.int (xs.length : Int)) (.int 0) = some (.bl true) := by
      simp only [cmpD, gtD, ordD]
      rw [decide_eq_true (by omega)]
    obtain ⟨b, τ1, e⟩ := evt_draw P ns n hP 7 7 rfl (by omega) (by omega) d .un .un .un .un τ
    cases b with
    | false => exact Ends'.nx (evS_f (evt_andT k1 (evt_andT (evt_cmp0 (elen _ _ _ _ τ) ev_int hp) (evt_one1 e))) evB_nil0) (sp2 P ns n hP d N hN hd _ _ _ _ τ1)
    | true =>
      obtain ⟨k, τ2, e2, h2⟩ := draw_int false ns xs.length (xs.length : Int) rfl (by omega) (by omega) τ1
      obtain ⟨c, τ3, e3, h3⟩ := draw_int false ns 12 12 rfl (by omega) (by omega) τ2
      obtain ⟨ys, τ4, e4, l4, q4⟩ := mid_ok P ns n hP N hN ih d xs hl hx hdp k h2 c .un τ3
      have hfin : ∃ z, evB P spEnd [.tape, .d d, .d (.int (k : Int)), .ol ys, .d (.int (c : Int)), .un] τ4 = some (.rt z τ4) ∧ bd (N + 10) z = true := by
        rcases hor with rfl | rfl
        · refine ⟨.tup ys, ?_, bd_tup.mpr ⟨l4, q4⟩⟩
          unfold spEnd
          rw [evB]
          simp only [List.getElem?_cons_succ, List.getElem?_cons_zero, List.set]
          refine evB_rt (evS_ret ?_)
          have hs := sl1 (show ys.length ≤ 4000 by omega)
          simp [evB, evS, ev, evs, evt, evp, evi, binD, cmpD, bD, mD, neD, eqD, truD, ixD, inD, inB, slD, lenD, intD, maxD, minD, addD, subD, negD, joinD, joinS, txsO, lowerD, upperD, startsD, endsD, stripD, with1, ordD, mulD, modD, fdivD, powD, intO, Out.then, bindT, setAll, itemsD, rangeD, runF, start', mkSg, mkSgG, opD, small62, wipeE, compL, forL, List.replicate, tyIs, tyIs, tupleD, okT, tk, hs]
        · refine ⟨.lst ys, ?_, bd_lst.mpr ⟨l4, q4⟩⟩
          unfold spEnd
          rw [evB]
          simp only [List.getElem?_cons_succ, List.getElem?_cons_zero, List.set]
          refine evB_rt (evS_ret ?_)
          simp [evB, evS, ev, evs, evt, evp, evi, binD, cmpD, bD, mD, neD, eqD, truD, ixD, inD, inB, slD, lenD, intD, maxD, minD, addD, subD, negD, joinD, joinS, txsO, lowerD, upperD, startsD, endsD, stripD, with1, ordD, mulD, modD, fdivD, powD, intO, Out.then, bindT, setAll, itemsD, rangeD, runF, start', mkSg, mkSgG, opD, small62, wipeE, compL, forL, List.replicate, tyIs, tyIs]
      obtain ⟨z, e5, q5⟩ := hfin
      refine Ends'.rt (d := z) (τ1 := τ4) (evS_t (evt_andT k1 (evt_andT (evt_cmp0 (elen _ _ _ _ τ) ev_int hp) (evt_one1 e))) ?_) q5
      refine (evB_nx (evS_set (ev_callT rfl (evs_cons (elen _ _ _ _ τ1) evs_nil) (by rw [hP.g0]; exact e2)))).trans ?_
      simp only [List.set]
      refine (evB_nx (evS_setO0 (xs := xs) (τ1 := τ2) (by
        rw [ev, evs_cons (ev_var rfl) evs_nil]
        simp only [Option.bind_some, bD, hli, Option.map_some]))).trans ?_
      simp only [List.set]
      refine (evB_nx (evS_set (ev_callT rfl (evs_cons ev_int evs_nil) (by rw [hP.g0]; exact e3)))).trans ?_
      simp only [List.set]
      exact (evB_nx e4).trans e5
  cases d with
  | tup xs => exact main xs (bd_lst.mpr (bd_tup.mp hd)) (by rw [dep_tup] at hn; omega) rfl rfl rfl rfl (.inl rfl)
  | lst xs => exact main xs hd (by rw [dep_lst] at hn; omega) rfl rfl rfl rfl (.inr rfl)
  | non => exact Ends'.nx (evS_f (evt_andF k1) evB_nil0) (sp2 P ns n hP _ N hN hd _ _ _ _ τ)
  | bl b => exact Ends'.nx (evS_f (evt_andF k1) evB_nil0) (sp2 P ns n hP _ N hN hd _ _ _ _ τ)
  | int i => exact Ends'.nx (evS_f (evt_andF k1) evB_nil0) (sp2 P ns n hP _ N hN hd _ _ _ _ τ)
  | str s => exact Ends'.nx (evS_f (evt_andF k1) evB_nil0) (sp2 P ns n hP _ N hN hd _ _ _ _ τ)
theorem spoilt_ok (ns : List Int) (N : Nat) (hN : N ≤ 900) : ∀ (n : Nat) (d : D) (τ : TS), dep d < n → bd N d = true → ∃ d' τ', GSpo n ns [d] τ = some (d', τ') ∧ bd (N + 10) d' = true
  | 0, d, τ, h, _ => by omega
  | n + 1, d, τ, h, hd => by
    obtain ⟨d', τ', e, q⟩ := sp1 (mkSg false [cDraw false, ⟨"_law_spoilt", true, 1, GSpo n⟩, ⟨"_law_any", true, 1, GAny false 3⟩, ⟨"_law_whole", false, 1, GWhole false⟩] [] ns) ns n ⟨fun _ => rfl, fun _ => rfl, fun _ => rfl, fun _ => rfl, rfl⟩ N hN (spoilt_ok ns N hN n) d hd h τ
    exact ⟨d', τ', Grun_in rfl e, q⟩
end PD

set_option Elab.async false
set_option linter.all false
set_option maxRecDepth 100000
set_option maxHeartbeats 8000000
/-! The laws' own checks: _law_is_signs, _law_is_set, _law_within, _law_is_step. -/
namespace PD
open PySem L2
def ir_law_is_signs : Ss := (.cons (.ife (.or (.not (.val (.isi (.var 0) .str))) (.one (.not (.chn .LtE .LtE (.var 1) (.blt .len (.cons (.var 0) .nil)) (.var 2))))) (.cons (.ret (.bl false)) .nil) .nil) (.cons (.set 3 (.str [97, 98, 99, 100, 101, 102, 103, 104, 105, 106, 107, 108, 109, 110, 111, 112, 113, 114, 115, 116, 117, 118, 119, 120, 121, 122])) (.cons (.ret (.cmp .Eq (.comp (.var 4) (.nm 4) (.data (.var 0)) (.cmp .NotIn (.var 4) (.bin .Add (.bin .Add (.str [32, 45, 46, 95]) (.var 3)) (.mth .upper (.var 3) .nil))) [4]) (.lst .nil))) .nil)))
def ir_law_is_set : Ss := (.cons (.ret (.and (.call 0 (.cons (.var 0) (.cons (.int 1) (.cons (.int 3) .nil)))) (.one (.cmp .Eq (.blt .list (.cons (.var 0) .nil)) (.srt (.var 0)))))) .nil)
def ir_law_within : Ss := (.cons (.ret (.and (.call 0 (.cons (.var 0) .nil)) (.one (.chn .LtE .LtE (.var 1) (.var 0) (.var 2))))) .nil)
def ir_law_is_step : Ss := (.cons (.ife (.or (.not (.val (.isi (.var 0) .tuple))) (.or (.not (.chn .Lt .Lt (.int 0) (.blt .len (.cons (.var 0) .nil)) (.int 4))) (.one (.not (.val (.isi (.idx (.var 0) (.int 0)) .str)))))) (.cons (.ret (.bl false)) .nil) .nil) (.cons (.par [1, 2] (.cons (.idx (.var 0) (.int 0)) (.cons (.sl (.var 0) (.int 1) .nope) .nil))) (.cons (.ife (.cmp .Eq (.var 1) (.str [115, 109, 97, 108, 108])) (.cons (.ret (.cmp .Eq (.var 2) (.tup .nil))) .nil) .nil) (.cons (.ife (.cmp .Eq (.blt .len (.cons (.var 2) .nil)) (.int 2)) (.cons (.ife (.not (.val (.call 0 (.cons (.idx (.var 2) (.int 1)) (.cons (.int 1) (.cons (.int 1) .nil)))))) (.cons (.ret (.bl false)) .nil) .nil) (.cons (.ife (.cmp .Eq (.var 1) (.str [106, 111, 105, 110])) (.cons (.ret (.call 1 (.cons (.idx (.var 2) (.int 0)) .nil))) .nil) .nil) (.cons (.ret (.and (.cmp .Eq (.var 1) (.str [109, 97, 112])) (.and (.call 0 (.cons (.idx (.var 2) (.int 0)) (.cons (.int 1) (.cons (.int 1) .nil)))) (.one (.cmp .NotEq (.idx (.var 2) (.int 0)) (.idx (.var 2) (.int 1))))))) .nil))) .nil) (.cons (.ife (.cmp .NotEq (.blt .len (.cons (.var 2) .nil)) (.int 1)) (.cons (.ret (.bl false)) .nil) .nil) (.cons (.ife (.cmp .In (.var 1) (.tup (.cons (.str [102, 114, 111, 110, 116]) (.cons (.str [102, 114, 111, 110, 116, 115]) (.cons (.str [98, 97, 99, 107]) (.cons (.str [98, 97, 99, 107, 115]) .nil)))))) (.cons (.ret (.call 0 (.cons (.idx (.var 2) (.int 0)) (.cons (.int 1) (.cons (.int 2) .nil))))) .nil) .nil) (.cons (.ife (.cmp .In (.var 1) (.tup (.cons (.str [102, 105, 114, 115, 116]) (.cons (.str [108, 97, 115, 116]) .nil)))) (.cons (.ret (.call 2 (.cons (.idx (.var 2) (.int 0)) (.cons (.int 1) (.cons (.int 3) .nil))))) .nil) .nil) (.cons (.ret (.and (.cmp .In (.var 1) (.tup (.cons (.str [116, 114, 105, 109]) (.cons (.str [100, 114, 111, 112]) (.cons (.str [115, 113, 117, 101, 101, 122, 101]) .nil))))) (.one (.call 1 (.cons (.idx (.var 2) (.int 0)) .nil))))) .nil))))))))
def ir_is_text : Ss := (.cons (.ret (.call 0 (.cons (.var 0) (.cons (.int 0) (.cons (.cst 0) .nil))))) .nil)
def cMsig : Str × D := ("MOST_SIGNS", .int 60)
noncomputable def GIsText (tk : Bool) : GF := Grun tk 1 false 1 ir_is_text [⟨"is_string", false, 3, GIsStr tk⟩] [cMsig]
theorem istext_ok (tk : Bool) (ns : List Int) (d : D) (hd : bnd d = true) (τ : TS) : GIsText tk ns [d] τ = some (.bl (isStr 0 60 d), τ) := by
  refine Grun_in rfl ?_
  show evB _ ir_is_text [.d d] τ = _
  unfold ir_is_text
  exact evB_rt (evS_ret (ev_call0 (evs_cons (ev_var rfl) (evs_cons ev_int (evs_cons rfl evs_nil))) (isstr_ok tk ns d (bnd_short hd) 0 60 τ)))
/-! ### _law_is_signs -/
noncomputable def GLSg (tk : Bool) : GF := Grun tk 5 false 3 ir_law_is_signs [] []
def lowL : List Nat := [97, 98, 99, 100, 101, 102, 103, 104, 105, 106, 107, 108, 109, 110, 111, 112, 113, 114, 115, 116, 117, 118, 119, 120, 121, 122]
def sg2 : List Nat := ([32, 45, 46, 95] ++ lowL) ++ capsL
theorem sg2_mem (c : Nat) : c ∈ sg2 ↔ c ∈ sgL := (show sg2.Perm sgL by decide).mem_iff
theorem up_low : upperD (.str lowL) [] = some (.str capsL) := by
  have e : upS lowL = capsL := by decide +kernel
  show (if lowL.length ≤ 5592405 then some (D.str (upS lowL)) else none) = _
  rw [if_pos (by decide), e]
theorem ev_addS {P : Sg} {a b : E} {ρ : Env'} {τ τ1 τ2 : TS} {x y : List Nat} (h : ev P a ρ τ = some (.str x, τ1)) (h2 : ev P b ρ τ1 = some (.str y, τ2)) (hl : x.length + y.length ≤ 4000) : ev P (.bin .Add a b) ρ τ = some (.str (x ++ y), τ2) := by
  rw [ev, h]
  simp only [Option.bind_some, h2, binD, addD, sl1 hl, if_true, Option.map_some]
theorem evt_orF {P : Sg} {a b : Tt} {ρ : Env'} {τ τ1 : TS} {r : Option (Bool × TS)} (h : evt P a ρ τ = some (false, τ1)) (h2 : evt P b ρ τ1 = r) : evt P (.or a b) ρ τ = r := by
  rw [evt, h]; exact h2
theorem lsg_comp (P : Sg) (r0 r1 r2 r4 : Slot) (s : List Nat) (τ : TS) :
    compL (cbody P (.var 4) (.nm 4) (.cmp .NotIn (.var 4) (.bin .Add (.bin .Add (.str [32, 45, 46, 95]) (.var 3)) (.mth .upper (.var 3) .nil))) [4] [r0, r1, r2, .d (.str lowL), r4]) (s.map fun c => .str [c]) τ = some ((s.filter fun c => !decide (c ∈ sgL)).map (fun c => .str [c]), τ) := by
  refine compL_mapf fun c hm => ?_
  have hu : ev P (.mth .upper (.var 3) .nil) [r0, r1, r2, .d (.str lowL), .d (.str [c])] τ = some (.str capsL, τ) := by
    rw [ev, ev_var rfl]
    simp only [Option.bind_some, evs, mD, up_low, Option.map_some]
  have hadd : ev P (.bin .Add (.bin .Add (.str [32, 45, 46, 95]) (.var 3)) (.mth .upper (.var 3) .nil)) [r0, r1, r2, .d (.str lowL), .d (.str [c])] τ = some (.str sg2, τ) := by
    exact ev_addS (ev_addS ev_str (ev_var rfl) (by decide)) hu (by decide)
  have hin : cmpD .NotIn (.str [c]) (.str sg2) = some (.bl (!decide (c ∈ sgL))) := by
    have := sg2_mem c
    by_cases h : c ∈ sgL
    · simp [cmpD, inD, inB, this, h]
    · simp [cmpD, inD, inB, this, h]
  unfold cbody
  simp only [wipeE, bindT, Option.bind_some, List.set]
  rw [evt_cmp0 (ev_var rfl) hadd hin]
  cases decide (c ∈ sgL) with
  | true => rfl
  | false =>
    simp only [Option.bind_some, Bool.not_false, if_true]
    rw [ev_var rfl]
    rfl
theorem filter_nil (p : Nat → Bool) : ∀ s : List Nat, ((s.filter fun c => !p c) = []) ↔ s.all p = true := by
  intro s
  simp [List.filter_eq_nil_iff, List.all_eq_true]
theorem lsg_ok (tk : Bool) (ns : List Int) (d : D) (hd : shortD d) (lo hi : Nat) (τ : TS) : GLSg tk ns [d, .int lo, .int hi] τ = some (.bl (isStr lo hi d), τ) := by
  refine Grun_in rfl ?_
  show evB _ ir_law_is_signs [.d d, .d (.int lo), .d (.int hi), .un, .un] τ = _
  unfold ir_law_is_signs
  cases d with
  | str s =>
    have hs : s.length ≤ 4000 := hd
    have hc : ev (mkSg tk [] [] ns) (.blt .len (.cons (.var 0) .nil)) [.d (.str s), .d (.int lo), .d (.int hi), .un, .un] τ = some (.int (s.length : Int), τ) := ev_len_str0 (ev_var rfl) hs
    have hcond : evt (mkSg tk [] [] ns) (.or (.not (.val (.isi (.var 0) .str))) (.one (.not (.chn .LtE .LtE (.var 1) (.blt .len (.cons (.var 0) .nil)) (.var 2))))) [.d (.str s), .d (.int lo), .d (.int hi), .un, .un] τ = some (!(decide (lo ≤ s.length) && decide (s.length ≤ hi)), τ) := by
      refine evt_orF (τ1 := τ) (by rw [evt, evt, ev, ev_var rfl]; rfl) ?_
      rw [evt, evt, evt, ev_var (show ([Slot.d (.str s), .d (.int lo), .d (.int hi), .un, .un] : Env')[1]? = some (.d (.int lo)) from rfl)]
      simp only [Option.bind_some, hc, cmpD, leD, ordD, ev_var (show ([Slot.d (.str s), .d (.int lo), .d (.int hi), .un, .un] : Env')[2]? = some (.d (.int hi)) from rfl)]
      by_cases h1 : lo ≤ s.length
      · rw [decide_eq_true (show (lo : Int) ≤ (s.length : Int) by omega)]
        by_cases h2 : s.length ≤ hi
        · simp only [decide_eq_true (show (s.length : Int) ≤ (hi : Int) by omega), Option.bind_some, truD, Option.map_some, h1, h2, decide_true, Bool.and_self, Bool.not_true]
        · simp only [decide_eq_false (show ¬ (s.length : Int) ≤ (hi : Int) by omega), Option.bind_some, truD, Option.map_some, h1, h2, decide_true, decide_false, Bool.and_false, Bool.not_false]
      · rw [decide_eq_false (show ¬ (lo : Int) ≤ (s.length : Int) by omega)]
        simp only [Option.map_some, h1, decide_false, Bool.false_and, Bool.not_false]
    cases hb : decide (lo ≤ s.length) && decide (s.length ≤ hi) with
    | false =>
      rw [hb] at hcond
      have e : isStr lo hi (.str s) = false := by
        rw [isStr, signsOf, ← Bool.and_assoc, hb, Bool.false_and]
      rw [e]
      exact evB_rt (evS_t hcond (evB_rt (evS_ret (by rw [ev]))))
    | true =>
      rw [hb] at hcond
      have e : isStr lo hi (.str s) = s.all fun c => decide (c ∈ sgL) := by
        rw [isStr, signsOf, ← Bool.and_assoc, hb, Bool.true_and]
      rw [e]
      refine (evB_nx (evS_f hcond evB_nil0)).trans ?_
      refine (evB_nx (evS_set ev_str)).trans ?_
      simp only [List.set]
      refine evB_rt (evS_ret (ev_cmp0 (ev_comp (evi_data (ev_var rfl) rfl) (lsg_comp _ _ _ _ _ s τ) (by
        rw [List.length_map]
        exact Nat.le_trans (List.length_filter_le _ _) (sl1 hs))) (by rw [ev, evs]; rfl) ?_))
      have key := filter_nil (fun c => decide (c ∈ sgL)) s
      cases hf : s.filter (fun c => !decide (c ∈ sgL)) with
      | nil =>
        rw [key.mp hf]
        simp [cmpD, eqD]
      | cons a l =>
        have : (s.all fun c => decide (c ∈ sgL)) = false := by
          cases hz : s.all fun c => decide (c ∈ sgL) with
          | false => rfl
          | true => rw [key.mpr hz] at hf; cases hf
        rw [this]
        simp [cmpD, eqD]
  | non => simp [evB, evS, ev, evs, evt, evp, evi, binD, cmpD, bD, mD, neD, eqD, truD, ixD, inD, inB, slD, lenD, intD, maxD, minD, addD, subD, negD, joinD, joinS, txsO, lowerD, upperD, startsD, endsD, stripD, with1, ordD, mulD, modD, fdivD, powD, intO, Out.then, bindT, setAll, itemsD, rangeD, runF, start', mkSg, mkSgG, opD, small62, wipeE, compL, forL, List.replicate, tyIs, tyIs, isStr]
  | bl b => simp [evB, evS, ev, evs, evt, evp, evi, binD, cmpD, bD, mD, neD, eqD, truD, ixD, inD, inB, slD, lenD, intD, maxD, minD, addD, subD, negD, joinD, joinS, txsO, lowerD, upperD, startsD, endsD, stripD, with1, ordD, mulD, modD, fdivD, powD, intO, Out.then, bindT, setAll, itemsD, rangeD, runF, start', mkSg, mkSgG, opD, small62, wipeE, compL, forL, List.replicate, tyIs, tyIs, isStr]
  | int i => simp [evB, evS, ev, evs, evt, evp, evi, binD, cmpD, bD, mD, neD, eqD, truD, ixD, inD, inB, slD, lenD, intD, maxD, minD, addD, subD, negD, joinD, joinS, txsO, lowerD, upperD, startsD, endsD, stripD, with1, ordD, mulD, modD, fdivD, powD, intO, Out.then, bindT, setAll, itemsD, rangeD, runF, start', mkSg, mkSgG, opD, small62, wipeE, compL, forL, List.replicate, tyIs, tyIs, isStr]
  | tup xs => simp [evB, evS, ev, evs, evt, evp, evi, binD, cmpD, bD, mD, neD, eqD, truD, ixD, inD, inB, slD, lenD, intD, maxD, minD, addD, subD, negD, joinD, joinS, txsO, lowerD, upperD, startsD, endsD, stripD, with1, ordD, mulD, modD, fdivD, powD, intO, Out.then, bindT, setAll, itemsD, rangeD, runF, start', mkSg, mkSgG, opD, small62, wipeE, compL, forL, List.replicate, tyIs, tyIs, isStr]
  | lst xs => simp [evB, evS, ev, evs, evt, evp, evi, binD, cmpD, bD, mD, neD, eqD, truD, ixD, inD, inB, slD, lenD, intD, maxD, minD, addD, subD, negD, joinD, joinS, txsO, lowerD, upperD, startsD, endsD, stripD, with1, ordD, mulD, modD, fdivD, powD, intO, Out.then, bindT, setAll, itemsD, rangeD, runF, start', mkSg, mkSgG, opD, small62, wipeE, compL, forL, List.replicate, tyIs, tyIs, isStr]
/-! ### _law_is_set -/
noncomputable def GLSe (tk : Bool) : GF := Grun tk 1 false 1 ir_law_is_set [⟨"_law_is_signs", false, 3, GLSg tk⟩] []
theorem set_rise (s : List Nat) (h1 : 1 ≤ s.length) (h3 : s.length ≤ 3) : (sortSetS (s.map fun c => [c]) = s.map fun c => [c]) ↔ riseB s = true := by
  match s, h1, h3 with
  | [a], _, _ => simp [sortSetS, insS, riseB]
  | [a, b], _, _ =>
    rcases Nat.lt_trichotomy a b with h | h | h
    · have : ¬ b < a := by omega
      have h' : ¬ b = a := by omega
      simp [sortSetS, insS, riseB, List.cons_lt_cons_iff, h, this, h']
    · subst h; simp [sortSetS, insS, riseB, List.cons_lt_cons_iff]
    · have : ¬ a < b := by omega
      simp [sortSetS, insS, riseB, List.cons_lt_cons_iff, h, this]
      omega
  | [a, b, c], _, _ =>
    have q : ∀ x y : Nat, ([x] < [y]) ↔ x < y := fun x y => by simp [List.cons_lt_cons_iff]
    have q2 : ∀ x y : Nat, ([x] = [y]) ↔ x = y := fun x y => by simp
    simp only [sortSetS, List.map_cons, List.map_nil, List.foldl_cons, List.foldl_nil, insS, q, q2]
    have e : riseB [a, b, c] = (decide (a < b) && decide (b < c)) := by simp [riseB]
    rw [e, Bool.and_eq_true, decide_eq_true_eq, decide_eq_true_eq]
    constructor
    · intro h
      split at h
      · simp only [insS, q, q2] at h
        split at h
        · simp at h; omega
        · split at h
          · simp at h
          · split at h
            · simp at h; omega
            · split at h
              · simp at h
              · simp at h; omega
      · split at h
        · simp only [insS, q, q2] at h
          split at h
          · simp at h
          · split at h
            · simp at h
            · simp at h
        · simp only [insS, q, q2] at h
          split at h
          · simp at h; omega
          · split at h
            · simp at h
            · split at h
              · simp at h; omega
              · split at h
                · simp at h
                · simp at h; omega
    · rintro ⟨h1, h2⟩
      have n1 : ¬ b < a := by omega
      have n2 : ¬ b = a := by omega
      have n3 : ¬ c < a := by omega
      have n4 : ¬ c = a := by omega
      have n5 : ¬ c < b := by omega
      have n6 : ¬ c = b := by omega
      simp [insS, q, n1, n2, n3, n4, n5, n6]
theorem eqvs_strs : ∀ a b : List (List Nat), eqvs (a.map D.str) (b.map D.str) = decide (a = b)
  | [], [] => by simp
  | [], y :: b => by simp
  | x :: a, [] => by simp
  | x :: a, y :: b => by
    rw [List.map_cons, List.map_cons, eqvs_cc, eqv_str, eqvs_strs a b]
    by_cases h : x = y
    · subst h; by_cases h2 : a = b <;> simp [h2]
    · simp [h]
theorem deps_strs : ∀ a : List (List Nat), deps (a.map D.str) = 0
  | [] => by simp
  | x :: a => by rw [List.map_cons, deps_cons, deps_strs a]; simp
theorem lse_ok (tk : Bool) (ns : List Int) (d : D) (hd : bnd d = true) (τ : TS) : GLSe tk ns [d] τ = some (.bl (isSetD d), τ) := by
  have h1 := lsg_ok tk ns d (bnd_short hd) 1 3 τ
  refine Grun_in rfl ?_
  show evB _ ir_law_is_set [.d d] τ = _
  unfold ir_law_is_set
  refine evB_rt (evS_ret ?_)
  refine ev_and0 (c := isStr 1 3 d) (ev_call0 (evs_cons (ev_var rfl) (evs_cons ev_int (evs_cons ev_int evs_nil))) h1) (fun hb => ?_) fun hb => ?_
  · cases d with
    | str s =>
      have hb' : signsOf 1 3 s = true := hb
      have hl : 1 ≤ s.length ∧ s.length ≤ 3 := by
        simp only [signsOf, Bool.and_eq_true, decide_eq_true_eq] at hb'
        exact ⟨hb'.1, hb'.2.1⟩
      have hs : s.length ≤ 4000 := by omega
      have hs2 : s.length + 1 < 4000 := by omega
      refine ev_one0 (ev_cmp0 (x := .lst ((s.map fun c => [c]).map .str)) (y := .lst ((sortSetS (s.map fun c => [c])).map .str)) (τ1 := τ) (τ2 := τ) ?_ ?_ ?_)
      · rw [ev, evs_cons (ev_var rfl) evs_nil]
        simp only [Option.bind_some, bD, listD, if_pos hs, Option.map_some]
      · rw [ev, ev_var rfl]
        simp only [Option.bind_some, srtD, if_pos hs2, Option.map_some]
      · have k := set_rise s hl.1 hl.2
        simp only [cmpD, eqD, dep_lst, deps_strs, eqv_lst, eqvs_strs, isSetD, hb', Bool.true_and]
        have : decide (s.map (fun c => [c]) = sortSetS (s.map fun c => [c])) = riseB s := by
          cases hr : riseB s with
          | true => exact decide_eq_true (k.mpr hr).symm
          | false => exact decide_eq_false fun h => by rw [k.mp h.symm] at hr; cases hr
        simp [this]
    | non => cases hb
    | bl b => cases hb
    | int i => cases hb
    | tup xs => cases hb
    | lst xs => cases hb
  · cases d with
    | str s =>
      have hb' : signsOf 1 3 s = false := hb
      simp [isSetD, hb']
    | _ => rfl
/-! ### _law_within -/
noncomputable def GLWi (tk : Bool) : GF := Grun tk 3 false 3 ir_law_within [⟨"_law_whole", false, 1, GWhole tk⟩] []
theorem lwi_ok (tk : Bool) (ns : List Int) (d : D) (τ : TS) : GLWi tk ns [d, .int 1, .int 3] τ = some (.bl (isNumD d), τ) := by
  have h1 := whole_ok tk ns d τ
  refine Grun_in rfl ?_
  show evB _ ir_law_within [.d d, .d (.int 1), .d (.int 3)] τ = _
  unfold ir_law_within
  refine evB_rt (evS_ret ?_)
  refine ev_and0 (c := isWh d) (ev_call0 (evs_cons (ev_var rfl) evs_nil) h1) (fun hb => ?_) fun hb => ?_
  · cases d with
    | int i =>
      by_cases h1 : 1 ≤ i
      · by_cases h2 : i ≤ 3 <;> simp [evB, evS, ev, evs, evt, evp, evi, binD, cmpD, bD, mD, neD, eqD, truD, ixD, inD, inB, slD, lenD, intD, maxD, minD, addD, subD, negD, joinD, joinS, txsO, lowerD, upperD, startsD, endsD, stripD, with1, ordD, mulD, modD, fdivD, powD, intO, Out.then, bindT, setAll, itemsD, rangeD, runF, start', mkSg, mkSgG, opD, small62, wipeE, compL, forL, List.replicate, tyIs, tyIs, leD, isNumD, h1, h2]
      · simp [evB, evS, ev, evs, evt, evp, evi, binD, cmpD, bD, mD, neD, eqD, truD, ixD, inD, inB, slD, lenD, intD, maxD, minD, addD, subD, negD, joinD, joinS, txsO, lowerD, upperD, startsD, endsD, stripD, with1, ordD, mulD, modD, fdivD, powD, intO, Out.then, bindT, setAll, itemsD, rangeD, runF, start', mkSg, mkSgG, opD, small62, wipeE, compL, forL, List.replicate, tyIs, tyIs, leD, isNumD, h1]
    | _ => cases hb
  · cases d with
    | int i => cases hb
    | _ => rfl
end PD

set_option Elab.async false
set_option linter.all false
set_option maxRecDepth 100000
set_option maxHeartbeats 8000000
/-! _law_is_step. -/
namespace PD
open PySem L2
noncomputable abbrev calLSt (tk : Bool) : List Cal := [⟨"_law_is_signs", false, 3, GLSg tk⟩, ⟨"_law_is_set", false, 1, GLSe tk⟩, ⟨"_law_within", false, 3, GLWi tk⟩]
noncomputable def GLSt (tk : Bool) : GF := Grun tk 3 false 1 ir_law_is_step (calLSt tk) []
abbrev lstT : Ss := match ir_law_is_step with
  | .cons _ (.cons _ t) => t
  | t => t
abbrev lstC : Tt := (.or (.not (.val (.isi (.var 0) .tuple))) (.or (.not (.chn .Lt .Lt (.int 0) (.blt .len (.cons (.var 0) .nil)) (.int 4))) (.one (.not (.val (.isi (.idx (.var 0) (.int 0)) .str))))))
theorem lst_split : ir_law_is_step = .cons (.ife lstC (.cons (.ret (.bl false)) .nil) .nil) (.cons (.par [1, 2] (.cons (.idx (.var 0) (.int 0)) (.cons (.sl (.var 0) (.int 1) .nope) .nil))) lstT) := rfl
/-- a text among texts written there -/
theorem in_tup {P : Sg} {es : Es} {ws : List (List Nat)} {ρ : Env'} {τ : TS} {w : List Nat} (hc : ev P (.tup es) ρ τ = some (.tup (ws.map .str), τ)) (hρ : ρ[1]? = some (.d (.str w))) : evt P (.cmp .In (.var 1) (.tup es)) ρ τ = some (decide (w ∈ ws), τ) ∧ ev P (.cmp .In (.var 1) (.tup es)) ρ τ = some (.bl (decide (w ∈ ws)), τ) := by
  have : ∀ l : List (List Nat), ((l.map D.str).any fun y => eqv y (.str w)) = decide (w ∈ l) := by
    intro l
    induction l with
    | nil => rfl
    | cons x l ih =>
      rw [List.map_cons, List.any_cons, ih, eqv_str]
      by_cases h : x = w
      · subst h; simp
      · have h2 : ¬ w = x := fun z => h z.symm
        simp [h, h2]
  have k : cmpD .In (.str w) (.tup (ws.map .str)) = some (.bl (decide (w ∈ ws))) := by
    simp only [cmpD, inD, inB, dep_str, Nat.min_zero, Nat.zero_le, if_true, Option.map_some, this, Bool.false_eq_true, if_false]
  exact ⟨evt_cmp0 (ev_var hρ) hc k, ev_cmp0 (ev_var hρ) hc k⟩
theorem lst_go (ns : List Int) (w : List Nat) (rest : List D) (hr : rest.length ≤ 2) (hb : ∀ x ∈ rest, bnd x = true) (v : D) (τ : TS) : evB (mkSg false (calLSt false) [] ns) lstT [.d v, .d (.str w), .d (.tup rest)] τ = some (.rt (.bl (isStepD (.tup (.str w :: rest)))) τ) := by
  generalize hP : mkSg false (calLSt false) [] ns = P
  have g0 : ∀ ds, P.G 0 ds = GLSg false ns ds := fun ds => by rw [← hP]; rfl
  have g1 : ∀ ds, P.G 1 ds = GLSe false ns ds := fun ds => by rw [← hP]; rfl
  have g2 : ∀ ds, P.G 2 ds = GLWi false ns ds := fun ds => by rw [← hP]; rfl
  have tk : P.tk = false := by rw [← hP]; rfl
  generalize hρ : ([.d v, .d (.str w), .d (.tup rest)] : Env') = ρ
  have r1 : ρ[1]? = some (.d (.str w)) := by rw [← hρ]; rfl
  have r2 : ρ[2]? = some (.d (.tup rest)) := by rw [← hρ]; rfl
  have sz : ∀ k : Nat, k ≤ 10 → k ≤ sizeLine := fun k h => sl1 (by omega)
  have t4 : ∀ (a b c d : List Nat), ev P (.tup (.cons (.str a) (.cons (.str b) (.cons (.str c) (.cons (.str d) .nil))))) ρ τ = some (.tup ([a, b, c, d].map .str), τ) := fun a b c d => by
    rw [ev, evs_cons ev_str (evs_cons ev_str (evs_cons ev_str (evs_cons ev_str evs_nil)))]
    simp only [Option.bind_some]
    rw [if_pos (by simp [okT, tk, sz])]
    rfl
  have t3 : ∀ (a b c : List Nat), ev P (.tup (.cons (.str a) (.cons (.str b) (.cons (.str c) .nil)))) ρ τ = some (.tup ([a, b, c].map .str), τ) := fun a b c => by
    rw [ev, evs_cons ev_str (evs_cons ev_str (evs_cons ev_str evs_nil))]
    simp only [Option.bind_some]
    rw [if_pos (by simp [okT, tk, sz])]
    rfl
  have t2 : ∀ (a b : List Nat), ev P (.tup (.cons (.str a) (.cons (.str b) .nil))) ρ τ = some (.tup ([a, b].map .str), τ) := fun a b => by
    rw [ev, evs_cons ev_str (evs_cons ev_str evs_nil)]
    simp only [Option.bind_some]
    rw [if_pos (by simp [okT, tk, sz])]
    rfl
  have ln : ∀ k : Nat, evt P (.cmp .Eq (.blt .len (.cons (.var 2) .nil)) (.int (k : Int))) ρ τ = some (decide (rest.length = k), τ) := fun k => by
    refine evt_cmp0 (len_tup0 (ev_var r2)) ev_int ?_
    simp only [cmpD, eqD, dep_int, Nat.min_self, Nat.zero_le, if_true, eqv_int]
    by_cases h : rest.length = k <;> simp [h]
    omega
  have lne : ∀ k : Nat, evt P (.cmp .NotEq (.blt .len (.cons (.var 2) .nil)) (.int (k : Int))) ρ τ = some (!decide (rest.length = k), τ) := fun k => by
    refine evt_cmp0 (len_tup0 (ev_var r2)) ev_int ?_
    simp only [cmpD, neD, dep_int, Nat.min_self, Nat.zero_le, if_true, eqv_int]
    by_cases h : rest.length = k <;> simp [h]
    omega
  have eS : ∀ s : List Nat, cmpD .Eq (.str w) (.str s) = some (.bl (decide (w = s))) := fun s => by
    have : (w == s) = decide (w = s) := by by_cases h : w = s <;> simp [h]
    simp [cmpD, eqD, this]
  have e1 : ∀ s : List Nat, evt P (.cmp .Eq (.var 1) (.str s)) ρ τ = some (decide (w = s), τ) := fun s => evt_cmp0 (ev_var r1) ev_str (eS s)
  have e2 : ∀ s : List Nat, ev P (.cmp .Eq (.var 1) (.str s)) ρ τ = some (.bl (decide (w = s)), τ) := fun s => ev_cmp0 (ev_var r1) ev_str (eS s)
  have a0 : ∀ a b, rest = a :: b → ev P (.idx (.var 2) (.int 0)) ρ τ = some (a, τ) := fun a b h => idx0 (i := 0) (ev_var r2) (by rw [h]; rfl)
  have a1 : ∀ a b c, rest = a :: b :: c → ev P (.idx (.var 2) (.int 1)) ρ τ = some (b, τ) := fun a b c h => idx0 (i := 1) (ev_var r2) (by rw [h]; rfl)
  have sstr : ∀ (e : E) (x : D) (lo hi : Nat), bnd x = true → ev P e ρ τ = some (x, τ) → ev P (.call 0 (.cons e (.cons (.int (lo : Int)) (.cons (.int (hi : Int)) .nil)))) ρ τ = some (.bl (isStr lo hi x), τ) := fun e x lo hi hx he =>
    ev_call0 (evs_cons he (evs_cons ev_int (evs_cons ev_int evs_nil))) (by rw [g0]; exact lsg_ok false ns x (bnd_short hx) lo hi τ)
  have sset : ∀ (e : E) (x : D), bnd x = true → ev P e ρ τ = some (x, τ) → ev P (.call 1 (.cons e .nil)) ρ τ = some (.bl (isSetD x), τ) := fun e x hx he =>
    ev_call0 (evs_cons he evs_nil) (by rw [g1]; exact lse_ok false ns x hx τ)
  have snum : ∀ (e : E) (x : D), ev P e ρ τ = some (x, τ) → ev P (.call 2 (.cons e (.cons (.int 1) (.cons (.int 3) .nil)))) ρ τ = some (.bl (isNumD x), τ) := fun e x he =>
    ev_call0 (evs_cons he (evs_cons ev_int (evs_cons ev_int evs_nil))) (by rw [g2]; exact lwi_ok false ns x τ)
  unfold lstT ir_law_is_step
  simp only
  have rf : ∀ {τ : TS}, ev P (.bl false) ρ τ = some (.bl false, τ) := by intro τ; rw [ev]
  have wd : ∀ {a b : List Nat}, a ≠ b → w = a → ¬ w = b := fun h q z => h (q.symm.trans z)
  by_cases hs : w = wSmall
  · have e : isStepD (.tup (.str w :: rest)) = rest.isEmpty := by rw [hs]; rfl
    rw [e]
    refine evB_rt (evS_t (by rw [show ([115, 109, 97, 108, 108] : List Nat) = wSmall from rfl, e1, decide_eq_true hs]) (evB_rt (evS_ret (ev_cmp0 (ev_var r2) (y := .tup []) (by rw [ev, evs]; simp only [Option.bind_some]; rw [if_pos (by simp [okT, tk, sz])]) ?_))))
    cases rest with
    | nil => simp [cmpD, eqD]
    | cons a b => simp [cmpD, eqD]
  refine (evB_nx (evS_f (by rw [show ([115, 109, 97, 108, 108] : List Nat) = wSmall from rfl, e1, decide_eq_false hs]) evB_nil0)).trans ?_
  match rest, hr, hb, ln, lne, a0, a1, r2 with
  | [], _, _, ln, lne, _, _, _ =>
    refine (evB_nx (evS_f (ln 2) evB_nil0)).trans ?_
    have e : isStepD (.tup [.str w]) = false := by
      rw [isStepD]
      simp [hs, one1, two2]
    rw [e]
    exact evB_rt (evS_t (lne 1) (evB_rt (evS_ret rf)))
  | [a], _, hb, ln, lne, a0, _, _ =>
    have ha := a0 a [] rfl
    have hba := hb a List.mem_cons_self
    refine (evB_nx (evS_f (ln 2) evB_nil0)).trans ?_
    refine (evB_nx (evS_f (lne 1) evB_nil0)).trans ?_
    rw [isStepD]
    by_cases h1 : w = wFront ∨ w = wFronts ∨ w = wBack ∨ w = wBacks
    · have h0 : ¬ (w = wTrim ∨ w = wDrop ∨ w = wSqueeze) := by rcases h1 with rfl | rfl | rfl | rfl <;> decide
      rw [if_neg h0, if_pos h1]
      exact evB_rt (evS_t (by rw [(in_tup (t4 _ _ _ _) r1).1]; exact congrArg (fun b => some (b, τ)) (decide_eq_true (by simpa [wFront, wFronts, wBack, wBacks] using h1))) (evB_rt (evS_ret (sstr _ a 1 2 hba ha))))
    refine (evB_nx (evS_f (by rw [(in_tup (t4 _ _ _ _) r1).1]; exact congrArg (fun b => some (b, τ)) (decide_eq_false (by simpa [wFront, wFronts, wBack, wBacks] using h1))) evB_nil0)).trans ?_
    by_cases h2 : w = wFirst ∨ w = wLast
    · have h0 : ¬ (w = wTrim ∨ w = wDrop ∨ w = wSqueeze) := by rcases h2 with rfl | rfl <;> decide
      rw [if_neg h0, if_neg h1, if_pos h2]
      exact evB_rt (evS_t (by rw [(in_tup (t2 _ _) r1).1]; exact congrArg (fun b => some (b, τ)) (decide_eq_true (by simpa [wFirst, wLast] using h2))) (evB_rt (evS_ret (snum _ a ha))))
    refine (evB_nx (evS_f (by rw [(in_tup (t2 _ _) r1).1]; exact congrArg (fun b => some (b, τ)) (decide_eq_false (by simpa [wFirst, wLast] using h2))) evB_nil0)).trans ?_
    refine evB_rt (evS_ret ?_)
    by_cases h0 : w = wTrim ∨ w = wDrop ∨ w = wSqueeze
    · rw [if_pos h0]
      refine ev_and0 (c := true) (by rw [(in_tup (t3 _ _ _) r1).2]; exact congrArg (fun b => some (D.bl b, τ)) (decide_eq_true (by simpa [wTrim, wDrop, wSqueeze] using h0))) (fun _ => ev_one0 (sset _ a hba ha)) fun q => by cases q
    · have e : (if w = mapW then two2 (fun a b => isStr 1 1 a && (isStr 1 1 b && !eqv a b)) [a] else if w = wJoin then two2 (fun a b => isSetD a && isStr 1 1 b) [a] else if w = wSmall then ([a] : List D).isEmpty else false) = false := by
        simp [two2, hs]
      rw [if_neg h0, if_neg h1, if_neg h2]
      refine ev_and0 (c := false) (by rw [(in_tup (t3 _ _ _) r1).2]; exact congrArg (fun b => some (D.bl b, τ)) (decide_eq_false (by simpa [wTrim, wDrop, wSqueeze] using h0))) (fun q => by cases q) fun _ => ?_
      first | rw [e] | exact congrArg (fun b => some (D.bl b, τ)) e
  | [a, b], _, hb, ln, lne, a0, a1, _ =>
    have ha := a0 a [b] rfl
    have hb1 := a1 a b [] rfl
    have hba := hb a List.mem_cons_self
    have hbb := hb b (by simp)
    have k1 : ev P (.call 0 (.cons (.idx (.var 2) (.int 1)) (.cons (.int 1) (.cons (.int 1) .nil)))) ρ τ = some (.bl (isStr 1 1 b), τ) := sstr _ b 1 1 hbb hb1
    rw [isStepD]
    have nn : ∀ f : D → Bool, one1 f [a, b] = false := fun f => rfl
    by_cases hjm : w = wJoin ∨ w = mapW
    · have h0 : ¬ (w = wTrim ∨ w = wDrop ∨ w = wSqueeze) := by rcases hjm with rfl | rfl <;> decide
      have h1 : ¬ (w = wFront ∨ w = wFronts ∨ w = wBack ∨ w = wBacks) := by rcases hjm with rfl | rfl <;> decide
      have h2 : ¬ (w = wFirst ∨ w = wLast) := by rcases hjm with rfl | rfl <;> decide
      rw [if_neg h0, if_neg h1, if_neg h2]
      refine evB_rt (evS_t (ln 2) ?_)
      cases hq : isStr 1 1 b with
      | false =>
        have e : (if w = mapW then two2 (fun a b => isStr 1 1 a && (isStr 1 1 b && !eqv a b)) [a, b] else if w = wJoin then two2 (fun a b => isSetD a && isStr 1 1 b) [a, b] else if w = wSmall then ([a, b] : List D).isEmpty else false) = false := by
          simp [two2, hq]
        rw [e]
        exact evB_rt (evS_t (by rw [evt, evt, k1, hq]; rfl) (evB_rt (evS_ret rf)))
      | true =>
        refine (evB_nx (evS_f (by rw [evt, evt, k1, hq]; rfl) evB_nil0)).trans ?_
        by_cases hj : w = wJoin
        · have hm : ¬ w = mapW := by rw [hj]; decide
          rw [if_neg hm, if_pos hj]
          have e : two2 (fun a b => isSetD a && isStr 1 1 b) [a, b] = isSetD a := by simp [two2, hq]
          rw [e]
          exact evB_rt (evS_t (by rw [show ([106, 111, 105, 110] : List Nat) = wJoin from rfl, e1, decide_eq_true hj]) (evB_rt (evS_ret (sset _ a hba ha))))
        · have hm : w = mapW := hjm.resolve_left hj
          rw [if_pos hm]
          refine (evB_nx (evS_f (by rw [show ([106, 111, 105, 110] : List Nat) = wJoin from rfl, e1, decide_eq_false hj]) evB_nil0)).trans ?_
          refine evB_rt (evS_ret ?_)
          refine ev_and0 (c := true) (by rw [show ([109, 97, 112] : List Nat) = mapW from rfl, e2, decide_eq_true hm]) (fun _ => ?_) fun q => by cases q
          refine ev_and0 (c := isStr 1 1 a) (sstr _ a 1 1 hba ha) (fun q => ?_) fun q => by
            have e : two2 (fun a b => isStr 1 1 a && (isStr 1 1 b && !eqv a b)) [a, b] = false := by rw [two2, q, Bool.false_and]
            rw [e]
          refine ev_one0 (ev_cmp0 ha hb1 ?_)
          cases a with
          | str x => cases b with
            | str y => simp [cmpD, neD, two2, q, hq]
            | _ => cases hq
          | _ => cases q
    · have hj : ¬ w = wJoin := fun z => hjm (.inl z)
      have hm : ¬ w = mapW := fun z => hjm (.inr z)
      have e : (if w = wTrim ∨ w = wDrop ∨ w = wSqueeze then one1 isSetD [a, b]
        else if w = wFront ∨ w = wFronts ∨ w = wBack ∨ w = wBacks then one1 (isStr 1 2) [a, b]
        else if w = wFirst ∨ w = wLast then one1 isNumD [a, b]
        else if w = mapW then two2 (fun a b => isStr 1 1 a && (isStr 1 1 b && !eqv a b)) [a, b]
        else if w = wJoin then two2 (fun a b => isSetD a && isStr 1 1 b) [a, b]
        else if w = wSmall then ([a, b] : List D).isEmpty else false) = false := by
        simp [nn, hj, hm, hs]
      rw [e]
      refine evB_rt (evS_t (ln 2) ?_)
      cases hq : isStr 1 1 b with
      | false => exact evB_rt (evS_t (by rw [evt, evt, k1, hq]; rfl) (evB_rt (evS_ret rf)))
      | true =>
        refine (evB_nx (evS_f (by rw [evt, evt, k1, hq]; rfl) evB_nil0)).trans ?_
        refine (evB_nx (evS_f (by rw [show ([106, 111, 105, 110] : List Nat) = wJoin from rfl, e1, decide_eq_false hj]) evB_nil0)).trans ?_
        exact evB_rt (evS_ret (ev_and0 (c := false) (by rw [show ([109, 97, 112] : List Nat) = mapW from rfl, e2, decide_eq_false hm]) (fun q => by cases q) fun _ => rfl))
  | _ :: _ :: _ :: _, hr, _, _, _, _, _, _ => simp at hr
theorem lstep_ok (ns : List Int) (d : D) (hd : bnd d = true) (τ : TS) : GLSt false ns [d] τ = some (.bl (isStepD d), τ) := by
  refine Grun_in rfl ?_
  show evB _ ir_law_is_step [.d d, .un, .un] τ = _
  rw [lst_split]
  have no : evt (mkSg false (calLSt false) [] ns) lstC [.d d, .un, .un] τ = some (true, τ) → isStepD d = false → evB (mkSg false (calLSt false) [] ns) (.cons (.ife lstC (.cons (.ret (.bl false)) .nil) .nil) (.cons (.par [1, 2] (.cons (.idx (.var 0) (.int 0)) (.cons (.sl (.var 0) (.int 1) .nope) .nil))) lstT)) [.d d, .un, .un] τ = some (.rt (.bl (isStepD d)) τ) := fun h q => by
    rw [q]
    exact evB_rt (evS_t h (evB_rt (evS_ret (by rw [ev]))))
  have long : ∀ (w : List Nat) (rest : List D), 3 ≤ rest.length → isStepD (.tup (.str w :: rest)) = false := fun w rest h => by
    match rest, h with
    | a :: b :: c :: r, _ => simp [isStepD, one1, two2]
  cases d with
  | tup xs =>
    cases xs with
    | nil => exact no (by simp [evB, evS, ev, evs, evt, evp, evi, binD, cmpD, bD, mD, neD, eqD, truD, ixD, inD, inB, slD, lenD, intD, maxD, minD, addD, subD, negD, joinD, joinS, txsO, lowerD, upperD, startsD, endsD, stripD, with1, ordD, mulD, modD, fdivD, powD, intO, Out.then, bindT, setAll, itemsD, rangeD, runF, start', mkSg, mkSgG, opD, small62, wipeE, compL, forL, List.replicate, tyIs, tyIs]) rfl
    | cons x rest =>
      obtain ⟨hl, hb⟩ := bnd_tup hd
      simp only [List.length_cons] at hl
      have hs := sl1 (show rest.length ≤ 4000 by omega)
      have hz : (0 : Int) < (rest.length : Int) + 1 := by omega
      by_cases h4 : rest.length ≤ 2
      · have h4' : (rest.length : Int) + 1 < 4 := by omega
        cases x with
        | str w =>
          refine (evB_nx (ρ1 := [.d (.tup (.str w :: rest)), .un, .un]) (τ1 := τ) (evS_f (τ1 := τ) (by simp [evB, evS, ev, evs, evt, evp, evi, binD, cmpD, bD, mD, neD, eqD, truD, ixD, inD, inB, slD, lenD, intD, maxD, minD, addD, subD, negD, joinD, joinS, txsO, lowerD, upperD, startsD, endsD, stripD, with1, ordD, mulD, modD, fdivD, powD, intO, Out.then, bindT, setAll, itemsD, rangeD, runF, start', mkSg, mkSgG, opD, small62, wipeE, compL, forL, List.replicate, tyIs, tyIs, hz, h4']) evB_nil0)).trans ?_
          refine (evB_nx (ρ1 := [.d (.tup (.str w :: rest)), .d (.str w), .d (.tup rest)]) (τ1 := τ) (by simp [evB, evS, ev, evs, evt, evp, evi, binD, cmpD, bD, mD, neD, eqD, truD, ixD, inD, inB, slD, lenD, intD, maxD, minD, addD, subD, negD, joinD, joinS, txsO, lowerD, upperD, startsD, endsD, stripD, with1, ordD, mulD, modD, fdivD, powD, intO, Out.then, bindT, setAll, itemsD, rangeD, runF, start', mkSg, mkSgG, opD, small62, wipeE, compL, forL, List.replicate, tyIs, okT, hs])).trans ?_
          exact lst_go ns w rest h4 (fun x hx => hb x (List.mem_cons_of_mem _ hx)) _ τ
        | non => exact no (by simp [evB, evS, ev, evs, evt, evp, evi, binD, cmpD, bD, mD, neD, eqD, truD, ixD, inD, inB, slD, lenD, intD, maxD, minD, addD, subD, negD, joinD, joinS, txsO, lowerD, upperD, startsD, endsD, stripD, with1, ordD, mulD, modD, fdivD, powD, intO, Out.then, bindT, setAll, itemsD, rangeD, runF, start', mkSg, mkSgG, opD, small62, wipeE, compL, forL, List.replicate, tyIs, tyIs, hz, h4']) rfl
        | bl b => exact no (by simp [evB, evS, ev, evs, evt, evp, evi, binD, cmpD, bD, mD, neD, eqD, truD, ixD, inD, inB, slD, lenD, intD, maxD, minD, addD, subD, negD, joinD, joinS, txsO, lowerD, upperD, startsD, endsD, stripD, with1, ordD, mulD, modD, fdivD, powD, intO, Out.then, bindT, setAll, itemsD, rangeD, runF, start', mkSg, mkSgG, opD, small62, wipeE, compL, forL, List.replicate, tyIs, tyIs, hz, h4']) rfl
        | int i => exact no (by simp [evB, evS, ev, evs, evt, evp, evi, binD, cmpD, bD, mD, neD, eqD, truD, ixD, inD, inB, slD, lenD, intD, maxD, minD, addD, subD, negD, joinD, joinS, txsO, lowerD, upperD, startsD, endsD, stripD, with1, ordD, mulD, modD, fdivD, powD, intO, Out.then, bindT, setAll, itemsD, rangeD, runF, start', mkSg, mkSgG, opD, small62, wipeE, compL, forL, List.replicate, tyIs, tyIs, hz, h4']) rfl
        | tup ys => exact no (by simp [evB, evS, ev, evs, evt, evp, evi, binD, cmpD, bD, mD, neD, eqD, truD, ixD, inD, inB, slD, lenD, intD, maxD, minD, addD, subD, negD, joinD, joinS, txsO, lowerD, upperD, startsD, endsD, stripD, with1, ordD, mulD, modD, fdivD, powD, intO, Out.then, bindT, setAll, itemsD, rangeD, runF, start', mkSg, mkSgG, opD, small62, wipeE, compL, forL, List.replicate, tyIs, tyIs, hz, h4']) rfl
        | lst ys => exact no (by simp [evB, evS, ev, evs, evt, evp, evi, binD, cmpD, bD, mD, neD, eqD, truD, ixD, inD, inB, slD, lenD, intD, maxD, minD, addD, subD, negD, joinD, joinS, txsO, lowerD, upperD, startsD, endsD, stripD, with1, ordD, mulD, modD, fdivD, powD, intO, Out.then, bindT, setAll, itemsD, rangeD, runF, start', mkSg, mkSgG, opD, small62, wipeE, compL, forL, List.replicate, tyIs, tyIs, hz, h4']) rfl
      · have h4' : ¬ (rest.length : Int) + 1 < 4 := by omega
        refine no (by simp [evB, evS, ev, evs, evt, evp, evi, binD, cmpD, bD, mD, neD, eqD, truD, ixD, inD, inB, slD, lenD, intD, maxD, minD, addD, subD, negD, joinD, joinS, txsO, lowerD, upperD, startsD, endsD, stripD, with1, ordD, mulD, modD, fdivD, powD, intO, Out.then, bindT, setAll, itemsD, rangeD, runF, start', mkSg, mkSgG, opD, small62, wipeE, compL, forL, List.replicate, tyIs, tyIs, hz, h4']) ?_
        cases x with
        | str w => exact long w rest (by omega)
        | _ => rfl
  | non => exact no (by simp [evB, evS, ev, evs, evt, evp, evi, binD, cmpD, bD, mD, neD, eqD, truD, ixD, inD, inB, slD, lenD, intD, maxD, minD, addD, subD, negD, joinD, joinS, txsO, lowerD, upperD, startsD, endsD, stripD, with1, ordD, mulD, modD, fdivD, powD, intO, Out.then, bindT, setAll, itemsD, rangeD, runF, start', mkSg, mkSgG, opD, small62, wipeE, compL, forL, List.replicate, tyIs, tyIs]) rfl
  | bl b => exact no (by simp [evB, evS, ev, evs, evt, evp, evi, binD, cmpD, bD, mD, neD, eqD, truD, ixD, inD, inB, slD, lenD, intD, maxD, minD, addD, subD, negD, joinD, joinS, txsO, lowerD, upperD, startsD, endsD, stripD, with1, ordD, mulD, modD, fdivD, powD, intO, Out.then, bindT, setAll, itemsD, rangeD, runF, start', mkSg, mkSgG, opD, small62, wipeE, compL, forL, List.replicate, tyIs, tyIs]) rfl
  | int i => exact no (by simp [evB, evS, ev, evs, evt, evp, evi, binD, cmpD, bD, mD, neD, eqD, truD, ixD, inD, inB, slD, lenD, intD, maxD, minD, addD, subD, negD, joinD, joinS, txsO, lowerD, upperD, startsD, endsD, stripD, with1, ordD, mulD, modD, fdivD, powD, intO, Out.then, bindT, setAll, itemsD, rangeD, runF, start', mkSg, mkSgG, opD, small62, wipeE, compL, forL, List.replicate, tyIs, tyIs]) rfl
  | str s => exact no (by simp [evB, evS, ev, evs, evt, evp, evi, binD, cmpD, bD, mD, neD, eqD, truD, ixD, inD, inB, slD, lenD, intD, maxD, minD, addD, subD, negD, joinD, joinS, txsO, lowerD, upperD, startsD, endsD, stripD, with1, ordD, mulD, modD, fdivD, powD, intO, Out.then, bindT, setAll, itemsD, rangeD, runF, start', mkSg, mkSgG, opD, small62, wipeE, compL, forL, List.replicate, tyIs, tyIs]) rfl
  | lst xs => exact no (by simp [evB, evS, ev, evs, evt, evp, evi, binD, cmpD, bD, mD, neD, eqD, truD, ixD, inD, inB, slD, lenD, intD, maxD, minD, addD, subD, negD, joinD, joinS, txsO, lowerD, upperD, startsD, endsD, stripD, with1, ordD, mulD, modD, fdivD, powD, intO, Out.then, bindT, setAll, itemsD, rangeD, runF, start', mkSg, mkSgG, opD, small62, wipeE, compL, forL, List.replicate, tyIs, tyIs]) rfl
end PD

set_option Elab.async false
set_option linter.all false
set_option maxRecDepth 100000
set_option maxHeartbeats 2000000
/-! While an exception is handled: lists are walked to their end, tuples are unpacked, lists are comprehended. -/
namespace PR
open PySem PySem.Spec PyProof.Rows L2 HotX L2H
abbrev St := L2.St
section
variable {prog : Program} {w : World} {A : Around} {E : Value → Shared → Prop} {s : Shared}
theorem list_end_hot {it l x1 : Addr} {i : Nat} {items} {Q : Option Value → Shared → Prop} (hot : HotAt A x1 s.heap) (hne : x1 ≠ it) (hit : s.heap.IsListIter it l i) (hl : s.heap.IsList l items) (hx : items[i]? = none)
    (hQ : ∀ h', Heap.ExtBut it s.heap h' → Q none { s with heap := h' }) : wpAny (model prog w) A (pyNext (.ref it)) Q E s := by
  obtain ⟨o, ho, hc, hd⟩ := id hit
  obtain ⟨ol, hol, _, nl, hdl⟩ := hl
  obtain ⟨hh, o1, vs1, g1, d1, c1⟩ := hot
  unfold pyNext
  refine wpAny_bind (wpAny_attempt (wpAny_callSpecial?_slot (name := Str.ofString "__next__") hit.typeIs slot_listiter_next (wpAny_call_entry slot_listiter_next hit.typeIs entry_listiter_next ?_ (args_listiter_next _))))
  show wpAny _ _ (field (.ref it) 0 >>= _) _ _ s
  refine wpAny_bind (wpAny_field ho hd (x := .ref l) rfl ?_)
  rw [if_neg (show ¬ ((Value.ref l == Value.none) = true) from Bool.false_ne_true)]
  show wpAny _ _ (field (.ref it) 1 >>= _) _ _ s
  refine wpAny_bind (wpAny_field ho hd (x := .int i 0) rfl ?_)
  show wpAny _ _ (seqItems? (.ref l) >>= _) _ _ s
  refine wpAny_bind (wpAny_seqItems hol hdl ?_)
  simp only [Int.toNat_natCast, hx]
  refine wpAny_bind (wpAny_rule (wpAny_bind (wpAny_setField ho hd (by simp) (wpAny_bind ?_))))
  simp only [newExc, newTuple]
  refine wpAny_bind (wpAny_newObj_type ?_ (by size_fits))
  refine wpAny_bind (m := firstArgMember _ _) (wpAny_of_eq (a := Value.none) (by first | rfl | (simp only [firstArgMember]; rfl)) (wpAny_newObj_type ?_ (by size_fits)))
  refine raiseNew_hot ⟨hh, o1, vs1, Heap.get?_push_of_some _ (Heap.get?_push_of_some _ ((Heap.get?_update_other _ _ (Ne.symm hne)).trans g1)), d1, c1⟩ (Nat.ne_of_lt (Heap.lt_size (Heap.get?_push_of_some _ ((Heap.get?_update_other _ _ (Ne.symm hne)).trans g1)))) (Heap.get?_push_size _ rfl) rfl (by first | (simp; done) | (simp; omega) | (simp only [Array.size_append]; simp; omega)) ?_
  refine wpAny_bind (wpAny_isInstance (T := "StopIteration") (b := true) ⟨_, Heap.get?_update_self _ (Heap.get?_push_size _ rfl) rfl, rfl⟩ isSubtype_stop ?_)
  refine wpAny_pure (hQ _ fun b o hb e => ?_)
  have e2 : (s.heap.update it (Obj.mapFields (·.setIfInBounds 0 Value.none))).get? b = some o := (Heap.get?_update_other _ _ (Ne.symm hb)).trans e
  rw [Heap.get?_update_other _ _ (Nat.ne_of_gt (Heap.lt_size (Heap.get?_push_of_some _ e2)))]
  exact Heap.get?_push_of_some _ (Heap.get?_push_of_some _ e2)
theorem tuple_end_hot {it t x1 : Addr} {i : Nat} {items} {Q : Option Value → Shared → Prop} (hot : HotAt A x1 s.heap) (hne : x1 ≠ it) (hit : IsTupIter s.heap it t i) (ht : IsTup s.heap t items) (hx : items[i]? = none)
    (hQ : ∀ h', Heap.ExtBut it s.heap h' → Q none { s with heap := h' }) : wpAny (model prog w) A (pyNext (.ref it)) Q E s := by
  obtain ⟨o, ho, hc, hd⟩ := id hit
  obtain ⟨ol, hol, _, nl, hdl⟩ := ht
  obtain ⟨hh, o1, vs1, g1, d1, c1⟩ := hot
  unfold pyNext
  refine wpAny_bind (wpAny_attempt (wpAny_callSpecial?_slot (name := Str.ofString "__next__") hit.typeIs slot_tupleiter_next (wpAny_call_entry slot_tupleiter_next hit.typeIs entry_tupleiter_next ?_ (args_tupleiter_next _))))
  show wpAny _ _ (field (.ref it) 0 >>= _) _ _ s
  refine wpAny_bind (wpAny_field ho hd (x := .ref t) rfl ?_)
  rw [if_neg (show ¬ ((Value.ref t == Value.none) = true) from Bool.false_ne_true)]
  show wpAny _ _ (field (.ref it) 1 >>= _) _ _ s
  refine wpAny_bind (wpAny_field ho hd (x := .int i 0) rfl ?_)
  show wpAny _ _ (seqItems? (.ref t) >>= _) _ _ s
  refine wpAny_bind (wpAny_seqItems hol hdl ?_)
  simp only [Int.toNat_natCast, hx]
  refine wpAny_bind (wpAny_rule (wpAny_bind (wpAny_setField ho hd (by simp) (wpAny_bind ?_))))
  simp only [newExc, newTuple]
  refine wpAny_bind (wpAny_newObj_type ?_ (by size_fits))
  refine wpAny_bind (m := firstArgMember _ _) (wpAny_of_eq (a := Value.none) (by first | rfl | (simp only [firstArgMember]; rfl)) (wpAny_newObj_type ?_ (by size_fits)))
  refine raiseNew_hot ⟨hh, o1, vs1, Heap.get?_push_of_some _ (Heap.get?_push_of_some _ ((Heap.get?_update_other _ _ (Ne.symm hne)).trans g1)), d1, c1⟩ (Nat.ne_of_lt (Heap.lt_size (Heap.get?_push_of_some _ ((Heap.get?_update_other _ _ (Ne.symm hne)).trans g1)))) (Heap.get?_push_size _ rfl) rfl (by first | (simp; done) | (simp; omega) | (simp only [Array.size_append]; simp; omega)) ?_
  refine wpAny_bind (wpAny_isInstance (T := "StopIteration") (b := true) ⟨_, Heap.get?_update_self _ (Heap.get?_push_size _ rfl) rfl, rfl⟩ isSubtype_stop ?_)
  refine wpAny_pure (hQ _ fun b o hb e => ?_)
  have e2 : (s.heap.update it (Obj.mapFields (·.setIfInBounds 0 Value.none))).get? b = some o := (Heap.get?_update_other _ _ (Ne.symm hb)).trans e
  rw [Heap.get?_update_other _ _ (Nat.ne_of_gt (Heap.lt_size (Heap.get?_push_of_some _ e2)))]
  exact Heap.get?_push_of_some _ (Heap.get?_push_of_some _ e2)
theorem unpack_hot {t x1 : Addr} {items : Array Value} {targets : List (Bool × (Value → Sem Unit))} {Q : Unit → Shared → Prop} (hot : HotAt A x1 s.heap) (ht : IsTup s.heap t items) (hn : targets.length = items.size) (hstar : targets.findIdx? (·.1) = none)
    (h : ∀ h', Heap.ExtBut s.heap.objs.size s.heap h' → wpAny (model prog w) A (assignInOrder (targets.map (·.2)) items.toList) Q E { s with heap := h' }) : wpAny (model prog w) A (unpack (.ref t) targets) Q E s := by
  have hlt : t ≠ s.heap.objs.size := by obtain ⟨o, ho, _⟩ := ht; exact Nat.ne_of_lt (Heap.lt_size ho)
  obtain ⟨hh, o1, vs1, g1, d1, c1⟩ := hot
  have hx1 : x1 ≠ s.heap.objs.size := Nat.ne_of_lt (Heap.lt_size g1)
  unfold unpack
  rw [hn, hstar]
  refine wpAny_bind (wpAny_holding ?_)
  unfold unpackItems
  refine wpAny_bind ?_
  unfold notIterableAtAll
  refine wpAny_bind (wpAny_specialOf ht.typeIs slot_tuple_iter.lookup (wpAny_pure ?_))
  simp only [Bool.false_eq_true, if_false]
  refine wpAny_bind (wpAny_holding (iter_tuple ht (wpAny_bind (wpAny_holding (draw_tuple hlt items.size 0 _ _ ⟨_, Heap.get?_push_size _ rfl, rfl, rfl⟩ (ht.push _) (by omega) fun h₁ hit₁ hs₁ => ?_)))))
  rw [show List.take items.size (List.drop 0 items.toList) = items.toList by rw [List.drop_zero]; exact List.take_of_length_le (by simp), if_neg (by simp)]
  have k1 : ∀ b o, b ≠ s.heap.objs.size → s.heap.get? b = some o → h₁.get? b = some o := fun b o hb e => hs₁.extBut b o hb (Heap.get?_push_of_some _ e)
  refine wpAny_bind (wpAny_holding (tuple_end_hot ⟨hh, o1, vs1, k1 _ _ hx1 g1, d1, c1⟩ hx1 hit₁ ((ht.push _).extBut hs₁.extBut hlt) (by simp) fun h₂ he₂ => ?_))
  simp only [Option.isSome_none, Bool.false_eq_true, if_false]
  exact wpAny_pure (h h₂ fun b o hb e => he₂ b o hb (k1 b o hb e))
end
/-- a tuple is taken apart while an exception is handled -/
theorem pg_tupH {X : Cx} {pos : Pos} {es : List Expr} {k : Nat} {t : TGs} {n : Nat} (hc : HotC X) (h : PGs X es t) (hn : (assignEach es X.env).length = n := by rfl) (hst : (assignEach es X.env).findIdx? (·.1) = none := by rfl) :
    PG X (.Tuple es k pos) (gTup X.K n t) := by
  refine ⟨fun pins s σ H v u Q I r hw => ?_⟩
  obtain ⟨a, xs, e1, hq, hl, hw⟩ := hw
  subst e1
  cases r
  obtain ⟨its, rv, ht, hz⟩ := I.tuple hq
  obtain ⟨x1, hot⟩ := hc.at I
  rw [assign_Tuple]
  refine wpAny_bind (wpAny_standAt (unpack_hot hot ht (by simp [hn, ← hl, rv.length]) hst fun h' hx => ?_))
  exact h.run pins _ σ H xs _ Q (I.kept (t' := s.toks) fun b o e => hx b o (Nat.ne_of_lt (Heap.lt_size e)) e) (by simpa using rv) hw
end PR

set_option Elab.async false
set_option linter.all false
set_option maxRecDepth 100000
set_option maxHeartbeats 4000000
/-! A list comprehension over a list, while an exception is handled. -/
namespace PR
open PySem PySem.Spec PyProof.Rows L2 HotX L2H
/-- a comprehension's block that knows what the context keeps -/
abbrev blkH (X : Cx) (s : Shared) (H : Hp) (scope : Scope) (cenv : Env) (fp : List Addr) : Cx := { X.blk s H scope cenv fp with pn := X.pn }
/-- [elt for target in xs if ..] -/
def tLcH (K : PySem.W.Frag) (t0 : TE) (g : TG) (tt : TT) (te : TE) (vs : List Nat) : TE := fun σ H Q => t0 σ H fun v H1 => ∃ a xs, v = .ref a ∧ SqL K H1 a xs ∧ ∀ D, H1 D = none → ∃ W : Nat → Hp → Prop,
  W 0 (upd H1 D (.lst [])) ∧ (∀ i H, W i H → SqL K H a xs) ∧ (∀ H, W xs.length H → Q (.ref D) H) ∧
    ∀ i x H, xs[i]? = some x → W i H → g x (wipe σ vs) H fun σ2 H2 => wipe σ2 vs = wipe σ vs ∧ tt σ2 H2 fun b H3 =>
      if b = true then te σ2 H3 fun y H4 => ∃ acc, H4 D = some (.lst acc) ∧ acc.length < sizeLine ∧ W (i + 1) (upd H4 D (.lst (acc ++ [y]))) else W (i + 1) H3
/-- the block's state, with what is kept -/
theorem inv_pn {Y : Cx} {pn : List (Addr × Obj)} {σ : St} {H : Hp} {s : Shared} (I : Inv Y [] σ H s) (h : ∀ p ∈ pn, s.heap.get? p.1 = some p.2 ∧ H p.1 = none ∧ p.1 ≠ Y.env.locals ∧ p.1 ∉ Y.fs ∧ ∀ v, p.2.data ≠ .cell v) : Inv { Y with pn := pn } [] σ H s :=
  ⟨⟨I.ok.mod, I.ok.kind, I.ok.glob, I.ok.blt, I.ok.above, I.ok.inj, I.ok.has, I.ok.cab, I.ok.hd, I.ok.frames, I.ok.stk, I.ok.exf, I.ok.bs, I.ok.bsz, I.ok.noex, I.ok.exfs, I.ok.funs, I.ok.frf⟩, I.os, I.bare, I.base, I.loc, I.cell, I.free, I.freeC, fun p hp => h p (by simpa using hp), I.hok, I.len⟩
theorem at_s {α : Type} {M : Model} {A : Around} {m : Sem α} {Q : α → Shared → Prop} {E : Value → Shared → Prop} {s : Shared} {P : Shared → Prop} (h : P s) (k : ∀ s2, P s2 → wpAny M A m Q E s2) : wpAny M A m Q E s := k s h
section
variable {X : Cx}
theorem pe_lcH {elt tg iter : Expr} {ifs : List Expr} {scope : Scope} {own : List (Str × Nat)} {pos : Pos} {t0 : TE} {g : TG} {tt : TT} {te : TE} (hc : HotC X) (hN : X.N.Nodup) (hi : PE X iter t0) (ok : BlkOk X.N X.env.scope scope own)
    (hg : ∀ (s : Shared) (H : Hp) (C : Addr) (cl : List (Str × Addr)) (fp : List Addr), PG (blkH X s H scope (compEnvC scope cl C X.env) fp) tg g)
    (ht : ∀ (s : Shared) (H : Hp) (C : Addr) (cl : List (Str × Addr)) (fp : List Addr), PTs (blkH X s H scope (compEnvC scope cl C X.env) fp) ifs tt)
    (he : ∀ (s : Shared) (H : Hp) (C : Addr) (cl : List (Str × Addr)) (fp : List Addr), PE (blkH X s H scope (compEnvC scope cl C X.env) fp) elt te) (hs : ∀ x, foldedSetIterable iter X.env x = pure x := by intro _; rfl) :
    PE X (.ListComp elt [⟨tg, iter, ifs, 0⟩] scope pos) (tLcH X.K t0 g tt te (own.map (·.2))) := by
  refine ⟨fun pins s σ H Q I h => ?_⟩
  rw [eval_ListComp]
  have hfree : ∀ y ∈ scope.names, y.2 = .free → ∃ c, X.env.cells.lookup y.1 = some c := fun y hy e => (ok.free y hy e).elim (fun k => I.ok.has _ (.inl k)) fun k => I.ok.has _ (.inr k)
  refine wpAny_comprehension_free (use := none) rfl hs (closure_ok hfree) ok.kind (fun y hy e => by rw [ok.uniq y hy, e]) (thn (hi.run pins s σ H _ I h) fun xv s1 ⟨xx, H1, I1, r1, a, xs, ea, hq, q⟩ => ?_)
  subst ea
  cases r1
  obtain ⟨its, rv, pl, hz⟩ := I1.list hq
  refine wpAny_pyIter_list pl.isList ?_
  -- the iterator
  refine at_s (P := fun s2 => Inv X pins σ H1 s2 ∧ s2.heap.IsListIter s1.heap.objs.size a 0 ∧ s1.heap.objs.size < s2.heap.objs.size) ⟨I1.kept (t' := s1.toks) fun b o e => Heap.get?_push_of_some _ e, ⟨_, Heap.get?_push_size _ rfl, rfl, rfl⟩, by
    show _ < (s1.heap.push _).objs.size
    rw [Heap.size_push]; exact Nat.lt_succ_self _⟩ fun s2 ⟨I2, st2, itlt⟩ => ?_
  have f2 : FpOk X pins H1 s1.heap.objs.size := I1.fpOk (Nat.le_refl _) (I1.hok.fresh (Nat.le_refl _))
  generalize s1.heap.objs.size = it at st2 f2 itlt ⊢
  refine wpAny_newObj_type (newEnv_comp ?_) (by show 0 ≤ sizeLine; decide)
  generalize hD : s2.heap.objs.size = D
  have hDn : H1 D = none := I2.hok.fresh (Nat.le_of_eq hD)
  obtain ⟨W, w0, wl, wE, turn⟩ := q D hDn
  -- the new list
  generalize hs3 : ({ s2 with heap := s2.heap.push { cls := .type "list", data := .seq ([] : List Value).toArray } } : Shared) = s3
  have h3 : s3.heap = s2.heap.push { cls := .type "list", data := .seq ([] : List Value).toArray } := by rw [← hs3]
  have I3 : Inv X pins σ (upd H1 D (.lst [])) s3 := by
    rw [← hs3]
    refine I2.laid (t' := s2.toks) (fun b o e => Heap.get?_push_of_some _ e) (Nat.le_of_eq hD) ⟨Nat.zero_le _, [], 0, .nil, ?_⟩
    rw [← hD]
    exact Heap.get?_push_size _ rfl
  have f3 : FpOk X pins (upd H1 D (.lst [])) it ∧ it < s3.heap.objs.size := ⟨⟨by rw [upd_ne (by rw [← hD]; exact Nat.ne_of_lt itlt)]; exact f2.1, f2.2⟩, by rw [h3, Heap.size_push]; exact Nat.lt_succ_of_lt itlt⟩
  have st3 : Heap.IsListIter s3.heap it a 0 := st2.at fun o e => by rw [h3]; exact Heap.get?_push_of_some _ e
  have f3' : ∀ b ∈ [it], FpOk X pins (upd H1 D (.lst [])) b ∧ b < s3.heap.objs.size := fun b hb => by rw [List.mem_singleton.mp hb]; exact f3
  have I4 := block_start I3 ok hN f3'
  generalize hcl : cellsFrom (s3.heap.objs.size + 1) scope.names (cloFrom X.env.cells scope.names []) = cl at I4
  have pg := hg s3 (upd H1 D (.lst [])) s3.heap.objs.size cl [it]
  have pt := ht s3 (upd H1 D (.lst [])) s3.heap.objs.size cl [it]
  have pe := he s3 (upd H1 D (.lst [])) s3.heap.objs.size cl [it]
  show codeAny _ _ (.compStart (.ListComp elt [⟨tg, iter, ifs, 0⟩] scope pos) 0 (.ref it) (.ref D) (compEnvC scope cl s3.heap.objs.size X.env)) (compPost (model X.prog X.w) X.A X.xe none _ (.ref D) s3.heap.objs.size) { s3 with heap := pushCells (s3.heap.push { cls := .type "dict", data := .dict #[] }) scope.names }
  generalize hce : compEnvC scope cl s3.heap.objs.size X.env = ce at I4 pg pt pe ⊢
  have cL : ce.locals = s3.heap.objs.size := by subst hce; rfl
  generalize hH3 : upd H1 D (.lst []) = H3 at I3 I4 pg pt pe w0 f3 f3'
  generalize hs4 : ({ s3 with heap := pushCells (s3.heap.push { cls := .type "dict", data := .dict #[] }) scope.names } : Shared) = s4 at I4 ⊢
  have k4 : ∀ b o, s3.heap.get? b = some o → s4.heap.get? b = some o := fun b o e => by rw [← hs4]; exact pushCells_keeps _ _ _ _ (Heap.get?_push_of_some _ e)
  have st4 : Heap.IsListIter s4.heap it a 0 := st3.at fun o e => k4 _ _ e
  have I4' : Inv (blkH X s3 H3 scope ce [it]) [] (wipe σ (own.map (·.2))) H3 s4 := inv_pn I4 fun p hp => by
    obtain ⟨e, n, ne, nf, d⟩ := I3.pin p (List.mem_append_left _ hp)
    refine ⟨k4 _ _ e, n, ?_, fun hm => (List.mem_cons.mp (I3.stkSub p.1 hm)).elim ne nf, d⟩
    show p.1 ≠ ce.locals
    rw [cL]
    exact Nat.ne_of_lt (Heap.lt_size e)
  have hcB : HotC (blkH X s3 H3 scope ce [it]) := hc
  have statI : ∀ {σ' : St} {H' : Hp} {s' : Shared}, Inv (blkH X s3 H3 scope ce [it]) [] σ' H' s' → H' it = none → FpOk (blkH X s3 H3 scope ce [it]) [] H' it := fun {σ' H' s'} I' hn =>
    ⟨hn, (I'.ok.exf it (by simp)).1, I'.ok.exfs it (by simp), .inl (by simp), fun x c e => (I'.ok.exf it (by simp)).2 x c e, fun p hp => f3.1.2.2.2.2.2 p (List.mem_append_left _ (by simpa using hp))⟩
  have loop : codeAny (model X.prog X.w) X.A (.compLoop (.ListComp elt [⟨tg, iter, ifs, 0⟩] scope pos) 0 (.ref it) (.ref D) ce) (compPost (model X.prog X.w) X.A X.xe none (EP X pins σ Q) (.ref D) s3.heap.objs.size) s4 := by
    refine compLoop_any (fun n s' => ∃ i H', n + i = xs.length ∧ Inv (blkH X s3 H3 scope ce [it]) [] (wipe σ (own.map (·.2))) H' s' ∧ Heap.IsListIter s'.heap it a i ∧ H' it = none ∧ W i H') ?_ xs.length ⟨0, H3, rfl, I4', st4, f3.1.1, w0⟩
    rintro n s5 ⟨i, H5, hni, I5, st5, n5, w5⟩
    obtain ⟨its5, rv5, p5, hz5⟩ := I5.list (wl i H5 w5)
    have hl5 := rv5.length
    obtain ⟨g0, g1, g2, g3, g4, g5⟩ := statI I5 n5
    by_cases hi : i < xs.length
    · -- an item
      obtain ⟨u, hu, ru⟩ := rv5.get (List.getElem?_eq_getElem hi)
      refine wpAny_pyNext_list_item st5 p5.isList (x := u) (by simpa using hu) fun h' st' sb => ?_
      have I7 : Inv (blkH X s3 H3 scope ce [it]) [] (wipe σ (own.map (·.2))) H5 { s5 with heap := h' } := I5.turned (t' := s5.toks) (fun b o hb e => (sb.2 b hb).trans e) g0 g1 g3 g4 g5
      obtain ⟨oi, ei, ci, di⟩ := id st'
      refine go_of (s := { s5 with heap := h' }) ei ci di (by decide) ?_
      have I7' := I7.pinned (fp := [it]) (fun b hb => by rw [List.mem_singleton.mp hb]; exact statI I7 n5) (fun b hb => by
        rw [List.mem_singleton.mp hb]
        exact ⟨oi, ei, fun v z => by rw [di] at z; cases z⟩)
      refine thnF (pg.run _ _ _ H5 _ u _ I7' ru (turn i _ H5 (List.getElem?_eq_getElem hi) w5)) fun _ s8 ⟨σ8, H8, I8, hw8, q8⟩ => ?_
      refine thnF (pt.run _ s8 σ8 H8 _ I8 q8) fun b s9 ⟨H9, I9, q9⟩ => ?_
      have fin : ∀ {s' : Shared} {H' : Hp}, Inv (blkH X s3 H3 scope ce [it]) ([] ++ pinsAt [it] h') σ8 H' s' → W (i + 1) H' → ∃ m, m < n ∧ ∃ i H', m + i = xs.length ∧ Inv (blkH X s3 H3 scope ce [it]) [] (wipe σ (own.map (·.2))) H' s' ∧ Heap.IsListIter s'.heap it a i ∧ H' it = none ∧ W i H' := fun {s' H'} I' w' => by
        have z := I'.pin (it, oi) (List.mem_append_right _ (List.mem_append_right _ (mem_pinsAt (by simp) ei)))
        have hl : (wipe σ (own.map (·.2))).length = σ8.length := by rw [← hw8, wipe_length]
        refine ⟨n - 1, by omega, i + 1, H', by omega, (I'.unpinned (pins := [])).weak hl (fun j v e => ?_), st'.at fun o e => by rw [ei] at e; cases e; exact z.1, z.2.1, w'⟩
        rw [← hw8] at e
        exact (wipe_some e).1
      cases b with
      | false =>
        simp only [Bool.false_eq_true, if_false] at q9 ⊢
        exact fin I9 q9
      | true =>
        simp only [if_true] at q9 ⊢
        refine thnF (pe.run _ s9 σ8 H9 _ I9 q9) fun z s10 ⟨yv, H10, I10, r10, acc, hD10, hz10, nx⟩ => ?_
        exact app_ok (X := blkH X s3 H3 scope ce [it]) I10 hD10 hz10 r10 fun s11 I11 => fin I11 nx
    · -- the end
      have ei : i = xs.length := by omega
      subst ei
      obtain ⟨x1, hot⟩ := hcB.at I5
      have nx1 : x1 ≠ it := by
        obtain ⟨p, ⟨hh, v1, e1, c1⟩, hp⟩ := id hc
        obtain ⟨hh2, _⟩ := id hot
        have : Value.ref x1 = Value.ref p.1 := Option.some.inj (hh2.symm.trans hh)
        cases this
        exact g5 p (List.mem_append_left _ hp)
      refine list_end_hot hot nx1 st5 p5.isList (by simp; omega) fun h' eb => ?_
      have I6 : Inv (blkH X s3 H3 scope ce [it]) [] (wipe σ (own.map (·.2))) H5 { s5 with heap := h' } := I5.turned (t' := s5.toks) (fun b o hb e => eb b o hb e) g0 g1 g3 g4 g5
      have J : Inv X pins σ H5 { s5 with heap := h' } := I3.call' (ch := [it]) I6.os I6.base I6.hok I6.bare fun b hb => by
        rw [List.mem_singleton.mp hb]
        exact ⟨f3.1.2.2.2.1, f3.1.2.1, f3.1.2.2.2.2.1, f3.1.2.2.2.2.2⟩
      have nC : H5 s3.heap.objs.size = none := by
        have z : H5 ce.locals = none := I6.free
        rw [cL] at z
        exact z
      obtain ⟨m, hn, _⟩ := I6.loc
      have hn : Heap.Ns h' ce.locals m := hn
      rw [cL] at hn
      refine ⟨m, hn, fun h'' sb => ?_⟩
      obtain ⟨k0, k1, k2, k3, k4', k5⟩ := I3.fpOk (Nat.le_refl _) nC
      exact ⟨.ref D, H5, J.turned (t' := s5.toks) (fun b o hb e => (sb.2 b hb).trans e) k0 k1 k3 k4' k5, rfl, wE H5 w5⟩
  exact codeAny_compStart_list loop (wpAny_pyIter_listiter st4 loop)
end
end PR

set_option Elab.async false
set_option linter.all false
set_option maxRecDepth 100000
set_option maxHeartbeats 4000000
/-! A def that is handed the exception that is handled, and tells its kind by a word. -/
namespace PR
open PySem PySem.Spec PyProof.Rows L2 HotX L2H
/-- the def at f answers kd's word of the class of the exception that it is handed -/
structure FnE (P : Program) (w : World) (K : PySem.W.Frag) (mg : Str → Option Value) (base : Heap) (k : Nat) (f : Addr) (fd : FuncData) (ps : List Str) (kd : Addr → Str → Prop) : Prop where
  run : ∀ (A : Around) (outer : List Env) (s : Shared) (H : Hp) (args : Args) (Q : VK) (p : Addr × Obj) (D : Addr) (wd : Str), RoomH k A → Hot1 A p → PinOk outer H s p → Zc (.ref D) none p.2 → (∃ vs, p.2.data = .fields vs) → kd D wd →
    Env0 P w K mg base A outer s H → BindsTo s fd args (ps.zip [.ref p.1]) → (∀ H', Same H H' → Q (.str wd) H') → codeAny (model P w) A (.call (.ref f) args) (CR CX0 outer P w H s Q E0) s
theorem fn_ofE {P : Program} {w : World} {K : PySem.W.Frag} {mg : Str → Option Value} {base : Heap} {k : Nat} {f : Addr} {name qual : Str} {params : Arguments} {body : List Stmt} {scope : Scope} {dV kV doc pm cdv ct oc : Value} {an od : Option Addr}
    {osl : Array (Option Value)} {N ps : List Str} {kd : Addr → Str → Prop} (lk : K.lookup f = some ⟨oc, od, .func (PySem.W.fnOf name qual params body scope dV kV doc pm an cdv ct), osl⟩) (hcd : PySem.W.codeIn K cdv qual = true) (S : FnScope N ps scope) (hl1 : ps.length = 1)
    (hbody : ∀ (A : Around) (outer : List Env) (s : Shared) (H : Hp) (Q : VK) (p : Addr × Obj) (D : Addr) (wd : Str), Hot1 A p → RoomH k (A.deeper (envOfC qual scope s.heap.objs.size f cdv)) → Zc (.ref D) none p.2 → (∃ vs, p.2.data = .fields vs) → kd D wd → (∀ H', Same H H' → Q (.str wd) H') →
      ∃ t, PSs (cxH CX0 P w K mg base N qual scope f cdv A outer s H E0 p) body t ∧ t { nx := fun _ H' => Q .non H', rt := Q } (L2.start N [.ref p.1]) H) :
    FnE P w K mg base (k + 1) f (PySem.W.fnOf name qual params body scope dV kV doc pm an cdv ct) ps kd := by
  refine ⟨fun A outer s H args Q p D wd hr hot hpin hz hfs hkd e0 hb hQ => ?_⟩
  have KX : K.In s.heap := e0.mod.kin.keeps fun b o e => (e0.bs b o e).1
  have lim : s.heap.NoLimit := e0.mod.nolimit.keeps fun b o e => (e0.bs b o e).1
  have hkind : ∀ y ∈ ps.zip [Value.ref p.1], scope.names.lookup y.1 = some .local ∨ (scope.names.lookup y.1 = some .cell ∧ ((cellsFrom (s.heap.objs.size + 1) scope.names []).lookup y.1).isSome = true) := fun ⟨n, v⟩ hy =>
    (S.par n (List.of_mem_zip hy).1).elim (fun q => .inl q) fun q => .inr ⟨q, PySem.W.cellsFrom_some _ _ _ (.inl q)⟩
  refine codeAny_call_function hr.depth (KX _ _ lk) rfl S.co S.gen rfl (PySem.W.codeRec_of KX hcd) (hb _ _ _ _ (wpAny_newFunctionEnv_cells S.kind hkind fun env he s1 x => ?_))
  subst he
  refine ⟨lim.keeps x.toInCall.keep, codeAny_func ?_⟩
  obtain ⟨t, ht, hq⟩ := hbody A outer s H Q p D wd hot (hr.deeper _) hz hfs hkd hQ
  have I : Inv (cxH CX0 P w K mg base N qual scope f cdv A outer s H E0 p) [] (L2.start N [.ref p.1]) H s1 := inv_startH S hpin e0 (by simp [hl1]) (.cons rfl .nil) x
  refine wpAny_mono (ht.run [] s1 _ H _ I hq) (fun fl s' hs => ?_) fun e s' hs => hs
  have fin : ∀ {σ' : St} {H' : Hp} {v : V} {u : Value}, Inv (cxH CX0 P w K mg base N qual scope f cdv A outer s H E0 p) [] σ' H' s' → RelV v u → Q v H' → CE outer P w H s Q u s' := fun {σ' H' v u} J rv q => ⟨v, H', J.os, J.bare, J.base, J.hok, rv, q⟩
  cases fl with
  | ret u => obtain ⟨v, σ', H', J, rv, q⟩ := hs; exact fin J rv q
  | next => obtain ⟨σ', H', J, q⟩ := hs; exact fin (v := V.non) (u := Value.none) J rfl q
  | brk => obtain ⟨_, _, _, q⟩ := hs; exact False.elim q
  | cont => obtain ⟨_, _, _, q⟩ := hs; exact False.elim q
/-- isinstance(e, c), e an exception that is kept in mind -/
theorem call_isP {X : Cx} {p : Addr × Obj} {D : Addr} (hp : p ∈ X.pn) (C : ExcC X.K D) (hz : Zc (.ref D) none p.2) (hf : ∃ vs, p.2.data = .fields vs) : CallR X (.builtin "isinstance") (rIsE X.K D p.1) := by
  intro pins s σ H xs us Q I r h
  obtain ⟨c, cv, b, rfl, hcv, e, q⟩ := h
  cases r with
  | cons rx rr =>
    cases rr with
    | cons rt rr =>
      cases rr
      cases rx
      have ec := hcv _ rt
      subst ec
      obtain ⟨hget, _⟩ := I.pin p (List.mem_append_left _ hp)
      obtain ⟨vs, hv⟩ := hf
      have J : PySem.W.InstAt s.heap p.1 p.2 D none := by
        obtain ⟨pa, oc, od, oda, osl⟩ := p
        obtain ⟨h1, h2⟩ := hz
        dsimp only at h1 h2 hv
        subst h1 h2 hv
        exact ⟨hget, rfl, rfl, trivial⟩
      exact PySem.W.kia_one (PySem.W.handS_kitx_exc C.hg C.hk C.hs C.hd C.ha C.hn C.ht C.hm) I.kIn J e (fun z => nomatch z) fun tk => ⟨.bl b, H, I.kept (t' := tk) fun _ _ z => z, rfl, q⟩
/-- f(e), e the exception that is handled -/
theorem pe_callE {X : Cx} {k : Nat} {f D : Addr} {fd : FuncData} {ps : List Str} {kd : Addr → Str → Prop} {x wd : Str} {q pos : Pos} {e : Expr} {te : TE} {p : Addr × Obj} (F : FnE X.prog X.w X.K X.mg X.base k f fd ps kd) (hr : RoomH k X.A) (hot : Hot1 X.A p) (hp : p ∈ X.pn)
    (hz : Zc (.ref D) none p.2) (hfs : ∃ vs, p.2.data = .fields vs) (hkd : kd D wd) (hg : Gl X x) (hm : X.mg x = some (.ref f)) (hk : PySem.W.keepIn X.K (.ref f) = true) (hb : Binds X.K fd ps []) (hl : ps.length = 1) (he : PE X e te)
    (hdb : (x == ("__debug__" : Str)) = false := by decide) (hst : starEach [e] X.env = (false, eval e X.env) :: starEach [] X.env := by rfl) :
    PE X (.Call (.Name x q) [e] [] pos) (fun σ H Q => te σ H fun v H1 => v = .ref p.1 ∧ ∀ H2, Same H1 H2 → Q (.str wd) H2) := by
  refine ⟨fun pins s σ H Q I h => ?_⟩
  have ha : PA X [e] _ := pa_cons he pa_nil hst
  refine wpAny_Call_Name_kw (ld_glob I hg hm ?_ hdb)
  refine PySem.W.callWith_K (h₀ := X.base) I.ok.mod.kin hk (thn (ha.run pos pins s σ H (fun vs H1 => vs = [.ref p.1] ∧ ∀ H2, Same H1 H2 → Q (.str wd) H2) I ?_) fun us s1 ⟨vs, H1, I1, r, e1, q1⟩ => ⟨I1.kIn, ?_⟩) hst rfl
  · exact (show te σ H fun v H1 => _ from h) |> fun z => by
      refine (?_ : te σ H fun v H1 => [v] = [V.ref p.1] ∧ ∀ H2, Same H1 H2 → Q (.str wd) H2)
      have e : (fun (v : V) H1 => [v] = [V.ref p.1] ∧ ∀ H2, Same H1 H2 → Q (.str wd) H2) = fun v H1 => v = V.ref p.1 ∧ ∀ H2, Same H1 H2 → Q (.str wd) H2 := by
        funext v H1
        simp
      rw [e]
      exact z
  · subst e1
    cases r with
    | cons r rr =>
      cases rr
      cases r
      have b := hb s1 [.ref p.1] I1.kIn (by simp [hl])
      rw [List.append_nil] at b
      have P1 := I1.pin p (List.mem_append_left _ hp)
      have hpin : PinOk X.stack H1 s1 p := ⟨P1.1, P1.2.1, fun hm => (List.mem_cons.mp (I1.stkSub p.1 hm)).elim P1.2.2.1 P1.2.2.2.1, P1.2.2.2.2⟩
      refine wpAny_call (codeAny_mono (F.run X.A X.stack s1 H1 ⟨[.ref p.1], []⟩ Q p D wd hr hot hpin hz hfs hkd I1.env0 b q1) fun r s' hq => ?_)
      cases r with
      | error e => exact hq.elim
      | ok fl =>
        cases fl with
        | ret u => exact I1.after hq
        | next => exact False.elim hq
        | brk => exact False.elim hq
        | cont => exact False.elim hq
/-- the suite `return f(e)` -/
theorem ps_retE {X : Cx} {k i : Nat} {f a : Addr} {oe : Obj} {cls : Value} {d : Option Addr} {fd : FuncData} {ps : List Str} {kd : Addr → Str → Prop} {x n : Str} {q q2 pos rp : Pos} {pn : List (Addr × Obj)} (hz : L2N.Zn cls d oe) (hfs : ∃ vs, oe.data = .fields vs)
    (F : FnE X.prog X.w X.K X.mg X.base k f fd ps kd) (hr : RoomH k (X.suite a ((a, oe) :: pn)).A) (hg : Gl X x) (hm : X.mg x = some (.ref f)) (hk : PySem.W.keepIn X.K (.ref f) = true) (hb : Binds X.K fd ps []) (hl : ps.length = 1)
    (hi : X.N[i]? = some n) (hv : Vis X.env.scope n) (hn1 : (n == ("__debug__" : Str)) = false) (hn2 : (n == ("__classdict__" : Str)) = false) (hdb : (x == ("__debug__" : Str)) = false) :
    PSs (X.suite a ((a, oe) :: pn)) [.Return (some (.Call (.Name x q) [.Name n q2] [] pos)) rp] (fun D σ H => ∃ Dc wd, cls = .ref Dc ∧ d = none ∧ kd Dc wd ∧ σ[i]? = some (some (.ref a)) ∧ ∀ H2, Same H H2 → D.rt (.str wd) H2) := by
  refine ⟨fun pins s σ H D I h => ?_⟩
  obtain ⟨Dc, wd, rfl, rfl, hkd, hσ, hQ⟩ := h
  obtain ⟨vs, hvs⟩ := id hfs
  have hot : Hot1 (X.suite a ((a, oe) :: pn)).A (a, oe) := ⟨rfl, vs, hvs, hz.2.2 vs hvs⟩
  have hp : (a, oe) ∈ (X.suite a ((a, oe) :: pn)).pn := List.mem_cons_self
  have pe := pe_callE (X := X.suite a ((a, oe) :: pn)) (q := q) (pos := pos) F hr hot hp hz.zc hfs hkd hg hm hk hb hl (pe_var (i := i) (pos := q2) hi hv hn1 hn2) hdb
  exact (pss_one (ps_ret pe)).run pins s σ H D I ⟨_, hσ, rfl, hQ⟩
end PR

set_option Elab.async false
set_option linter.all false
set_option maxRecDepth 100000
set_option maxHeartbeats 4000000
/-! Frames of methods over plain data; the tests of Row's and Cleaner's own beginnings. -/
namespace PD
open PySem PySem.Spec PyProof.Rows L2 StX
/-- where the tape's content is the same again, nothing of the old has changed -/
theorem ext_P {W : TW} {F H F' H' : Hp} {τ : TS} (x : Ext W.tp F H F' H') (t : TapeAt W F H τ) (t' : TapeAt W F' H' τ) : ExtP F H F' H' :=
  ⟨x.ff, x.fh, fun a o h n => by
    by_cases z : a = W.tp
    · subst z
      rw [t.at_] at h; cases h
      exact ⟨t'.at_, t'.out⟩
    · exact x.hh a o h n z⟩
/-- a frame that begins: its slots are data that lie in F, or nothing is said of them -/
theorem rel_of {C : Con} {W : TW} {F H : Hp} {σ : L2.St} {ρ : Env'} {τ : TS} (hl : σ.length = ρ.length) (sb : Sub F H) (t : TapeAt W F H τ)
    (h : ∀ (i : Nat) (s : Slot) (v : Option V), ρ[i]? = some s → σ[i]? = some v → (match s with | .un => True | .d x => ∃ u, v = some u ∧ R C F u x | _ => False)) : Rel C W F H F H σ ρ τ := by
  refine ⟨hl, Ext.rfl' sb, fun i s v e1 e2 => ?_, fun i j s u a e1 _ o1 _ e3 _ => ?_, t⟩
  · have := h i s v e1 e2
    cases s with
    | un => trivial
    | d x => exact this
    | tape => exact this.elim
    | ol xs => exact this.elim
  · have := h i s _ e1 e3
    cases s with
    | un => cases o1
    | d x => cases o1
    | tape => exact this.elim
    | ol xs => exact this.elim
theorem ev_tupG {P : Sg} (ht : P.tk = false) {es : Es} {ρ : Env'} {τ τ1 : TS} {ds : List D} (h : evs P es ρ τ = some (ds, τ1)) (hl : ds.length ≤ 4000) : ev P (.tup es) ρ τ = some (.tup ds, τ1) := by
  rw [ev, h]
  simp only [Option.bind_some, okT, sl1 hl, ht, Bool.false_and, Bool.not_false, decide_true, Bool.and_true, if_true]
/-- the tests of Row's beginning -/
def tAllSteps (i j : Nat) : Tt := .not (.val (.blt .all (.cons (.comp (.call 0 (.cons (.var j) .nil)) (.nm j) (.data (.var i)) .yes [j]) .nil)))
def tLenGt (i : Nat) : Tt := .cmp .Gt (.blt .len (.cons (.var i) .nil)) (.cst 0)
theorem allsteps_ev {P : Sg} {ns : List Int} (hP : ∀ ds τ, P.G 0 ds τ = GIsStep false ns ds τ) {a b : Slot} (xs : List D) (hl : xs.length ≤ 1000) (hb : ∀ x ∈ xs, bnd x = true) (τ : TS) :
    evt P (tAllSteps 1 2) [a, .d (.tup xs), b] τ = some (!(xs.all isStepD), τ) := by
  have hc : compL (cbody P (.call 0 (.cons (.var 2) .nil)) (.nm 2) .yes [2] [a, .d (.tup xs), b]) xs τ = some (xs.map fun x => D.bl (isStepD x), τ) := by
    have := compL_map (f := cbody P (.call 0 (.cons (.var 2) .nil)) (.nm 2) .yes [2] [a, .d (.tup xs), b]) (g := id) (h := fun x => D.bl (isStepD x)) (τ := τ) (l := xs) fun x hx => by
      unfold cbody
      simp only [wipeE, bindT, Option.bind_some, evt, if_true, List.set, id]
      rw [ev_call0 (evs_cons (ev_var rfl) evs_nil) (show P.G 0 [x] τ = _ from (hP _ _).trans (isstep_ok false ns x (hb x hx) (fun h => by cases h) τ))]
      rfl
    rw [List.map_id] at this
    exact this
  unfold tAllSteps
  rw [evt, evt, ev, evs_cons (ev_comp (evi_data (ev_var rfl) rfl) hc (sl1 (by rw [List.length_map]; omega))) evs_nil]
  simp only [Option.bind_some, bD, allD]
  have e := bools_map (xs.map isStepD)
  rw [List.map_map] at e
  have e3 : (xs.map fun x => D.bl (isStepD x)) = xs.map (D.bl ∘ isStepD) := rfl
  rw [e3, e]
  simp only [Option.map_some, Option.bind_some, truD, List.all_map]
  rfl
theorem lengt_ev {P : Sg} (hc : P.cs[0]? = some (.int 3)) {a b : Slot} (xs : List D) (hl : xs.length ≤ 1000) (τ : TS) : evt P (tLenGt 1) [a, .d (.tup xs), b] τ = some (decide (3 < xs.length), τ) := by
  refine evt_cmp0 (len_tup0 (ev_var rfl)) (y := .int 3) (by rw [ev, hc]; rfl) ?_
  simp only [cmpD, gtD, ordD]
  congr 2
  exact decide_eq_decide.mpr (by omega)
/-- the test of Cleaner's beginning -/
def tNotRow (i : Nat) : Tt := .not (.val (.call 0 (.cons (.var i) .nil)))
theorem notrow_ev {P : Sg} {ns : List Int} (hP : ∀ ds τ, P.G 0 ds τ = GIsRow false ns ds τ) {a : Slot} (x : D) (hb : bnd x = true) (τ : TS) : evt P (tNotRow 1) [a, .d x] τ = some (!isRowD x, τ) := by
  unfold tNotRow
  rw [evt, evt, ev_call0 (evs_cons (ev_var rfl) evs_nil) (show P.G 0 [x] τ = _ from (hP _ _).trans (isrow_ok false ns x hb (fun h => by cases h) τ))]
  rfl
/-- an object that is not of the old heap is changed -/
theorem ExtP.write {F H F' H' : Hp} (x : ExtP F H F' H') {p : Addr} (o : HO) (hp : H p = none) (np : F' p = none) : ExtP F H F' (upd H' p o) := by
  refine ⟨x.ff, fun a u e => ?_, fun a u e n => ?_⟩
  · rw [upd_ne (fun q => by rw [q, np] at e; cases e)]; exact x.fh a u e
  · have q : a ≠ p := fun q => by rw [q, hp] at e; cases e
    rw [upd_ne q]; exact x.hh a u e n
theorem ExtP.same {F H F' H' H2 : Hp} (x : ExtP F H F' H') (s : Same H' H2) : ExtP F H F' H2 :=
  ⟨x.ff, fun a u e => s a u (x.fh a u e), fun a u e n => ⟨s a u (x.hh a u e n).1, (x.hh a u e n).2⟩⟩
theorem Ext.same {tp : Addr} {F H F' H' H2 : Hp} (x : Ext tp F H F' H') (s : Same H' H2) : Ext tp F H F' H2 :=
  ⟨x.ff, fun a u e => s a u (x.fh a u e), fun a u e n nt => ⟨s a u (x.hh a u e n nt).1, (x.hh a u e n nt).2⟩⟩
theorem TapeAt.same {W : TW} {F H H2 : Hp} {τ : TS} (t : TapeAt W F H τ) (s : Same H H2) : TapeAt W F H2 τ := ⟨t.out, s _ _ t.at_, t.cells⟩
theorem takes0N {X : Cx} : L2N.Takes X (fun _ _ _ _ => False) := fun _ _ x => by
  obtain ⟨_, _, _, _, _, _, _, _, _, _, _, _, _, _, _, _, z⟩ := x
  exact z.elim
/-- a callee's exception is taken, the frame's slots being as many as its names -/
theorem passes_len {X : Cx} {W : WX} (tk : L2N.Takes X W) : Passes (L2N.CX X.prog X.w) X (fun cls d H => ∀ σ : L2.St, σ.length = X.N.length → W cls d σ H) :=
  fun _ _ _ _ e s' I c => tk e s' (L2N.XE.of_call I (fun _ _ _ h => h _ I.len) c)
/-- C(), its beginning a promise of positions -/
theorem pe_makeR0 {X : Cx} {CX : CXT} {k : Nat} {f C : Addr} {sp : Sp} {E : XK} {x : Str} {p pos : Pos} (M : Mk X.K C f) (F : FnR X.prog X.w X.K X.mg X.base CX k f sp) (hr : Room (k + 1) X.A) (hg : Gl X x) (hm : X.mg x = some (.ref C)) (hx : Passes CX X E) (hdb : (x == ("__debug__" : Str)) = false := by decide) :
    PE X (.Call (.Name x p) [] [] pos) (tMakeR C sp E tNil) := by
  refine ⟨fun pins s σ H Q I h => ?_⟩
  refine wpAny_Call_Name_kw (ld_glob I hg hm ?_ hdb)
  exact PySem.W.callWith_K0 I.kIn M.kp (run_makeR (us := []) M F hr hx I .nil h)
end PD

set_option Elab.async false
set_option linter.all false
set_option maxRecDepth 100000
set_option maxHeartbeats 4000000
/-! What the classes of errors, Row and Cleaner say; Row(..).steps where an error is taken. -/
namespace PD
open PySem PySem.Spec PyProof.Rows L2 HotX L2H PR StX
/-- the five kinds -/
def wordE : Fin 5 → Str
  | 0 => "step" | 1 => "text" | 2 => "index" | 3 => "many" | 4 => "nothing"
def nameE : Fin 5 → Str
  | 0 => "InvalidStep" | 1 => "InvalidText" | 2 => "InvalidIndex" | 3 => "TooMany" | 4 => "NothingToUndo"
def codeE : Fin 5 → List Nat
  | 0 => [115, 116, 101, 112] | 1 => [116, 101, 120, 116] | 2 => [105, 110, 100, 101, 120] | 3 => [109, 97, 110, 121] | 4 => [110, 111, 116, 104, 105, 110, 103]
theorem word_code : ∀ i : Fin 5, wordE i = tx (codeE i)
  | 0 => rfl | 1 => rfl | 2 => rfl | 3 => rfl | 4 => rfl
structure TxE (K : PySem.W.Frag) (mg : Str → Option Value) (c : Fin 5 → Addr) (cC : Addr) : Prop where
  mgc : ∀ i, mg (nameE i) = some (.ref (c i))
  isn : mg "isinstance" = none
  ex : ∀ i, ExcC K (c i)
  kit : ∀ i j, PySem.W.kitOne K (.ref (c i)) (.ref (c j)) = some (decide (i = j))
  xp : ∀ i, PySem.W.excIn K (c i) [.type "ValueError", .type "Exception", .type "BaseException", .type "object"] "ValueError.__new__" = true
  kp : ∀ i, PySem.W.keepIn K (.ref (c i)) = true
  sb : ∀ i, PySem.W.subIn K (.ref (c i)) (.type "BaseException") = some true
  ty : ∀ i, PySem.W.typeIn K (.ref (c i)) = some (.type "type")
  mgC : mg "CleanError" = some (.ref cC)
  em : ∀ i, PySem.W.exmOne K (.ref (c i)) (.ref cC) = some true
def kdE (c : Fin 5 → Addr) (D : Addr) (wd : Str) : Prop := ∃ i, D = c i ∧ wd = wordE i
theorem rv_ref (a : Addr) : ∀ u, RelV (.ref a) u → u = .ref a := fun u h => h
structure TxRow (K : PySem.W.Frag) (mg : Str → Option Value) (Cr : Addr) : Prop where
  cl : Cls K Cr
  nH : NoAttr K Cr "held"
  mgR : mg "Row" = some (.ref Cr)
/-- Row(*ds): the steps, held; or the error -/
def spRI (Cn : PD.Con) (Cr : Addr) (c : Fin 5 → Addr) : Sp := fun vs H Q E => ∃ (W : TW) (F : Hp) (x dx p : Addr) (ds : List D) (τ : TS), vs = [.ref x, .ref p] ∧ ds.length ≤ 1000 ∧ (∀ d ∈ ds, bnd d = true) ∧ R Cn F (.ref p) (.tup ds) ∧ Sub F H ∧ TapeAt W F H τ ∧ H x = some (.ins Cr dx []) ∧ F x = none ∧
  (ds.all isStepD = true → ds.length ≤ 3 → ∀ F' H', ExtP F H F' H' → R Cn F' (.ref p) (.tup ds) → Q .non (upd H' x (.ins Cr dx [("held", .ref p)]))) ∧
  (ds.all isStepD = false → ∀ F' H', ExtP F H F' H' → E (.ref (c 0)) none H') ∧
  (ds.all isStepD = true → 3 < ds.length → ∀ F' H', ExtP F H F' H' → E (.ref (c 3)) none H')
def spRIs (Cn : PD.Con) (Cr : Addr) (c : Fin 5 → Addr) : Sp := fun vs H Q E => ∃ ws rest, vs = ws ++ rest ∧ ws.length = (["self"] : List Str).length ∧ rest.length ≤ sizeLine ∧ ∀ p, H p = Option.none → spRI Cn Cr c (ws ++ [V.ref p]) (upd H p (.tup rest)) Q E
/-- a new instance of C at x: nothing old has changed -/
theorem made_ext {F H : Hp} (sb : Sub F H) {x dx C : Addr} (hx : H x = none) (hdx : H dx = none) (ne : dx ≠ x) : ExtP F H F (upd (upd H dx (.own x)) x (.ins C dx [])) :=
  (ExtP.raw sb (.own x) hdx).tr (ExtP.raw (ExtP.raw sb (.own x) hdx).fh (.ins C dx []) (by rw [upd_ne (Ne.symm ne)]; exact hx))
/-- what the call of a Row's making brings: from the arguments' values to the object -/
theorem row_made {Cn : Con} {W : TW} {Cr : Addr} {c : Fin 5 → Addr} {F H : Hp} {τ : TS} {us : List V} {ds : List D} {Q : VK} {E : XK} (tk : Cn.tk = false) (sb : Sub F H) (ht : TapeAt W F H τ) (ra : RA Cn F us ds) (hl : ds.length ≤ 1000) (hb : ∀ d ∈ ds, bnd d = true)
    (h1 : ds.all isStepD = true → ds.length ≤ 3 → ∀ x dx p F' H', ExtP F H F' H' → R Cn F' (.ref p) (.tup ds) → H' x = some (.ins Cr dx [("held", .ref p)]) → H x = none → F' x = none → Q (.ref x) H')
    (h2 : ds.all isStepD = false → ∀ F' H', ExtP F H F' H' → E (.ref (c 0)) none H') (h3 : ds.all isStepD = true → 3 < ds.length → ∀ F' H', ExtP F H F' H' → E (.ref (c 3)) none H') :
    ∀ x dx, H x = none → H dx = none → dx ≠ x → spRIs Cn Cr c (V.ref x :: us) (upd (upd H dx (.own x)) x (.ins Cr dx [])) (fun v H2 => v = .non ∧ Q (.ref x) H2) E := by
  intro x dx hx hdx ne
  have e1 := made_ext (C := Cr) sb hx hdx ne
  refine ⟨[.ref x], us, rfl, rfl, by rw [ra.len]; exact sl1 (by omega), fun p hp => ?_⟩
  have e2 := ExtP.new e1.fh (.tup us) hp
  have e12 := e1.tr e2
  have hR : R Cn (upd F p (.tup us)) (.ref p) (.tup ds) := .tup (.inl (.inl upd_same)) (RA.sub e12.ff ds ra) fun z => by rw [tk] at z; cases z
  have npx : p ≠ x := fun z => by rw [z, upd_same] at hp; cases hp
  have nF : (upd F p (.tup us)) x = none := by rw [upd_ne (Ne.symm npx)]; exact sb.none hx
  refine ⟨W, upd F p (.tup us), x, dx, p, ds, τ, rfl, hl, hb, hR, e2.fh, (ht.extP e1).extP e2, by rw [upd_ne (Ne.symm npx), upd_same], nF, fun q1 q2 F' H' x3 r3 => ⟨rfl, ?_⟩, fun q F' H' x3 => h2 q F' H' (e12.tr x3), fun q1 q2 F' H' x3 => h3 q1 q2 F' H' (e12.tr x3)⟩
  have nF' : F' x = none := (x3.hh x _ (show (upd (upd (upd H dx (.own x)) x (.ins Cr dx [])) p (.tup us)) x = some (.ins Cr dx []) by rw [upd_ne (Ne.symm npx), upd_same]) nF).2
  exact h1 q1 q2 x dx p F' _ ((e12.tr x3).write _ hx nF') r3 upd_same hx nF'
section
variable {nm : Nm} {P : Sg} {Cn : Con} {W : TW} {X : Cx}
/-- Row(e, ..).steps, in a try -/
theorem pe_rowsteps (g : Good nm P Cn W false X) (tkf : Cn.tk = false) {Wx : WX} (tk : L2N.Takes X Wx) {Cr fI p0 g0 : Addr} {c : Fin 5 → Addr} {k : Nat} {fdG : FuncData} {e : Expr} {es : List Expr} {e' : E} {es' : Es} {p pos pos2 : Pos} (TR : TxRow X.K X.mg Cr) (M : Mk X.K Cr fI)
    (FI : FnR X.prog X.w X.K X.mg X.base (L2N.CX X.prog X.w) k fI (spRIs Cn Cr c)) (hp : PropOf X.K Cr "steps" p0 g0) (FG : FnOk X.prog X.w X.K X.mg X.base CX0 k g0 fdG ["self"] (getSp Cr "held")) (bG : Binds X.K fdG ["self"] []) (hr : Room (k + 1) X.A) (hg : Gl X "Row")
    (ck : chkA nm X.env.scope (.cons e' es') (e :: es) = true) (he : starEach (e :: es) X.env = (false, eval e X.env) :: starEach es X.env := by rfl) (hpl : (backTo pos (starEach es X.env)).any (·.1) = false := by rfl) :
    PE X (.Attribute (.Call (.Name "Row" p) (e :: es) [] pos) "steps" pos2) (fun σ H Q => ∃ F0 H0 F ρ τ ds τ', Rel Cn W F0 H0 F H σ ρ τ ∧ evs P (.cons e' es') ρ τ = some (ds, τ') ∧ ds.length ≤ 1000 ∧ (∀ d ∈ ds, bnd d = true) ∧
      (ds.all isStepD = true → ds.length ≤ 3 → ∀ v F' H', Ext W.tp F H F' H' → Rel Cn W F0 H0 F' H' σ ρ τ' → R Cn F' v (.tup ds) → Q v H') ∧
      (ds.all isStepD = false → ∀ F' H', Ext W.tp F H F' H' → Rel Cn W F0 H0 F' H' σ ρ τ' → ∀ σ' : L2.St, σ'.length = nm.N.length → Wx (.ref (c 0)) none σ' H') ∧
      (ds.all isStepD = true → 3 < ds.length → ∀ F' H', Ext W.tp F H F' H' → Rel Cn W F0 H0 F' H' σ ρ τ' → ∀ σ' : L2.St, σ'.length = nm.N.length → Wx (.ref (c 3)) none σ' H')) := by
  have pm := pe_makeR (p := p) (pos := pos) M FI hr hg TR.mgR (passes_len tk) (a_ok (.cons e' es') g (e :: es) ck) (by decide) he hpl
  refine pe_imp (pe_prop (pos := pos2) pm TR.cl hp FG hr bG .nil pass0 rfl) fun σ H Q => ?_
  rintro ⟨F0, H0, F, ρ, τ, ds, τ', r, ev', hl, hb, h1, h2, h3⟩
  rw [← g.hN] at h2 h3
  refine ⟨F0, H0, F, ρ, τ, ds, τ', r, ev', fun us F1 H1 x1 r1 ra => ?_⟩
  refine row_made (W := W) (c := c) (Cr := Cr) (Q := fun v H1 => ∃ a dx fs, v = V.ref a ∧ H1 a = some (HO.ins Cr dx fs) ∧ getSp Cr "held" [V.ref a] H1 Q E0) (E := fun cls d H => ∀ σ' : L2.St, σ'.length = X.N.length → Wx cls d σ' H) tkf x1.fh r1.tape ra hl hb (fun q1 q2 x dx p F' H' x2 r2 ex _ _ => ?_) (fun q F' H' x2 => h2 q F' H' (x1.tr x2.ext) (r1.extP x2)) fun q1 q2 F' H' x2 => h3 q1 q2 F' H' (x1.tr x2.ext) (r1.extP x2)
  exact ⟨x, dx, _, rfl, ex, x, dx, _, _, rfl, ex, rfl, h1 q1 q2 _ F' H' (x1.tr x2.ext) (r1.extP x2) r2⟩
/-- Row().steps, where it is not reached -/
theorem pe_row0 {Wx : WX} (tk : L2N.Takes X Wx) {Cr fI p0 g0 : Addr} {c : Fin 5 → Addr} {k : Nat} {fdG : FuncData} {p pos pos2 : Pos} (TR : TxRow X.K X.mg Cr) (M : Mk X.K Cr fI)
    (FI : FnR X.prog X.w X.K X.mg X.base (L2N.CX X.prog X.w) k fI (spRIs Cn Cr c)) (hp : PropOf X.K Cr "steps" p0 g0) (FG : FnOk X.prog X.w X.K X.mg X.base CX0 k g0 fdG ["self"] (getSp Cr "held")) (bG : Binds X.K fdG ["self"] []) (hr : Room (k + 1) X.A) (hg : Gl X "Row") :
    PE X (.Attribute (.Call (.Name "Row" p) [] [] pos) "steps" pos2) (fun _ _ _ => False) :=
  pe_imp (pe_prop (pos := pos2) (pe_makeR0 (p := p) (pos := pos) M FI hr hg TR.mgR (passes_len tk)) TR.cl hp FG hr bG .nil pass0 rfl) fun _ _ _ h => h.elim
end
end PD

set_option Elab.async false
set_option linter.all false
set_option maxRecDepth 100000
set_option maxHeartbeats 4000000
/-! Cleaner's beginning and what is read of it; expressions that have one value. -/
namespace PD
open PySem PySem.Spec PyProof.Rows L2 HotX L2H PR StX
structure TxC (K : PySem.W.Frag) (mg : Str → Option Value) (Cc : Addr) : Prop where
  cl : Cls K Cc
  nN : NoAttr K Cc "now"
  nE : NoAttr K Cc "earlier"
  mgC : mg "Cleaner" = some (.ref Cc)
/-- Cleaner(d) -/
def spCI (Cn : PD.Con) (Cc : Addr) (c : Fin 5 → Addr) : Sp := fun vs H Q E => ∃ (W : TW) (F : Hp) (x dx : Addr) (v : V) (d : D) (τ : TS), vs = [.ref x, v] ∧ bnd d = true ∧ R Cn F v d ∧ Sub F H ∧ TapeAt W F H τ ∧ H x = some (.ins Cc dx []) ∧ F x = none ∧
  (isRowD d = true → ∀ F' H' vn ve, Ext x F H F' H' → F' x = none → R Cn F' vn (.tup [d, .tup []]) → R Cn F' ve (.tup []) → H' x = some (.ins Cc dx [("now", vn), ("earlier", ve)]) → Q .non H') ∧
  (isRowD d = false → ∀ F' H', ExtP F H F' H' → E (.ref (c 0)) none H')
/-- c.row (i = 0), c.texts (i = 1) -/
def spCG (Cn : PD.Con) (Cc : Addr) (i : Nat) : Sp := fun vs H Q _ => ∃ (F : Hp) (a dx : Addr) (fs : List (Str × V)) (vn : V) (ds : List D) (d : D), vs = [.ref a] ∧ H a = some (.ins Cc dx fs) ∧ fs.lookup ("now" : Str) = some vn ∧ R Cn F vn (.tup ds) ∧ Sub F H ∧ ds[i]? = some d ∧ ∀ v, R Cn F v d → Q v H
/-- what a call of Cleaner's making brings -/
theorem cln_made {Cn : Con} {W : TW} {Cc : Addr} {c : Fin 5 → Addr} {F H : Hp} {τ : TS} {v : V} {d : D} {Q : VK} {E : XK} (sb : Sub F H) (ht : TapeAt W F H τ) (rv : R Cn F v d) (hb : bnd d = true)
    (h1 : isRowD d = true → ∀ x dx vn ve F' H', ExtP F H F' H' → F' x = none → H x = none → R Cn F' vn (.tup [d, .tup []]) → R Cn F' ve (.tup []) → H' x = some (.ins Cc dx [("now", vn), ("earlier", ve)]) → Q (.ref x) H')
    (h2 : isRowD d = false → ∀ F' H', ExtP F H F' H' → E (.ref (c 0)) none H') :
    ∀ x dx, H x = none → H dx = none → dx ≠ x → spCI Cn Cc c [V.ref x, v] (upd (upd H dx (.own x)) x (.ins Cc dx [])) (fun v H2 => v = .non ∧ Q (.ref x) H2) E := by
  intro x dx hx hdx ne
  have e1 := made_ext (C := Cc) sb hx hdx ne
  have nF : F x = none := sb.none hx
  refine ⟨W, F, x, dx, v, d, τ, rfl, hb, rv, e1.fh, ht.extP e1, upd_same, nF, fun q F' H' vn ve x3 n3 r1 r2 e => ⟨rfl, ?_⟩, fun q F' H' x3 => h2 q F' H' (e1.tr x3)⟩
  refine h1 q x dx vn ve F' H' ⟨e1.ff.tr x3.ff, x3.fh, fun a o ha hn => ?_⟩ n3 hx r1 r2 e
  have z := e1.hh a o ha hn
  exact x3.hh a o z.1 z.2 fun z2 => by rw [z2, hx] at ha; cases ha
/-- an expression that has the value d -/
def RdX (Cn : Con) (W : TW) (τ : TS) (d : D) : TE := fun σ H Q => ∃ F0 H0 F ρ, Rel Cn W F0 H0 F H σ ρ τ ∧ ∀ v F' H', Ext W.tp F H F' H' → Rel Cn W F0 H0 F' H' σ ρ τ → R Cn F' v d → Q v H'
section
variable {nm : Nm} {P : Sg} {Cn : Con} {W : TW} {τ : TS} {X : Cx}
theorem pe_eqX (g : Good nm P Cn W false X) {a b : Expr} {d1 d2 : D} {p : Pos} (ha : PE X a (RdX Cn W τ d1)) (hb : PE X b (RdX Cn W τ d2)) (hd : min (dep d1) (dep d2) ≤ 60) (h1 : behindInMarks .Eq b = false) {r : Bool} (hr : eqv d1 d2 = r) : PE X (.Compare a [.Eq] [b] p) (RdX Cn W τ (.bl r)) := by
  subst hr
  have h := pe_cmpR (pos := p) (eq_D (C := Cn) g.hK (by have := g.units; omega)) ha hb h1
  refine pe_imp h ?_
  rintro σ H Q ⟨F0, H0, F, ρ, r, k⟩
  refine ⟨F0, H0, F, ρ, r, fun v F1 H1 x1 r1 rv => ⟨F0, H0, F1, ρ, r1, fun v2 F2 H2 x2 r2 rv2 => ?_⟩⟩
  refine ⟨F2, d1, d2, _, r2.sub, R.sub x2.ff _ rv, rv2, by rw [eqD, if_pos hd], fun v3 F3 H3 x3 r3 => k v3 F3 H3 ((x1.tr x2).tr x3.ext) (r2.extP x3) r3⟩
theorem pe_evX (g : Good nm P Cn W false X) {e : E} {z : Expr} {d : D} (ck : chkE nm X.env.scope e z = true) (hev : ∀ ρ, ev P e ρ τ = some (d, τ)) : PE X z (RdX Cn W τ d) :=
  pe_imp (e_ok e g z ck) fun σ H Q ⟨F0, H0, F, ρ, r, k⟩ => ⟨F0, H0, F, ρ, τ, d, τ, r, hev ρ, k⟩
end
theorem passes_none {X : Cx} : Passes (L2N.CX X.prog X.w) X E0 := fun _ _ _ _ _ _ _ c => by
  obtain ⟨_, _, _, _, _, _, _, _, _, _, _, _, _, z⟩ := c
section
variable {nm : Nm} {P : Sg} {Cn : Con} {W : TW} {X : Cx}
/-- Cleaner(e).row, in a try -/
theorem pe_clnrow (g : Good nm P Cn W false X) {Wx : WX} (tk : L2N.Takes X Wx) {Cc fI p0 g0 : Addr} {fdI fdG : FuncData} {c : Fin 5 → Addr} {k : Nat} {e : Expr} {e' : E} {p pos pos2 : Pos} (TC : TxC X.K X.mg Cc) (M : Mk X.K Cc fI)
    (FI : FnOk X.prog X.w X.K X.mg X.base (L2N.CX X.prog X.w) k fI fdI ["self", "row"] (spCI Cn Cc c)) (bI : Binds X.K fdI ["self", "row"] []) (hp : PropOf X.K Cc "row" p0 g0) (FG : FnOk X.prog X.w X.K X.mg X.base CX0 k g0 fdG ["self"] (spCG Cn Cc 0)) (bG : Binds X.K fdG ["self"] []) (hr : Room (k + 1) X.A) (hg : Gl X "Cleaner")
    (ck : chkE nm X.env.scope e' e = true) (he : starEach [e] X.env = (false, eval e X.env) :: starEach [] X.env := by rfl) :
    PE X (.Attribute (.Call (.Name "Cleaner" p) [e] [] pos) "row" pos2) (fun σ H Q => ∃ F0 H0 F ρ τ d τ', Rel Cn W F0 H0 F H σ ρ τ ∧ ev P e' ρ τ = some (d, τ') ∧ bnd d = true ∧
      (isRowD d = true → ∀ v F' H', Ext W.tp F H F' H' → Rel Cn W F0 H0 F' H' σ ρ τ' → R Cn F' v d → Q v H') ∧
      (isRowD d = false → ∀ F' H', Ext W.tp F H F' H' → Rel Cn W F0 H0 F' H' σ ρ τ' → ∀ σ' : L2.St, σ'.length = nm.N.length → Wx (.ref (c 0)) none σ' H')) := by
  have pm := pe_make (p := p) (pos := pos) M FI hr hg TC.mgC bI .nil (passes_len tk) (pa_cons (e_ok e' g e ck) pa_nil he) (by decide) he rfl
  refine pe_imp (pe_prop (pos := pos2) pm TC.cl hp FG hr bG .nil pass0 rfl) fun σ H Q => ?_
  rintro ⟨F0, H0, F, ρ, τ, d, τ', r, ev', hb, h1, h2⟩
  rw [← g.hN] at h2
  refine ⟨F0, H0, F, ρ, τ, d, τ', r, ev', fun v F1 H1 x1 r1 rv => ?_⟩
  refine cln_made (W := W) (c := c) (Cc := Cc) (Q := fun v H1 => ∃ a dx fs, v = V.ref a ∧ H1 a = some (HO.ins Cc dx fs) ∧ spCG Cn Cc 0 [V.ref a] H1 Q E0) (E := fun cls d H => ∀ σ' : L2.St, σ'.length = X.N.length → Wx cls d σ' H) x1.fh r1.tape rv hb (fun q x dx vn ve F' H' x2 n2 hx rn re ex => ?_) fun q F' H' x2 => h2 q F' H' (x1.tr x2.ext) (r1.extP x2)
  exact ⟨x, dx, _, rfl, ex, F', x, dx, _, vn, _, d, rfl, ex, rfl, rn, x2.fh, rfl, fun v rv => h1 q v F' H' (x1.tr x2.ext) (r1.extP x2) rv⟩
/-- Cleaner().row (i = 0), Cleaner().texts (i = 1) -/
theorem pe_cln0 (g : Good nm P Cn W false X) {τ : TS} {i : Nat} {f : Str} {Cc fI p0 g0 : Addr} {fdI fdG : FuncData} {c : Fin 5 → Addr} {k : Nat} {p pos pos2 : Pos} {dv : V} {dsv : List Value} (hi : ([.tup [], .tup []] : List D)[i]? = some (.tup [])) (TC : TxC X.K X.mg Cc) (M : Mk X.K Cc fI)
    (FI : FnOk X.prog X.w X.K X.mg X.base (L2N.CX X.prog X.w) k fI fdI ["self", "row"] (spCI Cn Cc c)) (hdv : Vals [dv] dsv) (rdv : ∀ F, R Cn F dv (.tup [])) (bI : Binds X.K fdI ["self", "row"] dsv) (hp : PropOf X.K Cc f p0 g0) (FG : FnOk X.prog X.w X.K X.mg X.base CX0 k g0 fdG ["self"] (spCG Cn Cc i)) (bG : Binds X.K fdG ["self"] []) (hr : Room (k + 1) X.A) (hg : Gl X "Cleaner") :
    PE X (.Attribute (.Call (.Name "Cleaner" p) [] [] pos) f pos2) (RdX Cn W τ (.tup [])) := by
  have pm := pe_make0 (p := p) (pos := pos) M FI hr hg TC.mgC bI hdv passes_none
  refine pe_imp (pe_prop (pos := pos2) pm TC.cl hp FG hr bG .nil pass0 rfl) fun σ H Q => ?_
  rintro ⟨F0, H0, F, ρ, r, h1⟩
  refine cln_made (W := W) (c := c) (Cc := Cc) (Q := fun v H1 => ∃ a dx fs, v = V.ref a ∧ H1 a = some (HO.ins Cc dx fs) ∧ spCG Cn Cc i [V.ref a] H1 Q E0) (E := E0) r.sub r.tape (rdv F) rfl (fun q x dx vn ve F' H' x2 n2 hx rn re ex => ?_) fun q => by cases q
  exact ⟨x, dx, _, rfl, ex, F', x, dx, _, vn, _, _, rfl, ex, rfl, rn, x2.fh, hi, fun v rv => h1 v F' H' x2.ext (r.extP x2) rv⟩
/-- Row(), where nothing is raised -/
theorem pe_row00 (g : Good nm P Cn W false X) (tkf : Cn.tk = false) {τ : TS} {Cr fI : Addr} {c : Fin 5 → Addr} {k : Nat} {p pos : Pos} (TR : TxRow X.K X.mg Cr) (M : Mk X.K Cr fI) (FI : FnR X.prog X.w X.K X.mg X.base (L2N.CX X.prog X.w) k fI (spRIs Cn Cr c)) (hr : Room (k + 1) X.A) (hg : Gl X "Row") :
    PE X (.Call (.Name "Row" p) [] [] pos) (fun σ H Q => ∃ F0 H0 F ρ, Rel Cn W F0 H0 F H σ ρ τ ∧ ∀ x dx fs F' H', ExtP F H F' H' → Rel Cn W F0 H0 F' H' σ ρ τ → H' x = some (.ins Cr dx fs) → F' x = none → fs.lookup ("does_same" : Str) = none → Q (.ref x) H') := by
  refine pe_imp (pe_makeR0 (p := p) (pos := pos) M FI hr hg TR.mgR passes_none) fun σ H Q => ?_
  rintro ⟨F0, H0, F, ρ, r, h1⟩
  exact row_made (W := W) (c := c) (Cr := Cr) (Q := Q) (E := E0) (ds := []) (us := []) tkf r.sub r.tape .nil (by simp) (fun _ h => by cases h) (fun _ _ x dx p F' H' x2 _ ex _ n2 => h1 x dx _ F' H' x2 (r.extP x2) ex n2 rfl) (fun q => by cases q) fun _ q => by simp at q
end
end PD

set_option Elab.async false
set_option linter.all false
set_option maxRecDepth 100000
set_option maxHeartbeats 8000000
/-! A law whose last statements are walked by hand; k18's loops. -/
namespace PD
open PySem L2
/-- the tail of a law: from any frame that holds plain data it answers True -/
def TlR (C : Con) (W : TW) : L2.TS := fun D σ H => (∃ F0 H0 F ρ τ, Rel C W F0 H0 F H σ ρ τ) ∧ ∀ H', D.rt (.bl true) H'
theorem law_okT {Pg : Program} {w : World} {K : PySem.W.Frag} {mg : Str → Option Value} {base : Heap} {C : Con} (M : Mo C K mg) {x : Str} {st : Stmt} {f : Addr} {fd : FuncData} {N : List Str} {s0 : Str} {k j : Nat} {body : Ss} {cal : List Cal} {csts : List (Str × D)} {gal : List Gal} {z : Stmt} {l r : List Stmt}
    (Fn : L2.Fun K x x st f fd) (S : FnScope N [s0] (defScope st)) (hb : defBody st = z :: (l ++ r)) (hz : chkTape (defScope st) j N z = true) (chk : chkB (mkNmG N cal csts gal) (defScope st) body l = true)
    (hcst : ∀ p ∈ csts, CstOk C mg p) (hc : ∀ c ∈ cal, Kn Pg w K mg base C k c) (hg : ∀ c ∈ gal, ∃ j, j + 3 ≤ k ∧ KnG Pg w K mg base C j c)
    (hr : ∀ (W : TW) (X : Cx), Good (mkNmG N cal csts gal) (mkSgG C.tk cal csts gal W.ns) C W false X → X.prog = Pg → X.w = w → X.K = K → X.mg = mg → X.base = base → X.N = N → Room k X.A → X.env.scope = defScope st → PSs X r (TlR C W))
    (hG : ∀ ns : List Int, ns.length ≤ 63 → ∃ ρ τ, evB (mkSgG C.tk cal csts gal ns) body (startLaw N.length j) ⟨0, 0⟩ = some (.nx ρ τ)) :
    FnOk Pg w K mg base CX0 (k + 1) f fd [s0] (spLaw K) := by
  refine Fn.ok S (fun vs H Q E h => ?_) fun cdv A outer s H vs Q E hrm hsp => ?_
  · obtain ⟨a, ns, rfl, _⟩ := h; rfl
  obtain ⟨a, ns, rfl, hS, hlen, q⟩ := hsp
  have g : ∀ W : TW, W.ns = ns → Good (mkNmG N cal csts gal) (mkSgG C.tk cal csts gal ns) C W false (cxOf CX0 Pg w K mg base N x (defScope st) f cdv A outer s H E).nox := by
    intro W hW
    subst hW
    exact good_of M rfl rfl S.nd rfl rfl (by
      have := hrm.un
      show (A.deeper _).units + 65 < cLine
      omega) (fun _ _ => rfl) rfl rfl rfl rfl hrm hcst hc hg
  rw [hb]
  unfold chkTape at hz
  split at hz
  · rename_i tx p1 l p2 y p3 p4 a0 k1 p5 b0 k2 p6 p7 p8
    simp only [Bool.and_eq_true, decide_eq_true_eq] at hz
    obtain ⟨⟨⟨⟨⟨⟨⟨⟨h1, h2⟩, h3⟩, rfl⟩, h5⟩, h6⟩, h7⟩, rfl⟩, rfl⟩ := hz
    have hl := (g ⟨0, 0, ns⟩ rfl).loc h7
    have hbody : ∀ W : TW, W.ns = ns → PSs (cxOf CX0 Pg w K mg base N x (defScope st) f cdv A outer s H E).nox (l ++ r) (fun D σ H => RdB (mkSgG C.tk cal csts gal ns) C W body { D with nx := TlR C W D } σ H) := fun W hW => bt_ok (g W hW) S.kind (hr W _ (by rw [hW]; exact g W hW) rfl rfl rfl rfl rfl rfl hrm rfl) body l chk
    -- the tape's addresses are not known before the first statement has run: all of them at once
    have hall : PSs (cxOf CX0 Pg w K mg base N x (defScope st) f cdv A outer s H E).nox (l ++ r) (fun D σ H => ∃ W : TW, W.ns = ns ∧ RdB (mkSgG C.tk cal csts gal ns) C W body { D with nx := TlR C W D } σ H) :=
      ⟨fun pins s σ H D I ⟨W, hW, h⟩ => (hbody W hW).run pins s σ H D I h⟩
    refine ⟨_, pss_cons (ps_set (i := j) S.nd h6 hl.1 (pe_lst (pa_cons (pe_callTy call_list_of (gl_of h5) (M.blt .list) boot_list' (pa_cons (pe_var (i := 0) h1 (vis_of h2) (okN_of h3).1 (okN_of h3).2.1) pa_nil rfl) (by decide +kernel) (by decide +kernel) rfl rfl) (pa_cons pe_int (pa_cons pe_int pa_nil rfl) rfl) rfl)) rfl hl.2) hall, ?_⟩
    -- the script
    refine ⟨_, rfl, a, ns.map V.int, rfl, .inl hS, fun L hL => ?_⟩
    refine ⟨by show 3 ≤ sizeLine; decide, fun tp htp => ?_⟩
    have hne : L ≠ tp := fun e => by rw [e, upd_same] at htp; cases htp
    obtain ⟨ρ2, τ, hrun⟩ := hG ns hlen
    have hjl : j < N.length := (List.getElem?_eq_some_iff.mp h6).1
    have sb : Sub (upd (fun _ => none) L (.lst (ns.map V.int))) (upd (upd H L (.lst (ns.map V.int))) tp (.lst [.ref L, .int 0, .int 0])) := fun b o e => by
      by_cases z : b = L
      · subst z
        rw [upd_same] at e
        rw [upd_ne hne, upd_same]
        exact e
      · rw [upd_ne z] at e; cases e
    have hlen0 : (L2.start N [V.ref a]).length = N.length := by
      have hpl : ([s0] : List Str).length ≤ N.length := by have := congrArg List.length S.pre; rw [List.length_take] at this; omega
      unfold L2.start
      rw [List.length_append, List.length_map, List.length_replicate]
      simp only [List.length_singleton] at hpl ⊢
      omega
    refine ⟨⟨tp, L, ns⟩, rfl, upd (fun _ => none) L (.lst (ns.map V.int)), _, upd (fun _ => none) L (.lst (ns.map V.int)), startLaw N.length j, ⟨0, 0⟩, .nx ρ2 τ, ⟨?_, Ext.rfl' sb, fun i s v e1 e2 => ?_, fun i i2 s t b e1 _ o1 _ _ _ => ?_, ⟨?_, upd_same, upd_same⟩⟩, hrun, fun σ' F' H' s' r' => ⟨⟨_, _, F', ρ2, τ, r'⟩, fun H2 => q H2⟩⟩
    · show ((L2.start N [V.ref a]).set j (some (V.ref tp))).length = _
      rw [List.length_set, hlen0]
      unfold startLaw
      rw [List.length_set, List.length_replicate]
    · have e2 : ((L2.start N [V.ref a]).set j (some (V.ref tp)))[i]? = some v := e2
      unfold startLaw at e1
      by_cases z : j = i
      · subst z
        rw [List.getElem?_set_self (by rw [List.length_replicate]; exact hjl)] at e1
        rw [List.getElem?_set_self (by rw [hlen0]; exact hjl)] at e2
        cases e1; cases e2
        rfl
      · rw [List.getElem?_set_ne z] at e1
        have := List.eq_of_mem_replicate (List.mem_of_getElem? e1)
        subst this
        trivial
    · unfold startLaw at e1
      by_cases z : j = i
      · subst z
        rw [List.getElem?_set_self (by rw [List.length_replicate]; exact hjl)] at e1
        cases e1; cases o1
      · rw [List.getElem?_set_ne z] at e1
        have := List.eq_of_mem_replicate (List.mem_of_getElem? e1)
        subst this
        cases o1
    · exact upd_ne hne.symm
  · cases hz
/-! ### drawn rows are valid -/
theorem rise_of : ∀ {s : List Nat}, s.Pairwise (· < ·) → riseB s = true
  | [], _ => rfl
  | [a], _ => rfl
  | a :: b :: r, h => by
    have ih := rise_of (s := b :: r) (List.pairwise_cons.mp h).2
    have h1 : a < b := (List.pairwise_cons.mp h).1 b List.mem_cons_self
    have e : riseB (a :: b :: r) = (decide (a < b) && riseB (b :: r)) := rfl
    rw [e, ih, decide_eq_true h1]; rfl
theorem sgn_sg {c : Nat} (h : c ∈ SGN) : c ∈ sgL := by
  have : ∀ c ∈ SGN, c ∈ sgL := by decide
  exact this c h
theorem isStr_of {lo hi : Nat} {s : List Nat} (h1 : lo ≤ s.length) (h2 : s.length ≤ hi) (h : ∀ c ∈ s, c ∈ SGN) : isStr lo hi (.str s) = true := by
  show signsOf lo hi s = true
  unfold signsOf
  rw [decide_eq_true h1, decide_eq_true h2]
  simp only [Bool.true_and, List.all_eq_true, decide_eq_true_eq]
  exact fun c hc => sgn_sg (h c hc)
theorem ne_len {s : List Nat} (h : s ≠ []) : 1 ≤ s.length := by
  cases s with
  | nil => exact absurd rfl h
  | cons a r => simp
theorem isSet_of {s : List Nat} (h : s ≠ [] ∧ s.length ≤ 3 ∧ s.Pairwise (· < ·) ∧ ∀ c ∈ s, c ∈ SGN) : isSetD (.str s) = true := by
  have h1 : signsOf 1 3 s = true := isStr_of (ne_len h.1) h.2.1 h.2.2.2
  show (signsOf 1 3 s && riseB s) = true
  rw [h1, rise_of h.2.2.1]; rfl
theorem drawn_step (s : Stp) (h1 : s.ok) (h2 : s.drawn) : isStepD s.d = true := by
  have one : ∀ c, c ∈ SGN → isStr 1 1 (.str [c]) = true := fun c hc => isStr_of (by simp) (by simp) (by simpa using hc)
  cases s with
  | small => rfl
  | map x y =>
    have e : isStepD (Stp.d (.map x y)) = (isStr 1 1 (.str [x]) && (isStr 1 1 (.str [y]) && !eqv (.str [x]) (.str [y]))) := rfl
    have hxy : x ≠ y := h1
    rw [e, one x h2.1, one y h2.2]
    simp [hxy]
  | drop s => exact isSet_of h2
  | trim s => exact isSet_of h2
  | squeeze s => exact isSet_of h2
  | join s o =>
    have e : isStepD (Stp.d (.join s o)) = (isSetD (.str s) && isStr 1 1 (.str [o])) := rfl
    rw [e, isSet_of h2.1, one o h2.2]; rfl
  | front w => exact isStr_of (lo := 1) (hi := 2) (ne_len h2.1) h2.2.1 h2.2.2
  | fronts w => exact isStr_of (lo := 1) (hi := 2) (ne_len h2.1) h2.2.1 h2.2.2
  | back w => exact isStr_of (lo := 1) (hi := 2) (ne_len h2.1) h2.2.1 h2.2.2
  | backs w => exact isStr_of (lo := 1) (hi := 2) (ne_len h2.1) h2.2.1 h2.2.2
  | first n =>
    have e : isStepD (Stp.d (.first n)) = (decide ((1 : Int) ≤ (n : Int)) && decide ((n : Int) ≤ 3)) := rfl
    obtain ⟨a, b⟩ := h2
    rw [e, decide_eq_true (by omega), decide_eq_true (by omega)]; rfl
  | last n =>
    have e : isStepD (Stp.d (.last n)) = (decide ((1 : Int) ≤ (n : Int)) && decide ((n : Int) ≤ 3)) := rfl
    obtain ⟨a, b⟩ := h2
    rw [e, decide_eq_true (by omega), decide_eq_true (by omega)]; rfl
theorem step_shape18 (s : Stp) (h : s.drawn) : ∃ ys, s.d = .tup ys ∧ bd 10 (.tup ys) = true ∧ deps ys = 0 := by
  cases s <;> refine ⟨_, rfl, ?_, ?_⟩ <;> first
    | (simp only [Stp.drawn] at h; simp [bd, bds, mapW] <;> omega)
    | simp

/-! ### what _law_made and _law_cleaner answer -/
/-- a row of some steps, or the error's word -/
def madeD (xs : List D) : D := if xs.all isStepD = true then (if xs.length ≤ 3 then .tup xs else .str (codeE 3)) else .str (codeE 0)
def GMadeX : GF := fun _ ds τ => match ds with
  | [.tup xs] => if (xs.length = 1 ∨ xs.length = 2 ∨ xs.length = 4) ∧ bnd (.tup xs) = true then some (madeD xs, τ) else none
  | _ => none
theorem gmade_len {ns : List Int} {ds : List D} {τ : TS} {r : D × TS} (e : GMadeX ns ds τ = some r) : ds.length = 1 := by
  unfold GMadeX at e
  split at e
  · rfl
  · cases e
def clnD (d : D) : D := if isRowD d = true then d else .str (codeE 0)
def GCln : GF := fun _ ds τ => match ds with
  | [d] => if bnd d = true then some (clnD d, τ) else none
  | _ => none
theorem gcln_len {ns : List Int} {ds : List D} {τ : TS} {r : D × TS} (e : GCln ns ds τ = some r) : ∃ d, ds = [d] ∧ bnd d = true ∧ r = (clnD d, τ) := by
  unfold GCln at e
  split at e
  · split at e
    · rename_i d h
      cases e
      exact ⟨d, rfl, h, rfl⟩
    · cases e
  · cases e

/-! ### k18 -/
abbrev l18A : E := (.lst (.cons (.var 3) (.cons (.blt .list (.cons (.var 3) .nil)) (.cons .non (.cons (.int 5) (.cons (.str [115, 109, 97, 108, 108]) (.cons (.tup .nil) (.cons (.tup (.cons (.str [102, 105, 114, 115, 116]) (.cons (.bl true) .nil))) (.cons (.callT 2 1 (.cons (.var 3) .nil)) .nil)))))))))
abbrev b18A : Ss := (.cons (.ife (.not (.val (.call 3 (.cons (.call 5 (.cons (.tup (.cons (.var 5) .nil)) .nil)) (.cons (.ife (.val (.call 4 (.cons (.var 5) .nil))) (.tup (.cons (.var 5) .nil)) (.str [115, 116, 101, 112])) .nil))))) (.cons (.ret (.bl false)) .nil) .nil) (.cons (.ife (.not (.val (.call 3 (.cons (.call 5 (.cons (.tup (.cons (.var 3) (.cons (.var 5) .nil))) .nil)) (.cons (.ife (.val (.call 4 (.cons (.var 5) .nil))) (.tup (.cons (.var 3) (.cons (.var 5) .nil))) (.str [115, 116, 101, 112])) .nil))))) (.cons (.ret (.bl false)) .nil) .nil) (.cons (.ife (.cmp .NotEq (.call 5 (.cons (.tup (.cons (.var 3) (.cons (.var 3) (.cons (.var 3) (.cons (.var 5) .nil))))) .nil)) (.ife (.val (.call 4 (.cons (.var 5) .nil))) (.str [109, 97, 110, 121]) (.str [115, 116, 101, 112]))) (.cons (.ret (.bl false)) .nil) .nil) .nil)))
abbrev l18B : E := (.lst (.cons (.var 4) (.cons (.blt .list (.cons (.var 4) .nil)) (.cons (.bin .Add (.var 4) (.bin .Mult (.tup (.cons (.var 3) .nil)) (.int 4))) (.cons .non (.cons (.int 5) (.cons (.tup (.cons .non .nil)) (.cons (.callT 2 1 (.cons (.var 4) .nil)) .nil))))))))
abbrev b18B : Ss := (.cons (.ife (.not (.val (.call 3 (.cons (.call 7 (.cons (.var 5) .nil)) (.cons (.ife (.val (.call 6 (.cons (.var 5) .nil))) (.var 5) (.str [115, 116, 101, 112])) .nil))))) (.cons (.ret (.bl false)) .nil) .nil) .nil)
abbrev u18 : S := .par [3, 4] (.cons (.callT 1 1 .nil) (.cons (.callT 0 1 (.cons (.int 3) .nil)) .nil))
abbrev t18 : Ss := .cons u18 (.cons (.fr (.nm 5) (.data l18A) b18A) (.cons (.fr (.nm 5) (.data l18B) b18B) .nil))
def ir_law18 : Ss := .cons (.fr (.nm 2) (.rng1 (.int 8)) t18) .nil
noncomputable def cal18 : List Cal := [⟨"_law_row", true, 1, GRow false⟩, cStep false, ⟨"_law_spoilt", true, 1, GSpo 4⟩, ⟨"_law_like", false, 2, GLike false 3⟩, ⟨"is_step", false, 1, GIsStep false⟩, ⟨"_law_made", false, 1, GMadeX⟩, ⟨"is_row", false, 1, GIsRow false⟩, ⟨"_law_cleaner", false, 1, GCln⟩]
structure P18 (P : Sg) (ns : List Int) : Prop where
  g0 : ∀ ds, P.G 0 ds = GRow false ns ds
  g1 : ∀ ds, P.G 1 ds = GStepD false ns ds
  g2 : ∀ ds, P.G 2 ds = GSpo 4 ns ds
  g3 : ∀ ds, P.G 3 ds = GLike false 3 ns ds
  g4 : ∀ ds, P.G 4 ds = GIsStep false ns ds
  g5 : ∀ ds, P.G 5 ds = GMadeX ns ds
  g6 : ∀ ds, P.G 6 ds = GIsRow false ns ds
  g7 : ∀ ds, P.G 7 ds = GCln ns ds
  tk : P.tk = false
abbrev F18 (a2 a3 a4 a5 : Slot) : Env' := [.un, .tape, a2, a3, a4, a5]
theorem loop18 (P : Sg) (body : Ss) (a2 a3 a4 : Slot) (τ : TS) : ∀ (xs : List D) (g5 : Slot), (∀ x ∈ xs, evB P body (F18 a2 a3 a4 (.d x)) τ = some (.nx (F18 a2 a3 a4 (.d x)) τ)) →
    ∃ g5', forL (fun x ρ1 τ1 => (bindT (.nm 5) x ρ1).bind fun ρ2 => evB P body ρ2 τ1) xs (F18 a2 a3 a4 g5) τ = some (.nx (F18 a2 a3 a4 g5') τ)
  | [], g5, _ => ⟨g5, rfl⟩
  | x :: xs, g5, h => by
    obtain ⟨b5, e2⟩ := loop18 P body a2 a3 a4 τ xs (.d x) fun y hy => h y (List.mem_cons_of_mem _ hy)
    refine ⟨b5, ?_⟩
    rw [forL_step (ρ1 := F18 a2 a3 a4 (.d x)) (τ1 := τ) (by simp only [bindT, Option.bind_some]; exact h x List.mem_cons_self)]
    exact e2
theorem likeD_skip {P : Sg} {ns : List Int} (hP : P18 P ns) {e1 e2 : E} {d : D} {ρ : Env'} {τ : TS} (h1 : ev P e1 ρ τ = some (d, τ)) (h2 : ev P e2 ρ τ = some (d, τ)) (hd : dep d < 3) (hw : wid d ≤ 4000) :
    evS P (.ife (.not (.val (.call 3 (.cons e1 (.cons e2 .nil))))) (.cons (.ret (.bl false)) .nil) .nil) ρ τ = some (.nx ρ τ) := by
  refine evS_f (τ1 := τ) ?_ evB_nil0
  rw [evt, evt, ev_call0 (evs_cons h1 (evs_cons h2 evs_nil)) (by rw [hP.g3]; exact like_refl false ns 3 d τ hd hw)]
  rfl
theorem ev_ifeX {P : Sg} {c a b : E} {q : Bool} {d : D} {ρ : Env'} {τ : TS} (hc : ev P c ρ τ = some (.bl q, τ)) (ha : q = true → ev P a ρ τ = some (d, τ)) (hb : q = false → ev P b ρ τ = some (d, τ)) : ev P (.ife (.val c) a b) ρ τ = some (d, τ) := by
  rw [ev, evt, hc]
  cases q with
  | true => exact ha rfl
  | false => exact hb rfl
mutual
theorem bnd_wid : ∀ (d : D), bnd d = true → wid d ≤ 1000
  | .non, _ => by simp [wid]
  | .bl _, _ => by simp [wid]
  | .int _, _ => by simp [wid]
  | .str _, _ => by simp [wid]
  | .tup xs, h => by
    simp only [bnd, Bool.and_eq_true, decide_eq_true_eq] at h
    rw [wid]; exact Nat.max_le.mpr ⟨h.1, bnds_wid xs h.2⟩
  | .lst xs, h => by
    simp only [bnd, Bool.and_eq_true, decide_eq_true_eq] at h
    rw [wid]; exact Nat.max_le.mpr ⟨h.1, bnds_wid xs h.2⟩
theorem bnds_wid : ∀ (xs : List D), bnds xs = true → wids xs ≤ 1000
  | [], _ => by simp [wids]
  | x :: xs, h => by
    simp only [bnds, Bool.and_eq_true] at h
    rw [wids]; exact Nat.max_le.mpr ⟨bnd_wid x h.1, bnds_wid xs h.2⟩
end
theorem bnd_of_tup {xs : List D} (hl : xs.length ≤ 1000) (h : ∀ x ∈ xs, bnd x = true) : bnd (.tup xs) = true := by
  have : ∀ xs : List D, (∀ x ∈ xs, bnd x = true) → bnds xs = true := by
    intro xs
    induction xs with
    | nil => intro _; rfl
    | cons x xs ih => intro h; rw [bnds, h x List.mem_cons_self, ih fun y hy => h y (List.mem_cons_of_mem _ hy)]; rfl
  rw [bnd, decide_eq_true hl, this xs h]; rfl
theorem set_dep {d : D} (h : isSetD d = true) : dep d = 0 := by
  cases d <;> first | rfl | cases h
theorem str_dep {lo hi : Nat} {d : D} (h : isStr lo hi d = true) : dep d = 0 := by
  cases d <;> first | rfl | cases h
theorem num_dep {d : D} (h : isNumD d = true) : dep d = 0 := by
  cases d <;> first | rfl | cases h
theorem one_dep {f : D → Bool} (hf : ∀ d, f d = true → dep d = 0) : ∀ {l : List D}, one1 f l = true → deps l = 0
  | [a], h => by simp [hf a h]
  | [], h => by cases h
  | _ :: _ :: _, h => by cases h
theorem two_dep {f : D → D → Bool} (hf : ∀ a b, f a b = true → dep a = 0 ∧ dep b = 0) : ∀ {l : List D}, two2 f l = true → deps l = 0
  | [a, b], h => by simp [(hf a b h).1, (hf a b h).2]
  | [], h => by cases h
  | [_], h => by cases h
  | _ :: _ :: _ :: _, h => by cases h
theorem step_dep {d : D} (h : isStepD d = true) : dep d ≤ 1 := by
  unfold isStepD at h
  split at h
  · rename_i w rest
    have z : deps rest = 0 := by
      split at h
      · exact one_dep (fun _ q => set_dep q) h
      · split at h
        · exact one_dep (fun _ q => str_dep q) h
        · split at h
          · exact one_dep (fun _ q => num_dep q) h
          · split at h
            · exact two_dep (fun a b q => by simp only [Bool.and_eq_true] at q; exact ⟨str_dep q.1, str_dep q.2.1⟩) h
            · split at h
              · exact two_dep (fun a b q => by simp only [Bool.and_eq_true] at q; exact ⟨set_dep q.1, str_dep q.2⟩) h
              · split at h
                · cases rest with
                  | nil => simp
                  | cons _ _ => cases h
                · cases h
    simp [z]
  · cases h
theorem row_dep {d : D} (h : isRowD d = true) : dep d ≤ 2 := by
  cases d with
  | tup xs =>
    simp only [isRowD, Bool.and_eq_true, List.all_eq_true] at h
    have : ∀ l : List D, (∀ x ∈ l, isStepD x = true) → deps l ≤ 1 := by
      intro l
      induction l with
      | nil => intro _; simp
      | cons x l ih =>
        intro q
        rw [deps_cons]
        exact Nat.max_le.mpr ⟨step_dep (q x List.mem_cons_self), ih fun y hy => q y (List.mem_cons_of_mem _ hy)⟩
    rw [dep_tup]
    have := this xs h.2
    omega
  | _ => cases h
theorem made_small {xs : List D} (hb : bnd (.tup xs) = true) : dep (madeD xs) < 3 ∧ wid (madeD xs) ≤ 4000 := by
  unfold madeD
  by_cases h : xs.all isStepD = true
  · rw [if_pos h]
    by_cases h3 : xs.length ≤ 3
    · rw [if_pos h3]
      exact ⟨Nat.lt_succ_of_le (row_dep (by rw [isRowD, h, decide_eq_true h3]; rfl)), Nat.le_trans (bnd_wid _ hb) (by omega)⟩
    · rw [if_neg h3]; exact ⟨by simp, by simp [wid]⟩
  · rw [if_neg h]; exact ⟨by simp, by simp [wid]⟩
theorem cln_small {d : D} (hb : bnd d = true) : dep (clnD d) < 3 ∧ wid (clnD d) ≤ 4000 := by
  unfold clnD
  by_cases h : isRowD d = true
  · rw [if_pos h]
    exact ⟨Nat.lt_succ_of_le (row_dep h), Nat.le_trans (bnd_wid _ hb) (by omega)⟩
  · rw [if_neg h]; exact ⟨by simp, by simp [wid]⟩
theorem made_ev {P : Sg} {ns : List Int} (hP : P18 P ns) {es : Es} {xs : List D} {ρ : Env'} {τ : TS} (h : evs P es ρ τ = some (xs, τ)) (hl : xs.length = 1 ∨ xs.length = 2 ∨ xs.length = 4) (hb : ∀ x ∈ xs, bnd x = true) : ev P (.call 5 (.cons (.tup es) .nil)) ρ τ = some (madeD xs, τ) := by
  have hl2 : xs.length ≤ 4 := by omega
  refine ev_call0 (evs_cons (ev_tupG hP.tk h (by omega)) evs_nil) ?_
  rw [hP.g5]
  show (if (xs.length = 1 ∨ xs.length = 2 ∨ xs.length = 4) ∧ bnd (.tup xs) = true then some (madeD xs, τ) else none) = some (madeD xs, τ)
  rw [if_pos ⟨hl, bnd_of_tup (by omega) hb⟩]
theorem b18A_ok {P : Sg} {ns : List Int} (hP : P18 P ns) (a2 : Slot) (s : D) (hs : isStepD s = true) (hsb : bnd s = true) (a4 : Slot) (x : D) (hx : bnd x = true) (τ : TS) : evB P b18A (F18 a2 (.d s) a4 (.d x)) τ = some (.nx (F18 a2 (.d s) a4 (.d x)) τ) := by
  have hst : ev P (.call 4 (.cons (.var 5) .nil)) (F18 a2 (.d s) a4 (.d x)) τ = some (.bl (isStepD x), τ) := ev_call0 (evs_cons (ev_var rfl) evs_nil) (by rw [hP.g4]; exact isstep_ok false ns x hx (by simp) τ)
  have v3 : ev P (.var 3) (F18 a2 (.d s) a4 (.d x)) τ = some (s, τ) := ev_var rfl
  have v5 : ev P (.var 5) (F18 a2 (.d s) a4 (.d x)) τ = some (x, τ) := ev_var rfl
  have b1 : ∀ y ∈ [x], bnd y = true := by simpa using hx
  have b2 : ∀ y ∈ [s, x], bnd y = true := by simpa using ⟨hsb, hx⟩
  have b4 : ∀ y ∈ [s, s, s, x], bnd y = true := by simpa using ⟨hsb, hx⟩
  have q1 := made_small (bnd_of_tup (by simp) b1)
  have q2 := made_small (bnd_of_tup (by simp) b2)
  refine (evB_nx (likeD_skip hP (made_ev hP (evs_cons v5 evs_nil) (.inl rfl) b1) (ev_ifeX hst (fun q => ?_) fun q => ?_) q1.1 q1.2)).trans ?_
  · rw [ev_tupG hP.tk (evs_cons v5 evs_nil) (by simp)]; simp [madeD, q]
  · simp [madeD, q, codeE, ev]
  refine (evB_nx (likeD_skip hP (made_ev hP (evs_cons v3 (evs_cons v5 evs_nil)) (.inr (.inl rfl)) b2) (ev_ifeX hst (fun q => ?_) fun q => ?_) q2.1 q2.2)).trans ?_
  · rw [ev_tupG hP.tk (evs_cons v3 (evs_cons v5 evs_nil)) (by simp)]; simp [madeD, q, hs]
  · simp [madeD, q, hs, codeE, ev]
  refine (evB_nx (evS_f (τ1 := τ) ?_ evB_nil0)).trans evB_nil0
  have em : madeD [s, s, s, x] = if isStepD x = true then .str (codeE 3) else .str (codeE 0) := by
    cases q : isStepD x <;> simp [madeD, q, hs]
  refine evt_cmp0 (made_ev hP (evs_cons v3 (evs_cons v3 (evs_cons v3 (evs_cons v5 evs_nil)))) (.inr (.inr rfl)) b4) (y := madeD [s, s, s, x]) (ev_ifeX hst (fun q => ?_) fun q => ?_) ?_
  · rw [em, if_pos q]; simp [ev, codeE]
  · rw [em, if_neg (by rw [q]; decide)]; simp [ev, codeE]
  · rw [em]
    split <;> simp [cmpD, neD, codeE]
theorem b18B_ok {P : Sg} {ns : List Int} (hP : P18 P ns) (a2 a3 a4 : Slot) (x : D) (hx : bnd x = true) (τ : TS) : evB P b18B (F18 a2 a3 a4 (.d x)) τ = some (.nx (F18 a2 a3 a4 (.d x)) τ) := by
  have hst : ev P (.call 6 (.cons (.var 5) .nil)) (F18 a2 a3 a4 (.d x)) τ = some (.bl (isRowD x), τ) := ev_call0 (evs_cons (ev_var rfl) evs_nil) (by rw [hP.g6]; exact isrow_ok false ns x hx (by simp) τ)
  have v5 : ev P (.var 5) (F18 a2 a3 a4 (.d x)) τ = some (x, τ) := ev_var rfl
  have q1 := cln_small hx
  refine (evB_nx (likeD_skip hP (d := clnD x) (ev_call0 (evs_cons v5 evs_nil) ?_) (ev_ifeX hst (fun q => ?_) fun q => ?_) q1.1 q1.2)).trans evB_nil0
  · rw [hP.g7]
    show (if bnd x = true then some (clnD x, τ) else none) = _
    rw [if_pos hx]
  · rw [v5, clnD, if_pos q]
  · rw [clnD, if_neg (by rw [q]; decide)]; simp [ev, codeE]
theorem turn18 (P : Sg) (ns : List Int) (hP : P18 P ns) (a2 a3 a4 a5 : Slot) (τ : TS) : ∃ b3 b4 b5 τ', evB P t18 (F18 a2 a3 a4 a5) τ = some (.nx (F18 a2 b3 b4 b5) τ') := by
  have tk := hP.tk
  obtain ⟨s, τ2, e2, s1, s2⟩ := step_ok false ns τ
  obtain ⟨f, τ3, e3, f1, f2⟩ := row_ok false ns 3 3 rfl (by omega) τ2
  obtain ⟨ys, hys, hyb, hyd⟩ := step_shape18 s s2
  have hst : isStepD (.tup ys) = true := by rw [← hys]; exact drawn_step s s1 s2
  obtain ⟨hyl, hym⟩ := bd_tup.mp hyb
  have hrb : bd 10 (.tup (f.map Stp.d)) = true := bd_tup.mpr ⟨by rw [List.length_map]; omega, fun y hy => by
    obtain ⟨z, hz, rfl⟩ := List.mem_map.mp hy
    obtain ⟨zs, h, hb, _⟩ := step_shape18 z (f2 z hz).2
    rw [h]; exact hb⟩
  have hrr : isRowD (.tup (f.map Stp.d)) = true := by
    simp only [isRowD, Bool.and_eq_true, decide_eq_true_eq, List.length_map, List.all_eq_true]
    exact ⟨f1, fun y hy => by
      obtain ⟨z, hz, rfl⟩ := List.mem_map.mp hy
      exact drawn_step z (f2 z hz).1 (f2 z hz).2⟩
  have hrd := row_dep hrr
  generalize hrow : f.map Stp.d = row at *
  have hrl : row.length ≤ 3 := by rw [← hrow, List.length_map]; exact f1
  rw [hys] at e2
  have B : ∀ {N : Nat} {d : D}, N ≤ 1000 → bd N d = true → bnd d = true := fun h q => bd_bnd _ (bd_mono h _ q)
  have eu : evS P u18 (F18 a2 a3 a4 a5) τ = some (.nx (F18 a2 (.d (.tup ys)) (.d (.tup row)) a5) τ3) := by
    rw [evS, evs_cons (ev_callT rfl evs_nil (by rw [hP.g1]; exact e2)) (evs_cons (ev_callT rfl (evs_cons ev_int evs_nil) (by rw [hP.g0]; exact e3)) evs_nil)]
    simp [setAll]
  -- the first things
  obtain ⟨y1, τ4, e4, q4⟩ := spoilt_ok ns 10 (by omega) 4 (.tup ys) τ3 (by have := step_dep hst; omega) hyb
  have eA : evi P (.data l18A) (F18 a2 (.d (.tup ys)) (.d (.tup row)) a5) τ3 = some ([.tup ys, .lst ys, .non, .int 5, .str [115, 109, 97, 108, 108], .tup [], .tup [.str [102, 105, 114, 115, 116], .bl true], y1], τ4) := by
    refine evi_data (ev_lst (evs_cons (ev_var rfl) (evs_cons ?_ (evs_cons (by rw [ev]) (evs_cons ev_int (evs_cons ev_str (evs_cons (ev_tupG tk evs_nil (by simp)) (evs_cons (ev_tupG tk (evs_cons ev_str (evs_cons (by rw [ev]) evs_nil)) (by simp)) (evs_cons (ev_callT rfl (evs_cons (ev_var rfl) evs_nil) (by rw [hP.g2]; exact e4)) evs_nil)))))))) (by simp)) rfl
    rw [ev, evs_cons (ev_var rfl) evs_nil]; rfl
  obtain ⟨c5, eA2⟩ := loop18 P b18A a2 (.d (.tup ys)) (.d (.tup row)) τ4 [.tup ys, .lst ys, .non, .int 5, .str [115, 109, 97, 108, 108], .tup [], .tup [.str [102, 105, 114, 115, 116], .bl true], y1] a5 (by
    intro x hx
    refine b18A_ok hP _ _ hst (B (N := 10) (by omega) hyb) _ x ?_ _
    simp only [List.mem_cons, List.not_mem_nil, or_false] at hx
    rcases hx with rfl | rfl | rfl | rfl | rfl | rfl | rfl | rfl
    · exact B (N := 10) (by omega) hyb
    · exact B (N := 10) (by omega) (bd_lst.mpr ⟨hyl, hym⟩)
    · rfl
    · rfl
    · rfl
    · rfl
    · rfl
    · exact B (N := 20) (by omega) q4)
  -- the rows
  obtain ⟨y2, τ5, e5, q5⟩ := spoilt_ok ns 10 (by omega) 4 (.tup row) τ4 (by omega) hrb
  obtain ⟨hrl2, hrm⟩ := bd_tup.mp hrb
  have e4s : (List.replicate 4 [(D.tup ys)]).flatten = [.tup ys, .tup ys, .tup ys, .tup ys] := rfl
  have eB : evi P (.data l18B) (F18 a2 (.d (.tup ys)) (.d (.tup row)) c5) τ4 = some ([.tup row, .lst row, .tup (row ++ [.tup ys, .tup ys, .tup ys, .tup ys]), .non, .int 5, .tup [.non], y2], τ5) := by
    refine evi_data (ev_lst (evs_cons (ev_var rfl) (evs_cons (τ1 := τ4) ?_ (evs_cons (τ1 := τ4) ?_ (evs_cons (by rw [ev]) (evs_cons ev_int (evs_cons (ev_tupG tk (evs_cons (by rw [ev]) evs_nil) (by simp)) (evs_cons (ev_callT rfl (evs_cons (ev_var rfl) evs_nil) (by rw [hP.g2]; exact e5)) evs_nil))))))) (by simp)) rfl
    · rw [ev, evs_cons (ev_var rfl) evs_nil]; rfl
    · rw [ev, ev_var rfl]
      simp only [Option.bind_some]
      rw [ev, ev_tupG tk (evs_cons (ev_var rfl) evs_nil) (by simp)]
      have o1 : okT P.tk [(D.tup ys), .tup ys, .tup ys, .tup ys] = true := by rw [tk, okT]; simp; exact sl1 (by omega)
      have o2 : okT P.tk (row ++ [(D.tup ys), .tup ys, .tup ys, .tup ys]) = true := by rw [tk, okT]; simp; exact sl1 (by omega)
      simp only [Option.bind_some, ev_int, binD, mulD, show ((4 : Int)).toNat = 4 from rfl, e4s, o1]
      simp [addD, e4s, o1, o2]
  obtain ⟨d5, eB2⟩ := loop18 P b18B a2 (.d (.tup ys)) (.d (.tup row)) τ5 [.tup row, .lst row, .tup (row ++ [.tup ys, .tup ys, .tup ys, .tup ys]), .non, .int 5, .tup [.non], y2] c5 (by
    intro x hx
    refine b18B_ok hP _ _ _ x ?_ _
    simp only [List.mem_cons, List.not_mem_nil, or_false] at hx
    rcases hx with rfl | rfl | rfl | rfl | rfl | rfl | rfl
    · exact B (N := 10) (by omega) hrb
    · exact B (N := 10) (by omega) (bd_lst.mpr ⟨hrl2, hrm⟩)
    · refine B (N := 10) (by omega) (bd_tup.mpr ⟨by simp; omega, fun y hy => ?_⟩)
      rcases List.mem_append.mp hy with h | h
      · exact hrm y h
      · have : y = .tup ys := by simpa using h
        rw [this]; exact hyb
    · rfl
    · rfl
    · rfl
    · exact B (N := 20) (by omega) q5)
  exact ⟨_, _, d5, τ5, (evB_nx eu).trans ((evB_nx (evS_fr eA eA2)).trans ((evB_nx (evS_fr eB eB2)).trans evB_nil0))⟩
theorem turn18_loop (P : Sg) (ns : List Int) (hP : P18 P ns) : ∀ (xs : List D) (a2 a3 a4 a5 : Slot) (τ : TS), ∃ b2 b3 b4 b5 τ', forL (fun x ρ1 τ1 => (bindT (.nm 2) x ρ1).bind fun ρ2 => evB P t18 ρ2 τ1) xs (F18 a2 a3 a4 a5) τ = some (.nx (F18 b2 b3 b4 b5) τ')
  | [], a2, a3, a4, a5, τ => ⟨a2, a3, a4, a5, τ, rfl⟩
  | x :: xs, a2, a3, a4, a5, τ => by
    obtain ⟨c3, c4, c5, τ1, e1⟩ := turn18 P ns hP (.d x) a3 a4 a5 τ
    obtain ⟨d2, d3, d4, d5, τ2, e2⟩ := turn18_loop P ns hP xs (.d x) c3 c4 c5 τ1
    refine ⟨d2, d3, d4, d5, τ2, ?_⟩
    rw [forL_step (ρ1 := F18 (.d x) c3 c4 c5) (τ1 := τ1) (by simp only [bindT, Option.bind_some]; exact e1)]
    exact e2
theorem law18 (P : Sg) (ns : List Int) (hP : P18 P ns) : ∃ ρ τ, evB P ir_law18 (startLaw 6 1) ⟨0, 0⟩ = some (.nx ρ τ) := by
  obtain ⟨b2, b3, b4, b5, τ, e⟩ := turn18_loop P ns hP (rangeD 0 8 1) .un .un .un .un ⟨0, 0⟩
  refine ⟨F18 b2 b3 b4 b5, τ, ?_⟩
  show evB P ir_law18 (F18 .un .un .un .un) ⟨0, 0⟩ = _
  unfold ir_law18
  exact (evB_nx (evS_fr (evi_rng1 (k := 8) (τ1 := ⟨0, 0⟩) ev_int (by omega)) e)).trans evB_nil0
end PD

set_option Elab.async false
set_option linter.all false
set_option maxRecDepth 100000
set_option maxHeartbeats 4000000
/-! The last statements of k18's law. -/
namespace PD
open PySem PySem.Spec PyProof.Rows L2 HotX L2H PR StX ClX
/-- _law_likened(Row(), None), _law_likened(Row(), ()) -/
def spLi (Cn : PD.Con) (Cr : Addr) : Sp := fun vs H Q _ => ∃ (F : Hp) (x dx : Addr) (fs : List (Str × V)) (v : V) (d : D), vs = [.ref x, v] ∧ (d = .non ∨ d = .tup []) ∧ R Cn F v d ∧ Sub F H ∧ H x = some (.ins Cr dx fs) ∧ fs.lookup ("does_same" : Str) = none ∧ ∀ H', Same H H' → Q (.str (wordE 0)) H'
/-- a test that has one outcome -/
def RdXT (Cn : Con) (W : TW) (τ : TS) (b : Bool) : TT := fun σ H Q => ∃ F0 H0 F ρ, Rel Cn W F0 H0 F H σ ρ τ ∧ ∀ F' H', Ext W.tp F H F' H' → Rel Cn W F0 H0 F' H' σ ρ τ → Q b H'
section
variable {nm : Nm} {P : Sg} {Cn : Con} {W : TW} {τ : TS} {X : Cx}
theorem pt_neX (g : Good nm P Cn W false X) {a b : Expr} {d1 d2 : D} {p : Pos} (ha : PE X a (RdX Cn W τ d1)) (hb : PE X b (RdX Cn W τ d2)) (hd : min (dep d1) (dep d2) ≤ 60) (h1 : behindInMarks .NotEq b = false) {r : Bool} (hr : (!eqv d1 d2) = r) : PT X (.Compare a [.NotEq] [b] p) (RdXT Cn W τ r) := by
  subst hr
  have h := pt_cmpR (pos := p) (ne_D (C := Cn) g.hK (by have := g.units; omega)) ha hb h1
  refine pt_imp h ?_
  rintro σ H Q ⟨F0, H0, F, ρ, r, k⟩
  refine ⟨F0, H0, F, ρ, r, fun v F1 H1 x1 r1 rv => ⟨F0, H0, F1, ρ, r1, fun v2 F2 H2 x2 r2 rv2 => ?_⟩⟩
  refine ⟨F2, d1, d2, _, r2.sub, R.sub x2.ff _ rv, rv2, by rw [neD, if_pos hd], fun v3 F3 H3 x3 r3 => ?_⟩
  cases r3
  exact ⟨_, rfl, k F3 H3 ((x1.tr x2).tr x3.ext) (r2.extP x3)⟩
/-- _law_likened(Row(), e) -/
theorem pe_lik (g : Good nm P Cn W false X) (tkf : Cn.tk = false) {Cr fI fL : Addr} {fdL : FuncData} {c : Fin 5 → Addr} {k kL : Nat} {p q p2 p3 : Pos} {e2 : Expr} {d2 : D} (hd2 : d2 = .non ∨ d2 = .tup []) (TR : TxRow X.K X.mg Cr) (M : Mk X.K Cr fI)
    (FI : FnR X.prog X.w X.K X.mg X.base (L2N.CX X.prog X.w) k fI (spRIs Cn Cr c)) (hr : Room (k + 1) X.A) (hg : Gl X "Row") (FL : FnOk X.prog X.w X.K X.mg X.base CX0 kL fL fdL ["one", "other"] (spLi Cn Cr)) (hrL : Room kL X.A) (hgL : Gl X "_law_likened") (hmL : X.mg "_law_likened" = some (.ref fL)) (hkL : PySem.W.keepIn X.K (.ref fL) = true) (bL : Binds X.K fdL ["one", "other"] [])
    (he : PE X e2 (RdX Cn W τ d2)) (hs2 : starEach [e2] X.env = (false, eval e2 X.env) :: starEach [] X.env := by rfl) : PE X (.Call (.Name "_law_likened" p) [.Call (.Name "Row" q) [] [] p2, e2] [] p3) (RdX Cn W τ (.str (codeE 0))) := by
  have h := pe_call (pos := p3) (p := p) FL hrL hgL hmL hkL bL .nil pass0 (pa_cons (pe_row00 (τ := τ) (W := W) (p := q) (pos := p2) g tkf TR M FI hr hg) (pa_cons he pa_nil hs2) rfl) (by decide) rfl (by rw [hs2]; rfl)
  refine pe_imp h ?_
  rintro σ H Q ⟨F0, H0, F, ρ, r, k⟩
  refine ⟨F0, H0, F, ρ, r, fun x dx fs F1 H1 x1 r1 ex nx lx => ⟨F0, H0, F1, ρ, r1, fun v F2 H2 x2 r2 rv => ?_⟩⟩
  have ntp : x ≠ W.tp := fun z => by
    have := r1.tape.at_
    rw [← z, ex] at this; cases this
  refine ⟨F2, x, dx, fs, v, d2, rfl, hd2, rv, r2.sub, (x2.hh x _ ex nx ntp).1, lx, fun H3 s3 => ?_⟩
  have x3 : Ext W.tp F2 H2 F2 H3 := (Ext.rfl' r2.sub).same s3
  rw [word_code]
  exact k _ F2 H3 ((x1.ext.tr x2).tr x3) (r2.ext x3 (r2.tape.same s3)) (.str _)
/-- Cleaner.MOST -/
theorem pe_most (g : Good nm P Cn W false X) {Cc : Addr} {mc u : Value} {p p2 : Pos} (hg : Gl X "Cleaner") (TC : TxC X.K X.mg Cc) (hr : CRead X.K Cc mc) (hv : CVal X.K Cc mc "MOST" (.int 30) u) : PE X (.Attribute (.Name "Cleaner" p) "MOST" p2) (RdX Cn W τ (.int 30)) := by
  refine pe_imp (pe_cval (pos := p2) (pe_glob (pos := p) (v := .ref Cc) hg TC.mgC rfl) rfl) ?_
  rintro σ H Q ⟨F0, H0, F, ρ, r, k⟩
  exact ⟨Cc, mc, _, u, rfl, hr, hv, k _ F H (Ext.rfl' r.sub) r (.int _)⟩
end
theorem kit_eq {K : PySem.W.Frag} (a : Addr) : PySem.W.kitOne K (.ref a) (.ref a) = some true := by
  unfold PySem.W.kitOne
  rw [if_pos (by simp)]
theorem kit_ne {K : PySem.W.Frag} {t : Value} {C : Addr} {b : Bool} (h1 : (t == Value.ref C) = false) (h2 : PySem.W.hasDictIn K C = true) (h3 : PySem.W.typeIn K (.ref C) = some (.type "type")) (h4 : PySem.W.subIn K t (.ref C) = some b) : PySem.W.kitOne K t (.ref C) = some b := by
  obtain ⟨cd, hc, _⟩ := PySem.W.any_some h2
  have e2 : ((PySem.W.clsIn K C).isSome && PySem.W.typeIn K (.ref C) == some (.type "type")) = true := by rw [hc, h3] <;> rfl
  unfold PySem.W.kitOne
  rw [if_neg (by rw [h1]; decide)]
  show (if ((PySem.W.clsIn K C).isSome && PySem.W.typeIn K (.ref C) == some (.type "type")) = true then PySem.W.subIn K t (.ref C) else none) = some b
  rw [if_pos e2]
  exact h4
theorem all3 {α : Type} {p : α → Prop} {a b c : α} (h : p a) (h2 : p b) (h3 : p c) : ∀ x ∈ [a, b, c], p x := by
  intro x hx
  simp only [List.mem_cons, List.not_mem_nil, or_false] at hx
  rcases hx with rfl | rfl | rfl
  · exact h
  · exact h2
  · exact h3
end PD

set_option Elab.async false
set_option linter.all false
set_option maxRecDepth 100000
set_option maxHeartbeats 8000000
namespace K18
open PySem PySem.Spec PyProof.Rows L2 HotX L2H PR StX ClX PD
def topS (i : Nat) : Stmt := PySem.Challenge.pw_textcleaners_k18_rows_and_cleaners_that.main.body.getD i (.Pass ⟨0, 0, 0, 0⟩)
theorem sc_is_string : FnScope ["value", "low", "high", "sign"] ["value", "low", "high"] (defScope (topS 29)) := ⟨rfl, rfl, rfl, by decide +kernel, rfl, by decide +kernel, by decide +kernel⟩
theorem ck_is_string : chkB ⟨["value", "low", "high", "sign"], [], ["SIGNS"], []⟩ (defScope (topS 29)) ir_is_string (defBody (topS 29)) = true := by decide +kernel
theorem sc_is_set : FnScope ["value", "one", "other"] ["value"] (defScope (topS 31)) := ⟨rfl, rfl, rfl, by decide +kernel, rfl, by decide +kernel, by decide +kernel⟩
theorem ck_is_set : chkB ⟨["value", "one", "other"], [("is_string", false)], [], []⟩ (defScope (topS 31)) ir_is_set (defBody (topS 31)) = true := by decide +kernel
theorem sc_is_number : FnScope ["value"] ["value"] (defScope (topS 32)) := ⟨rfl, rfl, rfl, by decide +kernel, rfl, by decide +kernel, by decide +kernel⟩
theorem ck_is_number : chkB ⟨["value"], [], [], []⟩ (defScope (topS 32)) ir_is_number (defBody (topS 32)) = true := by decide +kernel
theorem sc_is_step : FnScope ["value", "word", "rest"] ["value"] (defScope (topS 33)) := ⟨rfl, rfl, rfl, by decide +kernel, rfl, by decide +kernel, by decide +kernel⟩
theorem ck_is_step : chkB ⟨["value", "word", "rest"], [("is_set", false), ("is_string", false), ("is_number", false)], ["WITH_SET", "WITH_WORD", "WITH_NUMBER"], []⟩ (defScope (topS 33)) ir_is_step (defBody (topS 33)) = true := by decide +kernel
theorem sc_is_row : FnScope ["value", "step"] ["value"] (defScope (topS 34)) := ⟨rfl, rfl, rfl, by decide +kernel, rfl, by decide +kernel, by decide +kernel⟩
theorem ck_is_row : chkB ⟨["value", "step"], [("is_step", false)], ["MOST_STEPS"], []⟩ (defScope (topS 34)) ir_is_row (defBody (topS 34)) = true := by decide +kernel
theorem sc_law_draw : FnScope ["tape", "many", "prime", "cell", "found"] ["tape", "many"] (defScope (topS 67)) := ⟨rfl, rfl, rfl, by decide +kernel, rfl, by decide +kernel, by decide +kernel⟩
theorem ck_law_draw : chkB ⟨["tape", "many", "prime", "cell", "found"], [], [], []⟩ (defScope (topS 67)) ir_law_draw (defBody (topS 67)) = true := by decide +kernel
theorem sc_law_whole : FnScope ["item"] ["item"] (defScope (topS 68)) := ⟨rfl, rfl, rfl, by decide +kernel, rfl, by decide +kernel, by decide +kernel⟩
theorem ck_law_whole : chkB ⟨["item"], [], [], []⟩ (defScope (topS 68)) ir_law_whole (defBody (topS 68)) = true := by decide +kernel
theorem sc_law_like : FnScope ["one", "two", "k"] ["one", "two"] (defScope (topS 69)) := ⟨rfl, rfl, rfl, by decide +kernel, rfl, by decide +kernel, by decide +kernel⟩
theorem ck_law_like : chkB ⟨["one", "two", "k"], [("_law_like", false)], [], []⟩ (defScope (topS 69)) ir_law_like (defBody (topS 69)) = true := by decide +kernel
theorem sc_law_spoilt : FnScope ["tape", "item", "k", "rest", "course", "at"] ["tape", "item"] (defScope (topS 70)) := ⟨rfl, rfl, rfl, by decide +kernel, rfl, by decide +kernel, by decide +kernel⟩
theorem ck_law_spoilt : chkB ⟨["tape", "item", "k", "rest", "course", "at"], [("_law_draw", true), ("_law_spoilt", true), ("_law_any", true), ("_law_whole", false)], [], []⟩ (defScope (topS 70)) ir_law_spoilt (defBody (topS 70)) = true := by decide +kernel
theorem sc_law_any : FnScope ["tape", "deep", "course", "some", "k"] ["tape", "deep"] (defScope (topS 71)) := ⟨rfl, rfl, rfl, by decide +kernel, rfl, by decide +kernel, by decide +kernel⟩
theorem ck_law_any : chkB ⟨["tape", "deep", "course", "some", "k"], [("_law_draw", true), ("_law_any", true)], [], []⟩ (defScope (topS 71)) ir_law_any (defBody (topS 71)) = true := by decide +kernel
theorem sc_law_sign : FnScope ["tape"] ["tape"] (defScope (topS 72)) := ⟨rfl, rfl, rfl, by decide +kernel, rfl, by decide +kernel, by decide +kernel⟩
theorem ck_law_sign : chkB ⟨["tape"], [("_law_draw", true)], [], []⟩ (defScope (topS 72)) ir_law_sign (defBody (topS 72)) = true := by decide +kernel
theorem ct_law_sign : chkSub (defBody (topS 72)) (tx SGN) (chkE ⟨["tape"], [("_law_draw", true)], [], []⟩ (defScope (topS 72)) (.callT 0 0 (.cons (.int 11) .nil))) = true := by decide +kernel
theorem sc_law_word : FnScope ["tape", "one"] ["tape"] (defScope (topS 73)) := ⟨rfl, rfl, rfl, by decide +kernel, rfl, by decide +kernel, by decide +kernel⟩
theorem ck_law_word : chkB ⟨["tape", "one"], [("_law_sign", true), ("_law_draw", true)], [], []⟩ (defScope (topS 73)) ir_law_word (defBody (topS 73)) = true := by decide +kernel
theorem sc_law_set : FnScope ["tape", "found", "turn"] ["tape"] (defScope (topS 74)) := ⟨rfl, rfl, rfl, by decide +kernel, rfl, by decide +kernel, by decide +kernel⟩
theorem ck_law_set : chkB ⟨["tape", "found", "turn"], [("_law_sign", true), ("_law_draw", true)], [], []⟩ (defScope (topS 74)) ir_law_set (defBody (topS 74)) = true := by decide +kernel
theorem sc_law_step : FnScope ["tape", "kinds", "word", "one", "other"] ["tape"] (defScope (topS 75)) := ⟨rfl, rfl, rfl, by decide +kernel, rfl, by decide +kernel, by decide +kernel⟩
theorem ck_law_step : chkB ⟨["tape", "kinds", "word", "one", "other"], [("_law_draw", true), ("_law_set", true), ("_law_word", true), ("_law_sign", true)], [], []⟩ (defScope (topS 75)) ir_step7 ((defBody (topS 75)).take 7) = true := by decide +kernel
theorem ct_law_step : chkTail (defScope (topS 75)) ((defBody (topS 75)).drop 7) = true := by decide +kernel
theorem sc_law_row : FnScope ["tape", "most", "found", "turn"] ["tape", "most"] (defScope (topS 76)) := ⟨rfl, rfl, rfl, by decide +kernel, rfl, by decide +kernel, by decide +kernel⟩
theorem ck_law_row : chkB ⟨["tape", "most", "found", "turn"], [("_law_draw", true), ("_law_step", true)], [], []⟩ (defScope (topS 76)) ir_law_row (defBody (topS 76)) = true := by decide +kernel
theorem sc_law : FnScope ["script", "tape", "turn", "step", "row", "thing"] ["script"] (defScope (topS 81)) := ⟨rfl, rfl, rfl, by decide +kernel, rfl, by decide +kernel, by decide +kernel⟩
theorem cz_law : chkTape (defScope (topS 81)) 1 ["script", "tape", "turn", "step", "row", "thing"] ((defBody (topS 81)).headD (.Pass ⟨0, 0, 0, 0⟩)) = true := by decide +kernel
theorem cb_law : defBody (topS 81) = (defBody (topS 81)).headD (.Pass ⟨0, 0, 0, 0⟩) :: ((defBody (topS 81)).tail.take 1 ++ (defBody (topS 81)).tail.drop 1) := rfl
theorem ck_law : chkB ⟨["script", "tape", "turn", "step", "row", "thing"], [("_law_row", true), ("_law_step", true), ("_law_spoilt", true), ("_law_like", false), ("is_step", false), ("_law_made", false), ("is_row", false), ("_law_cleaner", false)], [], []⟩ (defScope (topS 81)) ir_law18 ((defBody (topS 81)).tail.take 1) = true := by decide +kernel
abbrev sErr : Stmt := topS 77
theorem sc_err : FnScope ["e", "some", "word", "good"] ["e"] (defScope sErr) := ⟨rfl, rfl, rfl, by decide +kernel, rfl, by decide +kernel, by decide +kernel⟩
theorem new1 (G : Hp) {p : Addr} (h : G p = none) (o : HO) : ∃ G', upd G p o = G' ∧ Same G G' ∧ G' p = some o ∧ ∀ b, b ≠ p → G' b = G b := ⟨_, rfl, fun b u e => by rw [upd_ne (ne_of_none e h)]; exact e, upd_same, fun b hb => upd_ne hb⟩
theorem at_hp {G : Hp} {p : Addr} {o : HO} {R : Hp → Prop} (h : ∀ G', G' p = some o → (∀ b, b ≠ p → G' b = G b) → R G') : R (upd G p o) := h _ upd_same fun b hb => upd_ne hb
theorem err_ok {P : Program} {w : World} {K : PySem.W.Frag} {mg : Str → Option Value} {base : Heap} {f : Addr} {fd : FuncData} {c : Fin 5 → Addr} {cC : Addr} (F : Fun K "_law_error" "_law_error" sErr f fd) (T : TxE K mg c cC) : FnE P w K mg base 1 f fd ["e"] (kdE c) := by
  obtain ⟨⟨oc, od, kV, dc, pm, an, cd, ct, osl, rfl, lk, hcd⟩, kp⟩ := F
  refine fn_ofE (N := ["e", "some", "word", "good"]) lk hcd sc_err rfl fun A outer s H Q p D wd hot hr hz hfs hkd hQ => ?_
  obtain ⟨i, rfl, rfl⟩ := hkd
  have hpX : p ∈ (cxH CX0 P w K mg base ["e", "some", "word", "good"] "_law_error" (defScope sErr) f cd A outer s H E0 p).pn := List.mem_singleton.mpr rfl
  have hcX : HotC (cxH CX0 P w K mg base ["e", "some", "word", "good"] "_law_error" (defScope sErr) f cd A outer s H E0 p) := ⟨p, hot, hpX⟩
  have isE := call_isP (X := cxH CX0 P w K mg base ["e", "some", "word", "good"] "_law_error" (defScope sErr) f cd A outer s H E0 p) hpX (T.ex i) hz hfs
  refine ⟨_, pss_cons (ps_set (i := 1) sc_err.nd rfl (.inl rfl) (pe_lst (pa_cons (pe_tup (pa_cons pe_str (pa_cons (pe_callB isE (by rfl) T.isn (by decide +kernel) (pa_cons (pv 0) (pa_cons (pe_glob (v := .ref (c 0)) (by rfl) (T.mgc 0) rfl) pa_nil))) pa_nil))) (pa_cons (pe_tup (pa_cons pe_str (pa_cons (pe_callB isE (by rfl) T.isn (by decide +kernel) (pa_cons (pv 0) (pa_cons (pe_glob (v := .ref (c 1)) (by rfl) (T.mgc 1) rfl) pa_nil))) pa_nil))) pa_nil))))
    (pss_cons (ps_set (i := 1) sc_err.nd rfl (.inl rfl) (pe_op op_cat (pv 1) (pe_lst (pa_cons (pe_tup (pa_cons pe_str (pa_cons (pe_callB isE (by rfl) T.isn (by decide +kernel) (pa_cons (pv 0) (pa_cons (pe_glob (v := .ref (c 2)) (by rfl) (T.mgc 2) rfl) pa_nil))) pa_nil))) (pa_cons (pe_tup (pa_cons pe_str (pa_cons (pe_callB isE (by rfl) T.isn (by decide +kernel) (pa_cons (pv 0) (pa_cons (pe_glob (v := .ref (c 3)) (by rfl) (T.mgc 3) rfl) pa_nil))) pa_nil))) pa_nil)))))
    (pss_cons (ps_expr (pe_bm F.plainAttrs_list F.slot_list_append F.type_list_append mt_append (pv 1) (pa_cons (pe_tup (pa_cons pe_str (pa_cons (pe_callB isE (by rfl) T.isn (by decide +kernel) (pa_cons (pv 0) (pa_cons (pe_glob (v := .ref (c 4)) (by rfl) (T.mgc 4) rfl) pa_nil))) pa_nil))) pa_nil)))
    (pss_one (ps_ret (pe_bm F.plainAttrs_str F.slot_str_join F.type_str_join mt_join pe_str (pa_cons (pe_lcH (own := [("word", 2), ("good", 3)]) (g := gTup K 2 (gCons (gName 2) (gCons (gName 3) gNil))) (tt := tB (tVar 3)) (te := tVar 2) hcX sc_err.nd (pv 1) (blkOk_by (N := ["e", "some", "word", "good"]) (sc := defScope sErr) (by decide +kernel)) (fun s H C cl fp => pg_tupH (X := blkH _ s H _ _ fp) ⟨p, hot, List.mem_singleton.mpr rfl⟩ (pgs_cons (pg_name (i := 2) sc_err.nd rfl (.inl rfl)) (pgs_cons (pg_name (i := 3) sc_err.nd rfl (.inl rfl)) pgs_nil))) (fun s H C cl fp => pts_one (pt_val (pv 3))) (fun s H C cl fp => pv 2)) pa_nil)))))), ?_⟩
  refine ⟨_, rfl, _, _, _, rfl, rv_ref _, T.kit i 0, by show 2 ≤ sizeLine; decide, fun t0 ht0 => ?_⟩
  obtain ⟨G0, eG0, sG0, fG0, kG0⟩ := new1 H ht0 (.tup [.str "step", .bl (decide (i = 0))])
  rw [show upd H t0 _ = G0 from eG0]
  refine ⟨_, rfl, _, _, _, rfl, rv_ref _, T.kit i 1, by show 2 ≤ sizeLine; decide, fun t1 ht1 => ?_⟩
  obtain ⟨G1, eG1, sG1, fG1, kG1⟩ := new1 G0 ht1 (.tup [.str "text", .bl (decide (i = 1))])
  rw [show upd G0 t1 _ = G1 from eG1]
  refine ⟨by show 2 ≤ sizeLine; decide, fun l0 hl0 => ?_⟩
  obtain ⟨G2, eG2, sG2, fG2, kG2⟩ := new1 G1 hl0 (.lst [.ref t0, .ref t1])
  rw [show upd G1 l0 _ = G2 from eG2]
  refine ⟨_, rfl, ?_⟩
  refine ⟨_, rfl, _, _, _, rfl, rv_ref _, T.kit i 2, by show 2 ≤ sizeLine; decide, fun t2 ht2 => ?_⟩
  obtain ⟨G3, eG3, sG3, fG3, kG3⟩ := new1 G2 ht2 (.tup [.str "index", .bl (decide (i = 2))])
  rw [show upd G2 t2 _ = G3 from eG3]
  refine ⟨_, rfl, _, _, _, rfl, rv_ref _, T.kit i 3, by show 2 ≤ sizeLine; decide, fun t3 ht3 => ?_⟩
  obtain ⟨G4, eG4, sG4, fG4, kG4⟩ := new1 G3 ht3 (.tup [.str "many", .bl (decide (i = 3))])
  rw [show upd G3 t3 _ = G4 from eG4]
  refine ⟨by show 2 ≤ sizeLine; decide, fun l1 hl1 => ?_⟩
  obtain ⟨G5, eG5, sG5, fG5, kG5⟩ := new1 G4 hl1 (.lst [.ref t2, .ref t3])
  rw [show upd G4 l1 _ = G5 from eG5]
  refine ⟨_, _, _, _, rfl, rfl, sG5 _ _ (sG4 _ _ (sG3 _ _ fG2)), fG5, by show 4 ≤ sizeLine; decide, fun l2 hl2 => ?_⟩
  obtain ⟨G6, eG6, sG6, fG6, kG6⟩ := new1 G5 hl2 (.lst ([.ref t0, .ref t1] ++ [.ref t2, .ref t3]))
  rw [show upd G5 l2 _ = G6 from eG6]
  refine ⟨_, rfl, ?_⟩
  refine ⟨.inl ⟨rfl, _, SqL.of fG6⟩, _, rfl, _, _, _, rfl, rv_ref _, T.kit i 4, by show 2 ≤ sizeLine; decide, fun t4 ht4 => ?_⟩
  obtain ⟨G7, eG7, sG7, fG7, kG7⟩ := new1 G6 ht4 (.tup [.str "nothing", .bl (decide (i = 4))])
  rw [show upd G6 t4 _ = G7 from eG7]
  refine ⟨l2, _, _, rfl, rfl, sG7 _ _ fG6, by show 4 < sizeLine; decide, ?_⟩
  refine at_hp (o := .lst ([.ref t0, .ref t1] ++ [.ref t2, .ref t3] ++ [.ref t4])) fun G8 fG8 kG8 => ?_
  have n2 : ∀ {a : Addr} {xs : List V}, G7 a = some (.tup xs) → a ≠ l2 := fun {a xs} e z => by
    rw [z, sG7 _ _ fG6] at e; cases e
  have ft : ∀ j : _root_.Fin 5, ∃ t, ([.ref t0, .ref t1] ++ [.ref t2, .ref t3] ++ [.ref t4] : List V)[j.val]? = some (.ref t) ∧ G8 t = some (.tup [.str (wordE j), .bl (decide (i = j))]) := fun j => by
    have z0 : G7 t0 = some _ := sG7 _ _ (sG6 _ _ (sG5 _ _ (sG4 _ _ (sG3 _ _ (sG2 _ _ (sG1 _ _ fG0))))))
    have z1 : G7 t1 = some _ := sG7 _ _ (sG6 _ _ (sG5 _ _ (sG4 _ _ (sG3 _ _ (sG2 _ _ fG1)))))
    have z2 : G7 t2 = some _ := sG7 _ _ (sG6 _ _ (sG5 _ _ (sG4 _ _ fG3)))
    have z3 : G7 t3 = some _ := sG7 _ _ (sG6 _ _ (sG5 _ _ fG4))
    match j with
    | 0 => exact ⟨t0, rfl, by rw [kG8 _ (n2 z0)]; exact z0⟩
    | 1 => exact ⟨t1, rfl, by rw [kG8 _ (n2 z1)]; exact z1⟩
    | 2 => exact ⟨t2, rfl, by rw [kG8 _ (n2 z2)]; exact z2⟩
    | 3 => exact ⟨t3, rfl, by rw [kG8 _ (n2 z3)]; exact z3⟩
    | 4 => exact ⟨t4, rfl, by rw [kG8 _ (n2 fG7)]; exact fG7⟩
  have hS : Same H G7 := fun b o e => sG7 _ _ (sG6 _ _ (sG5 _ _ (sG4 _ _ (sG3 _ _ (sG2 _ _ (sG1 _ _ (sG0 _ _ e)))))))
  have hS8 : Same H G8 := fun b o e => by
    have z := hS b o e
    have n : b ≠ l2 := fun q => by
      have z5 := sG5 _ _ (sG4 _ _ (sG3 _ _ (sG2 _ _ (sG1 _ _ (sG0 _ _ e)))))
      rw [q, hl2] at z5; cases z5
    rw [kG8 _ n]; exact z
  refine ⟨rfl, _, rfl, l2, _, rfl, SqL.of fG8, fun L hL => ?_⟩
  have hf5 : ∀ i : _root_.Fin 5, ((List.finRange 5).filter fun j => decide (i = j)) = [i] := by decide
  have hstep : ∀ (i k : _root_.Fin 5), (((List.finRange 5).take (k.val + 1)).filter fun j => decide (i = j)) = (((List.finRange 5).take k.val).filter fun j => decide (i = j)) ++ (if i = k then [i] else []) := by decide
  refine ⟨fun k G => (∀ b o, G8 b = some o → G b = some o) ∧ G L = some (.lst ((((List.finRange 5).take k).filter fun j => decide (i = j)).map fun j => V.str (wordE j))), ⟨fun b o e => ?_, upd_same⟩, fun k G h => SqL.of (h.1 _ _ fG8), fun G h => ?_, fun k x G hx h => ?_⟩
  · rw [upd_ne (ne_of_none e hL)]; exact e
  · obtain ⟨h1, h2⟩ := h
    have e5 : ([V.ref t0, V.ref t1] ++ [V.ref t2, V.ref t3] ++ [V.ref t4]).length = 5 := rfl
    rw [e5, show (List.finRange 5).take 5 = List.finRange 5 from by decide, hf5 i] at h2
    refine ⟨_, L, [wordE i], rfl, rfl, .inl (SqL.of h2), ?_, ?_⟩
    · match i with
      | 0 => decide +kernel
      | 1 => decide +kernel
      | 2 => decide +kernel
      | 3 => decide +kernel
      | 4 => decide +kernel
    · have ej : Txt.join "" [wordE i] = wordE i := by
        match i with
        | 0 => decide +kernel
        | 1 => decide +kernel
        | 2 => decide +kernel
        | 3 => decide +kernel
        | 4 => decide +kernel
      rw [ej]
      exact hQ _ fun b o e => h1 b o (hS8 b o e)
  · have hk : k < 5 := (List.getElem?_eq_some_iff.mp hx).1
    obtain ⟨t, et, ht⟩ := ft ⟨k, hk⟩
    rw [et] at hx
    cases hx
    obtain ⟨h1, h2⟩ := h
    refine ⟨_, _, rfl, SqT.of (h1 _ _ ht), rfl, _, _, rfl, _, _, rfl, rfl, rfl, _, rfl, _, rfl, ?_⟩
    have hs := hstep i ⟨k, hk⟩
    by_cases q : i = ⟨k, hk⟩
    · rw [decide_eq_true q]
      rw [if_pos q] at hs
      refine ⟨_, rfl, _, h2, ?_, fun b o e => ?_, ?_⟩
      · rw [List.length_map]
        refine Nat.lt_of_le_of_lt (List.length_filter_le _ _) (Nat.lt_of_le_of_lt (List.length_take_le _ _) ?_)
        show k < sizeLine
        have : 5 < sizeLine := by decide
        omega
      · rw [upd_ne (ne_of_none e hL)]; exact h1 b o e
      · rw [upd_same, hs, List.map_append]; simp [q]
    · rw [decide_eq_false q]
      rw [if_neg q, List.append_nil] at hs
      refine (?_ : _ ∧ _)
      rw [hs]
      exact ⟨h1, h2⟩
theorem cxUpN {P : Program} {w : World} : CXUp (L2N.CX P w) := by
  rintro outer s H s2 H2 E e s' un kp ho ⟨a, B, H', cls, d, ea, fl, hok, ub, na, os, ag, he⟩
  refine ⟨a, B, H', cls, d, ea, fl, hok, ⟨fun b o q n hb => ub.keep b o (kp b o q) (un.free b o q n (by simp)) hb, fun b o q hb => ub.slot b o (kp b o q) hb, fun b o q n => ub.free b o (kp b o q) (un.free b o q n (by simp)), fun b o q hb => ub.there b o (kp b o q) hb,
    fun b xs q => ub.tups b xs (un.tups b xs q), fun b o xs q => ub.frzs b o xs (un.frzs b o xs q), fun b ps q => ?_⟩, na, os.trans ho, ag, he⟩
  obtain ⟨m1, e1⟩ := un.tbls b ps q
  obtain ⟨m2, e2⟩ := ub.tbls b _ e1
  exact ⟨m1 ++ m2, by rw [e2, Array.append_assoc]⟩
/-! ### Row.__init__ -/
abbrev sRI : Stmt := inClass (topS 63) 1
theorem sc_ri : FnScope ["self", "steps", "step"] ((["self"] : List Str) ++ (["steps"] : List Str)) (defScope sRI) := ⟨rfl, rfl, rfl, by decide +kernel, rfl, by decide +kernel, by decide +kernel⟩
theorem ri_ok {P : Program} {w : World} {K : PySem.W.Frag} {mg : Str → Option Value} {base : Heap} {fI Cr : Addr} {c : Fin 5 → Addr} {cC : Addr} {od an : Option Addr} {osl : Array (Option Value)} {oc kV dc pm cd ct : Value} {k : Nat}
    (l1 : K.lookup fI = some ⟨oc, od, .func (PySem.W.fnOf "__init__" "Row.__init__" (defArgs sRI) (defBody sRI) (defScope sRI) .none kV dc pm an cd ct), osl⟩) (c1 : PySem.W.codeIn K cd "Row.__init__" = true) (T : TxE K mg c cC) (TR : TxRow K mg Cr) (M : Mo ⟨K, false⟩ K mg)
    (kIs : Kn P w K mg base ⟨K, false⟩ k ⟨"is_step", false, 1, GIsStep false⟩) (cst : CstOk ⟨K, false⟩ mg cMost) :
    FnR P w K mg base (L2N.CX P w) (k + 1) fI (spRIs ⟨K, false⟩ Cr c) := by
  refine fn_star (ps := ["self"]) (pv := "steps") l1 c1 sc_ri cxUpN (bind_star1 (B := fun us => bindArgs (PySem.W.fnOf "__init__" "Row.__init__" (defArgs sRI) (defBody sRI) (defScope sRI) .none kV dc pm an cd ct) ⟨us, []⟩) (p1 := "self") (pv := "steps") (fun _ => rfl) fun _ _ _ => rfl) fun A outer s H vs Q E hr hsp => ?_
  obtain ⟨W, F, x, dx, p, ds, τ, rfl, hl, hb, hR, sb, ht, hx, nx, h1, h2, h3⟩ := hsp
  have g : Good (mkNm ["self", "steps", "step"] [⟨"is_step", false, 1, GIsStep false⟩] [cMost]) (mkSg false [⟨"is_step", false, 1, GIsStep false⟩] [cMost] W.ns) ⟨K, false⟩ W false (cxOf (L2N.CX P w) P w K mg base ["self", "steps", "step"] "Row.__init__" (defScope sRI) fI cd A outer s H E) :=
    good_ofX M rfl rfl sc_ri.nd rfl PassesOwn.leaving (by
      have := hr.un
      show (A.deeper _).units + 65 < cLine
      omega) (fun _ _ => rfl) rfl rfl rfl rfl hr (fun q hq => by rw [List.mem_singleton.mp hq]; exact cst) (fun q hq => by rw [List.mem_singleton.mp hq]; exact kIs) (by simp)
  have tk := L2N.takes_of (X := cxOf (L2N.CX P w) P w K mg base ["self", "steps", "step"] "Row.__init__" (defScope sRI) fI cd A outer s H E) (E := E) rfl rfl rfl rfl
  refine ⟨_, pss_cons (ps_if (t_ok (tAllSteps 1 2) g _ (by show chkT (mkNm _ _ _) (defScope sRI) _ _ = true; decide +kernel)) (pss_one (L2N.ps_raise rfl tk (L2N.pmk_own PySem.F.excBase_ValueError (T.xp 0) (T.mgc 0) (T.kp 0) (raises_own (T.sb 0) (T.ty 0)) (by rfl)))) pss_nil)
    (pss_cons (ps_if (t_ok (tLenGt 1) g _ (by show chkT (mkNm _ _ _) (defScope sRI) _ _ = true; decide +kernel)) (pss_one (L2N.ps_raise rfl tk (L2N.pmk_own PySem.F.excBase_ValueError (T.xp 3) (T.mgc 3) (T.kp 3) (raises_own (T.sb 3) (T.ty 3)) (by rfl)))) pss_nil)
    (pss_one (ps_fld (pv 0) (pv 1) rfl))), ?_⟩
  have hrel : Rel ⟨K, false⟩ W F H F H (L2.start ["self", "steps", "step"] [V.ref x, V.ref p]) [.un, .d (.tup ds), .un] τ := rel_of rfl sb ht fun i s v e1 e2 => by
    match i with
    | 0 => cases e1; trivial
    | 1 => cases e1; cases e2; exact ⟨_, rfl, hR⟩
    | 2 => cases e1; trivial
    | i + 3 => cases e1
  refine ⟨F, H, F, _, τ, _, τ, hrel, allsteps_ev (ns := W.ns) (fun _ _ => rfl) ds hl hb τ, fun F1 H1 x1 r1 => ?_⟩
  have p1 := ext_P x1 ht r1.tape
  cases e : ds.all isStepD with
  | false => exact iteT (h2 e F1 H1 p1)
  | true =>
    refine iteF ⟨F, H, F1, _, τ, _, τ, r1, lengt_ev rfl ds hl τ, fun F2 H2 x2 r2 => ?_⟩
    have p2 := p1.tr (ext_P x2 r1.tape r2.tape)
    by_cases q : 3 < ds.length
    · rw [decide_eq_true q]
      exact iteT (h3 e q F2 H2 p2)
    · rw [decide_eq_false q]
      refine iteF ⟨_, rfl, _, rfl, x, Cr, dx, [], rfl, (p2.hh _ _ hx nx).1, TR.cl, TR.nH, by show 0 < 1000; decide, ?_⟩
      exact h1 e (by omega) F2 H2 p2 (R.sub p2.ff _ hR)
/-! ### _law_made -/
abbrev sMade : Stmt := topS 78
theorem sc_made : FnScope ["steps", "e"] ["steps"] (defScope sMade) := ⟨rfl, rfl, rfl, by decide +kernel, rfl, by decide +kernel, by decide +kernel⟩
def tLenLt (n : Int) : Tt := .cmp .Lt (.blt .len (.cons (.var 0) .nil)) (.int n)
def tNotNil : Tt := .cmp .NotEq (.var 0) (.tup .nil)
theorem lenlt_ev {P : Sg} {b : Slot} (n : Int) (xs : List D) (hl : xs.length ≤ 1000) (τ : PD.TS) : evt P (tLenLt n) [.d (.tup xs), b] τ = some (decide ((xs.length : Int) < n), τ) := by
  refine evt_cmp0 (len_tup0 (ev_var rfl)) ev_int ?_
  simp only [cmpD, ltD, ordD]
structure RowKn (P : Program) (w : World) (K : PySem.W.Frag) (mg : Str → Option Value) (base : Heap) (Cn : Con) (k : Nat) (c : Fin 5 → Addr) where
  Cr : Addr
  fI : Addr
  p0 : Addr
  g0 : Addr
  fdG : FuncData
  TR : TxRow K mg Cr
  M : Mk K Cr fI
  FI : FnR P w K mg base (L2N.CX P w) k fI (spRIs Cn Cr c)
  hp : PropOf K Cr "steps" p0 g0
  FG : FnOk P w K mg base CX0 k g0 fdG ["self"] (getSp Cr "held")
  bG : Binds K fdG ["self"] []
structure ErrKn (P : Program) (w : World) (K : PySem.W.Frag) (mg : Str → Option Value) (base : Heap) (k : Nat) (c : Fin 5 → Addr) where
  f : Addr
  fd : FuncData
  FE : FnE P w K mg base k f fd ["e"] (kdE c)
  mgE : mg "_law_error" = some (.ref f)
  kpE : PySem.W.keepIn K (.ref f) = true
  bE : Binds K fd ["e"] []
theorem made_ok {P : Program} {w : World} {K : PySem.W.Frag} {mg : Str → Option Value} {base : Heap} {c : Fin 5 → Addr} {cC : Addr} {k : Nat} (M : Mo ⟨K, false⟩ K mg) (D0 : DefOk K mg "_law_made" sMade ["steps"]) (T : TxE K mg c cC) (RK : RowKn P w K mg base ⟨K, false⟩ k c) (EK : ErrKn P w K mg base k c) :
    Kn P w K mg base ⟨K, false⟩ (k + 2) ⟨"_law_made", false, 1, GMadeX⟩ := by
  obtain ⟨f, fd, Fn, hm, hbd⟩ := D0
  refine ⟨f, fd, ["steps"], ?_, hm, Fn.kp, hbd, fun ns ds τ r e => gmade_len (ns := ns) e⟩
  refine Fn.ok sc_made (fun vs H Q E h => ?_) fun cdv A outer s H vs Q E hr hsp => ?_
  · obtain ⟨W, F, us, ds, τ, d, τ', rfl, h1, h2, _⟩ := h
    show vs.length = 1
    rw [h2.len, h1]
  obtain ⟨W, F, us, ds, τ, d, τ', rfl, h1, h2, h3, h4, h5, h6⟩ := hsp
  have hg : ∀ (pn : List (Addr × Obj)) (xe : Value → Shared → Prop), PassesOwn (model P w) (cxOf CX0 P w K mg base ["steps", "e"] "_law_made" (defScope sMade) f cdv A outer s H E).nox.A (cxOf CX0 P w K mg base ["steps", "e"] "_law_made" (defScope sMade) f cdv A outer s H E).nox.env xe →
      Good (mkNm ["steps", "e"] [] []) (mkSg false [] [] W.ns) ⟨K, false⟩ W false ((cxOf CX0 P w K mg base ["steps", "e"] "_law_made" (defScope sMade) f cdv A outer s H E).nox.tr pn xe) := fun pn xe hx =>
    good_ofX (k := 0) M rfl rfl sc_made.nd rfl hx (by
      have := hr.un
      show (A.deeper _).units + 65 < cLine
      omega) (fun _ _ => rfl) rfl rfl rfl rfl (hr.mono (by omega)) (by simp) (by simp) (by simp)
  have hrk : Room (k + 1) (cxOf CX0 P w K mg base ["steps", "e"] "_law_made" (defScope sMade) f cdv A outer s H E).nox.A := hr
  refine ⟨_, pss_one (L2N.ps_try_as (i := 1) rfl rfl sc_made.nd rfl rfl ⟨by rfl, by decide, .inl T.mgC⟩ takes0N (fun Wx pn xe tk hx =>
    pss_cons (ps_if (t_ok (tLenLt 2) (hg pn xe hx) _ (by show chkT (mkNm _ _ _) (defScope sMade) _ _ = true; decide +kernel))
      (pss_one (ps_ret (pe_ifExp (t_ok tNotNil (hg pn xe hx) _ (by show chkT (mkNm _ _ _) (defScope sMade) _ _ = true; decide +kernel))
        (pe_rowsteps (e' := .idx (.var 0) (.int 0)) (es' := .nil) (hg pn xe hx) rfl tk RK.TR RK.M RK.FI RK.hp RK.FG RK.bG hrk (by rfl) (by show chkA (mkNm _ _ _) (defScope sMade) _ _ = true; decide +kernel))
        (pe_row0 tk RK.TR RK.M RK.FI RK.hp RK.FG RK.bG hrk (by rfl))))) pss_nil)
    (pss_cons (ps_if (t_ok (tLenLt 3) (hg pn xe hx) _ (by show chkT (mkNm _ _ _) (defScope sMade) _ _ = true; decide +kernel))
      (pss_one (ps_ret (pe_rowsteps (e' := .idx (.var 0) (.int 0)) (es' := .cons (.idx (.var 0) (.int 1)) .nil) (hg pn xe hx) rfl tk RK.TR RK.M RK.FI RK.hp RK.FG RK.bG hrk (by rfl) (by show chkA (mkNm _ _ _) (defScope sMade) _ _ = true; decide +kernel)))) pss_nil)
    (pss_one (ps_ret (pe_rowsteps (e' := .idx (.var 0) (.int 0)) (es' := .cons (.idx (.var 0) (.int 1)) (.cons (.idx (.var 0) (.int 2)) (.cons (.idx (.var 0) (.int 3)) .nil))) (hg pn xe hx) rfl tk RK.TR RK.M RK.FI RK.hp RK.FG RK.bG hrk (by rfl) (by show chkA (mkNm _ _ _) (defScope sMade) _ _ = true; decide +kernel))))))
    fun a oe cls d pn hz hf => ps_retE (i := 1) hz hf EK.FE ⟨(hrk.mono (Nat.le_succ k)).dp, (hrk.mono (Nat.le_succ k)).un⟩ (by rfl) EK.mgE EK.kpE EK.bE rfl rfl (.inl rfl) rfl rfl rfl), ?_⟩
  have hd := gmade_len (ns := W.ns) h5
  match ds, hd with
  | [x0], _ =>
  replace h5 : GMadeX W.ns [x0] τ = some (d, τ') := h5
  unfold GMadeX at h5
  split at h5
  · rename_i xs hxs
    cases hxs
    split at h5
    · rename_i hc
      obtain ⟨hlen, hbn⟩ := hc
      obtain ⟨hl, hb⟩ := bnd_tup hbn
      cases h5
      have hrel : Rel ⟨K, false⟩ W F H F H (L2.start ["steps", "e"] vs) [.d (.tup xs), .un] τ := start_rel (N := ["steps", "e"]) (tp := false) (by show vs.length ≤ 2; rw [h2.len]; exact Nat.le_succ 1) h2 h3 h4
      have kE : ∀ (i : Fin 5) {F1 H1 F' H' : Hp}, madeD xs = .str (codeE i) → Ext W.tp F H F' H' → TapeAt W F' H' τ → ∀ H2, Same H' H2 → Q (.str (wordE i)) H2 := fun i F1 H1 F' H' e x t H2 s2 => by
        rw [word_code]
        exact h6 _ F' H2 (x.same s2) (t.same s2) (by rw [e]; exact .str _)
      have fin : ∀ {F1 H1 : Hp} {es : Es}, Ext W.tp F H F1 H1 → Rel ⟨K, false⟩ W F H F1 H1 (L2.start ["steps", "e"] vs) [.d (.tup xs), .un] τ → evs (mkSg false [] [] W.ns) es [.d (.tup xs), .un] τ = some (xs, τ) →
          ∃ F0 H0 F2 ρ τ0 ds τ', Rel ⟨K, false⟩ W F0 H0 F2 H1 (L2.start ["steps", "e"] vs) ρ τ0 ∧ evs (mkSg false [] [] W.ns) es ρ τ0 = some (ds, τ') ∧ ds.length ≤ 1000 ∧ (∀ d ∈ ds, bnd d = true) ∧
            (ds.all isStepD = true → ds.length ≤ 3 → ∀ v F' H', Ext W.tp F2 H1 F' H' → Rel ⟨K, false⟩ W F0 H0 F' H' (L2.start ["steps", "e"] vs) ρ τ' → R ⟨K, false⟩ F' v (.tup ds) → Q v H') ∧
            (ds.all isStepD = false → ∀ F' H', Ext W.tp F2 H1 F' H' → Rel ⟨K, false⟩ W F0 H0 F' H' (L2.start ["steps", "e"] vs) ρ τ' → ∀ H2, Same H' H2 → Q (.str (wordE 0)) H2) ∧
            (ds.all isStepD = true → 3 < ds.length → ∀ F' H', Ext W.tp F2 H1 F' H' → Rel ⟨K, false⟩ W F0 H0 F' H' (L2.start ["steps", "e"] vs) ρ τ' → ∀ H2, Same H' H2 → Q (.str (wordE 3)) H2) :=
        fun {F1 H1 es} x1 r1 e => ⟨F, H, F1, _, τ, xs, τ, r1, e, hl, hb,
          fun q1 q2 v F' H' x' r' rv => h6 v F' H' (x1.tr x') r'.tape (by rw [madeD, if_pos q1, if_pos q2]; exact rv),
          fun q F' H' x' r' => kE 0 (F1 := F1) (H1 := H1) (by rw [madeD, if_neg (by rw [q]; decide)]) (x1.tr x') r'.tape,
          fun q1 q2 F' H' x' r' => kE 3 (F1 := F1) (H1 := H1) (by rw [madeD, if_pos q1, if_neg (by omega)]) (x1.tr x') r'.tape⟩
      have exc : ∀ (i : Fin 5) {H' : Hp} {D : Ends}, (∀ H2, Same H' H2 → D.rt (.str (wordE i)) H2) → ∀ σ' : L2.St, σ'.length = 2 →
          wAs K (.ref cC) 1 (fun a cls d D σ H => ∃ Dc wd, cls = .ref Dc ∧ d = none ∧ kdE c Dc wd ∧ σ[1]? = some (some (.ref a)) ∧ ∀ H2, Same H H2 → D.rt (.str wd) H2) (fun _ _ _ _ => False) D (.ref (c i)) none σ' H' :=
        fun i {H' D} h σ' hσ => ⟨true, T.em i, fun _ a ha => ⟨_, _, rfl, rfl, ⟨i, rfl, rfl⟩, List.getElem?_set_self (by omega), h⟩, fun z => by cases z⟩
      have gx : ∀ (n : Nat) (x : D), xs[n]? = some x → ∀ {es : Es} {ys : List D}, evs (mkSg false [] [] W.ns) es [.d (.tup xs), .un] τ = some (ys, τ) → evs (mkSg false [] [] W.ns) (.cons (.idx (.var 0) (.int n)) es) [.d (.tup xs), .un] τ = some (x :: ys, τ) := fun n x e {es ys} e2 => by
        refine evs_cons ?_ e2
        rw [ev, ev_var rfl]
        simp only [Option.bind_some, ev_int, ixD, atI_nat e, Option.map_some]
      refine ⟨F, H, F, _, τ, _, τ, hrel, lenlt_ev 2 xs hl τ, fun F1 H1 x1 r1 => ?_⟩
      rcases hlen with e | e | e
      · rw [decide_eq_true (by omega)]
        obtain ⟨a, rfl⟩ := List.length_eq_one_iff.mp e
        refine iteT ⟨F, H, F1, _, τ, true, τ, r1, ?_, fun F2 H2 x2 r2 => ?_⟩
        · refine evt_cmp0 (ev_var rfl) (ev_tupG rfl evs_nil (by simp)) ?_
          simp [cmpD, neD]
        · obtain ⟨A0, A1, A2, A3, A4, A5, A6, a1, a2, a3, a4, a5, a6, a7⟩ := fin (x1.tr x2) r2 (gx 0 a rfl evs_nil)
          exact iteT ⟨A0, A1, A2, A3, A4, A5, A6, a1, a2, a3, a4, a5, fun q F' H' x' r' => exc 0 (a6 q F' H' x' r'), fun q1 q2 F' H' x' r' => exc 3 (a7 q1 q2 F' H' x' r')⟩
      · rw [decide_eq_false (by omega)]
        refine iteF ⟨F, H, F1, _, τ, _, τ, r1, lenlt_ev 3 xs hl τ, fun F2 H2 x2 r2 => ?_⟩
        rw [decide_eq_true (by omega)]
        match xs, e with
        | [a, b], _ =>
          obtain ⟨A0, A1, A2, A3, A4, A5, A6, a1, a2, a3, a4, a5, a6, a7⟩ := fin (x1.tr x2) r2 (gx 0 a rfl (gx 1 b rfl evs_nil))
          exact iteT ⟨A0, A1, A2, A3, A4, A5, A6, a1, a2, a3, a4, a5, fun q F' H' x' r' => exc 0 (a6 q F' H' x' r'), fun q1 q2 F' H' x' r' => exc 3 (a7 q1 q2 F' H' x' r')⟩
      · rw [decide_eq_false (by omega)]
        refine iteF ⟨F, H, F1, _, τ, _, τ, r1, lenlt_ev 3 xs hl τ, fun F2 H2 x2 r2 => ?_⟩
        rw [decide_eq_false (by omega)]
        match xs, e with
        | [a, b, cc, dd], _ =>
          obtain ⟨A0, A1, A2, A3, A4, A5, A6, a1, a2, a3, a4, a5, a6, a7⟩ := fin (x1.tr x2) r2 (gx 0 a rfl (gx 1 b rfl (gx 2 cc rfl (gx 3 dd rfl evs_nil))))
          exact iteF ⟨A0, A1, A2, A3, A4, A5, A6, a1, a2, a3, a4, a5, fun q F' H' x' r' => exc 0 (a6 q F' H' x' r'), fun q1 q2 F' H' x' r' => exc 3 (a7 q1 q2 F' H' x' r')⟩
    · cases h5
  · cases h5
/-! ### Cleaner -/
abbrev sCI : Stmt := inClass (topS 65) 1
theorem sc_ci : FnScope ["self", "row"] ["self", "row"] (defScope sCI) := ⟨rfl, rfl, rfl, by decide +kernel, rfl, by decide +kernel, by decide +kernel⟩
abbrev eNow : PD.E := .tup (.cons (.var 1) (.cons (.tup .nil) .nil))
theorem ci_ok {P : Program} {w : World} {K : PySem.W.Frag} {mg : Str → Option Value} {base : Heap} {fI Cc : Addr} {fd : FuncData} {c : Fin 5 → Addr} {cC : Addr} {dvs : List V} {k : Nat}
    (FD : FunD K "__init__" "Cleaner.__init__" (defArgs sCI) (defBody sCI) (defScope sCI) dvs [] fI fd) (T : TxE K mg c cC) (TC : TxC K mg Cc) (M : Mo ⟨K, false⟩ K mg) (kIr : Kn P w K mg base ⟨K, false⟩ k ⟨"is_row", false, 1, GIsRow false⟩) :
    FnOk P w K mg base (L2N.CX P w) (k + 1) fI fd ["self", "row"] (spCI ⟨K, false⟩ Cc c) := by
  refine FD.ok sc_ci (fun vs H Q E h => ?_) fun cd A outer s H vs Q E hr hsp => ?_
  · obtain ⟨W, F, x, dx, v, d, τ, rfl, _⟩ := h; rfl
  obtain ⟨W, F, x, dx, v, d, τ, rfl, hb, hR, sb, ht, hx, nx, h1, h2⟩ := hsp
  have g : Good (mkNm ["self", "row"] [⟨"is_row", false, 1, GIsRow false⟩] []) (mkSg false [⟨"is_row", false, 1, GIsRow false⟩] [] W.ns) ⟨K, false⟩ W false (cxOf (L2N.CX P w) P w K mg base ["self", "row"] "Cleaner.__init__" (defScope sCI) fI cd A outer s H E) :=
    good_ofX M rfl rfl sc_ci.nd rfl PassesOwn.leaving (by
      have := hr.un
      show (A.deeper _).units + 65 < cLine
      omega) (fun _ _ => rfl) rfl rfl rfl rfl hr (by simp) (fun q hq => by rw [List.mem_singleton.mp hq]; exact kIr) (by simp)
  have tk := L2N.takes_of (X := cxOf (L2N.CX P w) P w K mg base ["self", "row"] "Cleaner.__init__" (defScope sCI) fI cd A outer s H E) (E := E) rfl rfl rfl rfl
  refine ⟨_, pss_cons (ps_if (t_ok (tNotRow 1) g _ (by show chkT (mkNm _ _ _) (defScope sCI) _ _ = true; decide +kernel)) (pss_one (L2N.ps_raise rfl tk (L2N.pmk_own PySem.F.excBase_ValueError (T.xp 0) (T.mgc 0) (T.kp 0) (raises_own (T.sb 0) (T.ty 0)) (by rfl)))) pss_nil)
    (pss_cons (ps_fld (pv 0) (e_ok eNow g _ (by show chkE (mkNm _ _ _) (defScope sCI) _ _ = true; decide +kernel)) rfl)
    (pss_one (ps_fld (pv 0) (e_ok (.tup .nil) g _ (by show chkE (mkNm _ _ _) (defScope sCI) _ _ = true; decide +kernel)) rfl))), ?_⟩
  have hrel : ∀ {F H : Hp}, R ⟨K, false⟩ F v d → Sub F H → TapeAt W F H τ → Rel ⟨K, false⟩ W F H F H (L2.start ["self", "row"] [V.ref x, v]) [.un, .d d] τ := fun {F H} hR sb ht => rel_of rfl sb ht fun i s v e1 e2 => by
    match i with
    | 0 => cases e1; trivial
    | 1 => cases e1; cases e2; exact ⟨_, rfl, hR⟩
    | i + 2 => cases e1
  have ntp : x ≠ W.tp := fun z => by
    have := ht.at_
    rw [← z, hx] at this; cases this
  refine ⟨F, H, F, _, τ, _, τ, hrel hR sb ht, notrow_ev (ns := W.ns) (fun _ _ => rfl) d hb τ, fun F1 H1 x1 r1 => ?_⟩
  have p1 := ext_P x1 ht r1.tape
  cases e : isRowD d with
  | false => exact iteT (h2 e F1 H1 p1)
  | true =>
    refine iteF ⟨F, H, F1, _, τ, _, τ, r1, ev_tupG rfl (evs_cons (ev_var rfl) (evs_cons (ev_tupG rfl evs_nil (by simp)) evs_nil)) (by simp), fun vn F2 H2 x2 r2 rn => ?_⟩
    have p2 := p1.tr (ext_P x2 r1.tape r2.tape)
    obtain ⟨hx2, nx2⟩ := p2.hh _ _ hx nx
    refine ⟨_, rfl, x, Cc, dx, [], rfl, hx2, TC.cl, TC.nN, by show 0 < 1000; decide, ?_⟩
    have t2 : TapeAt W F2 (upd H2 x (.ins Cc dx (putF "now" vn []))) τ := r2.tape.write _ ntp
    have sb2 : Sub F2 (upd H2 x (.ins Cc dx (putF "now" vn []))) := fun b o q => by
      rw [upd_ne (fun z => by rw [z, nx2] at q; cases q)]; exact p2.fh b o q
    refine ⟨F2, _, F2, _, τ, _, τ, hrel (R.sub p2.ff _ hR) sb2 t2, ev_tupG rfl evs_nil (by simp), fun ve F3 H3 x3 r3 re => ?_⟩
    have p3 := ext_P x3 t2 r3.tape
    obtain ⟨hx3, nx3⟩ := p3.hh x _ upd_same nx2
    refine ⟨_, rfl, x, Cc, dx, _, rfl, hx3, TC.cl, TC.nE, by show 1 < 1000; decide, ?_⟩
    refine h1 e F3 _ vn ve ⟨p2.ff.tr p3.ff, fun b o q => ?_, fun a o ha hn na => ?_⟩ nx3 (R.sub p3.ff _ rn) re upd_same
    · rw [upd_ne (fun z => by rw [z, nx3] at q; cases q)]; exact p3.fh b o q
    · obtain ⟨z1, z2⟩ := p2.hh a o ha hn
      obtain ⟨z3, z4⟩ := p3.hh a o (by rw [upd_ne na]; exact z1) z2
      rw [upd_ne na]
      exact ⟨z3, z4⟩
theorem sc_cg (j : Nat) (hj : j = 6 ∨ j = 7) : FnScope ["self"] ["self"] (defScope (inClass (topS 65) j)) := by
  rcases hj with rfl | rfl
  · exact ⟨rfl, rfl, rfl, by decide +kernel, rfl, by decide +kernel, by decide +kernel⟩
  · exact ⟨rfl, rfl, rfl, by decide +kernel, rfl, by decide +kernel, by decide +kernel⟩
theorem crow_ok {P : Program} {w : World} {K : PySem.W.Frag} {mg : Str → Option Value} {base : Heap} {f Cc : Addr} {fd : FuncData} (Fn : Fun K "row" "Cleaner.row" (inClass (topS 65) 6) f fd) (TC : TxC K mg Cc) : FnOk P w K mg base CX0 1 f fd ["self"] (spCG ⟨K, false⟩ Cc 0) := by
  refine Fn.ok (sc_cg 6 (.inl rfl)) (fun vs H Q E h => ?_) fun cd A outer s H vs Q E hr hsp => ?_
  · obtain ⟨F, a, dx, fs, vn, ds, d, rfl, _⟩ := h; rfl
  obtain ⟨F, a, dx, fs, vn, ds, d, rfl, ha, hl, hR, sb, hd, k⟩ := hsp
  refine ⟨_, pss_one (ps_ret (pe_ix ix_tup (pe_fld (pv 0) rfl) pe_int (fun _ _ => rfl))), ?_⟩
  cases hR with
  | tup h1 h2 _ =>
    obtain ⟨u, eu, ru⟩ := h2.get hd
    exact ⟨_, rfl, a, Cc, dx, fs, _, rfl, ha, TC.cl, TC.nN, hl, _, _, _, _, rfl, rfl, sqT_sub sb h1, atI_nat (j := 0) eu, k _ ru⟩
theorem ctexts_ok {P : Program} {w : World} {K : PySem.W.Frag} {mg : Str → Option Value} {base : Heap} {f Cc : Addr} {fd : FuncData} (Fn : Fun K "texts" "Cleaner.texts" (inClass (topS 65) 7) f fd) (TC : TxC K mg Cc) : FnOk P w K mg base CX0 1 f fd ["self"] (spCG ⟨K, false⟩ Cc 1) := by
  refine Fn.ok (sc_cg 7 (.inr rfl)) (fun vs H Q E h => ?_) fun cd A outer s H vs Q E hr hsp => ?_
  · obtain ⟨F, a, dx, fs, vn, ds, d, rfl, _⟩ := h; rfl
  obtain ⟨F, a, dx, fs, vn, ds, d, rfl, ha, hl, hR, sb, hd, k⟩ := hsp
  refine ⟨_, pss_one (ps_ret (pe_ix ix_tup (pe_fld (pv 0) rfl) pe_int (fun _ _ => rfl))), ?_⟩
  cases hR with
  | tup h1 h2 _ =>
    obtain ⟨u, eu, ru⟩ := h2.get hd
    exact ⟨_, rfl, a, Cc, dx, fs, _, rfl, ha, TC.cl, TC.nN, hl, _, _, _, _, rfl, rfl, sqT_sub sb h1, atI_nat (j := 1) eu, k _ ru⟩
theorem pss_void {X : Cx} {st : List Stmt} : PSs X st (fun _ _ _ => False) := ⟨fun _ _ _ _ _ _ h => h.elim⟩
/-! ### does_same, of what is no Row -/
abbrev sDS : Stmt := inClass (topS 63) 5
theorem sc_ds : FnScope ["self", "other"] ["self", "other"] (defScope sDS) := ⟨rfl, rfl, rfl, by decide +kernel, rfl, by decide +kernel, by decide +kernel⟩
/-- row.does_same(None), row.does_same(()) -/
def spDS (Cn : PD.Con) (c : Fin 5 → Addr) : Sp := fun vs H Q E => ∃ (F : Hp) (x : Addr) (v : V) (d : D), vs = [.ref x, v] ∧ (d = .non ∨ d = .tup []) ∧ R Cn F v d ∧ Sub F H ∧ ∀ H', Same H H' → E (.ref (c 0)) none H'
theorem tyX_of {K : PySem.W.Frag} {F H : Hp} {v : V} {d : D} (hd : d = .non ∨ d = .tup []) (r : R ⟨K, false⟩ F v d) (sb : Sub F H) : ∃ t, TyX K H v t ∧ (t = .type "NoneType" ∨ t = .type "tuple") := by
  rcases hd with rfl | rfl
  · cases r
    exact ⟨_, .base .non, .inl rfl⟩
  · cases r with
    | tup h1 _ _ =>
      refine ⟨.type "tuple", ?_, .inr rfl⟩
      rcases h1 with (h1 | ⟨o, h1⟩) | ⟨o, its, n, h1, h2, h3, _⟩
      · exact .base (.tup (sb _ _ h1))
      · exact .fTuple (sb _ _ h1)
      · exact .kTuple h1 h2
theorem ds_ok {P : Program} {w : World} {K : PySem.W.Frag} {mg : Str → Option Value} {base : Heap} {f Cr : Addr} {fd : FuncData} {c : Fin 5 → Addr} {cC : Addr} (FD : FunD K "does_same" "Row.does_same" (defArgs sDS) (defBody sDS) (defScope sDS) [] [] f fd) (T : TxE K mg c cC) (TR : TxRow K mg Cr)
    (kN : PySem.W.kitOne K (.type "NoneType") (.ref Cr) = some false) (kT : PySem.W.kitOne K (.type "tuple") (.ref Cr) = some false) : FnOk P w K mg base (L2N.CX P w) 1 f fd ["self", "other"] (spDS ⟨K, false⟩ c) := by
  refine FD.ok sc_ds (fun vs H Q E h => ?_) fun cd A outer s H vs Q E hr hsp => ?_
  · obtain ⟨F, x, v, d, rfl, _⟩ := h; rfl
  obtain ⟨F, x, v, d, rfl, hd, hR, sb, k⟩ := hsp
  have tk := L2N.takes_of (X := cxOf (L2N.CX P w) P w K mg base ["self", "other"] "Row.does_same" (defScope sDS) f cd A outer s H E) (E := E) rfl rfl rfl rfl
  refine ⟨_, (pss_cons (ps_if (pt_not (pt_val (pe_callB call_isi (by rfl) T.isn (by decide +kernel) (pa_cons (pv 1) (pa_cons (pe_glob (v := .ref Cr) (by rfl) TR.mgR rfl) pa_nil))))) (pss_one (L2N.ps_raise rfl tk (L2N.pmk_own PySem.F.excBase_ValueError (T.xp 0) (T.mgc 0) (T.kp 0) (raises_own (T.sb 0) (T.ty 0)) (by rfl)))) pss_nil) pss_void), ?_⟩
  obtain ⟨t, ht, e⟩ := tyX_of hd hR sb
  have kt : PySem.W.kitOne K t (.ref Cr) = some false := by
    rcases e with rfl | rfl
    · exact kN
    · exact kT
  refine ⟨_, rfl, _, _, t, _, false, rfl, ClsV.own Cr, ht, kt, _, rfl, ?_⟩
  exact iteT (k _ (Same.refl H))
structure ClnKn (P : Program) (w : World) (K : PySem.W.Frag) (mg : Str → Option Value) (base : Heap) (Cn : PD.Con) (k : Nat) (c : Fin 5 → Addr) where
  Cc : Addr
  fI : Addr
  fdI : FuncData
  TC : TxC K mg Cc
  M : Mk K Cc fI
  FI : FnOk P w K mg base (L2N.CX P w) k fI fdI ["self", "row"] (spCI Cn Cc c)
  b1 : Binds K fdI ["self", "row"] []
  dv : V
  dsv : List Value
  hdv : Vals [dv] dsv
  b0 : Binds K fdI ["self", "row"] dsv
  rdv : ∀ F, R Cn F dv (.tup [])
  pR : Addr
  gR : Addr
  fdR : FuncData
  hR : PropOf K Cc "row" pR gR
  FR : FnOk P w K mg base CX0 k gR fdR ["self"] (spCG Cn Cc 0)
  bR : Binds K fdR ["self"] []
  pT : Addr
  gT : Addr
  fdT : FuncData
  hT : PropOf K Cc "texts" pT gT
  FT : FnOk P w K mg base CX0 k gT fdT ["self"] (spCG Cn Cc 1)
  bT : Binds K fdT ["self"] []
/-! ### _law_cleaner -/
abbrev sCl : Stmt := topS 79
theorem sc_cl : FnScope ["value", "e"] ["value"] (defScope sCl) := ⟨rfl, rfl, rfl, by decide +kernel, rfl, by decide +kernel, by decide +kernel⟩
theorem cln_ok {P : Program} {w : World} {K : PySem.W.Frag} {mg : Str → Option Value} {base : Heap} {c : Fin 5 → Addr} {cC : Addr} {k : Nat} (M : Mo ⟨K, false⟩ K mg) (D0 : DefOk K mg "_law_cleaner" sCl ["value"]) (T : TxE K mg c cC) (CK : ClnKn P w K mg base ⟨K, false⟩ k c) (EK : ErrKn P w K mg base k c) :
    Kn P w K mg base ⟨K, false⟩ (k + 2) ⟨"_law_cleaner", false, 1, GCln⟩ := by
  obtain ⟨f, fd, Fn, hm, hbd⟩ := D0
  refine ⟨f, fd, ["value"], ?_, hm, Fn.kp, hbd, fun ns ds τ r e => by
    obtain ⟨d, rfl, _⟩ := gcln_len (ns := ns) e
    rfl⟩
  refine Fn.ok sc_cl (fun vs H Q E h => ?_) fun cdv A outer s H vs Q E hr hsp => ?_
  · obtain ⟨W, F, us, ds, τ, d, τ', rfl, h1, h2, _⟩ := h
    show vs.length = 1
    rw [h2.len, h1]
  obtain ⟨W, F, us, ds, τ, d, τ', rfl, h1, h2, h3, h4, h5, h6⟩ := hsp
  have hg : ∀ (pn : List (Addr × Obj)) (xe : Value → Shared → Prop), PassesOwn (model P w) (cxOf CX0 P w K mg base ["value", "e"] "_law_cleaner" (defScope sCl) f cdv A outer s H E).nox.A (cxOf CX0 P w K mg base ["value", "e"] "_law_cleaner" (defScope sCl) f cdv A outer s H E).nox.env xe →
      Good (mkNm ["value", "e"] [] []) (mkSg false [] [] W.ns) ⟨K, false⟩ W false ((cxOf CX0 P w K mg base ["value", "e"] "_law_cleaner" (defScope sCl) f cdv A outer s H E).nox.tr pn xe) := fun pn xe hx =>
    good_ofX (k := 0) M rfl rfl sc_cl.nd rfl hx (by
      have := hr.un
      show (A.deeper _).units + 65 < cLine
      omega) (fun _ _ => rfl) rfl rfl rfl rfl (hr.mono (by omega)) (by simp) (by simp) (by simp)
  have hrk : Room (k + 1) (cxOf CX0 P w K mg base ["value", "e"] "_law_cleaner" (defScope sCl) f cdv A outer s H E).nox.A := hr
  refine ⟨_, pss_one (L2N.ps_try_as (i := 1) rfl rfl sc_cl.nd rfl rfl ⟨by rfl, by decide, .inl T.mgC⟩ takes0N (fun Wx pn xe tk hx =>
    pss_one (ps_ret (pe_clnrow (e' := .var 0) (hg pn xe hx) tk CK.TC CK.M CK.FI CK.b1 CK.hR CK.FR CK.bR hrk (by rfl) (by show chkE (mkNm _ _ _) (defScope sCl) _ _ = true; decide +kernel))))
    fun a oe cls d pn hz hf => ps_retE (i := 1) hz hf EK.FE ⟨(hrk.mono (Nat.le_succ k)).dp, (hrk.mono (Nat.le_succ k)).un⟩ (by rfl) EK.mgE EK.kpE EK.bE rfl rfl (.inl rfl) rfl rfl rfl), ?_⟩
  obtain ⟨d0, rfl, hb, hd⟩ := gcln_len (ns := W.ns) h5
  cases hd
  have hrel : Rel ⟨K, false⟩ W F H F H (L2.start ["value", "e"] vs) [.d d0, .un] τ := start_rel (N := ["value", "e"]) (tp := false) (by show vs.length ≤ 2; rw [h2.len]; exact Nat.le_succ 1) h2 h3 h4
  refine ⟨F, H, F, _, τ, d0, τ, hrel, ev_var rfl, hb, fun q v F' H' x' r' rv => h6 v F' H' x' r'.tape (by rw [clnD, if_pos q]; exact rv), fun q F' H' x' r' σ' hσ => ⟨true, T.em 0, fun _ a ha => ⟨_, _, rfl, rfl, ⟨0, rfl, rfl⟩, List.getElem?_set_self (by have hσ : σ'.length = 2 := hσ; omega), fun H2 s2 => ?_⟩, fun z => by cases z⟩⟩
  rw [word_code]
  exact h6 _ F' H2 (x'.same s2) (r'.tape.same s2) (by rw [clnD, if_neg (by rw [q]; decide)]; exact .str _)
/-! ### _law_likened -/
abbrev sLi : Stmt := topS 80
theorem sc_li : FnScope ["one", "other", "e"] ["one", "other"] (defScope sLi) := ⟨rfl, rfl, rfl, by decide +kernel, rfl, by decide +kernel, by decide +kernel⟩
theorem li_ok {P : Program} {w : World} {K : PySem.W.Frag} {mg : Str → Option Value} {base : Heap} {c : Fin 5 → Addr} {cC Cr fm : Addr} {f : Addr} {fd fdm : FuncData} {k : Nat} (Fn : Fun K "_law_likened" "_law_likened" sLi f fd) (T : TxE K mg c cC) (TR : TxRow K mg Cr) (EK : ErrKn P w K mg base k c)
    (Fm : FnOk P w K mg base (L2N.CX P w) k fm fdm ["self", "other"] (spDS ⟨K, false⟩ c)) (bm : Binds K fdm ["self", "other"] []) (hm : Meth K Cr "does_same" fm) : FnOk P w K mg base CX0 (k + 2) f fd ["one", "other"] (spLi ⟨K, false⟩ Cr) := by
  refine Fn.ok sc_li (fun vs H Q E h => ?_) fun cdv A outer s H vs Q E hr hsp => ?_
  · obtain ⟨F, x, dx, fs, v, d, rfl, _⟩ := h; rfl
  obtain ⟨F, x, dx, fs, v, d, rfl, hd, hR, sb, hx, hl, hQ⟩ := hsp
  have hrk : Room (k + 1) (cxOf CX0 P w K mg base ["one", "other", "e"] "_law_likened" (defScope sLi) f cdv A outer s H E).nox.A := hr
  refine ⟨_, pss_one (L2N.ps_try_as (i := 2) rfl rfl sc_li.nd rfl rfl ⟨by rfl, by decide, .inl T.mgC⟩ takes0N (fun Wx pn xe tk hx =>
    pss_one (ps_ret (pe_imp (t' := fun σ H Q => ∃ F d x dx fs v, σ = [some (.ref x), some v, none] ∧ (d = D.non ∨ d = .tup []) ∧ R ⟨K, false⟩ F v d ∧ PD.Sub F H ∧ H x = some (.ins Cr dx fs) ∧ fs.lookup ("does_same" : Str) = none ∧ ∀ H', Same H H' → ∀ σ' : L2.St, σ'.length = 3 → Wx (.ref (c 0)) none σ' H')
      (pe_meth (pv 0) TR.cl hm Fm (hrk.mono (Nat.le_succ k)) bm .nil (passes_len tk) (pa_cons (pv 1) pa_nil)) fun σ H Q => ?_)))
    fun a oe cls d pn hz hf => ps_retE (i := 2) hz hf EK.FE ⟨(hrk.mono (Nat.le_succ k)).dp, (hrk.mono (Nat.le_succ k)).un⟩ (by rfl) EK.mgE EK.kpE EK.bE rfl rfl (.inl rfl) rfl rfl rfl), ?_⟩
  · rintro ⟨F, d, x, dx, fs, v, rfl, hd, hR, sb, hx, hl, h⟩
    exact ⟨_, rfl, x, dx, fs, rfl, hx, hl, _, rfl, F, x, v, d, rfl, hd, hR, sb, h⟩
  · refine ⟨F, d, x, dx, fs, v, rfl, hd, hR, sb, hx, hl, fun H' s1 σ' hσ => ⟨true, T.em 0, fun _ a ha => ⟨_, _, rfl, rfl, ⟨0, rfl, rfl⟩, List.getElem?_set_self (by omega), fun H2 s2 => hQ H2 (s1.trans s2)⟩, fun z => by cases z⟩⟩
theorem _root_.PR.FnE.mono {P : Program} {w : World} {K : PySem.W.Frag} {mg : Str → Option Value} {base : Heap} {j k : Nat} {f : Addr} {fd : FuncData} {ps : List Str} {kd : Addr → Str → Prop} (F : FnE P w K mg base j f fd ps kd) (h : j ≤ k) : FnE P w K mg base k f fd ps kd :=
  ⟨fun A outer s H args Q p D wd hr => F.run A outer s H args Q p D wd (hr.mono h)⟩
theorem tail18 {P : Program} {w : World} {K : PySem.W.Frag} {mg : Str → Option Value} {base : Heap} {W : TW} {X : Cx} {c : Fin 5 → Addr} {cC fL : Addr} {fdL : FuncData} {mc u : Value} {P0 : Sg} {nm : Nm}
    (g : PD.Good nm P0 ⟨K, false⟩ W false X) (y1 : X.prog = P) (y2 : X.w = w) (y3 : X.K = K) (y4 : X.mg = mg) (y5 : X.base = base) (y7 : Room 20 X.A) (y8 : X.env.scope = defScope (topS 81))
    (T : TxE K mg c cC) (RK : RowKn P w K mg base ⟨K, false⟩ 6 c) (CK : ClnKn P w K mg base ⟨K, false⟩ 6 c) (FL : FnOk P w K mg base CX0 8 fL fdL ["one", "other"] (spLi ⟨K, false⟩ RK.Cr)) (hmL : mg "_law_likened" = some (.ref fL)) (hkL : PySem.W.keepIn K (.ref fL) = true) (bL : Binds K fdL ["one", "other"] [])
    (hmc : mc = .type "type") (cr : CRead K CK.Cc mc) (cv : CVal K CK.Cc mc "MOST" (.int 30) u) : PSs X ((defBody (topS 81)).tail.drop 1) (TlR ⟨K, false⟩ W) := by
  subst y1 y2 y3 y4 y5
  have gl : ∀ x, glB (defScope (topS 81)) x = true → Gl X x := fun x h => gl_of (by rw [y8]; exact h)
  have hr7 : Room 7 X.A := y7.mono (by omega)
  have hr8 : Room 8 X.A := y7.mono (by omega)
  have ck : ∀ (e : PD.E) (z : Expr), chkE nm (defScope (topS 81)) e z = true → chkE nm X.env.scope e z = true := fun e z h => by rw [y8]; exact h
  have eNil : ∀ {τ : PD.TS} {kk : Nat} {p : Pos}, PE X (.Tuple [] kk p) (RdX ⟨X.K, false⟩ W τ (.tup [])) := fun {τ kk p} => pe_evX g (e := .tup .nil) (by rfl) fun ρ => ev_tupG g.tk evs_nil (by simp)
  have eNon : ∀ {τ : PD.TS} {kk : Nat} {p : Pos}, PE X (.Constant .none kk p) (RdX ⟨X.K, false⟩ W τ .non) := fun {τ kk p} => pe_evX g (e := .non) (by rfl) fun ρ => by rw [ev]
  have eStep : ∀ {τ : PD.TS} {kk : Nat} {p : Pos}, PE X (.Constant (.str "step") kk p) (RdX ⟨X.K, false⟩ W τ (.str (codeE 0))) := fun {τ kk p} => pe_evX g (e := .str (codeE 0)) (by rfl) fun ρ => by rw [ev]
  have e30 : ∀ {τ : PD.TS} {kk : Nat} {p : Pos}, PE X (.Constant (.int 30) kk p) (RdX ⟨X.K, false⟩ W τ (.int 30)) := fun {τ kk p} => pe_evX g (e := .int 30) (by rfl) fun ρ => by rw [ev]
  have all : ∀ τ : PD.TS, PSs X ((defBody (topS 81)).tail.drop 1) (fun D σ H => (∃ F0 H0 F ρ, Rel ⟨X.K, false⟩ W F0 H0 F H σ ρ τ) ∧ ∀ H', D.rt (.bl true) H') := fun τ => by
    refine pss_imp (pss_cons (ps_if (pw_or (pt_neX g (pe_lik (τ := τ) g rfl (.inl rfl) RK.TR RK.M RK.FI hr7 (gl _ (by decide +kernel)) FL hr8 (gl _ (by decide +kernel)) hmL hkL bL eNon) eStep (by simp) rfl (r := false) (by simp))
        (pw_or1 (pt_neX g (pe_lik (τ := τ) g rfl (.inr rfl) RK.TR RK.M RK.FI hr7 (gl _ (by decide +kernel)) FL hr8 (gl _ (by decide +kernel)) hmL hkL bL eNil) eStep (by simp) rfl (r := false) (by simp)))).pt (pss_one (ps_ret pe_bl)) pss_nil)
      (pss_one (ps_ret (pe_and (pe_eqX g (pe_most (τ := τ) g (gl _ (by decide +kernel)) CK.TC cr cv) e30 (by simp) rfl (r := true) (by simp))
        (pe_and (pe_eqX g (pe_cln0 (τ := τ) (i := 0) g rfl CK.TC CK.M CK.FI CK.hdv CK.rdv CK.b0 CK.hR CK.FR CK.bR hr7 (gl _ (by decide +kernel))) eNil (by simp) rfl (r := true) (by simp))
          (pe_one (pe_eqX g (pe_cln0 (τ := τ) (i := 1) g rfl CK.TC CK.M CK.FI CK.hdv CK.rdv CK.b0 CK.hT CK.FT CK.bT hr7 (gl _ (by decide +kernel))) eNil (by simp) rfl (r := true) (by simp)))))))) ?_
    rintro D σ H ⟨⟨F0, H0, F, ρ, r⟩, hQ⟩
    refine ⟨F0, H0, F, ρ, r, fun F1 H1 x1 r1 => iteF ⟨F0, H0, F1, ρ, r1, fun F2 H2 x2 r2 => iteF ?_⟩⟩
    refine ⟨F0, H0, F2, ρ, r2, fun v F3 H3 x3 r3 rv => ?_⟩
    cases rv
    refine ⟨_, rfl, iteT ⟨F0, H0, F3, ρ, r3, fun v F4 H4 x4 r4 rv => ?_⟩⟩
    cases rv
    refine ⟨_, rfl, iteT ⟨F0, H0, F4, ρ, r4, fun v F5 H5 x5 r5 rv => ?_⟩⟩
    cases rv
    exact hQ H5
  exact ⟨fun pins s σ H D I ⟨⟨F0, H0, F, ρ, τ, r⟩, h⟩ => (all τ).run pins s σ H D I ⟨⟨F0, H0, F, ρ, r⟩, h⟩⟩
theorem all_mk {l : PySem.W.OpenLaw} {w : World} {K : PySem.W.Frag} {h : Heap} {mg : Str → Option Value} {fa : Addr} (X : K.In h) (G : h.Ns mainGlobals mg) (hfa : mg "law" = some (.ref fa))
    {od0 an0 : Option Addr} {sl0 : Array (Option Value)} {oc0 kV0 dc0 pm0 cd0 ct0 : Value} {f0 : Addr} {od1 an1 : Option Addr} {sl1 : Array (Option Value)} {oc1 kV1 dc1 pm1 cd1 ct1 : Value} {f1 : Addr} {od2 an2 : Option Addr} {sl2 : Array (Option Value)} {oc2 kV2 dc2 pm2 cd2 ct2 : Value} {f2 : Addr} {od3 an3 : Option Addr} {sl3 : Array (Option Value)} {oc3 kV3 dc3 pm3 cd3 ct3 : Value} {f3 : Addr} {od4 an4 : Option Addr} {sl4 : Array (Option Value)} {oc4 kV4 dc4 pm4 cd4 ct4 : Value} {f4 : Addr} {od5 an5 : Option Addr} {sl5 : Array (Option Value)} {oc5 kV5 dc5 pm5 cd5 ct5 : Value} {f5 : Addr} {od6 an6 : Option Addr} {sl6 : Array (Option Value)} {oc6 kV6 dc6 pm6 cd6 ct6 : Value} {f6 : Addr} {od7 an7 : Option Addr} {sl7 : Array (Option Value)} {oc7 kV7 dc7 pm7 cd7 ct7 : Value} {f7 : Addr} {od8 an8 : Option Addr} {sl8 : Array (Option Value)} {oc8 kV8 dc8 pm8 cd8 ct8 : Value} {f8 : Addr} {od9 an9 : Option Addr} {sl9 : Array (Option Value)} {oc9 kV9 dc9 pm9 cd9 ct9 : Value} {f9 : Addr} {od10 an10 : Option Addr} {sl10 : Array (Option Value)} {oc10 kV10 dc10 pm10 cd10 ct10 : Value} {f10 : Addr} {od11 an11 : Option Addr} {sl11 : Array (Option Value)} {oc11 kV11 dc11 pm11 cd11 ct11 : Value} {f11 : Addr} {od12 an12 : Option Addr} {sl12 : Array (Option Value)} {oc12 kV12 dc12 pm12 cd12 ct12 : Value} {f12 : Addr} {od13 an13 : Option Addr} {sl13 : Array (Option Value)} {oc13 kV13 dc13 pm13 cd13 ct13 : Value} {f13 : Addr} {od14 an14 : Option Addr} {sl14 : Array (Option Value)} {oc14 kV14 dc14 pm14 cd14 ct14 : Value} {f14 : Addr} {od15 an15 : Option Addr} {sl15 : Array (Option Value)} {oc15 kV15 dc15 pm15 cd15 ct15 : Value} {f15 : Addr} {od16 an16 : Option Addr} {sl16 : Array (Option Value)} {oc16 kV16 dc16 pm16 cd16 ct16 : Value} {f16 : Addr} {od17 an17 : Option Addr} {sl17 : Array (Option Value)} {oc17 kV17 dc17 pm17 cd17 ct17 : Value} {f17 : Addr} {od18 an18 : Option Addr} {sl18 : Array (Option Value)} {oc18 kV18 dc18 pm18 cd18 ct18 : Value} {f18 : Addr} {od19 an19 : Option Addr} {sl19 : Array (Option Value)} {oc19 kV19 dc19 pm19 cd19 ct19 : Value} {f19 : Addr} {uMOST_STEPS : Value} {uSIGNS : Value} {rWITH_NUMBER : Addr} {ddWITH_NUMBER : Option Addr} {itWITH_NUMBER : Array Value} {nnWITH_NUMBER : Nat} {ssWITH_NUMBER : Array (Option Value)} {rWITH_SET : Addr} {ddWITH_SET : Option Addr} {itWITH_SET : Array Value} {nnWITH_SET : Nat} {ssWITH_SET : Array (Option Value)} {rWITH_WORD : Addr} {ddWITH_WORD : Option Addr} {itWITH_WORD : Array Value} {nnWITH_WORD : Nat} {ssWITH_WORD : Array (Option Value)} {e0 e1 e2 e3 e4 eC : Addr} {CR : Addr} {odRI anRI : Option Addr} {slRI : Array (Option Value)} {ocRI kVRI dcRI pmRI cdRI ctRI : Value} {fRI : Addr} {pRS : Addr} {rsRS : List Value} {odRS anRS : Option Addr} {slRS : Array (Option Value)} {ocRS kVRS dcRS pmRS cdRS ctRS : Value} {fRS : Addr} {odDS anDS : Option Addr} {slDS : Array (Option Value)} {ocDS kVDS dcDS pmDS cdDS ctDS : Value} {fDS : Addr} {CC : Addr} {Td Ed : Addr} {oT : Obj} {ddE : Option Addr} {itT itE : Array Value} {nT nE : Nat} {ssE : Array (Option Value)} {odCI anCI : Option Addr} {slCI : Array (Option Value)} {ocCI kVCI dcCI pmCI cdCI ctCI : Value} {fCI : Addr} {pCR : Addr} {rsCR : List Value} {odCR anCR : Option Addr} {slCR : Array (Option Value)} {ocCR kVCR dcCR pmCR cdCR ctCR : Value} {fCR : Addr} {pCT : Addr} {rsCT : List Value} {odCT anCT : Option Addr} {slCT : Array (Option Value)} {ocCT kVCT dcCT pmCT cdCT ctCT : Value} {fCT : Addr} {uM : Value}
    (a0 : PySem.W.nsIn K mainGlobals "is_string" = some (some (.ref f0)))
    (l0 : K.lookup f0 = some ⟨oc0, od0, .func (PySem.W.fnOf "is_string" "is_string" (defArgs (topS 29)) (defBody (topS 29)) (defScope (topS 29)) .none kV0 dc0 pm0 an0 cd0 ct0), sl0⟩)
    (c0 : PySem.W.codeIn K cd0 "is_string" = true)
    (k0 : PySem.W.keepIn K (.ref f0) = true)
    (a1 : PySem.W.nsIn K mainGlobals "is_set" = some (some (.ref f1)))
    (l1 : K.lookup f1 = some ⟨oc1, od1, .func (PySem.W.fnOf "is_set" "is_set" (defArgs (topS 31)) (defBody (topS 31)) (defScope (topS 31)) .none kV1 dc1 pm1 an1 cd1 ct1), sl1⟩)
    (c1 : PySem.W.codeIn K cd1 "is_set" = true)
    (k1 : PySem.W.keepIn K (.ref f1) = true)
    (a2 : PySem.W.nsIn K mainGlobals "is_number" = some (some (.ref f2)))
    (l2 : K.lookup f2 = some ⟨oc2, od2, .func (PySem.W.fnOf "is_number" "is_number" (defArgs (topS 32)) (defBody (topS 32)) (defScope (topS 32)) .none kV2 dc2 pm2 an2 cd2 ct2), sl2⟩)
    (c2 : PySem.W.codeIn K cd2 "is_number" = true)
    (k2 : PySem.W.keepIn K (.ref f2) = true)
    (a3 : PySem.W.nsIn K mainGlobals "is_step" = some (some (.ref f3)))
    (l3 : K.lookup f3 = some ⟨oc3, od3, .func (PySem.W.fnOf "is_step" "is_step" (defArgs (topS 33)) (defBody (topS 33)) (defScope (topS 33)) .none kV3 dc3 pm3 an3 cd3 ct3), sl3⟩)
    (c3 : PySem.W.codeIn K cd3 "is_step" = true)
    (k3 : PySem.W.keepIn K (.ref f3) = true)
    (a4 : PySem.W.nsIn K mainGlobals "is_row" = some (some (.ref f4)))
    (l4 : K.lookup f4 = some ⟨oc4, od4, .func (PySem.W.fnOf "is_row" "is_row" (defArgs (topS 34)) (defBody (topS 34)) (defScope (topS 34)) .none kV4 dc4 pm4 an4 cd4 ct4), sl4⟩)
    (c4 : PySem.W.codeIn K cd4 "is_row" = true)
    (k4 : PySem.W.keepIn K (.ref f4) = true)
    (a5 : PySem.W.nsIn K mainGlobals "_law_draw" = some (some (.ref f5)))
    (l5 : K.lookup f5 = some ⟨oc5, od5, .func (PySem.W.fnOf "_law_draw" "_law_draw" (defArgs (topS 67)) (defBody (topS 67)) (defScope (topS 67)) .none kV5 dc5 pm5 an5 cd5 ct5), sl5⟩)
    (c5 : PySem.W.codeIn K cd5 "_law_draw" = true)
    (k5 : PySem.W.keepIn K (.ref f5) = true)
    (a6 : PySem.W.nsIn K mainGlobals "_law_whole" = some (some (.ref f6)))
    (l6 : K.lookup f6 = some ⟨oc6, od6, .func (PySem.W.fnOf "_law_whole" "_law_whole" (defArgs (topS 68)) (defBody (topS 68)) (defScope (topS 68)) .none kV6 dc6 pm6 an6 cd6 ct6), sl6⟩)
    (c6 : PySem.W.codeIn K cd6 "_law_whole" = true)
    (k6 : PySem.W.keepIn K (.ref f6) = true)
    (a7 : PySem.W.nsIn K mainGlobals "_law_like" = some (some (.ref f7)))
    (l7 : K.lookup f7 = some ⟨oc7, od7, .func (PySem.W.fnOf "_law_like" "_law_like" (defArgs (topS 69)) (defBody (topS 69)) (defScope (topS 69)) .none kV7 dc7 pm7 an7 cd7 ct7), sl7⟩)
    (c7 : PySem.W.codeIn K cd7 "_law_like" = true)
    (k7 : PySem.W.keepIn K (.ref f7) = true)
    (a8 : PySem.W.nsIn K mainGlobals "_law_spoilt" = some (some (.ref f8)))
    (l8 : K.lookup f8 = some ⟨oc8, od8, .func (PySem.W.fnOf "_law_spoilt" "_law_spoilt" (defArgs (topS 70)) (defBody (topS 70)) (defScope (topS 70)) .none kV8 dc8 pm8 an8 cd8 ct8), sl8⟩)
    (c8 : PySem.W.codeIn K cd8 "_law_spoilt" = true)
    (k8 : PySem.W.keepIn K (.ref f8) = true)
    (a9 : PySem.W.nsIn K mainGlobals "_law_any" = some (some (.ref f9)))
    (l9 : K.lookup f9 = some ⟨oc9, od9, .func (PySem.W.fnOf "_law_any" "_law_any" (defArgs (topS 71)) (defBody (topS 71)) (defScope (topS 71)) .none kV9 dc9 pm9 an9 cd9 ct9), sl9⟩)
    (c9 : PySem.W.codeIn K cd9 "_law_any" = true)
    (k9 : PySem.W.keepIn K (.ref f9) = true)
    (a10 : PySem.W.nsIn K mainGlobals "_law_sign" = some (some (.ref f10)))
    (l10 : K.lookup f10 = some ⟨oc10, od10, .func (PySem.W.fnOf "_law_sign" "_law_sign" (defArgs (topS 72)) (defBody (topS 72)) (defScope (topS 72)) .none kV10 dc10 pm10 an10 cd10 ct10), sl10⟩)
    (c10 : PySem.W.codeIn K cd10 "_law_sign" = true)
    (k10 : PySem.W.keepIn K (.ref f10) = true)
    (a11 : PySem.W.nsIn K mainGlobals "_law_word" = some (some (.ref f11)))
    (l11 : K.lookup f11 = some ⟨oc11, od11, .func (PySem.W.fnOf "_law_word" "_law_word" (defArgs (topS 73)) (defBody (topS 73)) (defScope (topS 73)) .none kV11 dc11 pm11 an11 cd11 ct11), sl11⟩)
    (c11 : PySem.W.codeIn K cd11 "_law_word" = true)
    (k11 : PySem.W.keepIn K (.ref f11) = true)
    (a12 : PySem.W.nsIn K mainGlobals "_law_set" = some (some (.ref f12)))
    (l12 : K.lookup f12 = some ⟨oc12, od12, .func (PySem.W.fnOf "_law_set" "_law_set" (defArgs (topS 74)) (defBody (topS 74)) (defScope (topS 74)) .none kV12 dc12 pm12 an12 cd12 ct12), sl12⟩)
    (c12 : PySem.W.codeIn K cd12 "_law_set" = true)
    (k12 : PySem.W.keepIn K (.ref f12) = true)
    (a13 : PySem.W.nsIn K mainGlobals "_law_step" = some (some (.ref f13)))
    (l13 : K.lookup f13 = some ⟨oc13, od13, .func (PySem.W.fnOf "_law_step" "_law_step" (defArgs (topS 75)) (defBody (topS 75)) (defScope (topS 75)) .none kV13 dc13 pm13 an13 cd13 ct13), sl13⟩)
    (c13 : PySem.W.codeIn K cd13 "_law_step" = true)
    (k13 : PySem.W.keepIn K (.ref f13) = true)
    (a14 : PySem.W.nsIn K mainGlobals "_law_row" = some (some (.ref f14)))
    (l14 : K.lookup f14 = some ⟨oc14, od14, .func (PySem.W.fnOf "_law_row" "_law_row" (defArgs (topS 76)) (defBody (topS 76)) (defScope (topS 76)) .none kV14 dc14 pm14 an14 cd14 ct14), sl14⟩)
    (c14 : PySem.W.codeIn K cd14 "_law_row" = true)
    (k14 : PySem.W.keepIn K (.ref f14) = true)
    (a15 : PySem.W.nsIn K mainGlobals "_law_error" = some (some (.ref f15)))
    (l15 : K.lookup f15 = some ⟨oc15, od15, .func (PySem.W.fnOf "_law_error" "_law_error" (defArgs (topS 77)) (defBody (topS 77)) (defScope (topS 77)) .none kV15 dc15 pm15 an15 cd15 ct15), sl15⟩)
    (c15 : PySem.W.codeIn K cd15 "_law_error" = true)
    (k15 : PySem.W.keepIn K (.ref f15) = true)
    (a16 : PySem.W.nsIn K mainGlobals "_law_made" = some (some (.ref f16)))
    (l16 : K.lookup f16 = some ⟨oc16, od16, .func (PySem.W.fnOf "_law_made" "_law_made" (defArgs (topS 78)) (defBody (topS 78)) (defScope (topS 78)) .none kV16 dc16 pm16 an16 cd16 ct16), sl16⟩)
    (c16 : PySem.W.codeIn K cd16 "_law_made" = true)
    (k16 : PySem.W.keepIn K (.ref f16) = true)
    (a17 : PySem.W.nsIn K mainGlobals "_law_cleaner" = some (some (.ref f17)))
    (l17 : K.lookup f17 = some ⟨oc17, od17, .func (PySem.W.fnOf "_law_cleaner" "_law_cleaner" (defArgs (topS 79)) (defBody (topS 79)) (defScope (topS 79)) .none kV17 dc17 pm17 an17 cd17 ct17), sl17⟩)
    (c17 : PySem.W.codeIn K cd17 "_law_cleaner" = true)
    (k17 : PySem.W.keepIn K (.ref f17) = true)
    (a18 : PySem.W.nsIn K mainGlobals "_law_likened" = some (some (.ref f18)))
    (l18 : K.lookup f18 = some ⟨oc18, od18, .func (PySem.W.fnOf "_law_likened" "_law_likened" (defArgs (topS 80)) (defBody (topS 80)) (defScope (topS 80)) .none kV18 dc18 pm18 an18 cd18 ct18), sl18⟩)
    (c18 : PySem.W.codeIn K cd18 "_law_likened" = true)
    (k18 : PySem.W.keepIn K (.ref f18) = true)
    (a19 : PySem.W.nsIn K mainGlobals "law" = some (some (.ref f19)))
    (l19 : K.lookup f19 = some ⟨oc19, od19, .func (PySem.W.fnOf "law" "law" (defArgs (topS 81)) (defBody (topS 81)) (defScope (topS 81)) .none kV19 dc19 pm19 an19 cd19 ct19), sl19⟩)
    (c19 : PySem.W.codeIn K cd19 "law" = true)
    (k19 : PySem.W.keepIn K (.ref f19) = true)
    (zlen : PySem.W.nsIn K mainGlobals "len" = some none)
    (zint : PySem.W.nsIn K mainGlobals "int" = some none)
    (zmax : PySem.W.nsIn K mainGlobals "max" = some none)
    (zmin : PySem.W.nsIn K mainGlobals "min" = some none)
    (zlist : PySem.W.nsIn K mainGlobals "list" = some none)
    (ztuple : PySem.W.nsIn K mainGlobals "tuple" = some none)
    (zstr : PySem.W.nsIn K mainGlobals "str" = some none)
    (zall : PySem.W.nsIn K mainGlobals "all" = some none)
    (zany : PySem.W.nsIn K mainGlobals "any" = some none)
    (zrange : PySem.W.nsIn K mainGlobals "range" = some none)
    (zisinstance : PySem.W.nsIn K mainGlobals "isinstance" = some none)
    (zbool : PySem.W.nsIn K mainGlobals "bool" = some none)
    (zsorted : PySem.W.nsIn K mainGlobals "sorted" = some none)
    (zset : PySem.W.nsIn K mainGlobals "set" = some none)
    (zenumerate : PySem.W.nsIn K mainGlobals "enumerate" = some none)
    (zzip : PySem.W.nsIn K mainGlobals "zip" = some none)
    (aMOST_STEPS : PySem.W.nsIn K mainGlobals "MOST_STEPS" = some (some uMOST_STEPS))
    (aSIGNS : PySem.W.nsIn K mainGlobals "SIGNS" = some (some uSIGNS))
    (aWITH_NUMBER : PySem.W.nsIn K mainGlobals "WITH_NUMBER" = some (some (.ref rWITH_NUMBER)))
    (bWITH_NUMBER : K.lookup rWITH_NUMBER = some ⟨.type "tuple", ddWITH_NUMBER, .seq itWITH_NUMBER nnWITH_NUMBER, ssWITH_NUMBER⟩)
    (aWITH_SET : PySem.W.nsIn K mainGlobals "WITH_SET" = some (some (.ref rWITH_SET)))
    (bWITH_SET : K.lookup rWITH_SET = some ⟨.type "tuple", ddWITH_SET, .seq itWITH_SET nnWITH_SET, ssWITH_SET⟩)
    (aWITH_WORD : PySem.W.nsIn K mainGlobals "WITH_WORD" = some (some (.ref rWITH_WORD)))
    (bWITH_WORD : K.lookup rWITH_WORD = some ⟨.type "tuple", ddWITH_WORD, .seq itWITH_WORD nnWITH_WORD, ssWITH_WORD⟩)
    (gn : PySem.W.specialIn K (.builtin "object.__class__") "__get__" = some (some (.builtin "getset_descriptor.__get__")))
    (gt : PySem.W.takesIn K (.builtin "object.__class__") = some true)
    (xaC : PySem.W.nsIn K mainGlobals "CleanError" = some (some (.ref eC)))
    (xa0 : PySem.W.nsIn K mainGlobals "InvalidStep" = some (some (.ref e0)))
    (xg0 : PySem.W.findIn K (.ref e0) "__getattribute__" = some (some (.builtin "BaseException.__getattribute__")))
    (xk0 : PySem.W.findIn K (.ref e0) "__getattr__" = some none)
    (xs0 : PySem.W.subIn K (.ref e0) (.type "BaseException") = some true)
    (xd0 : PySem.W.hasDictIn K e0 = true)
    (xc0 : PySem.W.findIn K (.ref e0) "__class__" = some (some (.builtin "object.__class__")))
    (xm0 : PySem.W.mroIn K e0 (.type "object") = some true)
    (xp0 : PySem.W.excIn K e0 [.type "ValueError", .type "Exception", .type "BaseException", .type "object"] "ValueError.__new__" = true)
    (xq0 : PySem.W.keepIn K (.ref e0) = true)
    (xt0 : PySem.W.typeIn K (.ref e0) = some (.type "type"))
    (xe0 : PySem.W.subIn K (.ref e0) (.ref eC) = some true)
    (xa1 : PySem.W.nsIn K mainGlobals "InvalidText" = some (some (.ref e1)))
    (xg1 : PySem.W.findIn K (.ref e1) "__getattribute__" = some (some (.builtin "BaseException.__getattribute__")))
    (xk1 : PySem.W.findIn K (.ref e1) "__getattr__" = some none)
    (xs1 : PySem.W.subIn K (.ref e1) (.type "BaseException") = some true)
    (xd1 : PySem.W.hasDictIn K e1 = true)
    (xc1 : PySem.W.findIn K (.ref e1) "__class__" = some (some (.builtin "object.__class__")))
    (xm1 : PySem.W.mroIn K e1 (.type "object") = some true)
    (xp1 : PySem.W.excIn K e1 [.type "ValueError", .type "Exception", .type "BaseException", .type "object"] "ValueError.__new__" = true)
    (xq1 : PySem.W.keepIn K (.ref e1) = true)
    (xt1 : PySem.W.typeIn K (.ref e1) = some (.type "type"))
    (xe1 : PySem.W.subIn K (.ref e1) (.ref eC) = some true)
    (xa2 : PySem.W.nsIn K mainGlobals "InvalidIndex" = some (some (.ref e2)))
    (xg2 : PySem.W.findIn K (.ref e2) "__getattribute__" = some (some (.builtin "BaseException.__getattribute__")))
    (xk2 : PySem.W.findIn K (.ref e2) "__getattr__" = some none)
    (xs2 : PySem.W.subIn K (.ref e2) (.type "BaseException") = some true)
    (xd2 : PySem.W.hasDictIn K e2 = true)
    (xc2 : PySem.W.findIn K (.ref e2) "__class__" = some (some (.builtin "object.__class__")))
    (xm2 : PySem.W.mroIn K e2 (.type "object") = some true)
    (xp2 : PySem.W.excIn K e2 [.type "ValueError", .type "Exception", .type "BaseException", .type "object"] "ValueError.__new__" = true)
    (xq2 : PySem.W.keepIn K (.ref e2) = true)
    (xt2 : PySem.W.typeIn K (.ref e2) = some (.type "type"))
    (xe2 : PySem.W.subIn K (.ref e2) (.ref eC) = some true)
    (xa3 : PySem.W.nsIn K mainGlobals "TooMany" = some (some (.ref e3)))
    (xg3 : PySem.W.findIn K (.ref e3) "__getattribute__" = some (some (.builtin "BaseException.__getattribute__")))
    (xk3 : PySem.W.findIn K (.ref e3) "__getattr__" = some none)
    (xs3 : PySem.W.subIn K (.ref e3) (.type "BaseException") = some true)
    (xd3 : PySem.W.hasDictIn K e3 = true)
    (xc3 : PySem.W.findIn K (.ref e3) "__class__" = some (some (.builtin "object.__class__")))
    (xm3 : PySem.W.mroIn K e3 (.type "object") = some true)
    (xp3 : PySem.W.excIn K e3 [.type "ValueError", .type "Exception", .type "BaseException", .type "object"] "ValueError.__new__" = true)
    (xq3 : PySem.W.keepIn K (.ref e3) = true)
    (xt3 : PySem.W.typeIn K (.ref e3) = some (.type "type"))
    (xe3 : PySem.W.subIn K (.ref e3) (.ref eC) = some true)
    (xa4 : PySem.W.nsIn K mainGlobals "NothingToUndo" = some (some (.ref e4)))
    (xg4 : PySem.W.findIn K (.ref e4) "__getattribute__" = some (some (.builtin "BaseException.__getattribute__")))
    (xk4 : PySem.W.findIn K (.ref e4) "__getattr__" = some none)
    (xs4 : PySem.W.subIn K (.ref e4) (.type "BaseException") = some true)
    (xd4 : PySem.W.hasDictIn K e4 = true)
    (xc4 : PySem.W.findIn K (.ref e4) "__class__" = some (some (.builtin "object.__class__")))
    (xm4 : PySem.W.mroIn K e4 (.type "object") = some true)
    (xp4 : PySem.W.excIn K e4 [.type "ValueError", .type "Exception", .type "BaseException", .type "object"] "ValueError.__new__" = true)
    (xq4 : PySem.W.keepIn K (.ref e4) = true)
    (xt4 : PySem.W.typeIn K (.ref e4) = some (.type "type"))
    (xe4 : PySem.W.subIn K (.ref e4) (.ref eC) = some true)
    (y01 : PySem.W.subIn K (.ref e0) (.ref e1) = some false)
    (n01 : (Value.ref e0 == Value.ref e1) = false)
    (y02 : PySem.W.subIn K (.ref e0) (.ref e2) = some false)
    (n02 : (Value.ref e0 == Value.ref e2) = false)
    (y03 : PySem.W.subIn K (.ref e0) (.ref e3) = some false)
    (n03 : (Value.ref e0 == Value.ref e3) = false)
    (y04 : PySem.W.subIn K (.ref e0) (.ref e4) = some false)
    (n04 : (Value.ref e0 == Value.ref e4) = false)
    (y10 : PySem.W.subIn K (.ref e1) (.ref e0) = some false)
    (n10 : (Value.ref e1 == Value.ref e0) = false)
    (y12 : PySem.W.subIn K (.ref e1) (.ref e2) = some false)
    (n12 : (Value.ref e1 == Value.ref e2) = false)
    (y13 : PySem.W.subIn K (.ref e1) (.ref e3) = some false)
    (n13 : (Value.ref e1 == Value.ref e3) = false)
    (y14 : PySem.W.subIn K (.ref e1) (.ref e4) = some false)
    (n14 : (Value.ref e1 == Value.ref e4) = false)
    (y20 : PySem.W.subIn K (.ref e2) (.ref e0) = some false)
    (n20 : (Value.ref e2 == Value.ref e0) = false)
    (y21 : PySem.W.subIn K (.ref e2) (.ref e1) = some false)
    (n21 : (Value.ref e2 == Value.ref e1) = false)
    (y23 : PySem.W.subIn K (.ref e2) (.ref e3) = some false)
    (n23 : (Value.ref e2 == Value.ref e3) = false)
    (y24 : PySem.W.subIn K (.ref e2) (.ref e4) = some false)
    (n24 : (Value.ref e2 == Value.ref e4) = false)
    (y30 : PySem.W.subIn K (.ref e3) (.ref e0) = some false)
    (n30 : (Value.ref e3 == Value.ref e0) = false)
    (y31 : PySem.W.subIn K (.ref e3) (.ref e1) = some false)
    (n31 : (Value.ref e3 == Value.ref e1) = false)
    (y32 : PySem.W.subIn K (.ref e3) (.ref e2) = some false)
    (n32 : (Value.ref e3 == Value.ref e2) = false)
    (y34 : PySem.W.subIn K (.ref e3) (.ref e4) = some false)
    (n34 : (Value.ref e3 == Value.ref e4) = false)
    (y40 : PySem.W.subIn K (.ref e4) (.ref e0) = some false)
    (n40 : (Value.ref e4 == Value.ref e0) = false)
    (y41 : PySem.W.subIn K (.ref e4) (.ref e1) = some false)
    (n41 : (Value.ref e4 == Value.ref e1) = false)
    (y42 : PySem.W.subIn K (.ref e4) (.ref e2) = some false)
    (n42 : (Value.ref e4 == Value.ref e2) = false)
    (y43 : PySem.W.subIn K (.ref e4) (.ref e3) = some false)
    (n43 : (Value.ref e4 == Value.ref e3) = false)
    (xsC : PySem.W.subIn K (.ref eC) (.type "BaseException") = some true)
    (xdC : PySem.W.hasDictIn K eC = true)
    (xtC : PySem.W.typeIn K (.ref eC) = some (.type "type"))
    (qRa : PySem.W.nsIn K mainGlobals "Row" = some (some (.ref CR)))
    (qRg : PySem.W.plainGet K CR Str.empty = true)
    (qRd : PySem.W.hasDictIn K CR = true)
    (qRo : PySem.W.plainOver K CR = true)
    (qRs : PySem.W.findIn K (.ref CR) "__setattr__" = some (some (.builtin "object.__setattr__")))
    (qRm : PySem.W.makesIn K CR = true)
    (qRk : PySem.W.keepIn K (.ref CR) = true)
    (qRt : PySem.W.typeIn K (.ref CR) = some (.type "type"))
    (qR_held : PySem.W.findIn K (.ref CR) "held" = some none)
    (iRI : PySem.W.findIn K (.ref CR) "__init__" = some (some (.ref fRI)))
    (jRI : PySem.W.isFn K (.ref fRI) = true)
    (lRI : K.lookup fRI = some ⟨ocRI, odRI, .func (PySem.W.fnOf "__init__" "Row.__init__" (defArgs sRI) (defBody sRI) (defScope sRI) .none kVRI dcRI pmRI anRI cdRI ctRI), slRI⟩)
    (cRI : PySem.W.codeIn K cdRI "Row.__init__" = true)
    (kRI : PySem.W.keepIn K (.ref fRI) = true)
    (iRS : PySem.W.findIn K (.ref CR) "steps" = some (some (.ref pRS)))
    (jRS : PySem.W.specialIn K (.ref pRS) "__get__" = some (some (.builtin "property.__get__")))
    (tRS : PySem.W.takesIn K (.ref pRS) = some true)
    (rRS : PySem.W.recIn K pRS "property" = some (.ref fRS :: rsRS))
    (lRS : K.lookup fRS = some ⟨ocRS, odRS, .func (PySem.W.fnOf "steps" "Row.steps" (defArgs (inClass (topS 63) 3)) (defBody (inClass (topS 63) 3)) (defScope (inClass (topS 63) 3)) .none kVRS dcRS pmRS anRS cdRS ctRS), slRS⟩)
    (cRS : PySem.W.codeIn K cdRS "Row.steps" = true)
    (kRS : PySem.W.keepIn K (.ref fRS) = true)
    (iDS : PySem.W.findIn K (.ref CR) "does_same" = some (some (.ref fDS)))
    (jDS : PySem.W.isFn K (.ref fDS) = true)
    (lDS : K.lookup fDS = some ⟨ocDS, odDS, .func (PySem.W.fnOf "does_same" "Row.does_same" (defArgs sDS) (defBody sDS) (defScope sDS) .none kVDS dcDS pmDS anDS cdDS ctDS), slDS⟩)
    (cDS : PySem.W.codeIn K cdDS "Row.does_same" = true)
    (kDS : PySem.W.keepIn K (.ref fDS) = true)
    (wN : PySem.W.subIn K (.type "NoneType") (.ref CR) = some false)
    (wT : PySem.W.subIn K (.type "tuple") (.ref CR) = some false)
    (qCa : PySem.W.nsIn K mainGlobals "Cleaner" = some (some (.ref CC)))
    (qCg : PySem.W.plainGet K CC Str.empty = true)
    (qCd : PySem.W.hasDictIn K CC = true)
    (qCo : PySem.W.plainOver K CC = true)
    (qCs : PySem.W.findIn K (.ref CC) "__setattr__" = some (some (.builtin "object.__setattr__")))
    (qCm : PySem.W.makesIn K CC = true)
    (qCk : PySem.W.keepIn K (.ref CC) = true)
    (qCt : PySem.W.typeIn K (.ref CC) = some (.type "type"))
    (qC_now : PySem.W.findIn K (.ref CC) "now" = some none)
    (qC_earlier : PySem.W.findIn K (.ref CC) "earlier" = some none)
    (iCI : PySem.W.findIn K (.ref CC) "__init__" = some (some (.ref fCI)))
    (jCI : PySem.W.isFn K (.ref fCI) = true)
    (lCI : K.lookup fCI = some ⟨ocCI, odCI, .func (PySem.W.fnOf "__init__" "Cleaner.__init__" (defArgs sCI) (defBody sCI) (defScope sCI) (.ref Td) kVCI dcCI pmCI anCI cdCI ctCI), slCI⟩)
    (cCI : PySem.W.codeIn K cdCI "Cleaner.__init__" = true)
    (kCI : PySem.W.keepIn K (.ref fCI) = true)
    (dT : K.lookup Td = some oT)
    (iCR : PySem.W.findIn K (.ref CC) "row" = some (some (.ref pCR)))
    (jCR : PySem.W.specialIn K (.ref pCR) "__get__" = some (some (.builtin "property.__get__")))
    (tCR : PySem.W.takesIn K (.ref pCR) = some true)
    (rCR : PySem.W.recIn K pCR "property" = some (.ref fCR :: rsCR))
    (lCR : K.lookup fCR = some ⟨ocCR, odCR, .func (PySem.W.fnOf "row" "Cleaner.row" (defArgs (inClass (topS 65) 6)) (defBody (inClass (topS 65) 6)) (defScope (inClass (topS 65) 6)) .none kVCR dcCR pmCR anCR cdCR ctCR), slCR⟩)
    (cCR : PySem.W.codeIn K cdCR "Cleaner.row" = true)
    (kCR : PySem.W.keepIn K (.ref fCR) = true)
    (iCT : PySem.W.findIn K (.ref CC) "texts" = some (some (.ref pCT)))
    (jCT : PySem.W.specialIn K (.ref pCT) "__get__" = some (some (.builtin "property.__get__")))
    (tCT : PySem.W.takesIn K (.ref pCT) = some true)
    (rCT : PySem.W.recIn K pCT "property" = some (.ref fCT :: rsCT))
    (lCT : K.lookup fCT = some ⟨ocCT, odCT, .func (PySem.W.fnOf "texts" "Cleaner.texts" (defArgs (inClass (topS 65) 7)) (defBody (inClass (topS 65) 7)) (defScope (inClass (topS 65) 7)) .none kVCT dcCT pmCT anCT cdCT ctCT), slCT⟩)
    (cCT : PySem.W.codeIn K cdCT "Cleaner.texts" = true)
    (kCT : PySem.W.keepIn K (.ref fCT) = true)
    (mR : PySem.W.readsIn K CC (.type "type") = true)
    (mG : PySem.W.specialIn K (.ref CC) "__getattribute__" = some (some (.builtin "type.__getattribute__")))
    (mM : PySem.W.findCls K (.ref CC) (.type "type") "MOST" = some (.val uM))
    (vMOST_STEPS : ∃ t, uMOST_STEPS = Value.int 3 t)
    (vSIGNS : ∃ t, uSIGNS = Value.str (tx sgL) t)
    (vWITH_NUMBER : ∃ t0 t1, itWITH_NUMBER = #[Value.str (tx wFirst) t0, Value.str (tx wLast) t1])
    (vWITH_SET : ∃ t0 t1 t2, itWITH_SET = #[Value.str (tx wTrim) t0, Value.str (tx wDrop) t1, Value.str (tx wSqueeze) t2])
    (vWITH_WORD : ∃ t0 t1 t2 t3, itWITH_WORD = #[Value.str (tx wFront) t0, Value.str (tx wFronts) t1, Value.str (tx wBack) t2, Value.str (tx wBacks) t3])
    (vM : ∃ t, uM = Value.int 30 t)
    (vT : oT.data = .seq itT nT ∧ itT = #[.ref Ed])
    (dE : K.lookup Ed = some ⟨.type "tuple", ddE, .seq itE nE, ssE⟩)
    (vE : itE = #[]) :
    ∃ fd : FuncData, (∀ (s : Shared) (v : Value), BindsTo s fd ⟨[v], []⟩ [("script", v)]) ∧ ∀ base : Heap, K.In base → base.Ns mainGlobals mg → FnOk l.prog w K mg base CX0 21 fa fd ["script"] (PD.spLaw K) := by
  have e := hfa.symm.trans (PySem.W.mg_of X G a19)
  cases e
  have M : Mo ⟨K, false⟩ K mg := by
    refine ⟨rfl, fun b => ?_, PySem.W.mg_none_of X G zrange, PySem.W.mg_none_of X G zisinstance, PySem.W.mg_none_of X G zbool, fun x hx => ?_⟩
    · cases b
      · exact PySem.W.mg_none_of X G zlen
      · exact PySem.W.mg_none_of X G zint
      · exact PySem.W.mg_none_of X G zmax
      · exact PySem.W.mg_none_of X G zmin
      · exact PySem.W.mg_none_of X G zlist
      · exact PySem.W.mg_none_of X G ztuple
      · exact PySem.W.mg_none_of X G zstr
      · exact PySem.W.mg_none_of X G zall
      · exact PySem.W.mg_none_of X G zany
    · simp only [List.mem_cons, List.not_mem_nil, or_false] at hx
      rcases hx with rfl | rfl | rfl | rfl
      · exact PySem.W.mg_none_of X G zsorted
      · exact PySem.W.mg_none_of X G zset
      · exact PySem.W.mg_none_of X G zenumerate
      · exact PySem.W.mg_none_of X G zzip
  have F0 := fun_mk (st := topS 29) l0 c0 k0
  have D0 : DefOk K mg "is_string" (topS 29) ["value", "low", "high"] := ⟨_, _, F0, PySem.W.mg_of X G a0, F0.binds (ps := ["value", "low", "high"]) fun _ _ _ _ _ _ us hl => match us, hl with | [_, _, _], _ => rfl⟩
  have F1 := fun_mk (st := topS 31) l1 c1 k1
  have D1 : DefOk K mg "is_set" (topS 31) ["value"] := ⟨_, _, F1, PySem.W.mg_of X G a1, F1.binds (ps := ["value"]) fun _ _ _ _ _ _ us hl => match us, hl with | [_], _ => rfl⟩
  have F2 := fun_mk (st := topS 32) l2 c2 k2
  have D2 : DefOk K mg "is_number" (topS 32) ["value"] := ⟨_, _, F2, PySem.W.mg_of X G a2, F2.binds (ps := ["value"]) fun _ _ _ _ _ _ us hl => match us, hl with | [_], _ => rfl⟩
  have F3 := fun_mk (st := topS 33) l3 c3 k3
  have D3 : DefOk K mg "is_step" (topS 33) ["value"] := ⟨_, _, F3, PySem.W.mg_of X G a3, F3.binds (ps := ["value"]) fun _ _ _ _ _ _ us hl => match us, hl with | [_], _ => rfl⟩
  have F4 := fun_mk (st := topS 34) l4 c4 k4
  have D4 : DefOk K mg "is_row" (topS 34) ["value"] := ⟨_, _, F4, PySem.W.mg_of X G a4, F4.binds (ps := ["value"]) fun _ _ _ _ _ _ us hl => match us, hl with | [_], _ => rfl⟩
  have F5 := fun_mk (st := topS 67) l5 c5 k5
  have D5 : DefOk K mg "_law_draw" (topS 67) ["tape", "many"] := ⟨_, _, F5, PySem.W.mg_of X G a5, F5.binds (ps := ["tape", "many"]) fun _ _ _ _ _ _ us hl => match us, hl with | [_, _], _ => rfl⟩
  have F6 := fun_mk (st := topS 68) l6 c6 k6
  have D6 : DefOk K mg "_law_whole" (topS 68) ["item"] := ⟨_, _, F6, PySem.W.mg_of X G a6, F6.binds (ps := ["item"]) fun _ _ _ _ _ _ us hl => match us, hl with | [_], _ => rfl⟩
  have F7 := fun_mk (st := topS 69) l7 c7 k7
  have D7 : DefOk K mg "_law_like" (topS 69) ["one", "two"] := ⟨_, _, F7, PySem.W.mg_of X G a7, F7.binds (ps := ["one", "two"]) fun _ _ _ _ _ _ us hl => match us, hl with | [_, _], _ => rfl⟩
  have F8 := fun_mk (st := topS 70) l8 c8 k8
  have D8 : DefOk K mg "_law_spoilt" (topS 70) ["tape", "item"] := ⟨_, _, F8, PySem.W.mg_of X G a8, F8.binds (ps := ["tape", "item"]) fun _ _ _ _ _ _ us hl => match us, hl with | [_, _], _ => rfl⟩
  have F9 := fun_mk (st := topS 71) l9 c9 k9
  have D9 : DefOk K mg "_law_any" (topS 71) ["tape", "deep"] := ⟨_, _, F9, PySem.W.mg_of X G a9, F9.binds (ps := ["tape", "deep"]) fun _ _ _ _ _ _ us hl => match us, hl with | [_, _], _ => rfl⟩
  have F10 := fun_mk (st := topS 72) l10 c10 k10
  have D10 : DefOk K mg "_law_sign" (topS 72) ["tape"] := ⟨_, _, F10, PySem.W.mg_of X G a10, F10.binds (ps := ["tape"]) fun _ _ _ _ _ _ us hl => match us, hl with | [_], _ => rfl⟩
  have F11 := fun_mk (st := topS 73) l11 c11 k11
  have D11 : DefOk K mg "_law_word" (topS 73) ["tape"] := ⟨_, _, F11, PySem.W.mg_of X G a11, F11.binds (ps := ["tape"]) fun _ _ _ _ _ _ us hl => match us, hl with | [_], _ => rfl⟩
  have F12 := fun_mk (st := topS 74) l12 c12 k12
  have D12 : DefOk K mg "_law_set" (topS 74) ["tape"] := ⟨_, _, F12, PySem.W.mg_of X G a12, F12.binds (ps := ["tape"]) fun _ _ _ _ _ _ us hl => match us, hl with | [_], _ => rfl⟩
  have F13 := fun_mk (st := topS 75) l13 c13 k13
  have D13 : DefOk K mg "_law_step" (topS 75) ["tape"] := ⟨_, _, F13, PySem.W.mg_of X G a13, F13.binds (ps := ["tape"]) fun _ _ _ _ _ _ us hl => match us, hl with | [_], _ => rfl⟩
  have F14 := fun_mk (st := topS 76) l14 c14 k14
  have D14 : DefOk K mg "_law_row" (topS 76) ["tape", "most"] := ⟨_, _, F14, PySem.W.mg_of X G a14, F14.binds (ps := ["tape", "most"]) fun _ _ _ _ _ _ us hl => match us, hl with | [_, _], _ => rfl⟩
  have F15 := fun_mk (st := topS 77) l15 c15 k15
  have D15 : DefOk K mg "_law_error" (topS 77) ["e"] := ⟨_, _, F15, PySem.W.mg_of X G a15, F15.binds (ps := ["e"]) fun _ _ _ _ _ _ us hl => match us, hl with | [_], _ => rfl⟩
  have F16 := fun_mk (st := topS 78) l16 c16 k16
  have D16 : DefOk K mg "_law_made" (topS 78) ["steps"] := ⟨_, _, F16, PySem.W.mg_of X G a16, F16.binds (ps := ["steps"]) fun _ _ _ _ _ _ us hl => match us, hl with | [_], _ => rfl⟩
  have F17 := fun_mk (st := topS 79) l17 c17 k17
  have D17 : DefOk K mg "_law_cleaner" (topS 79) ["value"] := ⟨_, _, F17, PySem.W.mg_of X G a17, F17.binds (ps := ["value"]) fun _ _ _ _ _ _ us hl => match us, hl with | [_], _ => rfl⟩
  have F18 := fun_mk (st := topS 80) l18 c18 k18
  have D18 : DefOk K mg "_law_likened" (topS 80) ["one", "other"] := ⟨_, _, F18, PySem.W.mg_of X G a18, F18.binds (ps := ["one", "other"]) fun _ _ _ _ _ _ us hl => match us, hl with | [_, _], _ => rfl⟩
  have F19 := fun_mk (st := topS 81) l19 c19 k19
  have D19 : DefOk K mg "law" (topS 81) ["script"] := ⟨_, _, F19, PySem.W.mg_of X G a19, F19.binds (ps := ["script"]) fun _ _ _ _ _ _ us hl => match us, hl with | [_], _ => rfl⟩
  have cstMOST_STEPS : CstOk ⟨K, false⟩ mg cMost := by obtain ⟨t, rfl⟩ := vMOST_STEPS; exact ⟨.int 3, _, PySem.W.mg_of X G aMOST_STEPS, ⟨t, rfl⟩, fun F => .int _⟩
  have cstSIGNS : CstOk ⟨K, false⟩ mg cSigns := by obtain ⟨t, rfl⟩ := vSIGNS; exact ⟨.str (tx sgL), _, PySem.W.mg_of X G aSIGNS, ⟨t, rfl⟩, fun F => .str _⟩
  have cstWITH_NUMBER : CstOk ⟨K, false⟩ mg cWnum := by
    obtain ⟨t0, t1, rfl⟩ := vWITH_NUMBER
    exact ⟨.ref rWITH_NUMBER, _, PySem.W.mg_of X G aWITH_NUMBER, rfl, fun F => .tup (vs := [V.str (tx wFirst), V.str (tx wLast)]) (.inr ⟨_, _, _, bWITH_NUMBER, rfl, rfl, by simp [sizeLine_eq], .cons ⟨t0, rfl⟩ (.cons ⟨t1, rfl⟩ (.nil))⟩) (.cons (.str _) (.cons (.str _) (.nil))) (fun h => by cases h)⟩
  have cstWITH_SET : CstOk ⟨K, false⟩ mg cWset := by
    obtain ⟨t0, t1, t2, rfl⟩ := vWITH_SET
    exact ⟨.ref rWITH_SET, _, PySem.W.mg_of X G aWITH_SET, rfl, fun F => .tup (vs := [V.str (tx wTrim), V.str (tx wDrop), V.str (tx wSqueeze)]) (.inr ⟨_, _, _, bWITH_SET, rfl, rfl, by simp [sizeLine_eq], .cons ⟨t0, rfl⟩ (.cons ⟨t1, rfl⟩ (.cons ⟨t2, rfl⟩ (.nil)))⟩) (.cons (.str _) (.cons (.str _) (.cons (.str _) (.nil)))) (fun h => by cases h)⟩
  have cstWITH_WORD : CstOk ⟨K, false⟩ mg cWword := by
    obtain ⟨t0, t1, t2, t3, rfl⟩ := vWITH_WORD
    exact ⟨.ref rWITH_WORD, _, PySem.W.mg_of X G aWITH_WORD, rfl, fun F => .tup (vs := [V.str (tx wFront), V.str (tx wFronts), V.str (tx wBack), V.str (tx wBacks)]) (.inr ⟨_, _, _, bWITH_WORD, rfl, rfl, by simp [sizeLine_eq], .cons ⟨t0, rfl⟩ (.cons ⟨t1, rfl⟩ (.cons ⟨t2, rfl⟩ (.cons ⟨t3, rfl⟩ (.nil))))⟩) (.cons (.str _) (.cons (.str _) (.cons (.str _) (.cons (.str _) (.nil))))) (fun h => by cases h)⟩
  refine ⟨PySem.W.fnOf "law" "law" (defArgs (topS 81)) (defBody (topS 81)) (defScope (topS 81)) .none kV19 dc19 pm19 an19 cd19 ct19, fun s v => .of_eq rfl, fun base _ _ => ?_⟩
  have kDr : Kn l.prog w K mg base ⟨K, false⟩ 1 (cDraw false) := def_ok (cal := []) (csts := []) M D5 sc_law_draw ck_law_draw rfl (by simp) (by simp) _ Grun_out
  have kSi : Kn l.prog w K mg base ⟨K, false⟩ 2 (cSign false) := def_ok (cal := [cDraw false]) (csts := []) M D10 sc_law_sign ck_law_sign rfl (by simp) (all1 kDr) _ Grun_out
  have kST : KnT l.prog w K mg base ⟨K, false⟩ 3 (cSign false) := sign_kn M D10 sc_law_sign ct_law_sign (kDr.mono (by omega))
  have kWo : Kn l.prog w K mg base ⟨K, false⟩ 3 ⟨"_law_word", true, 0, GWord false⟩ := def_ok (cal := [cSign false, cDraw false]) (csts := []) M D11 sc_law_word ck_law_word rfl (by simp) (all2 kSi (kDr.mono (by omega))) _ Grun_out
  have kSe : Kn l.prog w K mg base ⟨K, false⟩ 3 ⟨"_law_set", true, 0, GSet false⟩ := def_ok (cal := [cSign false, cDraw false]) (csts := []) M D12 sc_law_set ck_law_set rfl (by simp) (all2 kSi (kDr.mono (by omega))) _ Grun_out
  have kSp : Kn l.prog w K mg base ⟨K, false⟩ 4 (cStep false) := step_kn M D13 sc_law_step ck_law_step ct_law_step (by decide +kernel) (by decide +kernel) (by decide +kernel) (by decide +kernel) (by decide +kernel) (kDr.mono (by omega)) kSe kWo (kSi.mono (by omega)) kST
  have kRo : Kn l.prog w K mg base ⟨K, false⟩ 5 ⟨"_law_row", true, 1, GRow false⟩ := def_ok (cal := [cDraw false, cStep false]) (csts := []) M D14 sc_law_row ck_law_row rfl (by simp) (all2 (kDr.mono (by omega)) kSp) _ Grun_out
  have kLk : ∀ n, Kn l.prog w K mg base ⟨K, false⟩ n ⟨"_law_like", false, 2, GLike false n⟩ := by
    intro n
    induction n with
    | zero => exact Kn_void D7 fun ns ds τ r e => by cases e
    | succ n ih => exact def_ok (cal := [⟨"_law_like", false, 2, GLike false n⟩]) (csts := []) M D7 sc_law_like ck_law_like rfl (by simp) (all1 ih) _ Grun_out
  have kIs : Kn l.prog w K mg base ⟨K, false⟩ 1 ⟨"is_string", false, 3, GIsStr false⟩ := def_ok (cal := []) (csts := [cSigns]) M D0 sc_is_string ck_is_string rfl (all1 cstSIGNS) (by simp) _ Grun_out
  have kIe : Kn l.prog w K mg base ⟨K, false⟩ 2 ⟨"is_set", false, 1, GIsSet false⟩ := def_ok (cal := [⟨"is_string", false, 3, GIsStr false⟩]) (csts := []) M D1 sc_is_set ck_is_set rfl (by simp) (all1 kIs) _ Grun_out
  have kIn : Kn l.prog w K mg base ⟨K, false⟩ 1 ⟨"is_number", false, 1, GIsNum false⟩ := def_ok (cal := []) (csts := []) M D2 sc_is_number ck_is_number rfl (by simp) (by simp) _ Grun_out
  have kIp : Kn l.prog w K mg base ⟨K, false⟩ 3 ⟨"is_step", false, 1, GIsStep false⟩ := def_ok (cal := calIsStep false) (csts := cstIsStep) M D3 sc_is_step ck_is_step rfl (all3 cstWITH_SET cstWITH_WORD cstWITH_NUMBER) (all3 kIe (kIs.mono (by omega)) (kIn.mono (by omega))) _ Grun_out
  have kIr : Kn l.prog w K mg base ⟨K, false⟩ 4 ⟨"is_row", false, 1, GIsRow false⟩ := def_ok (cal := [⟨"is_step", false, 1, GIsStep false⟩]) (csts := [cMost]) M D4 sc_is_row ck_is_row rfl (all1 cstMOST_STEPS) (all1 kIp) _ Grun_out
  have kWh : Kn l.prog w K mg base ⟨K, false⟩ 1 ⟨"_law_whole", false, 1, GWhole false⟩ := def_ok (cal := []) (csts := []) M D6 sc_law_whole ck_law_whole rfl (by simp) (by simp) _ Grun_out
  have kAn : ∀ n, Kn l.prog w K mg base ⟨K, false⟩ (n + 1) ⟨"_law_any", true, 1, GAny false n⟩ := by
    intro n
    induction n with
    | zero => exact Kn_void D9 fun ns ds τ r e => by cases e
    | succ n ih => exact def_ok (cal := [cDraw false, ⟨"_law_any", true, 1, GAny false n⟩]) (csts := []) M D9 sc_law_any ck_law_any rfl (by simp) (all2 (kDr.mono (by omega)) ih) _ Grun_out
  have kSo : ∀ n, Kn l.prog w K mg base ⟨K, false⟩ (n + 4) ⟨"_law_spoilt", true, 1, GSpo n⟩ := by
    intro n
    induction n with
    | zero => exact Kn_void D8 fun ns ds τ r e => by cases e
    | succ n ih => exact def_ok (cal := [cDraw false, ⟨"_law_spoilt", true, 1, GSpo n⟩, ⟨"_law_any", true, 1, GAny false 3⟩, ⟨"_law_whole", false, 1, GWhole false⟩]) (csts := []) M D8 sc_law_spoilt ck_law_spoilt rfl (by simp) (all4 (kDr.mono (by omega)) ih ((kAn 3).mono (by omega)) (kWh.mono (by omega))) _ Grun_out
  let ce : Fin 5 → Addr := fun i => match i with | 0 => e0 | 1 => e1 | 2 => e2 | 3 => e3 | 4 => e4
  have TE : TxE K mg ce eC := ⟨(fun i => match i with | 0 => PySem.W.mg_of X G xa0 | 1 => PySem.W.mg_of X G xa1 | 2 => PySem.W.mg_of X G xa2 | 3 => PySem.W.mg_of X G xa3 | 4 => PySem.W.mg_of X G xa4), PySem.W.mg_none_of X G zisinstance, (fun i => match i with | 0 => ⟨xg0, xk0, xs0, xd0, xc0, gn, gt, xm0⟩ | 1 => ⟨xg1, xk1, xs1, xd1, xc1, gn, gt, xm1⟩ | 2 => ⟨xg2, xk2, xs2, xd2, xc2, gn, gt, xm2⟩ | 3 => ⟨xg3, xk3, xs3, xd3, xc3, gn, gt, xm3⟩ | 4 => ⟨xg4, xk4, xs4, xd4, xc4, gn, gt, xm4⟩), (fun i j => match i, j with | 0, 0 => kit_eq _ | 0, 1 => kit_ne n01 xd1 xt1 y01 | 0, 2 => kit_ne n02 xd2 xt2 y02 | 0, 3 => kit_ne n03 xd3 xt3 y03 | 0, 4 => kit_ne n04 xd4 xt4 y04 | 1, 0 => kit_ne n10 xd0 xt0 y10 | 1, 1 => kit_eq _ | 1, 2 => kit_ne n12 xd2 xt2 y12 | 1, 3 => kit_ne n13 xd3 xt3 y13 | 1, 4 => kit_ne n14 xd4 xt4 y14 | 2, 0 => kit_ne n20 xd0 xt0 y20 | 2, 1 => kit_ne n21 xd1 xt1 y21 | 2, 2 => kit_eq _ | 2, 3 => kit_ne n23 xd3 xt3 y23 | 2, 4 => kit_ne n24 xd4 xt4 y24 | 3, 0 => kit_ne n30 xd0 xt0 y30 | 3, 1 => kit_ne n31 xd1 xt1 y31 | 3, 2 => kit_ne n32 xd2 xt2 y32 | 3, 3 => kit_eq _ | 3, 4 => kit_ne n34 xd4 xt4 y34 | 4, 0 => kit_ne n40 xd0 xt0 y40 | 4, 1 => kit_ne n41 xd1 xt1 y41 | 4, 2 => kit_ne n42 xd2 xt2 y42 | 4, 3 => kit_ne n43 xd3 xt3 y43 | 4, 4 => kit_eq _), (fun i => match i with | 0 => xp0 | 1 => xp1 | 2 => xp2 | 3 => xp3 | 4 => xp4), (fun i => match i with | 0 => xq0 | 1 => xq1 | 2 => xq2 | 3 => xq3 | 4 => xq4), (fun i => match i with | 0 => xs0 | 1 => xs1 | 2 => xs2 | 3 => xs3 | 4 => xs4), (fun i => match i with | 0 => xt0 | 1 => xt1 | 2 => xt2 | 3 => xt3 | 4 => xt4), PySem.W.mg_of X G xaC, (fun i => match i with | 0 => PySem.W.exm_ref xsC xdC xtC xe0 | 1 => PySem.W.exm_ref xsC xdC xtC xe1 | 2 => PySem.W.exm_ref xsC xdC xtC xe2 | 3 => PySem.W.exm_ref xsC xdC xtC xe3 | 4 => PySem.W.exm_ref xsC xdC xtC xe4)⟩
  have FE : FnE l.prog w K mg base 1 _ _ ["e"] (kdE ce) := err_ok F15 TE
  have TR : TxRow K mg CR := ⟨⟨qRg, qRd, qRo, qRs⟩, qR_held, PySem.W.mg_of X G qRa⟩
  have FRI := ri_ok (w := w) (P := l.prog) (base := base) lRI cRI TE TR M (kIp.mono (by omega) : Kn l.prog w K mg base ⟨K, false⟩ 5 _) cstMOST_STEPS
  have FRS := fn_getter (P := l.prog) (w := w) (mg := mg) (base := base) (CX := CX0) (k := 5) (N := ["self"]) lRS cRS ⟨rfl, rfl, rfl, by decide +kernel, rfl, by decide +kernel, by decide +kernel⟩ rfl rfl TR.cl TR.nH
  have bRS := (fun_mk (st := inClass (topS 63) 3) lRS cRS kRS).binds (ps := ["self"]) fun _ _ _ _ _ _ us hl => match us, hl with | [_], _ => rfl
  obtain ⟨RK, rfl⟩ : ∃ RK : RowKn l.prog w K mg base ⟨K, false⟩ 6 ce, RK.Cr = CR := ⟨⟨CR, fRI, pRS, fRS, _, TR, ⟨qRm, iRI, jRI, qRk⟩, FRI, ⟨iRS, jRS, tRS, _, rRS⟩, FRS, bRS⟩, rfl⟩
  have bE := (F15).binds (ps := ["e"]) fun _ _ _ _ _ _ us hl => match us, hl with | [_], _ => rfl
  have EK : ErrKn l.prog w K mg base 6 ce := ⟨_, _, FE.mono (by omega), PySem.W.mg_of X G a15, k15, bE⟩
  have kMa := made_ok (w := w) (P := l.prog) (base := base) M D16 TE RK EK
  have TC : TxC K mg CC := ⟨⟨qCg, qCd, qCo, qCs⟩, qC_now, qC_earlier, PySem.W.mg_of X G qCa⟩
  obtain ⟨vT1, vT2⟩ := vT
  have FDC : FunD K "__init__" "Cleaner.__init__" (defArgs sCI) (defBody sCI) (defScope sCI) [V.ref Ed] [] fCI _ := ⟨⟨_, _, _, _, _, _, _, _, _, _, rfl, lCI, cCI, .inr ⟨by simp, Td, oT, [.ref Ed], nT, rfl, dT, by rw [vT1, vT2], .cons rfl .nil⟩, .inl rfl⟩, kCI⟩
  have FCI := ci_ok (w := w) (P := l.prog) (base := base) FDC TE TC M (kIr.mono (by omega) : Kn l.prog w K mg base ⟨K, false⟩ 5 _)
  have b1 := FDC.binds1 (ps := ["self", "row"]) 2 1 (by simp) rfl fun T kV doc pm an cdv ct us its hl hi => match us, its, hl, hi with | [a, b], [c], _, _ => ⟨_, rfl, rfl⟩
  have b0 := FDC.binds1 (ps := ["self", "row"]) 1 0 (by simp) rfl fun T kV doc pm an cdv ct us its hl hi => match us, its, hl, hi with | [a], [c], _, _ => ⟨_, rfl, rfl⟩
  obtain ⟨ds1, hv1, bb1⟩ := b1
  obtain ⟨ds0, hv0, bb0⟩ := b0
  cases hv1
  have FCR := crow_ok (P := l.prog) (w := w) (mg := mg) (base := base) (fun_mk (st := inClass (topS 65) 6) lCR cCR kCR) TC
  have FCT := ctexts_ok (P := l.prog) (w := w) (mg := mg) (base := base) (fun_mk (st := inClass (topS 65) 7) lCT cCT kCT) TC
  have bCR := (fun_mk (st := inClass (topS 65) 6) lCR cCR kCR).binds (ps := ["self"]) fun _ _ _ _ _ _ us hl => match us, hl with | [_], _ => rfl
  have bCT := (fun_mk (st := inClass (topS 65) 7) lCT cCT kCT).binds (ps := ["self"]) fun _ _ _ _ _ _ us hl => match us, hl with | [_], _ => rfl
  obtain ⟨CK, rfl⟩ : ∃ CK : ClnKn l.prog w K mg base ⟨K, false⟩ 6 ce, CK.Cc = CC := ⟨⟨CC, fCI, _, TC, ⟨qCm, iCI, jCI, qCk⟩, FCI, bb1, V.ref Ed, ds0, hv0, bb0, fun F => by subst vE; exact .tup (vs := []) (.inr ⟨_, _, _, dE, rfl, rfl, by simp [sizeLine_eq], .nil⟩) .nil (fun h => by cases h), pCR, fCR, _, ⟨iCR, jCR, tCR, _, rCR⟩, FCR.mono (by omega), bCR, pCT, fCT, _, ⟨iCT, jCT, tCT, _, rCT⟩, FCT.mono (by omega), bCT⟩, rfl⟩
  have kCl := cln_ok (w := w) (P := l.prog) (base := base) M D17 TE CK EK
  have FDS : FunD K "does_same" "Row.does_same" (defArgs sDS) (defBody sDS) (defScope sDS) [] [] fDS _ := ⟨⟨_, _, _, _, _, _, _, _, _, _, rfl, lDS, cDS, .inl ⟨rfl, rfl⟩, .inl rfl⟩, kDS⟩
  have FmD := ds_ok (w := w) (P := l.prog) (base := base) FDS TE TR (kit_ne rfl qRd qRt wN) (kit_ne rfl qRd qRt wT)
  have bDS := (fun_mk (st := sDS) lDS cDS kDS).binds (ps := ["self", "other"]) fun _ _ _ _ _ _ us hl => match us, hl with | [_, _], _ => rfl
  have FLi := li_ok (w := w) (P := l.prog) (base := base) (k := 6) F18 TE TR EK (FmD.mono (by omega)) bDS ⟨iDS, jDS, kDS⟩
  have bLi := (F18).binds (ps := ["one", "other"]) fun _ _ _ _ _ _ us hl => match us, hl with | [_, _], _ => rfl
  obtain ⟨tM, rfl⟩ := vM
  refine law_okT (C := ⟨K, false⟩) (k := 20) (j := 1) (cal := cal18) (csts := []) (gal := []) M F19 sc_law cb_law cz_law ck_law (by simp) ?_ (by simp) (fun W Y g y1 y2 y3 y4 y5 _ y7 y8 => tail18 g y1 y2 y3 y4 y5 y7 y8 TE RK CK FLi (PySem.W.mg_of X G a18) k18 bLi rfl ⟨mR, mG⟩ ⟨mM, ⟨_, rfl⟩⟩) fun ns _ => law18 _ ns ⟨fun _ => rfl, fun _ => rfl, fun _ => rfl, fun _ => rfl, fun _ => rfl, fun _ => rfl, fun _ => rfl, fun _ => rfl, rfl⟩
  intro c hc
  simp only [cal18, List.mem_cons, List.not_mem_nil, or_false] at hc
  rcases hc with rfl | rfl | rfl | rfl | rfl | rfl | rfl | rfl
  · exact kRo.mono (by omega)
  · exact kSp.mono (by omega)
  · exact (kSo 4).mono (by omega)
  · exact (kLk 3).mono (by omega)
  · exact kIp.mono (by omega)
  · exact kMa.mono (by omega)
  · exact kIr.mono (by omega)
  · exact kCl.mono (by omega)
end K18
open PySem PySem.W PyProof.Rows
set_option maxHeartbeats 0 in
theorem PySem.Challenge.cw_textcleaners_k18_rows_and_cleaners_that_holds : PySem.Challenge.rw_textcleaners_k18_rows_and_cleaners_that.Holds := by
  w_on; o_law; k_head; (case hw => w_witness2)
  k_fill
  refine L2.walk_of (l := PySem.Challenge.rw_textcleaners_k18_rows_and_cleaners_that) (n := 63) (k := 21) (x := "script") (CX := fun _ => L2.CX0) (sp := fun w => PD.spLaw _) rfl (by decide) rfl ⟨rfl, by decide, by decide⟩ (fun w h Y => PySem.W.km_in_of Y) ?F (fun _ _ a ns hl _ hS => ⟨a, ns, rfl, hS, hl, fun _ => rfl⟩) (fun _ _ _ _ _ h => h)
  case F =>
    intro w mg fa h KX G hmg
    replace hmg : mg (PySem.Str.ofString "law") = some (.ref fa) := hmg
    refine' K18.all_mk KX G hmg ?a0 ?l0 ?c0 ?k0 ?a1 ?l1 ?c1 ?k1 ?a2 ?l2 ?c2 ?k2 ?a3 ?l3 ?c3 ?k3 ?a4 ?l4 ?c4 ?k4 ?a5 ?l5 ?c5 ?k5 ?a6 ?l6 ?c6 ?k6 ?a7 ?l7 ?c7 ?k7 ?a8 ?l8 ?c8 ?k8 ?a9 ?l9 ?c9 ?k9 ?a10 ?l10 ?c10 ?k10 ?a11 ?l11 ?c11 ?k11 ?a12 ?l12 ?c12 ?k12 ?a13 ?l13 ?c13 ?k13 ?a14 ?l14 ?c14 ?k14 ?a15 ?l15 ?c15 ?k15 ?a16 ?l16 ?c16 ?k16 ?a17 ?l17 ?c17 ?k17 ?a18 ?l18 ?c18 ?k18 ?a19 ?l19 ?c19 ?k19 ?zlen ?zint ?zmax ?zmin ?zlist ?ztuple ?zstr ?zall ?zany ?zrange ?zisinstance ?zbool ?zsorted ?zset ?zenumerate ?zzip ?aMOST_STEPS ?aSIGNS ?aWITH_NUMBER ?bWITH_NUMBER ?aWITH_SET ?bWITH_SET ?aWITH_WORD ?bWITH_WORD ?gn ?gt ?xaC ?xa0 ?xg0 ?xk0 ?xs0 ?xd0 ?xc0 ?xm0 ?xp0 ?xq0 ?xt0 ?xe0 ?xa1 ?xg1 ?xk1 ?xs1 ?xd1 ?xc1 ?xm1 ?xp1 ?xq1 ?xt1 ?xe1 ?xa2 ?xg2 ?xk2 ?xs2 ?xd2 ?xc2 ?xm2 ?xp2 ?xq2 ?xt2 ?xe2 ?xa3 ?xg3 ?xk3 ?xs3 ?xd3 ?xc3 ?xm3 ?xp3 ?xq3 ?xt3 ?xe3 ?xa4 ?xg4 ?xk4 ?xs4 ?xd4 ?xc4 ?xm4 ?xp4 ?xq4 ?xt4 ?xe4 ?y01 ?n01 ?y02 ?n02 ?y03 ?n03 ?y04 ?n04 ?y10 ?n10 ?y12 ?n12 ?y13 ?n13 ?y14 ?n14 ?y20 ?n20 ?y21 ?n21 ?y23 ?n23 ?y24 ?n24 ?y30 ?n30 ?y31 ?n31 ?y32 ?n32 ?y34 ?n34 ?y40 ?n40 ?y41 ?n41 ?y42 ?n42 ?y43 ?n43 ?xsC ?xdC ?xtC ?qRa ?qRg ?qRd ?qRo ?qRs ?qRm ?qRk ?qRt ?qR_held ?iRI ?jRI ?lRI ?cRI ?kRI ?iRS ?jRS ?tRS ?rRS ?lRS ?cRS ?kRS ?iDS ?jDS ?lDS ?cDS ?kDS ?wN ?wT ?qCa ?qCg ?qCd ?qCo ?qCs ?qCm ?qCk ?qCt ?qC_now ?qC_earlier ?iCI ?jCI ?lCI ?cCI ?kCI ?dT ?iCR ?jCR ?tCR ?rCR ?lCR ?cCR ?kCR ?iCT ?jCT ?tCT ?rCT ?lCT ?cCT ?kCT ?mR ?mG ?mM ?vMOST_STEPS ?vSIGNS ?vWITH_NUMBER ?vWITH_SET ?vWITH_WORD ?vM ?vT ?dE ?vE
    (case a0 => k_is)
    (case l0 => k_is)
    (case c0 => k_is)
    (case k0 => k_is)
    (case a1 => k_is)
    (case l1 => k_is)
    (case c1 => k_is)
    (case k1 => k_is)
    (case a2 => k_is)
    (case l2 => k_is)
    (case c2 => k_is)
    (case k2 => k_is)
    (case a3 => k_is)
    (case l3 => k_is)
    (case c3 => k_is)
    (case k3 => k_is)
    (case a4 => k_is)
    (case l4 => k_is)
    (case c4 => k_is)
    (case k4 => k_is)
    (case a5 => k_is)
    (case l5 => k_is)
    (case c5 => k_is)
    (case k5 => k_is)
    (case a6 => k_is)
    (case l6 => k_is)
    (case c6 => k_is)
    (case k6 => k_is)
    (case a7 => k_is)
    (case l7 => k_is)
    (case c7 => k_is)
    (case k7 => k_is)
    (case a8 => k_is)
    (case l8 => k_is)
    (case c8 => k_is)
    (case k8 => k_is)
    (case a9 => k_is)
    (case l9 => k_is)
    (case c9 => k_is)
    (case k9 => k_is)
    (case a10 => k_is)
    (case l10 => k_is)
    (case c10 => k_is)
    (case k10 => k_is)
    (case a11 => k_is)
    (case l11 => k_is)
    (case c11 => k_is)
    (case k11 => k_is)
    (case a12 => k_is)
    (case l12 => k_is)
    (case c12 => k_is)
    (case k12 => k_is)
    (case a13 => k_is)
    (case l13 => k_is)
    (case c13 => k_is)
    (case k13 => k_is)
    (case a14 => k_is)
    (case l14 => k_is)
    (case c14 => k_is)
    (case k14 => k_is)
    (case a15 => k_is)
    (case l15 => k_is)
    (case c15 => k_is)
    (case k15 => k_is)
    (case a16 => k_is)
    (case l16 => k_is)
    (case c16 => k_is)
    (case k16 => k_is)
    (case a17 => k_is)
    (case l17 => k_is)
    (case c17 => k_is)
    (case k17 => k_is)
    (case a18 => k_is)
    (case l18 => k_is)
    (case c18 => k_is)
    (case k18 => k_is)
    (case a19 => k_is)
    (case l19 => k_is)
    (case c19 => k_is)
    (case k19 => k_is)
    (case zlen => k_is)
    (case zint => k_is)
    (case zmax => k_is)
    (case zmin => k_is)
    (case zlist => k_is)
    (case ztuple => k_is)
    (case zstr => k_is)
    (case zall => k_is)
    (case zany => k_is)
    (case zrange => k_is)
    (case zisinstance => k_is)
    (case zbool => k_is)
    (case zsorted => k_is)
    (case zset => k_is)
    (case zenumerate => k_is)
    (case zzip => k_is)
    (case aMOST_STEPS => k_is)
    (case aSIGNS => k_is)
    (case aWITH_NUMBER => k_is)
    (case bWITH_NUMBER => k_is)
    (case aWITH_SET => k_is)
    (case bWITH_SET => k_is)
    (case aWITH_WORD => k_is)
    (case bWITH_WORD => k_is)
    (case gn => k_is)
    (case gt => k_is)
    (case xaC => k_is)
    (case xa0 => k_is)
    (case xg0 => k_is)
    (case xk0 => k_is)
    (case xs0 => k_is)
    (case xd0 => k_is)
    (case xc0 => k_is)
    (case xm0 => k_is)
    (case xp0 => k_exc)
    (case xq0 => k_is)
    (case xt0 => k_is)
    (case xe0 => k_is)
    (case xa1 => k_is)
    (case xg1 => k_is)
    (case xk1 => k_is)
    (case xs1 => k_is)
    (case xd1 => k_is)
    (case xc1 => k_is)
    (case xm1 => k_is)
    (case xp1 => k_exc)
    (case xq1 => k_is)
    (case xt1 => k_is)
    (case xe1 => k_is)
    (case xa2 => k_is)
    (case xg2 => k_is)
    (case xk2 => k_is)
    (case xs2 => k_is)
    (case xd2 => k_is)
    (case xc2 => k_is)
    (case xm2 => k_is)
    (case xp2 => k_exc)
    (case xq2 => k_is)
    (case xt2 => k_is)
    (case xe2 => k_is)
    (case xa3 => k_is)
    (case xg3 => k_is)
    (case xk3 => k_is)
    (case xs3 => k_is)
    (case xd3 => k_is)
    (case xc3 => k_is)
    (case xm3 => k_is)
    (case xp3 => k_exc)
    (case xq3 => k_is)
    (case xt3 => k_is)
    (case xe3 => k_is)
    (case xa4 => k_is)
    (case xg4 => k_is)
    (case xk4 => k_is)
    (case xs4 => k_is)
    (case xd4 => k_is)
    (case xc4 => k_is)
    (case xm4 => k_is)
    (case xp4 => k_exc)
    (case xq4 => k_is)
    (case xt4 => k_is)
    (case xe4 => k_is)
    (case y01 => k_is)
    (case n01 => rfl)
    (case y02 => k_is)
    (case n02 => rfl)
    (case y03 => k_is)
    (case n03 => rfl)
    (case y04 => k_is)
    (case n04 => rfl)
    (case y10 => k_is)
    (case n10 => rfl)
    (case y12 => k_is)
    (case n12 => rfl)
    (case y13 => k_is)
    (case n13 => rfl)
    (case y14 => k_is)
    (case n14 => rfl)
    (case y20 => k_is)
    (case n20 => rfl)
    (case y21 => k_is)
    (case n21 => rfl)
    (case y23 => k_is)
    (case n23 => rfl)
    (case y24 => k_is)
    (case n24 => rfl)
    (case y30 => k_is)
    (case n30 => rfl)
    (case y31 => k_is)
    (case n31 => rfl)
    (case y32 => k_is)
    (case n32 => rfl)
    (case y34 => k_is)
    (case n34 => rfl)
    (case y40 => k_is)
    (case n40 => rfl)
    (case y41 => k_is)
    (case n41 => rfl)
    (case y42 => k_is)
    (case n42 => rfl)
    (case y43 => k_is)
    (case n43 => rfl)
    (case xsC => k_is)
    (case xdC => k_is)
    (case xtC => k_is)
    (case qRa => k_is)
    (case qRg => k_is)
    (case qRd => k_is)
    (case qRo => k_is)
    (case qRs => k_is)
    (case qRm => k_is)
    (case qRk => k_is)
    (case qRt => k_is)
    (case qR_held => k_is)
    (case iRI => k_is)
    (case jRI => k_is)
    (case lRI => k_is)
    (case cRI => k_is)
    (case kRI => k_is)
    (case iRS => k_is)
    (case jRS => k_is)
    (case tRS => k_is)
    (case rRS => k_is)
    (case lRS => k_is)
    (case cRS => k_is)
    (case kRS => k_is)
    (case iDS => k_is)
    (case jDS => k_is)
    (case lDS => k_is)
    (case cDS => k_is)
    (case kDS => k_is)
    (case wN => k_is)
    (case wT => k_is)
    (case qCa => k_is)
    (case qCg => k_is)
    (case qCd => k_is)
    (case qCo => k_is)
    (case qCs => k_is)
    (case qCm => k_is)
    (case qCk => k_is)
    (case qCt => k_is)
    (case qC_now => k_is)
    (case qC_earlier => k_is)
    (case iCI => k_is)
    (case jCI => k_is)
    (case lCI => k_is)
    (case cCI => k_is)
    (case kCI => k_is)
    (case dT => k_is)
    (case iCR => k_is)
    (case jCR => k_is)
    (case tCR => k_is)
    (case rCR => k_is)
    (case lCR => k_is)
    (case cCR => k_is)
    (case kCR => k_is)
    (case iCT => k_is)
    (case jCT => k_is)
    (case tCT => k_is)
    (case rCT => k_is)
    (case lCT => k_is)
    (case cCT => k_is)
    (case kCT => k_is)
    (case mR => k_is)
    (case mG => k_is)
    (case mM => k_is)
    (case vMOST_STEPS => exact ⟨_, rfl⟩)
    (case vSIGNS => exact ⟨_, rfl⟩)
    (case vWITH_NUMBER => exact ⟨_, _, rfl⟩)
    (case vWITH_SET => exact ⟨_, _, _, rfl⟩)
    (case vWITH_WORD => exact ⟨_, _, _, _, rfl⟩)
    (case vM => exact ⟨_, rfl⟩)
    (case vT => exact ⟨rfl, rfl⟩)
    (case dE => k_is)
    (case vE => rfl)
