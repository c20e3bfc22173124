import PyProof.Rows.All
import Wide.All
import OpenK.AllK
import Wide.FinOn
import HandS.ForMost
import HandS.Flow
import HandS.Star
import HandS.TupAny
import HandS.TupMul
import HandS.StrMore
import HandS.StrSplit
import HandS.IsInst
import HandS.Wide
import HandS.WideBits
import HandS.Style
import HandS.Codes
import HandS.Set
import HandS.ReplaceList
import HandS.Replace
import KE.DataEq
import HandS.GenList
import KE.GoesEnum
import KE.GoesZip
import KE.GoesMore
import PyProof.AutoListH
import HandS.SetTxt0
import HandS.SetFor
import HandS.TupSets
import KE.SortData
import HandS.FStr
import HandS.ReplaceLit
import HandS.ReplaceDef
import PySem.Challenge.RW_textcleaners_k14_whole_texts_of_rows
set_option Elab.async false
set_option linter.all false
set_option maxRecDepth 100000
/-! Plain data over the hand layer: what a value holds (D), where it lies (R), how heaps grow (Ext), the tape (TW, TS), a frame's slots (Rel). -/
namespace PD
open PySem L2

inductive D where
  | non | bl (b : Bool) | int (i : Int) | str (s : List Nat) | tup (xs : List D) | lst (xs : List D)
  deriving Inhabited

/-- a text by its code points -/
abbrev tx (s : List Nat) : Str := ⟨s.toArray⟩

mutual
def D.py : D → PyData
  | .non => .none
  | .bl b => .bool b
  | .int i => .int i
  | .str s => .str (tx s)
  | .tup xs => .tuple (pys xs)
  | .lst xs => .list (pys xs)
def pys : List D → List PyData
  | [] => []
  | x :: xs => x.py :: pys xs
end

/-- the written part; whether the pairs of signs of a map step carry what parts them as objects -/
structure Con where
  K : PySem.W.Frag
  tk : Bool
/-- m a p -/
abbrev mapW : List Nat := [109, 97, 112]
/-- a map step: the two signs differ -/
def isMap : List D → Bool
  | [.str w, .str x, .str y] => w == mapW && x != y
  | _ => false
/-- the object at a holds two signs that are two objects -/
def TokT (K : PySem.W.Frag) (F : Hp) (a : Addr) (vs : List V) : Prop :=
  ∃ (o : Obj) (w x y : Str) (n : Nat) (t0 t1 t2 : Tok), (F a = some (.frz o (.tup vs)) ∨ K.lookup a = some o) ∧ vs = [.str w, .str x, .str y] ∧ o.cls = .type "tuple" ∧ o.data = .seq #[.str w t0, .str x t1, .str y t2] n ∧ t1 ≠ 0 ∧ t2 ≠ 0 ∧ t1 ≠ t2

mutual
inductive R (C : Con) (F : Hp) : V → D → Prop
  | non : R C F .non .non
  | bl (b : Bool) : R C F (.bl b) (.bl b)
  | int (i : Int) : R C F (.int i) (.int i)
  | str (s : List Nat) : R C F (.str (tx s)) (.str s)
  | tup {a : Addr} {vs : List V} {ds : List D} : SqT C.K F a vs → RA C F vs ds → ((C.tk && isMap ds) = true → TokT C.K F a vs) → R C F (.ref a) (.tup ds)
  | lst {a : Addr} {vs : List V} {ds : List D} : F a = some (.lst vs) → RA C F vs ds → R C F (.ref a) (.lst ds)
inductive RA (C : Con) (F : Hp) : List V → List D → Prop
  | nil : RA C F [] []
  | cons {v : V} {vs : List V} {d : D} {ds : List D} : R C F v d → RA C F vs ds → RA C F (v :: vs) (d :: ds)
end

/-- all that F tells H tells -/
def Sub (F H : Hp) : Prop := ∀ a o, F a = some o → H a = some o

theorem Sub.rfl' (F : Hp) : Sub F F := fun _ _ h => h
theorem Sub.tr {F G H : Hp} (a : Sub F G) (b : Sub G H) : Sub F H := fun c o h => b c o (a c o h)
theorem Sub.none {F H : Hp} (s : Sub F H) {a : Addr} (h : H a = Option.none) : F a = Option.none := by
  cases q : F a with
  | none => rfl
  | some o => rw [s a o q] at h; cases h
theorem sqT_sub {K : PySem.W.Frag} {F G : Hp} (s : Sub F G) {a : Addr} {vs : List V} (h : SqT K F a vs) : SqT K G a vs := by
  rcases h with (h | ⟨o, h⟩) | h
  · exact .inl (.inl (s _ _ h))
  · exact .inl (.inr ⟨o, s _ _ h⟩)
  · exact .inr h
theorem tokT_sub {K : PySem.W.Frag} {F G : Hp} (s : Sub F G) {a : Addr} {vs : List V} (h : TokT K F a vs) : TokT K G a vs := by
  obtain ⟨o, w, x, y, n, t0, t1, t2, h1, r⟩ := h
  exact ⟨o, w, x, y, n, t0, t1, t2, h1.imp (s _ _) id, r⟩
section
variable {C : Con} {F G : Hp}
mutual
theorem R.sub (s : Sub F G) : ∀ {v : V} (d : D), R C F v d → R C G v d
  | _, .non, h => by cases h; exact .non
  | _, .bl b, h => by cases h; exact .bl b
  | _, .int i, h => by cases h; exact .int i
  | _, .str x, h => by cases h; exact .str x
  | _, .tup ds, h => by
    cases h with
    | tup h1 h2 h3 => exact .tup (sqT_sub s h1) (RA.sub s ds h2) fun z => tokT_sub s (h3 z)
  | _, .lst ds, h => by
    cases h with
    | lst h1 h2 => exact .lst (s _ _ h1) (RA.sub s ds h2)
theorem RA.sub (s : Sub F G) : ∀ {vs : List V} (ds : List D), RA C F vs ds → RA C G vs ds
  | _, [], h => by cases h; exact .nil
  | _, d :: ds, h => by
    cases h with
    | cons h1 h2 => exact .cons (R.sub s d h1) (RA.sub s ds h2)
end
mutual
theorem R.dp (s : Sub F G) : ∀ {v : V} (d : D), R C F v d → Dp C.K G v d.py
  | _, .non, h => by cases h; rw [D.py]; exact .non
  | _, .bl b, h => by cases h; rw [D.py]; exact .bl b
  | _, .int i, h => by cases h; rw [D.py]; exact .int i
  | _, .str x, h => by cases h; rw [D.py]; exact .str _
  | _, .tup ds, h => by
    rw [D.py]
    cases h with
    | tup h1 h2 _ => exact .tup (sqT_sub s h1) (RA.dp s ds h2)
  | _, .lst ds, h => by
    rw [D.py]
    cases h with
    | lst h1 h2 => exact .lst (.inl (.inl (s _ _ h1))) (RA.dp s ds h2)
theorem RA.dp (s : Sub F G) : ∀ {vs : List V} (ds : List D), RA C F vs ds → DpAll C.K G vs (pys ds)
  | _, [], h => by cases h; rw [pys]; exact .nil
  | _, d :: ds, h => by
    rw [pys]
    cases h with
    | cons h1 h2 => exact .cons (R.dp s d h1) (RA.dp s ds h2)
end
theorem RA.len : ∀ {vs : List V} {ds : List D}, RA C F vs ds → vs.length = ds.length
  | _, [], h => by cases h; rfl
  | _, d :: ds, h => by
    cases h with
    | cons h1 h2 => rw [List.length_cons, List.length_cons, RA.len h2]
theorem RA.app : ∀ {vs ws : List V} {ds es : List D}, RA C F vs ds → RA C F ws es → RA C F (vs ++ ws) (ds ++ es)
  | _, _, [], _, h, k => by cases h; exact k
  | _, _, d :: ds, _, h, k => by
    cases h with
    | cons h1 h2 => exact .cons h1 (RA.app h2 k)
theorem RA.get : ∀ {vs : List V} {ds : List D} {i : Nat} {d : D}, RA C F vs ds → ds[i]? = some d → ∃ v, vs[i]? = some v ∧ R C F v d
  | _, [], _, _, _, e => by simp at e
  | _, _ :: _, 0, _, h, e => by
    cases h with
    | cons h1 h2 => simp at e; subst e; exact ⟨_, rfl, h1⟩
  | _, _ :: ds, i + 1, d, h, e => by
    cases h with
    | cons h1 h2 =>
      obtain ⟨v, e1, r⟩ := RA.get (i := i) (d := d) h2 (by simpa using e)
      exact ⟨v, by simpa using e1, r⟩
theorem RA.take : ∀ {vs : List V} {ds : List D} (n : Nat), RA C F vs ds → RA C F (vs.take n) (ds.take n)
  | _, _, 0, _ => by simp only [List.take_zero]; exact .nil
  | _, [], n + 1, h => by cases h; simp only [List.take_nil]; exact .nil
  | _, d :: ds, n + 1, h => by
    cases h with
    | cons h1 h2 => simp only [List.take_succ_cons]; exact .cons h1 (RA.take n h2)
theorem RA.drop : ∀ {vs : List V} {ds : List D} (n : Nat), RA C F vs ds → RA C F (vs.drop n) (ds.drop n)
  | _, _, 0, h => by simpa only [List.drop_zero] using h
  | _, [], n + 1, h => by cases h; simp only [List.drop_nil]; exact .nil
  | _, d :: ds, n + 1, h => by
    cases h with
    | cons h1 h2 => simp only [List.drop_succ_cons]; exact RA.drop n h2
theorem RA.rev : ∀ {vs : List V} {ds : List D}, RA C F vs ds → RA C F vs.reverse ds.reverse
  | _, [], h => by cases h; exact .nil
  | _, d :: ds, h => by
    cases h with
    | cons h1 h2 => simp only [List.reverse_cons]; exact RA.app (RA.rev h2) (.cons h1 .nil)
theorem RA.snoc {vs : List V} {ds : List D} {v : V} {d : D} (h : RA C F vs ds) (k : R C F v d) : RA C F (vs ++ [v]) (ds ++ [d]) := RA.app h (.cons k .nil)
theorem RA.ints : ∀ {vs : List V} (ns : List Int), RA C F vs (ns.map D.int) → vs = ns.map V.int
  | _, [], h => by cases h; rfl
  | _, n :: ns, h => by
    cases h with
    | cons h1 h2 => cases h1; simp only [List.map_cons]; rw [RA.ints ns h2]
theorem RA.of_ints : ∀ (ns : List Int), RA C F (ns.map V.int) (ns.map D.int)
  | [] => .nil
  | n :: ns => .cons (.int n) (RA.of_ints ns)
theorem RA.strs : ∀ {vs : List V} (ss : List (List Nat)), RA C F vs (ss.map D.str) → vs = (ss.map tx).map V.str
  | _, [], h => by cases h; rfl
  | _, n :: ns, h => by
    cases h with
    | cons h1 h2 => cases h1; simp only [List.map_cons]; rw [RA.strs ns h2]
theorem RA.of_strs : ∀ (ss : List (List Nat)), RA C F ((ss.map tx).map V.str) (ss.map D.str)
  | [] => .nil
  | n :: ns => .cons (.str n) (RA.of_strs ns)
end

/-- the heap has grown: what is frozen stays frozen, all else but the tape stays as it was and unfrozen -/
structure Ext (tp : Addr) (F H F' H' : Hp) : Prop where
  ff : Sub F F'
  fh : Sub F' H'
  hh : ∀ a o, H a = some o → F a = none → a ≠ tp → H' a = some o ∧ F' a = none
theorem Ext.rfl' {tp : Addr} {F H : Hp} (s : Sub F H) : Ext tp F H F H := ⟨Sub.rfl' F, s, fun _ _ h n _ => ⟨h, n⟩⟩
theorem Ext.tr {tp : Addr} {F H F1 H1 F2 H2 : Hp} (a : Ext tp F H F1 H1) (b : Ext tp F1 H1 F2 H2) : Ext tp F H F2 H2 :=
  ⟨a.ff.tr b.ff, b.fh, fun c o h n ht => by
    obtain ⟨h1, n1⟩ := a.hh c o h n ht
    exact b.hh c o h1 n1 ht⟩
/-- .. and the tape too -/
structure ExtP (F H F' H' : Hp) : Prop where
  ff : Sub F F'
  fh : Sub F' H'
  hh : ∀ a o, H a = some o → F a = none → H' a = some o ∧ F' a = none
theorem ExtP.ext {tp : Addr} {F H F' H' : Hp} (x : ExtP F H F' H') : Ext tp F H F' H' := ⟨x.ff, x.fh, fun a o h n _ => x.hh a o h n⟩
theorem ExtP.rfl' {F H : Hp} (s : Sub F H) : ExtP F H F H := ⟨Sub.rfl' F, s, fun _ _ h n => ⟨h, n⟩⟩
theorem ExtP.tr {F H F1 H1 F2 H2 : Hp} (a : ExtP F H F1 H1) (b : ExtP F1 H1 F2 H2) : ExtP F H F2 H2 :=
  ⟨a.ff.tr b.ff, b.fh, fun c o h n => by
    obtain ⟨h1, n1⟩ := a.hh c o h n
    exact b.hh c o h1 n1⟩
theorem ExtP.new {F H : Hp} (s : Sub F H) {p : Addr} (o : HO) (hp : H p = none) : ExtP F H (upd F p o) (upd H p o) := by
  refine ⟨fun a u e => ?_, fun a u e => ?_, fun a u e n => ?_⟩
  · rw [upd_ne (fun q => by rw [q, s.none hp] at e; cases e)]; exact e
  · by_cases q : a = p
    · subst q; rw [upd_same] at e ⊢; exact e
    · rw [upd_ne q] at e ⊢; exact s a u e
  · have q : a ≠ p := fun q => by rw [q, hp] at e; cases e
    rw [upd_ne q, upd_ne q]; exact ⟨e, n⟩
/-- a new object that is forgotten -/
theorem ExtP.raw {F H : Hp} (s : Sub F H) {p : Addr} (o : HO) (hp : H p = none) : ExtP F H F (upd H p o) := by
  refine ⟨Sub.rfl' F, fun a u e => ?_, fun a u e n => ?_⟩
  · rw [upd_ne (fun q => by rw [q, s.none hp] at e; cases e)]; exact s a u e
  · have q : a ≠ p := fun q => by rw [q, hp] at e; cases e
    rw [upd_ne q]; exact ⟨e, n⟩
/-- a new frozen object -/
theorem Ext.new {tp : Addr} {F H : Hp} (s : Sub F H) {p : Addr} (o : HO) (hp : H p = none) : Ext tp F H (upd F p o) (upd H p o) := by
  refine ⟨fun a u e => ?_, fun a u e => ?_, fun a u e n ht => ?_⟩
  · rw [upd_ne (fun q => by rw [q, s.none hp] at e; cases e)]; exact e
  · by_cases q : a = p
    · subst q; rw [upd_same] at e ⊢; exact e
    · rw [upd_ne q] at e ⊢; exact s a u e
  · have q : a ≠ p := fun q => by rw [q, hp] at e; cases e
    rw [upd_ne q, upd_ne q]; exact ⟨e, n⟩
/-- a new object that is not frozen -/
theorem Ext.raw {tp : Addr} {F H : Hp} (s : Sub F H) {p : Addr} (o : HO) (hp : H p = none) : Ext tp F H F (upd H p o) := by
  refine ⟨Sub.rfl' F, fun a u e => ?_, fun a u e n ht => ?_⟩
  · rw [upd_ne (fun q => by rw [q, s.none hp] at e; cases e)]; exact s a u e
  · have q : a ≠ p := fun q => by rw [q, hp] at e; cases e
    rw [upd_ne q]; exact ⟨e, n⟩
/-- .. is changed -/
theorem Ext.write {tp : Addr} {F H F' H' : Hp} (x : Ext tp F H F' H') {p : Addr} (o : HO) (hp : H p = none) (np : F' p = none) : Ext tp F H F' (upd H' p o) := by
  refine ⟨x.ff, fun a u e => ?_, fun a u e n ht => ?_⟩
  · rw [upd_ne (fun q => by rw [q, np] at e; cases e)]; exact x.fh a u e
  · have q : a ≠ p := fun q => by rw [q, hp] at e; cases e
    rw [upd_ne q]; exact x.hh a u e n ht
/-- .. is frozen -/
theorem Ext.freeze {tp : Addr} {F H F' H' : Hp} (x : Ext tp F H F' H') {p : Addr} {o : HO} (hp : H p = none) (np : F' p = none) (e : H' p = some o) : Ext tp F H (upd F' p o) H' := by
  refine ⟨fun a u q => ?_, fun a u q => ?_, fun a u q n ht => ?_⟩
  · rw [upd_ne (fun z => by rw [z] at q; rw [x.ff _ _ q] at np; cases np)]; exact x.ff a u q
  · by_cases z : a = p
    · subst z; rw [upd_same] at q; rw [e]; exact q
    · rw [upd_ne z] at q; exact x.fh a u q
  · have z : a ≠ p := fun z => by rw [z, hp] at q; cases q
    rw [upd_ne z]; exact x.hh a u q n ht
theorem sub_upd {F : Hp} {p : Addr} {o : HO} (np : F p = none) : Sub F (upd F p o) := fun a u e => by
  rw [upd_ne (fun z => by rw [z, np] at e; cases e)]; exact e

/-- the tape: the list at tp of the cells' list (at L, of ns), a place, what is left -/
structure TW where
  tp : Addr
  L : Addr
  ns : List Int
/-- the tape's place and what is left -/
structure TS where
  pos : Int
  cur : Int
structure TapeAt (W : TW) (F H : Hp) (τ : TS) : Prop where
  out : F W.tp = none
  at_ : H W.tp = some (.lst [.ref W.L, .int τ.1, .int τ.2])
  cells : F W.L = some (.lst (W.ns.map V.int))
theorem TapeAt.extP {W : TW} {F H F' H' : Hp} {τ : TS} (t : TapeAt W F H τ) (x : ExtP F H F' H') : TapeAt W F' H' τ := by
  obtain ⟨a, b, c⟩ := t
  obtain ⟨b', a'⟩ := x.hh _ _ b a
  exact ⟨a', b', x.ff _ _ c⟩
theorem TapeAt.ne {W : TW} {F H : Hp} {τ : TS} (t : TapeAt W F H τ) : W.L ≠ W.tp := fun e => by
  have := t.out
  rw [← e, t.cells] at this; cases this

/-- what a slot of the frame holds -/
inductive Slot where
  | un | d (x : D) | tape | ol (xs : List D)
  deriving Inhabited
abbrev Env' := List Slot
/-- a list of the frame's own, at a -/
structure OwnL (C : Con) (W : TW) (H0 F H : Hp) (a : Addr) (xs : List D) : Prop where
  at_ : ∃ vs, H a = some (.lst vs) ∧ RA C F vs xs
  out : F a = none
  ntp : a ≠ W.tp
  new : H0 a = none
def SlotR (C : Con) (W : TW) (H0 F H : Hp) (v : Option V) : Slot → Prop
  | .un => True
  | .d x => ∃ u, v = some u ∧ R C F u x
  | .tape => v = some (.ref W.tp)
  | .ol xs => ∃ a, v = some (.ref a) ∧ OwnL C W H0 F H a xs
def Slot.own : Slot → Bool
  | .ol _ => true
  | _ => false
/-- the frame σ in the heap H holds ρ, the tape τ; entered at F0, H0 -/
structure Rel (C : Con) (W : TW) (F0 H0 F H : Hp) (σ : St) (ρ : Env') (τ : TS) : Prop where
  len : σ.length = ρ.length
  base : Ext W.tp F0 H0 F H
  slot : ∀ (i : Nat) (s : Slot) (v : Option V), ρ[i]? = some s → σ[i]? = some v → SlotR C W H0 F H v s
  apart : ∀ (i j : Nat) (s t : Slot) (a : Addr), ρ[i]? = some s → ρ[j]? = some t → s.own = true → t.own = true → σ[i]? = some (some (.ref a)) → σ[j]? = some (some (.ref a)) → i = j
  tape : TapeAt W F H τ
section
variable {C : Con} {W : TW} {F0 H0 F H F' H' : Hp} {σ : St} {ρ : Env'} {τ τ' : TS}
theorem Rel.sub (r : Rel C W F0 H0 F H σ ρ τ) : Sub F H := r.base.fh
theorem OwnL.ext {a : Addr} {xs : List D} (o : OwnL C W H0 F H a xs) (x : Ext W.tp F H F' H') : OwnL C W H0 F' H' a xs := by
  obtain ⟨⟨vs, e, r⟩, no, nt, nw⟩ := o
  obtain ⟨h1, n1⟩ := x.hh a _ e no nt
  exact ⟨⟨vs, h1, RA.sub x.ff xs r⟩, n1, nt, nw⟩
theorem SlotR.ext {v : Option V} : ∀ {s : Slot}, SlotR C W H0 F H v s → Ext W.tp F H F' H' → SlotR C W H0 F' H' v s
  | .un, _, _ => trivial
  | .d x, ⟨u, e, r⟩, k => ⟨u, e, R.sub k.ff x r⟩
  | .tape, h, _ => h
  | .ol xs, ⟨a, e, o⟩, k => ⟨a, e, o.ext k⟩
theorem Rel.ext (r : Rel C W F0 H0 F H σ ρ τ) (x : Ext W.tp F H F' H') (t : TapeAt W F' H' τ') : Rel C W F0 H0 F' H' σ ρ τ' :=
  ⟨r.len, r.base.tr x, fun i s v h1 h2 => (r.slot i s v h1 h2).ext x, r.apart, t⟩
theorem Rel.extP (r : Rel C W F0 H0 F H σ ρ τ) (x : ExtP F H F' H') : Rel C W F0 H0 F' H' σ ρ τ := r.ext x.ext (r.tape.extP x)
theorem TapeAt.new (t : TapeAt W F H τ) (s : Sub F H) {p : Addr} (o : HO) (hp : H p = none) : TapeAt W (upd F p o) (upd H p o) τ := by
  obtain ⟨a, b, c⟩ := t
  have n1 : W.tp ≠ p := fun e => by rw [e, hp] at b; cases b
  have n2 : W.L ≠ p := fun e => by rw [e, s.none hp] at c; cases c
  exact ⟨by rw [upd_ne n1]; exact a, by rw [upd_ne n1]; exact b, by rw [upd_ne n2]; exact c⟩
theorem TapeAt.raw (t : TapeAt W F H τ) {p : Addr} (o : HO) (hp : H p = none) : TapeAt W F (upd H p o) τ := by
  obtain ⟨a, b, c⟩ := t
  have n1 : W.tp ≠ p := fun e => by rw [e, hp] at b; cases b
  exact ⟨a, by rw [upd_ne n1]; exact b, c⟩
theorem TapeAt.write (t : TapeAt W F H τ) {p : Addr} (o : HO) (hp : p ≠ W.tp) : TapeAt W F (upd H p o) τ := by
  obtain ⟨a, b, c⟩ := t
  exact ⟨a, by rw [upd_ne hp.symm]; exact b, c⟩
theorem TapeAt.freeze (t : TapeAt W F H τ) {p : Addr} (o : HO) (hp : p ≠ W.tp) (np : F p = none) : TapeAt W (upd F p o) H τ := by
  obtain ⟨a, b, c⟩ := t
  have n2 : W.L ≠ p := fun e => by rw [e, np] at c; cases c
  exact ⟨by rw [upd_ne hp.symm]; exact a, b, by rw [upd_ne n2]; exact c⟩
theorem Rel.new (r : Rel C W F0 H0 F H σ ρ τ) {p : Addr} (o : HO) (hp : H p = none) : Rel C W F0 H0 (upd F p o) (upd H p o) σ ρ τ :=
  r.ext (Ext.new r.sub o hp) (r.tape.new r.sub o hp)
theorem Rel.get (r : Rel C W F0 H0 F H σ ρ τ) {i : Nat} {s : Slot} (e : ρ[i]? = some s) : ∃ v, σ[i]? = some v ∧ SlotR C W H0 F H v s := by
  have hi : i < ρ.length := (List.getElem?_eq_some_iff.mp e).1
  have hs : i < σ.length := by rw [r.len]; exact hi
  exact ⟨σ[i], List.getElem?_eq_getElem hs, r.slot i s _ e (List.getElem?_eq_getElem hs)⟩
/-- a slot takes a value that is no list of the frame's own -/
theorem Rel.set (r : Rel C W F0 H0 F H σ ρ τ) (i : Nat) (v : Option V) (s : Slot) (h : SlotR C W H0 F H v s) (hs : s.own = false) : Rel C W F0 H0 F H (σ.set i v) (ρ.set i s) τ := by
  refine ⟨by rw [List.length_set, List.length_set, r.len], r.base, fun j t u e1 e2 => ?_, fun j k s1 s2 a e1 e2 o1 o2 e3 e4 => ?_, r.tape⟩
  · by_cases q : i = j
    · subst q
      have l1 : i < ρ.length := by have := (List.getElem?_eq_some_iff.mp e1).1; rwa [List.length_set] at this
      have l2 : i < σ.length := by rw [r.len]; exact l1
      rw [List.getElem?_set_self l1] at e1
      rw [List.getElem?_set_self l2] at e2
      cases e1; cases e2; exact h
    · rw [List.getElem?_set_ne q] at e1 e2
      exact r.slot j t u e1 e2
  · have f : ∀ {j : Nat} {s1 : Slot}, (ρ.set i s)[j]? = some s1 → s1.own = true → i ≠ j := fun {j s1} e o q => by
      subst q
      have l1 : i < ρ.length := by have := (List.getElem?_eq_some_iff.mp e).1; rwa [List.length_set] at this
      rw [List.getElem?_set_self l1] at e
      cases e; rw [hs] at o; cases o
    have q1 := f e1 o1
    have q2 := f e2 o2
    rw [List.getElem?_set_ne q1] at e1 e3
    rw [List.getElem?_set_ne q2] at e2 e4
    exact r.apart j k s1 s2 a e1 e2 o1 o2 e3 e4
theorem Rel.setD (r : Rel C W F0 H0 F H σ ρ τ) (i : Nat) {v : V} {x : D} (h : R C F v x) : Rel C W F0 H0 F H (σ.set i (some v)) (ρ.set i (.d x)) τ :=
  r.set i (some v) (.d x) ⟨v, rfl, h⟩ rfl
/-- a slot takes a new list -/
theorem Rel.setO (r : Rel C W F0 H0 F H σ ρ τ) (i : Nat) {p : Addr} {vs : List V} {xs : List D} (hp : H p = none) (h : RA C F vs xs) : Rel C W F0 H0 F (upd H p (.lst vs)) (σ.set i (some (.ref p))) (ρ.set i (.ol xs)) τ := by
  have r2 : Rel C W F0 H0 F (upd H p (.lst vs)) σ ρ τ := r.ext (Ext.raw r.sub _ hp) (r.tape.raw _ hp)
  have ntp : p ≠ W.tp := fun e => by rw [e, r.tape.at_] at hp; cases hp
  have nh0 : H0 p = none := by
    cases q : H0 p with
    | none => rfl
    | some o =>
      cases z : F0 p with
      | none => rw [(r.base.hh p o q z ntp).1] at hp; cases hp
      | some u => rw [r.sub _ _ (r.base.ff _ _ z)] at hp; cases hp
  have nF : F p = none := r.sub.none hp
  have nown : ∀ (j : Nat) (t : Slot), ρ[j]? = some t → t.own = true → σ[j]? ≠ some (some (.ref p)) := fun j t e o q => by
    have := r.slot j t _ e q
    cases t with
    | ol ys =>
      obtain ⟨a, e1, ow⟩ := this
      cases e1
      obtain ⟨⟨ws, e2, _⟩, _⟩ := ow
      rw [hp] at e2; cases e2
    | un => cases o
    | d x => cases o
    | tape => cases o
  refine ⟨by rw [List.length_set, List.length_set, r.len], r2.base, fun j t u e1 e2 => ?_, fun j k s1 s2 a e1 e2 o1 o2 e3 e4 => ?_, r2.tape⟩
  · by_cases q : i = j
    · subst q
      have l1 : i < ρ.length := by have := (List.getElem?_eq_some_iff.mp e1).1; rwa [List.length_set] at this
      have l2 : i < σ.length := by rw [r.len]; exact l1
      rw [List.getElem?_set_self l1] at e1
      rw [List.getElem?_set_self l2] at e2
      cases e1; cases e2
      exact ⟨p, rfl, ⟨⟨vs, upd_same, h⟩, nF, ntp, nh0⟩⟩
    · rw [List.getElem?_set_ne q] at e1 e2
      exact r2.slot j t u e1 e2
  · by_cases q1 : i = j
    · by_cases q2 : i = k
      · exact q1.symm.trans q2
      · subst q1
        rw [List.getElem?_set_ne q2] at e2 e4
        have l2 : i < σ.length := by have := (List.getElem?_eq_some_iff.mp e3).1; rwa [List.length_set] at this
        rw [List.getElem?_set_self l2] at e3
        cases e3
        exact absurd e4 (nown k s2 e2 o2)
    · rw [List.getElem?_set_ne q1] at e1 e3
      by_cases q2 : i = k
      · subst q2
        have l2 : i < σ.length := by have := (List.getElem?_eq_some_iff.mp e4).1; rwa [List.length_set] at this
        rw [List.getElem?_set_self l2] at e4
        cases e4
        exact absurd e3 (nown j s1 e1 o1)
      · rw [List.getElem?_set_ne q2] at e2 e4
        exact r.apart j k s1 s2 a e1 e2 o1 o2 e3 e4
/-- a list of the frame's own is changed -/
theorem Rel.writeO (r : Rel C W F0 H0 F H σ ρ τ) {i : Nat} {a : Addr} {xs ys : List D} {vs : List V} (e : ρ[i]? = some (.ol xs)) (ea : σ[i]? = some (some (.ref a))) (h : RA C F vs ys) : Rel C W F0 H0 F (upd H a (.lst vs)) σ (ρ.set i (.ol ys)) τ := by
  obtain ⟨v, ev, sl⟩ := r.get e
  rw [ea] at ev; cases ev
  obtain ⟨a', e', ow⟩ := sl
  cases e'
  obtain ⟨⟨ws, hw, _⟩, nF, ntp, nw⟩ := ow
  have l1 : i < ρ.length := (List.getElem?_eq_some_iff.mp e).1
  refine ⟨by rw [List.length_set, r.len], r.base.write _ nw nF, fun j t u e1 e2 => ?_, fun j k s1 s2 b e1 e2 o1 o2 e3 e4 => ?_, r.tape.write _ ntp⟩
  · by_cases q : i = j
    · subst q
      rw [List.getElem?_set_self l1] at e1
      rw [ea] at e2
      cases e1; cases e2
      exact ⟨a, rfl, ⟨⟨vs, upd_same, h⟩, nF, ntp, nw⟩⟩
    · rw [List.getElem?_set_ne q] at e1
      have := r.slot j t u e1 e2
      cases t with
      | un => trivial
      | d x => exact this
      | tape => exact this
      | ol zs =>
        obtain ⟨b, eb, ⟨⟨us, hu, hr⟩, n1, n2, n3⟩⟩ := this
        have nb : b ≠ a := fun z => by
          subst z; subst eb
          exact q (r.apart i j _ _ b e e1 rfl rfl ea e2)
        exact ⟨b, eb, ⟨⟨us, by rw [upd_ne nb]; exact hu, hr⟩, n1, n2, n3⟩⟩
  · have f : ∀ {j : Nat} {s1 : Slot}, (ρ.set i (.ol ys))[j]? = some s1 → s1.own = true → ∃ s2, ρ[j]? = some s2 ∧ s2.own = true := fun {j s1} e' o => by
      by_cases q : i = j
      · subst q; exact ⟨_, e, rfl⟩
      · rw [List.getElem?_set_ne q] at e'; exact ⟨_, e', o⟩
    obtain ⟨t1, f1, p1⟩ := f e1 o1
    obtain ⟨t2, f2, p2⟩ := f e2 o2
    exact r.apart j k t1 t2 b f1 f2 p1 p2 e3 e4
/-- a list of the frame's own is changed no more -/
theorem Rel.freeze (r : Rel C W F0 H0 F H σ ρ τ) {i : Nat} {xs : List D} (e : ρ[i]? = some (.ol xs)) : ∃ F', Sub F F' ∧ Rel C W F0 H0 F' H σ (ρ.set i (.d (.lst xs))) τ := by
  obtain ⟨v, ev, a, e', ow⟩ := r.get e
  subst e'
  obtain ⟨⟨ws, hw, hr⟩, nF, ntp, nw⟩ := ow
  have l1 : i < ρ.length := (List.getElem?_eq_some_iff.mp e).1
  have sb : Sub F (upd F a (.lst ws)) := sub_upd nF
  refine ⟨upd F a (.lst ws), sb, ⟨by rw [List.length_set, r.len], r.base.freeze nw nF hw, fun j t u e1 e2 => ?_, fun j k s1 s2 b e1 e2 o1 o2 e3 e4 => ?_, r.tape.freeze _ ntp nF⟩⟩
  · by_cases q : i = j
    · subst q
      rw [List.getElem?_set_self l1] at e1
      rw [ev] at e2
      cases e1; cases e2
      exact ⟨_, rfl, .lst upd_same (RA.sub sb xs hr)⟩
    · rw [List.getElem?_set_ne q] at e1
      have := r.slot j t u e1 e2
      cases t with
      | un => trivial
      | d x => obtain ⟨w, e3, h3⟩ := this; exact ⟨w, e3, R.sub sb x h3⟩
      | tape => exact this
      | ol zs =>
        obtain ⟨b, eb, ⟨⟨us, hu, hr⟩, n1, n2, n3⟩⟩ := this
        have nb : b ≠ a := fun z => by
          subst z; subst eb
          exact q (r.apart i j _ _ b e e1 rfl rfl ev e2)
        exact ⟨b, eb, ⟨⟨us, hu, RA.sub sb zs hr⟩, by rw [upd_ne nb]; exact n1, n2, n3⟩⟩
  · have f : ∀ {j : Nat} {s1 : Slot}, (ρ.set i (.d (.lst xs)))[j]? = some s1 → s1.own = true → ρ[j]? = some s1 := fun {j s1} e' o => by
      by_cases q : i = j
      · subst q
        rw [List.getElem?_set_self l1] at e'
        cases e'; cases o
      · rw [List.getElem?_set_ne q] at e'; exact e'
    exact r.apart j k s1 s2 b (f e1 o1) (f e2 o2) o1 o2 e3 e4
end
end PD

set_option Elab.async false
set_option linter.all false
set_option maxRecDepth 100000
/-! Operations on plain data by values: what an operator, a subscript, a slice, a built-in makes of D. -/
namespace PD
open PySem L2

/-! ### equality -/
mutual
def eqv : D → D → Bool
  | .non, .non => true
  | .bl a, .bl b => a == b
  | .bl a, .int j => (if a then 1 else 0) == j
  | .int i, .bl b => i == (if b then 1 else 0)
  | .int i, .int j => i == j
  | .str x, .str y => x == y
  | .tup xs, .tup ys => eqvs xs ys
  | .lst xs, .lst ys => eqvs xs ys
  | _, _ => false
def eqvs : List D → List D → Bool
  | [], [] => true
  | x :: xs, y :: ys => eqv x y && eqvs xs ys
  | _, _ => false
end
mutual
def dep : D → Nat
  | .tup xs => deps xs + 1
  | .lst xs => deps xs + 1
  | _ => 0
def deps : List D → Nat
  | [] => 0
  | x :: xs => max (dep x) (deps xs)
end
theorem tx_beq (x y : List Nat) : (tx x == tx y) = (x == y) := by
  rw [Bool.eq_iff_iff, beq_iff_eq, beq_iff_eq]
  constructor
  · intro h
    have := congrArg (fun s : Str => s.cps.toList) h
    simpa using this
  · intro h; rw [h]
mutual
theorem eqv_py : ∀ a b : D, PyData.eqv a.py b.py = eqv a b
  | .non, .non => by simp only [D.py, PyData.eqv, eqv]
  | .non, .bl _ => by simp only [D.py, PyData.eqv, eqv]
  | .non, .int _ => by simp only [D.py, PyData.eqv, eqv]
  | .non, .str _ => by simp only [D.py, PyData.eqv, eqv]
  | .non, .tup _ => by simp only [D.py, PyData.eqv, eqv]
  | .non, .lst _ => by simp only [D.py, PyData.eqv, eqv]
  | .bl _, .non => by simp only [D.py, PyData.eqv, eqv]
  | .bl _, .bl _ => by simp only [D.py, PyData.eqv, eqv]
  | .bl _, .int _ => by simp only [D.py, PyData.eqv, eqv]
  | .bl _, .str _ => by simp only [D.py, PyData.eqv, eqv]
  | .bl _, .tup _ => by simp only [D.py, PyData.eqv, eqv]
  | .bl _, .lst _ => by simp only [D.py, PyData.eqv, eqv]
  | .int _, .non => by simp only [D.py, PyData.eqv, eqv]
  | .int _, .bl _ => by simp only [D.py, PyData.eqv, eqv]
  | .int _, .int _ => by simp only [D.py, PyData.eqv, eqv]
  | .int _, .str _ => by simp only [D.py, PyData.eqv, eqv]
  | .int _, .tup _ => by simp only [D.py, PyData.eqv, eqv]
  | .int _, .lst _ => by simp only [D.py, PyData.eqv, eqv]
  | .str _, .non => by simp only [D.py, PyData.eqv, eqv]
  | .str _, .bl _ => by simp only [D.py, PyData.eqv, eqv]
  | .str _, .int _ => by simp only [D.py, PyData.eqv, eqv]
  | .str x, .str y => by simp only [D.py, PyData.eqv, eqv]; exact tx_beq x y
  | .str _, .tup _ => by simp only [D.py, PyData.eqv, eqv]
  | .str _, .lst _ => by simp only [D.py, PyData.eqv, eqv]
  | .tup _, .non => by simp only [D.py, PyData.eqv, eqv]
  | .tup _, .bl _ => by simp only [D.py, PyData.eqv, eqv]
  | .tup _, .int _ => by simp only [D.py, PyData.eqv, eqv]
  | .tup _, .str _ => by simp only [D.py, PyData.eqv, eqv]
  | .tup xs, .tup ys => by simp only [D.py, PyData.eqv, eqv]; exact eqvs_py xs ys
  | .tup _, .lst _ => by simp only [D.py, PyData.eqv, eqv]
  | .lst _, .non => by simp only [D.py, PyData.eqv, eqv]
  | .lst _, .bl _ => by simp only [D.py, PyData.eqv, eqv]
  | .lst _, .int _ => by simp only [D.py, PyData.eqv, eqv]
  | .lst _, .str _ => by simp only [D.py, PyData.eqv, eqv]
  | .lst _, .tup _ => by simp only [D.py, PyData.eqv, eqv]
  | .lst xs, .lst ys => by simp only [D.py, PyData.eqv, eqv]; exact eqvs_py xs ys
theorem eqvs_py : ∀ xs ys : List D, PyData.eqvAll (pys xs) (pys ys) = eqvs xs ys
  | [], [] => by simp only [pys, PyData.eqvAll, eqvs]
  | [], _ :: _ => by simp only [pys, PyData.eqvAll, eqvs]
  | _ :: _, [] => by simp only [pys, PyData.eqvAll, eqvs]
  | x :: xs, y :: ys => by
    simp only [pys, PyData.eqvAll, eqvs]
    rw [eqv_py x y, eqvs_py xs ys]
end
mutual
theorem py_plain : ∀ d : D, d.py.plain = true
  | .non => by simp only [D.py, PyData.plain]
  | .bl _ => by simp only [D.py, PyData.plain]
  | .int _ => by simp only [D.py, PyData.plain]
  | .str _ => by simp only [D.py, PyData.plain]
  | .tup xs => by simp only [D.py, PyData.plain]; exact pys_plain xs
  | .lst xs => by simp only [D.py, PyData.plain]; exact pys_plain xs
theorem pys_plain : ∀ ds : List D, PyData.plainAll (pys ds) = true
  | [] => by simp only [pys, PyData.plainAll]
  | d :: ds => by simp only [pys, PyData.plainAll, py_plain d, pys_plain ds, Bool.and_self]
end
mutual
theorem py_depth : ∀ d : D, d.py.depth = dep d
  | .non => by simp only [D.py, PyData.depth, dep]
  | .bl _ => by simp only [D.py, PyData.depth, dep]
  | .int _ => by simp only [D.py, PyData.depth, dep]
  | .str _ => by simp only [D.py, PyData.depth, dep]
  | .tup xs => by simp only [D.py, PyData.depth, dep]; rw [pys_depth xs]
  | .lst xs => by simp only [D.py, PyData.depth, dep]; rw [pys_depth xs]
theorem pys_depth : ∀ ds : List D, PyData.depthAll (pys ds) = deps ds
  | [] => by simp only [pys, PyData.depthAll, deps]
  | d :: ds => by simp only [pys, PyData.depthAll, deps]; rw [py_depth d, pys_depth ds]
end

/-! ### readings by values -/
abbrev G1 := D → Option D
abbrev G2 := D → D → Option D
abbrev GN := List D → Option D
/-- what must hold: the operands hold data of which g makes some; behind it whatever holds that -/
def fin (C : Con) (F H : Hp) (d : D) (Q : VK) : Prop := ∀ v F' H', ExtP F H F' H' → R C F' v d → Q v H'
def rD1 (C : Con) (g : G1) : V → Hp → VK → Prop := fun x H Q => ∃ F a d, Sub F H ∧ R C F x a ∧ g a = some d ∧ fin C F H d Q
def rD2 (C : Con) (g : G2) : R2 := fun x y H Q => ∃ F a b d, Sub F H ∧ R C F x a ∧ R C F y b ∧ g a b = some d ∧ fin C F H d Q
def rDN (C : Con) (g : GN) : List V → Hp → VK → Prop := fun xs H Q => ∃ F ds d, Sub F H ∧ RA C F xs ds ∧ g ds = some d ∧ fin C F H d Q
/-- a method: the receiver, the arguments -/
def rDM (C : Con) (g : D → List D → Option D) : V → List V → Hp → VK → Prop := fun x xs H Q => ∃ F a ds d, Sub F H ∧ R C F x a ∧ RA C F xs ds ∧ g a ds = some d ∧ fin C F H d Q
theorem fin.here {C : Con} {F H : Hp} {d : D} {Q : VK} (h : fin C F H d Q) (s : Sub F H) {v : V} (r : R C F v d) : Q v H := h v F H (ExtP.rfl' s) r
theorem fin.new {C : Con} {F H : Hp} {d : D} {Q : VK} (h : fin C F H d Q) (s : Sub F H) {p : Addr} {o : HO} (hp : H p = none) {v : V} (r : R C (upd F p o) v d) : Q v (upd H p o) := h v _ _ (ExtP.new s o hp) r

/-- a tuple may be made of these -/
def okT (tk : Bool) (ds : List D) : Bool := decide (ds.length ≤ sizeLine) && !(tk && isMap ds)
theorem okT.len {tk : Bool} {ds : List D} (h : okT tk ds = true) : ds.length ≤ sizeLine := by
  unfold okT at h
  exact of_decide_eq_true ((Bool.and_eq_true _ _).mp h).1
theorem okT.map {tk : Bool} {ds : List D} (h : okT tk ds = true) : (tk && isMap ds) = false := by
  unfold okT at h
  exact (Bool.not_eq_true' _).mp ((Bool.and_eq_true _ _).mp h).2
theorem R.newT {C : Con} {F H : Hp} (s : Sub F H) {p : Addr} (hp : H p = none) {vs : List V} {ds : List D} (r : RA C F vs ds) (h : (C.tk && isMap ds) = false) : R C (upd F p (.tup vs)) (.ref p) (.tup ds) :=
  .tup (.inl (.inl upd_same)) (RA.sub (sub_upd (s.none hp)) ds r) (fun z => by rw [h] at z; cases z)
theorem R.newL {C : Con} {F H : Hp} (s : Sub F H) {p : Addr} (hp : H p = none) {vs : List V} {ds : List D} (r : RA C F vs ds) : R C (upd F p (.lst vs)) (.ref p) (.lst ds) :=
  .lst upd_same (RA.sub (sub_upd (s.none hp)) ds r)

section
variable {X : Cx} {C : Con}
/-! ### + -/
def addD (tk : Bool) : G2
  | .int i, .int j => some (.int (i + j))
  | .str a, .str b => if a.length + b.length ≤ sizeLine then some (.str (a ++ b)) else none
  | .tup a, .tup b => if okT tk (a ++ b) = true then some (.tup (a ++ b)) else none
  | .lst a, .lst b => if a.length + b.length ≤ sizeLine then some (.lst (a ++ b)) else none
  | _, _ => none
theorem tx_app (a b : List Nat) : tx a ++ tx b = tx (a ++ b) := TL.ext_tl (by rw [TL.tl_append])
theorem tx_len (a : List Nat) : (tx a).length = a.length := TL.len_tl _
theorem add_D (hK : C.K = X.K) : OpR X (binaryOp .Add) (rD2 C (addD C.tk)) := by
  intro pins s σ H x y v u Q I rx ry h
  obtain ⟨F, a, b, d, sb, ra, rb, hg, k⟩ := h
  cases ra with
  | int i =>
    cases rb with
    | int j =>
      obtain rfl := Option.some.inj hg
      exact op_add pins s σ H _ _ v u Q I rx ry ⟨i, j, rfl, rfl, k.here sb (.int _)⟩
    | _ => cases hg
  | str a =>
    cases rb with
    | str b =>
      simp only [addD] at hg
      split at hg
      · rename_i hl
        obtain rfl := Option.some.inj hg
        exact op_add_str pins s σ H _ _ v u Q I rx ry ⟨tx a, tx b, rfl, rfl, by rw [tx_len, tx_len]; exact hl, by rw [tx_app]; exact k.here sb (.str _)⟩
      · cases hg
    | _ => cases hg
  | @tup p vs ds h1 h2 h3 =>
    cases rb with
    | @tup q ws es k1 k2 k3 =>
      simp only [addD] at hg
      split at hg
      · rename_i hl
        obtain rfl := Option.some.inj hg
        have hlen := okT.len hl
        rw [List.length_append, ← h2.len, ← k2.len] at hlen
        refine op_catA pins s σ H _ _ v u Q I rx ry ⟨p, q, vs, ws, rfl, rfl, by rw [← hK]; exact sqT_sub sb h1, by rw [← hK]; exact sqT_sub sb k1, hlen, fun e => ?_, fun _ e => ?_, fun _ _ r hr => ?_⟩
        · subst e; cases h2
          rw [List.nil_append] at k
          exact k.here sb (.tup k1 k2 k3)
        · subst e; cases k2
          rw [List.append_nil] at k
          exact k.here sb (.tup h1 h2 h3)
        · exact k.new sb hr (R.newT sb hr (h2.app k2) (okT.map hl))
      · cases hg
    | _ => cases hg
  | @lst p vs ds h1 h2 =>
    cases rb with
    | @lst q ws es k1 k2 =>
      simp only [addD] at hg
      split at hg
      · rename_i hl
        obtain rfl := Option.some.inj hg
        rw [← h2.len, ← k2.len] at hl
        exact op_cat pins s σ H _ _ v u Q I rx ry ⟨p, q, vs, ws, rfl, rfl, sb _ _ h1, sb _ _ k1, hl, fun r hr => k.new sb hr (R.newL sb hr (h2.app k2))⟩
      · cases hg
    | _ => cases hg
  | _ => cases hg
/-! ### ints -/
def subD : G2
  | .int i, .int j => some (.int (i - j))
  | _, _ => none
theorem sub_D : OpR X (binaryOp .Sub) (rD2 C subD) := by
  intro pins s σ H x y v u Q I rx ry h
  obtain ⟨F, a, b, d, sb, ra, rb, hg, k⟩ := h
  cases ra with
  | int i =>
    cases rb with
    | int j =>
      obtain rfl := Option.some.inj hg
      exact op_sub pins s σ H _ _ v u Q I rx ry ⟨i, j, rfl, rfl, k.here sb (.int _)⟩
    | _ => cases hg
  | _ => cases hg
def modD : G2
  | .int i, .int j => if 0 < j then some (.int (i % j)) else none
  | _, _ => none
theorem mod_D : OpR X (binaryOp .Mod) (rD2 C modD) := by
  intro pins s σ H x y v u Q I rx ry h
  obtain ⟨F, a, b, d, sb, ra, rb, hg, k⟩ := h
  cases ra with
  | int i =>
    cases rb with
    | int j =>
      simp only [modD] at hg
      split at hg
      · rename_i hl
        obtain rfl := Option.some.inj hg
        exact op_mod pins s σ H _ _ v u Q I rx ry ⟨i, j, rfl, rfl, hl, k.here sb (.int _)⟩
      · cases hg
    | _ => cases hg
  | _ => cases hg
def fdivD : G2
  | .int i, .int j => if 0 < j ∧ j.natAbs.log2 < 9000 then some (.int (i / j)) else none
  | _, _ => none
theorem fdiv_D : OpR X (binaryOp .FloorDiv) (rD2 C fdivD) := by
  intro pins s σ H x y v u Q I rx ry h
  obtain ⟨F, a, b, d, sb, ra, rb, hg, k⟩ := h
  cases ra with
  | int i =>
    cases rb with
    | int j =>
      simp only [fdivD] at hg
      split at hg
      · rename_i hl
        obtain rfl := Option.some.inj hg
        exact op_fdivW pins s σ H _ _ v u Q I rx ry ⟨i, j, rfl, rfl, hl, k.here sb (.int _)⟩
      · cases hg
    | _ => cases hg
  | _ => cases hg
def powD : G2
  | .int i, .int j => if 0 ≤ j ∧ j ≤ 1000000 ∧ i.natAbs < 2 ^ 64 then some (.int (i ^ j.toNat)) else none
  | _, _ => none
theorem pow_D : OpR X (binaryOp .Pow) (rD2 C powD) := by
  intro pins s σ H x y v u Q I rx ry h
  obtain ⟨F, a, b, d, sb, ra, rb, hg, k⟩ := h
  cases ra with
  | int i =>
    cases rb with
    | int j =>
      simp only [powD] at hg
      split at hg
      · rename_i hl
        obtain rfl := Option.some.inj hg
        exact op_pow pins s σ H _ _ v u Q I rx ry ⟨i, j, rfl, rfl, hl, k.here sb (.int _)⟩
      · cases hg
    | _ => cases hg
  | _ => cases hg
/-- ints; a text some times; a tuple some times -/
def mulD (tk : Bool) : G2
  | .int i, .int j => if (-(2 ^ 64) < i ∧ i < 2 ^ 64) ∨ (-(2 ^ 64) < j ∧ j < 2 ^ 64) then some (.int (i * j)) else none
  | .str a, .int n => if 0 ≤ n ∧ n ≤ 1000 ∧ a.length ≤ 1000 then some (.str (List.replicate n.toNat a).flatten) else none
  | .tup a, .int n => if a ≠ [] ∧ 2 ≤ n ∧ n ≤ 1000 ∧ a.length ≤ 1000 ∧ okT tk (List.replicate n.toNat a).flatten = true then some (.tup (List.replicate n.toNat a).flatten) else none
  | .lst a, .int n => if 0 ≤ n ∧ n ≤ 1000 ∧ a.length ≤ 1000 then some (.lst (List.replicate n.toNat a).flatten) else none
  | _, _ => none
theorem foldl_arr (a : Array Nat) : ∀ (n : Nat) (acc : Array Nat), ((List.replicate n a).foldl (· ++ ·) acc).toList = acc.toList ++ (List.replicate n a.toList).flatten
  | 0, acc => by simp
  | n + 1, acc => by
    rw [List.replicate_succ, List.foldl_cons, foldl_arr a n, List.replicate_succ, List.flatten_cons, Array.toList_append, List.append_assoc]
theorem flat_len {α : Type} (a : List α) : ∀ n : Nat, (List.replicate n a).flatten.length = n * a.length
  | 0 => by simp
  | n + 1 => by rw [List.replicate_succ, List.flatten_cons, List.length_append, flat_len a n, Nat.succ_mul]; omega
theorem mul_str_ok {n : Int} {a : List Nat} (h0 : 0 ≤ n) (h1 : n ≤ 1000) (h2 : a.length ≤ 1000) : OpR X (binaryOp .Mult) (fun x y H Q => x = .str (tx a) ∧ y = .int n ∧ Q (.str (tx (List.replicate n.toNat a).flatten)) H) := by
  intro pins s σ H x y v u Q I rx ry h
  obtain ⟨rfl, rfl, q⟩ := h
  obtain ⟨t, rfl⟩ := rx
  obtain ⟨t', rfl⟩ := ry
  have e1 : ∀ m : Nat, a.length * m ≤ 1000 * m := fun m => Nat.mul_le_mul_right _ h2
  have hm := e1 n.toNat
  have hn : n.toNat ≤ 1000 := by omega
  have hs : (tx a).length * n.toNat ≤ 1000000 := by rw [tx_len]; omega
  refine P.mul_str (by rw [decide_eq_false (by omega), decide_eq_false (by omega)]; rfl) (fun hn1 _ => ?_) (fun _ _ => by unfold Builtin.Str.tooLong; exact decide_eq_false (by rw [sizeLine_eq]; omega)) ?_
  · rw [tx_len]
    have : (1000 : Int) ≤ (2 ^ 63 - 1) / n := by
      rw [Int.le_ediv_iff_mul_le (by omega)]
      omega
    omega
  · have fl : (tx (List.replicate n.toNat a).flatten) = ⟨(List.replicate n.toNat (tx a).cps).foldl (· ++ ·) #[]⟩ := TL.ext_tl (by
      show (List.replicate n.toNat a).flatten.toArray.toList = _
      rw [show TL.tl ⟨(List.replicate n.toNat (tx a).cps).foldl (· ++ ·) #[]⟩ = ((List.replicate n.toNat (tx a).cps).foldl (· ++ ·) #[]).toList from rfl, foldl_arr]
      simp)
    split
    · rename_i hlt
      have z : n = 0 := by omega
      subst z
      exact ⟨by decide, ⟨.str (tx []), H, I.tok _, ⟨_, rfl⟩, q⟩⟩
    · split
      · rename_i hor
        have e : tx (List.replicate n.toNat a).flatten = tx a := by
          rcases (Bool.or_eq_true _ _).mp hor with z | z
          · have z' : n = 1 := by simpa using z
            subst z'
            simp
          · have z' : a.length = 0 := by rw [tx_len] at z; simpa using z
            have z2 : a = [] := List.eq_nil_of_length_eq_zero z'
            subst z2
            simp
        rw [e] at q
        exact ⟨.str (tx a), H, I, ⟨t, rfl⟩, q⟩
      · refine ⟨?_, ?_⟩
        · rw [← fl, tx_len, flat_len, sizeLine_eq]
          have e3 : n.toNat * a.length = a.length * n.toNat := Nat.mul_comm _ _
          omega
        · exact ⟨.str (tx (List.replicate n.toNat a).flatten), H, I.tok _, ⟨s.toks, by rw [fl]⟩, q⟩
theorem RA.rep {F : Hp} {vs : List V} {ds : List D} (r : RA C F vs ds) : ∀ n : Nat, RA C F (List.replicate n vs).flatten (List.replicate n ds).flatten
  | 0 => by simp; exact .nil
  | n + 1 => by
    rw [List.replicate_succ, List.flatten_cons, List.replicate_succ, List.flatten_cons]
    exact r.app (RA.rep r n)
theorem mul_D (hK : C.K = X.K) : OpR X (binaryOp .Mult) (rD2 C (mulD C.tk)) := by
  intro pins s σ H x y v u Q I rx ry h
  obtain ⟨F, a, b, d, sb, ra, rb, hg, k⟩ := h
  cases ra with
  | int i =>
    cases rb with
    | int j =>
      simp only [mulD] at hg
      split at hg
      · rename_i hl
        obtain rfl := Option.some.inj hg
        exact op_mul pins s σ H _ _ v u Q I rx ry ⟨i, j, rfl, rfl, hl, k.here sb (.int _)⟩
      · cases hg
    | _ => cases hg
  | str a =>
    cases rb with
    | int n =>
      simp only [mulD] at hg
      split at hg
      · rename_i hl
        obtain rfl := Option.some.inj hg
        exact mul_str_ok hl.1 hl.2.1 hl.2.2 pins s σ H _ _ v u Q I rx ry ⟨rfl, rfl, k.here sb (.str _)⟩
      · cases hg
    | _ => cases hg
  | @tup p vs ds h1 h2 h3 =>
    cases rb with
    | int n =>
      simp only [mulD] at hg
      split at hg
      · rename_i hl
        obtain rfl := Option.some.inj hg
        obtain ⟨l1, l2, l3, l4, l5⟩ := hl
        refine op_repT pins s σ H _ _ v u Q I rx ry ⟨p, n, vs, rfl, rfl, by rw [← hK]; exact sqT_sub sb h1, fun e => ?_, l2, l3, by rw [h2.len]; exact l4, fun r hr => ?_⟩
        · subst e; cases h2; exact l1 rfl
        · exact k.new sb hr (R.newT sb hr (RA.rep h2 _) (okT.map l5))
      · cases hg
    | _ => cases hg
  | @lst p vs ds h1 h2 =>
    cases rb with
    | int n =>
      simp only [mulD] at hg
      split at hg
      · rename_i hl
        obtain rfl := Option.some.inj hg
        obtain ⟨l1, l2, l3⟩ := hl
        have hz : vs.length * n.toNat ≤ sizeLine := by
          have e := h2.len
          have : vs.length * n.toNat ≤ 1000 * 1000 := Nat.mul_le_mul (by omega) (by omega)
          rw [sizeLine_eq]
          omega
        refine op_rep pins s σ H _ _ v u Q I rx ry ⟨p, n, vs, rfl, rfl, sb _ _ h1, by omega, by omega, hz, fun r hr => ?_⟩
        exact k.new sb hr (R.newL sb hr (RA.rep h2 _))
      · cases hg
    | _ => cases hg
  | _ => cases hg
def negD : G1
  | .int i => some (.int (-i))
  | _ => none
theorem neg_D : UnR X (unaryOp .USub) (rD1 C negD) := by
  intro pins s σ H x v Q I rx h
  obtain ⟨F, a, d, sb, ra, hg, k⟩ := h
  cases ra with
  | int i =>
    obtain rfl := Option.some.inj hg
    exact un_neg pins s σ H _ v Q I rx ⟨i, rfl, k.here sb (.int _)⟩
  | _ => cases hg

/-! ### comparisons -/
def eqD : G2 := fun a b => if min (dep a) (dep b) ≤ 60 then some (.bl (eqv a b)) else none
def neD : G2 := fun a b => if min (dep a) (dep b) ≤ 60 then some (.bl (!eqv a b)) else none
theorem eq_D (hK : C.K = X.K) (hu : X.A.units + 64 < cLine) : OpR X (compareOp .Eq) (rD2 C eqD) := by
  intro pins s σ H x y v u Q I rx ry h
  obtain ⟨F, a, b, d, sb, ra, rb, hg, k⟩ := h
  simp only [eqD] at hg
  split at hg
  · rename_i hl
    obtain rfl := Option.some.inj hg
    obtain ⟨as, r1⟩ := Dp.reads I a.py x v (by rw [← hK]; exact ra.dp sb) rx
    obtain ⟨bs, r2⟩ := Dp.reads I b.py y u (by rw [← hK]; exact rb.dp sb) ry
    refine SeqAt.eq_plain r1 r2 (py_plain a) (py_plain b) (by rw [py_depth, py_depth]; omega) ?_
    rw [eqv_py]
    exact ⟨.bl _, H, I, rfl, k.here sb (.bl _)⟩
  · cases hg
theorem ne_D (hK : C.K = X.K) (hu : X.A.units + 64 < cLine) : OpR X (compareOp .NotEq) (rD2 C neD) := by
  intro pins s σ H x y v u Q I rx ry h
  obtain ⟨F, a, b, d, sb, ra, rb, hg, k⟩ := h
  simp only [neD] at hg
  split at hg
  · rename_i hl
    obtain rfl := Option.some.inj hg
    obtain ⟨as, r1⟩ := Dp.reads I a.py x v (by rw [← hK]; exact ra.dp sb) rx
    obtain ⟨bs, r2⟩ := Dp.reads I b.py y u (by rw [← hK]; exact rb.dp sb) ry
    refine SeqAt.ne_plain r1 r2 (py_plain a) (py_plain b) (by rw [py_depth, py_depth]; omega) ?_
    rw [eqv_py]
    exact ⟨.bl _, H, I, rfl, k.here sb (.bl _)⟩
  · cases hg
/-- < <= > >= of ints, of texts -/
def ordD (p : Int → Int → Bool) (q : List Nat → List Nat → Bool) : G2
  | .int i, .int j => some (.bl (p i j))
  | .str a, .str b => some (.bl (q a b))
  | _, _ => none
theorem ord_D {op : CmpOp} {p : Int → Int → Bool} {q : List Nat → List Nat → Bool} (h1 : OpR X (compareOp op) (rI0 fun i j => .bl (p i j)))
    (h2 : OpR X (compareOp op) (fun x y H Q => ∃ i j, x = .str i ∧ y = .str j ∧ Q (.bl (q i.cps.toList j.cps.toList)) H)) : OpR X (compareOp op) (rD2 C (ordD p q)) := by
  intro pins s σ H x y v u Q I rx ry h
  obtain ⟨F, a, b, d, sb, ra, rb, hg, k⟩ := h
  cases ra with
  | int i =>
    cases rb with
    | int j =>
      obtain rfl := Option.some.inj hg
      exact h1 pins s σ H _ _ v u Q I rx ry ⟨i, j, rfl, rfl, k.here sb (.bl _)⟩
    | _ => cases hg
  | str a =>
    cases rb with
    | str b =>
      obtain rfl := Option.some.inj hg
      exact h2 pins s σ H _ _ v u Q I rx ry ⟨tx a, tx b, rfl, rfl, k.here sb (.bl _)⟩
    | _ => cases hg
  | _ => cases hg
abbrev ltD : G2 := ordD (fun i j => decide (i < j)) fun a b => decide (a < b)
abbrev leD : G2 := ordD (fun i j => decide (i ≤ j)) fun a b => !decide (b < a)
abbrev gtD : G2 := ordD (fun i j => decide (j < i)) fun a b => decide (b < a)
abbrev geD : G2 := ordD (fun i j => decide (j ≤ i)) fun a b => !decide (a < b)
theorem lt_D : OpR X (compareOp .Lt) (rD2 C ltD) := ord_D op_lt op_lt_str
theorem le_D : OpR X (compareOp .LtE) (rD2 C leD) := ord_D op_le op_le_str
theorem gt_D : OpR X (compareOp .Gt) (rD2 C gtD) := ord_D op_gt op_gt_str
theorem ge_D : OpR X (compareOp .GtE) (rD2 C geD) := ord_D op_ge op_ge_str
/-- in: a sign in a text, a value among the items -/
def inB (x y : D) : Option Bool :=
  match y with
  | .str z => (match x with
    | .str [c] => some (decide (c ∈ z))
    | _ => none)
  | .tup ys => if min (deps ys) (dep x) ≤ 60 then some (ys.any fun y => eqv y x) else none
  | .lst ys => if min (deps ys) (dep x) ≤ 60 then some (ys.any fun y => eqv y x) else none
  | _ => none
def inD (neg : Bool) : G2 := fun x y => (inB x y).map fun b => .bl (if neg then !b else b)
theorem any_py (x : D) : ∀ ys : List D, ((pys ys).any fun y => PyData.eqv y x.py) = ys.any fun y => eqv y x
  | [] => by rw [pys]; rfl
  | y :: ys => by rw [pys, List.any_cons, List.any_cons, eqv_py, any_py x ys]
theorem in_D (hK : C.K = X.K) (hu : X.A.units + 64 < cLine) : OpR X (compareOp .In) (rD2 C (inD false)) := by
  intro pins s σ H x y v u Q I rx ry h
  obtain ⟨F, a, b, d, sb, ra, rb, hg, k⟩ := h
  have hr1 := Dp.reads I a.py x v (by rw [← hK]; exact ra.dp sb) rx
  have hr2 := Dp.reads I b.py y u (by rw [← hK]; exact rb.dp sb) ry
  obtain ⟨as, r1⟩ := hr1
  obtain ⟨bs, r2⟩ := hr2
  simp only [inD, Option.map_eq_some_iff] at hg
  obtain ⟨c, hc, rfl⟩ := hg
  simp only [Bool.false_eq_true, if_false] at k
  cases rb with
  | str z =>
    cases ra with
    | str w =>
      match w, hc with
      | [e], hc =>
        simp only [inB] at hc
        obtain rfl := Option.some.inj hc
        exact op_in_sign pins s σ H _ _ v u Q I rx ry ⟨e, tx z, rfl, rfl, k.here sb (.bl _)⟩
      | [], hc => simp [inB] at hc
      | _ :: _ :: _, hc => simp [inB] at hc
    | _ => simp [inB] at hc
  | @tup p vs ds h1 h2 h3 =>
    have hc' : (if min (deps ds) (dep a) ≤ 60 then some (ds.any fun y => eqv y a) else none) = some c := by
      exact hc
    split at hc'
    · rename_i hl
      obtain rfl := Option.some.inj hc'
      rw [D.py] at r2
      refine SeqAt.in_tuple_data r2 r1 (pys_plain ds) (py_plain a) (by rw [pys_depth, py_depth]; omega) ?_
      rw [any_py]
      exact ⟨.bl _, H, I, rfl, k.here sb (.bl _)⟩
    · cases hc'
  | @lst p vs ds h1 h2 =>
    have hc' : (if min (deps ds) (dep a) ≤ 60 then some (ds.any fun y => eqv y a) else none) = some c := by
      exact hc
    split at hc'
    · rename_i hl
      obtain rfl := Option.some.inj hc'
      rw [D.py] at r2
      refine SeqAt.in_list_data r2 r1 (pys_plain ds) (py_plain a) (by rw [pys_depth, py_depth]; omega) ?_
      rw [any_py]
      exact ⟨.bl _, H, I, rfl, k.here sb (.bl _)⟩
    · cases hc'
  | _ => cases ra <;> simp [inB] at hc
theorem notIn_D (hK : C.K = X.K) (hu : X.A.units + 64 < cLine) : OpR X (compareOp .NotIn) (rD2 C (inD true)) := by
  intro pins s σ H x y v u Q I rx ry h
  obtain ⟨F, a, b, d, sb, ra, rb, hg, k⟩ := h
  have hr1 := Dp.reads I a.py x v (by rw [← hK]; exact ra.dp sb) rx
  have hr2 := Dp.reads I b.py y u (by rw [← hK]; exact rb.dp sb) ry
  obtain ⟨as, r1⟩ := hr1
  obtain ⟨bs, r2⟩ := hr2
  simp only [inD, Option.map_eq_some_iff] at hg
  obtain ⟨c, hc, rfl⟩ := hg
  simp only [if_true] at k
  cases rb with
  | str z =>
    cases ra with
    | str w =>
      match w, hc with
      | [e], hc =>
        simp only [inB] at hc
        obtain rfl := Option.some.inj hc
        exact op_notIn_sign pins s σ H _ _ v u Q I rx ry ⟨e, tx z, rfl, rfl, k.here sb (.bl _)⟩
      | [], hc => simp [inB] at hc
      | _ :: _ :: _, hc => simp [inB] at hc
    | _ => simp [inB] at hc
  | @tup p vs ds h1 h2 h3 =>
    have hc' : (if min (deps ds) (dep a) ≤ 60 then some (ds.any fun y => eqv y a) else none) = some c := by
      exact hc
    split at hc'
    · rename_i hl
      obtain rfl := Option.some.inj hc'
      rw [D.py] at r2
      refine SeqAt.notIn_tuple_data r2 r1 (pys_plain ds) (py_plain a) (by rw [pys_depth, py_depth]; omega) ?_
      rw [any_py]
      exact ⟨.bl _, H, I, rfl, k.here sb (.bl _)⟩
    · cases hc'
  | @lst p vs ds h1 h2 =>
    have hc' : (if min (deps ds) (dep a) ≤ 60 then some (ds.any fun y => eqv y a) else none) = some c := by
      exact hc
    split at hc'
    · rename_i hl
      obtain rfl := Option.some.inj hc'
      rw [D.py] at r2
      refine SeqAt.notIn_list_data r2 r1 (pys_plain ds) (py_plain a) (by rw [pys_depth, py_depth]; omega) ?_
      rw [any_py]
      exact ⟨.bl _, H, I, rfl, k.here sb (.bl _)⟩
    · cases hc'
  | _ => cases ra <;> simp [inB] at hc

/-! ### subscripts, slices -/
theorem RA.at {F : Hp} {vs : List V} {ds : List D} {i : Int} {d : D} (r : RA C F vs ds) (h : atI ds i = some d) : ∃ v, atI vs i = some v ∧ R C F v d := by
  unfold atI at h ⊢
  rw [r.len]
  cases e : ixN ds.length i with
  | none => rw [e] at h; cases h
  | some j =>
    rw [e] at h
    obtain ⟨v, h1, h2⟩ := r.get (show ds[j]? = some d from h)
    exact ⟨v, h1, h2⟩
def ixD : G2
  | .str s, .int i => if s.length ≤ sizeLine then (atI s i).map fun c => .str [c] else none
  | .tup ds, .int i => atI ds i
  | .lst ds, .int i => atI ds i
  | _, _ => none
theorem ix_D (hK : C.K = X.K) : IxR X (rD2 C ixD) := by
  intro value slice pins s σ H x y v u Q I rx ry h hs
  obtain ⟨F, a, b, d, sb, ra, rb, hg, k⟩ := h
  cases ra with
  | str z =>
    cases rb with
    | int i =>
      simp only [ixD] at hg
      split at hg
      · rename_i hl
        simp only [Option.map_eq_some_iff] at hg
        obtain ⟨c, hc, rfl⟩ := hg
        exact ix_str value slice pins s σ H _ _ v u Q I rx ry ⟨tx z, i, c, rfl, rfl, by rw [tx_len]; exact hl, hc, k.here sb (.str [c])⟩ hs
      · cases hg
    | _ => cases hg
  | @tup p vs ds h1 h2 h3 =>
    cases rb with
    | int i =>
      obtain ⟨w, e, r⟩ := h2.at (show atI ds i = some d from hg)
      exact ix_tup value slice pins s σ H _ _ v u Q I rx ry ⟨p, vs, i, w, rfl, rfl, by rw [← hK]; exact sqT_sub sb h1, e, k.here sb r⟩ hs
    | _ => cases hg
  | @lst p vs ds h1 h2 =>
    cases rb with
    | int i =>
      obtain ⟨w, e, r⟩ := h2.at (show atI ds i = some d from hg)
      exact ix_list value slice pins s σ H _ _ v u Q I rx ry ⟨p, vs, i, w, rfl, rfl, .inl (.inl (sb _ _ h1)), e, k.here sb r⟩ hs
    | _ => cases hg
  | _ => cases hg
def cutL {α : Type} (xs : List α) (lo hi : Option Int) : List α := (xs.drop (HT.sIx xs.length 0 lo)).take (HT.sIx xs.length xs.length hi - HT.sIx xs.length 0 lo)
theorem RA.cut {F : Hp} {vs : List V} {ds : List D} (r : RA C F vs ds) (lo hi : Option Int) : RA C F (cutV vs lo hi) (cutL ds lo hi) := by
  unfold cutV cutL
  rw [r.len]
  exact (r.drop _).take _
def slD (tk : Bool) (lo hi : Option Int) : G1
  | .str s => if s.length ≤ sizeLine then some (.str (cutL s lo hi)) else none
  | .tup ds => if okT tk (cutL ds lo hi) = true then some (.tup (cutL ds lo hi)) else none
  | .lst ds => some (.lst (cutL ds lo hi))
  | _ => none
def rDS (C : Con) : V → Option Int → Option Int → Hp → VK → Prop := fun x lo hi H Q => ∃ F a d, Sub F H ∧ R C F x a ∧ slD C.tk lo hi a = some d ∧ fin C F H d Q
theorem cut_all {α : Type} {xs : List α} {lo hi : Option Int} (h : HT.sIx xs.length 0 lo = 0 ∧ HT.sIx xs.length xs.length hi = xs.length) : cutL xs lo hi = xs := by
  unfold cutL
  rw [h.1, h.2, List.drop_zero, Nat.sub_zero, List.take_length]
theorem sl_D (hK : C.K = X.K) : SlR X (rDS C) := by
  intro pins s σ H x v vl vu lo hi sl Q I rx hs pl pu h
  obtain ⟨F, a, d, sb, ra, hg, k⟩ := h
  cases ra with
  | str z =>
    simp only [slD] at hg
    split at hg
    · rename_i hl
      obtain rfl := Option.some.inj hg
      refine sl_str pins s σ H _ v vl vu lo hi sl Q I rx hs pl pu ⟨tx z, rfl, by rw [tx_len]; exact hl, ?_⟩
      have e : cutS (tx z) lo hi = tx (cutL z lo hi) := by
        unfold cutS cutL
        rw [tx_len]
      rw [e]
      exact k.here sb (.str _)
    · cases hg
  | @tup p vs ds h1 h2 h3 =>
    simp only [slD] at hg
    split at hg
    · rename_i hl
      obtain rfl := Option.some.inj hg
      refine sl_tupA pins s σ H _ v vl vu lo hi sl Q I rx hs pl pu ⟨p, vs, rfl, by rw [← hK]; exact sqT_sub sb h1, fun e => ?_, fun _ r hr => ?_⟩
      · rw [h2.len] at e
        rw [cut_all e] at k
        exact k.here sb (.tup h1 h2 h3)
      · exact k.new sb hr (R.newT sb hr (h2.cut lo hi) (okT.map hl))
    · cases hg
  | @lst p vs ds h1 h2 =>
    obtain rfl := Option.some.inj hg
    exact sl_list pins s σ H _ v vl vu lo hi sl Q I rx hs pl pu ⟨p, vs, rfl, .inl (.inl (sb _ _ h1)), fun r hr => k.new sb hr (R.newL sb hr (h2.cut lo hi))⟩
  | _ => cases hg
end
end PD

set_option Elab.async false
set_option linter.all false
set_option maxRecDepth 100000
/-! Built-in functions, types and methods on plain data; truth. -/
namespace PD
open PySem L2
section
variable {X : Cx} {C : Con}
/-! ### truth -/
def truD : D → Option Bool
  | .non => some false
  | .bl b => some b
  | .int i => some (i != 0)
  | .str s => if s.length ≤ sizeLine then some (!s.isEmpty) else none
  | .tup ds => some (!ds.isEmpty)
  | .lst ds => some (!ds.isEmpty)
theorem empty_len {α β : Type} {xs : List α} {ys : List β} (h : xs.length = ys.length) : xs.isEmpty = ys.isEmpty := by
  cases xs <;> cases ys <;> simp at h ⊢
theorem tru_of {F H : Hp} (s : Sub F H) {v : V} {d : D} {b : Bool} (r : R C F v d) (h : truD d = some b) : TruV C.K v H b := by
  cases r with
  | non => obtain rfl := Option.some.inj h; rfl
  | bl c => obtain rfl := Option.some.inj h; rfl
  | int i => obtain rfl := Option.some.inj h; rfl
  | str z =>
    simp only [truD] at h
    split at h
    · rename_i hl
      obtain rfl := Option.some.inj h
      refine ⟨by rw [tx_len]; exact hl, ?_⟩
      rw [tx_len]
      cases z with
      | nil => rfl
      | cons a r =>
        have : ((a :: r).length : Int) ≠ 0 := by simp only [List.length_cons]; omega
        rw [bne_iff_ne.mpr this]; rfl
    · cases h
  | @tup p vs ds h1 h2 h3 =>
    obtain rfl := Option.some.inj h
    exact .inr (.inl ⟨vs, sqT_sub s h1, by rw [empty_len h2.len]⟩)
  | @lst p vs ds h1 h2 =>
    obtain rfl := Option.some.inj h
    exact .inl ⟨vs, .inl (.inl (s _ _ h1)), by rw [empty_len h2.len]⟩

/-! ### functions and types -/
def lenD : GN
  | [.str s] => if s.length ≤ sizeLine then some (.int s.length) else none
  | [.tup ds] => some (.int ds.length)
  | [.lst ds] => some (.int ds.length)
  | _ => none
theorem RA.one {F : Hp} {vs : List V} {d : D} (r : RA C F vs [d]) : ∃ v, vs = [v] ∧ R C F v d := by
  cases r with
  | cons h1 h2 => cases h2; exact ⟨_, rfl, h1⟩
theorem RA.two {F : Hp} {vs : List V} {d e : D} (r : RA C F vs [d, e]) : ∃ v w, vs = [v, w] ∧ R C F v d ∧ R C F w e := by
  cases r with
  | cons h1 h2 =>
    obtain ⟨w, rfl, h3⟩ := h2.one
    exact ⟨_, w, rfl, h1, h3⟩
theorem len_D (hK : C.K = X.K) : CallR X (.builtin "len") (rDN C lenD) := by
  intro pins s σ H xs us Q I r h
  obtain ⟨F, ds, d, sb, ra, hg, k⟩ := h
  match ds, hg with
  | [.str z], hg =>
    obtain ⟨v, rfl, rv⟩ := ra.one
    cases rv
    simp only [lenD] at hg
    split at hg
    · rename_i hl
      obtain rfl := Option.some.inj hg
      exact call_len_str pins s σ H _ us Q I r ⟨tx z, rfl, by rw [tx_len]; exact hl, by rw [tx_len]; exact k.here sb (.int _)⟩
    · cases hg
  | [.tup ds], hg =>
    obtain ⟨v, rfl, rv⟩ := ra.one
    cases rv with
    | @tup p vs _ h1 h2 h3 =>
      obtain rfl := Option.some.inj hg
      exact call_len_seq pins s σ H _ us Q I r ⟨p, vs, rfl, .inr (by rw [← hK]; exact sqT_sub sb h1), by rw [h2.len]; exact k.here sb (.int _)⟩
  | [.lst ds], hg =>
    obtain ⟨v, rfl, rv⟩ := ra.one
    cases rv with
    | @lst p vs _ h1 h2 =>
      obtain rfl := Option.some.inj hg
      exact call_len_seq pins s σ H _ us Q I r ⟨p, vs, rfl, .inl (.inl (.inl (sb _ _ h1))), by rw [h2.len]; exact k.here sb (.int _)⟩
def intD : GN
  | [.int i] => some (.int i)
  | [.str a] => if a.length ≤ 640 then (intText? (tx a)).map .int else none
  | _ => none
theorem int_D : CallR X (.type "int") (rDN C intD) := by
  intro pins s σ H xs us Q I r h
  obtain ⟨F, ds, d, sb, ra, hg, k⟩ := h
  match ds, hg with
  | [.int i], hg =>
    obtain ⟨v, rfl, rv⟩ := ra.one
    cases rv
    obtain rfl := Option.some.inj hg
    exact call_int1 pins s σ H _ us Q I r (.inl ⟨i, rfl, k.here sb (.int _)⟩)
  | [.str a], hg =>
    obtain ⟨v, rfl, rv⟩ := ra.one
    cases rv
    simp only [intD] at hg
    split at hg
    · rename_i hl
      simp only [Option.map_eq_some_iff] at hg
      obtain ⟨n, hn, rfl⟩ := hg
      exact call_int_str pins s σ H _ us Q I r ⟨tx a, n, rfl, hn, by rw [tx_len]; exact hl, k.here sb (.int _)⟩
    · cases hg
def maxD : GN
  | [.int i, .int j] => some (.int (if j > i then j else i))
  | _ => none
theorem max_D (hc : X.calm = true) : CallR X (.builtin "max") (rDN C maxD) := by
  intro pins s σ H xs us Q I r h
  obtain ⟨F, ds, d, sb, ra, hg, k⟩ := h
  match ds, hg with
  | [.int i, .int j], hg =>
    obtain ⟨v, w, rfl, rv, rw'⟩ := ra.two
    cases rv; cases rw'
    obtain rfl := Option.some.inj hg
    exact call_max2 hc pins s σ H _ us Q I r ⟨i, j, rfl, k.here sb (.int _)⟩
def minD : GN
  | [.int i, .int j] => some (.int (if j < i then j else i))
  | _ => none
theorem min_D (hc : X.calm = true) : CallR X (.builtin "min") (rDN C minD) := by
  intro pins s σ H xs us Q I r h
  obtain ⟨F, ds, d, sb, ra, hg, k⟩ := h
  match ds, hg with
  | [.int i, .int j], hg =>
    obtain ⟨v, w, rfl, rv, rw'⟩ := ra.two
    cases rv; cases rw'
    obtain rfl := Option.some.inj hg
    exact call_min2 hc pins s σ H _ us Q I r ⟨i, j, rfl, k.here sb (.int _)⟩
def listD : GN
  | [.lst ds] => some (.lst ds)
  | [.tup ds] => some (.lst ds)
  | [.str z] => if z.length ≤ 4000 then some (.lst ((z.map fun c => [c]).map .str)) else none
  | _ => none
theorem vals_ix : ∀ {vs : List V} {us : List Value}, vs.length = us.length → (∀ (i : Nat) v u, vs[i]? = some v → us[i]? = some u → RelV v u) → Vals vs us
  | [], [], _, _ => .nil
  | [], _ :: _, h, _ => by cases h
  | _ :: _, [], h, _ => by cases h
  | v :: vs, u :: us, h, k => .cons (k 0 v u rfl rfl) (vals_ix (by simpa using h) fun i a b e1 e2 => k (i + 1) a b (by simpa using e1) (by simpa using e2))
theorem cr_or {f : Value} {r1 r2 : List V → Hp → VK → Prop} (a : CallR X f r1) (b : CallR X f r2) : CallR X f (fun xs H Q => r1 xs H Q ∨ r2 xs H Q) := fun pins s σ H xs us Q I r h => h.elim (a pins s σ H xs us Q I r) (b pins s σ H xs us Q I r)
abbrev sgnV (z : List Nat) : List V := ((z.map fun c => [c]).map tx).map V.str
/-- list(text) -/
theorem call_list_sgn (hc : X.calm = true) : CallR X (.type "list") (fun xs H Q => ∃ z : List Nat, xs = [.str (tx z)] ∧ z.length ≤ 4000 ∧ ∀ l, H l = none → Q (.ref l) (upd H l (.lst (sgnV z)))) := by
  intro pins s σ H xs us Q I r h
  obtain ⟨z, rfl, hl, q⟩ := h
  obtain ⟨u, rfl, t, rfl⟩ := r.one
  have hsz : (tx z).cps.size = z.length := by simp
  refine PySem.call_list_str (I.ok.hd hc) (tx z) t (fun h' tk acc c' hk hS hacc => ?_) (by rw [hsz, sizeLine_eq]; omega)
  have hn : H s.heap.objs.size = none := I.hok.fresh (Nat.le_refl _)
  have hv : Vals (sgnV z) acc.toList := by
    refine vals_ix (by have h1 := hacc.1; rw [hsz] at h1; simp [h1]) fun i v u e1 e2 => ?_
    obtain ⟨c, w, hc1, rfl⟩ := hacc.2 i u (by simpa using e2)
    have hc2 : z[i]? = some c := by simpa using hc1
    unfold sgnV at e1
    rw [List.getElem?_map, List.getElem?_map, List.getElem?_map, hc2] at e1
    cases e1
    exact ⟨w, rfl⟩
  exact ⟨.ref s.heap.objs.size, upd H s.heap.objs.size (.lst (sgnV z)), I.laid (t' := tk) hk (Nat.le_refl _) ⟨by simp [sgnV]; rw [sizeLine_eq]; omega, acc.toList, c', hv, hS⟩, rfl, q _ hn⟩
theorem list_D (hc : X.calm = true) (hK : C.K = X.K) : CallR X (.type "list") (rDN C listD) := by
  intro pins s σ H xs us Q I r h
  obtain ⟨F, ds, d, sb, ra, hg, k⟩ := h
  match ds, hg with
  | [.tup ds], hg =>
    obtain ⟨v, rfl, rv⟩ := ra.one
    cases rv with
    | @tup p vs _ h1 h2 h3 =>
      obtain rfl := Option.some.inj hg
      exact call_list_of pins s σ H _ us Q I r ⟨p, vs, rfl, .inr (by rw [← hK]; exact sqT_sub sb h1), fun l hl => k.new sb hl (R.newL sb hl h2)⟩
  | [.lst ds], hg =>
    obtain ⟨v, rfl, rv⟩ := ra.one
    cases rv with
    | @lst p vs _ h1 h2 =>
      obtain rfl := Option.some.inj hg
      exact call_list_of pins s σ H _ us Q I r ⟨p, vs, rfl, .inl (.inl (.inl (sb _ _ h1))), fun l hl => k.new sb hl (R.newL sb hl h2)⟩
  | [.str z], hg =>
    obtain ⟨v, rfl, rv⟩ := ra.one
    cases rv
    simp only [listD] at hg
    split at hg
    · rename_i hl
      obtain rfl := Option.some.inj hg
      exact call_list_sgn hc pins s σ H _ us Q I r ⟨z, rfl, hl, fun l hn => k.new sb hn (R.newL sb hn (RA.of_strs _))⟩
    · cases hg
def tupleD (tk : Bool) : GN
  | [.lst ds] => if okT tk ds = true then some (.tup ds) else none
  | [.tup ds] => some (.tup ds)
  | _ => none
theorem tuple_D (hK : C.K = X.K) : CallR X (.type "tuple") (rDN C (tupleD C.tk)) := by
  intro pins s σ H xs us Q I r h
  obtain ⟨F, ds, d, sb, ra, hg, k⟩ := h
  match ds, hg with
  | [.tup ds], hg =>
    obtain ⟨v, rfl, rv⟩ := ra.one
    cases rv with
    | @tup p vs _ h1 h2 h3 =>
      obtain rfl := Option.some.inj hg
      exact call_tuple_of pins s σ H _ us Q I r ⟨p, vs, rfl, .inr ⟨by rw [← hK]; exact sqT_sub sb h1, k.here sb (.tup h1 h2 h3)⟩⟩
  | [.lst ds], hg =>
    obtain ⟨v, rfl, rv⟩ := ra.one
    cases rv with
    | @lst p vs _ h1 h2 =>
      simp only [tupleD] at hg
      split at hg
      · rename_i hl
        obtain rfl := Option.some.inj hg
        exact call_tuple_of pins s σ H _ us Q I r ⟨p, vs, rfl, .inl ⟨.inl (.inl (sb _ _ h1)), fun l hl' => k.new sb hl' (R.newT sb hl' h2 (okT.map hl))⟩⟩
      · cases hg
def numS (i : Int) : List Nat := (Str.ofString (toString i)).cps.toList
def strD : GN
  | [.int i] => if i.natAbs.log2 < 1920 then some (.str (numS i)) else none
  | _ => none
theorem tx_cps (x : Str) : tx x.cps.toList = x := TL.mk_tl x
theorem str_D : CallR X (.type "str") (rDN C strD) := by
  intro pins s σ H xs us Q I r h
  obtain ⟨F, ds, d, sb, ra, hg, k⟩ := h
  match ds, hg with
  | [.int i], hg =>
    obtain ⟨v, rfl, rv⟩ := ra.one
    cases rv
    simp only [strD] at hg
    split at hg
    · rename_i hl
      obtain rfl := Option.some.inj hg
      refine call_str_int pins s σ H _ us Q I r ⟨i, rfl, hl, ?_⟩
      have := k.here (v := .str (tx (numS i))) sb (.str _)
      unfold numS at this
      rw [tx_cps] at this
      exact this
    · cases hg
def bools : List D → Option (List Bool)
  | [] => some []
  | .bl b :: r => (bools r).map (b :: ·)
  | _ => none
theorem RA.bools {F : Hp} : ∀ {vs : List V} (ds : List D) {bs : List Bool}, RA C F vs ds → PD.bools ds = some bs → vs = bs.map V.bl
  | _, [], bs, h, e => by cases h; obtain rfl := Option.some.inj e; rfl
  | _, .bl b :: r, bs, h, e => by
    cases h with
    | cons h1 h2 =>
      cases h1
      simp only [PD.bools, Option.map_eq_some_iff] at e
      obtain ⟨cs, e1, rfl⟩ := e
      rw [RA.bools r h2 e1]; rfl
  | _, .non :: _, _, _, e => by simp [PD.bools] at e
  | _, .int _ :: _, _, _, e => by simp [PD.bools] at e
  | _, .str _ :: _, _, _, e => by simp [PD.bools] at e
  | _, .tup _ :: _, _, _, e => by simp [PD.bools] at e
  | _, .lst _ :: _, _, _, e => by simp [PD.bools] at e
def allD : GN
  | [.lst ds] => (bools ds).map fun bs => .bl (bs.all id)
  | _ => none
def anyD : GN
  | [.lst ds] => (bools ds).map fun bs => .bl (bs.any id)
  | _ => none
theorem all_D (hc : X.calm = true) : CallR X (.builtin "all") (rDN C allD) := by
  intro pins s σ H xs us Q I r h
  obtain ⟨F, ds, d, sb, ra, hg, k⟩ := h
  match ds, hg with
  | [.lst ds], hg =>
    obtain ⟨v, rfl, rv⟩ := ra.one
    cases rv with
    | @lst p vs _ h1 h2 =>
      simp only [allD, Option.map_eq_some_iff] at hg
      obtain ⟨bs, hb, rfl⟩ := hg
      have e := RA.bools ds h2 hb
      subst e
      exact cr_all hc pins s σ H _ us Q I r ⟨p, bs, rfl, .inl (.inl (sb _ _ h1)), k.here sb (.bl _)⟩
theorem any_D (hc : X.calm = true) : CallR X (.builtin "any") (rDN C anyD) := by
  intro pins s σ H xs us Q I r h
  obtain ⟨F, ds, d, sb, ra, hg, k⟩ := h
  match ds, hg with
  | [.lst ds], hg =>
    obtain ⟨v, rfl, rv⟩ := ra.one
    cases rv with
    | @lst p vs _ h1 h2 =>
      simp only [anyD, Option.map_eq_some_iff] at hg
      obtain ⟨bs, hb, rfl⟩ := hg
      have e := RA.bools ds h2 hb
      subst e
      exact cr_any hc pins s σ H _ us Q I r ⟨p, bs, rfl, .inl (.inl (sb _ _ h1)), k.here sb (.bl _)⟩

/-! ### methods of texts -/
def txsO : List D → Option (List (List Nat))
  | [] => some []
  | .str s :: r => (txsO r).map (s :: ·)
  | _ => none
theorem strs_map : ∀ ss : List (List Nat), txsO (ss.map D.str) = some ss
  | [] => rfl
  | s :: ss => by rw [List.map_cons, txsO, strs_map ss]; rfl
theorem RA.sO {F : Hp} : ∀ {vs : List V} (ds : List D) {ss : List (List Nat)}, RA C F vs ds → txsO ds = some ss → vs = (ss.map tx).map V.str
  | _, [], bs, h, e => by cases h; obtain rfl := Option.some.inj e; rfl
  | _, .str b :: r, bs, h, e => by
    cases h with
    | cons h1 h2 =>
      cases h1
      simp only [txsO, Option.map_eq_some_iff] at e
      obtain ⟨cs, e1, rfl⟩ := e
      rw [RA.sO r h2 e1]; rfl
  | _, .non :: _, _, _, e => by simp [txsO] at e
  | _, .int _ :: _, _, _, e => by simp [txsO] at e
  | _, .bl _ :: _, _, _, e => by simp [txsO] at e
  | _, .tup _ :: _, _, _, e => by simp [txsO] at e
  | _, .lst _ :: _, _, _, e => by simp [txsO] at e
/-- a glued text -/
def joinS (a : List Nat) (ss : List (List Nat)) : Option D := if (ss.map List.length).sum + ss.length * a.length ≤ 16777216 then some (.str (TL.joinL a ss)) else none
def joinD : D → List D → Option D
  | .str a, [.lst ds] => (txsO ds).bind (joinS a)
  | .str a, [.tup ds] => (txsO ds).bind (joinS a)
  | _, _ => none
theorem joinL_tx (a : List Nat) (ss : List (List Nat)) : Txt.join (tx a) (ss.map tx) = tx (TL.joinL a ss) := by
  rw [TL.join_eq]
  refine TL.ext_tl ?_
  rw [TL.tl_join, List.map_map]
  have : (TL.tl ∘ tx) = id := by funext l; rfl
  rw [this, List.map_id]
theorem tx_lens : ∀ ss : List (List Nat), (ss.map tx).map (·.length) = ss.map List.length
  | [] => rfl
  | s :: ss => by rw [List.map_cons, List.map_cons, List.map_cons, tx_lens ss, tx_len]
theorem join_D (hK : C.K = X.K) : MtR X "str.join" (rDM C joinD) := by
  intro pins s σ H x xs v us Q I rx r h
  obtain ⟨F, a, ds, d, sb, ra, rs, hg, k⟩ := h
  cases ra with
  | str z =>
    match ds, hg with
    | [.lst ds], hg =>
      obtain ⟨v, rfl, rv⟩ := rs.one
      cases rv with
      | @lst p vs _ h1 h2 =>
        simp only [joinD, Option.bind_eq_some_iff] at hg
        obtain ⟨ss, hs, hg⟩ := hg
        unfold joinS at hg
        split at hg
        · rename_i hl
          obtain rfl := Option.some.inj hg
          have e := RA.sO ds h2 hs
          subst e
          refine mt_join pins s σ H _ _ _ us Q I rx r ⟨tx z, p, ss.map tx, rfl, rfl, .inl (.inl (.inl (sb _ _ h1))), ?_, ?_⟩
          · rw [tx_lens, List.length_map, tx_len]; exact hl
          · rw [joinL_tx]; exact k.here sb (.str _)
        · cases hg
    | [.tup ds], hg =>
      obtain ⟨v, rfl, rv⟩ := rs.one
      cases rv with
      | @tup p vs _ h1 h2 h3 =>
        simp only [joinD, Option.bind_eq_some_iff] at hg
        obtain ⟨ss, hs, hg⟩ := hg
        unfold joinS at hg
        split at hg
        · rename_i hl
          obtain rfl := Option.some.inj hg
          have e := RA.sO ds h2 hs
          subst e
          refine mt_join pins s σ H _ _ _ us Q I rx r ⟨tx z, p, ss.map tx, rfl, rfl, .inr (by rw [← hK]; exact sqT_sub sb h1), ?_, ?_⟩
          · rw [tx_lens, List.length_map, tx_len]; exact hl
          · rw [joinL_tx]; exact k.here sb (.str _)
        · cases hg
  | _ => cases hg
def loS (s : List Nat) : List Nat := (Txt.lower (tx s)).cps.toList
def upS (s : List Nat) : List Nat := (Txt.upper (tx s)).cps.toList
def lowerD : D → List D → Option D
  | .str s, [] => if s.length ≤ 5592405 then some (.str (loS s)) else none
  | _, _ => none
def upperD : D → List D → Option D
  | .str s, [] => if s.length ≤ 5592405 then some (.str (upS s)) else none
  | _, _ => none
theorem lower_D : MtR X "str.lower" (rDM C lowerD) := by
  intro pins s σ H x xs v us Q I rx r h
  obtain ⟨F, a, ds, d, sb, ra, rs, hg, k⟩ := h
  cases ra with
  | str z =>
    match ds, hg with
    | [], hg =>
      cases rs
      simp only [lowerD] at hg
      split at hg
      · rename_i hl
        obtain rfl := Option.some.inj hg
        refine mt_lower pins s σ H _ _ _ us Q I rx r ⟨tx z, rfl, rfl, by rw [tx_len]; exact hl, ?_⟩
        have := k.here (v := .str (tx (loS z))) sb (.str _)
        unfold loS at this
        rw [tx_cps] at this
        exact this
      · cases hg
  | _ => cases hg
theorem upper_D : MtR X "str.upper" (rDM C upperD) := by
  intro pins s σ H x xs v us Q I rx r h
  obtain ⟨F, a, ds, d, sb, ra, rs, hg, k⟩ := h
  cases ra with
  | str z =>
    match ds, hg with
    | [], hg =>
      cases rs
      simp only [upperD] at hg
      split at hg
      · rename_i hl
        obtain rfl := Option.some.inj hg
        refine mt_upper pins s σ H _ _ _ us Q I rx r ⟨tx z, rfl, rfl, by rw [tx_len]; exact hl, ?_⟩
        have := k.here (v := .str (tx (upS z))) sb (.str _)
        unfold upS at this
        rw [tx_cps] at this
        exact this
      · cases hg
  | _ => cases hg
/-- one text handed in -/
def with1 (g : List Nat → List Nat → Option D) : D → List D → Option D
  | .str a, [.str b] => g a b
  | _, _ => none
theorem with1_D {id : String} {g : List Nat → List Nat → Option D} {P : Str → Str → Prop} {f : Str → Str → V} (rule : MtR X id (fun x xs H Q => ∃ a b, x = .str a ∧ xs = [.str b] ∧ P a b ∧ Q (f a b) H))
    (hP : ∀ a b d, g a b = some d → P (tx a) (tx b) ∧ ∀ F, R C F (f (tx a) (tx b)) d) : MtR X id (rDM C (with1 g)) := by
  intro pins s σ H x xs v us Q I rx r h
  obtain ⟨F, a, ds, d, sb, ra, rs, hg, k⟩ := h
  cases ra with
  | str z =>
    match ds, hg with
    | [.str b], hg =>
      obtain ⟨v, rfl, rv⟩ := rs.one
      cases rv
      obtain ⟨p, q⟩ := hP z b d hg
      exact rule pins s σ H _ _ _ us Q I rx r ⟨tx z, tx b, rfl, rfl, p, k.here sb (q F)⟩
  | _ => cases hg
def startsD : D → List D → Option D := with1 fun a b => some (.bl (Txt.startswith (tx a) (tx b)))
def endsD : D → List D → Option D := with1 fun a b => some (.bl (Txt.endswith (tx a) (tx b)))
theorem starts_D : MtR X "str.startswith" (rDM C startsD) :=
  with1_D (P := fun _ _ => True) (f := fun a b => .bl (Txt.startswith a b)) (fun pins s σ H x xs v us Q I rx r ⟨a, b, e1, e2, _, q⟩ => mt_startswith pins s σ H x xs v us Q I rx r ⟨a, b, e1, e2, q⟩)
    fun a b d h => by obtain rfl := Option.some.inj h; exact ⟨trivial, fun F => .bl _⟩
theorem ends_D : MtR X "str.endswith" (rDM C endsD) :=
  with1_D (P := fun _ _ => True) (f := fun a b => .bl (Txt.endswith a b)) (fun pins s σ H x xs v us Q I rx r ⟨a, b, e1, e2, _, q⟩ => mt_endswith pins s σ H x xs v us Q I rx r ⟨a, b, e1, e2, q⟩)
    fun a b d h => by obtain rfl := Option.some.inj h; exact ⟨trivial, fun F => .bl _⟩
def stripD : D → List D → Option D := with1 fun a b => if a.length ≤ sizeLine then some (.str (Txt.stripChars (tx a) (tx b)).cps.toList) else none
theorem strip_D : MtR X "str.strip" (rDM C stripD) :=
  with1_D (P := fun a _ => a.length ≤ sizeLine) (f := fun a b => .str (Txt.stripChars a b)) (fun pins s σ H x xs v us Q I rx r ⟨a, b, e1, e2, p, q⟩ => mt_stripChars pins s σ H x xs v us Q I rx r ⟨a, b, e1, e2, p, q⟩)
    fun a b d h => by
      split at h
      · rename_i hl
        obtain rfl := Option.some.inj h
        refine ⟨by rw [tx_len]; exact hl, fun F => ?_⟩
        have := R.str (C := C) (F := F) (Txt.stripChars (tx a) (tx b)).cps.toList
        rw [tx_cps] at this
        exact this
      · cases h
def splitD : D → List D → Option D
  | .str a, [.str b] => if b ≠ [] ∧ a.length + 2 ≤ sizeLine then some (.lst ((Txt.split (tx a) (tx b)).map fun s => .str s.cps.toList)) else none
  | _, _ => none
theorem RA.news {F : Hp} : ∀ ss : List Str, RA C F (ss.map V.str) (ss.map fun s => .str s.cps.toList)
  | [] => .nil
  | s :: ss => .cons (by have := R.str (C := C) (F := F) s.cps.toList; rw [tx_cps] at this; exact this) (RA.news ss)
theorem split_D : MtR X "str.split" (rDM C splitD) := by
  intro pins s σ H x xs v us Q I rx r h
  obtain ⟨F, a, ds, d, sb, ra, rs, hg, k⟩ := h
  cases ra with
  | str z =>
    match ds, hg with
    | [.str b], hg =>
      obtain ⟨v, rfl, rv⟩ := rs.one
      cases rv
      simp only [splitD] at hg
      split at hg
      · rename_i hl
        obtain rfl := Option.some.inj hg
        refine mt_split pins s σ H _ _ _ us Q I rx r ⟨tx z, tx b, rfl, rfl, ?_, by rw [tx_len]; exact hl.2, fun p hp => ?_⟩
        · rw [tx_len]
          cases b with
          | nil => exact absurd rfl hl.1
          | cons c r => rfl
        · exact k.new sb hp (R.newL sb hp (RA.news _))
      · cases hg
  | _ => cases hg
end
end PD

set_option Elab.async false
set_option linter.all false
set_option maxRecDepth 100000
/-! The small language: what is read off the program's text, and what it makes of plain data. -/
namespace PD
open PySem L2

inductive B where
  | len | int | max | min | list | tuple | str | all | any
  deriving DecidableEq
def bD (tk : Bool) : B → GN
  | .len => lenD | .int => intD | .max => maxD | .min => minD | .list => listD | .tuple => tupleD tk | .str => strD | .all => allD | .any => anyD
inductive M where
  | join | lower | upper | starts | ends | strip | split
  deriving DecidableEq
def mD : M → D → List D → Option D
  | .join => joinD | .lower => lowerD | .upper => upperD | .starts => startsD | .ends => endsD | .strip => stripD | .split => splitD
def binD (tk : Bool) : Operator → G2
  | .Add => addD tk | .Sub => subD | .Mult => mulD tk | .Mod => modD | .FloorDiv => fdivD | .Pow => powD
  | _ => fun _ _ => none
def cmpD : CmpOp → G2
  | .Eq => eqD | .NotEq => neD | .Lt => ltD | .LtE => leD | .Gt => gtD | .GtE => geD | .In => inD false | .NotIn => inD true
  | _ => fun _ _ => none

/-- the built-in classes that are asked for -/
inductive Ty where
  | int | bool | str | list | tuple
  deriving DecidableEq
/-- a target: a name's slot, or a tuple of targets -/
inductive T where
  | nm (i : Nat) | nil | cons (t ts : T)
  deriving Inhabited
/-- further forms over values -/
inductive Op where
  | fstr (a b : List Nat)
  deriving DecidableEq
def opD (tk : Bool) : Op → List D → Option D
  | .fstr a b, [.str s] => if a.length + s.length + b.length ≤ sizeLine then some (.str (a ++ s ++ b)) else none
  | _, _ => none
mutual
inductive E where
  | var (i : Nat) | cst (k : Nat) | int (i : Int) | bl (b : Bool) | non | str (s : List Nat)
  | bin (o : Operator) (a b : E) | neg (a : E) | cmp (o : CmpOp) (a b : E) | chn (o o' : CmpOp) (a b c : E)
  | isN (ng : Bool) (a : E) | isB (ng : Bool) (a : E) (b : Bool)
  | and (a b : E) | or (a b : E) | one (a : E) | not (a : E) | ife (c : Tt) (a b : E)
  | tup (es : Es) | lst (es : Es) | idx (a b : E) | sl (a lo hi : E) | nope | rev (a : E)
  | call (f : Nat) (es : Es) | callT (f i : Nat) (es : Es) | blt (b : B) (es : Es) | mth (m : M) (a : E) (es : Es)
  | isi (a : E) (t : Ty) | isiT (a : E) (ts : List Ty) | srt (a : E) | repl (i j : Nat) | mapc (x y : List Nat)
  | tget (i k : Nat) | tcell (i : Nat) (a : E) | tlen (i : Nat)
  | comp (elt : E) (tg : T) (it : I) (c : Tt) (own : List Nat)
  | op (o : Op) (es : Es) | genl (f : Nat) (es : Es) | oix (i : Nat) (e : E) | olen (i : Nat)
inductive Es where
  | nil | cons (e : E) (es : Es) | star (e : E) (es : Es)
inductive I where
  | data (e : E) | rng1 (a : E) | rng2 (a b : E) | rng3 (a b : E) (c : Int) | enum (a : E) | zip (a b : E)
inductive Tt where
  | yes | val (e : E) | and (a b : Tt) | or (a b : Tt) | one (a : Tt) | not (a : Tt)
  | cmp (o : CmpOp) (a b : E) | chn (o o' : CmpOp) (a b c : E) | isN (ng : Bool) (a : E) | isB (ng : Bool) (a : E) (b : Bool)
end
mutual
inductive S where
  | nop | exp (e : E) | ret (e : E) | retN | set (i : Nat) (e : E) | setO (i : Nat) (e : E) | par (is : List Nat) (es : Es) | unp (t : T) (e : E)
  | ife (c : Tt) (a b : Ss) | whl (c : Tt) (b : Ss) | fr (tg : T) (it : I) (b : Ss)
  | app (i : Nat) (e : E) | tset (i k : Nat) (e : E) | brk | cnt | stuck
  | lset (i : Nat) (k e : E) | lpop (i : Nat) (k : E) | lins (i : Nat) (k e : E)
inductive Ss where
  | nil | cons (s : S) (ss : Ss) | frz (i : Nat) (ss : Ss)
end

/-- what calls mean; whether map steps are told apart -/
structure Sg where
  ns : List Int
  tk : Bool
  cs : List D
  G : Nat → List D → TS → Option (D × TS)
  GG : Nat → List D → Option (List D)

/-! ### the meaning -/
def tyIs : D → Ty → Bool
  | .bl _, .bool => true
  | .bl _, .int => true
  | .int _, .int => true
  | .str _, .str => true
  | .tup _, .tuple => true
  | .lst _, .list => true
  | _, _ => false
def wipeE (ρ : Env') : List Nat → Env'
  | [] => ρ
  | v :: vs => (wipeE ρ vs).set v .un
def bindT : T → D → Env' → Option Env'
  | .nm i, x, ρ => some (ρ.set i (.d x))
  | .nil, .tup [], ρ => some ρ
  | .cons t ts, .tup (x :: xs), ρ => (bindT t x ρ).bind fun ρ1 => bindT ts (.tup xs) ρ1
  | _, _, _ => none
/-- what is walked -/
def itemsD : D → Option (List D)
  | .tup xs => some xs
  | .lst xs => some xs
  | .str s => some (s.map fun c => .str [c])
  | _ => none
def rangeD (a : Int) (n : Nat) (c : Int) : List D := (List.range n).map fun i => .int (a + (i : Nat) * c)
def enumD (k : Nat) : List D → List D
  | [] => []
  | x :: xs => .tup [.int k, x] :: enumD (k + 1) xs
/-- two texts side by side -/
def zipC (x y : List Nat) : List D := (List.zip x y).map fun p => .tup [.str [p.1], .str [p.2]]
def small62 (i : Int) : Bool := decide (-(2 ^ 62) ≤ i) && decide (i < 2 ^ 62)
def intO : D → Option Int
  | .int i => some i
  | _ => none
def lexS : List Nat → List Nat → Bool := fun a b => decide (a ≤ b)
def insS (a : List Nat) : List (List Nat) → List (List Nat)
  | [] => [a]
  | b :: r => if a < b then a :: b :: r else if a = b then b :: r else b :: insS a r
def sortSetS (ss : List (List Nat)) : List (List Nat) := ss.foldl (fun acc a => insS a acc) []
def srtD : D → Option D
  | .lst ds => (txsO ds).bind fun ss => if ss.length + 1 < 4000 then some (.lst ((sortSetS ss).map .str)) else none
  | .str z => if z.length + 1 < 4000 then some (.lst ((sortSetS (z.map fun c => [c])).map .str)) else none
  | _ => none
def revD : D → Option D
  | .lst ds => some (.lst ds.reverse)
  | _ => none
/-- the turns of a comprehension -/
def compL (f : D → TS → Option (Option D × TS)) : List D → TS → Option (List D × TS)
  | [], τ => some ([], τ)
  | x :: xs, τ => (f x τ).bind fun r => (compL f xs r.2).bind fun q => some (match r.1 with | some y => y :: q.1 | none => q.1, q.2)
mutual
def ev (P : Sg) : E → Env' → TS → Option (D × TS)
  | .var i, ρ, τ => match ρ[i]? with
    | some (.d x) => some (x, τ)
    | _ => none
  | .cst k, _, τ => (P.cs[k]?).map fun d => (d, τ)
  | .int i, _, τ => some (.int i, τ)
  | .bl b, _, τ => some (.bl b, τ)
  | .non, _, τ => some (.non, τ)
  | .str s, _, τ => some (.str s, τ)
  | .bin o a b, ρ, τ => (ev P a ρ τ).bind fun r => (ev P b ρ r.2).bind fun q => (binD P.tk o r.1 q.1).map fun d => (d, q.2)
  | .neg a, ρ, τ => (ev P a ρ τ).bind fun r => (negD r.1).map fun d => (d, r.2)
  | .cmp o a b, ρ, τ => (ev P a ρ τ).bind fun r => (ev P b ρ r.2).bind fun q => (cmpD o r.1 q.1).map fun d => (d, q.2)
  | .chn o o' a b c, ρ, τ => (ev P a ρ τ).bind fun r => (ev P b ρ r.2).bind fun q => (cmpD o r.1 q.1).bind fun d => match d with
    | .bl true => (ev P c ρ q.2).bind fun z => (cmpD o' q.1 z.1).map fun d => (d, z.2)
    | .bl false => some (.bl false, q.2)
    | _ => none
  | .isN ng a, ρ, τ => (ev P a ρ τ).map fun r => (match r.1 with | .non => .bl (!ng) | _ => .bl ng, r.2)
  | .isB ng a b, ρ, τ => (ev P a ρ τ).bind fun r => match r.1 with
    | .bl c => some (.bl (if ng then !(c == b) else c == b), r.2)
    | _ => none
  | .and a b, ρ, τ => (ev P a ρ τ).bind fun r => (truD r.1).bind fun c => if c then ev P b ρ r.2 else some r
  | .or a b, ρ, τ => (ev P a ρ τ).bind fun r => (truD r.1).bind fun c => if c then some r else ev P b ρ r.2
  | .one a, ρ, τ => ev P a ρ τ
  | .not a, ρ, τ => (ev P a ρ τ).bind fun r => (truD r.1).map fun c => (.bl (!c), r.2)
  | .ife c a b, ρ, τ => (evt P c ρ τ).bind fun r => if r.1 then ev P a ρ r.2 else ev P b ρ r.2
  | .tup es, ρ, τ => (evs P es ρ τ).bind fun r => if okT P.tk r.1 = true then some (.tup r.1, r.2) else none
  | .lst es, ρ, τ => (evs P es ρ τ).bind fun r => if r.1.length ≤ sizeLine then some (.lst r.1, r.2) else none
  | .idx a b, ρ, τ => (ev P a ρ τ).bind fun r => (ev P b ρ r.2).bind fun q => (ixD r.1 q.1).map fun d => (d, q.2)
  | .sl a lo hi, ρ, τ => (ev P a ρ τ).bind fun r => (evp P lo ρ r.2).bind fun q => (evp P hi ρ q.2).bind fun z => (slD P.tk q.1 z.1 r.1).map fun d => (d, z.2)
  | .rev a, ρ, τ => (ev P a ρ τ).bind fun r => (revD r.1).map fun d => (d, r.2)
  | .nope, _, _ => none
  | .call f es, ρ, τ => (evs P es ρ τ).bind fun r => P.G f r.1 r.2
  | .callT f i es, ρ, τ => match ρ[i]? with
    | some .tape => (evs P es ρ τ).bind fun r => P.G f r.1 r.2
    | _ => none
  | .blt b es, ρ, τ => (evs P es ρ τ).bind fun r => (bD P.tk b r.1).map fun d => (d, r.2)
  | .mth m a es, ρ, τ => (ev P a ρ τ).bind fun r => (evs P es ρ r.2).bind fun q => (mD m r.1 q.1).map fun d => (d, q.2)
  | .isi a t, ρ, τ => (ev P a ρ τ).map fun r => (.bl (tyIs r.1 t), r.2)
  | .isiT a ts, ρ, τ => (ev P a ρ τ).map fun r => (.bl (ts.any (tyIs r.1)), r.2)
  | .srt a, ρ, τ => (ev P a ρ τ).bind fun r => (srtD r.1).map fun d => (d, r.2)
  | .repl i j, ρ, τ => match ρ[i]?, ρ[j]? with
    | some (.d (.str t)), some (.d (.tup [.str w, .str x, .str y])) => if P.tk = true ∧ isMap [.str w, .str x, .str y] = true ∧ t.length + (t.length + 1) * y.length ≤ 16777216 ∧ x ≠ [] then some (.str (PySem.StrLaws.replL x y t), τ) else none
    | _, _ => none
  | .mapc x y, _, τ => if x ≠ y then some (.tup [.str mapW, .str x, .str y], τ) else none
  | .tget i k, ρ, τ => match ρ[i]? with
    | some .tape => some (.int (if k = 1 then τ.pos else τ.cur), τ)
    | _ => none
  | .tcell i a, ρ, τ => match ρ[i]? with
    | some .tape => (ev P a ρ τ).bind fun r => (intO r.1).bind fun n => if 0 ≤ n then (P.ns[n.toNat]?).map fun z => (.int z, r.2) else none
    | _ => none
  | .tlen i, ρ, τ => match ρ[i]? with
    | some .tape => some (.int P.ns.length, τ)
    | _ => none
  | .comp elt tg it c own, ρ, τ => (evi P it ρ τ).bind fun r => (compL (fun x τ1 => (bindT tg x (wipeE ρ own)).bind fun ρ1 => (evt P c ρ1 τ1).bind fun q => if q.1 then (ev P elt ρ1 q.2).map fun z => (some z.1, z.2) else some (none, q.2)) r.1 r.2).bind fun q =>
      if q.1.length ≤ sizeLine then some (.lst q.1, q.2) else none
  | .op o es, ρ, τ => (evs P es ρ τ).bind fun r => (opD P.tk o r.1).map fun d => (d, r.2)
  | .genl f es, ρ, τ => (evs P es ρ τ).bind fun r => (P.GG f r.1).bind fun ds => if ds.length ≤ 4000 then some (.lst ds, r.2) else none
  | .oix i e, ρ, τ => match ρ[i]? with
    | some (.ol xs) => (ev P e ρ τ).bind fun r => (intO r.1).bind fun n => (atI xs n).map fun d => (d, r.2)
    | _ => none
  | .olen i, ρ, τ => match ρ[i]? with
    | some (.ol xs) => some (.int xs.length, τ)
    | _ => none
/-- a part of a slice -/
def evp (P : Sg) : E → Env' → TS → Option (Option Int × TS)
  | .nope, _, τ => some (none, τ)
  | .int i, _, τ => some (some i, τ)
  | .var i, ρ, τ => match ρ[i]? with
    | some (.d (.int k)) => some (some k, τ)
    | _ => none
  | .neg a, ρ, τ => (ev P a ρ τ).bind fun r => (negD r.1).bind fun d => (intO d).map fun k => (some k, r.2)
  | .bin o a b, ρ, τ => (ev P a ρ τ).bind fun r => (ev P b ρ r.2).bind fun q => (binD P.tk o r.1 q.1).bind fun d => (intO d).map fun k => (some k, q.2)
  | .idx a b, ρ, τ => (ev P a ρ τ).bind fun r => (ev P b ρ r.2).bind fun q => (ixD r.1 q.1).bind fun d => (intO d).map fun k => (some k, q.2)
  | .blt b es, ρ, τ => (evs P es ρ τ).bind fun r => (bD P.tk b r.1).bind fun d => (intO d).map fun k => (some k, r.2)
  | _, _, _ => none
def evs (P : Sg) : Es → Env' → TS → Option (List D × TS)
  | .nil, _, τ => some ([], τ)
  | .cons e es, ρ, τ => (ev P e ρ τ).bind fun r => (evs P es ρ r.2).map fun q => (r.1 :: q.1, q.2)
  | .star e es, ρ, τ => (ev P e ρ τ).bind fun r => match r.1 with
    | .tup xs => (evs P es ρ r.2).map fun q => (xs ++ q.1, q.2)
    | .lst xs => (evs P es ρ r.2).map fun q => (xs ++ q.1, q.2)
    | _ => none
def evi (P : Sg) : I → Env' → TS → Option (List D × TS)
  | .data e, ρ, τ => (ev P e ρ τ).bind fun r => (itemsD r.1).map fun xs => (xs, r.2)
  | .rng1 a, ρ, τ => (ev P a ρ τ).bind fun r => (intO r.1).bind fun n => if small62 n then some (rangeD 0 n.toNat 1, r.2) else none
  | .rng2 a b, ρ, τ => (ev P a ρ τ).bind fun r => (ev P b ρ r.2).bind fun q => (intO r.1).bind fun m => (intO q.1).bind fun n => if small62 m && small62 n then some (rangeD m (n - m).toNat 1, q.2) else none
  | .rng3 a b c, ρ, τ => (ev P a ρ τ).bind fun r => (ev P b ρ r.2).bind fun q => (intO r.1).bind fun m => (intO q.1).bind fun n => if c ≠ 0 ∧ c.natAbs < 1073741824 ∧ Builtin.Range.small m n c = true ∧ 0 ≤ Builtin.Range.rangeSize m n c then some (rangeD m (Builtin.Range.rangeSize m n c).toNat c, q.2) else none
  | .enum a, ρ, τ => (ev P a ρ τ).bind fun r => (itemsD r.1).map fun xs => (enumD 0 xs, r.2)
  | .zip a b, ρ, τ => (ev P a ρ τ).bind fun r => (ev P b ρ r.2).bind fun q => match r.1, q.1 with
    | .str x, .str y => some (zipC x y, q.2)
    | _, _ => none
def evt (P : Sg) : Tt → Env' → TS → Option (Bool × TS)
  | .yes, _, τ => some (true, τ)
  | .val e, ρ, τ => (ev P e ρ τ).bind fun r => (truD r.1).map fun b => (b, r.2)
  | .and a b, ρ, τ => (evt P a ρ τ).bind fun r => if r.1 then evt P b ρ r.2 else some (false, r.2)
  | .or a b, ρ, τ => (evt P a ρ τ).bind fun r => if r.1 then some (true, r.2) else evt P b ρ r.2
  | .one a, ρ, τ => evt P a ρ τ
  | .not a, ρ, τ => (evt P a ρ τ).map fun r => (!r.1, r.2)
  | .cmp o a b, ρ, τ => (ev P a ρ τ).bind fun r => (ev P b ρ r.2).bind fun q => (cmpD o r.1 q.1).bind fun d => (truD d).map fun k => (k, q.2)
  | .chn o o' a b c, ρ, τ => (ev P a ρ τ).bind fun r => (ev P b ρ r.2).bind fun q => (cmpD o r.1 q.1).bind fun d => match d with
    | .bl true => (ev P c ρ q.2).bind fun z => (cmpD o' q.1 z.1).bind fun d => (truD d).map fun k => (k, z.2)
    | .bl false => some (false, q.2)
    | _ => none
  | .isN ng a, ρ, τ => (ev P a ρ τ).map fun r => (match r.1 with | .non => !ng | _ => ng, r.2)
  | .isB ng a b, ρ, τ => (ev P a ρ τ).bind fun r => match r.1 with
    | .bl c => some (if ng then !(c == b) else c == b, r.2)
    | _ => none
end

/-- how a statement ends -/
inductive Out where
  | nx (ρ : Env') (τ : TS) | bk (ρ : Env') (τ : TS) | ct (ρ : Env') (τ : TS) | rt (d : D) (τ : TS)
def Out.then (o : Out) (f : Env' → TS → Option Out) : Option Out :=
  match o with
  | .nx ρ τ => f ρ τ
  | _ => some o
def forL (f : D → Env' → TS → Option Out) : List D → Env' → TS → Option Out
  | [], ρ, τ => some (.nx ρ τ)
  | x :: xs, ρ, τ => (f x ρ τ).bind fun o => match o with
    | .nx ρ1 τ1 => forL f xs ρ1 τ1
    | .ct ρ1 τ1 => forL f xs ρ1 τ1
    | .bk ρ1 τ1 => some (.nx ρ1 τ1)
    | .rt d τ1 => some (.rt d τ1)
def whN (c : Env' → TS → Option (Bool × TS)) (f : Env' → TS → Option Out) : Nat → Env' → TS → Option Out
  | 0, _, _ => none
  | n + 1, ρ, τ => (c ρ τ).bind fun r => if r.1 then (f ρ r.2).bind fun o => match o with
    | .nx ρ1 τ1 => whN c f n ρ1 τ1
    | .ct ρ1 τ1 => whN c f n ρ1 τ1
    | .bk ρ1 τ1 => some (.nx ρ1 τ1)
    | .rt d τ1 => some (.rt d τ1)
    else some (.nx ρ r.2)
open Classical in
noncomputable def whL (c : Env' → TS → Option (Bool × TS)) (f : Env' → TS → Option Out) (ρ : Env') (τ : TS) : Option Out :=
  if h : ∃ n o, whN c f n ρ τ = some o then some (Classical.choose (Classical.choose_spec h)) else none
def setAll : List Nat → List D → Env' → Option Env'
  | [], [], ρ => some ρ
  | i :: is, x :: xs, ρ => setAll is xs (ρ.set i (.d x))
  | _, _, _ => none
mutual
noncomputable def evS (P : Sg) : S → Env' → TS → Option Out
  | .nop, ρ, τ => some (.nx ρ τ)
  | .exp e, ρ, τ => (ev P e ρ τ).map fun r => .nx ρ r.2
  | .ret e, ρ, τ => (ev P e ρ τ).map fun r => .rt r.1 r.2
  | .retN, ρ, τ => some (.rt .non τ)
  | .set i e, ρ, τ => (ev P e ρ τ).map fun r => .nx (ρ.set i (.d r.1)) r.2
  | .setO i e, ρ, τ => (ev P e ρ τ).bind fun r => match r.1 with
    | .lst xs => some (.nx (ρ.set i (.ol xs)) r.2)
    | _ => none
  | .par is es, ρ, τ => (evs P es ρ τ).bind fun r => (setAll is r.1 ρ).map fun ρ1 => .nx ρ1 r.2
  | .unp t e, ρ, τ => (ev P e ρ τ).bind fun r => (bindT t r.1 ρ).map fun ρ1 => .nx ρ1 r.2
  | .ife c a b, ρ, τ => (evt P c ρ τ).bind fun r => if r.1 then evB P a ρ r.2 else evB P b ρ r.2
  | .whl c b, ρ, τ => whL (evt P c) (evB P b) ρ τ
  | .fr tg it b, ρ, τ => (evi P it ρ τ).bind fun r => forL (fun x ρ1 τ1 => (bindT tg x ρ1).bind fun ρ2 => evB P b ρ2 τ1) r.1 ρ r.2
  | .app i e, ρ, τ => match ρ[i]? with
    | some (.ol xs) => (ev P e ρ τ).bind fun r => if xs.length < sizeLine then some (.nx (ρ.set i (.ol (xs ++ [r.1]))) r.2) else none
    | _ => none
  | .tset i k e, ρ, τ => match ρ[i]? with
    | some .tape => (ev P e ρ τ).bind fun r => (intO r.1).map fun n => .nx ρ (if k = 1 then ⟨n, r.2.cur⟩ else ⟨r.2.pos, n⟩)
    | _ => none
  | .brk, ρ, τ => some (.bk ρ τ)
  | .cnt, ρ, τ => some (.ct ρ τ)
  | .stuck, _, _ => none
  | .lset i k e, ρ, τ => match ρ[i]? with
    | some (.ol xs) => (ev P e ρ τ).bind fun r => (ev P k ρ r.2).bind fun q => (intO q.1).bind fun n => (ixN xs.length n).map fun j => .nx (ρ.set i (.ol (xs.set j r.1))) q.2
    | _ => none
  | .lpop i k, ρ, τ => match ρ[i]? with
    | some (.ol xs) => (ev P k ρ τ).bind fun q => (intO q.1).bind fun n => if 0 ≤ n ∧ n.toNat < xs.length then some (.nx (ρ.set i (.ol (xs.eraseIdx n.toNat))) q.2) else none
    | _ => none
  | .lins i k e, ρ, τ => match ρ[i]? with
    | some (.ol xs) => (ev P k ρ τ).bind fun q => (ev P e ρ q.2).bind fun r => (intO q.1).bind fun n => if 0 ≤ n ∧ n.toNat ≤ xs.length ∧ xs.length < sizeLine then some (.nx (ρ.set i (.ol (xs.take n.toNat ++ r.1 :: xs.drop n.toNat))) r.2) else none
    | _ => none
noncomputable def evB (P : Sg) : Ss → Env' → TS → Option Out
  | .nil, ρ, τ => some (.nx ρ τ)
  | .cons s ss, ρ, τ => (evS P s ρ τ).bind fun o => o.then fun ρ1 τ1 => evB P ss ρ1 τ1
  | .frz i ss, ρ, τ => match ρ[i]? with
    | some (.ol xs) => evB P ss (ρ.set i (.d (.lst xs))) τ
    | some (.d _) => evB P ss ρ τ
    | _ => none
end
def start' (n : Nat) (tp : Bool) (ds : List D) : Env' := let l := (if tp then [Slot.tape] else []) ++ ds.map Slot.d; l ++ List.replicate (n - l.length) .un
/-- a def's body on its arguments -/
noncomputable def runF (P : Sg) (n : Nat) (tp : Bool) (b : Ss) (ds : List D) (τ : TS) : Option (D × TS) :=
  (evB P b (start' n tp ds) τ).bind fun o => match o with
    | .nx _ τ1 => some (.non, τ1)
    | .rt d τ1 => some (d, τ1)
    | _ => none

/-! ### while -/
theorem whN_succ {c : Env' → TS → Option (Bool × TS)} {f : Env' → TS → Option Out} : ∀ {n : Nat} {ρ : Env'} {τ : TS} {o : Out}, whN c f n ρ τ = some o → whN c f (n + 1) ρ τ = some o
  | 0, _, _, _, h => by cases h
  | n + 1, ρ, τ, o, h => by
    rw [whN] at h ⊢
    cases e : c ρ τ with
    | none => rw [e] at h; cases h
    | some r =>
      rw [e] at h
      simp only [Option.bind_some] at h ⊢
      cases e1 : r.1 with
      | false => rw [e1] at h; exact h
      | true =>
        rw [e1] at h
        simp only [if_true] at h ⊢
        cases e2 : f ρ r.2 with
        | none => rw [e2] at h; cases h
        | some p =>
          rw [e2] at h
          simp only [Option.bind_some] at h ⊢
          cases p with
          | nx ρ1 τ1 => exact whN_succ h
          | ct ρ1 τ1 => exact whN_succ h
          | bk ρ1 τ1 => exact h
          | rt d τ1 => exact h
theorem whN_le {c : Env' → TS → Option (Bool × TS)} {f : Env' → TS → Option Out} {ρ : Env'} {τ : TS} {o : Out} {n m : Nat} (h : whN c f n ρ τ = some o) (le : n ≤ m) : whN c f m ρ τ = some o := by
  obtain ⟨k, rfl⟩ := Nat.exists_eq_add_of_le le
  induction k with
  | zero => exact h
  | succ k ih => exact whN_succ (ih (Nat.le_add_right _ _))
theorem whL_of {c : Env' → TS → Option (Bool × TS)} {f : Env' → TS → Option Out} {ρ : Env'} {τ : TS} {o : Out} {n : Nat} (h : whN c f n ρ τ = some o) : whL c f ρ τ = some o := by
  have ex : ∃ n o, whN c f n ρ τ = some o := ⟨n, o, h⟩
  unfold whL
  rw [dif_pos ex]
  have h1 := Classical.choose_spec (Classical.choose_spec ex)
  have a := whN_le h (Nat.le_max_left n (Classical.choose ex))
  have b := whN_le h1 (Nat.le_max_right n (Classical.choose ex))
  rw [a] at b
  exact b.symm
theorem whL_some {c : Env' → TS → Option (Bool × TS)} {f : Env' → TS → Option Out} {ρ : Env'} {τ : TS} {o : Out} (h : whL c f ρ τ = some o) : ∃ n, whN c f n ρ τ = some o := by
  unfold whL at h
  split at h
  · rename_i ex
    have h1 := Classical.choose_spec (Classical.choose_spec ex)
    cases h
    exact ⟨_, h1⟩
  · cases h
/-- the last turn of a while -/
theorem whL_stop {c : Env' → TS → Option (Bool × TS)} {f : Env' → TS → Option Out} {ρ : Env'} {τ τ1 : TS} (h : c ρ τ = some (false, τ1)) : whL c f ρ τ = some (.nx ρ τ1) := whL_of (n := 1) (by rw [whN, h]; rfl)
theorem whL_go {c : Env' → TS → Option (Bool × TS)} {f : Env' → TS → Option Out} {ρ ρ1 : Env'} {τ τ1 τ2 : TS} {o : Out} (h : c ρ τ = some (true, τ1)) (h1 : f ρ τ1 = some (.nx ρ1 τ2)) (h2 : whL c f ρ1 τ2 = some o) : whL c f ρ τ = some o := by
  obtain ⟨n, e⟩ := whL_some h2
  refine whL_of (n := n + 1) ?_
  rw [whN, h]
  simp only [Option.bind_some, if_true]
  rw [h1]
  exact e
end PD

set_option Elab.async false
set_option linter.all false
set_option maxRecDepth 100000
set_option maxHeartbeats 1000000
/-! The small language against the program's text: the check, and what a checked text does. -/
namespace PD
open PySem L2

/-- names: the frame's by slot; the defs that are called, by number, with whether they take the tape; the constants -/
structure Nm where
  N : List Str
  fns : List (Str × Bool)
  csts : List Str
  gens : List Str

/-! ### the check -/
def visB (sc : Scope) (x : Str) : Bool := match sc.names.lookup x with
  | some .local => true
  | some .cell => true
  | some .free => true
  | _ => false
/-- may be stored; in a comprehension (b): a name of its own that is no cell -/
def locB (b : Bool) (sc : Scope) (x : Str) : Bool := match sc.names.lookup x with
  | some .local => true
  | some .cell => !b
  | _ => false
def glB (sc : Scope) (x : Str) : Bool := match sc.names.lookup x with
  | some .globalImplicit => true
  | _ => false
def okN (x : Str) : Bool := !(x == ("__debug__" : Str)) && !(x == ("__classdict__" : Str)) && !(x == ("__name__" : Str))
def notStar : Expr → Bool
  | .Starred _ _ => false
  | _ => true
def noStars (es : List Expr) : Bool := es.all notStar
def noSuper : Expr → Bool
  | .Call (.Name _ _) [] [] _ => false
  | _ => true
def notSet : Expr → Bool
  | .Set _ _ _ => false
  | _ => true
def plainIxB : Expr → Bool
  | .Slice _ _ _ _ => false
  | _ => true
def bN : B → Str
  | .len => "len" | .int => "int" | .max => "max" | .min => "min" | .list => "list" | .tuple => "tuple" | .str => "str" | .all => "all" | .any => "any"
def mN : M → Str
  | .join => "join" | .lower => "lower" | .upper => "upper" | .starts => "startswith" | .ends => "endswith" | .strip => "strip" | .split => "split"
def opEq : Operator → Operator → Bool
  | .Add, .Add => true | .Sub, .Sub => true | .Mult, .Mult => true | .Mod, .Mod => true | .FloorDiv, .FloorDiv => true | .Pow, .Pow => true
  | _, _ => false
def cmEq : CmpOp → CmpOp → Bool
  | .Eq, .Eq => true | .NotEq, .NotEq => true | .Lt, .Lt => true | .LtE, .LtE => true | .Gt, .Gt => true | .GtE, .GtE => true | .In, .In => true | .NotIn, .NotIn => true
  | _, _ => false
def slotsT : T → List Nat
  | .nm i => [i]
  | .nil => []
  | .cons t ts => slotsT t ++ slotsT ts
def tyN : Ty → Str
  | .int => "int" | .bool => "bool" | .str => "str" | .list => "list" | .tuple => "tuple"
/-- names of built-in classes -/
def chkTys (sc : Scope) : List Ty → List Expr → Bool
  | [], l => l.isEmpty
  | t :: ts, l => (match l with
    | .Name x _ :: r => decide (x = tyN t) && glB sc x && chkTys sc ts r
    | _ => false)
def isNope : E → Bool
  | .nope => true
  | _ => false
def isYes : Tt → Bool
  | .yes => true
  | _ => false
def isTupE : Expr → Bool
  | .Tuple _ _ _ => true
  | _ => false
def chkTg (nm : Nm) (b : Bool) (sc : Scope) (t : T) (z : Expr) : Bool := match t with
  | .nm i => (match z with
    | .Name x _ => decide (nm.N[i]? = some x) && locB b sc x
    | _ => false)
  | .nil => (match z with
    | .Tuple [] _ _ => true
    | _ => false)
  | .cons t ts => (match z with
    | .Tuple (e :: es) k p => notStar e && chkTg nm b sc t e && chkTg nm b sc ts (.Tuple es k p)
    | _ => false)
/-- a test that is the truth of a value -/
def plainT : Expr → Bool
  | .BoolOp _ _ _ => false
  | .UnaryOp .Not _ _ => false
  | .IfExp _ _ _ _ => false
  | .Compare _ _ _ _ => false
  | _ => true
def isCmp : Expr → Bool
  | .Compare _ _ _ _ => true
  | _ => false
/-- the parts of a further form -/
def opArgs : Op → Expr → Option Expr
  | .fstr a b, .JoinedStr [.Constant (.str x) _ _, .FormattedValue e (-1) none _, .Constant (.str y) _ _] _ => if x = tx a ∧ y = tx b then some e else none
  | _, _ => none
mutual
def chkE (nm : Nm) (sc : Scope) (e : E) (z : Expr) : Bool := match e with
  | .var i => (match z with
    | .Name x _ => decide (nm.N[i]? = some x) && visB sc x && okN x
    | _ => false)
  | .int i => (match z with
    | .Constant (.int j) _ _ => i == j
    | _ => false)
  | .bl b => (match z with
    | .Constant (.bool c) _ _ => b == c
    | _ => false)
  | .non => (match z with
    | .Constant .none _ _ => true
    | _ => false)
  | .str s => (match z with
    | .Constant (.str x) _ _ => x.cps.toList == s
    | _ => false)
  | .bin o a b => (match z with
    | .BinOp x p y _ => opEq o p && chkE nm sc a x && chkE nm sc b y
    | _ => false)
  | .neg a => (match z with
    | .UnaryOp .USub x _ => chkE nm sc a x
    | _ => false)
  | .cmp o a b => (match z with
    | .Compare x [p] [y] _ => cmEq o p && notSet y && chkE nm sc a x && chkE nm sc b y
    | _ => false)
  | .chn o o' a b c => (match z with
    | .Compare x [p, p'] [y, z] _ => cmEq o p && cmEq o' p' && notSet y && notSet z && chkE nm sc a x && chkE nm sc b y && chkE nm sc c z
    | _ => false)
  | .isN ng a => (match z with
    | .Compare x [.Is] [.Constant .none _ _] _ => !ng && chkE nm sc a x
    | .Compare x [.IsNot] [.Constant .none _ _] _ => ng && chkE nm sc a x
    | _ => false)
  | .isB ng a b => (match z with
    | .Compare x [.Is] [.Constant (.bool c) _ _] _ => !ng && b == c && chkE nm sc a x
    | .Compare x [.IsNot] [.Constant (.bool c) _ _] _ => ng && b == c && chkE nm sc a x
    | _ => false)
  | .and a b => (match z with
    | .BoolOp .And (x :: y :: r) p => chkE nm sc a x && chkE nm sc b (.BoolOp .And (y :: r) p)
    | _ => false)
  | .or a b => (match z with
    | .BoolOp .Or (x :: y :: r) p => chkE nm sc a x && chkE nm sc b (.BoolOp .Or (y :: r) p)
    | _ => false)
  | .one a => (match z with
    | .BoolOp _ [x] _ => chkE nm sc a x
    | _ => false)
  | .not a => (match z with
    | .UnaryOp .Not x _ => chkE nm sc a x
    | _ => false)
  | .ife c a b => (match z with
    | .IfExp z x y _ => chkT nm sc c z && chkE nm sc a x && chkE nm sc b y
    | _ => false)
  | .tup es => (match z with
    | .Tuple xs _ _ => chkA nm sc es xs
    | _ => false)
  | .lst es => (match z with
    | .List xs _ => chkA nm sc es xs
    | _ => false)
  | .idx a b => (match z with
    | .Subscript x y _ => plainIxB y && chkE nm sc a x && chkE nm sc b y
    | _ => false)
  | .sl a lo hi => (match z with
    | .Subscript x (.Slice l h none _) _ => chkE nm sc a x && (match l with | none => isNope lo | some y => chkE nm sc lo y) && (match h with | none => isNope hi | some y => chkE nm sc hi y)
    | _ => false)
  | .rev a => (match z with
    | .Subscript x (.Slice none none (some (.UnaryOp .USub (.Constant (.int 1) _ _) _)) _) _ => chkE nm sc a x
    | _ => false)
  | .call f es => (match z with
    | .Call (.Name x _) (y :: ys) [] _ => decide (nm.fns[f]? = some (x, false)) && glB sc x && okN x && noStars (y :: ys) && chkA nm sc es (y :: ys)
    | _ => false)
  | .callT f i es => (match z with
    | .Call (.Name x _) (.Name t _ :: ys) [] _ => decide (nm.fns[f]? = some (x, true)) && glB sc x && okN x && decide (nm.N[i]? = some t) && visB sc t && okN t && noStars ys && chkA nm sc es ys
    | _ => false)
  | .blt b es => (match z with
    | .Call (.Name x _) (y :: ys) [] _ => decide (x = bN b) && glB sc x && noStars (y :: ys) && chkA nm sc es (y :: ys)
    | _ => false)
  | .mth m a es => (match z with
    | .Call (.Attribute o n ap) [] [] cp => decide (n = mN m) && noSuper o && (ap.endLine == cp.line) && chkE nm sc a o && chkA nm sc es []
    | .Call (.Attribute o n ap) (y :: ys) [] cp => decide (n = mN m) && noSuper o && (ap.endLine == cp.line) && decide (ys.length < 20) && noStars (y :: ys) && chkE nm sc a o && chkA nm sc es (y :: ys)
    | _ => false)
  | .cst k => (match z with
    | .Name x _ => decide (nm.csts[k]? = some x) && glB sc x && okN x
    | _ => false)
  | .isi a t => (match z with
    | .Call (.Name f _) [x, .Name y _] [] _ => decide (f = ("isinstance" : Str)) && glB sc f && notStar x && chkE nm sc a x && decide (y = tyN t) && glB sc y
    | _ => false)
  | .isiT a ts => (match z with
    | .Call (.Name f _) [x, .Tuple l _ _] [] _ => decide (f = ("isinstance" : Str)) && glB sc f && notStar x && chkE nm sc a x && decide (l.length ≤ 10) && chkTys sc ts l
    | _ => false)
  | .srt a => (match z with
    | .Call (.Name f _) [.Call (.Name g _) [x] [] _] [] _ => decide (f = ("sorted" : Str)) && decide (g = ("set" : Str)) && glB sc f && glB sc g && notStar x && chkE nm sc a x
    | _ => false)
  | .repl i j => (match z with
    | .Call (.Attribute (.Name t _) n ap) [.Subscript (.Name s _) (.Constant (.int k) _ _) _, .Subscript (.Name s' _) (.Constant (.int l) _ _) _] [] cp => decide (n = ("replace" : Str)) && (ap.endLine == cp.line) && decide (nm.N[i]? = some t) && decide (nm.N[j]? = some s) && decide (s' = s) && decide (k = 1) && decide (l = 2) && visB sc t && visB sc s && okN t && okN s
    | _ => false)
  | .mapc x y => (match z with
    | .Tuple [.Constant (.str w) _ _, .Constant (.str a) _ _, .Constant (.str b) _ _] _ _ => (w.cps.toList == mapW) && (a.cps.toList == x) && (b.cps.toList == y)
    | _ => false)
  | .tget i k => (match z with
    | .Subscript (.Name x _) (.Constant (.int j) _ _) _ => decide (nm.N[i]? = some x) && visB sc x && okN x && decide (j = (k : Int)) && decide (k = 1 ∨ k = 2)
    | _ => false)
  | .tcell i a => (match z with
    | .Subscript (.Subscript (.Name x _) (.Constant (.int j) _ _) _) y _ => decide (nm.N[i]? = some x) && visB sc x && okN x && decide (j = 0) && plainIxB y && chkE nm sc a y
    | _ => false)
  | .tlen i => (match z with
    | .Call (.Name f _) [.Subscript (.Name x _) (.Constant (.int j) _ _) _] [] _ => decide (f = ("len" : Str)) && glB sc f && decide (nm.N[i]? = some x) && visB sc x && okN x && decide (j = 0)
    | _ => false)
  | .comp elt tg it c own => (match z with
    | .ListComp x [⟨t, iter, ifs, 0⟩] scope _ => notSet iter && (slotsT tg).all (fun i => decide (i ∈ own)) && blkC nm.N sc scope (own.map fun i => (nm.N.getD i "", i)) && chkI nm sc it t iter && chkTg nm true (relS scope sc) tg t && (match ifs with | [] => isYes c | [y] => chkT nm (relS scope sc) c y | _ => false) && chkE nm (relS scope sc) elt x
    | _ => false)
  | .op o es => (match opArgs o z with
    | some x => (match es with
      | .cons e .nil => chkE nm sc e x
      | _ => false)
    | none => false)
  | .genl f es => (match z with
    | .Call (.Name l _) [.Call (.Name x _) (y :: ys) [] _] [] _ => decide (l = ("list" : Str)) && glB sc l && decide (nm.gens[f]? = some x) && glB sc x && okN x && noStars (y :: ys) && chkA nm sc es (y :: ys)
    | _ => false)
  | .oix i e => (match z with
    | .Subscript (.Name x _) y _ => decide (nm.N[i]? = some x) && visB sc x && okN x && plainIxB y && chkE nm sc e y
    | _ => false)
  | .olen i => (match z with
    | .Call (.Name f _) [.Name x _] [] _ => decide (f = ("len" : Str)) && glB sc f && decide (nm.N[i]? = some x) && visB sc x && okN x
    | _ => false)
  | _ => false
def chkA (nm : Nm) (sc : Scope) (es : Es) (l : List Expr) : Bool := match es with
  | .nil => l.isEmpty
  | .cons e es => (match l with
    | x :: xs => notStar x && chkE nm sc e x && chkA nm sc es xs
    | [] => false)
  | .star e es => (match l with
    | .Starred x _ :: xs => chkE nm sc e x && chkA nm sc es xs
    | _ => false)
def chkI (nm : Nm) (sc : Scope) (it : I) (t x : Expr) : Bool := match it with
  | .data e => chkE nm sc e x
  | .rng1 a => (match x with
    | .Call (.Name x _) [y] [] _ => decide (x = ("range" : Str)) && glB sc x && notStar y && chkE nm sc a y
    | _ => false)
  | .rng2 a b => (match x with
    | .Call (.Name x _) [y, z] [] _ => decide (x = ("range" : Str)) && glB sc x && notStar y && notStar z && chkE nm sc a y && chkE nm sc b z
    | _ => false)
  | .rng3 a b c => (match x with
    | .Call (.Name x _) [y, z, .Constant (.int d) _ _] [] _ => decide (x = ("range" : Str)) && glB sc x && notStar y && notStar z && decide (d = c) && chkE nm sc a y && chkE nm sc b z
    | _ => false)
  | .enum a => (match x with
    | .Call (.Name x _) [y] [] _ => isTupE t && decide (x = ("enumerate" : Str)) && glB sc x && notStar y && chkE nm sc a y
    | _ => false)
  | .zip a b => (match x with
    | .Call (.Name x _) [y, z] [] _ => isTupE t && decide (x = ("zip" : Str)) && glB sc x && notStar y && notStar z && chkE nm sc a y && chkE nm sc b z
    | _ => false)
def chkT (nm : Nm) (sc : Scope) (c : Tt) (z : Expr) : Bool := match c with
  | .yes => false
  | .val e => plainT z && chkE nm sc e z
  | .cmp o a b => (match z with
    | .Compare x [p] [y] _ => cmEq o p && notSet y && chkE nm sc a x && chkE nm sc b y
    | _ => false)
  | .chn o o' a b c => (match z with
    | .Compare x [p, p'] [y, z] _ => cmEq o p && cmEq o' p' && notSet y && notSet z && chkE nm sc a x && chkE nm sc b y && chkE nm sc c z
    | _ => false)
  | .isN ng a => (match z with
    | .Compare x [.Is] [.Constant .none _ _] _ => !ng && chkE nm sc a x
    | .Compare x [.IsNot] [.Constant .none _ _] _ => ng && chkE nm sc a x
    | _ => false)
  | .isB ng a b => (match z with
    | .Compare x [.Is] [.Constant (.bool c) _ _] _ => !ng && b == c && chkE nm sc a x
    | .Compare x [.IsNot] [.Constant (.bool c) _ _] _ => ng && b == c && chkE nm sc a x
    | _ => false)
  | .and a b => (match z with
    | .BoolOp .And (x :: y :: r) p => chkT nm sc a x && chkT nm sc b (.BoolOp .And (y :: r) p)
    | _ => false)
  | .or a b => (match z with
    | .BoolOp .Or (x :: y :: r) p => chkT nm sc a x && chkT nm sc b (.BoolOp .Or (y :: r) p)
    | _ => false)
  | .one a => (match z with
    | .BoolOp _ [x] _ => chkT nm sc a x
    | _ => false)
  | .not a => (match z with
    | .UnaryOp .Not x _ => chkT nm sc a x
    | _ => false)
end
end PD

set_option Elab.async false
set_option linter.all false
set_option maxRecDepth 100000
set_option maxHeartbeats 1000000
/-! What a checked expression does. -/
namespace PD
open PySem L2

theorem pe_imp {X : Cx} {e : Expr} {t t' : TE} (h : PE X e t) (f : ∀ σ H Q, t' σ H Q → t σ H Q) : PE X e t' := ⟨fun pins s σ H Q I q => h.run pins s σ H Q I (f σ H Q q)⟩
theorem pt_imp {X : Cx} {e : Expr} {t t' : TT} (h : PT X e t) (f : ∀ σ H Q, t' σ H Q → t σ H Q) : PT X e t' := ⟨fun pins s σ H Q I q => h.run pins s σ H Q I (f σ H Q q)⟩
theorem pw_imp {X : Cx} {e : Expr} {t t' : TT} (h : PW X e t) (f : ∀ σ H Q, t' σ H Q → t σ H Q) : PW X e t' := ⟨fun wh pins s σ H Q I q => h.run wh pins s σ H Q I (f σ H Q q)⟩
theorem pts_imp {X : Cx} {es : List Expr} {t t' : TT} (h : PTs X es t) (f : ∀ σ H Q, t' σ H Q → t σ H Q) : PTs X es t' := ⟨fun pins s σ H Q I q => h.run pins s σ H Q I (f σ H Q q)⟩
theorem pa_imp {X : Cx} {es : List Expr} {t t' : TA} (h : PA X es t) (f : ∀ σ H Q, t' σ H Q → t σ H Q) : PA X es t' := ⟨fun pos pins s σ H Q I q => h.run pos pins s σ H Q I (f σ H Q q)⟩
theorem pi_imp {X : Cx} {tg e : Expr} {t t' : TI} (h : PI X tg e t) (f : ∀ σ H Q, t' σ H Q → t σ H Q) : PI X tg e t' := ⟨fun pins s σ H Q I q => h.run pins s σ H Q I (f σ H Q q)⟩
theorem pg_imp {X : Cx} {e : Expr} {t t' : TG} (h : PG X e t) (f : ∀ v σ H Q, t' v σ H Q → t v σ H Q) : PG X e t' := ⟨fun pins s σ H v u Q I r q => h.run pins s σ H v u Q I r (f v σ H Q q)⟩

/-- what a def promises -/
def spD (C : Con) (tp : Bool) (ar : Nat) (g : List Int → List D → TS → Option (D × TS)) : Sp := fun vs H Q _ =>
  ∃ (W : TW) (F : Hp) (us : List V) (ds : List D) (τ : TS) (d : D) (τ' : TS), vs = (if tp then [V.ref W.tp] else []) ++ us ∧ ds.length = ar ∧ RA C F us ds ∧ Sub F H ∧ TapeAt W F H τ ∧ g W.ns ds τ = some (d, τ') ∧
    ∀ v F' H', Ext W.tp F H F' H' → TapeAt W F' H' τ' → R C F' v d → Q v H'
/-- a def called by the name x -/
def FnAt (X : Cx) (C : Con) (ns : List Int) (x : Str) (tp : Bool) (g : List D → TS → Option (D × TS)) : Prop :=
  ∃ (k : Nat) (fa : Addr) (fd : FuncData) (ps : List Str) (ar : Nat) (G : List Int → List D → TS → Option (D × TS)), G ns = g ∧ Room k X.A ∧ FnOk X.prog X.w X.K X.mg X.base CX0 k fa fd ps (spD C tp ar G) ∧
    X.mg x = some (.ref fa) ∧ PySem.W.keepIn X.K (.ref fa) = true ∧ Binds X.K fd ps [] ∧ ∀ ds τ r, g ds τ = some r → ds.length = ar
/-- what a generator def promises: all that it hands out -/
def spG (C : Con) (ar : Nat) (g : List Int → List D → Option (List D)) : SpG := fun vs H Q E =>
  ∃ (W : TW) (F : Hp) (ds : List D) (τ : TS) (os : List D), ds.length = ar ∧ RA C F vs ds ∧ Sub F H ∧ TapeAt W F H τ ∧ g W.ns ds = some os ∧ os.length ≤ 4000 ∧ E = E0 ∧
    ∀ us F' H', Ext W.tp F H F' H' → TapeAt W F' H' τ → RA C F' us os → Q us H'
def GenAt (X : Cx) (C : Con) (ns : List Int) (x : Str) (g : List D → Option (List D)) : Prop :=
  ∃ (k : Nat) (fa : Addr) (fd : FuncData) (ps : List Str) (ar : Nat) (G : List Int → List D → Option (List D)), G ns = g ∧ Room (k + 3) X.A ∧ GFn X.prog X.w X.K X.mg X.base k fa fd ps (spG C ar G) ∧
    X.mg x = some (.ref fa) ∧ PySem.W.keepIn X.K (.ref fa) = true ∧ Binds X.K fd ps [] ∧ ∀ ds r, g ds = some r → ds.length = ar
structure Good (nm : Nm) (P : Sg) (C : Con) (W : TW) (b : Bool) (X : Cx) : Prop where
  calm : X.calm = true
  hN : X.N = nm.N
  nd : X.N.Nodup
  hK : C.K = X.K
  tk : P.tk = C.tk
  pns : P.ns = W.ns
  xe : X.xe = fun _ _ => False
  units : X.A.units + 65 < cLine
  fnc : b = false → ∀ x, X.env.scope.names.lookup x = some .cell → X.fn x = true
  blt : ∀ b : B, X.mg (bN b) = none
  rng : X.mg "range" = none
  isn : X.mg "isinstance" = none
  bool : X.mg "bool" = none
  oth : ∀ x ∈ (["sorted", "set", "enumerate", "zip"] : List Str), X.mg x = none
  cst : ∀ (k : Nat) (x : Str) (d : D), nm.csts[k]? = some x → P.cs[k]? = some d → ∃ v u, X.mg x = some u ∧ RelV v u ∧ ∀ F, R C F v d
  fns : ∀ f x tp, nm.fns[f]? = some (x, tp) → FnAt X C W.ns x tp (P.G f)
  gen : ∀ f x, nm.gens[f]? = some x → GenAt X C W.ns x (P.GG f)

section
variable (P : Sg) (C : Con) (W : TW)
def RdE (e : E) : TE := fun σ H Q => ∃ F0 H0 F ρ τ d τ', Rel C W F0 H0 F H σ ρ τ ∧ ev P e ρ τ = some (d, τ') ∧ ∀ v F' H', Ext W.tp F H F' H' → Rel C W F0 H0 F' H' σ ρ τ' → R C F' v d → Q v H'
def RdA (es : Es) : TA := fun σ H Q => ∃ F0 H0 F ρ τ ds τ', Rel C W F0 H0 F H σ ρ τ ∧ evs P es ρ τ = some (ds, τ') ∧ ∀ vs F' H', Ext W.tp F H F' H' → Rel C W F0 H0 F' H' σ ρ τ' → RA C F' vs ds → Q vs H'
def RdT (c : Tt) : TT := fun σ H Q => ∃ F0 H0 F ρ τ b τ', Rel C W F0 H0 F H σ ρ τ ∧ evt P c ρ τ = some (b, τ') ∧ ∀ F' H', Ext W.tp F H F' H' → Rel C W F0 H0 F' H' σ ρ τ' → Q b H'
def RdP (e : E) : TO := fun σ H Q => ∃ F0 H0 F ρ τ o τ', Rel C W F0 H0 F H σ ρ τ ∧ evp P e ρ τ = some (o, τ') ∧ ∀ F' H', Ext W.tp F H F' H' → Rel C W F0 H0 F' H' σ ρ τ' → Q o H'
/-- J walks xs, over what F tells -/
structure Wk (J : It) (F : Hp) (xs : List D) : Prop where
  stop : ∀ F' H, Sub F F' → Sub F' H → J.stop xs.length H
  go : ∀ i F' H, Sub F F' → Sub F' H → i < xs.length → J.go i H
  yld : ∀ i F1 H x H', Sub F F1 → Sub F1 H → i < xs.length → J.yld i H x H' → ∃ d F2, xs[i]? = some d ∧ ExtP F1 H F2 H' ∧ R C F2 x d
def RdI (it : I) : TI := fun σ H Rr => ∃ F0 H0 F ρ τ xs τ', Rel C W F0 H0 F H σ ρ τ ∧ evi P it ρ τ = some (xs, τ') ∧ ∀ J F' H', Ext W.tp F H F' H' → Rel C W F0 H0 F' H' σ ρ τ' → Wk C J F' xs → Rr J H'
/-- a target takes a value -/
def RdG (t : T) : TG := fun v σ H Q => ∃ F0 H0 F ρ τ x ρ', Rel C W F0 H0 F H σ ρ τ ∧ R C F v x ∧ bindT t x ρ = some ρ' ∧ ∀ σ', Rel C W F0 H0 F H σ' ρ' τ → (∀ own : List Nat, (∀ i ∈ slotsT t, i ∈ own) → wipe σ' own = wipe σ own) → Q σ' H
end

/-! ### small facts of the check -/
theorem vis_of {sc : Scope} {x : Str} (h : visB sc x = true) : sc.names.lookup x = some .local ∨ sc.names.lookup x = some .cell ∨ sc.names.lookup x = some .free := by
  unfold visB at h
  split at h
  · rename_i q; exact .inl q
  · rename_i q; exact .inr (.inl q)
  · rename_i q; exact .inr (.inr q)
  · cases h
theorem loc_of {b : Bool} {sc : Scope} {x : Str} (h : locB b sc x = true) : sc.names.lookup x = some .local ∨ (sc.names.lookup x = some .cell ∧ b = false) := by
  unfold locB at h
  split at h
  · rename_i q; exact .inl q
  · rename_i q; exact .inr ⟨q, (Bool.not_eq_true' _).mp h⟩
  · cases h
theorem gl_of {X : Cx} {x : Str} (h : glB X.env.scope x = true) : Gl X x := by
  unfold glB at h
  split at h
  · rename_i q; exact q
  · cases h
theorem okN_of {x : Str} (h : okN x = true) : (x == ("__debug__" : Str)) = false ∧ (x == ("__classdict__" : Str)) = false ∧ x ≠ ("__name__" : Str) := by
  unfold okN at h
  simp only [Bool.and_eq_true, Bool.not_eq_true'] at h
  exact ⟨h.1.1, h.1.2, fun e => by rw [e] at h; simp at h⟩
theorem star_of {e : Expr} {es : List Expr} {env : Env} (h : notStar e = true) : starEach (e :: es) env = (false, eval e env) :: starEach es env := by
  cases e <;> first | rfl | cases h
theorem stars_of {env : Env} {pos : Pos} : ∀ {es : List Expr}, noStars es = true → (backTo pos (starEach es env)).any (·.1) = false
  | [], _ => rfl
  | e :: es, h => by
    unfold noStars at h
    simp only [List.all_cons, Bool.and_eq_true] at h
    have ih := stars_of (env := env) (pos := pos) (es := es) h.2
    have e1 : starEach (e :: es) env = (false, eval e env) :: starEach es env := star_of h.1
    have e2 : (backTo pos (starEach (e :: es) env)).any (·.1) = (starEach (e :: es) env).any (·.1) := by
      unfold backTo
      rw [List.any_map]; rfl
    have e3 : (backTo pos (starEach es env)).any (·.1) = (starEach es env).any (·.1) := by
      unfold backTo
      rw [List.any_map]; rfl
    rw [e3] at ih
    rw [e2, e1, List.any_cons, ih]
    rfl
theorem base_of {o : Expr} {m : Str} {env : Env} (h : noSuper o = true) : attributeBase o m env (eval o env) = eval o env := by
  cases o with
  | Call f args kws pos =>
    cases f <;> first
      | rfl
      | (cases args with
        | nil => (cases kws with
          | nil => cases h
          | cons _ _ => rfl)
        | cons _ _ => rfl)
  | _ => rfl
theorem fold_of {iter : Expr} {env : Env} (h : notSet iter = true) : ∀ x, foldedSetIterable iter env x = pure x := by
  intro x
  cases iter <;> first | rfl | cases h
theorem behind_of {op : CmpOp} {b : Expr} (h : notSet b = true) : behindInMarks op b = false := by
  cases b <;> first | rfl | cases h
theorem plainIx_of {b : Expr} (h : plainIxB b = true) : PlainIx b := by
  intro o i
  cases b <;> first | rfl | cases h
theorem truth_of {e : Expr} {env : Env} (h : plainT e = true) : ∀ whole, PySem.isTrue e env whole = (do let v ← whole; standAt e.pos; holding [v] (truthy v)) := by
  intro whole
  cases e with
  | UnaryOp op a p => cases op <;> first | rfl | cases h
  | BoolOp _ _ _ => cases h
  | IfExp _ _ _ _ => cases h
  | Compare _ _ _ _ => cases h
  | _ => rfl
end PD

set_option Elab.async false
set_option linter.all false
set_option maxRecDepth 100000
set_option maxHeartbeats 4000000
/-! enumerate over texts, tuples, lists. -/
namespace PD
open PySem L2 PySem.Spec PyProof.Rows

theorem meets_enum1B {v : Value} {o : Obj} {H : Heap → Prop} (B : Begins v o H) :
    Meets (Builtin.«enumerate.__new__» ⟨[.type "enumerate", v], []⟩) (fun _ R s => H s.heap ∧
      R (.ok (.ret (.ref (s.heap.push o).objs.size))) { s with heap := (s.heap.push o).push { cls := .type "enumerate", data := .fields #[.none, .bool false, .ref s.heap.objs.size, rawInt 0, .none, .none] } }) :=
  .of_wp fun prog w A R s h => by
    obtain ⟨hp, g, d, tk, os⟩ := s; obtain ⟨h1, h⟩ := h
    have hsub := sub_enumerate
    have q1 : ∀ {A' : Around} {E : Value → Shared → Prop} {Q : Value → Shared → Prop}, Q (.ref hp.objs.size) ⟨hp.push o, g, d, tk, os⟩ → wpAny (model prog w) A' (pyIter v) Q E ⟨hp, g, d, tk, os⟩ :=
      fun q => B.iter prog w _ _ ⟨hp, g, d, tk, os⟩ _ h1 q
    wp_walk using q1
    refine wpAny_stack_any fun st => wpAny_pure ?_
    split
    · rename_i c _ _ _ _ _
      cases (c == Value.type "enumerate")
      · wp_walk using q1
        exact ⟨_, rfl, h⟩
      · wp_walk using q1
        exact ⟨_, rfl, h⟩
    · wp_walk using q1
      exact ⟨_, rfl, h⟩
theorem enum1_begins {prog : Program} {w : World} {A : Around} {E : Value → Shared → Prop} {s : Shared} {v : Value} {o : Obj} {H : Heap → Prop} {Q : Value → Shared → Prop} (B : Begins v o H) (h1 : H s.heap)
    (h : ∀ h', IsEnum h' (s.heap.objs.size + 1) s.heap.objs.size 0 .none → h'.get? s.heap.objs.size = some o → h'.objs.size = s.heap.objs.size + 2 →
      (∀ b o, s.heap.get? b = some o → h'.get? b = some o) → Q (.ref (s.heap.objs.size + 1)) { s with heap := h' }) :
    wpAny (model prog w) A (call (.type "enumerate") [v]) Q E s := by
  refine callType_new F.called_enumerate (by decide) (F.typeCall_enumerate_1 _) (F.newCall_enumerate_1 _) (fun obj => F.args_object_init_2 obj _) F.entry_enumerate_new
    (meets_enum1B B) ⟨h1, ?_⟩
  have hz : (s.heap.push o).objs.size = s.heap.objs.size + 1 := Heap.size_push ..
  show _ ∧ _
  rw [hz]
  have he : IsEnum ((s.heap.push o).push { cls := .type "enumerate", data := .fields #[.none, .bool false, .ref s.heap.objs.size, rawInt 0, .none, .none] }) (s.heap.objs.size + 1) s.heap.objs.size 0 .none := by
    have := Heap.get?_push_size (s.heap.push o) (o := { cls := .type "enumerate", data := .fields #[.none, .bool false, .ref s.heap.objs.size, rawInt 0, .none, .none] }) rfl
    rw [hz] at this; exact this
  exact ⟨⟨_, he, rfl⟩, h _ he (Heap.get?_push_of_some _ (Heap.get?_push_size _ B.free)) (by rw [Heap.size_push, hz]) fun b o x => Heap.get?_push_of_some _ (Heap.get?_push_of_some _ x)⟩

/-- pairs of the number and what itm tells -/
def Ieg (go stop : Nat → Hp → Prop) (itm : Nat → Hp → V → Prop) : It :=
  ⟨go, fun i H v H' => ∃ T x, v = .ref T ∧ H T = none ∧ H' = upd H T (.tup [.int (i : Nat), x]) ∧ itm i H x, stop⟩
/-- what is walked by an iterator at it -/
structure Src (P : Program) (w : World) (K : PySem.W.Frag) (it : Addr) (go stop : Nat → Hp → Prop) (itm : Nat → Hp → V → Prop) (ist : Nat → Heap → Prop) : Prop where
  obj : ∀ i h, ist i h → ∃ o, h.get? it = some o ∧ ∀ v, o.data ≠ .cell v
  keep : ∀ i h h', ist i h → (∀ o, h.get? it = some o → h'.get? it = some o) → ist i h'
  draw : ∀ (X : Cx), X.prog = P → X.w = w → X.K = K → X.calm = true → ∀ (i : Nat) (pins : List (Addr × Obj)) (s : Shared) (σ : L2.St) (H : Hp) (e : Addr) (o : Obj), Inv X pins σ H s → ist i s.heap → s.heap.get? e = some o → (o.cls = .type "enumerate" ∨ o.cls = .type "zip") → e ≠ it → go i H →
    ∃ fp n Pv St, Draws X.prog X.w X.A.in1 it fp n Pv St ∧ St i s.heap ∧ i < n ∧ e ∉ fp ∧ (∀ u, Pv i u → ∃ x, RelV x u ∧ itm i H x) ∧ ∀ h, St (i + 1) h → ist (i + 1) h
  done : ∀ (X : Cx), X.prog = P → X.w = w → X.K = K → X.calm = true → ∀ (i : Nat) (pins : List (Addr × Obj)) (s : Shared) (σ : L2.St) (H : Hp), Inv X pins σ H s → ist i s.heap → stop i H →
    ∃ fp Pv St, Draws X.prog X.w X.A.in1 it fp i Pv St ∧ St i s.heap

theorem turn_enumG {P : Program} {w : World} {K : PySem.W.Frag} {elts : List Expr} {kk : Nat} {tpos : Pos} {e it : Addr} {go stop : Nat → Hp → Prop} {itm : Nat → Hp → V → Prop} {ist : Nat → Heap → Prop} (S : Src P w K it go stop itm ist) :
    Turn P w K (.Tuple elts kk tpos) (Ieg go stop itm) [e, it] e (fun i h => (∃ old, IsEnum h e it ((i : Nat) : Int) old) ∧ ist i h ∧ e ≠ it) where
  mem := by simp
  obj := fun i h st b hb => by
    obtain ⟨⟨old, he⟩, hi, _⟩ := st
    have e' : b = e ∨ b = it := by simpa using hb
    rcases e' with z | z
    · rw [z]; exact ⟨_, he, fun v q => nomatch q⟩
    · rw [z]; exact S.obj i h hi
  keep := fun i h h' st k => let ⟨⟨old, he⟩, hi, hne⟩ := st; ⟨⟨old, k e (by simp) _ he⟩, S.keep i h h' hi fun o q => k it (by simp) o q, hne⟩
  item := by
    intro X hP hw hK hc i pins s σ H E I hf st hg
    obtain ⟨⟨old, he⟩, hit, hne⟩ := st
    obtain ⟨fp, n, Pv, St, D, hst, hlt, hef, hv, hs'⟩ := S.draw X hP hw hK hc i pins s σ H e _ I hit he (.inl rfl) hne hg
    subst hP hw hK
    have hel : e < s.heap.objs.size := Heap.lt_size he
    obtain ⟨oi, hoi, _⟩ := S.obj i _ hit
    have hil : it < s.heap.objs.size := Heap.lt_size hoi
    refine wpAny_pyNext_enum_itemD D he hst hlt hne hef fun u h' tk hPu ho hst' hT hsz hk => ?_
    obtain ⟨x, ru, hx⟩ := hv u hPu
    refine ⟨_, rfl, wpAny_letOwnedTupleGo_enum (s := { s with heap := h', toks := tk + 1 }) ho fun h'' he' sb => ?_⟩
    have hT2 : h''.get? s.heap.objs.size = some { cls := .type "tuple", data := .seq #[.int i tk, u] } := (sb.2 _ (Nat.ne_of_gt hel)).trans hT
    have new : ObjOk X.prog X.w (upd H s.heap.objs.size (.tup [.int (i : Nat), x])) h'' s.heap.objs.size (.tup [.int (i : Nat), x]) :=
      ⟨by show 2 ≤ sizeLine; decide, [.int i tk, u], .cons ⟨_, rfl⟩ (.cons ru .nil), ⟨_, hT2, rfl, _, rfl⟩⟩
    have I1 : Inv X pins σ (upd H s.heap.objs.size (.tup [.int (i : Nat), x])) { s with heap := h'', toks := tk + 1 } :=
      I.turnedNew (ch := [e, it]) (fun b ob hb q => (sb.2 b (fun z => hb (by simp [z]))).trans (hk b ob (fun z => hb (by simp [z])) (fun z => hb (by simp [z])) q)) hf (Nat.le_refl _) new
    refine ⟨.ref s.heap.objs.size, _, I1, rfl, ⟨_, x, rfl, I.hok.fresh (Nat.le_refl _), rfl, hx⟩, ⟨⟨u, ?_⟩, S.keep (i + 1) h' h'' (hs' h' hst') fun o q => (sb.2 it (Ne.symm hne)).trans q, hne⟩, fun b hb => ?_⟩
    · have e1 : ((i + 1 : Nat) : Int) = (i : Int) + 1 := by omega
      rw [e1]; exact he'
    · have hb' : b < s.heap.objs.size := by
        have e' : b = e ∨ b = it := by simpa using hb
        rcases e' with z | z
        · rw [z]; exact hel
        · rw [z]; exact hil
      rw [upd_ne (Nat.ne_of_lt hb')]
      exact (hf b hb).1
  done := by
    intro X hP hw hK hc i pins s σ H E I hf st hg
    obtain ⟨⟨old, he⟩, hit, hne⟩ := st
    obtain ⟨fp, Pv, St, D, hst⟩ := S.done X hP hw hK hc i pins s σ H I hit hg
    subst hP hw hK
    obtain ⟨f0, f1, f2, f3, f4, f5⟩ := hf it (by simp)
    exact wpAny_pyNext_enum_endD D he hst fun h' eb => ⟨rfl, I.turned (t' := s.toks) (fun b o hb q => eb b o hb q) f0 f1 f3 f4 f5⟩
  self := fun A i s Q E st h => let ⟨⟨_, he⟩, _⟩ := st; wpAny_pyIter_enum he h

/-! ### the three kinds -/
def goT (K : PySem.W.Frag) (a : Addr) : Nat → Hp → Prop := fun i H => ∃ vs, SqT K H a vs ∧ i < vs.length
def stT (K : PySem.W.Frag) (a : Addr) : Nat → Hp → Prop := fun i H => ∃ vs, SqT K H a vs ∧ i = vs.length
def imT (K : PySem.W.Frag) (a : Addr) : Nat → Hp → V → Prop := fun i H x => ∀ vs, SqT K H a vs → vs[i]? = some x
theorem src_tuple {P : Program} {w : World} {K : PySem.W.Frag} (it a : Addr) : Src P w K it (goT K a) (stT K a) (imT K a) (fun i h => h.IsTupleIter it a i) where
  obj := fun i h st => let ⟨o, ho, hc, hd⟩ := st; ⟨o, ho, fun v q => by rw [hd] at q; cases q⟩
  keep := fun i h h' st k => st.at k
  draw := by
    intro X hP hw hK hc i pins s σ H e o I hit he hcl hei hg
    subst hP hw hK
    obtain ⟨vs, hq, hi⟩ := hg
    obtain ⟨its, rv, p, hz⟩ := I.tuple hq
    obtain ⟨o1, p1, p2, p3⟩ := id p
    have hne : a ≠ it := fun z => by
      obtain ⟨o2, q1, q2, q3⟩ := id hit
      rw [z, q1] at p1; cases p1
      rw [q2] at p2
      injection p2 with p2
      exact absurd p2 (by decide)
    have hl := rv.length
    refine ⟨_, _, _, _, Draws.tuple (A := X.A.in1) (show X.A.in1.handled = none from I.ok.hd hc) it a hne its.toArray, ⟨hit, p⟩, by simp; omega, fun hm => ?_, fun u hu => ?_, fun h q => q.1⟩
    · have z : e = it ∨ e = a := by simpa using hm
      rcases z with z | z
      · exact hei z
      · rw [z, p1] at he; cases he
        rcases hcl with hcl | hcl
        · rw [hcl] at p2; injection p2 with p2; exact absurd p2 (by decide)
        · rw [hcl] at p2; injection p2 with p2; exact absurd p2 (by decide)
    · have hu' : its[i]? = some u := by simpa using hu
      obtain ⟨x, hx⟩ : ∃ x, vs[i]? = some x := ⟨_, List.getElem?_eq_getElem hi⟩
      obtain ⟨u', hu2, ru⟩ := rv.get hx
      rw [hu'] at hu2; cases hu2
      exact ⟨x, ru, fun ws hw => by rw [I.tuple_inj hw hq]; exact hx⟩
  done := by
    intro X hP hw hK hc i pins s σ H I hit hg
    subst hP hw hK
    obtain ⟨vs, hq, hi⟩ := hg
    obtain ⟨its, rv, p, hz⟩ := I.tuple hq
    obtain ⟨o1, p1, p2, p3⟩ := id p
    have hne : a ≠ it := fun z => by
      obtain ⟨o2, q1, q2, q3⟩ := id hit
      rw [z, q1] at p1; cases p1
      rw [q2] at p2
      injection p2 with p2
      exact absurd p2 (by decide)
    have hl := rv.length
    have hn : i = its.toArray.size := by simp; omega
    rw [hn] at hit ⊢
    exact ⟨_, _, _, Draws.tuple (A := X.A.in1) (show X.A.in1.handled = none from I.ok.hd hc) it a hne its.toArray, ⟨hit, p⟩⟩
def goL (K : PySem.W.Frag) (a : Addr) : Nat → Hp → Prop := fun i H => ∃ vs, SqL K H a vs ∧ i < vs.length
def stL (K : PySem.W.Frag) (a : Addr) : Nat → Hp → Prop := fun i H => ∃ vs, SqL K H a vs ∧ i = vs.length
def imL (K : PySem.W.Frag) (a : Addr) : Nat → Hp → V → Prop := fun i H x => ∀ vs, SqL K H a vs → vs[i]? = some x
theorem src_list {P : Program} {w : World} {K : PySem.W.Frag} (it a : Addr) : Src P w K it (goL K a) (stL K a) (imL K a) (fun i h => h.IsListIter it a i) where
  obj := fun i h st => let ⟨o, ho, hc, hd⟩ := st; ⟨o, ho, fun v q => by rw [hd] at q; cases q⟩
  keep := fun i h h' st k => st.at k
  draw := by
    intro X hP hw hK hc i pins s σ H e o I hit he hcl hei hg
    subst hP hw hK
    obtain ⟨vs, hq, hi⟩ := hg
    obtain ⟨its, rv, p, hz⟩ := I.list hq
    obtain ⟨o1, p1, p2, p3⟩ := id p.isList
    have hne : a ≠ it := fun z => by
      obtain ⟨o2, q1, q2, q3⟩ := id hit
      rw [z, q1] at p1; cases p1
      rw [q2] at p2
      injection p2 with p2
      exact absurd p2 (by decide)
    have hl := rv.length
    refine ⟨_, _, _, _, Draws.list (A := X.A.in1) (show X.A.in1.handled = none from I.ok.hd hc) it a hne its.toArray, ⟨hit, p.isList⟩, by simp; omega, fun hm => ?_, fun u hu => ?_, fun h q => q.1⟩
    · have z : e = it ∨ e = a := by simpa using hm
      rcases z with z | z
      · exact hei z
      · rw [z, p1] at he; cases he
        rcases hcl with hcl | hcl
        · rw [hcl] at p2; injection p2 with p2; exact absurd p2 (by decide)
        · rw [hcl] at p2; injection p2 with p2; exact absurd p2 (by decide)
    · have hu' : its[i]? = some u := by simpa using hu
      obtain ⟨x, hx⟩ : ∃ x, vs[i]? = some x := ⟨_, List.getElem?_eq_getElem hi⟩
      obtain ⟨u', hu2, ru⟩ := rv.get hx
      rw [hu'] at hu2; cases hu2
      exact ⟨x, ru, fun ws hw => by rw [I.list_inj hw hq]; exact hx⟩
  done := by
    intro X hP hw hK hc i pins s σ H I hit hg
    subst hP hw hK
    obtain ⟨vs, hq, hi⟩ := hg
    obtain ⟨its, rv, p, hz⟩ := I.list hq
    obtain ⟨o1, p1, p2, p3⟩ := id p.isList
    have hne : a ≠ it := fun z => by
      obtain ⟨o2, q1, q2, q3⟩ := id hit
      rw [z, q1] at p1; cases p1
      rw [q2] at p2
      injection p2 with p2
      exact absurd p2 (by decide)
    have hl := rv.length
    have hn : i = its.toArray.size := by simp; omega
    rw [hn] at hit ⊢
    exact ⟨_, _, _, Draws.list (A := X.A.in1) (show X.A.in1.handled = none from I.ok.hd hc) it a hne its.toArray, ⟨hit, p.isList⟩⟩
def goS (x : Str) : Nat → Hp → Prop := fun i _ => i < x.cps.size
def stS (x : Str) : Nat → Hp → Prop := fun i _ => i = x.cps.size
def imS (x : Str) : Nat → Hp → V → Prop := fun i _ v => ∃ c, x.cps[i]? = some c ∧ v = .str ⟨#[c]⟩
theorem src_str {P : Program} {w : World} {K : PySem.W.Frag} (it : Addr) (x : Str) (t : Tok) : Src P w K it (goS x) (stS x) (imS x) (fun i h => h.IsStrIter it (strIterType x) x t i) where
  obj := fun i h st => let ⟨o, ho, hc, hd⟩ := st; ⟨o, ho, fun v q => by rw [hd] at q; cases q⟩
  keep := fun i h h' st k => let ⟨o, ho, r⟩ := st; ⟨o, k o ho, r⟩
  draw := by
    intro X hP hw hK hc i pins s σ H e o I hit he hcl hei hg
    subst hP hw hK
    refine ⟨_, _, _, _, Draws.text (A := X.A.in1) (show X.A.in1.handled = none from I.ok.hd hc) it x t, hit, hg, fun hm => hei (by simpa using hm), fun u hu => ?_, fun h q => q⟩
    obtain ⟨c, u', h1, rfl⟩ := hu
    exact ⟨.str ⟨#[c]⟩, ⟨u', rfl⟩, c, h1, rfl⟩
  done := by
    intro X hP hw hK hc i pins s σ H I hit hg
    subst hP hw hK
    have hg : i = x.cps.size := hg
    subst hg
    exact ⟨_, _, _, Draws.text (A := X.A.in1) (show X.A.in1.handled = none from I.ok.hd hc) it x t, hit⟩

/-- enumerate(..) of a text, tuple or list -/
def iEnumG (K : PySem.W.Frag) (te : TE) : TI := fun σ H Rr => te σ H fun u H1 => ∃ v, [u] = [v] ∧
  ((∃ x, v = .str x ∧ Rr (Ieg (goS x) (stS x) (imS x)) H1) ∨ (∃ a vs, v = .ref a ∧ SqT K H1 a vs ∧ Rr (Ieg (goT K a) (stT K a) (imT K a)) H1) ∨ (∃ a vs, v = .ref a ∧ SqL K H1 a vs ∧ Rr (Ieg (goL K a) (stL K a) (imL K a)) H1))
theorem pi_enumG {X : Cx} {e : Expr} {te : TE} {p pos tpos : Pos} {elts : List Expr} {kk : Nat} (hg : Gl X "enumerate") (hm : X.mg "enumerate" = none) (ha : PE X e te) (hs : starEach [e] X.env = [(false, eval e X.env)]) :
    PI X (.Tuple elts kk tpos) (.Call (.Name "enumerate" p) [e] [] pos) (iEnumG X.K te) := by
  refine ⟨fun pins s σ H R I h => ?_⟩
  have hA : PA X [e] (tCons te tNil) := pa_cons ha pa_nil hs
  refine Call_ (ld_blt I hg hm boot_enumerate (PyProof.Rows.callWith_type1 (thn (hA.run pos pins s σ H (fun vs H1 => ∃ v, vs = [v] ∧ ((∃ x, v = .str x ∧ R (Ieg (goS x) (stS x) (imS x)) H1) ∨ (∃ a vs, v = .ref a ∧ SqT X.K H1 a vs ∧ R (Ieg (goT X.K a) (stT X.K a) (imT X.K a)) H1) ∨ (∃ a vs, v = .ref a ∧ SqL X.K H1 a vs ∧ R (Ieg (goL X.K a) (stL X.K a) (imL X.K a)) H1))) I (show tCons te tNil σ H _ from ?_)) fun us s1 ⟨vs, H1, I1, r1, q1⟩ => ?_) hs rfl))
  · exact h
  obtain ⟨v, rfl, q⟩ := q1
  cases r1 with
  | cons r rr =>
    cases rr
    have fin : ∀ {u : Value} {o : Obj} {Hh : Heap → Prop} {go stop : Nat → Hp → Prop} {itm : Nat → Hp → V → Prop} {ist : Nat → Heap → Prop}, Begins u o Hh → Hh s1.heap → Src X.prog X.w X.K s1.heap.objs.size go stop itm ist → (∀ h, h.get? s1.heap.objs.size = some o → ist 0 h) → R (Ieg go stop itm) H1 →
        wpAny (model X.prog X.w) X.A (call (.type "enumerate") [u]) (fun v s1 => wpAny (model X.prog X.w) X.A (pyIter v) (PIE X pins σ (.Tuple elts kk tpos) R) X.xe s1) X.xe s1 := by
      intro u o Hh go stop itm ist B hh S hi q
      refine enum1_begins B hh fun h' he hit hsz hk => wpAny_pyIter_enum he ?_
      have I2 : Inv X pins σ H1 { s1 with heap := h' } := I1.kept (t' := s1.toks) hk
      refine ⟨s1.heap.objs.size + 1, [s1.heap.objs.size + 1, s1.heap.objs.size], _, _, H1, rfl, I2, turn_enumG S, ⟨⟨.none, he⟩, hi _ hit, Nat.succ_ne_self _⟩, fun b hb => ?_, q⟩
      have e' : b = s1.heap.objs.size + 1 ∨ b = s1.heap.objs.size := by simpa using hb
      have hle : s1.heap.objs.size ≤ b := by
        rcases e' with z | z
        · rw [z]; exact Nat.le_add_right _ _
        · rw [z]; exact Nat.le_refl _
      exact I1.fpOk hle (I1.hok.fresh hle)
    rcases q with ⟨x, rfl, q⟩ | ⟨a, ws, rfl, hq, q⟩ | ⟨a, ws, rfl, hq, q⟩
    · obtain ⟨t, rfl⟩ := r
      exact fin (begins_text x t) trivial (src_str _ x t) (fun h e => ⟨_, e, rfl, rfl⟩) q
    · cases r
      obtain ⟨its, rv, p', hz⟩ := I1.tuple hq
      exact fin (begins_tuple a its.toArray) p' (src_tuple _ a) (fun h e => ⟨_, e, rfl, rfl⟩) q
    · cases r
      obtain ⟨its, rv, p', hz⟩ := I1.list hq
      exact fin (begins_list a its.toArray) p'.isList (src_list _ a) (fun h e => ⟨_, e, rfl, rfl⟩) q
end PD

set_option Elab.async false
set_option linter.all false
set_option maxRecDepth 100000
set_option maxHeartbeats 4000000
/-! zip of two texts. -/
namespace PD
open PySem L2 PySem.Spec PyProof.Rows
def ItzS (x y : Str) : It :=
  ⟨fun i _ => i < min x.cps.size y.cps.size, fun i H v H' => ∃ T c d, v = .ref T ∧ H T = none ∧ H' = upd H T (.tup [.str ⟨#[c]⟩, .str ⟨#[d]⟩]) ∧ x.cps[i]? = some c ∧ y.cps[i]? = some d, fun i _ => i = min x.cps.size y.cps.size⟩
theorem zipS_sep (n : Nat) : ZipSep2 (n + 4) (n + 2) (n + 3) n (n + 1) [n] [n + 1] := by
  refine ⟨?_, ?_, ?_, ?_, ?_, ?_, ?_, ?_, ?_, ?_, ?_, ?_, ?_⟩ <;> simp
theorem turn_zipS {P : Program} {w : World} {K : PySem.W.Frag} {elts : List Expr} {kk : Nat} {tpos : Pos} {z TI TO i1 i2 : Addr} (S : ZipSep2 z TI TO i1 i2 [i1] [i2]) (x y : Str) (t1 t2 : Tok) :
    Turn P w K (.Tuple elts kk tpos) (ItzS x y) [z, TI, TO, i1, i2] z (fun i h => IsZip h z TI TO .none ∧ IsTupOf2 h TI (.ref i1) (.ref i2) ∧ (∃ a b, IsTupOf2 h TO a b) ∧ h.IsStrIter i1 (strIterType x) x t1 i ∧ h.IsStrIter i2 (strIterType y) y t2 i) where
  mem := by simp
  obj := fun i h st c hc => by
    obtain ⟨hz, hTI, ⟨a, b, hTO⟩, ⟨o1, e1, _, d1⟩, ⟨o2, e2, _, d2⟩⟩ := st
    have e' : c = z ∨ c = TI ∨ c = TO ∨ c = i1 ∨ c = i2 := by simpa using hc
    rcases e' with q | q | q | q | q
    · rw [q]; exact ⟨_, hz, fun v q => nomatch q⟩
    · rw [q]; exact ⟨_, hTI, fun v q => nomatch q⟩
    · rw [q]; exact ⟨_, hTO, fun v q => nomatch q⟩
    · rw [q]; exact ⟨o1, e1, fun v q => by rw [d1] at q; cases q⟩
    · rw [q]; exact ⟨o2, e2, fun v q => by rw [d2] at q; cases q⟩
  keep := fun i h h' st k => by
    obtain ⟨hz, hTI, ⟨a, b, hTO⟩, ⟨o1, e1, r1⟩, ⟨o2, e2, r2⟩⟩ := st
    exact ⟨k z (by simp) _ hz, k TI (by simp) _ hTI, ⟨a, b, k TO (by simp) _ hTO⟩, ⟨o1, k i1 (by simp) _ e1, r1⟩, ⟨o2, k i2 (by simp) _ e2, r2⟩⟩
  item := by
    intro X hP hw hK hc i pins s σ H E I hf st hg
    subst hP hw hK
    obtain ⟨hz, hTI, ⟨x0, y0, hTO⟩, h1, h2⟩ := st
    have hg : i < min x.cps.size y.cps.size := hg
    have hzl : z < s.heap.objs.size := Heap.lt_size hz
    have D1 := Draws.text (prog := X.prog) (w := X.w) (A := X.A.in1) (show X.A.in1.handled = none from I.ok.hd hc) i1 x t1
    have D2 := Draws.text (prog := X.prog) (w := X.w) (A := X.A.in1) (show X.A.in1.handled = none from I.ok.hd hc) i2 y t2
    refine wpAny_pyNext_zipD2_item S D1 D2 hz hTI hTO h1 h2 (by omega) (by omega) fun x1 x2 h' tk p1 p2 z' TO' h1' h2' hT hsz hk => ?_
    obtain ⟨c, u1, q1, rfl⟩ := p1
    obtain ⟨d, u2, q2, rfl⟩ := p2
    refine ⟨_, rfl, wpAny_letOwnedTupleGo_zip (s := { s with heap := h', toks := tk }) z' fun h'' z'' sb => ?_⟩
    have hT2 : h''.get? s.heap.objs.size = some { cls := .type "tuple", data := .seq #[.str ⟨#[c]⟩ u1, .str ⟨#[d]⟩ u2] } := (sb.2 _ (Nat.ne_of_gt hzl)).trans hT
    have new : ObjOk X.prog X.w (upd H s.heap.objs.size (.tup [.str ⟨#[c]⟩, .str ⟨#[d]⟩])) h'' s.heap.objs.size (.tup [.str ⟨#[c]⟩, .str ⟨#[d]⟩]) :=
      ⟨by show 2 ≤ sizeLine; decide, [.str ⟨#[c]⟩ u1, .str ⟨#[d]⟩ u2], .cons ⟨_, rfl⟩ (.cons ⟨_, rfl⟩ .nil), ⟨_, hT2, rfl, _, rfl⟩⟩
    have I1 : Inv X pins σ (upd H s.heap.objs.size (.tup [.str ⟨#[c]⟩, .str ⟨#[d]⟩])) { s with heap := h'', toks := tk } :=
      I.turnedNew (t' := tk) (ch := [z, TI, TO, i1, i2]) (fun b o hb q => (sb.2 b (fun q' => hb (by simp [q']))).trans (hk b o (fun q' => hb (by simp [q'])) (fun q' => hb (by simp [q'])) (fun q' => hb (by simp [q'])) (fun q' => hb (by simp [q'])) q)) hf (Nat.le_refl _) new
    obtain ⟨oi1, ei1, ri1⟩ := h1'
    obtain ⟨oi2, ei2, ri2⟩ := h2'
    refine ⟨.ref s.heap.objs.size, _, I1, rfl, ⟨_, c, d, rfl, I.hok.fresh (Nat.le_refl _), rfl, q1, q2⟩, ⟨z'', ?_, ⟨.str ⟨#[c]⟩ u1, .str ⟨#[d]⟩ u2, ?_⟩, ⟨oi1, ?_, ri1⟩, ⟨oi2, ?_, ri2⟩⟩, fun b hcm => ?_⟩
    · exact (sb.2 _ S.TIz).trans (hk _ _ S.TIz S.TITO S.TIi1 S.TIi2 hTI)
    · exact (sb.2 _ S.TOz).trans TO'
    · exact (sb.2 _ (Ne.symm S.zi1)).trans ei1
    · exact (sb.2 _ (Ne.symm S.zi2)).trans ei2
    · have hlt : b < s.heap.objs.size := by
        have e' : b = z ∨ b = TI ∨ b = TO ∨ b = i1 ∨ b = i2 := by simpa using hcm
        rcases e' with q | q | q | q | q
        · rw [q]; exact hzl
        · rw [q]; exact Heap.lt_size hTI
        · rw [q]; exact Heap.lt_size hTO
        · rw [q]; obtain ⟨_, e1, _⟩ := h1; exact Heap.lt_size e1
        · rw [q]; obtain ⟨_, e2, _⟩ := h2; exact Heap.lt_size e2
      rw [upd_ne (Nat.ne_of_lt hlt)]
      exact (hf b hcm).1
  done := by
    intro X hP hw hK hc i pins s σ H E I hf st hg
    subst hP hw hK
    obtain ⟨hz, hTI, ⟨x0, y0, hTO⟩, h1, h2⟩ := st
    have hg : i = min x.cps.size y.cps.size := hg
    have D1 := Draws.text (prog := X.prog) (w := X.w) (A := X.A.in1) (show X.A.in1.handled = none from I.ok.hd hc) i1 x t1
    have D2 := Draws.text (prog := X.prog) (w := X.w) (A := X.A.in1) (show X.A.in1.handled = none from I.ok.hd hc) i2 y t2
    exact wpAny_pyNext_zipD2_end S D1 D2 hz hTI hTO h1 h2 (by omega) (by omega) (by omega) fun h' tk hk => ⟨rfl, I.turnedL (t' := tk) (ch := [z, TI, TO, i1, i2]) (fun c o hb q =>
      hk c o (fun q' => hb (by simp [q'])) (fun q' => hb (by simp [q'])) (fun q' => hb (by simp [q'])) (fun q' => hb (by simp [q'])) q) hf⟩
  self := fun A i s Q E st h => wpAny_pyIter_zip st.1 h
def iZipS (ta : TA) : TI := fun σ H R => ta σ H fun vs H1 => ∃ x y : Str, vs = [.str x, .str y] ∧ R (ItzS x y) H1
theorem pi_zipS {X : Cx} {e e2 : Expr} {ta : TA} {p pos tpos : Pos} {elts : List Expr} {kk : Nat} (hg : Gl X "zip") (hm : X.mg "zip" = none) (ha : PA X [e, e2] ta)
    (hs : starEach [e, e2] X.env = (false, eval e X.env) :: starEach [e2] X.env) (hpl : (backTo pos (starEach [e2] X.env)).any (·.1) = false) :
    PI X (.Tuple elts kk tpos) (.Call (.Name "zip" p) [e, e2] [] pos) (iZipS ta) := by
  refine ⟨fun pins s σ H R I h => ?_⟩
  refine Call_ (ld_blt I hg hm PyProof.Rows.boot_zip (PyProof.Rows.callWith_type1 (thn (ha.run pos pins s σ H _ I h) fun us s1 ⟨vs, H1, I1, r1, q1⟩ => ?_) hs hpl))
  obtain ⟨x, y, ex, q⟩ := q1
  subst ex
  cases r1 with
  | cons r rr =>
    cases rr with
    | cons r' rr =>
      cases rr
      obtain ⟨t1, rfl⟩ := r
      obtain ⟨t2, rfl⟩ := r'
      have fresh5 : ∀ c, c ∈ [s1.heap.objs.size + 4, s1.heap.objs.size + 2, s1.heap.objs.size + 3, s1.heap.objs.size, s1.heap.objs.size + 1] → FpOk X pins H1 c := fun c hcm => by
        have e' : c = s1.heap.objs.size + 4 ∨ c = s1.heap.objs.size + 2 ∨ c = s1.heap.objs.size + 3 ∨ c = s1.heap.objs.size ∨ c = s1.heap.objs.size + 1 := by simpa using hcm
        have hle : s1.heap.objs.size ≤ c := by
          rcases e' with z | z | z | z | z
          · rw [z]; exact Nat.le_add_right _ _
          · rw [z]; exact Nat.le_add_right _ _
          · rw [z]; exact Nat.le_add_right _ _
          · rw [z]; exact Nat.le_refl _
          · rw [z]; exact Nat.le_add_right _ _
        exact I1.fpOk hle (I1.hok.fresh hle)
      refine zip_begins2 (begins_text x t1) (begins_text y t2) trivial trivial fun h' hz hTI hTO h1 h2 hsz hk => wpAny_pyIter_zip hz ?_
      have I2 : Inv X pins σ H1 { s1 with heap := h' } := I1.kept (t' := s1.toks) hk
      exact ⟨s1.heap.objs.size + 4, [s1.heap.objs.size + 4, s1.heap.objs.size + 2, s1.heap.objs.size + 3, s1.heap.objs.size, s1.heap.objs.size + 1], _, _, H1, rfl, I2, turn_zipS (zipS_sep s1.heap.objs.size) x y t1 t2, ⟨hz, hTI, ⟨_, _, hTO⟩, ⟨_, h1, rfl, rfl⟩, ⟨_, h2, rfl, rfl⟩⟩, fresh5, q⟩
end PD

set_option Elab.async false
set_option linter.all false
set_option maxRecDepth 100000
set_option maxHeartbeats 4000000
/-! list.pop(k), list.insert(k, x) of a list of the frame's own. -/
namespace PD
open PySem L2 PySem.Spec PyProof.Rows
theorem list_pop_meets (l : Addr) (items : Array Value) (n : Nat) (x : Int) (u : Tok) (k : Nat) (y : Value) (hc0 : ¬(!Builtin.List.listFitsIndex x) = true) (hc1 : ¬ items.isEmpty = true) (hk : seqIndex? x items.size = some k) (hy : items[k]? = some y) (hsz : items.size ≤ sizeLine) :
    Meets (Builtin.«list.pop» ⟨[.ref l, .int x u], []⟩) (fun _ R s => s.heap.get? l = some { cls := .type "list", dict := none, data := .seq items n, slots := #[] } ∧ R (.ok (.ret y)) { s with heap := s.heap.update l (Obj.mapSeq fun xs => xs.eraseIdxIfInBounds k), toks := s.toks }) :=
  .of_wp fun prog w A R s h => by
    obtain ⟨hp, g, d, tk, os⟩ := s; obtain ⟨hl, h⟩ := h
    have hb : ((seqIndex? x items.size).bind fun k => items[k]?.map (k, ·)) = some (k, y) := by rw [hk]; show items[k]?.map _ = _; rw [hy]; rfl
    have hz' : (items.eraseIdxIfInBounds k).size ≤ sizeLine + 1 := by
      unfold Array.eraseIdxIfInBounds
      split
      · simp; omega
      · omega
    wp_walk using (wpAny_updateSeq hl rfl (hz := hsz) (_hz' := hz'))
    all_goals first | (rw [hb]; wp_walk using (wpAny_updateSeq hl rfl (hz := hsz) (_hz' := hz')); exact ⟨_, rfl, h⟩) | exact ⟨_, rfl, h⟩
theorem vals_take : ∀ {vs : List V} {us : List Value} (_ : Vals vs us) (n : Nat), Vals (vs.take n) (us.take n)
  | _, _, .nil, n => by simp only [List.take_nil]; exact .nil
  | _, _, .cons h r, 0 => by simp only [List.take_zero]; exact .nil
  | _, _, .cons h r, n + 1 => by simp only [List.take_succ_cons]; exact .cons h (vals_take r n)
theorem vals_drop : ∀ {vs : List V} {us : List Value} (_ : Vals vs us) (n : Nat), Vals (vs.drop n) (us.drop n)
  | _, _, .nil, n => by simp only [List.drop_nil]; exact .nil
  | _, _, .cons h r, 0 => by simp only [List.drop_zero]; exact .cons h r
  | _, _, .cons h r, n + 1 => by simp only [List.drop_succ_cons]; exact vals_drop r n
theorem vals_erase : ∀ {vs : List V} {us : List Value} (_ : Vals vs us) (n : Nat), Vals (vs.eraseIdx n) (us.eraseIdx n)
  | _, _, .nil, n => by simp only [List.eraseIdx_nil]; exact .nil
  | _, _, .cons h r, 0 => by simp only [List.eraseIdx_cons_zero]; exact r
  | _, _, .cons h r, n + 1 => by simp only [List.eraseIdx_cons_succ]; exact .cons h (vals_erase r n)
section
variable {X : Cx}
theorem fits_of {n : Int} (h0 : 0 ≤ n) (h1 : n < 2 ^ 62) : ¬ (!Builtin.List.listFitsIndex n) = true := by
  unfold Builtin.List.listFitsIndex
  have a : -(2 ^ 63 : Int) ≤ n := by omega
  have b : n < 2 ^ 63 := by omega
  simp
  omega
def rPop : V → List V → Hp → VK → Prop := fun x vs H Q => ∃ l xs n y, x = .ref l ∧ vs = [.int n] ∧ H l = some (.lst xs) ∧ 0 ≤ n ∧ xs[n.toNat]? = some y ∧ Q y (upd H l (.lst (xs.eraseIdx n.toNat)))
theorem mt_pop : MtM X "list.pop" rPop := by
  intro pins s σ H x vs v us Q I rx rv h
  obtain ⟨l, xs, n, y, rfl, rfl, hH, h0, hy, q⟩ := h
  cases rx
  obtain ⟨u, rfl, ru⟩ := rv.one
  obtain ⟨t, rfl⟩ := ru
  obtain ⟨z, its, c, r, hl, e⟩ := I.lstM hH
  obtain ⟨w, hw, rw'⟩ := r.get hy
  have hlt : n.toNat < its.length := (List.getElem?_eq_some_iff.mp hw).1
  have hn := line63
  have hne : ¬ its.toArray.isEmpty = true := by
    intro q
    have : its = [] := by simpa using q
    rw [this] at hlt; simp at hlt
  have hk : seqIndex? n its.toArray.size = some n.toNat := by
    rw [List.size_toArray]
    exact seqIndex_of h0 (by omega)
  have hw' : its.toArray[n.toNat]? = some w := by simpa using hw
  have hz : its.toArray.size ≤ sizeLine := by rw [List.size_toArray]; omega
  have hfit : ¬ (!Builtin.List.listFitsIndex n) = true := fits_of h0 (by
    have : (2 : Int) ^ 62 = 4611686018427387904 := by decide
    have h2 := sizeLine_eq
    omega)
  refine call_meets F.slot_list_pop ⟨_, e, rfl⟩ F.entry_list_pop (F.args_list_pop_2 _ _) (list_pop_meets l its.toArray c n t n.toNat w hfit hne hk hw' hz) ⟨e, ?_⟩
  refine ⟨y, _, I.lset (its' := its.eraseIdx n.toNat) hH e ?_ ?_ ?_, rw', q⟩
  · unfold Array.eraseIdxIfInBounds
    rw [dif_pos (by rw [List.size_toArray]; exact hlt)]
    simp
  · exact vals_erase r n.toNat
  · rw [List.length_eraseIdx]
    split <;> omega
def rIns : V → List V → Hp → VK → Prop := fun x vs H Q => ∃ l xs n y, x = .ref l ∧ vs = [.int n, y] ∧ H l = some (.lst xs) ∧ 0 ≤ n ∧ n.toNat ≤ xs.length ∧ xs.length < sizeLine ∧ Q .non (upd H l (.lst (xs.take n.toNat ++ y :: xs.drop n.toNat)))
theorem mt_ins : MtM X "list.insert" rIns := by
  intro pins s σ H x vs v us Q I rx rv h
  obtain ⟨l, xs, n, y, rfl, rfl, hH, h0, hle, hlt, q⟩ := h
  cases rx
  cases rv with
  | cons r1 rr =>
    cases rr with
    | cons r2 rr =>
      cases rr
      obtain ⟨t, rfl⟩ := r1
      rename_i u2
      obtain ⟨z, its, c, r, hl, e⟩ := I.lstM hH
      have hn := line63
      have hz : its.toArray.size ≤ sizeLine := by rw [List.size_toArray]; omega
      have hfit : ¬ (!Builtin.List.listFitsIndex n) = true := fits_of h0 (by
        have : (2 : Int) ^ 62 = 4611686018427387904 := by decide
        have h2 := sizeLine_eq
        omega)
      refine call_meets F.slot_list_insert ⟨_, e, rfl⟩ F.entry_list_insert (F.args_list_insert_3 _ _ _) (AutoListH.list_insert_list_int_val_1 l its.toArray c n t u2 hfit hz) ⟨e, ?_⟩
      refine ⟨.non, _, I.lset (its' := its.take n.toNat ++ u2 :: its.drop n.toNat) hH e ?_ ?_ ?_, rfl, q⟩
      · have hneg : ¬ n < 0 := by omega
        have hmin : min n.toNat its.toArray.size = n.toNat := by rw [List.size_toArray]; omega
        simp only [if_neg hneg, hmin]
        apply Array.toList_inj.mp
        simp only [Array.toList_append, Array.toList_push, Array.toList_extract, List.extract_eq_take_drop, List.drop_zero, Nat.sub_zero, List.append_assoc, List.singleton_append]
        rw [List.take_of_length_le (l := List.drop n.toNat its) (by rw [List.length_drop]; simp)]
      · exact (vals_take r n.toNat).append (.cons r2 (vals_drop r n.toNat))
      · simp; omega
end
end PD

set_option Elab.async false
set_option linter.all false
set_option maxRecDepth 100000
set_option maxHeartbeats 4000000
/-! set(list of texts), sorted(that set). -/
namespace PD
open PySem L2 PySem.Spec PyProof.Rows PySem.Froz

theorem perm_of_sub {α : Type} : ∀ {l m : List α}, l.Nodup → (∀ x ∈ l, x ∈ m) → m.length ≤ l.length → m.Perm l
  | [], m, _, _, h => by
    have : m = [] := List.length_eq_zero_iff.mp (Nat.le_zero.mp h)
    rw [this]
  | x :: l, m, nd, hs, h => by
    obtain ⟨m1, m2, rfl⟩ := List.append_of_mem (hs x List.mem_cons_self)
    obtain ⟨n1, n2⟩ := List.nodup_cons.mp nd
    have ih := perm_of_sub (l := l) (m := m1 ++ m2) n2 (fun y hy => by
      have := hs y (List.mem_cons_of_mem _ hy)
      rcases List.mem_append.mp this with q | q
      · exact List.mem_append_left _ q
      · rcases List.mem_cons.mp q with q | q
        · subst q; exact absurd hy n1
        · exact List.mem_append_right _ q) (by
      simp only [List.length_append, List.length_cons] at h ⊢
      omega)
    exact List.perm_middle.trans (ih.cons x)
/-- the set at a holds the texts l, each once; its table can be walked -/
def TxR (P : Program) (w : World) (h : Heap) (a : Addr) (l : List Str) : Prop :=
  ∃ D : SD, h.get? a = some (sObj "set" D) ∧ TxOk P w D l ∧ l.Nodup ∧ Ris D.2.2.place.toList ∧ (w.params.followText "set-order" = true ∨ D.2.2.led = true)
theorem TxR.at {P : Program} {w : World} {h h' : Heap} {a : Addr} {l : List Str} (R : TxR P w h a l) (k : ∀ o, h.get? a = some o → h'.get? a = some o) : TxR P w h' a l := by
  obtain ⟨D, ho, r⟩ := R
  exact ⟨D, k _ ho, r⟩
theorem add_ris {w : World} {D : SD} {k : Str} {u : Tok} (r : Ris D.2.2.place.toList) : Ris (addTx (hashStr w k) (.str k u) D).2.2.place.toList := by
  obtain ⟨es, ep, t⟩ := D
  have h1 := layNew_ris t es (hashStr w k) (.str k u) r
  unfold addTx
  generalize layNew t es (hashStr w k) (.str k u) = Z at h1
  obtain ⟨es1, t1, wd, gv⟩ := Z
  unfold tailTx
  dsimp only at h1 ⊢
  repeat' split
  all_goals first | exact h1 | exact relayAll_ris _ _ _
theorem add_led {w : World} {D : SD} {k : Str} {u : Tok} : (addTx (hashStr w k) (.str k u) D).2.2.led = D.2.2.led := by
  obtain ⟨es, ep, t⟩ := D
  have h1 := layNew_led t es (hashStr w k) (.str k u)
  unfold addTx
  generalize layNew t es (hashStr w k) (.str k u) = Z at h1
  obtain ⟨es1, t1, wd, gv⟩ := Z
  unfold tailTx
  dsimp only at h1 ⊢
  repeat' split
  all_goals first | exact h1 | exact (relayAll_led _ _ _).trans h1
section
variable {P : Program} {w : World} {A : Around} {E : Value → Shared → Prop} {s : Shared} {a : Addr} {l : List Str}
theorem txR_add {k : Str} {u : Tok} {Q : Bool → Shared → Prop} (R : TxR P w s.heap a l) (room : l.length + 1 < scanBound)
    (hQ : ∀ b h', Heap.SameBut a s.heap h' → TxR P w h' a (if k ∈ l then l else k :: l) → Q b { s with heap := h' }) : wpAny (model P w) A (setAddHashed a (.str k u) (hashStr w k)) Q E s := by
  obtain ⟨D, ho, F, nd, hr, hl⟩ := R
  by_cases hk : k ∈ l
  · rw [if_pos hk] at hQ
    obtain ⟨es, ep, t⟩ := D
    have hf : t.fits es.size = true := F.fit
    have hel : ElemsOf (strKind P w) es.toList := F.el
    have hb : es.size < scanBound := by have : es.size = l.length := F.sz; omega
    have hd : (sObj "set" (es, ep, t)).data = .set es ep t := rfl
    have hkey : (strKind P w).is k (.str k u) = true := is_str k u
    unfold setAddHashed setAddHashedIn
    refine wpAny_holding (wpAny_bind (wpAny_setState_of ho hd hf ?_))
    dsimp only
    rw [byScan_of rfl hb hel, if_pos rfl]
    unfold setAddByScan
    refine wpAny_bind (wpAny_bind (wpAny_rule (wpAny_bind (wpAny_setScan_of (knd := strKind P w) (k := k) hkey ho hd hf hel ?_))))
    cases hfi : List.findIdx? (fun e => (strKind P w).is k e.2) es.toList with
    | some j =>
      dsimp only
      exact wpAny_pure (wpAny_pure (hQ _ s.heap (Heap.SameBut.refl a s.heap) ⟨_, ho, F, nd, hr, hl⟩))
    | none =>
      obtain ⟨e, he, q⟩ := (F.mem k).mp hk
      have c := List.findIdx?_eq_none_iff.mp hfi e he
      rw [q] at c
      cases c
  · rw [if_neg hk] at hQ
    exact add_x ho F hk room (hQ _ _ (Heap.SameBut.update s.heap a _) ⟨_, get_upd _ ho rfl, add_ok u F, List.nodup_cons.mpr ⟨hk, nd⟩, add_ris hr, hl.imp id fun z => by rw [add_led]; exact z⟩)
/-- the loop of update -/
theorem txR_loop {I : Addr} {fp wr : List Addr} {G : Array GenState → Array GenState → Prop} {n : Nat} {Pv : Nat → Value → Prop} {St : Nat → Shared → Prop} {R : Result → Shared → Prop}
    (W : WalksS P w A.in1 I fp wr G n Pv St) (S : Addr) (hSf : S ∉ fp) (xs : List Str) (hn : n = xs.length) (hb : xs.length + 1 < scanBound) (hval : ∀ i v, Pv i v → ∃ k t, xs[i]? = some k ∧ v = .str k t) :
    ∀ (k i : Nat) (s : Shared), n - i = k → i ≤ n → St i s → (∃ l, l.length ≤ i ∧ (∀ x, x ∈ l ↔ x ∈ xs.take i) ∧ TxR P w s.heap S l) →
      (∀ s' l, Moved (S :: wr) G s s' → l.length ≤ n → (∀ x, x ∈ l ↔ x ∈ xs) → TxR P w s'.heap S l → R (.ok (.ret .none)) s') →
      codeAny (model P w) A (.builtin "set.update.loop" ⟨[.ref S, .ref I], []⟩) R s := by
  have hSw : S ∉ wr := fun h => hSf (W.sub _ h)
  have hsub : ∀ b ∈ wr, b ∈ S :: wr := fun b hb => List.mem_cons_of_mem _ hb
  intro k
  induction k with
  | zero =>
    rintro i s hk hi hst ⟨l, h1, h2, hS⟩ hR
    obtain rfl : i = n := by omega
    refine codeAny_builtin F.entry_set_update_loop ?_
    rw [Around.under_plainId F.plain_set_update_loop _]
    show wpAny _ A.in1 (pyNext (.ref I) >>= _) _ _ s
    refine wpAny_bind (W.done s _ _ hst fun s' hm => ?_)
    rw [List.take_of_length_le (by omega)] at h2
    exact wpAny_pure (hR s' l (hm.mono hsub) h1 h2 (hS.at fun o e => hm.heap S o hSw e))
  | succ k ih =>
    rintro i s hk hi hst ⟨l, h1, h2, hS⟩ hR
    have hlt : i < n := by omega
    refine codeAny_builtin F.entry_set_update_loop ?_
    rw [Around.under_plainId F.plain_set_update_loop _]
    show wpAny _ A.in1 (pyNext (.ref I) >>= _) _ _ s
    refine wpAny_bind (W.item i s _ _ hlt hst fun v s' hP hst' hm => ?_)
    obtain ⟨z, t, hz, rfl⟩ := hval i v hP
    have hS' : TxR P w s'.heap S l := hS.at fun o e => hm.heap S o hSw e
    show wpAny _ A.in1 (holding [Value.str z t] (setAdd S (.str z t)) >>= _) _ _ s'
    refine wpAny_bind (wpAny_holding ?_)
    unfold setAdd
    refine wpAny_holding (wpAny_bind ((strKind P w).pyHash (k := z) (is_str z t) ?_))
    refine txR_add (s := { s' with toks := s'.toks + 1 }) hS' (by omega) fun b h' hsb hS2 => ?_
    have hl2 : (if z ∈ l then l else z :: l).length ≤ i + 1 := by
      split
      · omega
      · rw [List.length_cons]; omega
    have hm2 : ∀ x, x ∈ (if z ∈ l then l else z :: l) ↔ x ∈ xs.take (i + 1) := fun x => by
      rw [List.take_add_one, hz]
      split
      · rename_i hzl
        rw [h2 x, List.mem_append]
        refine ⟨.inl, fun q => q.elim id fun q => ?_⟩
        have e : x = z := by simpa using q
        rw [e]; exact (h2 z).mp hzl
      · rw [List.mem_cons, h2 x, List.mem_append]
        simp [or_comm]
    refine wpAny_pure ⟨plainId_quiet F.plain_set_update_loop _, ih (i + 1) _ (by omega) hlt (W.frame _ s' _ _ hst' (Nat.le_succ _) fun b hb o e => ?_) ⟨_, hl2, hm2, hS2⟩ fun s'' c2 hm'' hc'' hx'' hS'' => ?_⟩
    · rw [hsb.2 b (fun h : b = S => hSf (by rw [← h]; exact hb))]; exact e
    · refine hR s'' c2 (Moved.trans W.gtrans ((hm.mono hsub).then_heap (Nat.le_succ _) fun b o hb e => ?_) hm'') hc'' hx'' hS''
      rw [hsb.2 b (fun h : b = S => hb (by rw [h]; exact List.mem_cons_self))]; exact e
theorem txR_new {h : Heap} (ho : h.get? a = some { cls := .type "set", dict := none, data := .set #[] 0 (.fresh 0 0 (!w.params.followText "set-order")) }) : TxR P w h a [] :=
  ⟨(#[], 0, _), ho, TxOk.nil rfl, List.nodup_nil, List.Pairwise.nil, by
    show _ ∨ (!w.params.followText "set-order") = true
    cases w.params.followText "set-order"
    · exact .inr rfl
    · exact .inl rfl⟩

set_option maxHeartbeats 3200000 in
theorem call_set_txts {l : Addr} {items : Array Value} (xs : List Str) {Q : Value → Shared → Prop} (hh : A.handled = none) (hl : s.heap.IsList l items) (hit : ∀ (i : Nat) (v : Value), items[i]? = some v → ∃ k t, xs[i]? = some k ∧ v = Value.str k t) (hisz : items.size = xs.length) (hb : xs.length + 1 < scanBound)
    (h : ∀ (h' : Heap) (tk : Nat) ks, TxR P w h' s.heap.objs.size ks → ks.length ≤ xs.length → (∀ x, x ∈ ks ↔ x ∈ xs) → (∀ b o, s.heap.get? b = some o → h'.get? b = some o) → Q (.ref s.heap.objs.size) { s with heap := h', toks := tk }) :
    wpAny (model P w) A (call (.type "set") [.ref l]) Q E s := by
  obtain ⟨c, tl, hmro⟩ := F.called_set.mro
  have hmade := F.called_set.made
  have hsub := F.called_set.sub
  refine wpAny_call (codeAny_of_tree ?_)
  show wpAny _ _ (callAny (.type "set") _) _ _ _
  refine wpAny_pure ⟨Code.quiet_builtin _ (by decide +kernel), codeAny_builtin F.entry_type_call ?_⟩
  rw [Around.under_plain (weight_type_call_type "set" [.ref l] []) rfl]
  have h1 := F.called_set.notType
  have h2 := F.called_set.canCreate
  have hct := F.typeCall_set_1 (.ref l)
  repeat (any_goals (first | assumption | wp_step))
  generalize hO : ({ cls := .type "set", dict := none, data := .set #[] 0 (.fresh 0 0 (!w.params.followText "set-order")) } : Obj) = O
  refine codeAny_mono (code_set_led1 (.ref l) (E := E) (Q₁ := fun obj s₁ => obj = .ref s.heap.objs.size ∧ s₁ = { s with heap := s.heap.push O }) ⟨rfl, by rw [← hO]⟩) fun r s₁ hr => ?_
  cases r with
  | error e => exact hr
  | ok fl =>
    cases fl with
    | ret obj =>
      obtain ⟨rfl, rfl⟩ := hr
      have hfr : O.isFreed = false := by rw [← hO]; rfl
      have hS : (s.heap.push O).get? s.heap.objs.size = some O := Heap.get?_push_size _ hfr
      have hT : Shared.TypeIs { s with heap := s.heap.push O } (.ref s.heap.objs.size) "set" := ⟨_, hS, by rw [← hO]⟩
      have hli := F.called_set.init.lookup
      have hbi := F.called_set.init.bind (.ref s.heap.objs.size)
      repeat (any_goals (first | assumption | wp_step))
      refine codeAny_mono (codeAny_call_builtin (R := wants (fun r s₂ => r = .none ∧ ∃ h' tk ks, s₂ = { s with heap := h', toks := tk } ∧ TxR P w h' s.heap.objs.size ks ∧ ks.length ≤ xs.length ∧ (∀ x, x ∈ ks ↔ x ∈ xs) ∧
          (∀ b o, s.heap.get? b = some o → h'.get? b = some o)) E) F.called_set.init.plain F.entry_set_init (check_set_init_1 hT ?_)) fun r₂ s₂ hr₂ => ?_
      · obtain ⟨⟨ocls, odict, odata, oslots⟩, hol, hcl, nl, hdl⟩ := hl
        simp only at hcl hdl
        subst hcl; subst hdl
        subst hO
        have hol' := Heap.get?_push_of_some { cls := .type "set", dict := none, data := .set #[] 0 (.fresh 0 0 (!w.params.followText "set-order")) } hol
        have hsls := F.sub_list_set
        have hslf := F.sub_list_frozenset
        have hne : (Value.type "list" == Value.type "dict") = false := by decide
        have hl1 : (s.heap.push { cls := .type "set", dict := none, data := .set #[] 0 (.fresh 0 0 (!w.params.followText "set-order")) }).IsList l items := ⟨_, hol', rfl, nl, rfl⟩
        unfold Builtin.«set.__init__» noKeywords Builtin.Frozenset.updateFrom
        generalize hPI : pyIter = PI
        wp_walk
        subst hPI
        refine wpAny_pyIter_list hl1 ?_
        refine wpAny_bind (wpAny_runValue ?_)
        have hlS : l < s.heap.objs.size := Heap.lt_size hol
        have hh3 : A.in1.in1.in1.handled = none := by simp [hh]
        have hz1 : (s.heap.push { cls := .type "set", dict := none, data := .set #[] 0 (.fresh 0 0 (!w.params.followText "set-order")) }).objs.size = s.heap.objs.size + 1 := Heap.size_push ..
        have hneI : l ≠ (s.heap.push { cls := .type "set", dict := none, data := .set #[] 0 (.fresh 0 0 (!w.params.followText "set-order")) }).objs.size := by rw [hz1]; exact Nat.ne_of_lt (Nat.lt_succ_of_lt hlS)
        have hSf : s.heap.objs.size ∉ [(s.heap.push { cls := .type "set", dict := none, data := .set #[] 0 (.fresh 0 0 (!w.params.followText "set-order")) }).objs.size, l] := by
          rw [hz1]
          intro hm
          have : s.heap.objs.size = s.heap.objs.size + 1 ∨ s.heap.objs.size = l := by simpa using hm
          rcases this with q | q
          · exact absurd q (Nat.ne_of_lt (Nat.lt_succ_self _))
          · exact absurd q.symm (Nat.ne_of_lt hlS)
        have none_of : ∀ b, s.heap.objs.size ≤ b → s.heap.get? b = none := fun b hb => by
          cases q : s.heap.get? b with
          | none => rfl
          | some o => exact absurd (Nat.lt_of_lt_of_le (Heap.lt_size q) hb) (Nat.lt_irrefl _)
        refine txR_loop ((Walks.list hh3 _ l hneI items).toS) s.heap.objs.size hSf xs hisz hb hit (items.size - 0) 0 _ (by omega) (Nat.zero_le _)
          ⟨⟨_, Heap.get?_push_size _ rfl, rfl, rfl⟩, (hl1.push _)⟩ ⟨[], Nat.zero_le _, fun x => by simp, txR_new (Heap.get?_push_of_some _ hS)⟩ fun s' ks hm hc' hx' hS' => ?_
        obtain ⟨h', g2, d', tk', os'⟩ := s'
        obtain rfl : g2 = s.gens := hm.gens
        obtain rfl : d' = s.drawn := hm.drawn
        obtain rfl : os' = s.os := hm.os
        show wpAny _ _ _ _ _ _
        refine wpAny_pure ?_
        show wpAny _ _ (ret Value.none) _ _ _
        refine wpAny_pure ⟨rfl, h', tk', ks, rfl, hS', by omega, hx', fun b o e => ?_⟩
        have hbl : b < s.heap.objs.size := Heap.lt_size e
        refine hm.heap b o (fun z => ?_) (Heap.get?_push_of_some _ (Heap.get?_push_of_some _ e))
        have z' : b = s.heap.objs.size ∨ b = (s.heap.push { cls := .type "set", dict := none, data := .set #[] 0 (.fresh 0 0 (!w.params.followText "set-order")) }).objs.size := by simpa using z
        rcases z' with q | q
        · exact absurd q (Nat.ne_of_lt hbl)
        · rw [hz1] at q
          exact absurd q (Nat.ne_of_lt (Nat.lt_succ_of_lt hbl))
      · cases r₂ with
        | error e => exact hr₂
        | ok fl₂ =>
          cases fl₂ with
          | ret r =>
            obtain ⟨rfl, h', tk, ks, rfl, hS', g1, g2, hk'⟩ := hr₂
            repeat (any_goals (first | assumption | wp_step))
            exact h _ _ _ hS' g1 g2 hk'
          | _ => exact hr₂.elim
    | _ => exact hr.elim

set_option maxHeartbeats 3200000 in
theorem call_set_str (x : Str) (t : Tok) (xs : List Str) (hxs : xs = x.cps.toList.map fun c => (⟨#[c]⟩ : Str)) {Q : Value → Shared → Prop} (hh : A.handled = none) (hb : xs.length + 1 < scanBound)
    (h : ∀ (h' : Heap) (tk : Nat) ks, TxR P w h' s.heap.objs.size ks → ks.length ≤ xs.length → (∀ x, x ∈ ks ↔ x ∈ xs) → (∀ b o, s.heap.get? b = some o → h'.get? b = some o) → Q (.ref s.heap.objs.size) { s with heap := h', toks := tk }) :
    wpAny (model P w) A (call (.type "set") [.str x t]) Q E s := by
  obtain ⟨c, tl, hmro⟩ := F.called_set.mro
  have hmade := F.called_set.made
  have hsub := F.called_set.sub
  refine wpAny_call (codeAny_of_tree ?_)
  show wpAny _ _ (callAny (.type "set") _) _ _ _
  refine wpAny_pure ⟨Code.quiet_builtin _ (by decide +kernel), codeAny_builtin F.entry_type_call ?_⟩
  rw [Around.under_plain (weight_type_call_type "set" [.str x t] []) rfl]
  have h1 := F.called_set.notType
  have h2 := F.called_set.canCreate
  have hct := F.typeCall_set_1 (.str x t)
  repeat (any_goals (first | assumption | wp_step))
  generalize hO : ({ cls := .type "set", dict := none, data := .set #[] 0 (.fresh 0 0 (!w.params.followText "set-order")) } : Obj) = O
  refine codeAny_mono (code_set_led1 (.str x t) (E := E) (Q₁ := fun obj s₁ => obj = .ref s.heap.objs.size ∧ s₁ = { s with heap := s.heap.push O }) ⟨rfl, by rw [← hO]⟩) fun r s₁ hr => ?_
  cases r with
  | error e => exact hr
  | ok fl =>
    cases fl with
    | ret obj =>
      obtain ⟨rfl, rfl⟩ := hr
      have hfr : O.isFreed = false := by rw [← hO]; rfl
      have hS : (s.heap.push O).get? s.heap.objs.size = some O := Heap.get?_push_size _ hfr
      have hT : Shared.TypeIs { s with heap := s.heap.push O } (.ref s.heap.objs.size) "set" := ⟨_, hS, by rw [← hO]⟩
      have hli := F.called_set.init.lookup
      have hbi := F.called_set.init.bind (.ref s.heap.objs.size)
      repeat (any_goals (first | assumption | wp_step))
      refine codeAny_mono (codeAny_call_builtin (R := wants (fun r s₂ => r = .none ∧ ∃ h' tk ks, s₂ = { s with heap := h', toks := tk } ∧ TxR P w h' s.heap.objs.size ks ∧ ks.length ≤ xs.length ∧ (∀ x, x ∈ ks ↔ x ∈ xs) ∧
          (∀ b o, s.heap.get? b = some o → h'.get? b = some o)) E) F.called_set.init.plain F.entry_set_init (check_set_init_1 hT ?_)) fun r₂ s₂ hr₂ => ?_
      · subst hO
        have hsls := F.sub_str_set
        have hslf := F.sub_str_frozenset
        have hne : (Value.type "str" == Value.type "dict") = false := by decide
        unfold Builtin.«set.__init__» noKeywords Builtin.Frozenset.updateFrom
        generalize hPI : pyIter = PI
        wp_walk
        subst hPI
        refine wpAny_pyIter_str fun oI St hW hSt => ?_
        refine wpAny_bind (wpAny_runValue ?_)
        have hh3 : A.in1.in1.in1.handled = none := by simp [hh]
        have hz1 : (s.heap.push { cls := .type "set", dict := none, data := .set #[] 0 (.fresh 0 0 (!w.params.followText "set-order")) }).objs.size = s.heap.objs.size + 1 := Heap.size_push ..
        have hSf : s.heap.objs.size ∉ [(s.heap.push { cls := .type "set", dict := none, data := .set #[] 0 (.fresh 0 0 (!w.params.followText "set-order")) }).objs.size] := by
          rw [hz1]
          intro hm
          have q : s.heap.objs.size = s.heap.objs.size + 1 := by simpa using hm
          exact absurd q (Nat.ne_of_lt (Nat.lt_succ_self _))
        have hisz : x.cps.size = xs.length := by rw [hxs]; simp
        have hit : ∀ (i : Nat) (v : Value), SignAt x i v → ∃ k t, xs[i]? = some k ∧ v = Value.str k t := fun i v ⟨c, u, hc, hv⟩ => ⟨⟨#[c]⟩, u, by rw [hxs, List.getElem?_map, Array.getElem?_toList, hc]; rfl, hv⟩
        refine txR_loop ((hW _ hh3).toS) s.heap.objs.size hSf xs hisz hb hit (x.cps.size - 0) 0 _ (by omega) (Nat.zero_le _)
          hSt ⟨[], Nat.zero_le _, fun x => by simp, txR_new (Heap.get?_push_of_some _ hS)⟩ fun s' ks hm hc' hx' hS' => ?_
        obtain ⟨h', g2, d', tk', os'⟩ := s'
        obtain rfl : g2 = s.gens := hm.gens
        obtain rfl : d' = s.drawn := hm.drawn
        obtain rfl : os' = s.os := hm.os
        show wpAny _ _ _ _ _ _
        refine wpAny_pure ?_
        show wpAny _ _ (ret Value.none) _ _ _
        refine wpAny_pure ⟨rfl, h', tk', ks, rfl, hS', by omega, hx', fun b o e => ?_⟩
        have hbl : b < s.heap.objs.size := Heap.lt_size e
        refine hm.heap b o (fun z => ?_) (Heap.get?_push_of_some _ (Heap.get?_push_of_some _ e))
        have z' : b = s.heap.objs.size ∨ b = (s.heap.push { cls := .type "set", dict := none, data := .set #[] 0 (.fresh 0 0 (!w.params.followText "set-order")) }).objs.size := by simpa using z
        rcases z' with q | q
        · exact absurd q (Nat.ne_of_lt hbl)
        · rw [hz1] at q
          exact absurd q (Nat.ne_of_lt (Nat.lt_succ_of_lt hbl))
      · cases r₂ with
        | error e => exact hr₂
        | ok fl₂ =>
          cases fl₂ with
          | ret r =>
            obtain ⟨rfl, h', tk, ks, rfl, hS', g1, g2, hk'⟩ := hr₂
            repeat (any_goals (first | assumption | wp_step))
            exact h _ _ _ hS' g1 g2 hk'
          | _ => exact hr₂.elim
    | _ => exact hr.elim

/-! ### sorted -/
theorem str_of_is {k : Str} {v : Value} (h : (strKind P w).is k v = true) : ∃ t, v = .str k t := by
  have h' : Value.isStrOf k v = true := h
  cases v with
  | str y t =>
    have : y = k := by simpa [Value.isStrOf] using h'
    exact ⟨t, by rw [this]⟩
  | _ => simp [Value.isStrOf] at h'
def keyS : Value → Str
  | .str x _ => x
  | _ => Str.empty
theorem txR_keys {es : Array (Int × Value)} {ep : Nat} {t : SetTable} {l : List Str} (F : TxOk P w (es, ep, t) l) (nd : l.Nodup) : (∀ e ∈ es.toList, ∃ k u, e.2 = .str k u) ∧ (es.toList.map fun e => keyS e.2).Perm l := by
  have h1 : ∀ e ∈ es.toList, ∃ k u, e.2 = .str k u := fun e he => by
    obtain ⟨⟨k, hk, _⟩, _⟩ := F.el e he
    obtain ⟨u, q⟩ := str_of_is hk
    exact ⟨k, u, q⟩
  refine ⟨h1, ?_⟩
  have hm : ∀ k, k ∈ l ↔ k ∈ es.toList.map fun e => keyS e.2 := fun k => by
    rw [F.mem k, List.mem_map]
    refine ⟨fun ⟨e, he, q⟩ => ⟨e, he, ?_⟩, fun ⟨e, he, q⟩ => ⟨e, he, ?_⟩⟩
    · obtain ⟨u, z⟩ := str_of_is q
      rw [z]; rfl
    · obtain ⟨k', u, z⟩ := h1 e he
      rw [z] at q ⊢
      obtain rfl : k' = k := q
      exact is_str k' u
  have hlen : (es.toList.map fun e => keyS e.2).length = l.length := by
    rw [List.length_map, Array.length_toList]
    exact F.sz
  exact perm_of_sub nd (fun k hk => (hm k).mp hk) (by omega)
end
end PD

set_option Elab.async false
set_option linter.all false
set_option maxRecDepth 100000
set_option maxHeartbeats 4000000
/-! sorted(set(list of texts)). -/
namespace PD
open PySem L2 PySem.Spec PyProof.Rows PySem.Froz
open PySem.W (EachIs)

/-! ### rising lists of codes -/
theorem rise_ext : ∀ {l m : List (List Nat)}, l.Pairwise (· < ·) → m.Pairwise (· < ·) → (∀ x, x ∈ l ↔ x ∈ m) → l = m
  | [], [], _, _, _ => rfl
  | [], y :: m, _, _, h => absurd ((h y).mpr List.mem_cons_self) (by simp)
  | x :: l, [], _, _, h => absurd ((h x).mp List.mem_cons_self) (by simp)
  | x :: l, y :: m, hl, hm, h => by
    obtain ⟨l1, l2⟩ := List.pairwise_cons.mp hl
    obtain ⟨m1, m2⟩ := List.pairwise_cons.mp hm
    have e : x = y := by
      rcases List.mem_cons.mp ((h x).mp List.mem_cons_self) with q | q
      · exact q
      · rcases List.mem_cons.mp ((h y).mpr List.mem_cons_self) with z | z
        · exact z.symm
        · exact absurd (List.lt_trans (m1 x q) (l1 y z)) (List.lt_irrefl _)
    subst e
    rw [rise_ext l2 m2 fun z => ?_]
    constructor
    · intro hz
      rcases List.mem_cons.mp ((h z).mp (List.mem_cons_of_mem _ hz)) with q | q
      · subst q; exact absurd (l1 z hz) (List.lt_irrefl _)
      · exact q
    · intro hz
      rcases List.mem_cons.mp ((h z).mpr (List.mem_cons_of_mem _ hz)) with q | q
      · subst q; exact absurd (m1 z hz) (List.lt_irrefl _)
      · exact q
theorem insS_mem (a : List Nat) : ∀ (l : List (List Nat)) (x : List Nat), x ∈ insS a l ↔ x = a ∨ x ∈ l
  | [], x => by simp [insS]
  | b :: r, x => by
    unfold insS
    split
    · simp
    · split
      · rename_i e
        subst e
        simp
      · simp only [List.mem_cons, insS_mem a r x]
        exact ⟨fun h => by rcases h with h | h | h <;> simp [h], fun h => by rcases h with h | h | h <;> simp [h]⟩
theorem lt_of_not {a b : List Nat} (h1 : ¬ a < b) (h2 : a ≠ b) : b < a := by
  rcases Classical.em (b < a) with h | h
  · exact h
  · exact absurd (List.le_antisymm (List.not_lt.mp h) (List.not_lt.mp h1)) h2
theorem insS_rise (a : List Nat) : ∀ (l : List (List Nat)), l.Pairwise (· < ·) → (insS a l).Pairwise (· < ·)
  | [], _ => by simp [insS]
  | b :: r, h => by
    obtain ⟨h1, h2⟩ := List.pairwise_cons.mp h
    unfold insS
    split
    · rename_i c
      refine List.pairwise_cons.mpr ⟨fun y hy => ?_, h⟩
      rcases List.mem_cons.mp hy with q | q
      · subst q; exact c
      · exact List.lt_trans c (h1 y q)
    · rename_i c
      split
      · exact h
      · rename_i d
        refine List.pairwise_cons.mpr ⟨fun y hy => ?_, insS_rise a r h2⟩
        rcases (insS_mem a r y).mp hy with q | q
        · subst q; exact lt_of_not c d
        · exact h1 y q
theorem foldS (ss : List (List Nat)) : ∀ acc : List (List Nat), acc.Pairwise (· < ·) → (ss.foldl (fun acc a => insS a acc) acc).Pairwise (· < ·) ∧ ∀ x, x ∈ ss.foldl (fun acc a => insS a acc) acc ↔ x ∈ ss ∨ x ∈ acc := by
  induction ss with
  | nil => intro acc h; exact ⟨h, fun x => by simp⟩
  | cons a r ih =>
    intro acc h
    obtain ⟨i1, i2⟩ := ih (insS a acc) (insS_rise a acc h)
    refine ⟨i1, fun x => ?_⟩
    rw [List.foldl_cons, i2 x, insS_mem, List.mem_cons]
    constructor
    · rintro (h | h | h) <;> simp [h]
    · rintro ((h | h) | h) <;> simp [h]
theorem sortSet_rise (ss : List (List Nat)) : (sortSetS ss).Pairwise (· < ·) := (foldS ss [] List.Pairwise.nil).1
theorem sortSet_mem (ss : List (List Nat)) (x : List Nat) : x ∈ sortSetS ss ↔ x ∈ ss := by
  rw [sortSetS, (foldS ss [] List.Pairwise.nil).2 x]
  simp
def leS (a b : Str) : Bool := decide (a.cps.toList ≤ b.cps.toList)
theorem tx_self (x : Str) : tx x.cps.toList = x := by cases x; rfl
/-- the sorted texts of a set are the codes' rising list -/
theorem sort_eq {ks : List Str} {ss : List (List Nat)} (nd : ks.Nodup) (h : ∀ x, x ∈ ks ↔ x ∈ ss.map tx) : ks.mergeSort leS = (sortSetS ss).map tx := by
  have tr : ∀ a b c : Str, leS a b = true → leS b c = true → leS a c = true := fun a b c h1 h2 => decide_eq_true (List.le_trans (of_decide_eq_true h1) (of_decide_eq_true h2))
  have tot : ∀ a b : Str, (leS a b || leS b a) = true := fun a b => by
    rcases List.le_total a.cps.toList b.cps.toList with q | q
    · rw [show leS a b = true from decide_eq_true q]; rfl
    · rw [show leS b a = true from decide_eq_true q, Bool.or_true]
  have pw := List.pairwise_mergeSort tr tot ks
  have pm := List.mergeSort_perm ks leS
  have nd2 : (ks.mergeSort leS).Nodup := pm.nodup_iff.mpr nd
  have e : (ks.mergeSort leS).map (fun x => x.cps.toList) = sortSetS ss := by
    refine rise_ext ?_ (sortSet_rise ss) fun x => ?_
    · rw [List.pairwise_map]
      have both := List.pairwise_and_iff.mpr ⟨pw, nd2⟩
      refine both.imp fun {a b} h => ?_
      have h1 : a.cps.toList ≤ b.cps.toList := of_decide_eq_true h.1
      rcases Classical.em (a.cps.toList < b.cps.toList) with q | q
      · exact q
      · refine absurd ?_ h.2
        have := List.le_antisymm h1 (List.not_lt.mp q)
        rw [← tx_self a, this, tx_self]
    · rw [sortSet_mem, List.mem_map]
      constructor
      · rintro ⟨y, hy, rfl⟩
        obtain ⟨z, hz, rfl⟩ := List.mem_map.mp ((h y).mp (pm.mem_iff.mp hy))
        exact hz
      · intro hx
        exact ⟨tx x, pm.mem_iff.mpr ((h _).mpr (List.mem_map.mpr ⟨x, hx, rfl⟩)), rfl⟩
  rw [← e, List.map_map]
  exact (List.map_id' _).symm.trans (List.map_congr_left fun x _ => (tx_self x).symm)
theorem txs_id (l : List Str) : (l.map fun x => x.cps.toList).map tx = l := by
  rw [List.map_map]
  exact (List.map_congr_left fun y _ => tx_self y).trans (List.map_id' l)
section
variable {P : Program} {w : World} {A : Around} {E : Value → Shared → Prop} {s : Shared} {a : Addr} {l : List Str}
abbrev IsTx (v : Value) (x : Str) : Prop := ∃ t, v = Value.str x t
theorem each_keys' : ∀ (vs : List Value), (∀ v ∈ vs, ∃ k u, v = Value.str k u) → EachIs IsTx vs (vs.map keyS)
  | [], _ => .nil
  | v :: vs, h => by
    obtain ⟨k, u, rfl⟩ := h v List.mem_cons_self
    exact .cons ⟨u, rfl⟩ (each_keys' vs fun x hx => h x (List.mem_cons_of_mem _ hx))
theorem each_vals : ∀ {vs : List Value} {bs : List Str}, EachIs IsTx vs bs → Vals (bs.map V.str) vs
  | _, _, .nil => .nil
  | _, _, .cons ⟨t, e⟩ r => by subst e; exact .cons ⟨t, rfl⟩ (each_vals r)
theorem sorted_txts {Q : Value → Shared → Prop} (R : TxR P w s.heap a l) (hh : A.handled = none) (hb : l.length < scanBound) (hu : A.units + 4 < cLine)
    (hQ : ∀ s' p (out : List Value) (c : Nat), (∀ b o, s.heap.get? b = some o → s'.heap.get? b = some o) → s'.gens = s.gens → s'.os = s.os → s.heap.objs.size ≤ p →
      s'.heap.get? p = some (seqObj "list" out.toArray c) → EachIs IsTx out (l.mergeSort leS) → Q (.ref p) s') :
    wpAny (model P w) A (call (.builtin "sorted") [.ref a]) Q E s := by
  obtain ⟨⟨es, ep, t⟩, ho, F, nd, hr, hl⟩ := R
  have hsz : es.size = l.length := F.sz
  obtain ⟨k1, k2⟩ := txR_keys F nd
  refine Calls.call_function_entry kind_sorted plain_sorted entry_sorted (args_sorted1 _) ?_
  unfold Builtin.«sorted»
  refine wpAny_bind (m := checkCount "sorted" 1 1 _) (wpAny_pure ?_)
  refine wpAny_bind (collect_set (A := A.in1) hh ⟨_, ho, rfl, rfl⟩ F.fit (by rw [hsz]; exact hb) hr hl fun s1 vs kp hz g1 o1 pm => ?_)
  have hv : ∀ v ∈ vs, ∃ k u, v = Value.str k u := fun v hv => by
    obtain ⟨e, he, q⟩ := List.mem_map.mp (pm.mem_iff.mp hv)
    rw [← q]; exact k1 e he
  have pk : (vs.map keyS).Perm l := by
    have q := pm.map keyS
    rw [List.map_map] at q
    exact q.trans k2
  have hvl : vs.length = l.length := by rw [← List.length_map (f := keyS)]; exact pk.length_eq
  have hfit : vs.length ≤ sizeLine := by rw [hvl]; exact fits_of_scanBound hb
  refine wpAny_bind (wpAny_newList ?_ hfit)
  have hoL : (s1.heap.push (seqObj "list" vs.toArray 0)).get? s1.heap.objs.size = some (seqObj "list" vs.toArray 0) := Heap.get?_push_size _ rfl
  have e0 := each_keys' vs hv
  refine wpAny_bind (wpAny_holding (PySem.W.list_sort_data (R := IsTx) (enc := fun x : Str => PyData.str x) (s := { s1 with heap := s1.heap.push (seqObj "list" vs.toArray 0) }) hoL e0 (e0.mono fun v x ⟨u, q⟩ => ⟨[], by rw [q]; exact .str _ _, by simp⟩)
    (PySem.W.AllAlike.of fun b b' => by simp [PySem.W.alike]) (PySem.W.Sortable.others fun b => ⟨by simp, by simp⟩) (by rw [List.length_map]; exact hfit) (fun b _ => ?_) fun out ho2 eo => ?_))
  · show A.in1.units + 1 + (PyData.str b).depth < cLine
    have : (PyData.str b).depth = 0 := by simp [PyData.depth]
    rw [this]
    have : A.in1.units ≤ A.units + 1 := by first | exact Nat.le_refl _
    omega
  · obtain ⟨c, hc⟩ := sortedHeap_at (vs := vs) (out := out.toArray) hoL
    rw [PySem.W.dataLe_str (k := fun b : Str => b)] at eo
    have em : (vs.map keyS).mergeSort leS = l.mergeSort leS := by
      have q := sort_eq (ss := l.map fun x => x.cps.toList) (pk.nodup_iff.mpr nd) fun x => by
        rw [pk.mem_iff, txs_id]
      have q2 := sort_eq (ss := l.map fun x => x.cps.toList) nd fun x => by
        rw [txs_id]
      rw [q, q2]
    have eo' : EachIs IsTx out (l.mergeSort leS) := by rw [← em]; exact eo
    refine wpAny_pure ⟨_, rfl, hQ _ s1.heap.objs.size out c (fun b u e => ?_) g1 o1 hz hc eo'⟩
    have q := kp b u e
    have hlt := Heap.lt_size q
    show (sortedHeap (s1.heap.push (seqObj "list" vs.toArray 0)) s1.heap.objs.size vs out.toArray).get? b = some u
    rw [sortedHeap_old (Nat.ne_of_lt hlt) (by rw [size_push']; exact Nat.lt_succ_of_lt hlt)]
    exact Heap.get?_push_of_some _ q
end
section
variable {X : Cx}
def TxO (P : Program) (w : World) (a : Addr) (l : List Str) : HO := .ext fun h => TxR P w h a l
theorem txO_new {P : Program} {w : World} {H : Hp} {h : Heap} {a : Addr} {l : List Str} (R : TxR P w h a l) : ObjOk P w H h a (TxO P w a l) := by
  obtain ⟨D, ho, r⟩ := id R
  exact ⟨R, ⟨_, ho⟩, fun h1 h2 p k => TxR.at p k⟩
/-- set(xs), xs a list of texts -/
def rSetTx (K : PySem.W.Frag) (P : Program) (w : World) : List V → Hp → VK → Prop := fun xs H Q => ∃ (ss : List Str), ((∃ l : Addr, xs = [V.ref l] ∧ SqL K H l (ss.map V.str)) ∨ ∃ x : Str, xs = [V.str x] ∧ ss = x.cps.toList.map fun c => (⟨#[c]⟩ : Str)) ∧ ss.length + 1 < scanBound ∧
  ∀ a ks, H a = none → ks.Nodup → ks.length ≤ ss.length → (∀ x, x ∈ ks ↔ x ∈ ss) → Q (.ref a) (upd H a (TxO P w a ks))
theorem cr_setTx (hc : X.calm = true) : CallR X (.type "set") (rSetTx X.K X.prog X.w) := by
  intro pins s σ H xs us Q I r h
  obtain ⟨ss, hk, hf, q⟩ := h
  have hn : H s.heap.objs.size = none := I.hok.fresh (Nat.le_refl _)
  rcases hk with ⟨l, rfl, hl⟩ | ⟨x, rfl, hx⟩
  case inr =>
    obtain ⟨u, rfl, t, rfl⟩ := r.one
    refine call_set_str (P := X.prog) (w := X.w) x t ss hx (I.ok.hd hc) hf fun h' tk ks R g1 g2 k => ?_
    obtain ⟨D, _, _, nd, _⟩ := id R
    exact ⟨.ref s.heap.objs.size, upd H s.heap.objs.size (TxO X.prog X.w s.heap.objs.size ks), I.laid (t' := tk) k (Nat.le_refl _) (txO_new R), rfl, q _ ks hn nd g1 g2⟩
  rw [Vals.ref1 r]
  obtain ⟨its, rv, pl, hz⟩ := I.list hl
  have hlen := rv.length
  rw [List.length_map] at hlen
  refine call_set_txts (P := X.prog) (w := X.w) ss (I.ok.hd hc) pl.isList (fun i v hv => ?_) (by simp; omega) hf fun h' tk ks R g1 g2 k => ?_
  · have hv' : its[i]? = some v := by simpa using hv
    have hi : i < its.length := (List.getElem?_eq_some_iff.mp hv').1
    have hi2 : i < ss.length := by omega
    have hx : (ss.map V.str)[i]? = some (V.str ss[i]) := by rw [List.getElem?_map, List.getElem?_eq_getElem hi2]; rfl
    obtain ⟨u, hu, ⟨t, e⟩⟩ := rv.get hx
    rw [hv'] at hu
    cases hu
    exact ⟨_, t, List.getElem?_eq_getElem hi2, e⟩
  · obtain ⟨D, _, _, nd, _⟩ := id R
    exact ⟨.ref s.heap.objs.size, upd H s.heap.objs.size (TxO X.prog X.w s.heap.objs.size ks), I.laid (t' := tk) k (Nat.le_refl _) (txO_new R), rfl, q _ ks hn nd g1 g2⟩
def rSortTx (P : Program) (w : World) : List V → Hp → VK → Prop := fun vs H Q => ∃ (a : Addr) (l : List Str), vs = [V.ref a] ∧ H a = some (TxO P w a l) ∧ l.length < scanBound ∧
  ∀ p, H p = none → Q (.ref p) (upd H p (.lst ((l.mergeSort leS).map V.str)))
theorem cr_sortTx (hc : X.calm = true) (hu : X.A.units + 4 < cLine) : CallR X (.builtin "sorted") (rSortTx X.prog X.w) := by
  intro pins s σ H vs us Q I r h
  obtain ⟨a, l, rfl, ha, hb, q⟩ := h
  have R : TxR X.prog X.w s.heap a l := (I.hok a _ ha).1
  rw [Vals.ref1 r]
  refine sorted_txts R (I.ok.hd hc) hb hu fun s' p out c k g o hp hg eo => ?_
  have hv := each_vals eo
  have hlen : ((l.mergeSort leS).map V.str).length ≤ sizeLine := by
    rw [List.length_map, (List.mergeSort_perm l leS).length_eq]; exact fits_of_scanBound hb
  have hn : H p = none := I.hok.fresh hp
  have J : Inv X pins σ (upd H p (.lst ((l.mergeSort leS).map V.str))) { s with heap := s'.heap, gens := s'.gens, drawn := s'.drawn, toks := s'.toks } :=
    I.call (ch := []) (Un.laid k hp hn) (I.hok.laid k hp ⟨hlen, out, c, hv, hg⟩) (by rw [g]; exact I.bare) (fun _ z => nomatch z)
  have e : s' = { s with heap := s'.heap, gens := s'.gens, drawn := s'.drawn, toks := s'.toks } := by
    cases s'
    cases s
    cases o
    rfl
  rw [e]
  exact ⟨.ref p, _, J, rfl, q p hn⟩
end
end PD

set_option Elab.async false
set_option linter.all false
set_option maxRecDepth 100000
set_option maxHeartbeats 4000000
/-! What a checked expression does: the proof, by the small language's own shape. -/
namespace PD
open PySem L2

section
variable {nm : Nm} {P : Sg} {C : Con} {W : TW} {X : Cx} {bk : Bool}

/-! ### targets -/
theorem Good.blk (g : Good nm P C W bk X) (s : Shared) (H : Hp) (scope : Scope) (cl : List (Str × Addr)) (Ca : Addr) (fp : List Addr) : Good nm P C W true (X.blk s H scope (compEnvC scope cl Ca X.env) fp) :=
  ⟨g.calm, g.hN, g.nd, g.hK, g.tk, g.pns, rfl, g.units, (fun e => by cases e), g.blt, g.rng, g.isn, g.bool, g.oth, g.cst, g.fns, g.gen⟩
theorem Good.loc (g : Good nm P C W bk X) {x : Str} (h : locB bk X.env.scope x = true) : Loc X.env.scope x ∧ (X.fn x = true ∨ X.env.scope.names.lookup x = some .local) := by
  rcases loc_of h with h | ⟨h, e⟩
  · exact ⟨.inl h, .inr h⟩
  · exact ⟨.inr h, .inl (g.fnc e x h)⟩
theorem wipe_set {σ : St} {i : Nat} {v : Option V} : ∀ {own : List Nat}, i ∈ own → wipe (σ.set i v) own = wipe σ own
  | [], h => by simp at h
  | w :: ws, h => by
    by_cases hm : i ∈ ws
    · unfold wipe
      rw [wipe_set hm]
    · have e : i = w := by rcases List.mem_cons.mp h with e | e; exact e; exact absurd e hm
      subst e
      have aux : ∀ ws : List Nat, i ∉ ws → wipe (σ.set i v) ws = (wipe σ ws).set i v := by
        intro ws
        induction ws with
        | nil => intro _; rfl
        | cons u us ih =>
          intro hn
          have hu : u ≠ i := fun q => hn (q ▸ List.mem_cons_self)
          have hus : i ∉ us := fun q => hn (List.mem_cons_of_mem _ q)
          unfold wipe
          rw [ih hus, List.set_comm _ _ hu.symm]
      unfold wipe
      rw [aux ws hm, List.set_set]
/-- the items of a tuple to as many targets -/
def RdGs (C : Con) (W : TW) (t : T) : TGs := fun vs σ H Q => ∃ F0 H0 F ρ τ xs ρ', Rel C W F0 H0 F H σ ρ τ ∧ RA C F vs xs ∧ bindT t (.tup xs) ρ = some ρ' ∧ ∀ σ', Rel C W F0 H0 F H σ' ρ' τ → (∀ own : List Nat, (∀ i ∈ slotsT t, i ∈ own) → wipe σ' own = wipe σ own) → Q σ' H
def lenT : T → Option Nat
  | .nil => some 0
  | .cons _ ts => (lenT ts).map (· + 1)
  | .nm _ => none
theorem lenT_of : ∀ {t : T} {n : Nat} {xs : List D} {ρ ρ' : Env'}, lenT t = some n → bindT t (.tup xs) ρ = some ρ' → xs.length = n
  | .nm i, _, _, _, _, h, _ => by cases h
  | .nil, n, xs, ρ, ρ', h, k => by
    cases xs with
    | nil => exact Option.some.inj h
    | cons x xs => simp [bindT] at k
  | .cons t ts, n, xs, ρ, ρ', h, k => by
    cases xs with
    | nil => simp [bindT] at k
    | cons x xs =>
      simp only [lenT, Option.map_eq_some_iff] at h
      obtain ⟨m, h1, rfl⟩ := h
      simp only [bindT, Option.bind_eq_some_iff] at k
      obtain ⟨ρ1, _, k2⟩ := k
      rw [List.length_cons, lenT_of h1 k2]
theorem chk_len {sc : Scope} : ∀ {t : T} {es : List Expr} {k : Nat} {p : Pos}, chkTg nm bk sc t (.Tuple es k p) = true → lenT t = some es.length ∧ noStars es = true
  | .nm i, es, k, p, h => by simp [chkTg] at h
  | .nil, es, k, p, h => by
    cases es with
    | nil => exact ⟨rfl, rfl⟩
    | cons e es => simp [chkTg] at h
  | .cons t ts, es, k, p, h => by
    cases es with
    | nil => simp [chkTg] at h
    | cons e es =>
      simp only [chkTg, Bool.and_eq_true] at h
      obtain ⟨h1, h2⟩ := chk_len h.2
      refine ⟨by rw [lenT, h1]; rfl, ?_⟩
      unfold noStars at h2 ⊢
      rw [List.all_cons, h.1.1, h2]; rfl
theorem assignEach_of {env : Env} : ∀ {es : List Expr}, noStars es = true → (assignEach es env).length = es.length ∧ (assignEach es env).findIdx? (·.1) = none
  | [], _ => ⟨rfl, rfl⟩
  | e :: es, h => by
    unfold noStars at h
    simp only [List.all_cons, Bool.and_eq_true] at h
    obtain ⟨a, b⟩ := assignEach_of (env := env) (es := es) h.2
    have e1 : assignEach (e :: es) env = (false, assign e env) :: assignEach es env := by
      have h1 := h.1
      cases e <;> first | rfl | cases h1
    rw [e1]
    refine ⟨by rw [List.length_cons, List.length_cons, a], ?_⟩
    rw [List.findIdx?_cons, b]; rfl
mutual
theorem tg_ok (g : Good nm P C W bk X) : ∀ (t : T) (z : Expr), chkTg nm bk X.env.scope t z = true → PG X z (RdG C W t)
  | .nm i, z, h => by
    cases z with
    | Name x pos =>
      simp only [chkTg, Bool.and_eq_true, decide_eq_true_eq] at h
      have hl := g.loc h.2
      refine pg_imp (pg_name (i := i) g.nd (by rw [g.hN]; exact h.1) hl.1 hl.2) ?_
      rintro v σ H Q ⟨F0, H0, F, ρ, τ, x, ρ', r, rv, hb, k⟩
      simp only [bindT] at hb
      obtain rfl := Option.some.inj hb
      exact k _ (r.setD i rv) fun own ho => wipe_set (ho i (by simp [slotsT]))
    | _ => simp [chkTg] at h
  | .nil, z, h => tup_ok g .nil z h
  | .cons t ts, z, h => by
    cases z with
    | Tuple es k pos =>
      have hh := h
      obtain ⟨hl, hs⟩ := chk_len hh
      obtain ⟨a1, a2⟩ := assignEach_of (env := X.env) hs
      cases es with
      | nil => simp [chkTg] at h
      | cons e es =>
        simp only [chkTg, Bool.and_eq_true] at h
        have h1 := tg_ok g t e h.1.2
        have h2 := tgs_ok g ts es k pos h.2
        have e1 : (assignEach (e :: es) X.env).map (·.2) = assign e X.env :: (assignEach es X.env).map (·.2) := by
          have h1 := h.1.1
          cases e <;> first | rfl | cases h1
        refine pg_imp (pg_tup g.calm (pgs_cons h1 h2 e1) a1 a2) ?_
        rintro v σ H Q ⟨F0, H0, F, ρ, τ, x, ρ', r, rv, hb, q⟩
        cases x with
        | tup xs =>
          have hxl := lenT_of hl hb
          cases rv with
          | @tup a vs _ s1 s2 s3 =>
            refine ⟨a, vs, rfl, by rw [← g.hK]; exact sqT_sub r.sub s1, by rw [s2.len]; exact hxl, ?_⟩
            cases xs with
            | nil => simp [bindT] at hb
            | cons y ys =>
              cases s2 with
              | cons t1 t2 =>
                simp only [bindT, Option.bind_eq_some_iff] at hb
                obtain ⟨ρ1, hb1, hb2⟩ := hb
                exact ⟨_, _, rfl, F0, H0, F, ρ, τ, y, ρ1, r, t1, hb1, fun σ' r' w1 => ⟨F0, H0, F, ρ1, τ, ys, ρ', r', t2, hb2, fun σ'' r'' w2 => q σ'' r'' fun own ho => (w2 own fun i hi => ho i (by simp [slotsT, hi])).trans (w1 own fun i hi => ho i (by simp [slotsT, hi]))⟩⟩
        | _ => simp [bindT] at hb
    | _ => simp [chkTg] at h
theorem tup_ok (g : Good nm P C W bk X) : ∀ (t : T) (z : Expr), chkTg nm bk X.env.scope .nil z = true → PG X z (RdG C W .nil)
  | _, z, h => by
    cases z with
    | Tuple es k pos =>
      cases es with
      | nil =>
        refine pg_imp (pg_tup (n := 0) g.calm pgs_nil) ?_
        rintro v σ H Q ⟨F0, H0, F, ρ, τ, x, ρ', r, rv, hb, q⟩
        cases x with
        | tup xs =>
          cases xs with
          | nil =>
            cases rv with
            | @tup a vs _ s1 s2 s3 =>
              cases s2
              simp only [bindT] at hb
              obtain rfl := Option.some.inj hb
              exact ⟨a, [], rfl, by rw [← g.hK]; exact sqT_sub r.sub s1, rfl, rfl, q _ r fun _ _ => rfl⟩
          | cons y ys => simp [bindT] at hb
        | _ => simp [bindT] at hb
      | cons e es => simp [chkTg] at h
    | _ => simp [chkTg] at h
theorem tgs_ok (g : Good nm P C W bk X) : ∀ (t : T) (es : List Expr) (k : Nat) (pos : Pos), chkTg nm bk X.env.scope t (.Tuple es k pos) = true → PGs X es (RdGs C W t)
  | .nm i, es, k, pos, h => by simp [chkTg] at h
  | .nil, es, k, pos, h => by
    cases es with
    | nil =>
      refine ⟨fun pins s σ H vs us Q I r q => pgs_nil.run pins s σ H vs us Q I r ?_⟩
      obtain ⟨F0, H0, F, ρ, τ, xs, ρ', rl, rv, hb, q⟩ := q
      cases xs with
      | nil =>
        cases rv
        simp only [bindT] at hb
        obtain rfl := Option.some.inj hb
        exact ⟨rfl, q _ rl fun _ _ => rfl⟩
      | cons y ys => simp [bindT] at hb
    | cons e es => simp [chkTg] at h
  | .cons t ts, es, k, pos, h => by
    cases es with
    | nil => simp [chkTg] at h
    | cons e es =>
      simp only [chkTg, Bool.and_eq_true] at h
      have h1 := tg_ok g t e h.1.2
      have h2 := tgs_ok g ts es k pos h.2
      have e1 : (assignEach (e :: es) X.env).map (·.2) = assign e X.env :: (assignEach es X.env).map (·.2) := by
        have h1 := h.1.1
        cases e <;> first | rfl | cases h1
      refine ⟨fun pins s σ H vs us Q I r q => (pgs_cons h1 h2 e1).run pins s σ H vs us Q I r ?_⟩
      obtain ⟨F0, H0, F, ρ, τ, xs, ρ', rl, rv, hb, q⟩ := q
      cases xs with
      | nil => simp [bindT] at hb
      | cons y ys =>
        cases rv with
        | cons t1 t2 =>
          simp only [bindT, Option.bind_eq_some_iff] at hb
          obtain ⟨ρ1, hb1, hb2⟩ := hb
          exact ⟨_, _, rfl, F0, H0, F, ρ, τ, y, ρ1, rl, t1, hb1, fun σ' r' w1 => ⟨F0, H0, F, ρ1, τ, ys, ρ', r', t2, hb2, fun σ'' r'' w2 => q σ'' r'' fun own ho => (w2 own fun i hi => ho i (by simp [slotsT, hi])).trans (w1 own fun i hi => ho i (by simp [slotsT, hi]))⟩⟩
end

/-! ### the operators' rules -/
theorem bin_ok (g : Good nm P C W bk X) {o p : Operator} (h : opEq o p = true) : OpR X (binaryOp p) (rD2 C (binD P.tk o)) := by
  cases o <;> cases p <;> first
    | (cases h; done)
    | (rw [g.tk]; exact add_D g.hK)
    | exact sub_D
    | (rw [g.tk]; exact mul_D g.hK)
    | exact mod_D
    | exact fdiv_D
    | exact pow_D
theorem Good.u64 (g : Good nm P C W bk X) : X.A.units + 64 < cLine := by have := g.units; omega
theorem cmp_ok (g : Good nm P C W bk X) {o p : CmpOp} (h : cmEq o p = true) : OpR X (compareOp p) (rD2 C (cmpD o)) := by
  cases o <;> cases p <;> first
    | (cases h; done)
    | exact eq_D g.hK g.u64
    | exact ne_D g.hK g.u64
    | exact lt_D
    | exact le_D
    | exact gt_D
    | exact ge_D
    | exact in_D g.hK g.u64
    | exact notIn_D g.hK g.u64
/-- a built-in called by name -/
theorem blt_pe (g : Good nm P C W bk X) {b : B} {y : Expr} {ys : List Expr} {p pos : Pos} {t : TA} (hg : glB X.env.scope (bN b) = true) (hs : noStars (y :: ys) = true) (ha : PA X (y :: ys) t) :
    PE X (.Call (.Name (bN b) p) (y :: ys) [] pos) (tCB (rDN C (bD P.tk b)) t) := by
  have hs' := hs
  unfold noStars at hs'
  simp only [List.all_cons, Bool.and_eq_true] at hs'
  have h1 := star_of (es := ys) (env := X.env) hs'.1
  have h2 := stars_of (env := X.env) (pos := pos) (show noStars ys = true from hs'.2)
  have hb := g.blt b
  have hgl := gl_of hg
  cases b with
  | len => exact pe_callB (len_D g.hK) hgl hb (by decide +kernel) ha (by decide +kernel) (by decide +kernel) h1 h2
  | int => exact pe_callTy int_D hgl hb (by decide +kernel) ha (by decide +kernel) (by decide +kernel) h1 h2
  | max => exact pe_callB (max_D g.calm) hgl hb (by decide +kernel) ha (by decide +kernel) (by decide +kernel) h1 h2
  | min => exact pe_callB (min_D g.calm) hgl hb (by decide +kernel) ha (by decide +kernel) (by decide +kernel) h1 h2
  | list => exact pe_callTy (list_D g.calm g.hK) hgl hb (by decide +kernel) ha (by decide +kernel) (by decide +kernel) h1 h2
  | tuple => rw [g.tk]; exact pe_callTy (tuple_D g.hK) hgl hb (by decide +kernel) ha (by decide +kernel) (by decide +kernel) h1 h2
  | str => exact pe_callTy str_D hgl hb (by decide +kernel) ha (by decide +kernel) (by decide +kernel) h1 h2
  | all => exact pe_callB (all_D g.calm) hgl hb (by decide +kernel) ha (by decide +kernel) (by decide +kernel) h1 h2
  | any => exact pe_callB (any_D g.calm) hgl hb (by decide +kernel) ha (by decide +kernel) (by decide +kernel) h1 h2
theorem mth_rule (g : Good nm P C W bk X) (m : M) : ∃ id : String, PySem.Slot "str" (mN m) id ∧ typeOf (.builtin id) = pure (.type "method_descriptor") ∧ MtR X id (rDM C (mD m)) := by
  cases m with
  | join => exact ⟨_, F.slot_str_join, F.type_str_join, join_D g.hK⟩
  | lower => exact ⟨_, F.slot_str_lower, F.type_str_lower, lower_D⟩
  | upper => exact ⟨_, F.slot_str_upper, F.type_str_upper, upper_D⟩
  | starts => exact ⟨_, F.slot_str_startswith, F.type_str_startswith, starts_D⟩
  | ends => exact ⟨_, F.slot_str_endswith, F.type_str_endswith, ends_D⟩
  | strip => exact ⟨_, F.slot_str_strip, F.type_str_strip, strip_D⟩
  | split => exact ⟨_, F.slot_str_split, F.type_str_split, split_D⟩
theorem mD_str {m : M} {a : D} {ds : List D} {d : D} (h : mD m a ds = some d) : ∃ s, a = .str s := by
  cases m <;> cases a <;> first | exact ⟨_, rfl⟩ | (simp [mD, joinD, lowerD, upperD, startsD, endsD, stripD, splitD, with1] at h)
end
end PD

set_option Elab.async false
set_option linter.all false
set_option maxRecDepth 100000
set_option maxHeartbeats 4000000
/-! What a checked expression does: comprehensions, then all. -/
namespace PD
open PySem L2
section
variable {nm : Nm} {P : Sg} {C : Con} {W : TW} {X : Cx} {bk : Bool}

/-! ### comprehensions -/
theorem Rel.wipe {F0 H0 F H : Hp} {σ : St} {ρ : Env'} {τ : TS} (r : Rel C W F0 H0 F H σ ρ τ) : ∀ own : List Nat, Rel C W F0 H0 F H (L2.wipe σ own) (wipeE ρ own) τ
  | [] => r
  | v :: vs => (Rel.wipe r vs).set v none .un trivial rfl
theorem TapeAt.mono {F H F' H' : Hp} {τ : TS} (t : TapeAt W F H τ) (x : ExtP F H F' H') : TapeAt W F' H' τ := t.extP x
theorem comp_rd {elt : E} {tg : T} {it : I} {c : Tt} {own : List Nat} (hs : ∀ i ∈ slotsT tg, i ∈ own) {σ : St} {H : Hp} {Q : VK} (h : RdE P C W (.comp elt tg it c own) σ H Q) :
    tLc (RdI P C W it) (RdG C W tg) (RdT P C W c) (RdE P C W elt) own σ H Q := by
  obtain ⟨F0, H0, F, ρ, τ, d, τ', r, e, k⟩ := h
  simp only [ev, Option.bind_eq_some_iff, Prod.exists] at e
  obtain ⟨xs, τ1, e1, ys, τ2, e2, e3⟩ := e
  split at e3
  · rename_i hz
    cases e3
    refine ⟨F0, H0, F, ρ, τ, xs, τ1, r, e1, fun J F1 H1 x1 r1 wk A hA => ?_⟩
    have nF1 : F1 A = none := r1.sub.none hA
    have ntp : A ≠ W.tp := fun e => by rw [e, r1.tape.at_] at hA; cases hA
    have nH0 : H0 A = none := by
      cases q : H0 A with
      | none => rfl
      | some o =>
        cases z : F0 A with
        | none => rw [(r1.base.hh A o q z ntp).1] at hA; cases hA
        | some u => rw [r1.sub _ _ (r1.base.ff _ _ z)] at hA; cases hA
    generalize hf : (fun (x : D) (τ1 : TS) => (bindT tg x (wipeE ρ own)).bind fun ρ1 => (evt P c ρ1 τ1).bind fun q => if q.1 then (ev P elt ρ1 q.2).map fun z => (some z.1, z.2) else some (none, q.2)) = f at e2
    have hfx : ∀ x τ1, f x τ1 = (bindT tg x (wipeE ρ own)).bind fun ρ1 => (evt P c ρ1 τ1).bind fun q => if q.1 then (ev P elt ρ1 q.2).map fun z => (some z.1, z.2) else some (none, q.2) := fun x τ1 => by rw [← hf]
    refine ⟨fun i m Hc => ∃ Fc τc vs ds rest, i ≤ xs.length ∧ m = xs.length - i ∧ Ext W.tp F1 H1 Fc Hc ∧ TapeAt W Fc Hc τc ∧ Hc A = some (.lst vs) ∧ Fc A = none ∧ RA C Fc vs ds ∧ compL f (xs.drop i) τc = some (rest, τ') ∧ ds ++ rest = ys,
      ⟨xs.length, F1, τ1, [], [], ys, Nat.zero_le _, rfl, Ext.raw r1.sub _ hA, r1.tape.raw _ hA, upd_same, nF1, .nil, by rw [List.drop_zero]; exact e2, rfl⟩, ?_⟩
    rintro i m Hc ⟨Fc, τc, vs, ds, rest, hi, rfl, xc, tc, hAc, nFc, ra, ec, eds⟩
    by_cases hlt : i < xs.length
    · refine .inr ⟨wk.go i Fc Hc xc.ff xc.fh hlt, fun Hn => ∃ Fn τn vs ds rest, Ext W.tp F1 H1 Fn Hn ∧ TapeAt W Fn Hn τn ∧ Hn A = some (.lst vs) ∧ Fn A = none ∧ RA C Fn vs ds ∧ compL f (xs.drop (i + 1)) τn = some (rest, τ') ∧ ds ++ rest = ys, ?_, fun x H' hy => ?_⟩
      · rintro Hn ⟨Fn, τn, vs', ds', rest', a1, a2, a3, a4, a5, a6, a7⟩
        exact ⟨xs.length - (i + 1), by omega, Fn, τn, vs', ds', rest', by omega, rfl, a1, a2, a3, a4, a5, a6, a7⟩
      · obtain ⟨d, F2, hd, x2, rx⟩ := wk.yld i Fc Hc x H' xc.ff xc.fh hlt hy
        have hdr : xs.drop i = d :: xs.drop (i + 1) := by
          rw [List.drop_eq_getElem_cons hlt]
          rw [List.getElem?_eq_getElem hlt] at hd
          rw [Option.some.inj hd]
        rw [hdr] at ec
        simp only [compL, Option.bind_eq_some_iff, Prod.exists] at ec
        obtain ⟨oy, τd, ef, rest1, τe, er, ee⟩ := ec
        rw [hfx] at ef
        simp only [Option.bind_eq_some_iff, Prod.exists] at ef
        obtain ⟨ρ1, eb, b, τb, et, ev'⟩ := ef
        have xd : Ext W.tp F1 H1 F2 H' := xc.tr x2.ext
        have td : TapeAt W F2 H' τc := tc.extP x2
        have rd : Rel C W F0 H0 F2 H' σ ρ τc := r1.ext xd td
        have hA2 := x2.hh A _ hAc nFc
        refine ⟨F0, H0, F2, wipeE ρ own, τc, d, ρ1, rd.wipe own, rx, eb, fun σ2 r2 w2 => ⟨w2 own hs |>.trans ?_, ?_⟩⟩
        · have : ∀ (σ : St) (l : List Nat), wipe (wipe σ l) l = wipe σ l := by
            intro σ l
            have key : ∀ (l m : List Nat) (σ : St), (∀ i ∈ l, i ∈ m) → wipe (wipe σ l) m = wipe σ m := by
              intro l
              induction l with
              | nil => intro m σ _; rfl
              | cons v vs ih =>
                intro m σ hm
                show wipe ((wipe σ vs).set v none) m = wipe σ m
                rw [wipe_set (hm v List.mem_cons_self)]
                exact ih m σ fun i hi => hm i (List.mem_cons_of_mem _ hi)
            exact key l l σ fun _ h => h
          exact this σ own
        · refine ⟨F0, H0, F2, ρ1, τc, b, τb, r2, et, fun F3 H3 x3 r3 => ?_⟩
          have hA3 := x3.hh A _ hA2.1 hA2.2 ntp
          cases b with
          | false =>
            simp only [Bool.false_eq_true, if_false] at ev' ⊢
            cases ev'
            cases ee
            exact ⟨F3, τd, vs, ds, rest1, xd.tr x3, r3.tape, hA3.1, hA3.2, RA.sub (x2.ff.tr x3.ff) ds ra, er, eds⟩
          | true =>
            simp only [if_true, Option.map_eq_some_iff, Prod.exists] at ev' ⊢
            obtain ⟨y, τy, ey, e4⟩ := ev'
            cases e4
            cases ee
            refine ⟨F0, H0, F3, ρ1, τb, y, τd, r3, ey, fun u F4 H4 x4 r4 ru => ?_⟩
            have hA4 := x4.hh A _ hA3.1 hA3.2 ntp
            refine ⟨vs, hA4.1, ?_, ?_⟩
            · rw [ra.len]
              rw [← eds, List.length_append, List.length_cons] at hz
              omega
            · refine ⟨F4, τd, vs ++ [u], ds ++ [y], rest1, ((xd.tr x3).tr x4).write _ hA hA4.2, r4.tape.write _ ntp, upd_same, hA4.2, (RA.sub ((x2.ff.tr x3.ff).tr x4.ff) ds ra).snoc ru, er, ?_⟩
              rw [List.append_assoc]; exact eds
    · have hi' : i = xs.length := by omega
      subst hi'
      rw [List.drop_length] at ec
      simp only [compL] at ec
      cases ec
      rw [List.append_nil] at eds
      subst eds
      refine .inl ⟨wk.stop Fc Hc xc.ff xc.fh, ?_⟩
      have xf : Ext W.tp F1 H1 (upd Fc A (.lst vs)) Hc := xc.freeze hA nFc hAc
      exact k _ _ _ (x1.tr xf) (r1.ext xf (tc.freeze _ ntp nFc)) (.lst upd_same (RA.sub (sub_upd nFc) ds ra))
  · cases e3

/-! ### what is walked -/
theorem wk_lst {K : PySem.W.Frag} {F : Hp} {a : Addr} {vs : List V} {xs : List D} (h : F a = some (.lst vs)) (r : RA C F vs xs) : Wk C (Itl K a) F xs where
  stop := fun F' H s1 s2 => ⟨vs, .inl (.inl (s2 _ _ (s1 _ _ h))), Nat.le_of_eq r.len⟩
  go := fun i F' H s1 s2 hi => by
    have hi' : i < vs.length := by rw [r.len]; exact hi
    exact ⟨vs, vs[i], .inl (.inl (s2 _ _ (s1 _ _ h))), List.getElem?_eq_getElem hi'⟩
  yld := fun i F1 H x H' s1 s2 hi y => by
    obtain ⟨e, y⟩ := y
    subst e
    have hx := y vs (.inl (.inl (s2 _ _ (s1 _ _ h))))
    obtain ⟨v, hv, rv⟩ := r.get (List.getElem?_eq_getElem hi)
    rw [hx] at hv; cases hv
    exact ⟨xs[i], F1, List.getElem?_eq_getElem hi, ExtP.rfl' s2, R.sub s1 _ rv⟩
theorem wk_tup {K : PySem.W.Frag} {F : Hp} {a : Addr} {vs : List V} {xs : List D} (h : SqT K F a vs) (r : RA C F vs xs) : Wk C (Itt K a) F xs where
  stop := fun F' H s1 s2 => ⟨vs, sqT_sub (s1.tr s2) h, Nat.le_of_eq r.len⟩
  go := fun i F' H s1 s2 hi => by
    have hi' : i < vs.length := by rw [r.len]; exact hi
    exact ⟨vs, vs[i], sqT_sub (s1.tr s2) h, List.getElem?_eq_getElem hi'⟩
  yld := fun i F1 H x H' s1 s2 hi y => by
    obtain ⟨e, y⟩ := y
    subst e
    have hx := y vs (sqT_sub (s1.tr s2) h)
    obtain ⟨v, hv, rv⟩ := r.get (List.getElem?_eq_getElem hi)
    rw [hx] at hv; cases hv
    exact ⟨xs[i], F1, List.getElem?_eq_getElem hi, ExtP.rfl' s2, R.sub s1 _ rv⟩
theorem wk_str {F : Hp} (s : List Nat) : Wk C (Its (tx s)) F (s.map fun c => .str [c]) where
  stop := fun F' H s1 s2 => by
    show s.toArray.size ≤ _
    simp
  go := fun i F' H s1 s2 hi => by
    show i < s.toArray.size
    simpa using hi
  yld := fun i F1 H x H' s1 s2 hi y => by
    obtain ⟨e, c, hc, rfl⟩ := y
    subst e
    have hc' : s[i]? = some c := by simpa using hc
    refine ⟨.str [c], F1, ?_, ExtP.rfl' s2, .str [c]⟩
    rw [List.getElem?_map, hc']; rfl
theorem wk_rngC {F : Hp} (a : Int) (c : Int) (n : Nat) : Wk C (Itc a c n) F (rangeD a n c) where
  stop := fun F' H s1 s2 => by
    show n ≤ _
    simp [rangeD]
  go := fun i F' H s1 s2 hi => by
    show i < n
    simpa [rangeD] using hi
  yld := fun i F1 H x H' s1 s2 hi y => by
    obtain ⟨e, rfl⟩ := y
    subst e
    have hi' : i < n := by simpa [rangeD] using hi
    refine ⟨.int (a + (i : Nat) * c), F1, ?_, ExtP.rfl' s2, .int _⟩
    simp [rangeD, hi']
theorem wk_rng {F : Hp} (a : Int) (n : Nat) : Wk C (Itr a n) F (rangeD a n 1) where
  stop := fun F' H s1 s2 => by
    show n ≤ _
    simp [rangeD]
  go := fun i F' H s1 s2 hi => by
    show i < n
    simpa [rangeD] using hi
  yld := fun i F1 H x H' s1 s2 hi y => by
    obtain ⟨e, rfl⟩ := y
    subst e
    have hi' : i < n := by simpa [rangeD] using hi
    refine ⟨.int (a + (i : Nat)), F1, ?_, ExtP.rfl' s2, .int _⟩
    simp [rangeD, hi']
end
end PD

set_option Elab.async false
set_option linter.all false
set_option maxRecDepth 100000
set_option maxHeartbeats 4000000
/-! What a checked expression does. -/
namespace PD
open PySem L2
section
variable {nm : Nm} {P : Sg} {C : Con} {W : TW}

/-! ### readings put together -/
section
variable {X : Cx}
theorem rd_bin {o : Operator} {a b : E} {σ : St} {H : Hp} {Q : VK} (h : RdE P C W (.bin o a b) σ H Q) : tOp (rD2 C (binD P.tk o)) (RdE P C W a) (RdE P C W b) σ H Q := by
  obtain ⟨F0, H0, F, ρ, τ, d, τ', r, e, k⟩ := h
  simp only [ev, Option.bind_eq_some_iff, Option.map_eq_some_iff, Prod.exists] at e
  obtain ⟨d1, τ1, e1, d2, τ2, e2, d3, e3, e4⟩ := e
  cases e4
  exact ⟨F0, H0, F, ρ, τ, d1, τ1, r, e1, fun x F1 H1 x1 r1 q1 => ⟨F0, H0, F1, ρ, τ1, d2, _, r1, e2, fun y F2 H2 x2 r2 q2 =>
    ⟨F2, d1, d2, _, r2.sub, R.sub x2.ff _ q1, q2, e3, fun v F3 H3 x3 q3 => k v F3 H3 ((x1.tr x2).tr x3.ext) (r2.extP x3) q3⟩⟩⟩
theorem rd_cmp {o : CmpOp} {a b : E} {σ : St} {H : Hp} {Q : VK} (h : RdE P C W (.cmp o a b) σ H Q) : tOp (rD2 C (cmpD o)) (RdE P C W a) (RdE P C W b) σ H Q := by
  obtain ⟨F0, H0, F, ρ, τ, d, τ', r, e, k⟩ := h
  simp only [ev, Option.bind_eq_some_iff, Option.map_eq_some_iff, Prod.exists] at e
  obtain ⟨d1, τ1, e1, d2, τ2, e2, d3, e3, e4⟩ := e
  cases e4
  exact ⟨F0, H0, F, ρ, τ, d1, τ1, r, e1, fun x F1 H1 x1 r1 q1 => ⟨F0, H0, F1, ρ, τ1, d2, _, r1, e2, fun y F2 H2 x2 r2 q2 =>
    ⟨F2, d1, d2, _, r2.sub, R.sub x2.ff _ q1, q2, e3, fun v F3 H3 x3 q3 => k v F3 H3 ((x1.tr x2).tr x3.ext) (r2.extP x3) q3⟩⟩⟩
theorem rd_idx {a b : E} {σ : St} {H : Hp} {Q : VK} (h : RdE P C W (.idx a b) σ H Q) : tOp (rD2 C ixD) (RdE P C W a) (RdE P C W b) σ H Q := by
  obtain ⟨F0, H0, F, ρ, τ, d, τ', r, e, k⟩ := h
  simp only [ev, Option.bind_eq_some_iff, Option.map_eq_some_iff, Prod.exists] at e
  obtain ⟨d1, τ1, e1, d2, τ2, e2, d3, e3, e4⟩ := e
  cases e4
  exact ⟨F0, H0, F, ρ, τ, d1, τ1, r, e1, fun x F1 H1 x1 r1 q1 => ⟨F0, H0, F1, ρ, τ1, d2, _, r1, e2, fun y F2 H2 x2 r2 q2 =>
    ⟨F2, d1, d2, _, r2.sub, R.sub x2.ff _ q1, q2, e3, fun v F3 H3 x3 q3 => k v F3 H3 ((x1.tr x2).tr x3.ext) (r2.extP x3) q3⟩⟩⟩
theorem cmpD_bl {o : CmpOp} {a b d : D} (h : cmpD o a b = some d) : ∃ c, d = .bl c := by
  cases o with
  | Eq => simp only [cmpD, eqD] at h; split at h; exact ⟨_, (Option.some.inj h).symm⟩; cases h
  | NotEq => simp only [cmpD, neD] at h; split at h; exact ⟨_, (Option.some.inj h).symm⟩; cases h
  | Lt => cases a <;> cases b <;> first | exact ⟨_, (Option.some.inj h).symm⟩ | cases h
  | LtE => cases a <;> cases b <;> first | exact ⟨_, (Option.some.inj h).symm⟩ | cases h
  | Gt => cases a <;> cases b <;> first | exact ⟨_, (Option.some.inj h).symm⟩ | cases h
  | GtE => cases a <;> cases b <;> first | exact ⟨_, (Option.some.inj h).symm⟩ | cases h
  | In => simp only [cmpD, inD, Option.map_eq_some_iff] at h; obtain ⟨c, _, e⟩ := h; exact ⟨_, e.symm⟩
  | NotIn => simp only [cmpD, inD, Option.map_eq_some_iff] at h; obtain ⟨c, _, e⟩ := h; exact ⟨_, e.symm⟩
  | Is => cases h
  | IsNot => cases h
theorem rd_chn {o o' : CmpOp} {a b c : E} {σ : St} {H : Hp} {Q : VK} (h : RdE P C W (.chn o o' a b c) σ H Q) : tChain (rD2 C (cmpD o)) (rD2 C (cmpD o')) (RdE P C W a) (RdE P C W b) (RdE P C W c) σ H Q := by
  obtain ⟨F0, H0, F, ρ, τ, d, τ', r, e, k⟩ := h
  simp only [ev, Option.bind_eq_some_iff, Option.map_eq_some_iff, Prod.exists] at e
  obtain ⟨d1, τ1, e1, d2, τ2, e2, d3, e3, e4⟩ := e
  refine ⟨F0, H0, F, ρ, τ, d1, τ1, r, e1, fun x F1 H1 x1 r1 q1 => ⟨F0, H0, F1, ρ, τ1, d2, τ2, r1, e2, fun y F2 H2 x2 r2 q2 =>
    ⟨F2, d1, d2, d3, r2.sub, R.sub x2.ff _ q1, q2, e3, fun v F3 H3 x3 q3 => ?_⟩⟩⟩
  obtain ⟨k1, rfl⟩ := cmpD_bl e3
  cases q3
  have r3 := r2.extP x3
  refine ⟨k1, rfl, ?_⟩
  cases k1 with
  | false =>
    simp only at e4
    cases e4
    rw [if_neg Bool.false_ne_true]
    exact k _ F3 H3 ((x1.tr x2).tr x3.ext) r3 (.bl _)
  | true =>
    simp only [Option.bind_eq_some_iff, Option.map_eq_some_iff, Prod.exists] at e4
    obtain ⟨d4, τ4, e5, d6, e6, e7⟩ := e4
    cases e7
    rw [if_pos rfl]
    exact ⟨F0, H0, F3, ρ, τ2, d4, _, r3, e5, fun z F4 H4 x4 r4 q4 => ⟨F4, d2, d4, _, r4.sub, R.sub (x3.ff.tr x4.ff) _ q2, q4, e6, fun v F5 H5 x5 q5 =>
      k v F5 H5 (((x1.tr x2).tr x3.ext).tr x4 |>.tr x5.ext) (r4.extP x5) q5⟩⟩
theorem R.non_iff {F : Hp} {v : V} {d : D} (r : R C F v d) : decide (v = .non) = (match d with | .non => true | _ => false) := by
  cases r <;> rfl
theorem rd_isN {ng : Bool} {a : E} {σ : St} {H : Hp} {Q : VK} (h : RdE P C W (.isN ng a) σ H Q) : RdE P C W a σ H (fun x H1 => Q (.bl (if ng then !decide (x = .non) else decide (x = .non))) H1) := by
  obtain ⟨F0, H0, F, ρ, τ, d, τ', r, e, k⟩ := h
  simp only [ev, Option.map_eq_some_iff, Prod.exists] at e
  obtain ⟨d1, τ1, e1, e2⟩ := e
  cases e2
  refine ⟨F0, H0, F, ρ, τ, d1, _, r, e1, fun x F1 H1 x1 r1 q1 => ?_⟩
  show Q (.bl (if ng then !decide (x = .non) else decide (x = .non))) H1
  rw [q1.non_iff]
  have := k (.bl (if ng then !(match d1 with | .non => true | _ => false) else (match d1 with | .non => true | _ => false))) F1 H1 x1 r1
  cases d1 <;> cases ng <;> exact this (.bl _)
theorem rd_isB {ng b : Bool} {a : E} {σ : St} {H : Hp} {Q : VK} (h : RdE P C W (.isB ng a b) σ H Q) : RdE P C W a σ H (fun x H1 => ∃ c : Bool, x = .bl c ∧ Q (.bl (if ng then !decide (c = b) else decide (c = b))) H1) := by
  obtain ⟨F0, H0, F, ρ, τ, d, τ', r, e, k⟩ := h
  simp only [ev, Option.bind_eq_some_iff, Prod.exists] at e
  obtain ⟨d1, τ1, e1, e2⟩ := e
  cases d1 with
  | bl c =>
    simp only at e2
    cases e2
    refine ⟨F0, H0, F, ρ, τ, _, _, r, e1, fun x F1 H1 x1 r1 q1 => ?_⟩
    cases q1
    have e : decide (c = b) = (c == b) := by cases c <;> cases b <;> rfl
    exact ⟨c, rfl, by rw [e]; exact k _ F1 H1 x1 r1 (.bl _)⟩
  | _ => simp at e2
theorem rd_tb {e : E} {z : Expr} {t : TE} {σ : St} {H : Hp} {Q : Bool → Hp → Prop} (hb : ∀ ρ τ d τ', ev P e ρ τ = some (d, τ') → ∃ c, d = .bl c) (h : RdT P C W (.val e) σ H Q) : RdE P C W e σ H (fun x H' => ∃ k, x = .bl k ∧ Q k H') := by
  obtain ⟨F0, H0, F, ρ, τ, b, τ', r, e', k⟩ := h
  simp only [evt, Option.bind_eq_some_iff, Option.map_eq_some_iff, Prod.exists] at e'
  obtain ⟨d1, τ1, e1, b1, e2, e3⟩ := e'
  cases e3
  refine ⟨F0, H0, F, ρ, τ, d1, _, r, e1, fun x F1 H1 x1 r1 q1 => ?_⟩
  obtain ⟨c, rfl⟩ := hb _ _ _ _ e1
  cases q1
  obtain rfl := Option.some.inj e2
  exact ⟨_, rfl, k F1 H1 x1 r1⟩
end

theorem evp_ev : ∀ {e : E} {ρ : Env'} {τ τ' : TS} {o : Option Int}, e ≠ .nope → evp P e ρ τ = some (o, τ') → ∃ i, o = some i ∧ ev P e ρ τ = some (.int i, τ') := by
  intro e ρ τ τ' o hn h
  have io : ∀ {d : D} {k : Int}, intO d = some k → d = .int k := fun {d k} h => by cases d <;> first | (cases h; rfl) | cases h
  cases e with
  | int i => simp only [evp, ev] at h ⊢; cases h; exact ⟨i, rfl, rfl⟩
  | var i =>
    simp only [evp, ev] at h ⊢
    cases q : ρ[i]? with
    | none => rw [q] at h; cases h
    | some s =>
      rw [q] at h
      cases s with
      | d x =>
        cases x with
        | int k => simp only at h ⊢; cases h; exact ⟨k, rfl, rfl⟩
        | _ => cases h
      | _ => cases h
  | neg a =>
    simp only [evp, Option.bind_eq_some_iff, Option.map_eq_some_iff, Prod.exists] at h
    obtain ⟨d, τ1, e1, d2, e2, k, e3, e4⟩ := h
    cases e4
    have := io e3
    subst this
    exact ⟨k, rfl, by simp only [ev, e1, Option.bind_some, e2, Option.map_some]⟩
  | bin op a b =>
    simp only [evp, Option.bind_eq_some_iff, Option.map_eq_some_iff, Prod.exists] at h
    obtain ⟨d, τ1, e1, d2, τ2, e2, d3, e3, k, e4, e5⟩ := h
    cases e5
    have := io e4
    subst this
    exact ⟨k, rfl, by simp only [ev, e1, Option.bind_some, e2, e3, Option.map_some]⟩
  | idx a b =>
    simp only [evp, Option.bind_eq_some_iff, Option.map_eq_some_iff, Prod.exists] at h
    obtain ⟨d, τ1, e1, d2, τ2, e2, d3, e3, k, e4, e5⟩ := h
    cases e5
    have := io e4
    subst this
    exact ⟨k, rfl, by simp only [ev, e1, Option.bind_some, e2, e3, Option.map_some]⟩
  | blt b es =>
    simp only [evp, Option.bind_eq_some_iff, Option.map_eq_some_iff, Prod.exists] at h
    obtain ⟨d, τ1, e1, d2, e2, k, e3, e4⟩ := h
    cases e4
    have := io e3
    subst this
    exact ⟨k, rfl, by simp only [ev, e1, Option.bind_some, e2, Option.map_some]⟩
  | nope => exact absurd rfl hn
  | _ => simp [evp] at h
end
end PD

set_option Elab.async false
set_option linter.all false
set_option maxRecDepth 100000
set_option maxHeartbeats 4000000
/-! The tape, map steps, sorted sets, enumerate: readings. -/
namespace PD
open PySem L2 PySem.Spec PyProof.Rows
section
variable {nm : Nm} {P : Sg} {C : Con} {W : TW} {X : Cx} {bk : Bool}

/-! ### enumerate -/
theorem enumD_len : ∀ (k : Nat) (xs : List D), (enumD k xs).length = xs.length
  | _, [] => rfl
  | k, x :: xs => by rw [enumD, List.length_cons, List.length_cons, enumD_len (k + 1) xs]
theorem enumD_get : ∀ (k : Nat) (xs : List D) (i : Nat) (d : D), xs[i]? = some d → (enumD k xs)[i]? = some (.tup [.int ((k + i : Nat) : Int), d])
  | _, [], _, _, h => by simp at h
  | k, x :: xs, 0, d, h => by
    simp only [List.getElem?_cons_zero, Option.some.injEq] at h
    subst h; rfl
  | k, x :: xs, i + 1, d, h => by
    simp only [List.getElem?_cons_succ] at h
    rw [enumD, List.getElem?_cons_succ, enumD_get (k + 1) xs i d h]
    have : k + 1 + i = k + (i + 1) := by omega
    rw [this]
theorem wk_enum {go stop : Nat → Hp → Prop} {itm : Nat → Hp → V → Prop} {F : Hp} {xs : List D} (h1 : ∀ i F' H, Sub F F' → Sub F' H → i < xs.length → go i H) (h2 : ∀ F' H, Sub F F' → Sub F' H → stop xs.length H)
    (h3 : ∀ i F1 H x, Sub F F1 → Sub F1 H → i < xs.length → itm i H x → ∃ d, xs[i]? = some d ∧ R C F1 x d) : Wk C (Ieg go stop itm) F (enumD 0 xs) where
  stop := fun F' H s1 s2 => by rw [enumD_len]; exact h2 F' H s1 s2
  go := fun i F' H s1 s2 hi => h1 i F' H s1 s2 (by rw [enumD_len] at hi; exact hi)
  yld := fun i F1 H x H' s1 s2 hi y => by
    rw [enumD_len] at hi
    obtain ⟨T, v, rfl, hT, rfl, hv⟩ := y
    obtain ⟨d, hd, rd⟩ := h3 i F1 H v s1 s2 hi hv
    refine ⟨_, upd F1 T (.tup [.int (i : Nat), v]), enumD_get 0 xs i d hd, ExtP.new s2 _ hT, ?_⟩
    rw [Nat.zero_add]
    exact .tup (.inl (.inl upd_same)) (RA.sub (sub_upd (s2.none hT)) _ (.cons (.int _) (.cons rd .nil))) fun z => by
      cases hc : C.tk <;> rw [hc] at z <;> cases z
theorem rd_enum {a : E} (hK : C.K = X.K) {σ : L2.St} {H : Hp} {Rr : It → Hp → Prop} (h : RdI P C W (.enum a) σ H Rr) : iEnumG X.K (RdE P C W a) σ H Rr := by
  obtain ⟨F0, H0, F, ρ, τ, xs, τ', r, e, k⟩ := h
  simp only [evi, Option.bind_eq_some_iff, Option.map_eq_some_iff, Prod.exists] at e
  obtain ⟨d, τ1, e1, ys, e2, e3⟩ := e
  cases e3
  refine ⟨F0, H0, F, ρ, τ, d, _, r, e1, fun v F1 H1 x1 r1 q1 => ⟨v, rfl, ?_⟩⟩
  cases q1 with
  | str s =>
    cases e2
    refine .inl ⟨_, rfl, k _ F1 H1 x1 r1 (wk_enum (fun i F' H s1 s2 hi => ?_) (fun F' H s1 s2 => ?_) fun i F2 H x s1 s2 hi hv => ?_)⟩
    · show i < s.toArray.size
      simpa using hi
    · show _ = s.toArray.size
      simp
    · obtain ⟨c, hc, rfl⟩ := hv
      have hc' : s[i]? = some c := by simpa using hc
      exact ⟨.str [c], by rw [List.getElem?_map, hc']; rfl, .str [c]⟩
  | @tup p vs ds h1 h2 h3 =>
    cases e2
    rw [hK] at h1
    refine .inr (.inl ⟨p, vs, rfl, sqT_sub r1.sub h1, k _ F1 H1 x1 r1 (wk_enum (fun i F' H s1 s2 hi => ⟨vs, sqT_sub (s1.tr s2) h1, by rw [h2.len]; exact hi⟩) (fun F' H s1 s2 => ⟨vs, sqT_sub (s1.tr s2) h1, h2.len.symm⟩) fun i F2 H x s1 s2 hi hv => ?_)⟩)
    have hx := hv vs (sqT_sub (s1.tr s2) h1)
    obtain ⟨v, hv2, rv⟩ := h2.get (List.getElem?_eq_getElem hi)
    rw [hx] at hv2; cases hv2
    exact ⟨_, List.getElem?_eq_getElem hi, R.sub s1 _ rv⟩
  | @lst p vs ds h1 h2 =>
    cases e2
    have sq : ∀ {F' H : Hp}, Sub F1 F' → Sub F' H → SqL X.K H p vs := fun s1 s2 => .inl (.inl (s2 _ _ (s1 _ _ h1)))
    refine .inr (.inr ⟨p, vs, rfl, .inl (.inl (r1.sub _ _ h1)), k _ F1 H1 x1 r1 (wk_enum (fun i F' H s1 s2 hi => ⟨vs, sq s1 s2, by rw [h2.len]; exact hi⟩) (fun F' H s1 s2 => ⟨vs, sq s1 s2, h2.len.symm⟩) fun i F2 H x s1 s2 hi hv => ?_)⟩)
    have hx := hv vs (sq s1 s2)
    obtain ⟨v, hv2, rv⟩ := h2.get (List.getElem?_eq_getElem hi)
    rw [hx] at hv2; cases hv2
    exact ⟨_, List.getElem?_eq_getElem hi, R.sub s1 _ rv⟩
  | _ => cases e2
/-! ### sorted(set(..)) -/
theorem txs_of : ∀ {ds : List D} {ss : List (List Nat)}, txsO ds = some ss → ds = ss.map D.str
  | [], ss, h => by cases h; rfl
  | .str s :: r, ss, h => by
    simp only [txsO, Option.map_eq_some_iff] at h
    obtain ⟨t, h1, rfl⟩ := h
    rw [txs_of h1]; rfl
  | .non :: _, _, h => by cases h
  | .bl _ :: _, _, h => by cases h
  | .int _ :: _, _, h => by cases h
  | .tup _ :: _, _, h => by cases h
  | .lst _ :: _, _, h => by cases h
theorem rd_srt {a : E} (hK : C.K = X.K) {σ : L2.St} {H : Hp} {Q : VK} (h : RdE P C W (.srt a) σ H Q) : tCB (rSortTx X.prog X.w) (tCons (tCB (rSetTx X.K X.prog X.w) (tCons (RdE P C W a) tNil)) tNil) σ H Q := by
  obtain ⟨F0, H0, F, ρ, τ, d, τ', r, e, k⟩ := h
  simp only [ev, Option.bind_eq_some_iff, Option.map_eq_some_iff, Prod.exists] at e
  obtain ⟨d1, τ1, e1, d2, e2, e3⟩ := e
  cases e3
  refine ⟨F0, H0, F, ρ, τ, d1, _, r, e1, fun v F1 H1 x1 r1 q1 => ?_⟩
  cases q1 with
  | @lst p vs ds h1 h2 =>
    simp only [srtD, Option.bind_eq_some_iff] at e2
    obtain ⟨ss, e4, e5⟩ := e2
    split at e5
    · rename_i hl
      cases e5
      have e6 := txs_of e4
      subst e6
      have e7 := RA.strs ss h2
      subst e7
      refine ⟨ss.map tx, .inl ⟨p, rfl, .inl (.inl (r1.sub _ _ h1))⟩, by rw [List.length_map]; unfold scanBound; omega, fun b ks hb nd hlen hmem => ?_⟩
      have r2 := r1.extP (ExtP.raw r1.sub (TxO X.prog X.w b ks) hb)
      rw [List.length_map] at hlen
      refine ⟨b, ks, rfl, upd_same, by unfold scanBound; omega, fun q hq => ?_⟩
      rw [sort_eq nd hmem]
      exact k _ _ _ ((x1.tr (ExtP.raw r1.sub _ hb).ext).tr (Ext.new r2.sub _ hq)) (r2.new _ hq) (R.newL r2.sub hq (RA.of_strs _))
    · cases e5
  | str z =>
    simp only [srtD] at e2
    split at e2
    · rename_i hl
      cases e2
      have hmap : z.map (fun c => (⟨#[c]⟩ : Str)) = (z.map fun c => [c]).map tx := by rw [List.map_map]; rfl
      refine ⟨(z.map fun c => [c]).map tx, .inr ⟨tx z, rfl, by rw [← hmap]⟩, by rw [List.length_map, List.length_map]; unfold scanBound; omega, fun b ks hb nd hlen hmem => ?_⟩
      have r2 := r1.extP (ExtP.raw r1.sub (TxO X.prog X.w b ks) hb)
      rw [List.length_map, List.length_map] at hlen
      refine ⟨b, ks, rfl, upd_same, by unfold scanBound; omega, fun q hq => ?_⟩
      rw [sort_eq nd hmem]
      exact k _ _ _ ((x1.tr (ExtP.raw r1.sub _ hb).ext).tr (Ext.new r2.sub _ hq)) (r2.new _ hq) (R.newL r2.sub hq (RA.of_strs _))
    · cases e2
  | _ => cases e2
/-! ### the tape -/
theorem rd_tget {i k : Nat} (hk : k = 1 ∨ k = 2) {σ : L2.St} {H : Hp} {Q : VK} (h : RdE P C W (.tget i k) σ H Q) : tOp (rIxL X.K) (tVar i) (tC (.int (k : Int))) σ H Q := by
  obtain ⟨F0, H0, F, ρ, τ, d, τ', r, e, kk⟩ := h
  simp only [ev] at e
  cases q : ρ[i]? with
  | none => rw [q] at e; cases e
  | some s =>
    rw [q] at e
    cases s with
    | tape =>
      cases e
      obtain ⟨v, e1, e2⟩ := r.get q
      have e2 : v = some (.ref W.tp) := e2
      subst e2
      refine ⟨_, e1, W.tp, _, _, .int (if k = 1 then τ.pos else τ.cur), rfl, rfl, .inl (.inl r.tape.at_), atI_nat (j := k) ?_, kk _ F H (Ext.rfl' r.sub) r (.int _)⟩
      rcases hk with rfl | rfl <;> rfl
    | _ => cases e
theorem rd_tlen {i : Nat} {σ : L2.St} {H : Hp} {Q : VK} (h : RdE P C W (.tlen i) σ H Q) (hns : P.ns = W.ns) :
    tCB (fun xs H Q => ∃ p ys, xs = [.ref p] ∧ (SqL X.K H p ys ∨ SqT X.K H p ys) ∧ Q (.int ys.length) H) (tCons (tOp (rIxL X.K) (tVar i) (tC (.int ((0 : Nat) : Int)))) tNil) σ H Q := by
  obtain ⟨F0, H0, F, ρ, τ, d, τ', r, e, kk⟩ := h
  simp only [ev] at e
  cases q : ρ[i]? with
  | none => rw [q] at e; cases e
  | some s =>
    rw [q] at e
    cases s with
    | tape =>
      cases e
      obtain ⟨v, e1, e2⟩ := r.get q
      have e2 : v = some (.ref W.tp) := e2
      subst e2
      refine ⟨_, e1, W.tp, _, _, .ref W.L, rfl, rfl, .inl (.inl r.tape.at_), atI_nat (j := 0) rfl, W.L, _, rfl, .inl (.inl (.inl (r.sub _ _ r.tape.cells))), ?_⟩
      rw [List.length_map, ← hns]
      exact kk _ F H (Ext.rfl' r.sub) r (.int _)
    | _ => cases e
theorem rd_tcell {i : Nat} {a : E} {σ : L2.St} {H : Hp} {Q : VK} (h : RdE P C W (.tcell i a) σ H Q) (hns : P.ns = W.ns) : tOp (rIxL X.K) (tOp (rIxL X.K) (tVar i) (tC (.int ((0 : Nat) : Int)))) (RdE P C W a) σ H Q := by
  obtain ⟨F0, H0, F, ρ, τ, d, τ', r, e, kk⟩ := h
  simp only [ev] at e
  cases q : ρ[i]? with
  | none => rw [q] at e; cases e
  | some s =>
    rw [q] at e
    cases s with
    | tape =>
      simp only [Option.bind_eq_some_iff, Prod.exists] at e
      obtain ⟨d1, τ1, e1, n, e2, e3⟩ := e
      split at e3
      · rename_i h0
        simp only [Option.map_eq_some_iff] at e3
        obtain ⟨z, e4, e5⟩ := e3
        cases e5
        cases d1 with
        | int m =>
          obtain rfl : m = n := Option.some.inj e2
          obtain ⟨v, e6, e7⟩ := r.get q
          have e7 : v = some (.ref W.tp) := e7
          subst e7
          refine ⟨_, e6, W.tp, _, _, .ref W.L, rfl, rfl, .inl (.inl r.tape.at_), atI_nat (j := 0) rfl, F0, H0, F, ρ, τ, _, _, r, e1, fun v F1 H1 x1 r1 q1 => ?_⟩
          cases q1
          refine ⟨W.L, _, m, .int z, rfl, rfl, .inl (.inl (r1.sub _ _ r1.tape.cells)), ?_, kk _ F1 H1 x1 r1 (.int _)⟩
          have hm : ((m.toNat : Nat) : Int) = m := Int.toNat_of_nonneg h0
          have := atI_nat (xs := W.ns.map V.int) (j := m.toNat) (v := .int z) (by rw [List.getElem?_map, ← hns, e4]; rfl)
          rw [hm] at this
          exact this
        | _ => cases e2
      · cases e3
    | _ => cases e
theorem Rel.tset {F0 H0 F H : Hp} {σ : L2.St} {ρ : Env'} {τ τ' : TS} (r : Rel C W F0 H0 F H σ ρ τ) (e : vs = [V.ref W.L, .int τ'.pos, .int τ'.cur]) : Rel C W F0 H0 F (upd H W.tp (.lst vs)) σ ρ τ' := by
  subst e
  refine r.ext ⟨Sub.rfl' F, fun a u q => ?_, fun a u q n ht => ?_⟩ ⟨r.tape.out, upd_same, r.tape.cells⟩
  · rw [upd_ne (fun z => by rw [z, r.tape.out] at q; cases q)]; exact r.sub a u q
  · rw [upd_ne ht]; exact ⟨q, n⟩
theorem rd_tset {i k : Nat} {e : E} (hk : k = 1 ∨ k = 2) {D : Ends} {σ : L2.St} {H : Hp} (h : ∃ F0 H0 F ρ τ d τ1 n, Rel C W F0 H0 F H σ ρ τ ∧ ρ[i]? = some Slot.tape ∧ ev P e ρ τ = some (d, τ1) ∧ intO d = some n ∧
      ∀ F' H', Sub F F' → Rel C W F0 H0 F' H' σ ρ (if k = 1 then ⟨n, τ1.cur⟩ else ⟨τ1.pos, n⟩) → D.nx σ H') : tAsg (RdE P C W e) (gSub (tVar i) (tC (.int (k : Int))) rSetL) D σ H := by
  obtain ⟨F0, H0, F, ρ, τ, d, τ1, n, r, q, e1, e2, kk⟩ := h
  refine ⟨F0, H0, F, ρ, τ, d, τ1, r, e1, fun v F1 H1 x1 r1 q1 => ?_⟩
  obtain ⟨v', e3, e4⟩ := r1.get q
  have e4 : v' = some (.ref W.tp) := e4
  subst e4
  cases d with
  | int m =>
    obtain rfl : m = n := Option.some.inj e2
    cases q1
    rcases hk with rfl | rfl
    · exact ⟨_, e3, W.tp, _, _, 1, rfl, rfl, r1.tape.at_, rfl, kk F1 _ x1.ff (r1.tset rfl)⟩
    · exact ⟨_, e3, W.tp, _, _, 2, rfl, rfl, r1.tape.at_, rfl, kk F1 _ x1.ff (r1.tset rfl)⟩
  | _ => cases e2
/-! ### map steps -/
/-- a written map step: its texts are three objects -/
def tMapC (x y : Str) : TE := fun _ H Q => ∀ (a : Addr) (o : Obj) (t0 t1 t2 : Tok), H a = none → o.cls = .type "tuple" → o.data = .seq #[.str (tx mapW) t0, .str x t1, .str y t2] 0 → t1 ≠ 0 → t2 ≠ 0 → t1 ≠ t2 → Q (.ref a) (upd H a (.frz o (.tup [.str (tx mapW), .str x, .str y])))
theorem pe_mapc {w x y : Str} {j0 j1 j2 k : Nat} {c0 c1 c2 pos : Pos} (hw : w = tx mapW) : PE X (.Tuple [.Constant (.str w) j0 c0, .Constant (.str x) j1 c1, .Constant (.str y) j2 c2] k pos) (tMapC x y) := by
  subst hw
  refine ⟨fun pins s σ H Q I h => Tuple_ ?_⟩
  show wpAny _ _ (spliced ((false, eval (.Constant (.str (tx mapW)) j0 c0) X.env) :: (false, eval (.Constant (.str x) j1 c1) X.env) :: (false, eval (.Constant (.str y) j2 c2) X.env) :: backTo pos (starEach [] X.env))) _ _ s
  refine Calls.spliced_cons (Calls.Constant_str (Calls.spliced_cons (Calls.Constant_str (Calls.spliced_cons (Calls.Constant_str (Calls.spliced_nil ?_))))))
  refine wpAny_newObj_type ?_ (by show 3 ≤ sizeLine; decide)
  have h3 : (3 : Nat) ≤ sizeLine := by decide
  refine ⟨.ref s.heap.objs.size, upd H s.heap.objs.size (.frz { cls := .type "tuple", data := .seq #[.str (tx mapW) s.toks, .str x (s.toks + 1), .str y (s.toks + 1 + 1)] } (.tup [.str (tx mapW), .str x, .str y])), ?_, rfl, ?_⟩
  · exact I.laid (t' := s.toks + 1 + 1 + 1) (fun b u e => Heap.get?_push_of_some _ e) (Nat.le_refl _) ⟨Heap.get?_push_size _ rfl, h3, [.str (tx mapW) s.toks, .str x (s.toks + 1), .str y (s.toks + 1 + 1)], .cons ⟨_, rfl⟩ (.cons ⟨_, rfl⟩ (.cons ⟨_, rfl⟩ .nil)), ⟨_, Heap.get?_push_size _ rfl, rfl, _, rfl⟩⟩
  · exact h _ _ s.toks (s.toks + 1) (s.toks + 1 + 1) (I.hok.fresh (Nat.le_refl _)) rfl rfl (Nat.succ_ne_zero _) (Nat.succ_ne_zero _) (Nat.ne_of_lt (Nat.lt_succ_self _))
theorem R.newM {F H : Hp} (s : Sub F H) {p : Addr} (hp : H p = none) {o : Obj} {x y : List Nat} {t0 t1 t2 : Tok} (hc : o.cls = .type "tuple") (hd : o.data = .seq #[.str (tx mapW) t0, .str (tx x) t1, .str (tx y) t2] 0) (n1 : t1 ≠ 0) (n2 : t2 ≠ 0) (n3 : t1 ≠ t2) :
    R C (upd F p (.frz o (.tup [.str (tx mapW), .str (tx x), .str (tx y)]))) (.ref p) (.tup [.str mapW, .str x, .str y]) :=
  .tup (.inl (.inr ⟨o, upd_same⟩)) (.cons (.str _) (.cons (.str _) (.cons (.str _) .nil))) fun _ => ⟨o, _, _, _, 0, t0, t1, t2, .inl upd_same, rfl, hc, hd, n1, n2, n3⟩
theorem rd_mapc {x y : List Nat} {σ : L2.St} {H : Hp} {Q : VK} (h : RdE P C W (.mapc x y) σ H Q) : tMapC (tx x) (tx y) σ H Q := by
  obtain ⟨F0, H0, F, ρ, τ, d, τ', r, e, k⟩ := h
  simp only [ev] at e
  split at e
  · cases e
    exact fun a o t0 t1 t2 ha hc hd n1 n2 n3 => k _ _ _ (Ext.new r.sub _ ha) (r.new _ ha) (R.newM r.sub ha hc hd n1 n2 n3)
  · cases e
theorem raw_ixT {i : Nat} {x : Str} {a : Addr} {its : Array Value} {k : Int} {j m : Nat} {w : Value} {p1 cp pos : Pos} {Q E : Value → Shared → Prop} {pins : List (Addr × Obj)} {s : Shared} {σ : L2.St} {H : Hp} (hN : X.N[i]? = some x) (hv : Vis X.env.scope x) (I : Inv X pins σ H s)
    (hσ : σ[i]? = some (some (.ref a))) (hl : PyProof.Rows.IsTup s.heap a its) (hm : k = (m : Int)) (hfit : m < 100) (hx : its[m]? = some w) (fin : ∀ tk, Q w { s with toks := tk })
    (hd : (x == ("__debug__" : Str)) = false) (hcd : (x == ("__classdict__" : Str)) = false) :
    wpAny (model X.prog X.w) X.A (eval (.Subscript (.Name x p1) (.Constant (.int k) j cp) pos) X.env) Q E s := by
  subst hm
  refine Subscript_ (raw_name hN hv I hσ (fun v r => ?_) hd hcd)
  obtain rfl : v = Value.ref a := r
  refine wpAny_Constant_int ?_
  have hi : m < its.size := (Array.getElem?_eq_some_iff.mp hx).1
  refine subscriptTail_builtinR (x := w) (s := { s with toks := s.toks + 1 }) hl.typeIs PyProof.Rows.slot_tuple_getitem.lookup
    (PyProof.Rows.getItem_tuple (j := m) (Q := fun r s' => r = w ∧ Q r s') hl (by omega) (by omega) ?_ hx ⟨rfl, fin _⟩) ?_
  · have e : ixN its.size (m : Int) = some m := by
      unfold ixN
      rw [if_pos (by omega), if_pos (by omega)]
      simp
    exact (ixN_seq e).1
  · rfl
/-- text.replace(step[1], step[2]) of a map step -/
def tRepM (K : PySem.W.Frag) (i j : Nat) : TE := fun σ H Q => ∃ x a vs y z, σ[i]? = some (some (.str x)) ∧ σ[j]? = some (some (.ref a)) ∧ SqT K H a vs ∧ TokT K H a vs ∧ (∃ w, vs = [.str w, .str y, .str z]) ∧ (y == z) = false ∧ x.length + (x.length + 1) * z.length ≤ 16777216 ∧ Q (.str (Txt.replace x y z)) H
theorem pe_replM {i j : Nat} {kx px : Str} {j0 j1 : Nat} {p1 p2 p3 c0 c1 q0 q1 apos pos : Pos} (hNk : X.N[i]? = some kx) (hvk : Vis X.env.scope kx) (hNp : X.N[j]? = some px) (hvp : Vis X.env.scope px)
    (hk : okN kx = true) (hp : okN px = true) (hline : (apos.endLine == pos.line) = true) :
    PE X (.Call (.Attribute (.Name kx p1) "replace" apos) [.Subscript (.Name px p2) (.Constant (.int 1) j0 c0) q0, .Subscript (.Name px p3) (.Constant (.int 2) j1 c1) q1] [] pos) (tRepM X.K i j) := by
  refine ⟨fun pins s σ H Q I h => ?_⟩
  obtain ⟨x, a, vs, y, z, hx, ha, hs, ht, ⟨w, rfl⟩, hyz, hb, q⟩ := h
  obtain ⟨o, w', y', z', n, t0, t1, t2, ho, e1, hc, hd, n1, n2, n3⟩ := ht
  injection e1 with e2 e1
  injection e1 with e3 e1
  injection e1 with e4 _
  cases e2; cases e3; cases e4
  have hl : PyProof.Rows.IsTup s.heap a #[.str w t0, .str y t1, .str z t2] := by
    rcases ho with h1 | h1
    · obtain ⟨h5, _⟩ := I.hok a _ h1
      exact ⟨o, h5, hc, n, hd⟩
    · exact ⟨o, I.kIn a o h1, hc, n, hd⟩
  refine PySem.Call_method2 rfl rfl hline (raw_name hNk hvk I hx (fun v r => ?_) (okN_of hk).1 (okN_of hk).2.1)
  obtain ⟨tx, rfl⟩ := r
  refine ⟨"str", _, F.plainAttrs_str, F.slot_str_replace, F.type_str_replace, typeIs_str _ _ _, (fun _ e => nomatch e), Calls.callWith_builtin rfl (Calls.evalArgs_plain (Calls.spliced_cons ?_))⟩
  refine raw_ixT hNp hvp I ha hl (m := 1) rfl (by omega) rfl (fun k1 => ?_) (okN_of hp).1 (okN_of hp).2.1
  refine Calls.spliced_cons (raw_ixT hNp hvp (I.tok k1) ha hl (m := 2) rfl (by omega) rfl (fun k2 => ?_) (okN_of hp).1 (okN_of hp).2.1)
  refine Calls.spliced_nil ?_
  exact PySem.SC.replace n1 n2 n3 hyz hb fun t' k => ⟨.str (Txt.replace x y z), H, I.tok k, ⟨t', rfl⟩, q⟩
theorem rd_repl {i j : Nat} (hK : C.K = X.K) (htk : P.tk = C.tk) {σ : L2.St} {H : Hp} {Q : VK} (h : RdE P C W (.repl i j) σ H Q) : tRepM X.K i j σ H Q := by
  obtain ⟨F0, H0, F, ρ, τ, d, τ', r, e, k⟩ := h
  simp only [ev] at e
  split at e
  · rename_i t w x y q1 q2
    split at e
    · rename_i hm
      obtain ⟨m0, m1, m2, m3⟩ := hm
      cases e
      obtain ⟨v1, s1, u1, rfl, r1⟩ := r.get q1
      obtain ⟨v2, s2, u2, rfl, r2⟩ := r.get q2
      cases r1
      cases r2 with
      | @tup a vs _ h1 h2 h3 =>
        have ht := h3 (by rw [← htk, m0]; exact m1)
        have e7 := RA.strs [w, x, y] h2
        subst e7
        have hxy : (tx x == tx y) = false := by
          simp only [isMap, Bool.and_eq_true, bne_iff_ne, ne_eq] at m1
          refine beq_eq_false_iff_ne.mpr fun z => m1.2 ?_
          have := congrArg (fun s : Str => s.cps.toList) z
          exact this
        refine ⟨_, a, _, tx x, tx y, s1, s2, by rw [← hK]; exact sqT_sub r.sub h1, by rw [← hK]; exact tokT_sub r.sub ht, ⟨_, rfl⟩, hxy, by rw [tx_len, tx_len]; exact m2, ?_⟩
        have e8 : Txt.replace (tx t) (tx x) (tx y) = tx (PySem.StrLaws.replL x y t) := by
          have hx : 1 ≤ (tx x).length := by
            rw [tx_len]
            cases x with
            | nil => exact absurd rfl m3
            | cons _ _ => exact Nat.succ_le_succ (Nat.zero_le _)
          have := PySem.StrLaws.replace_list (x := tx t) (y := tx x) (z := tx y) hx
          rw [← tx_self (Txt.replace (tx t) (tx x) (tx y)), this]
        rw [e8]
        exact k _ F H (Ext.rfl' r.sub) r (.str _)
    · cases e
  · cases e
end
end PD

set_option Elab.async false
set_option linter.all false
set_option maxRecDepth 100000
set_option maxHeartbeats 8000000
/-! What a checked expression does, all forms. -/
namespace PD
open PySem L2
def tyV' : Ty → String
  | .int => "int" | .bool => "bool" | .str => "str" | .list => "list" | .tuple => "tuple"
def dTy : D → String
  | .non => "NoneType" | .bl _ => "bool" | .int _ => "int" | .str _ => "str" | .tup _ => "tuple" | .lst _ => "list"
theorem kit_D (d : D) (t : Ty) : kitB (dTy d) (tyV' t) = some (tyIs d t) := by
  cases d <;> cases t <;> simp only [dTy, tyV', tyIs] <;> decide +kernel
theorem ty_of {C : Con} {F H : Hp} (s : Sub F H) {v : V} {d : D} (r : R C F v d) : TyX C.K H v (.type (dTy d)) := by
  cases r with
  | non => exact .base .non
  | bl b => exact .base (.bl b)
  | int i => exact .base (.int i)
  | str z => exact .base (.str _)
  | lst h1 h2 => exact .base (.lst (s _ _ h1))
  | tup h1 h2 h3 =>
    rcases h1 with (h1 | ⟨o, h1⟩) | ⟨o, its, n, h1, hc, _⟩
    · exact .base (.tup (s _ _ h1))
    · exact .fTuple (s _ _ h1)
    · exact .kTuple h1 hc
section
variable {nm : Nm} {P : Sg} {C : Con} {W : TW}
theorem Good.ty {bk : Bool} {X : Cx} (g : Good nm P C W bk X) (t : Ty) : X.mg (tyN t) = none := by
  cases t with
  | int => exact g.blt .int
  | bool => exact g.bool
  | str => exact g.blt .str
  | list => exact g.blt .list
  | tuple => exact g.blt .tuple
theorem ty_pe {bk : Bool} {X : Cx} (g : Good nm P C W bk X) {t : Ty} {pos : Pos} (h : glB X.env.scope (tyN t) = true) : PE X (.Name (tyN t) pos) (tC (.ty (tyV' t))) := by
  cases t with
  | int => exact pe_bltn (gl_of h) (g.ty .int) (by decide +kernel) rfl (by decide +kernel) (by decide +kernel)
  | bool => exact pe_bltn (gl_of h) (g.ty .bool) (by decide +kernel) rfl (by decide +kernel) (by decide +kernel)
  | str => exact pe_bltn (gl_of h) (g.ty .str) (by decide +kernel) rfl (by decide +kernel) (by decide +kernel)
  | list => exact pe_bltn (gl_of h) (g.ty .list) (by decide +kernel) rfl (by decide +kernel) (by decide +kernel)
  | tuple => exact pe_bltn (gl_of h) (g.ty .tuple) (by decide +kernel) rfl (by decide +kernel) (by decide +kernel)
def tTys : List Ty → TA
  | [] => tNil
  | t :: ts => tCons (tC (.ty (tyV' t))) (tTys ts)
theorem tys_pa {bk : Bool} {X : Cx} (g : Good nm P C W bk X) : ∀ {ts : List Ty} {l : List Expr}, chkTys X.env.scope ts l = true → PA X l (tTys ts)
  | [], l, h => by
    cases l with
    | nil => exact pa_nil
    | cons _ _ => cases h
  | t :: ts, l, h => by
    cases l with
    | nil => cases h
    | cons e r =>
      cases e with
      | Name x pos =>
        simp only [chkTys, Bool.and_eq_true, decide_eq_true_eq] at h
        obtain ⟨⟨rfl, h2⟩, h3⟩ := h
        exact pa_cons (ty_pe g h2) (tys_pa g h3) rfl
      | _ => cases h
theorem tTys_run : ∀ (ts : List Ty) (σ : St) (H : Hp) (Q : List V → Hp → Prop), Q (ts.map fun t => V.ty (tyV' t)) H → tTys ts σ H Q
  | [], σ, H, Q, h => h
  | t :: ts, σ, H, Q, h => tTys_run ts σ H _ h
theorem kit_any {K : PySem.W.Frag} (d : D) : ∀ ts : List Ty, PySem.W.kitAny K (.type (dTy d)) (ts.map fun t => Value.type (tyV' t)) = some (ts.any (tyIs d))
  | [] => rfl
  | t :: ts => kitAny_cons (kit_ty (kit_D d t)) (fun e => by rw [List.any_cons, e, Bool.false_or]; exact kit_any d ts) (fun e => by rw [List.any_cons, e]; rfl)
theorem pair_tys : ∀ ts : List Ty, Paired ClsV (ts.map fun t => V.ty (tyV' t)) (ts.map fun t => Value.type (tyV' t))
  | [] => .nil
  | t :: ts => .cons (.ty _) (pair_tys ts)

section
variable {X : Cx}
theorem rd_and {a b : Tt} {σ : St} {H : Hp} {Q : Bool → Hp → Prop} (h : RdT P C W (.and a b) σ H Q) : tAnd (RdT P C W a) (RdT P C W b) σ H Q := by
  obtain ⟨F0, H0, F, ρ, τ, c, τ', r, e, k⟩ := h
  simp only [evt, Option.bind_eq_some_iff, Prod.exists] at e
  obtain ⟨c1, τ1, e1, e2⟩ := e
  refine ⟨F0, H0, F, ρ, τ, c1, τ1, r, e1, fun F1 H1 x1 r1 => ?_⟩
  cases c1 with
  | true =>
    rw [if_pos rfl] at e2 ⊢
    exact ⟨F0, H0, F1, ρ, τ1, c, τ', r1, e2, fun F2 H2 x2 r2 => k F2 H2 (x1.tr x2) r2⟩
  | false =>
    rw [if_neg Bool.false_ne_true] at e2 ⊢
    cases e2
    exact k F1 H1 x1 r1
theorem rd_or {a b : Tt} {σ : St} {H : Hp} {Q : Bool → Hp → Prop} (h : RdT P C W (.or a b) σ H Q) : tOr (RdT P C W a) (RdT P C W b) σ H Q := by
  obtain ⟨F0, H0, F, ρ, τ, c, τ', r, e, k⟩ := h
  simp only [evt, Option.bind_eq_some_iff, Prod.exists] at e
  obtain ⟨c1, τ1, e1, e2⟩ := e
  refine ⟨F0, H0, F, ρ, τ, c1, τ1, r, e1, fun F1 H1 x1 r1 => ?_⟩
  cases c1 with
  | false =>
    rw [if_neg Bool.false_ne_true] at e2 ⊢
    exact ⟨F0, H0, F1, ρ, τ1, c, τ', r1, e2, fun F2 H2 x2 r2 => k F2 H2 (x1.tr x2) r2⟩
  | true =>
    rw [if_pos rfl] at e2 ⊢
    cases e2
    exact k F1 H1 x1 r1
theorem rd_cmpT {o : CmpOp} {a b : E} {σ : St} {H : Hp} {Q : Bool → Hp → Prop} (h : RdT P C W (.cmp o a b) σ H Q) : tTest (tOp (rD2 C (cmpD o)) (RdE P C W a) (RdE P C W b)) σ H Q := by
  obtain ⟨F0, H0, F, ρ, τ, c, τ', r, e, k⟩ := h
  simp only [evt, Option.bind_eq_some_iff, Option.map_eq_some_iff, Prod.exists] at e
  obtain ⟨d1, τ1, e1, d2, τ2, e2, d3, e3, c1, e4, e5⟩ := e
  cases e5
  obtain ⟨c2, rfl⟩ := cmpD_bl e3
  obtain rfl := Option.some.inj e4
  exact ⟨F0, H0, F, ρ, τ, d1, τ1, r, e1, fun x F1 H1 x1 r1 q1 => ⟨F0, H0, F1, ρ, τ1, d2, _, r1, e2, fun y F2 H2 x2 r2 q2 =>
    ⟨F2, d1, d2, _, r2.sub, R.sub x2.ff _ q1, q2, e3, fun v F3 H3 x3 q3 => by cases q3; exact ⟨_, rfl, k F3 H3 ((x1.tr x2).tr x3.ext) (r2.extP x3)⟩⟩⟩⟩
theorem rd_chnT {o o' : CmpOp} {a b c : E} {σ : St} {H : Hp} {Q : Bool → Hp → Prop} (h : RdT P C W (.chn o o' a b c) σ H Q) : tTest (tChain (rD2 C (cmpD o)) (rD2 C (cmpD o')) (RdE P C W a) (RdE P C W b) (RdE P C W c)) σ H Q := by
  obtain ⟨F0, H0, F, ρ, τ, d, τ', r, e, k⟩ := h
  simp only [evt, Option.bind_eq_some_iff, Option.map_eq_some_iff, Prod.exists] at e
  obtain ⟨d1, τ1, e1, d2, τ2, e2, d3, e3, e4⟩ := e
  refine ⟨F0, H0, F, ρ, τ, d1, τ1, r, e1, fun x F1 H1 x1 r1 q1 => ⟨F0, H0, F1, ρ, τ1, d2, τ2, r1, e2, fun y F2 H2 x2 r2 q2 =>
    ⟨F2, d1, d2, d3, r2.sub, R.sub x2.ff _ q1, q2, e3, fun v F3 H3 x3 q3 => ?_⟩⟩⟩
  obtain ⟨k1, rfl⟩ := cmpD_bl e3
  cases q3
  have r3 := r2.extP x3
  refine ⟨k1, rfl, ?_⟩
  cases k1 with
  | false =>
    simp only at e4
    cases e4
    rw [if_neg Bool.false_ne_true]
    exact ⟨_, rfl, k F3 H3 ((x1.tr x2).tr x3.ext) r3⟩
  | true =>
    simp only [Option.bind_eq_some_iff, Option.map_eq_some_iff, Prod.exists] at e4
    obtain ⟨d4, τ4, e5, d6, e6, c7, e7, e8⟩ := e4
    cases e8
    obtain ⟨c2, rfl⟩ := cmpD_bl e6
    obtain rfl := Option.some.inj e7
    rw [if_pos rfl]
    exact ⟨F0, H0, F3, ρ, τ2, d4, _, r3, e5, fun z F4 H4 x4 r4 q4 => ⟨F4, d2, d4, _, r4.sub, R.sub (x3.ff.tr x4.ff) _ q2, q4, e6, fun v F5 H5 x5 q5 => by
      cases q5; exact ⟨_, rfl, k F5 H5 (((x1.tr x2).tr x3.ext).tr x4 |>.tr x5.ext) (r4.extP x5)⟩⟩⟩
theorem rd_isNT {ng : Bool} {a : E} {σ : St} {H : Hp} {Q : Bool → Hp → Prop} (h : RdT P C W (.isN ng a) σ H Q) : RdE P C W a σ H (fun x H1 => ∃ c, V.bl (if ng then !decide (x = .non) else decide (x = .non)) = .bl c ∧ Q c H1) := by
  obtain ⟨F0, H0, F, ρ, τ, d, τ', r, e, k⟩ := h
  simp only [evt, Option.map_eq_some_iff, Prod.exists] at e
  obtain ⟨d1, τ1, e1, e2⟩ := e
  cases e2
  refine ⟨F0, H0, F, ρ, τ, d1, _, r, e1, fun x F1 H1 x1 r1 q1 => ⟨_, rfl, ?_⟩⟩
  rw [q1.non_iff]
  have := k F1 H1 x1 r1
  cases d1 <;> cases ng <;> exact this
theorem rd_isBT {ng b : Bool} {a : E} {σ : St} {H : Hp} {Q : Bool → Hp → Prop} (h : RdT P C W (.isB ng a b) σ H Q) : tTest (tOp (fun x y H Q => ∃ a b : Bool, x = .bl a ∧ y = .bl b ∧ Q (.bl (if ng then !decide (a = b) else decide (a = b))) H) (RdE P C W a) (tC (.bl b))) σ H Q := by
  obtain ⟨F0, H0, F, ρ, τ, d, τ', r, e, k⟩ := h
  simp only [evt, Option.bind_eq_some_iff, Prod.exists] at e
  obtain ⟨d1, τ1, e1, e2⟩ := e
  cases d1 with
  | bl c =>
    simp only at e2
    cases e2
    refine ⟨F0, H0, F, ρ, τ, _, _, r, e1, fun x F1 H1 x1 r1 q1 => ?_⟩
    cases q1
    have e : decide (c = b) = (c == b) := by cases c <;> cases b <;> rfl
    refine ⟨c, b, rfl, rfl, _, rfl, ?_⟩
    rw [e]
    exact k F1 H1 x1 r1
  | _ => simp at e2
end

theorem p_ok {X : Cx} {e : E} (ih : ∀ x, chkE nm X.env.scope e x = true → PE X x (RdE P C W e)) (o : Option Expr) (h : (match o with | none => isNope e | some y => chkE nm X.env.scope e y) = true) : PO X o (RdP P C W e) := by
  cases o with
  | none =>
    cases e with
    | nope =>
      refine ⟨fun pins s σ H Q I q => po_none.run pins s σ H Q I ?_⟩
      obtain ⟨F0, H0, F, ρ, τ, o, τ', r, e, k⟩ := q
      cases e
      exact k F H (Ext.rfl' r.sub) r
    | _ => cases h
  | some x =>
    have hn : e ≠ .nope := fun z => by subst z; simp [chkE] at h
    refine ⟨fun pins s σ H Q I q => (po_some (ih x h)).run pins s σ H Q I ?_⟩
    obtain ⟨F0, H0, F, ρ, τ, o, τ', r, e1, k⟩ := q
    obtain ⟨i, rfl, e2⟩ := evp_ev hn e1
    refine ⟨F0, H0, F, ρ, τ, _, _, r, e2, fun v F1 H1 x1 r1 q1 => ?_⟩
    cases q1
    exact ⟨i, rfl, k F1 H1 x1 r1⟩
theorem c_ok {X : Cx} {c : Tt} (ih : ∀ x, chkT nm X.env.scope c x = true → PT X x (RdT P C W c)) (l : List Expr) (h : (match l with | [] => isYes c | [y] => chkT nm X.env.scope c y | _ => false) = true) : PTs X l (RdT P C W c) := by
  match l, h with
  | [], h =>
    cases c with
    | yes =>
      refine pts_imp pts_nil ?_
      rintro σ H Q ⟨F0, H0, F, ρ, τ, b, τ', r, e, k⟩
      cases e
      exact k F H (Ext.rfl' r.sub) r
    | _ => cases h
  | [x], h => exact pts_one (ih x h)
  | _ :: _ :: _, h => cases h

/-- range(a, b, c) -/
theorem rng3_pi {bk : Bool} {X : Cx} {t : Expr} (g : Good nm P C W bk X) {a b : E} {c : Int} {y z : Expr} {p1 p3 p2 : Pos} {j2 : Nat} (h2 : glB X.env.scope "range" = true) (h3 : notStar y = true) (h4 : notStar z = true) (ha : PE X y (RdE P C W a)) (hb : PE X z (RdE P C W b)) :
    PI X t (.Call (.Name "range" p1) [y, z, .Constant (.int c) j2 p2] [] p3) (RdI P C W (.rng3 a b c)) := by
  have e4 : starEach [z, .Constant (.int c) j2 p2] X.env = (false, eval z X.env) :: starEach [.Constant (.int c) j2 p2] X.env := star_of h4
  refine pi_imp (pi_range3 (gl_of h2) g.rng (pa_cons ha (pa_cons hb (pa_cons pe_int pa_nil rfl) e4) (star_of h3)) (star_of h3) (by rw [e4]; rfl)) ?_
  rintro σ H Rr ⟨F0, H0, F, ρ, τ, xs, τ', r, e1, k⟩
  simp only [evi, Option.bind_eq_some_iff, Prod.exists] at e1
  obtain ⟨d, τ1, e2, d2, τ2, e2', m, e3, n, e3', e4⟩ := e1
  split at e4
  · rename_i hn
    cases e4
    refine ⟨F0, H0, F, ρ, τ, d, _, r, e2, fun v F1 H1 x1 r1 q1 => ⟨F0, H0, F1, ρ, τ1, d2, _, r1, e2', fun v2 F2 H2 x2 r2 q2 => ?_⟩⟩
    cases d with
    | int i =>
      cases d2 with
      | int j =>
        cases e3; cases e3'
        cases q1; cases q2
        exact ⟨_, _, c, _, rfl, ⟨hn.1, hn.2.1, hn.2.2.1, (Int.toNat_of_nonneg hn.2.2.2).symm⟩, k _ F2 H2 (x1.tr x2) r2 (wk_rngC _ _ _)⟩
      | _ => cases e3'
    | _ => cases e3
  · cases e4
theorem wk_zip {F : Hp} (x y : List Nat) : Wk C (ItzS (tx x) (tx y)) F (zipC x y) where
  stop := fun F' H s1 s2 => by
    show _ = _
    simp [zipC, List.length_zip]
  go := fun i F' H s1 s2 hi => by
    show i < _
    simpa [zipC, List.length_zip] using hi
  yld := fun i F1 H v H' s1 s2 hi h => by
    obtain ⟨T, c, d, rfl, hT, rfl, q1, q2⟩ := h
    have e1 : x[i]? = some c := by simpa using q1
    have e2 : y[i]? = some d := by simpa using q2
    refine ⟨.tup [.str [c], .str [d]], upd F1 T (.tup [.str (tx [c]), .str (tx [d])]), ?_, ExtP.new s2 _ hT, .tup (.inl (.inl upd_same)) (.cons (.str _) (.cons (.str _) .nil)) fun z => by simp [isMap] at z⟩
    unfold zipC
    rw [List.getElem?_map, List.getElem?_zip_eq_some.mpr (show x[i]? = some (c, d).1 ∧ y[i]? = some (c, d).2 from ⟨e1, e2⟩)]
    rfl
/-- zip(a, b) of two texts -/
theorem zip_pi {bk : Bool} {X : Cx} {t : Expr} (g : Good nm P C W bk X) {a b : E} {y z : Expr} {p1 p2 : Pos} (ht : isTupE t = true) (h2 : glB X.env.scope "zip" = true) (h3 : notStar y = true) (h4 : notStar z = true) (ha : PE X y (RdE P C W a)) (hb : PE X z (RdE P C W b)) :
    PI X t (.Call (.Name "zip" p1) [y, z] [] p2) (RdI P C W (.zip a b)) := by
  cases t with
  | Tuple elts kk tpos =>
    have e4 : starEach [z] X.env = (false, eval z X.env) :: starEach [] X.env := star_of h4
    refine pi_imp (pi_zipS (gl_of h2) (g.oth _ (by simp)) (pa_cons ha (pa_cons hb pa_nil e4) (star_of h3)) (star_of h3) (by rw [e4]; rfl)) ?_
    rintro σ H Rr ⟨F0, H0, F, ρ, τ, xs, τ', r, e1, k⟩
    simp only [evi, Option.bind_eq_some_iff, Prod.exists] at e1
    obtain ⟨d, τ1, e2, d2, τ2, e3, e4⟩ := e1
    refine ⟨F0, H0, F, ρ, τ, d, _, r, e2, fun v F1 H1 x1 r1 q1 => ⟨F0, H0, F1, ρ, τ1, d2, _, r1, e3, fun v2 F2 H2 x2 r2 q2 => ?_⟩⟩
    cases d with
    | str x =>
      cases d2 with
      | str y =>
        cases e4
        cases q1; cases q2
        exact ⟨tx x, tx y, rfl, k _ F2 H2 (x1.tr x2) r2 (wk_zip x y)⟩
      | _ => cases e4
    | _ => cases e4
  | _ => cases ht
/-- a list of the frame's own is read -/
theorem rd_oix {K : PySem.W.Frag} {i : Nat} {e : E} {σ : L2.St} {H : Hp} {Q : VK} (h : RdE P C W (.oix i e) σ H Q) : tOp (rIxL K) (tVar i) (RdE P C W e) σ H Q := by
  obtain ⟨F0, H0, F, ρ, τ, d, τ', r, e0, kk⟩ := h
  simp only [ev] at e0
  cases q : ρ[i]? with
  | none => rw [q] at e0; cases e0
  | some s =>
    rw [q] at e0
    cases s with
    | ol xs =>
      simp only [Option.bind_eq_some_iff, Option.map_eq_some_iff, Prod.exists] at e0
      obtain ⟨d1, τ1, e1, n, e2, d2, e3, e4⟩ := e0
      cases e4
      obtain ⟨v, ea, a, e', ow⟩ := r.get q
      subst e'
      refine ⟨_, ea, F0, H0, F, ρ, τ, d1, _, r, e1, fun v F1 H1 x1 r1 q1 => ?_⟩
      cases d1 with
      | int m =>
        obtain rfl : m = n := Option.some.inj e2
        cases q1
        obtain ⟨⟨vs, hw, hr⟩, nF, ntp, nw⟩ := ow.ext x1
        obtain ⟨u, hu, ru⟩ := hr.at e3
        exact ⟨a, vs, m, u, rfl, rfl, .inl (.inl hw), hu, kk _ F1 H1 x1 r1 ru⟩
      | _ => cases e2
    | _ => cases e0
theorem rd_olen {K : PySem.W.Frag} {i : Nat} {σ : L2.St} {H : Hp} {Q : VK} (h : RdE P C W (.olen i) σ H Q) :
    tCB (fun xs H Q => ∃ p ys, xs = [.ref p] ∧ (SqL K H p ys ∨ SqT K H p ys) ∧ Q (.int ys.length) H) (tCons (tVar i) tNil) σ H Q := by
  obtain ⟨F0, H0, F, ρ, τ, d, τ', r, e0, kk⟩ := h
  simp only [ev] at e0
  cases q : ρ[i]? with
  | none => rw [q] at e0; cases e0
  | some s =>
    rw [q] at e0
    cases s with
    | ol xs =>
      cases e0
      obtain ⟨v, ea, a, e', ow⟩ := r.get q
      subst e'
      obtain ⟨⟨vs, hw, hr⟩, nF, ntp, nw⟩ := ow
      refine ⟨_, ea, a, vs, rfl, .inl (.inl (.inl hw)), ?_⟩
      rw [hr.len]
      exact kk _ F H (Ext.rfl' r.sub) r (.int _)
    | _ => cases e0
/-- the further forms -/
theorem op_pe {X : Cx} {o : Op} {z x : Expr} (hx : opArgs o z = some x) {e1 : E} (he : PE X x (RdE P C W e1)) : PE X z (RdE P C W (.op o (.cons e1 .nil))) := by
  unfold opArgs at hx
  split at hx
  · rename_i a b xa j1 c1 e p1 ya j2 c2 p2
    split at hx
    · rename_i hab
      obtain ⟨rfl, rfl⟩ := hab
      cases hx
      refine pe_imp (pe_joined (.cons pe_str (.cons (pe_fmt he) (.cons pe_str .nil)))) ?_
      rintro σ H Q ⟨F0, H0, F, ρ, τ, d, τ', r, e1, k⟩
      simp only [ev, evs, Option.bind_eq_some_iff, Option.map_eq_some_iff, Prod.exists] at e1
      obtain ⟨ds, τ1, ⟨d1, τ2, e2, ds2, τ3, e3, e4⟩, d2, e5, e6⟩ := e1
      cases e3
      cases e4
      cases e6
      cases d1 with
      | str s =>
        simp only [opD] at e5
        split at e5
        · rename_i hl
          cases e5
          refine ⟨tx a, rfl, ?_, F0, H0, F, ρ, τ, .str s, _, r, e2, fun v F1 H1 x1 r1 q1 => ?_⟩
          · rw [Str.empty_append, tx_len]; omega
          · cases q1
            refine .inl ⟨tx s, rfl, by rw [tx_len]; omega, tx s, rfl, ?_, tx b, rfl, ?_, ?_⟩
            · rw [Str.empty_append, tx_app, tx_len, List.length_append]; omega
            · rw [Str.empty_append, tx_app, tx_app, tx_len, List.length_append, List.length_append]; omega
            · rw [Str.empty_append, tx_app, tx_app]
              exact k _ _ _ x1 r1 (.str _)
        · cases e5
      | _ => simp [opD] at e5
    · cases hx
  · cases hx
theorem boot_list2 : bootBuiltins "list" = some (Value.type "list") := by decide +kernel
/-- list(f(..)) of a generator def -/
theorem genl_pe {bk : Bool} {X : Cx} (g : Good nm P C W bk X) {f : Nat} {es : Es} {x : Str} {y : Expr} {ys : List Expr} {p1 p2 p3 p4 : Pos} (h1 : glB X.env.scope "list" = true) (h2 : nm.gens[f]? = some x) (h3 : glB X.env.scope x = true) (h4 : okN x = true) (h5 : noStars (y :: ys) = true)
    (ha : PA X (y :: ys) (RdA P C W es)) : PE X (.Call (.Name "list" p1) [.Call (.Name x p2) (y :: ys) [] p3] [] p4) (RdE P C W (.genl f es)) := by
  obtain ⟨k, fa, fd, ps, ar, G, hG, hr, hF, hm, hk, hb, har⟩ := g.gen f x h2
  have h5' := h5
  unfold noStars at h5'
  simp only [List.all_cons, Bool.and_eq_true] at h5'
  refine pe_imp (pe_listG (E := E0) (pgen_call hF (hr.mono (by omega)) (gl_of h3) hm hk hb .nil ha (okN_of h4).1 (star_of h5'.1) (stars_of (show noStars ys = true from h5'.2))) ?_ ?_ hr (gl_of h1) (g.blt .list) boot_list2) ?_
  · intro pins σ H s e s' I c
    obtain ⟨a, B, H', cls, d, z1, fl, z2, ub, z3, z4, z5, z6⟩ := c
    exact z6.elim
  · intro cls d H z
    exact z.elim
  · rintro σ H Q ⟨F0, H0, F, ρ, τ, d, τ', r, e, k2⟩
    simp only [ev, Option.bind_eq_some_iff, Prod.exists] at e
    obtain ⟨ds, τ1, e1, os, e2, e3⟩ := e
    split at e3
    · rename_i hl
      cases e3
      refine ⟨F0, H0, F, ρ, τ, ds, _, r, e1, fun vs F1 H1 x1 r1 q1 => ?_⟩
      refine ⟨W, F1, ds, _, os, har _ _ e2, by rw [List.append_nil]; exact q1, r1.sub, r1.tape, by rw [hG]; exact e2, hl, rfl, fun us F2 H2 x2 t2 q2 p hp => ?_⟩
      have r2 := r1.ext x2 t2
      exact k2 _ _ _ ((x1.tr x2).tr (Ext.new r2.sub _ hp)) (r2.new _ hp) (.lst upd_same (RA.sub (ExtP.new r2.sub (.lst us) hp).ff os q2))
    · cases e3
mutual
theorem e_ok : ∀ (e : E) {bk : Bool} {X : Cx} (g : Good nm P C W bk X) (z : Expr), chkE nm X.env.scope e z = true → PE X z (RdE P C W e)
  | .var i, bk, X, g, z, h => by
    cases z with
    | Name x pos =>
      simp only [chkE, Bool.and_eq_true, decide_eq_true_eq] at h
      obtain ⟨⟨h1, h2⟩, h3⟩ := h
      refine pe_imp (pe_var (i := i) (by rw [g.hN]; exact h1) (vis_of h2) (okN_of h3).1 (okN_of h3).2.1) ?_
      rintro σ H Q ⟨F0, H0, F, ρ, τ, d, τ', r, e, k⟩
      simp only [ev] at e
      cases q : ρ[i]? with
      | none => rw [q] at e; cases e
      | some s =>
        rw [q] at e
        cases s with
        | d x =>
          simp only at e
          cases e
          obtain ⟨v, e1, u, rfl, ru⟩ := r.get q
          exact ⟨u, e1, k u F H (Ext.rfl' r.sub) r ru⟩
        | _ => cases e
    | _ => simp [chkE] at h
  | .cst n, bk, X, g, z, h => by
    cases z with
    | Name x pos =>
      simp only [chkE, Bool.and_eq_true, decide_eq_true_eq] at h
      obtain ⟨⟨h1, h2⟩, h3⟩ := h
      refine ⟨fun pins s σ H Q I q => ?_⟩
      obtain ⟨F0, H0, F, ρ, τ, d, τ', r, e, k⟩ := q
      simp only [ev, Option.map_eq_some_iff] at e
      obtain ⟨d', e1, e2⟩ := e
      cases e2
      obtain ⟨v, u, m1, rv, rr⟩ := g.cst n x _ h1 e1
      exact (pe_glob (gl_of h2) m1 rv (okN_of h3).1).run pins s σ H Q I (k v F H (Ext.rfl' r.sub) r (rr F))
    | _ => simp [chkE] at h
  | .int i, bk, X, g, z, h => by
    cases z with
    | Constant c n pos =>
      cases c with
      | int j =>
        simp only [chkE] at h
        obtain rfl := eq_of_beq h
        refine pe_imp pe_int ?_
        rintro σ H Q ⟨F0, H0, F, ρ, τ, d, τ', r, e, k⟩
        cases e
        exact k _ F H (Ext.rfl' r.sub) r (.int _)
      | _ => simp [chkE] at h
    | _ => simp [chkE] at h
  | .bl b, bk, X, g, z, h => by
    cases z with
    | Constant c n pos =>
      cases c with
      | bool j =>
        simp only [chkE] at h
        obtain rfl := eq_of_beq h
        refine pe_imp pe_bl ?_
        rintro σ H Q ⟨F0, H0, F, ρ, τ, d, τ', r, e, k⟩
        cases e
        exact k _ F H (Ext.rfl' r.sub) r (.bl _)
      | _ => simp [chkE] at h
    | _ => simp [chkE] at h
  | .non, bk, X, g, z, h => by
    cases z with
    | Constant c n pos =>
      cases c with
      | none =>
        refine pe_imp pe_non ?_
        rintro σ H Q ⟨F0, H0, F, ρ, τ, d, τ', r, e, k⟩
        cases e
        exact k _ F H (Ext.rfl' r.sub) r .non
      | _ => simp [chkE] at h
    | _ => simp [chkE] at h
  | .str s, bk, X, g, z, h => by
    cases z with
    | Constant c n pos =>
      cases c with
      | str j =>
        simp only [chkE] at h
        obtain rfl := eq_of_beq h
        refine pe_imp pe_str ?_
        rintro σ H Q ⟨F0, H0, F, ρ, τ, d, τ', r, e, k⟩
        cases e
        have := k (.str (tx j.cps.toList)) F H (Ext.rfl' r.sub) r (.str _)
        rw [tx_cps] at this
        exact this
      | _ => simp [chkE] at h
    | _ => simp [chkE] at h
  | .bin o a b, bk, X, g, z, h => by
    cases z with
    | BinOp x p y pos =>
      simp only [chkE, Bool.and_eq_true] at h
      exact pe_imp (pe_op (bin_ok g h.1.1) (e_ok a g x h.1.2) (e_ok b g y h.2)) fun σ H Q q => rd_bin q
    | _ => simp [chkE] at h
  | .neg a, bk, X, g, z, h => by
    cases z with
    | UnaryOp p x pos =>
      cases p with
      | USub =>
        simp only [chkE] at h
        refine pe_imp (pe_un (neg_D (C := C)) (e_ok a g x h)) ?_
        rintro σ H Q ⟨F0, H0, F, ρ, τ, d, τ', r, e, k⟩
        simp only [ev, Option.bind_eq_some_iff, Option.map_eq_some_iff, Prod.exists] at e
        obtain ⟨d1, τ1, e1, d2, e2, e3⟩ := e
        cases e3
        exact ⟨F0, H0, F, ρ, τ, d1, _, r, e1, fun x F1 H1 x1 r1 q1 => ⟨F1, d1, _, r1.sub, q1, e2, fun v F2 H2 x2 q2 => k v F2 H2 (x1.tr x2.ext) (r1.extP x2) q2⟩⟩
      | _ => simp [chkE] at h
    | _ => simp [chkE] at h
  | .cmp o a b, bk, X, g, z, h => by
    cases z with
    | Compare x ps ys pos =>
      match ps, ys, h with
      | [p], [y], h =>
        simp only [chkE, Bool.and_eq_true] at h
        exact pe_imp (pe_cmpR (cmp_ok g h.1.1.1) (e_ok a g x h.1.2) (e_ok b g y h.2) (behind_of h.1.1.2)) fun σ H Q q => rd_cmp q
      | [], _, h => simp [chkE] at h
      | _ :: _ :: _, [], h => simp [chkE] at h
      | _ :: _ :: _, _ :: _, h => simp [chkE] at h
      | [_], [], h => simp [chkE] at h
      | [_], _ :: _ :: _, h => simp [chkE] at h
    | _ => simp [chkE] at h
  | .chn o o' a b c, bk, X, g, z, h => by
    cases z with
    | Compare x ps ys pos =>
      match ps, ys, h with
      | [p, p'], [y, z], h =>
        simp only [chkE, Bool.and_eq_true] at h
        obtain ⟨⟨⟨⟨⟨⟨h1, h2⟩, h3⟩, h4⟩, h5⟩, h6⟩, h7⟩ := h
        exact pe_imp (pe_chain (cmp_ok g h1) (cmp_ok g h2) (e_ok a g x h5) (e_ok b g y h6) (e_ok c g z h7) (behind_of h4)) fun σ H Q q => rd_chn q
      | [], _, h => simp [chkE] at h
      | [_], _, h => simp [chkE] at h
      | _ :: _ :: _ :: _, _, h => simp [chkE] at h
      | [_, _], [], h => simp [chkE] at h
      | [_, _], [_], h => simp [chkE] at h
      | [_, _], _ :: _ :: _ :: _, h => simp [chkE] at h
    | _ => simp [chkE] at h
  | .isN ng a, bk, X, g, z, h => by
    simp only [chkE] at h
    split at h
    · rename_i x _ p1 p2
      simp only [Bool.and_eq_true] at h
      have e : ng = false := by simpa using h.1
      subst e
      exact pe_imp (pe_cmp (pc_isN (e_ok a g x h.2)) (nobehind _ (by decide) (by decide))) fun σ H Q q => rd_isN q
    · rename_i x _ p1 p2
      simp only [Bool.and_eq_true] at h
      have e : ng = true := h.1
      subst e
      exact pe_imp (pe_cmp (pc_notN (e_ok a g x h.2)) (nobehind _ (by decide) (by decide))) fun σ H Q q => rd_isN q
    · cases h
  | .isB ng a b, bk, X, g, z, h => by
    simp only [chkE] at h
    split at h
    · rename_i x c _ p1 p2
      simp only [Bool.and_eq_true] at h
      have e : ng = false := by simpa using h.1.1
      have e2 : b = c := eq_of_beq h.1.2
      subst e; subst e2
      refine pe_imp (pe_cmpR op_isBl (e_ok a g x h.2) pe_bl (nobehind _ (by decide) (by decide))) fun σ H Q q => ?_
      obtain ⟨F0, H0, F, ρ, τ, d, τ', r, e, k⟩ := rd_isB q
      exact ⟨F0, H0, F, ρ, τ, d, τ', r, e, fun v F1 H1 x1 r1 q1 => by
        obtain ⟨c, rfl, q2⟩ := k v F1 H1 x1 r1 q1
        exact ⟨c, b, rfl, rfl, q2⟩⟩
    · rename_i x c _ p1 p2
      simp only [Bool.and_eq_true] at h
      have e : ng = true := h.1.1
      have e2 : b = c := eq_of_beq h.1.2
      subst e; subst e2
      refine pe_imp (pe_cmpR op_notBl (e_ok a g x h.2) pe_bl (nobehind _ (by decide) (by decide))) fun σ H Q q => ?_
      obtain ⟨F0, H0, F, ρ, τ, d, τ', r, e, k⟩ := rd_isB q
      exact ⟨F0, H0, F, ρ, τ, d, τ', r, e, fun v F1 H1 x1 r1 q1 => by
        obtain ⟨c, rfl, q2⟩ := k v F1 H1 x1 r1 q1
        exact ⟨c, b, rfl, rfl, q2⟩⟩
    · cases h
  | .and a b, bk, X, g, z, h => by
    simp only [chkE] at h
    split at h
    · rename_i x y rs p
      simp only [Bool.and_eq_true] at h
      refine pe_imp (pe_andT (e_ok a g x h.1) (e_ok b g _ h.2)) ?_
      rintro σ H Q ⟨F0, H0, F, ρ, τ, d, τ', r, e, k⟩
      simp only [ev, Option.bind_eq_some_iff, Prod.exists] at e
      obtain ⟨d1, τ1, e1, c, e2, e3⟩ := e
      refine ⟨F0, H0, F, ρ, τ, d1, τ1, r, e1, fun x F1 H1 x1 r1 q1 => ⟨c, by rw [← g.hK]; exact tru_of r1.sub q1 e2, ?_⟩⟩
      cases c with
      | true =>
        rw [if_pos rfl] at e3 ⊢
        exact ⟨F0, H0, F1, ρ, τ1, d, τ', r1, e3, fun v F2 H2 x2 r2 q2 => k v F2 H2 (x1.tr x2) r2 q2⟩
      | false =>
        rw [if_neg Bool.false_ne_true] at e3 ⊢
        cases e3
        exact k x F1 H1 x1 r1 q1
    · cases h
  | .or a b, bk, X, g, z, h => by
    simp only [chkE] at h
    split at h
    · rename_i x y rs p
      simp only [Bool.and_eq_true] at h
      refine pe_imp (pe_orT (e_ok a g x h.1) (e_ok b g _ h.2)) ?_
      rintro σ H Q ⟨F0, H0, F, ρ, τ, d, τ', r, e, k⟩
      simp only [ev, Option.bind_eq_some_iff, Prod.exists] at e
      obtain ⟨d1, τ1, e1, c, e2, e3⟩ := e
      refine ⟨F0, H0, F, ρ, τ, d1, τ1, r, e1, fun x F1 H1 x1 r1 q1 => ⟨c, by rw [← g.hK]; exact tru_of r1.sub q1 e2, ?_⟩⟩
      cases c with
      | true =>
        rw [if_pos rfl] at e3 ⊢
        cases e3
        exact k x F1 H1 x1 r1 q1
      | false =>
        rw [if_neg Bool.false_ne_true] at e3 ⊢
        exact ⟨F0, H0, F1, ρ, τ1, d, τ', r1, e3, fun v F2 H2 x2 r2 q2 => k v F2 H2 (x1.tr x2) r2 q2⟩
    · cases h
  | .one a, bk, X, g, z, h => by
    simp only [chkE] at h
    split at h
    · rename_i op x p
      exact pe_imp (pe_one (e_ok a g x h)) fun σ H Q q => q
    · cases h
  | .not a, bk, X, g, z, h => by
    simp only [chkE] at h
    split at h
    · rename_i x p
      refine pe_imp (pe_notT (e_ok a g x h)) ?_
      rintro σ H Q ⟨F0, H0, F, ρ, τ, d, τ', r, e, k⟩
      simp only [ev, Option.bind_eq_some_iff, Option.map_eq_some_iff, Prod.exists] at e
      obtain ⟨d1, τ1, e1, c, e2, e3⟩ := e
      cases e3
      exact ⟨F0, H0, F, ρ, τ, d1, _, r, e1, fun x F1 H1 x1 r1 q1 => ⟨c, by rw [← g.hK]; exact tru_of r1.sub q1 e2, k _ F1 H1 x1 r1 (.bl _)⟩⟩
    · cases h
  | .ife c a b, bk, X, g, z, h => by
    simp only [chkE] at h
    split at h
    · rename_i zc x y p
      simp only [Bool.and_eq_true] at h
      refine pe_imp (pe_ifExp (t_ok c g zc h.1.1) (e_ok a g x h.1.2) (e_ok b g y h.2)) ?_
      rintro σ H Q ⟨F0, H0, F, ρ, τ, d, τ', r, e, k⟩
      simp only [ev, Option.bind_eq_some_iff, Prod.exists] at e
      obtain ⟨c1, τ1, e1, e2⟩ := e
      refine ⟨F0, H0, F, ρ, τ, c1, τ1, r, e1, fun F1 H1 x1 r1 => ?_⟩
      cases c1 with
      | true =>
        rw [if_pos rfl] at e2 ⊢
        exact ⟨F0, H0, F1, ρ, τ1, d, τ', r1, e2, fun v F2 H2 x2 r2 q2 => k v F2 H2 (x1.tr x2) r2 q2⟩
      | false =>
        rw [if_neg Bool.false_ne_true] at e2 ⊢
        exact ⟨F0, H0, F1, ρ, τ1, d, τ', r1, e2, fun v F2 H2 x2 r2 q2 => k v F2 H2 (x1.tr x2) r2 q2⟩
    · cases h
  | .tup es, bk, X, g, z, h => by
    simp only [chkE] at h
    split at h
    · rename_i xs j p
      refine pe_imp (pe_tup (a_ok es g xs h)) ?_
      rintro σ H Q ⟨F0, H0, F, ρ, τ, d, τ', r, e, k⟩
      simp only [ev, Option.bind_eq_some_iff, Prod.exists] at e
      obtain ⟨ds, τ1, e1, e2⟩ := e
      split at e2
      · rename_i hl
        cases e2
        refine ⟨F0, H0, F, ρ, τ, ds, _, r, e1, fun vs F1 H1 x1 r1 q1 => ⟨by rw [q1.len]; exact okT.len hl, fun q hq => ?_⟩⟩
        rw [g.tk] at hl
        exact k _ _ _ (x1.tr (Ext.new r1.sub _ hq)) (r1.new _ hq) (R.newT r1.sub hq q1 (okT.map hl))
      · cases e2
    · cases h
  | .lst es, bk, X, g, z, h => by
    simp only [chkE] at h
    split at h
    · rename_i xs p
      refine pe_imp (pe_lst (a_ok es g xs h)) ?_
      rintro σ H Q ⟨F0, H0, F, ρ, τ, d, τ', r, e, k⟩
      simp only [ev, Option.bind_eq_some_iff, Prod.exists] at e
      obtain ⟨ds, τ1, e1, e2⟩ := e
      split at e2
      · rename_i hl
        cases e2
        refine ⟨F0, H0, F, ρ, τ, ds, _, r, e1, fun vs F1 H1 x1 r1 q1 => ⟨by rw [q1.len]; exact hl, fun q hq => ?_⟩⟩
        exact k _ _ _ (x1.tr (Ext.new r1.sub _ hq)) (r1.new _ hq) (R.newL r1.sub hq q1)
      · cases e2
    · cases h
  | .idx a b, bk, X, g, z, h => by
    simp only [chkE] at h
    split at h
    · rename_i x y p
      simp only [Bool.and_eq_true] at h
      exact pe_imp (pe_ix (ix_D (C := C) g.hK) (e_ok a g x h.1.2) (e_ok b g y h.2) (plainIx_of h.1.1)) fun σ H Q q => rd_idx q
    · cases h
  | .sl a lo hi, bk, X, g, z, h => by
    simp only [chkE] at h
    split at h
    · rename_i x l u p1 p2
      simp only [Bool.and_eq_true] at h
      refine pe_imp (pe_slice (sl_D (C := C) g.hK) (e_ok a g x h.1.1) (p_ok (fun y hy => e_ok lo g y hy) l h.1.2) (p_ok (fun y hy => e_ok hi g y hy) u h.2)) ?_
      rintro σ H Q ⟨F0, H0, F, ρ, τ, d, τ', r, e, k⟩
      simp only [ev, Option.bind_eq_some_iff, Option.map_eq_some_iff, Prod.exists] at e
      obtain ⟨d1, τ1, e1, o1, τ2, e2, o2, τ3, e3, d2, e4, e5⟩ := e
      cases e5
      refine ⟨F0, H0, F, ρ, τ, d1, τ1, r, e1, fun x F1 H1 x1 r1 q1 => ⟨F0, H0, F1, ρ, τ1, o1, τ2, r1, e2, fun F2 H2 x2 r2 => ⟨F0, H0, F2, ρ, τ2, o2, _, r2, e3, fun F3 H3 x3 r3 => ?_⟩⟩⟩
      rw [g.tk] at e4
      exact ⟨F3, d1, _, r3.sub, R.sub (x2.ff.tr x3.ff) _ q1, e4, fun v F4 H4 x4 q4 => k v F4 H4 (((x1.tr x2).tr x3).tr x4.ext) (r3.extP x4) q4⟩
    · cases h
  | .rev a, bk, X, g, z, h => by
    simp only [chkE] at h
    split at h
    · rename_i x _ _ _ _ _
      refine pe_imp (pe_revL (e_ok a g x h)) ?_
      rintro σ H Q ⟨F0, H0, F, ρ, τ, d, τ', r, e, k⟩
      simp only [ev, Option.bind_eq_some_iff, Option.map_eq_some_iff, Prod.exists] at e
      obtain ⟨d1, τ1, e1, d2, e2, e3⟩ := e
      cases e3
      refine ⟨F0, H0, F, ρ, τ, d1, _, r, e1, fun v F1 H1 x1 r1 q1 => ?_⟩
      cases q1 with
      | @lst q vs ds h1 h2 =>
        cases e2
        exact ⟨q, vs, rfl, .inl (.inl (r1.sub _ _ h1)), fun q' hq => k _ _ _ (x1.tr (Ext.new r1.sub _ hq)) (r1.new _ hq) (R.newL r1.sub hq (RA.rev h2))⟩
      | _ => cases e2
    · cases h
  | .nope, bk, X, g, z, h => by simp [chkE] at h
  | .srt a, bk, X, g, z, h => by
    simp only [chkE] at h
    split at h
    · rename_i f p1 g' p2 x p3 p4
      simp only [Bool.and_eq_true, decide_eq_true_eq] at h
      obtain ⟨⟨⟨⟨⟨rfl, rfl⟩, h3⟩, h4⟩, h5⟩, h6⟩ := h
      have hu : X.A.units + 4 < cLine := by have := g.units; omega
      exact pe_imp (pe_callB (cr_sortTx g.calm hu) (gl_of h3) (g.oth _ (by simp)) (by decide +kernel) (pa_cons (pe_callTy (cr_setTx g.calm) (gl_of h4) (g.oth _ (by simp)) (by decide +kernel) (pa_cons (e_ok a g x h6) pa_nil (star_of h5)) (by decide +kernel) (by decide +kernel) (star_of h5) rfl) pa_nil rfl) (by decide +kernel) (by decide +kernel) rfl rfl) fun σ H Q q => rd_srt g.hK q
    · cases h
  | .repl i j, bk, X, g, z, h => by
    simp only [chkE] at h
    split at h
    · simp only [Bool.and_eq_true, decide_eq_true_eq] at h
      obtain ⟨⟨⟨⟨⟨⟨⟨⟨⟨⟨rfl, h2⟩, h3⟩, h4⟩, rfl⟩, rfl⟩, rfl⟩, h8⟩, h9⟩, h10⟩, h11⟩ := h
      exact pe_imp (pe_replM (by rw [g.hN]; exact h3) (vis_of h8) (by rw [g.hN]; exact h4) (vis_of h9) h10 h11 h2) fun σ H Q q => rd_repl g.hK g.tk q
    · cases h
  | .mapc x y, bk, X, g, z, h => by
    simp only [chkE] at h
    split at h
    · simp only [Bool.and_eq_true, beq_iff_eq] at h
      obtain ⟨⟨h1, h2⟩, h3⟩ := h
      refine pe_imp (pe_mapc (by rw [← h1])) fun σ H Q q => ?_
      have := rd_mapc q
      rw [← h2, ← h3, tx_self, tx_self] at this
      exact this
    · cases h
  | .tget i k, bk, X, g, z, h => by
    simp only [chkE] at h
    split at h
    · simp only [Bool.and_eq_true, decide_eq_true_eq] at h
      obtain ⟨⟨⟨⟨h1, h2⟩, h3⟩, rfl⟩, h5⟩ := h
      exact pe_imp (pe_ix ix_list (pe_var (i := i) (by rw [g.hN]; exact h1) (vis_of h2) (okN_of h3).1 (okN_of h3).2.1) pe_int (fun _ _ => rfl)) fun σ H Q q => rd_tget h5 q
    · cases h
  | .tcell i a, bk, X, g, z, h => by
    simp only [chkE] at h
    split at h
    · simp only [Bool.and_eq_true, decide_eq_true_eq] at h
      obtain ⟨⟨⟨⟨⟨h1, h2⟩, h3⟩, rfl⟩, h5⟩, h6⟩ := h
      exact pe_imp (pe_ix ix_list (pe_ix ix_list (pe_var (i := i) (by rw [g.hN]; exact h1) (vis_of h2) (okN_of h3).1 (okN_of h3).2.1) pe_int (fun _ _ => rfl)) (e_ok a g _ h6) (plainIx_of h5)) fun σ H Q q => rd_tcell q g.pns
    · cases h
  | .tlen i, bk, X, g, z, h => by
    simp only [chkE] at h
    split at h
    · simp only [Bool.and_eq_true, decide_eq_true_eq] at h
      obtain ⟨⟨⟨⟨⟨rfl, h2⟩, h3⟩, h4⟩, h5⟩, rfl⟩ := h
      exact pe_imp (pe_callB call_len_seq (gl_of h2) (g.blt .len) (by decide +kernel) (pa_cons (pe_ix ix_list (pe_var (i := i) (by rw [g.hN]; exact h3) (vis_of h4) (okN_of h5).1 (okN_of h5).2.1) pe_int (fun _ _ => rfl)) pa_nil rfl) (by decide +kernel) (by decide +kernel) rfl rfl) fun σ H Q q => rd_tlen q g.pns
    · cases h
  | .call f es, bk, X, g, z, h => by
    simp only [chkE] at h
    split at h
    · rename_i x p1 y ys p
      simp only [Bool.and_eq_true, decide_eq_true_eq] at h
      obtain ⟨⟨⟨⟨h1, h2⟩, h3⟩, h4⟩, h5⟩ := h
      obtain ⟨n, fa, fd, ps, ar, G, hG, hr, hF, hm, hk, hb, har⟩ := g.fns f x false h1
      have h4' := h4
      unfold noStars at h4'
      simp only [List.all_cons, Bool.and_eq_true] at h4'
      refine pe_imp (pe_call hF hr (gl_of h2) hm hk hb .nil (pass0 (X := X)) (a_ok es g _ h5) (okN_of h3).1 (star_of h4'.1) (stars_of (show noStars ys = true from h4'.2))) ?_
      rintro σ H Q ⟨F0, H0, F, ρ, τ, d, τ', r, e, k⟩
      simp only [ev, Option.bind_eq_some_iff, Prod.exists] at e
      obtain ⟨ds, τ1, e1, e2⟩ := e
      refine ⟨F0, H0, F, ρ, τ, ds, τ1, r, e1, fun vs F1 H1 x1 r1 q1 => ?_⟩
      refine ⟨W, F1, vs, ds, τ1, d, τ', by simp, har _ _ _ e2, q1, r1.sub, r1.tape, by rw [hG]; exact e2, fun v F2 H2 x2 t2 q2 => k v F2 H2 (x1.tr x2) (r1.ext x2 t2) q2⟩
    · cases h
  | .callT f i es, bk, X, g, z, h => by
    simp only [chkE] at h
    split at h
    · rename_i x p1 t p2 ys p
      simp only [Bool.and_eq_true, decide_eq_true_eq] at h
      obtain ⟨⟨⟨⟨⟨⟨⟨h1, h2⟩, h3⟩, h4⟩, h5⟩, h6⟩, h7⟩, h8⟩ := h
      obtain ⟨n, fa, fd, ps, ar, G, hG, hr, hF, hm, hk, hb, har⟩ := g.fns f x true h1
      refine pe_imp (pe_call hF hr (gl_of h2) hm hk hb .nil (pass0 (X := X)) (pa_cons (pe_var (i := i) (by rw [g.hN]; exact h4) (vis_of h5) (okN_of h6).1 (okN_of h6).2.1) (a_ok es g _ h8) rfl) (okN_of h3).1 rfl (stars_of h7)) ?_
      rintro σ H Q ⟨F0, H0, F, ρ, τ, d, τ', r, e, k⟩
      simp only [ev] at e
      cases q : ρ[i]? with
      | none => rw [q] at e; cases e
      | some s =>
        rw [q] at e
        cases s with
        | tape =>
          simp only [Option.bind_eq_some_iff, Prod.exists] at e
          obtain ⟨ds, τ1, e1, e2⟩ := e
          obtain ⟨v, e3, e4⟩ := r.get q
          have e4' : v = some (.ref W.tp) := e4
          subst e4'
          refine ⟨_, e3, F0, H0, F, ρ, τ, ds, τ1, r, e1, fun vs F1 H1 x1 r1 q1 => ?_⟩
          refine ⟨W, F1, vs, ds, τ1, d, τ', by simp, har _ _ _ e2, q1, r1.sub, r1.tape, by rw [hG]; exact e2, fun v F2 H2 x2 t2 q2 => k v F2 H2 (x1.tr x2) (r1.ext x2 t2) q2⟩
        | _ => cases e
    · cases h
  | .blt b es, bk, X, g, z, h => by
    simp only [chkE] at h
    split at h
    · rename_i x p1 y ys p
      simp only [Bool.and_eq_true, decide_eq_true_eq] at h
      obtain ⟨⟨⟨rfl, h2⟩, h3⟩, h4⟩ := h
      refine pe_imp (blt_pe g h2 h3 (a_ok es g _ h4)) ?_
      rintro σ H Q ⟨F0, H0, F, ρ, τ, d, τ', r, e, k⟩
      simp only [ev, Option.bind_eq_some_iff, Option.map_eq_some_iff, Prod.exists] at e
      obtain ⟨ds, τ1, e1, d2, e2, e3⟩ := e
      cases e3
      exact ⟨F0, H0, F, ρ, τ, ds, _, r, e1, fun vs F1 H1 x1 r1 q1 => ⟨F1, ds, _, r1.sub, q1, e2, fun v F2 H2 x2 q2 => k v F2 H2 (x1.tr x2.ext) (r1.extP x2) q2⟩⟩
    · cases h
  | .mth m a es, bk, X, g, z, h => by
    obtain ⟨id, hs, ht, hm⟩ := mth_rule g m
    simp only [chkE] at h
    split at h
    · rename_i o n ap p
      simp only [Bool.and_eq_true, decide_eq_true_eq] at h
      obtain ⟨⟨⟨⟨rfl, h2⟩, h3⟩, h4⟩, h5⟩ := h
      refine pe_imp (pe_bm0 F.plainAttrs_str hs ht hm (e_ok a g o h4) (base_of h2) h3) ?_
      rintro σ H Q ⟨F0, H0, F, ρ, τ, d, τ', r, e, k⟩
      simp only [ev, Option.bind_eq_some_iff, Option.map_eq_some_iff, Prod.exists] at e
      obtain ⟨d1, τ1, e1, ds, τ2, e2, d2, e3, e4⟩ := e
      cases e4
      have hes : es = .nil := by
        cases es with
        | nil => rfl
        | _ => simp [chkA] at h5
      subst hes
      simp only [evs] at e2
      cases e2
      refine ⟨F0, H0, F, ρ, τ, d1, _, r, e1, fun v F1 H1 x1 r1 q1 => ⟨?_, F1, d1, [], _, r1.sub, q1, .nil, e3, fun v F2 H2 x2 q2 => k v F2 H2 (x1.tr x2.ext) (r1.extP x2) q2⟩⟩
      obtain ⟨s, rfl⟩ := mD_str e3
      cases q1
      rfl
    · rename_i o n ap y ys p
      simp only [Bool.and_eq_true, decide_eq_true_eq] at h
      obtain ⟨⟨⟨⟨⟨⟨rfl, h2⟩, h3⟩, h4⟩, h5⟩, h6⟩, h7⟩ := h
      have h5' := h5
      unfold noStars at h5'
      simp only [List.all_cons, Bool.and_eq_true] at h5'
      have hfew : ((backTo p (starEach (y :: ys) X.env)).all (fun x => !x.1) && (backToKw p (keywordEach [] X.env)).all (fun x => x.1.isSome)
          && decide ((y :: ys).length + ([] : List Keyword).length + (if ([] : List Keyword).isEmpty then 0 else 1) < 30)) = true := by
        rw [Bool.and_eq_true, Bool.and_eq_true]
        refine ⟨⟨?_, rfl⟩, decide_eq_true (by simp only [List.length_cons, List.length_nil, List.isEmpty_nil, if_true]; omega)⟩
        have := stars_of (env := X.env) (pos := p) h5
        rw [List.any_eq_false] at this
        rw [List.all_eq_true]
        intro q hq
        have := this q hq
        simpa using this
      refine pe_imp (pe_bm F.plainAttrs_str hs ht hm (e_ok a g o h6) (a_ok es g _ h7) (base_of h2) hfew h3 (star_of h5'.1) (stars_of (show noStars ys = true from h5'.2))) ?_
      rintro σ H Q ⟨F0, H0, F, ρ, τ, d, τ', r, e, k⟩
      simp only [ev, Option.bind_eq_some_iff, Option.map_eq_some_iff, Prod.exists] at e
      obtain ⟨d1, τ1, e1, ds, τ2, e2, d2, e3, e4⟩ := e
      cases e4
      refine ⟨F0, H0, F, ρ, τ, d1, τ1, r, e1, fun v F1 H1 x1 r1 q1 => ⟨?_, F0, H0, F1, ρ, τ1, ds, _, r1, e2, fun vs F2 H2 x2 r2 q2 => ⟨F2, d1, ds, _, r2.sub, R.sub x2.ff _ q1, q2, e3, fun v F3 H3 x3 q3 => k v F3 H3 ((x1.tr x2).tr x3.ext) (r2.extP x3) q3⟩⟩⟩
      obtain ⟨s, rfl⟩ := mD_str e3
      cases q1
      rfl
    · cases h
  | .isi a t, bk, X, g, z, h => by
    simp only [chkE] at h
    split at h
    · rename_i f p1 x y p2 p
      simp only [Bool.and_eq_true, decide_eq_true_eq] at h
      obtain ⟨⟨⟨⟨⟨rfl, h2⟩, h3⟩, h4⟩, rfl⟩, h6⟩ := h
      refine pe_imp (pe_callB call_isi (gl_of h2) g.isn (by decide +kernel) (pa_cons (e_ok a g x h4) (pa_cons (ty_pe g h6) pa_nil rfl) (star_of h3)) (by decide +kernel) (by decide +kernel) (star_of h3) rfl) ?_
      rintro σ H Q ⟨F0, H0, F, ρ, τ, d, τ', r, e, k⟩
      simp only [ev, Option.map_eq_some_iff, Prod.exists] at e
      obtain ⟨d1, τ1, e1, e2⟩ := e
      cases e2
      exact ⟨F0, H0, F, ρ, τ, d1, _, r, e1, fun v F1 H1 x1 r1 q1 => ⟨v, _, _, _, _, rfl, .ty _, by rw [← g.hK]; exact ty_of r1.sub q1, kit_ty (kit_D d1 t), k _ F1 H1 x1 r1 (.bl _)⟩⟩
    · cases h
  | .isiT a ts, bk, X, g, z, h => by
    simp only [chkE] at h
    split at h
    · rename_i f p1 x l j p2 p
      simp only [Bool.and_eq_true, decide_eq_true_eq] at h
      obtain ⟨⟨⟨⟨⟨rfl, h2⟩, h3⟩, h4⟩, h5⟩, h6⟩ := h
      have hl : ts.length = l.length := by
        have : ∀ (ts : List Ty) (l : List Expr), chkTys X.env.scope ts l = true → ts.length = l.length := by
          intro ts
          induction ts with
          | nil => intro l h; cases l with
            | nil => rfl
            | cons _ _ => cases h
          | cons t ts ih => intro l h; cases l with
            | nil => cases h
            | cons e r =>
              cases e with
              | Name x pos =>
                simp only [chkTys, Bool.and_eq_true] at h
                rw [List.length_cons, List.length_cons, ih r h.2]
              | _ => cases h
        exact this ts l h6
      refine pe_imp (pe_callB call_isiT (gl_of h2) g.isn (by decide +kernel) (pa_cons (e_ok a g x h4) (pa_cons (pe_tup (tys_pa g h6)) pa_nil rfl) (star_of h3)) (by decide +kernel) (by decide +kernel) (star_of h3) rfl) ?_
      rintro σ H Q ⟨F0, H0, F, ρ, τ, d, τ', r, e, k⟩
      simp only [ev, Option.map_eq_some_iff, Prod.exists] at e
      obtain ⟨d1, τ1, e1, e2⟩ := e
      cases e2
      refine ⟨F0, H0, F, ρ, τ, d1, _, r, e1, fun v F1 H1 x1 r1 q1 => tTys_run ts _ _ _ ⟨?_, fun q hq => ?_⟩⟩
      · rw [List.length_map, hl, sizeLine_eq]; omega
      · have x2 := ExtP.raw r1.sub (HO.tup (ts.map fun t => V.ty (tyV' t))) hq
        have r2 := r1.extP x2
        refine ⟨v, q, _, .type (dTy d1), ts.map fun t => Value.type (tyV' t), _, rfl, upd_same, pair_tys ts, by rw [← g.hK]; exact ty_of r2.sub q1, kit_any d1 ts, k _ F1 _ (x1.tr x2.ext) r2 (.bl _)⟩
    · cases h
  | .comp elt tg it c own, bk, X, g, z, h => by
    simp only [chkE] at h
    split at h
    · rename_i x t iter ifs scope p
      simp only [Bool.and_eq_true] at h
      obtain ⟨⟨⟨⟨⟨⟨h1, h2⟩, h3⟩, h4⟩, h5⟩, h6⟩, h7⟩ := h
      have hw : ((own.map fun i => (nm.N.getD i "", i)).map (·.2)) = own := by rw [List.map_map]; exact List.map_id' own
      have := pe_lc (pos := p) g.calm g.nd (i_ok it g t iter h4) (blkOk_by (by rw [g.hN]; exact h3)) (fun s H Ca cl fp => tg_ok (g.blk s H scope cl Ca fp) tg t h5) (fun s H Ca cl fp => c_ok (fun y hy => t_ok c (g.blk s H scope cl Ca fp) y hy) ifs h6)
        (fun s H Ca cl fp => e_ok elt (g.blk s H scope cl Ca fp) x h7) (fold_of h1)
      rw [hw] at this
      exact pe_imp this fun σ H Q q => comp_rd (by simpa using h2) q
    · cases h
  | .op o es, bk, X, g, z, h => by
    simp only [chkE] at h
    split at h
    · rename_i x hx
      split at h
      · rename_i e1
        exact op_pe hx (e_ok e1 g x h)
      · cases h
    · cases h
  | .genl f es, bk, X, g, z, h => by
    simp only [chkE] at h
    split at h
    · rename_i l p1 x p2 y ys p3 p4
      simp only [Bool.and_eq_true, decide_eq_true_eq] at h
      obtain ⟨⟨⟨⟨⟨⟨rfl, h1⟩, h2⟩, h3⟩, h4⟩, h5⟩, h6⟩ := h
      exact genl_pe g h1 h2 h3 h4 h5 (a_ok es g _ h6)
    · cases h
  | .oix i e, bk, X, g, z, h => by
    simp only [chkE] at h
    split at h
    · simp only [Bool.and_eq_true, decide_eq_true_eq] at h
      obtain ⟨⟨⟨⟨h1, h2⟩, h3⟩, h5⟩, h6⟩ := h
      exact pe_imp (pe_ix ix_list (pe_var (i := i) (by rw [g.hN]; exact h1) (vis_of h2) (okN_of h3).1 (okN_of h3).2.1) (e_ok e g _ h6) (plainIx_of h5)) fun σ H Q q => rd_oix q
    · cases h
  | .olen i, bk, X, g, z, h => by
    simp only [chkE] at h
    split at h
    · simp only [Bool.and_eq_true, decide_eq_true_eq] at h
      obtain ⟨⟨⟨⟨rfl, h2⟩, h3⟩, h4⟩, h5⟩ := h
      exact pe_imp (pe_callB call_len_seq (gl_of h2) (g.blt .len) (by decide +kernel) (pa_cons (pe_var (i := i) (by rw [g.hN]; exact h3) (vis_of h4) (okN_of h5).1 (okN_of h5).2.1) pa_nil rfl) (by decide +kernel) (by decide +kernel) rfl rfl) fun σ H Q q => rd_olen q
    · cases h
theorem a_ok : ∀ (es : Es) {bk : Bool} {X : Cx} (g : Good nm P C W bk X) (l : List Expr), chkA nm X.env.scope es l = true → PA X l (RdA P C W es)
  | .nil, bk, X, g, l, h => by
    cases l with
    | nil =>
      refine pa_imp pa_nil ?_
      rintro σ H Q ⟨F0, H0, F, ρ, τ, ds, τ', r, e, k⟩
      simp only [evs] at e
      cases e
      exact k [] F H (Ext.rfl' r.sub) r .nil
    | cons _ _ => simp [chkA] at h
  | .cons e es, bk, X, g, l, h => by
    cases l with
    | nil => simp [chkA] at h
    | cons x xs =>
      simp only [chkA, Bool.and_eq_true] at h
      refine pa_imp (pa_cons (e_ok e g x h.1.2) (a_ok es g xs h.2) (star_of h.1.1)) ?_
      rintro σ H Q ⟨F0, H0, F, ρ, τ, ds, τ', r, e, k⟩
      simp only [evs, Option.bind_eq_some_iff, Option.map_eq_some_iff, Prod.exists] at e
      obtain ⟨d1, τ1, e1, d2, τ2, e2, e3⟩ := e
      cases e3
      exact ⟨F0, H0, F, ρ, τ, d1, τ1, r, e1, fun v F1 H1 x1 r1 q1 => ⟨F0, H0, F1, ρ, τ1, d2, _, r1, e2, fun vs F2 H2 x2 r2 q2 => k _ F2 H2 (x1.tr x2) r2 (.cons (R.sub x2.ff _ q1) q2)⟩⟩
  | .star e es, bk, X, g, l, h => by
    cases l with
    | nil => simp [chkA] at h
    | cons x xs =>
      cases x with
      | Starred x p =>
        simp only [chkA, Bool.and_eq_true] at h
        refine pa_imp (StX.pa_star (e_ok e g x h.1) (a_ok es g xs h.2)) ?_
        rintro σ H Q ⟨F0, H0, F, ρ, τ, ds, τ', r, e, k⟩
        simp only [evs, Option.bind_eq_some_iff, Prod.exists] at e
        obtain ⟨d1, τ1, e1, e2⟩ := e
        refine ⟨F0, H0, F, ρ, τ, d1, τ1, r, e1, fun v F1 H1 x1 r1 q1 => ?_⟩
        cases q1 with
        | @tup q vs zs h1 h2 h3 =>
          simp only [Option.map_eq_some_iff, Prod.exists] at e2
          obtain ⟨d2, τ2, e3, e4⟩ := e2
          cases e4
          exact ⟨q, vs, rfl, .inl (by rw [← g.hK]; exact sqT_sub r1.sub h1), F0, H0, F1, ρ, τ1, d2, _, r1, e3, fun ws F2 H2 x2 r2 q2 => k _ F2 H2 (x1.tr x2) r2 (RA.app (RA.sub x2.ff _ h2) q2)⟩
        | @lst q vs zs h1 h2 =>
          simp only [Option.map_eq_some_iff, Prod.exists] at e2
          obtain ⟨d2, τ2, e3, e4⟩ := e2
          cases e4
          exact ⟨q, vs, rfl, .inr (.inl (.inl (r1.sub _ _ h1))), F0, H0, F1, ρ, τ1, d2, _, r1, e3, fun ws F2 H2 x2 r2 q2 => k _ F2 H2 (x1.tr x2) r2 (RA.app (RA.sub x2.ff _ h2) q2)⟩
        | _ => simp at e2
      | _ => simp [chkA] at h
theorem i_ok : ∀ (it : I) {bk : Bool} {X : Cx} (g : Good nm P C W bk X) (t x : Expr), chkI nm X.env.scope it t x = true → PI X t x (RdI P C W it)
  | .data e, bk, X, g, t, x, h => by
    simp only [chkI] at h
    have he := e_ok e g x h
    refine ⟨fun pins s σ H Rr I q => ?_⟩
    obtain ⟨F0, H0, F, ρ, τ, xs, τ', r, e1, k⟩ := q
    simp only [evi, Option.bind_eq_some_iff, Option.map_eq_some_iff, Prod.exists] at e1
    obtain ⟨d, τ1, e2, ys, e3, e4⟩ := e1
    cases e4
    cases d with
    | lst ds =>
      cases e3
      refine (pi_list he).run pins s σ H Rr I ⟨F0, H0, F, ρ, τ, _, _, r, e2, fun v F1 H1 x1 r1 q1 => ?_⟩
      cases q1 with
      | @lst a vs _ h1 h2 => exact ⟨a, rfl, ⟨vs, .inl (.inl (r1.sub _ _ h1))⟩, k _ F1 H1 x1 r1 (wk_lst h1 h2)⟩
    | tup ds =>
      cases e3
      refine (pi_tup he).run pins s σ H Rr I ⟨F0, H0, F, ρ, τ, _, _, r, e2, fun v F1 H1 x1 r1 q1 => ?_⟩
      cases q1 with
      | @tup a vs _ h1 h2 h3 => exact ⟨a, rfl, ⟨vs, by rw [← g.hK]; exact sqT_sub r1.sub h1⟩, k _ F1 H1 x1 r1 (wk_tup (by rw [← g.hK]; exact h1) h2)⟩
    | str ss =>
      cases e3
      refine (pi_str he).run pins s σ H Rr I ⟨F0, H0, F, ρ, τ, _, _, r, e2, fun v F1 H1 x1 r1 q1 => ?_⟩
      cases q1
      exact ⟨tx ss, rfl, k _ F1 H1 x1 r1 (wk_str ss)⟩
    | _ => cases e3
  | .rng1 a, bk, X, g, t, z, h => by
    simp only [chkI] at h
    split at h
    · rename_i x p1 y p
      simp only [Bool.and_eq_true, decide_eq_true_eq] at h
      obtain ⟨⟨⟨rfl, h2⟩, h3⟩, h4⟩ := h
      refine pi_imp (pi_range1 (gl_of h2) g.rng (pa_cons (e_ok a g y h4) pa_nil (star_of h3)) (star_of h3)) ?_
      rintro σ H Rr ⟨F0, H0, F, ρ, τ, xs, τ', r, e1, k⟩
      simp only [evi, Option.bind_eq_some_iff, Prod.exists] at e1
      obtain ⟨d, τ1, e2, n, e3, e4⟩ := e1
      split at e4
      · rename_i hn
        cases e4
        refine ⟨F0, H0, F, ρ, τ, d, _, r, e2, fun v F1 H1 x1 r1 q1 => ?_⟩
        cases d with
        | int i =>
          cases e3
          cases q1
          unfold small62 at hn
          simp only [Bool.and_eq_true, decide_eq_true_eq] at hn
          exact ⟨_, rfl, hn.1, hn.2, k _ F1 H1 x1 r1 (wk_rng 0 _)⟩
        | _ => cases e3
      · cases e4
    · cases h
  | .rng2 a b, bk, X, g, t, z, h => by
    simp only [chkI] at h
    split at h
    · rename_i x p1 y w p
      simp only [Bool.and_eq_true, decide_eq_true_eq] at h
      obtain ⟨⟨⟨⟨⟨rfl, h2⟩, h3⟩, h4⟩, h5⟩, h6⟩ := h
      refine pi_imp (pi_range2 (gl_of h2) g.rng (pa_cons (e_ok a g y h5) (pa_cons (e_ok b g w h6) pa_nil (star_of h4)) (star_of h3)) (by rw [star_of h3, star_of h4]; rfl) (star_of h4)) ?_
      rintro σ H Rr ⟨F0, H0, F, ρ, τ, xs, τ', r, e1, k⟩
      simp only [evi, Option.bind_eq_some_iff, Prod.exists] at e1
      obtain ⟨d, τ1, e2, d2, τ2, e2', m, e3, n, e3', e4⟩ := e1
      split at e4
      · rename_i hn
        cases e4
        refine ⟨F0, H0, F, ρ, τ, d, _, r, e2, fun v F1 H1 x1 r1 q1 => ⟨F0, H0, F1, ρ, τ1, d2, _, r1, e2', fun v2 F2 H2 x2 r2 q2 => ?_⟩⟩
        cases d with
        | int i =>
          cases d2 with
          | int j =>
            cases e3; cases e3'
            cases q1; cases q2
            unfold small62 at hn
            simp only [Bool.and_eq_true, decide_eq_true_eq] at hn
            exact ⟨_, _, rfl, ⟨hn.1.1, hn.1.2, hn.2.1, hn.2.2⟩, k _ F2 H2 (x1.tr x2) r2 (wk_rng _ _)⟩
          | _ => cases e3'
        | _ => cases e3
      · cases e4
    · cases h
  | .rng3 a b c, bk, X, g, t, z, h => by
    simp only [chkI] at h
    split at h
    · rename_i x p1 y z d j2 p2 p3
      simp only [Bool.and_eq_true, decide_eq_true_eq] at h
      obtain ⟨⟨⟨⟨⟨⟨rfl, h2⟩, h3⟩, h4⟩, rfl⟩, h6⟩, h7⟩ := h
      exact rng3_pi g h2 h3 h4 (e_ok a g y h6) (e_ok b g z h7)
    · cases h
  | .enum a, bk, X, g, t, z, h => by
    simp only [chkI] at h
    split at h
    · simp only [Bool.and_eq_true, decide_eq_true_eq] at h
      obtain ⟨⟨⟨⟨h1, rfl⟩, h3⟩, h4⟩, h5⟩ := h
      cases t with
      | Tuple ts k p => exact pi_imp (pi_enumG (gl_of h3) (g.oth _ (by simp)) (e_ok a g _ h5) (star_of h4)) fun σ H Q q => rd_enum g.hK q
      | _ => cases h1
    · cases h
  | .zip a b, bk, X, g, t, z, h => by
    simp only [chkI] at h
    split at h
    · rename_i x p1 y z p2
      simp only [Bool.and_eq_true, decide_eq_true_eq] at h
      obtain ⟨⟨⟨⟨⟨⟨h1, rfl⟩, h2⟩, h3⟩, h4⟩, h5⟩, h6⟩ := h
      exact zip_pi g h1 h2 h3 h4 (e_ok a g y h5) (e_ok b g z h6)
    · cases h
theorem t_ok : ∀ (c : Tt) {bk : Bool} {X : Cx} (g : Good nm P C W bk X) (z : Expr), chkT nm X.env.scope c z = true → PT X z (RdT P C W c)
  | .yes, bk, X, g, z, h => by simp [chkT] at h
  | .val e, bk, X, g, z, h => by
    simp only [chkT, Bool.and_eq_true] at h
    refine pt_imp (pt_truth (e_ok e g z h.2) (truth_of h.1)) ?_
    rintro σ H Q ⟨F0, H0, F, ρ, τ, b, τ', r, e', k⟩
    simp only [evt, Option.bind_eq_some_iff, Option.map_eq_some_iff, Prod.exists] at e'
    obtain ⟨d1, τ1, e1, b1, e2, e3⟩ := e'
    cases e3
    exact ⟨F0, H0, F, ρ, τ, d1, _, r, e1, fun x F1 H1 x1 r1 q1 => ⟨_, by rw [← g.hK]; exact tru_of r1.sub q1 e2, k F1 H1 x1 r1⟩⟩
  | .and a b, bk, X, g, z, h => by
    simp only [chkT] at h
    split at h
    · rename_i x y rs p
      simp only [Bool.and_eq_true] at h
      exact pt_imp (pw_and (t_ok a g x h.1) (w_ok b g _ _ _ h.2)).pt fun σ H Q q => rd_and q
    · cases h
  | .or a b, bk, X, g, z, h => by
    simp only [chkT] at h
    split at h
    · rename_i x y rs p
      simp only [Bool.and_eq_true] at h
      exact pt_imp (pw_or (t_ok a g x h.1) (w_ok b g _ _ _ h.2)).pt fun σ H Q q => rd_or q
    · cases h
  | .one a, bk, X, g, z, h => by
    simp only [chkT] at h
    split at h
    · rename_i op x p
      cases op with
      | And => exact pt_imp (pw_and1 (t_ok a g x h)).pt fun σ H Q q => q
      | Or => exact pt_imp (pw_or1 (t_ok a g x h)).pt fun σ H Q q => q
    · cases h
  | .not a, bk, X, g, z, h => by
    simp only [chkT] at h
    split at h
    · rename_i x p
      refine pt_imp (pt_not (t_ok a g x h)) ?_
      rintro σ H Q ⟨F0, H0, F, ρ, τ, b, τ', r, e, k⟩
      simp only [evt, Option.map_eq_some_iff, Prod.exists] at e
      obtain ⟨c, τ1, e1, e2⟩ := e
      cases e2
      exact ⟨F0, H0, F, ρ, τ, c, _, r, e1, fun F1 H1 x1 r1 => k F1 H1 x1 r1⟩
    · cases h
  | .cmp o a b, bk, X, g, z, h => by
    simp only [chkT] at h
    split at h
    · rename_i x p y pos
      simp only [Bool.and_eq_true] at h
      exact pt_imp (pt_cmpR (cmp_ok g h.1.1.1) (e_ok a g x h.1.2) (e_ok b g y h.2) (behind_of h.1.1.2)) fun σ H Q q => rd_cmpT q
    · cases h
  | .chn o o' a b c, bk, X, g, z, h => by
    simp only [chkT] at h
    split at h
    · rename_i x p p' y w pos
      simp only [Bool.and_eq_true] at h
      obtain ⟨⟨⟨⟨⟨⟨h1, h2⟩, h3⟩, h4⟩, h5⟩, h6⟩, h7⟩ := h
      exact pt_imp (pt_chain (cmp_ok g h1) (cmp_ok g h2) (e_ok a g x h5) (e_ok b g y h6) (e_ok c g w h7) (behind_of h4)) fun σ H Q q => rd_chnT q
    · cases h
  | .isN ng a, bk, X, g, z, h => by
    simp only [chkT] at h
    split at h
    · rename_i x _ p1 p2
      simp only [Bool.and_eq_true] at h
      have e : ng = false := by simpa using h.1
      subst e
      exact pt_imp (pt_cmp (pc_isN (e_ok a g x h.2)) (nobehind _ (by decide) (by decide))) fun σ H Q q => rd_isNT q
    · rename_i x _ p1 p2
      simp only [Bool.and_eq_true] at h
      have e : ng = true := h.1
      subst e
      exact pt_imp (pt_cmp (pc_notN (e_ok a g x h.2)) (nobehind _ (by decide) (by decide))) fun σ H Q q => rd_isNT q
    · cases h
  | .isB ng a b, bk, X, g, z, h => by
    simp only [chkT] at h
    split at h
    · rename_i x c _ p1 p2
      simp only [Bool.and_eq_true] at h
      have e : ng = false := by simpa using h.1.1
      have e2 : b = c := eq_of_beq h.1.2
      subst e; subst e2
      exact pt_imp (pt_cmpR op_isBl (e_ok a g x h.2) pe_bl (nobehind _ (by decide) (by decide))) fun σ H Q q => rd_isBT q
    · rename_i x c _ p1 p2
      simp only [Bool.and_eq_true] at h
      have e : ng = true := h.1.1
      have e2 : b = c := eq_of_beq h.1.2
      subst e; subst e2
      exact pt_imp (pt_cmpR op_notBl (e_ok a g x h.2) pe_bl (nobehind _ (by decide) (by decide))) fun σ H Q q => rd_isBT q
    · cases h
theorem w_ok : ∀ (c : Tt) {bk : Bool} {X : Cx} (g : Good nm P C W bk X) (op : BoolOp) (l : List Expr) (p : Pos), chkT nm X.env.scope c (.BoolOp op l p) = true → PW X (.BoolOp op l p) (RdT P C W c)
  | .yes, bk, X, g, op, l, p, h => by simp [chkT] at h
  | .val e, bk, X, g, op, l, p, h => by
    simp only [chkT, plainT, Bool.false_and] at h
    cases h
  | .not a, bk, X, g, op, l, p, h => by simp [chkT] at h
  | .cmp _ _ _, bk, X, g, op, l, p, h => by simp [chkT] at h
  | .chn _ _ _ _ _, bk, X, g, op, l, p, h => by simp [chkT] at h
  | .isN _ _, bk, X, g, op, l, p, h => by simp [chkT] at h
  | .isB _ _ _, bk, X, g, op, l, p, h => by simp [chkT] at h
  | .and a b, bk, X, g, op, l, p, h => by
    simp only [chkT] at h
    split at h
    · rename_i x y rs p' heq
      cases heq
      simp only [Bool.and_eq_true] at h
      exact pw_imp (pw_and (t_ok a g x h.1) (w_ok b g _ _ _ h.2)) fun σ H Q q => rd_and q
    · cases h
  | .or a b, bk, X, g, op, l, p, h => by
    simp only [chkT] at h
    split at h
    · rename_i x y rs p' heq
      cases heq
      simp only [Bool.and_eq_true] at h
      exact pw_imp (pw_or (t_ok a g x h.1) (w_ok b g _ _ _ h.2)) fun σ H Q q => rd_or q
    · cases h
  | .one a, bk, X, g, op, l, p, h => by
    simp only [chkT] at h
    split at h
    · rename_i op' x p' heq
      cases heq
      cases op with
      | And => exact pw_imp (pw_and1 (t_ok a g x h)) fun σ H Q q => q
      | Or => exact pw_imp (pw_or1 (t_ok a g x h)) fun σ H Q q => q
    · cases h
end
end
end PD

set_option Elab.async false
set_option linter.all false
set_option maxRecDepth 100000
set_option maxHeartbeats 8000000
/-! Statements: the check, and what a checked block does. -/
namespace PD
open PySem L2

/-! ### the check -/
def notComp : Expr → Bool
  | .ListComp _ _ _ _ => false
  | .SetComp _ _ _ _ => false
  | .DictComp _ _ _ _ _ => false
  | _ => true
/-- whether the one place of a comprehension's value changes with the name's -/
def swB (sc : Scope) (x : Str) (px : Pos) : Expr → Option Bool
  | .ListComp _ _ s p => some (decide (sc.names.lookup x = some .local) && (px.line == p.line) && !(s.names.any fun (n, k) => n == x && (k == .local || k == .cell)))
  | .SetComp _ _ _ _ => none
  | .DictComp _ _ _ _ _ => none
  | _ => some false
def tupNames (sc : Scope) (ts : List Expr) : List Str :=
  let line := (ts.head?.map (·.pos.line)).getD 0
  ts.filterMap fun
    | .Name id pos => if sc.names.lookup id == some .local && pos.line == line then some id else none
    | _ => none
/-- the stores of a tuple of names are not exchanged -/
def noSwap (sc : Scope) (ts : List Expr) : Expr → Bool
  | .Tuple vs _ _ => !(ts.length == 2 || ts.length == 3) || vs.length != ts.length || (vs.any fun | .Starred .. => true | _ => false) || ((tupNames sc ts).length != ts.length) || ((tupNames sc ts).eraseDups.length != (tupNames sc ts).length) || vs.all (foldedForSure 8)
  | _ => true
/-- .. are -/
def doSwap (sc : Scope) (ts vs : List Expr) (xs : List Str) : Bool :=
  (ts.length == 2 || ts.length == 3) && (vs.length == ts.length) && !(vs.any fun | .Starred .. => true | _ => false) && decide (tupNames sc ts = xs) && !((tupNames sc ts).length != ts.length) && !((tupNames sc ts).eraseDups.length != (tupNames sc ts).length) && !(vs.all (foldedForSure 8)) && !(vs.all (constantsAlone 8))
mutual
def chkS (nm : Nm) (sc : Scope) (s : S) (z : Stmt) : Bool := match s with
  | .nop => (match z with
    | .Pass _ => true
    | _ => false)
  | .exp e => (match z with
    | .Expr x _ => notComp x && chkE nm sc e x
    | _ => false)
  | .ret e => (match z with
    | .Return (some x) _ => chkE nm sc e x
    | _ => false)
  | .retN => (match z with
    | .Return none _ => true
    | _ => false)
  | .set i e => (match z with
    | .Assign [.Name x px] v sp => decide (nm.N[i]? = some x) && locB false sc x && (swB sc x px v).isSome && chkE nm sc e v
    | _ => false)
  | .setO i (.lst es) => (match z with
    | .Assign [.Name x px] (.List xs _) sp => decide (nm.N[i]? = some x) && locB false sc x && chkA nm sc es xs
    | _ => false)
  | .setO i (.bin .Add a b) => (match z with
    | .Assign [.Name x px] (.BinOp v .Add w _) sp => decide (nm.N[i]? = some x) && locB false sc x && chkE nm sc a v && chkE nm sc b w
    | _ => false)
  | .setO i (.blt .list (.cons a .nil)) => (match z with
    | .Assign [.Name x px] (.Call (.Name l _) [y] [] _) sp => decide (nm.N[i]? = some x) && locB false sc x && decide (l = ("list" : Str)) && glB sc l && notStar y && chkE nm sc a y
    | _ => false)
  | .setO i (.rev a) => (match z with
    | .Assign [.Name x px] (.Subscript y (.Slice none none (some (.UnaryOp .USub (.Constant (.int 1) _ _) _)) _) _) sp => decide (nm.N[i]? = some x) && locB false sc x && chkE nm sc a y
    | _ => false)
  | .lset i k e => (match z with
    | .Assign [.Subscript (.Name x _) y _] v sp => decide (nm.N[i]? = some x) && visB sc x && okN x && notComp v && plainIxB y && chkE nm sc k y && chkE nm sc e v
    | _ => false)
  | .lpop i k => (match z with
    | .Expr (.Call (.Attribute (.Name x p) n ap) [y] [] cp) sp => decide (nm.N[i]? = some x) && visB sc x && okN x && decide (n = ("pop" : Str)) && (ap.endLine == cp.line) && notStar y && chkE nm sc k y
    | _ => false)
  | .lins i k e => (match z with
    | .Expr (.Call (.Attribute (.Name x p) n ap) [y, y2] [] cp) sp => decide (nm.N[i]? = some x) && visB sc x && okN x && decide (n = ("insert" : Str)) && (ap.endLine == cp.line) && notStar y && notStar y2 && chkE nm sc k y && chkE nm sc e y2
    | _ => false)
  | .par [i, j] es => (match z with
    | .Assign [.Tuple [.Name x px, .Name y py] kt pt] (.Tuple [a, b] k2 pt2) sp => decide (nm.N[i]? = some x) && decide (nm.N[j]? = some y) && decide (i ≠ j) && decide (sc.names.lookup x = some .local) && decide (sc.names.lookup y = some .local) && chkA nm sc es [a, b] && doSwap sc [.Name x px, .Name y py] [a, b] [x, y]
    | _ => false)
  | .par [i, j, l] es => (match z with
    | .Assign [.Tuple [.Name x px, .Name y py, .Name u pu] kt pt] (.Tuple [a, b, c] k2 pt2) sp => decide (nm.N[i]? = some x) && decide (nm.N[j]? = some y) && decide (nm.N[l]? = some u) && decide (i ≠ j ∧ i ≠ l ∧ j ≠ l) && decide (sc.names.lookup x = some .local) && decide (sc.names.lookup y = some .local) && decide (sc.names.lookup u = some .local) && chkA nm sc es [a, b, c] && doSwap sc [.Name x px, .Name y py, .Name u pu] [a, b, c] [x, y, u]
    | _ => false)
  | .unp t e => (match z with
    | .Assign [.Tuple ts k pt] v sp => noSwap sc ts v && chkTg nm false sc t (.Tuple ts k pt) && chkE nm sc e v
    | _ => false)
  | .ife c a b => (match z with
    | .If x p q _ => chkT nm sc c x && chkB nm sc a p && chkB nm sc b q
    | _ => false)
  | .whl c b => (match z with
    | .While x p [] _ => chkT nm sc c x && chkB nm sc b p
    | _ => false)
  | .fr tg it b => (match z with
    | .For t iter body [] _ => notSet iter && chkI nm sc it t iter && chkTg nm false sc tg t && chkB nm sc b body
    | _ => false)
  | .app i e => (match z with
    | .Expr (.Call (.Attribute (.Name x p) n ap) [y] [] cp) sp => decide (nm.N[i]? = some x) && visB sc x && okN x && decide (n = ("append" : Str)) && (ap.endLine == cp.line) && notStar y && chkE nm sc e y
    | _ => false)
  | .tset i k e => (match z with
    | .Assign [.Subscript (.Name x _) (.Constant (.int j) _ _) _] v sp => decide (nm.N[i]? = some x) && visB sc x && okN x && decide (j = (k : Int)) && decide (k = 1 ∨ k = 2) && notComp v && chkE nm sc e v
    | _ => false)
  | .brk => (match z with
    | .Break _ => true
    | _ => false)
  | .cnt => (match z with
    | .Continue _ => true
    | _ => false)
  | .stuck => true
  | _ => false
def chkB (nm : Nm) (sc : Scope) (b : Ss) (l : List Stmt) : Bool := match b with
  | .nil => l.isEmpty
  | .cons s ss => (match l with
    | z :: r => chkS nm sc s z && chkB nm sc ss r
    | [] => false)
  | .frz i ss => chkB nm sc ss l
end

/-! ### readings -/
section
variable {nm : Nm} {P : Sg} {C : Con} {W : TW}
/-- an outcome leads on -/
def Cont (C : Con) (W : TW) (D : Ends) (F0 H0 Fs : Hp) : Out → Prop
  | .nx ρ τ => ∀ σ' F' H', Sub Fs F' → Rel C W F0 H0 F' H' σ' ρ τ → D.nx σ' H'
  | .bk ρ τ => ∀ σ' F' H', Sub Fs F' → Rel C W F0 H0 F' H' σ' ρ τ → D.bk σ' H'
  | .ct ρ τ => ∀ σ' F' H', Sub Fs F' → Rel C W F0 H0 F' H' σ' ρ τ → D.ct σ' H'
  | .rt d τ => ∀ v F' H', Ext W.tp F0 H0 F' H' → TapeAt W F' H' τ → R C F' v d → D.rt v H'
def RdS (P : Sg) (C : Con) (W : TW) (s : S) : L2.TS := fun D σ H => ∃ F0 H0 F ρ τ o, Rel C W F0 H0 F H σ ρ τ ∧ evS P s ρ τ = some o ∧ Cont C W D F0 H0 F o
def RdB (P : Sg) (C : Con) (W : TW) (b : Ss) : L2.TS := fun D σ H => ∃ F0 H0 F ρ τ o, Rel C W F0 H0 F H σ ρ τ ∧ evB P b ρ τ = some o ∧ Cont C W D F0 H0 F o
theorem Cont.mono {D : Ends} {F0 H0 F F' : Hp} (s : Sub F F') : ∀ {o : Out}, Cont C W D F0 H0 F o → Cont C W D F0 H0 F' o
  | .nx ρ τ, k => fun σ' G H' s' => k σ' G H' (s.tr s')
  | .bk ρ τ, k => fun σ' G H' s' => k σ' G H' (s.tr s')
  | .ct ρ τ, k => fun σ' G H' s' => k σ' G H' (s.tr s')
  | .rt d τ, k => k
theorem ps_imp {X : Cx} {st : Stmt} {t t' : L2.TS} (h : PS X st t) (f : ∀ D σ H, t' D σ H → t D σ H) : PS X st t' := ⟨fun pins s σ H D I q => h.run pins s σ H D I (f D σ H q)⟩
theorem pss_imp {X : Cx} {st : List Stmt} {t t' : L2.TS} (h : PSs X st t) (f : ∀ D σ H, t' D σ H → t D σ H) : PSs X st t' := ⟨fun pins s σ H D I q => h.run pins s σ H D I (f D σ H q)⟩

/-! ### loops -/
theorem rd_whl {c : Tt} {b : Ss} {D : Ends} {σ : St} {H : Hp} (h : RdS P C W (.whl c b) D σ H) : tWhile (RdT P C W c) (RdB P C W b) D σ H := by
  obtain ⟨F0, H0, F, ρ, τ, o, r, e, k⟩ := h
  rw [evS] at e
  obtain ⟨n, e⟩ := whL_some e
  refine ⟨fun m σ H => ∃ Fc ρ τ, Sub F Fc ∧ Rel C W F0 H0 Fc H σ ρ τ ∧ whN (evt P c) (evB P b) m ρ τ = some o, ⟨n, F, ρ, τ, Sub.rfl' F, r, e⟩, ?_⟩
  rintro m σ1 H1 ⟨Fc, ρ1, τ1, s1, r1, e1⟩
  cases m with
  | zero => cases e1
  | succ m =>
    rw [whN] at e1
    simp only [Option.bind_eq_some_iff, Prod.exists] at e1
    obtain ⟨bv, τ2, e2, e3⟩ := e1
    refine ⟨F0, H0, Fc, ρ1, τ1, bv, τ2, r1, e2, fun F2 H2 x2 r2 => ?_⟩
    cases bv with
    | false =>
      simp only [Bool.false_eq_true, if_false] at e3 ⊢
      cases e3
      exact k _ _ _ (s1.tr x2.ff) r2
    | true =>
      simp only [if_true, Option.bind_eq_some_iff] at e3 ⊢
      obtain ⟨o2, e4, e5⟩ := e3
      refine ⟨fun σ' H' => ∃ F' ρ' τ', Sub F F' ∧ Rel C W F0 H0 F' H' σ' ρ' τ' ∧ whN (evt P c) (evB P b) m ρ' τ' = some o, fun σ' H' q => ⟨m, Nat.lt_succ_self m, q⟩, F0, H0, F2, ρ1, τ2, o2, r2, e4, ?_⟩
      cases o2 with
      | nx ρ3 τ3 => exact fun σ' F' H' s' r' => ⟨F', ρ3, τ3, (s1.tr x2.ff).tr s', r', e5⟩
      | ct ρ3 τ3 => exact fun σ' F' H' s' r' => ⟨F', ρ3, τ3, (s1.tr x2.ff).tr s', r', e5⟩
      | bk ρ3 τ3 =>
        cases e5
        exact fun σ' F' H' s' r' => k σ' F' H' ((s1.tr x2.ff).tr s') r'
      | rt d τ3 =>
        cases e5
        exact k
theorem rd_for {tg : T} {it : I} {b : Ss} {D : Ends} {σ : St} {H : Hp} (h : RdS P C W (.fr tg it b) D σ H) : tFor (RdI P C W it) (RdG C W tg) (RdB P C W b) D σ H := by
  obtain ⟨F0, H0, F, ρ, τ, o, r, e, k⟩ := h
  rw [evS] at e
  simp only [Option.bind_eq_some_iff, Prod.exists] at e
  obtain ⟨xs, τ1, e1, e2⟩ := e
  generalize hf : (fun (x : PD.D) (ρ1 : Env') (τ1 : TS) => (bindT tg x ρ1).bind fun ρ2 => evB P b ρ2 τ1) = f at e2
  have hfx : ∀ x ρ1 τ1, f x ρ1 τ1 = (bindT tg x ρ1).bind fun ρ2 => evB P b ρ2 τ1 := fun x ρ1 τ1 => by rw [← hf]
  refine ⟨F0, H0, F, ρ, τ, xs, τ1, r, e1, fun J F1 H1 x1 r1 wk => ?_⟩
  refine ⟨fun i m σ H => ∃ Fc ρ τ, i ≤ xs.length ∧ m = xs.length - i ∧ Sub F1 Fc ∧ Rel C W F0 H0 Fc H σ ρ τ ∧ forL f (xs.drop i) ρ τ = some o,
    ⟨xs.length, F1, ρ, τ1, Nat.zero_le _, rfl, Sub.rfl' _, r1, by rw [List.drop_zero]; exact e2⟩, ?_⟩
  rintro i m σc Hc ⟨Fc, ρc, τc, hi, rfl, sc, rc, ec⟩
  by_cases hlt : i < xs.length
  · refine .inr ⟨wk.go i Fc Hc sc rc.sub hlt, fun σ' H' => ∃ F' ρ' τ', Sub F1 F' ∧ Rel C W F0 H0 F' H' σ' ρ' τ' ∧ forL f (xs.drop (i + 1)) ρ' τ' = some o, ?_, fun x H' hy => ?_⟩
    · rintro σ' H' ⟨F', ρ', τ', a1, a2, a3⟩
      exact ⟨xs.length - (i + 1), by omega, F', ρ', τ', by omega, rfl, a1, a2, a3⟩
    · obtain ⟨d, F2, hd, x2, rx⟩ := wk.yld i Fc Hc x H' sc rc.sub hlt hy
      have hdr : xs.drop i = d :: xs.drop (i + 1) := by
        rw [List.drop_eq_getElem_cons hlt]
        rw [List.getElem?_eq_getElem hlt] at hd
        rw [Option.some.inj hd]
      rw [hdr] at ec
      simp only [forL, Option.bind_eq_some_iff] at ec
      obtain ⟨o2, ef, e3⟩ := ec
      rw [hfx] at ef
      simp only [Option.bind_eq_some_iff] at ef
      obtain ⟨ρ2, eb, eB⟩ := ef
      have r2 := rc.extP x2
      refine ⟨F0, H0, F2, ρc, τc, d, ρ2, r2, rx, eb, fun σ2 r3 _ => ⟨F0, H0, F2, ρ2, τc, o2, r3, eB, ?_⟩⟩
      have s2 : Sub F1 F2 := sc.tr x2.ff
      cases o2 with
      | nx ρ3 τ3 => exact fun σ' F' H' s' r' => ⟨F', ρ3, τ3, s2.tr s', r', e3⟩
      | ct ρ3 τ3 => exact fun σ' F' H' s' r' => ⟨F', ρ3, τ3, s2.tr s', r', e3⟩
      | bk ρ3 τ3 =>
        cases e3
        exact fun σ' F' H' s' r' => k σ' F' H' (x1.ff.tr (s2.tr s')) r'
      | rt d τ3 =>
        cases e3
        exact k
  · have e : i = xs.length := by omega
    subst e
    refine .inl ⟨wk.stop Fc Hc sc rc.sub, ?_⟩
    rw [List.drop_length] at ec
    simp only [forL] at ec
    cases ec
    exact k _ _ _ (x1.ff.tr sc) rc
end
end PD

set_option Elab.async false
set_option linter.all false
set_option maxRecDepth 100000
set_option maxHeartbeats 8000000
/-! What a checked block does. -/
namespace PD
open PySem L2
section
variable {nm : Nm} {P : Sg} {C : Con} {W : TW} {X : Cx}

theorem fnb (hk : X.env.scope.kind = .function) : X.env.blockKind = .function := by unfold Env.blockKind; rw [hk]; rfl
theorem sw_none {v : Expr} {px : Option Expr} {l : Nat} (h : notComp v = true) : swapsWith v px l X.env = pure false := by
  cases v <;> first | rfl | cases h
theorem sw_false (hk : X.env.scope.kind = .function) {v : Expr} {x : Str} {px : Pos} {l : Nat} (h : swB X.env.scope x px v = some false) : swapsWith v (some (.Name x px)) l X.env = pure false := by
  cases v with
  | ListComp elt gs s p =>
    have hb := fnb hk
    simp only [swB, Option.some.injEq] at h
    unfold swapsWith
    simp only [hb, Env.kindOf, Expr.pos]
    show pure _ = pure false
    congr 1
    rw [← h]
    have e : (X.env.scope.names.lookup x == some NameKind.local) = decide (X.env.scope.names.lookup x = some .local) := by
      by_cases q : X.env.scope.names.lookup x = some .local
      · rw [q]; rfl
      · rw [decide_eq_false q]
        exact beq_eq_false_iff_ne.mpr q
    rw [e]
    rfl
  | SetComp _ _ _ _ => cases h
  | DictComp _ _ _ _ _ => cases h
  | _ => rfl
theorem sw_sole {ts : List Expr} {k : Nat} {pt : Pos} {v : Expr} {l : Nat} : swapsWithSole [.Tuple ts k pt] v l X.env = pure false := by
  cases v <;> rfl
theorem sw_eq {ts vs : List Expr} {k k2 : Nat} {pt pt2 : Pos} {env : Env} : swappedStores [.Tuple ts k pt] (.Tuple vs k2 pt2) env =
    (if (!(ts.length == 2 || ts.length == 3) || vs.length != ts.length || env.blockKind != .function) = true then pure none
    else if (vs.any fun | .Starred .. => true | _ => false) = true then pure none
    else if ((tupNames env.scope ts).length != ts.length || (tupNames env.scope ts).eraseDups.length != (tupNames env.scope ts).length) = true then pure none
    else if vs.all (foldedForSure 8) = true then pure none
    else if vs.all (constantsAlone 8) = true then (unsupported "assign.tuple-of-constant-expressions:order-of-the-stores" >>= fun (_ : PUnit) => pure (some (tupNames env.scope ts)))
    else pure (some (tupNames env.scope ts))) := by
  unfold swappedStores
  rfl
theorem no_swap (hk : X.env.scope.kind = .function) {ts : List Expr} {k : Nat} {pt : Pos} {v : Expr} (h : noSwap X.env.scope ts v = true) : swappedStores [.Tuple ts k pt] v X.env = pure none := by
  cases v with
  | Tuple vs k2 pt2 =>
    rw [sw_eq]
    simp only [noSwap, Bool.or_eq_true] at h
    split
    · rfl
    · rename_i c1
      split
      · rfl
      · rename_i c2
        split
        · rfl
        · rename_i c3
          split
          · rfl
          · rename_i c4
            exfalso
            simp only [Bool.or_eq_true, not_or] at c1 c3
            rcases h with ((((h | h) | h) | h) | h) | h
            · exact c1.1.1 h
            · exact c1.1.2 h
            · exact c2 h
            · exact c3.1 h
            · exact c3.2 h
            · exact c4 h
  | _ => rfl
theorem do_swap (hk : X.env.scope.kind = .function) {ts vs : List Expr} {k k2 : Nat} {pt pt2 : Pos} {xs : List Str} (h : doSwap X.env.scope ts vs xs = true) : swappedStores [.Tuple ts k pt] (.Tuple vs k2 pt2) X.env = pure (some xs) := by
  have hb := fnb hk
  rw [sw_eq]
  simp only [doSwap, Bool.and_eq_true, Bool.not_eq_true', decide_eq_true_eq] at h
  obtain ⟨⟨⟨⟨⟨⟨⟨h1, h2⟩, h3⟩, h4⟩, h5⟩, h6⟩, h7⟩, h8⟩ := h
  have e1 : (!(ts.length == 2 || ts.length == 3) || vs.length != ts.length || X.env.blockKind != ScopeKind.function) = false := by
    rw [h1, hb]
    have : (vs.length != ts.length) = false := by
      rw [bne, h2]; rfl
    rw [this]; rfl
  refine (if_neg (by rw [e1]; decide)).trans ((if_neg fun z => Bool.noConfusion (h3.symm.trans z)).trans ?_)
  rw [if_neg (by rw [h5, h6]; decide), if_neg (by rw [h7]; decide), if_neg (by rw [h8]; decide), h4]

theorem rd_set {i : Nat} {e : E} {D : Ends} {σ : St} {H : Hp} (h : RdS P C W (.set i e) D σ H) : tAsg (RdE P C W e) (gName i) D σ H := by
  obtain ⟨F0, H0, F, ρ, τ, o, r, e, k⟩ := h
  rw [evS] at e
  simp only [Option.map_eq_some_iff, Prod.exists] at e
  obtain ⟨d, τ1, e1, e2⟩ := e
  cases e2
  exact ⟨F0, H0, F, ρ, τ, d, τ1, r, e1, fun v F1 H1 x1 r1 q1 => k _ _ _ x1.ff (r1.setD i q1)⟩
theorem rdS_e {F0 H0 F H : Hp} {ρ : Env'} {τ τ' : TS} {d : PD.D} {e : E} {σ : St} (r : Rel C W F0 H0 F H σ ρ τ) (e1 : ev P e ρ τ = some (d, τ')) {Q : VK} (k : ∀ v F' H', Ext W.tp F H F' H' → Rel C W F0 H0 F' H' σ ρ τ' → R C F' v d → Q v H') : RdE P C W e σ H Q := ⟨F0, H0, F, ρ, τ, d, τ', r, e1, k⟩
theorem setAll2 {i j : Nat} {ds : List PD.D} {ρ ρ1 : Env'} (h : setAll [i, j] ds ρ = some ρ1) : ∃ a b, ds = [a, b] ∧ ρ1 = (ρ.set i (.d a)).set j (.d b) := by
  cases ds with
  | nil => cases h
  | cons a ds =>
    cases ds with
    | nil => cases h
    | cons b ds =>
      cases ds with
      | nil => cases h; exact ⟨a, b, rfl, rfl⟩
      | cons _ _ => cases h
theorem setAll3 {i j l : Nat} {ds : List PD.D} {ρ ρ1 : Env'} (h : setAll [i, j, l] ds ρ = some ρ1) : ∃ a b c, ds = [a, b, c] ∧ ρ1 = ((ρ.set i (.d a)).set j (.d b)).set l (.d c) := by
  cases ds with
  | nil => cases h
  | cons a ds =>
    cases ds with
    | nil => cases h
    | cons b ds =>
      cases ds with
      | nil => cases h
      | cons c ds =>
        cases ds with
        | nil => cases h; exact ⟨a, b, c, rfl, rfl⟩
        | cons _ _ => cases h
theorem lstD_cat {tk : Bool} {a b : PD.D} {xs : List PD.D} (h : addD tk a b = some (.lst xs)) : ∃ as bs, a = .lst as ∧ b = .lst bs ∧ xs = as ++ bs ∧ as.length + bs.length ≤ sizeLine := by
  cases a <;> cases b <;> simp [addD] at h
  · exact ⟨_, _, rfl, rfl, h.2.symm, h.1⟩

variable (hk : X.env.scope.kind = .function)
theorem rd_unp {t : T} {e : E} {D : Ends} {σ : St} {H : Hp} (h : RdS P C W (.unp t e) D σ H) : tAsg (RdE P C W e) (RdG C W t) D σ H := by
  obtain ⟨F0, H0, F, ρ, τ, o, r, e, k⟩ := h
  rw [evS] at e
  simp only [Option.bind_eq_some_iff, Option.map_eq_some_iff, Prod.exists] at e
  obtain ⟨d, τ1, e1, ρ1, e2, e3⟩ := e
  cases e3
  exact ⟨F0, H0, F, ρ, τ, d, τ1, r, e1, fun v F1 H1 x1 r1 q1 => ⟨F0, H0, F1, ρ, τ1, d, ρ1, r1, q1, e2, fun σ' r' _ => k _ _ _ x1.ff r'⟩⟩
theorem rd_ret {e : E} {D : Ends} {σ : St} {H : Hp} (h : RdS P C W (.ret e) D σ H) : tRet (RdE P C W e) D σ H := by
  obtain ⟨F0, H0, F, ρ, τ, o, r, e, k⟩ := h
  rw [evS] at e
  simp only [Option.map_eq_some_iff, Prod.exists] at e
  obtain ⟨d, τ1, e1, e2⟩ := e
  cases e2
  exact ⟨F0, H0, F, ρ, τ, d, τ1, r, e1, fun v F1 H1 x1 r1 q1 => k _ _ _ (r.base.tr x1) r1.tape q1⟩
theorem rd_exp {e : E} {D : Ends} {σ : St} {H : Hp} (h : RdS P C W (.exp e) D σ H) : tDrop (RdE P C W e) D σ H := by
  obtain ⟨F0, H0, F, ρ, τ, o, r, e, k⟩ := h
  rw [evS] at e
  simp only [Option.map_eq_some_iff, Prod.exists] at e
  obtain ⟨d, τ1, e1, e2⟩ := e
  cases e2
  exact ⟨F0, H0, F, ρ, τ, d, τ1, r, e1, fun v F1 H1 x1 r1 q1 => k _ _ _ x1.ff r1⟩
theorem rd_ifS {c : Tt} {a b : Ss} {D : Ends} {σ : St} {H : Hp} (h : RdS P C W (.ife c a b) D σ H) : tIfS (RdT P C W c) (RdB P C W a) (RdB P C W b) D σ H := by
  obtain ⟨F0, H0, F, ρ, τ, o, r, e, k⟩ := h
  rw [evS] at e
  simp only [Option.bind_eq_some_iff, Prod.exists] at e
  obtain ⟨bv, τ1, e1, e2⟩ := e
  refine ⟨F0, H0, F, ρ, τ, bv, τ1, r, e1, fun F1 H1 x1 r1 => ?_⟩
  cases bv with
  | true => exact ⟨F0, H0, F1, ρ, τ1, o, r1, e2, k.mono x1.ff⟩
  | false => exact ⟨F0, H0, F1, ρ, τ1, o, r1, e2, k.mono x1.ff⟩
theorem rd_seq {s : S} {ss : Ss} {D : Ends} {σ : St} {H : Hp} (h : RdB P C W (.cons s ss) D σ H) : tSeq (RdS P C W s) (RdB P C W ss) D σ H := by
  obtain ⟨F0, H0, F, ρ, τ, o, r, e, k⟩ := h
  rw [evB] at e
  simp only [Option.bind_eq_some_iff] at e
  obtain ⟨o1, e1, e2⟩ := e
  refine ⟨F0, H0, F, ρ, τ, o1, r, e1, ?_⟩
  cases o1 with
  | nx ρ1 τ1 => exact fun σ' F' H' s' r' => ⟨F0, H0, F', ρ1, τ1, o, r', e2, k.mono s'⟩
  | bk ρ1 τ1 => cases e2; exact k
  | ct ρ1 τ1 => cases e2; exact k
  | rt d τ1 => cases e2; exact k
theorem rd_frz {i : Nat} {ss : Ss} {D : Ends} {σ : St} {H : Hp} (h : RdB P C W (.frz i ss) D σ H) : RdB P C W ss D σ H := by
  obtain ⟨F0, H0, F, ρ, τ, o, r, e, k⟩ := h
  rw [evB] at e
  cases q : ρ[i]? with
  | none => rw [q] at e; cases e
  | some s =>
    rw [q] at e
    cases s with
    | un => cases e
    | tape => cases e
    | d x => exact ⟨F0, H0, F, ρ, τ, o, r, e, k⟩
    | ol xs =>
      obtain ⟨F', sb, r'⟩ := r.freeze q
      exact ⟨F0, H0, F', _, τ, o, r', e, k.mono sb⟩
theorem RA.setI {F : Hp} {v : V} {d : PD.D} (h : R C F v d) : ∀ {vs : List V} {ds : List PD.D} (_ : RA C F vs ds) (j : Nat), RA C F (vs.set j v) (ds.set j d)
  | _, [], r, j => by cases r; simp only [List.set_nil]; exact .nil
  | _, x :: ds, r, 0 => by
    cases r with
    | cons r1 r2 => simp only [List.set_cons_zero]; exact .cons h r2
  | _, x :: ds, r, j + 1 => by
    cases r with
    | cons r1 r2 => simp only [List.set_cons_succ]; exact .cons r1 (RA.setI h r2 j)
theorem RA.eraseI {F : Hp} : ∀ {vs : List V} {ds : List PD.D} (_ : RA C F vs ds) (j : Nat), RA C F (vs.eraseIdx j) (ds.eraseIdx j)
  | _, [], r, j => by cases r; simp only [List.eraseIdx_nil]; exact .nil
  | _, x :: ds, r, 0 => by
    cases r with
    | cons r1 r2 => simp only [List.eraseIdx_cons_zero]; exact r2
  | _, x :: ds, r, j + 1 => by
    cases r with
    | cons r1 r2 => simp only [List.eraseIdx_cons_succ]; exact .cons r1 (RA.eraseI r2 j)
theorem rd_lset {i : Nat} {k e : E} {D : Ends} {σ : St} {H : Hp} (h : RdS P C W (.lset i k e) D σ H) : tAsg (RdE P C W e) (gSub (tVar i) (RdE P C W k) rSetL) D σ H := by
  obtain ⟨F0, H0, F, ρ, τ, o, r, e0, kk⟩ := h
  rw [evS] at e0
  cases q : ρ[i]? with
  | none => rw [q] at e0; cases e0
  | some s =>
    rw [q] at e0
    cases s with
    | ol xs =>
      simp only [Option.bind_eq_some_iff, Option.map_eq_some_iff, Prod.exists] at e0
      obtain ⟨d, τ1, e1, dk, τ2, e2, n, e3, j, e4, e5⟩ := e0
      cases e5
      refine ⟨F0, H0, F, ρ, τ, d, τ1, r, e1, fun v F1 H1 x1 r1 q1 => ?_⟩
      obtain ⟨v', ea, a, e', _⟩ := r1.get q
      subst e'
      refine ⟨_, ea, F0, H0, F1, ρ, τ1, dk, τ2, r1, e2, fun u F2 H2 x2 r2 q2 => ?_⟩
      cases dk with
      | int m =>
        obtain rfl : m = n := Option.some.inj e3
        cases q2
        obtain ⟨v2, ea2, a2, e2', ow⟩ := r2.get q
        subst e2'
        rw [ea] at ea2
        cases ea2
        obtain ⟨⟨vs, hw, hr⟩, nF, ntp, nw⟩ := ow
        exact ⟨a, vs, m, j, rfl, rfl, hw, by rw [hr.len]; exact e4, kk _ _ _ (x1.ff.tr x2.ff) (r2.writeO q ea (RA.setI (R.sub x2.ff _ q1) hr j))⟩
      | _ => cases e3
    | _ => cases e0
theorem rd_lpop {K : PySem.W.Frag} {i : Nat} {k : E} {D : Ends} {σ : St} {H : Hp} (h : RdS P C W (.lpop i k) D σ H) : tDrop (tBM K "list" rPop (tVar i) (tCons (RdE P C W k) tNil)) D σ H := by
  obtain ⟨F0, H0, F, ρ, τ, o, r, e, kk⟩ := h
  rw [evS] at e
  cases q : ρ[i]? with
  | none => rw [q] at e; cases e
  | some s =>
    rw [q] at e
    cases s with
    | ol xs =>
      simp only [Option.bind_eq_some_iff, Prod.exists] at e
      obtain ⟨d, τ1, e1, n, e3, e4⟩ := e
      split at e4
      · rename_i hn
        cases e4
        obtain ⟨v, ea, a, e', ow⟩ := r.get q
        subst e'
        have ow0 := ow
        obtain ⟨⟨ws, hw, hr⟩, nF, ntp, nw⟩ := ow
        refine ⟨.ref a, ea, .inl ⟨rfl, ws, .inl (.inl hw)⟩, F0, H0, F, ρ, τ, d, τ1, r, e1, fun v F1 H1 x1 r1 q1 => ?_⟩
        cases d with
        | int m =>
          obtain rfl : m = n := Option.some.inj e3
          cases q1
          obtain ⟨⟨w2, hw2, hr2⟩, nF2, ntp2, nw2⟩ := ow0.ext x1
          obtain ⟨y, hy⟩ : ∃ y, xs[m.toNat]? = some y := ⟨_, List.getElem?_eq_getElem hn.2⟩
          obtain ⟨u, hu, ru⟩ := hr2.get hy
          exact ⟨a, w2, m, u, rfl, rfl, hw2, hn.1, hu, kk _ _ _ x1.ff (r1.writeO q ea (RA.eraseI hr2 m.toNat))⟩
        | _ => cases e3
      · cases e4
    | _ => cases e
theorem rd_lins {K : PySem.W.Frag} {i : Nat} {k e : E} {D : Ends} {σ : St} {H : Hp} (h : RdS P C W (.lins i k e) D σ H) : tDrop (tBM K "list" rIns (tVar i) (tCons (RdE P C W k) (tCons (RdE P C W e) tNil))) D σ H := by
  obtain ⟨F0, H0, F, ρ, τ, o, r, e0, kk⟩ := h
  rw [evS] at e0
  cases q : ρ[i]? with
  | none => rw [q] at e0; cases e0
  | some s =>
    rw [q] at e0
    cases s with
    | ol xs =>
      simp only [Option.bind_eq_some_iff, Prod.exists] at e0
      obtain ⟨d, τ1, e1, d2, τ2, e2, n, e3, e4⟩ := e0
      split at e4
      · rename_i hn
        cases e4
        obtain ⟨v, ea, a, e', ow⟩ := r.get q
        subst e'
        have ow0 := ow
        obtain ⟨⟨ws, hw, hr⟩, nF, ntp, nw⟩ := ow
        refine ⟨.ref a, ea, .inl ⟨rfl, ws, .inl (.inl hw)⟩, F0, H0, F, ρ, τ, d, τ1, r, e1, fun v F1 H1 x1 r1 q1 => ⟨F0, H0, F1, ρ, τ1, d2, τ2, r1, e2, fun u F2 H2 x2 r2 q2 => ?_⟩⟩
        cases d with
        | int m =>
          obtain rfl : m = n := Option.some.inj e3
          cases q1
          obtain ⟨⟨w2, hw2, hr2⟩, nF2, ntp2, nw2⟩ := (ow0.ext x1).ext x2
          have hl := hr2.len
          exact ⟨a, w2, m, u, rfl, rfl, hw2, hn.1, by omega, by omega, kk _ _ _ (x1.ff.tr x2.ff) (r2.writeO q ea ((hr2.take m.toNat).app (.cons q2 (hr2.drop m.toNat))))⟩
        | _ => cases e3
      · cases e4
    | _ => cases e0
theorem rd_app {i : Nat} {e : E} {D : Ends} {σ : St} {H : Hp} (hK : C.K = X.K) (h : RdS P C W (.app i e) D σ H) : tDrop (tBM X.K "list" rAppend (tVar i) (tCons (RdE P C W e) tNil)) D σ H := by
  obtain ⟨F0, H0, F, ρ, τ, o, r, e, k⟩ := h
  rw [evS] at e
  cases q : ρ[i]? with
  | none => rw [q] at e; cases e
  | some s =>
    rw [q] at e
    cases s with
    | ol xs =>
      simp only [Option.bind_eq_some_iff, Prod.exists] at e
      obtain ⟨d, τ1, e1, e2⟩ := e
      split at e2
      · rename_i hl
        cases e2
        obtain ⟨v, ea, a, e', ow⟩ := r.get q
        subst e'
        obtain ⟨⟨ws, hw, hr⟩, nF, ntp, nw⟩ := ow
        refine ⟨.ref a, ea, .inl ⟨rfl, ws, .inl (.inl hw)⟩, F0, H0, F, ρ, τ, d, τ1, r, e1, fun v F1 H1 x1 r1 q1 => ?_⟩
        have := x1.hh a _ hw nF ntp
        have hr1 := RA.sub x1.ff xs hr
        refine ⟨a, ws, v, rfl, rfl, this.1, by rw [hr.len]; exact hl, ?_⟩
        exact k _ _ _ x1.ff (r1.writeO q ea (hr1.snoc q1))
      · cases e2
    | _ => cases e
end
end PD

set_option Elab.async false
set_option linter.all false
set_option maxRecDepth 100000
set_option maxHeartbeats 8000000
/-! What a checked block does, all forms. -/
namespace PD
open PySem L2
section
variable {nm : Nm} {P : Sg} {C : Con} {W : TW} {X : Cx}
theorem rd_setOl {i : Nat} {es : Es} {D : Ends} {σ : St} {H : Hp} (h : RdS P C W (.setO i (.lst es)) D σ H) : tAsg (tLst (RdA P C W es)) (gName i) D σ H := by
  obtain ⟨F0, H0, F, ρ, τ, o, r, e, k⟩ := h
  rw [evS] at e
  simp only [ev, Option.bind_eq_some_iff, Prod.exists] at e
  obtain ⟨d, τ1, ⟨ds, τ2, e1, e2⟩, e3⟩ := e
  split at e2
  · rename_i hl
    cases e2
    cases e3
    exact ⟨F0, H0, F, ρ, τ, ds, _, r, e1, fun vs F1 H1 x1 r1 q1 => ⟨by rw [q1.len]; exact hl, fun q hq => k _ _ _ x1.ff (r1.setO i hq q1)⟩⟩
  · cases e2
theorem rd_setOb {i : Nat} {a b : E} {D : Ends} {σ : St} {H : Hp} (h : RdS P C W (.setO i (.bin .Add a b)) D σ H) : tAsg (tOp rCat (RdE P C W a) (RdE P C W b)) (gName i) D σ H := by
  obtain ⟨F0, H0, F, ρ, τ, o, r, e, k⟩ := h
  rw [evS] at e
  simp only [ev, Option.bind_eq_some_iff, Option.map_eq_some_iff, Prod.exists] at e
  obtain ⟨d, τ1, ⟨d1, τ2, e1, d2, τ3, e2, d3, e4, e5⟩, e3⟩ := e
  cases e5
  cases d with
  | lst xs =>
    cases e3
    obtain ⟨as, bs, rfl, rfl, rfl, hl⟩ := lstD_cat (show addD P.tk d1 d2 = some (.lst xs) from e4)
    refine ⟨F0, H0, F, ρ, τ, _, τ2, r, e1, fun x F1 H1 x1 r1 q1 => ⟨F0, H0, F1, ρ, τ2, _, _, r1, e2, fun y F2 H2 x2 r2 q2 => ?_⟩⟩
    have q1' := R.sub x2.ff _ q1
    cases q1' with
    | @lst p vs _ h1 h2 =>
      cases q2 with
      | @lst q ws _ k1 k2 =>
        exact ⟨p, q, vs, ws, rfl, rfl, r2.sub _ _ h1, r2.sub _ _ k1, by rw [h2.len, k2.len]; exact hl, fun z hz => k _ _ _ (x1.ff.tr x2.ff) (r2.setO i hz (h2.app k2))⟩
  | _ => cases e3
theorem rd_par2 {i j : Nat} {es : Es} {D : Ends} {σ : St} {H : Hp} (h : RdS P C W (.par [i, j] es) D σ H) : tPar i j (RdA P C W es) D σ H := by
  obtain ⟨F0, H0, F, ρ, τ, o, r, e, k⟩ := h
  rw [evS] at e
  simp only [Option.bind_eq_some_iff, Option.map_eq_some_iff, Prod.exists] at e
  obtain ⟨ds, τ1, e1, ρ1, e2, e3⟩ := e
  cases e3
  obtain ⟨a, b, rfl, rfl⟩ := setAll2 e2
  refine ⟨F0, H0, F, ρ, τ, _, τ1, r, e1, fun vs F1 H1 x1 r1 q1 => ?_⟩
  cases q1 with
  | cons q1 q2 =>
    cases q2 with
    | cons q2 q3 =>
      cases q3
      exact ⟨_, _, rfl, k _ _ _ x1.ff ((r1.setD i q1).setD j q2)⟩
theorem rd_par3 {i j l : Nat} {es : Es} {D : Ends} {σ : St} {H : Hp} (h : RdS P C W (.par [i, j, l] es) D σ H) : tPar3 i j l (RdA P C W es) D σ H := by
  obtain ⟨F0, H0, F, ρ, τ, o, r, e, k⟩ := h
  rw [evS] at e
  simp only [Option.bind_eq_some_iff, Option.map_eq_some_iff, Prod.exists] at e
  obtain ⟨ds, τ1, e1, ρ1, e2, e3⟩ := e
  cases e3
  obtain ⟨a, b, c, rfl, rfl⟩ := setAll3 e2
  refine ⟨F0, H0, F, ρ, τ, _, τ1, r, e1, fun vs F1 H1 x1 r1 q1 => ?_⟩
  cases q1 with
  | cons q1 q2 =>
    cases q2 with
    | cons q2 q3 =>
      cases q3 with
      | cons q3 q4 =>
        cases q4
        exact ⟨_, _, _, rfl, k _ _ _ x1.ff (((r1.setD i q1).setD j q2).setD l q3)⟩
theorem set_ok (g : Good nm P C W false X) (hk : X.env.scope.kind = .function) {i : Nat} {e : E} {x : Str} {px sp : Pos} {v : Expr} (h1 : nm.N[i]? = some x) (h2 : locB false X.env.scope x = true) (h3 : swB X.env.scope x px v = some false) (h4 : chkE nm X.env.scope e v = true) :
    PS X (.Assign [.Name x px] v sp) (RdS P C W (.set i e)) := by
  have hl := g.loc h2
  exact ps_imp (ps_set g.nd (by rw [g.hN]; exact h1) hl.1 (e_ok e g v h4) (sw_false hk h3) hl.2) fun D σ H q => rd_set q
theorem setLc_ok (g : Good nm P C W false X) (hk : X.env.scope.kind = .function) {i : Nat} {x : Str} {px sp : Pos} {e : E} {v : Expr} (h1 : nm.N[i]? = some x) (h2 : locB false X.env.scope x = true)
    (h3 : (swB X.env.scope x px v).isSome = true) (h4 : chkE nm X.env.scope e v = true) : PS X (.Assign [.Name x px] v sp) (RdS P C W (.set i e)) := by
  cases hs : swB X.env.scope x px v with
  | none => rw [hs] at h3; cases h3
  | some b =>
    cases b with
    | false => exact set_ok g hk h1 h2 hs h4
    | true =>
      cases v with
      | ListComp y gs scope p =>
        cases e with
        | comp elt tg it c own =>
          simp only [chkE] at h4
          split at h4
          · rename_i x2 t iter ifs scope2 p2 heq
            cases heq
            simp only [swB, Option.some.injEq, Bool.and_eq_true, decide_eq_true_eq, Bool.not_eq_true'] at hs
            simp only [Bool.and_eq_true] at h4
            obtain ⟨⟨⟨⟨⟨⟨a1, a2⟩, a3⟩, a4⟩, a5⟩, a6⟩, a7⟩ := h4
            have hw : ((own.map fun i => (nm.N.getD i "", i)).map (·.2)) = own := by rw [List.map_map]; exact List.map_id' own
            have := ps_setLc (pos := p) (spos := sp) (i := i) (y := x) (py := px) g.calm g.nd (by rw [g.hN]; exact h1) hs.1.1 (sw_true hk hs.1.1 hs.1.2 hs.2) (i_ok it g t iter a4) (blkOk_by (by rw [g.hN]; exact a3)) (fun s H Ca cl fp => tg_ok (g.blk s H scope cl Ca fp) tg t a5) (fun s H Ca cl fp => c_ok (fun y hy => t_ok c (g.blk s H scope cl Ca fp) y hy) ifs a6)
              (fun s H Ca cl fp => e_ok elt (g.blk s H scope cl Ca fp) y a7) (fold_of a1)
            rw [hw] at this
            refine ps_imp this fun D σ H q => ?_
            have q2 := rd_set q
            exact comp_rd (by simpa using a2) q2
          · cases h4
        | op o es => cases o <;> simp [chkE, opArgs] at h4
        | _ => simp [chkE] at h4
      | _ => cases hs
mutual
theorem s_ok (g : Good nm P C W false X) (hk : X.env.scope.kind = .function) : ∀ (s : S) (z : Stmt), chkS nm X.env.scope s z = true → PS X z (RdS P C W s)
  | .nop, z, h => by
    cases z with
    | Pass p =>
      refine ps_imp ps_pass ?_
      rintro D σ H ⟨F0, H0, F, ρ, τ, o, r, e, k⟩
      rw [evS] at e
      cases e
      exact k _ _ _ (Sub.rfl' F) r
    | _ => simp [chkS] at h
  | .exp e, z, h => by
    simp only [chkS] at h
    split at h
    · rename_i x p
      simp only [Bool.and_eq_true] at h
      exact ps_imp (ps_expr (e_ok e g x h.2) (sw_none h.1)) fun D σ H q => rd_exp q
    · cases h
  | .ret e, z, h => by
    simp only [chkS] at h
    split at h
    · exact ps_imp (ps_ret (e_ok e g _ h)) fun D σ H q => rd_ret q
    · cases h
  | .retN, z, h => by
    simp only [chkS] at h
    split at h
    · refine ps_imp ps_retN ?_
      rintro D σ H ⟨F0, H0, F, ρ, τ, o, r, e, k⟩
      rw [evS] at e
      cases e
      exact k _ _ _ r.base r.tape .non
    · cases h
  | .set i e, z, h => by
    simp only [chkS] at h
    split at h
    · simp only [Bool.and_eq_true, decide_eq_true_eq] at h
      exact setLc_ok g hk h.1.1.1 h.1.1.2 h.1.2 h.2
    · cases h
  | .setO i (.lst es), z, h => by
    simp only [chkS] at h
    split at h
    · simp only [Bool.and_eq_true, decide_eq_true_eq] at h
      have hl := g.loc h.1.2
      exact ps_imp (ps_set g.nd (by rw [g.hN]; exact h.1.1) hl.1 (pe_lst (a_ok es g _ h.2)) rfl hl.2) fun D σ H q => rd_setOl q
    · cases h
  | .setO i (.bin .Add a b), z, h => by
    simp only [chkS] at h
    split at h
    · simp only [Bool.and_eq_true, decide_eq_true_eq] at h
      have hl := g.loc h.1.1.2
      exact ps_imp (ps_set g.nd (by rw [g.hN]; exact h.1.1.1) hl.1 (pe_op op_cat (e_ok a g _ h.1.2) (e_ok b g _ h.2)) rfl hl.2) fun D σ H q => rd_setOb q
    · cases h
  | .setO i (.blt .list (.cons a .nil)), z, h => by
    simp only [chkS] at h
    split at h
    · simp only [Bool.and_eq_true, decide_eq_true_eq] at h
      obtain ⟨⟨⟨⟨⟨h1, h2⟩, rfl⟩, h4⟩, h5⟩, h6⟩ := h
      have hl := g.loc h2
      have h8 := star_of (es := []) (env := X.env) h5
      refine ps_imp (ps_set g.nd (by rw [g.hN]; exact h1) hl.1 (pe_callTy (cr_or call_list_of (call_list_sgn g.calm)) (gl_of h4) (g.blt .list) boot_list2 (pa_cons (e_ok a g _ h6) pa_nil h8) (by decide +kernel) (by decide +kernel) h8 rfl) rfl hl.2) ?_
      rintro D σ H ⟨F0, H0, F, ρ, τ, o, r, e, k⟩
      rw [evS] at e
      simp only [ev, evs, Option.bind_eq_some_iff, Option.map_eq_some_iff, Prod.exists] at e
      obtain ⟨d, τ1, ⟨ds, τ2, ⟨d1, τ3, e1, ds1, τ4, e2, e3⟩, d2, e4, e5⟩, e6⟩ := e
      cases e2
      cases e3
      cases e5
      refine ⟨F0, H0, F, ρ, τ, d1, _, r, e1, fun v F1 H1 x1 r1 q1 => ?_⟩
      cases q1 with
      | @tup p vs xs h1 h2 h3 =>
        cases e4
        cases e6
        exact .inl ⟨p, vs, rfl, .inr (by rw [← g.hK]; exact sqT_sub r1.sub h1), fun l hl => k _ _ _ x1.ff (r1.setO i hl h2)⟩
      | @lst p vs xs h1 h2 =>
        cases e4
        cases e6
        exact .inl ⟨p, vs, rfl, .inl (.inl (.inl (r1.sub _ _ h1))), fun l hl => k _ _ _ x1.ff (r1.setO i hl h2)⟩
      | str z =>
        simp only [bD, listD] at e4
        split at e4
        · rename_i hz
          cases e4
          cases e6
          exact .inr ⟨z, rfl, hz, fun l hl => k _ _ _ x1.ff (r1.setO i hl (RA.of_strs _))⟩
        · cases e4
      | _ => cases e4
    · cases h
  | .setO i (.rev a), z, h => by
    simp only [chkS] at h
    split at h
    · simp only [Bool.and_eq_true, decide_eq_true_eq] at h
      have hl := g.loc h.1.2
      refine ps_imp (ps_set g.nd (by rw [g.hN]; exact h.1.1) hl.1 (pe_revL (e_ok a g _ h.2)) rfl hl.2) ?_
      rintro D σ H ⟨F0, H0, F, ρ, τ, o, r, e, k⟩
      rw [evS] at e
      simp only [ev, Option.bind_eq_some_iff, Option.map_eq_some_iff, Prod.exists] at e
      obtain ⟨d, τ1, ⟨d1, τ2, e1, d2, e2, e3⟩, e4⟩ := e
      cases e3
      refine ⟨F0, H0, F, ρ, τ, d1, _, r, e1, fun v F1 H1 x1 r1 q1 => ?_⟩
      cases q1 with
      | @lst q vs ds h1 h2 =>
        cases e2
        cases e4
        exact ⟨q, vs, rfl, .inl (.inl (r1.sub _ _ h1)), fun q' hq => k _ _ _ x1.ff (r1.setO i hq (RA.rev h2))⟩
      | _ => cases e2
    · cases h
  | .lset i k e, z, h => by
    simp only [chkS] at h
    split at h
    · rename_i x p1 y p3 v sp
      simp only [Bool.and_eq_true, decide_eq_true_eq] at h
      obtain ⟨⟨⟨⟨⟨⟨h1, h2⟩, h3⟩, h4⟩, hpl⟩, h5⟩, h6⟩ := h
      have w1 : swapsWithSole [.Subscript (.Name x p1) y p3] v sp.line X.env = pure false := by cases v <;> first | rfl | cases h4
      have w2 : swappedStores [.Subscript (.Name x p1) y p3] v X.env = pure none := by cases v <;> rfl
      exact ps_imp (ps_asg (e_ok e g v h6) (pg_sub (pe_var (i := i) (by rw [g.hN]; exact h1) (vis_of h2) (okN_of h3).1 (okN_of h3).2.1) (e_ok k g y h5) set_list (ha := by intro v; cases y <;> first | rfl | cases hpl)) w1 w2) fun D σ H q => rd_lset q
    · cases h
  | .lpop i k, z, h => by
    simp only [chkS] at h
    split at h
    · rename_i x p n ap y cp sp
      simp only [Bool.and_eq_true, decide_eq_true_eq] at h
      obtain ⟨⟨⟨⟨⟨⟨h1, h2⟩, h3⟩, rfl⟩, h5⟩, h6⟩, h7⟩ := h
      have h8 := star_of (es := []) (env := X.env) h6
      refine ps_imp (ps_expr (pe_bm F.plainAttrs_list F.slot_list_pop F.type_list_pop mt_pop (pe_var (i := i) (by rw [g.hN]; exact h1) (vis_of h2) (okN_of h3).1 (okN_of h3).2.1) (pa_cons (e_ok k g y h7) pa_nil h8) rfl ?_ h5 h8 rfl) rfl) fun D σ H q => rd_lpop q
      unfold backTo
      rw [h8]; rfl
    · cases h
  | .lins i k e, z, h => by
    simp only [chkS] at h
    split at h
    · rename_i x p n ap y y2 cp sp
      simp only [Bool.and_eq_true, decide_eq_true_eq] at h
      obtain ⟨⟨⟨⟨⟨⟨⟨⟨h1, h2⟩, h3⟩, rfl⟩, h5⟩, h6⟩, h6'⟩, h7⟩, h7'⟩ := h
      have h8 := star_of (es := [y2]) (env := X.env) h6
      have h9 := star_of (es := []) (env := X.env) h6'
      refine ps_imp (ps_expr (pe_bm F.plainAttrs_list F.slot_list_insert F.type_list_insert mt_ins (pe_var (i := i) (by rw [g.hN]; exact h1) (vis_of h2) (okN_of h3).1 (okN_of h3).2.1) (pa_cons (e_ok k g y h7) (pa_cons (e_ok e g y2 h7') pa_nil h9) h8) rfl ?_ h5 h8 ?_) rfl) fun D σ H q => rd_lins q
      · unfold backTo
        rw [h8, h9]; rfl
      · unfold backTo
        rw [h9]; rfl
    · cases h
  | .par [i, j] es, z, h => by
    simp only [chkS] at h
    split at h
    · simp only [Bool.and_eq_true, decide_eq_true_eq] at h
      obtain ⟨⟨⟨⟨⟨⟨h1, h2⟩, h3⟩, h4⟩, h5⟩, h6⟩, h7⟩ := h
      exact ps_imp (ps_par g.calm g.nd (by rw [g.hN]; exact h1) (by rw [g.hN]; exact h2) h3 h4 h5 (a_ok es g _ h6) (do_swap hk h7) sw_sole) fun D σ H q => rd_par2 q
    · cases h
  | .par [i, j, l] es, z, h => by
    simp only [chkS] at h
    split at h
    · simp only [Bool.and_eq_true, decide_eq_true_eq] at h
      obtain ⟨⟨⟨⟨⟨⟨⟨⟨h1, h2⟩, h3⟩, h4⟩, h5⟩, h6⟩, h7⟩, h8⟩, h9⟩ := h
      exact ps_imp (ps_par3 g.calm g.nd (by rw [g.hN]; exact h1) (by rw [g.hN]; exact h2) (by rw [g.hN]; exact h3) h4.1 h4.2.1 h4.2.2 h5 h6 h7 (a_ok es g _ h8) (do_swap hk h9) sw_sole) fun D σ H q => rd_par3 q
    · cases h
  | .unp t e, z, h => by
    simp only [chkS] at h
    split at h
    · simp only [Bool.and_eq_true, decide_eq_true_eq] at h
      exact ps_imp (ps_asg (e_ok e g _ h.2) (tg_ok g t _ h.1.2) sw_sole (no_swap hk h.1.1)) fun D σ H q => rd_unp q
    · cases h
  | .ife c a b, z, h => by
    simp only [chkS] at h
    split at h
    · simp only [Bool.and_eq_true] at h
      exact ps_imp (ps_if (t_ok c g _ h.1.1) (b_ok g hk a _ h.1.2) (b_ok g hk b _ h.2)) fun D σ H q => rd_ifS q
    · cases h
  | .whl c b, z, h => by
    simp only [chkS] at h
    split at h
    · simp only [Bool.and_eq_true] at h
      exact ps_imp (ps_while (by rw [g.xe]; exact PassesOwn.never) (t_ok c g _ h.1) (b_ok g hk b _ h.2)) fun D σ H q => rd_whl q
    · cases h
  | .fr tg it b, z, h => by
    simp only [chkS] at h
    split at h
    · simp only [Bool.and_eq_true] at h
      exact ps_imp (ps_for (by rw [g.xe]; exact PassesOwn.never) g.calm (i_ok it g _ _ h.1.1.2) (tg_ok g tg _ h.1.2) (b_ok g hk b _ h.2) (fold_of h.1.1.1)) fun D σ H q => rd_for q
    · cases h
  | .app i e, z, h => by
    simp only [chkS] at h
    split at h
    · rename_i x p n ap y cp sp
      simp only [Bool.and_eq_true, decide_eq_true_eq] at h
      obtain ⟨⟨⟨⟨⟨⟨h1, h2⟩, h3⟩, rfl⟩, h5⟩, h6⟩, h7⟩ := h
      have h8 := star_of (es := []) (env := X.env) h6
      refine ps_imp (ps_expr (pe_bm F.plainAttrs_list F.slot_list_append F.type_list_append mt_append (pe_var (i := i) (by rw [g.hN]; exact h1) (vis_of h2) (okN_of h3).1 (okN_of h3).2.1) (pa_cons (e_ok e g y h7) pa_nil h8) rfl ?_ h5 h8 rfl) rfl) fun D σ H q => rd_app g.hK q
      unfold backTo
      rw [h8]; rfl
    · cases h
  | .tset i k e, z, h => by
    simp only [chkS] at h
    split at h
    · rename_i x p1 j _ p2 p3 v sp
      simp only [Bool.and_eq_true, decide_eq_true_eq] at h
      obtain ⟨⟨⟨⟨⟨⟨h1, h2⟩, h3⟩, rfl⟩, h5⟩, h6⟩, h7⟩ := h
      have w1 : ∀ m, swapsWithSole [.Subscript (.Name x p1) (.Constant (.int (k : Int)) m p2) p3] v sp.line X.env = pure false := by intro m; cases v <;> first | rfl | cases h6
      have w2 : ∀ m, swappedStores [.Subscript (.Name x p1) (.Constant (.int (k : Int)) m p2) p3] v X.env = pure none := by intro m; cases v <;> rfl
      refine ps_imp (ps_asg (e_ok e g v h7) (pg_sub (pe_var (i := i) (by rw [g.hN]; exact h1) (vis_of h2) (okN_of h3).1 (okN_of h3).2.1) pe_int set_list) (w1 _) (w2 _)) fun D σ H q => rd_tset h5 ?_
      obtain ⟨F0, H0, F, ρ, τ, o, r, e1, kk⟩ := q
      rw [evS] at e1
      cases q1 : ρ[i]? with
      | none => rw [q1] at e1; cases e1
      | some s =>
        rw [q1] at e1
        cases s with
        | tape =>
          simp only [Option.bind_eq_some_iff, Option.map_eq_some_iff, Prod.exists] at e1
          obtain ⟨d, τ1, e2, n, e3, e4⟩ := e1
          cases e4
          exact ⟨F0, H0, F, ρ, τ, d, τ1, n, r, q1, e2, e3, fun F' H' s' r' => kk _ _ _ s' r'⟩
        | _ => cases e1
    · cases h
  | .brk, z, h => by
    cases z with
    | Break p =>
      refine ps_imp ps_break ?_
      rintro D σ H ⟨F0, H0, F, ρ, τ, o, r, e, k⟩
      rw [evS] at e
      cases e
      exact k _ _ _ (Sub.rfl' F) r
    | _ => simp [chkS] at h
  | .cnt, z, h => by
    cases z with
    | Continue p =>
      refine ps_imp ps_continue ?_
      rintro D σ H ⟨F0, H0, F, ρ, τ, o, r, e, k⟩
      rw [evS] at e
      cases e
      exact k _ _ _ (Sub.rfl' F) r
    | _ => simp [chkS] at h
  | .stuck, z, h => by
    refine ps_imp ps_never ?_
    rintro D σ H ⟨F0, H0, F, ρ, τ, o, r, e, k⟩
    rw [evS] at e
    cases e
theorem b_ok (g : Good nm P C W false X) (hk : X.env.scope.kind = .function) : ∀ (b : Ss) (l : List Stmt), chkB nm X.env.scope b l = true → PSs X l (RdB P C W b)
  | .nil, l, h => by
    cases l with
    | nil =>
      refine pss_imp pss_nil ?_
      rintro D σ H ⟨F0, H0, F, ρ, τ, o, r, e, k⟩
      rw [evB] at e
      cases e
      exact k _ _ _ (Sub.rfl' F) r
    | cons _ _ => simp [chkB] at h
  | .cons s ss, l, h => by
    cases l with
    | nil => simp [chkB] at h
    | cons z r =>
      simp only [chkB, Bool.and_eq_true] at h
      exact pss_imp (pss_cons (s_ok g hk s z h.1) (b_ok g hk ss r h.2)) fun D σ H q => rd_seq q
  | .frz i ss, l, h => by
    simp only [chkB] at h
    exact pss_imp (b_ok g hk ss l h) fun D σ H q => rd_frz q
end
end
end PD

set_option Elab.async false
set_option linter.all false
set_option maxRecDepth 100000
set_option maxHeartbeats 8000000
/-! Defs: what the text says they do. -/
namespace PD
open PySem L2

abbrev GF := List Int → List D → TS → Option (D × TS)
/-- a def: its name, whether it takes the tape ahead, how many other arguments, what it does -/
structure Cal where
  x : Str
  tp : Bool
  ar : Nat
  G : GF
/-- a generator def: its name, how many arguments, what it hands out -/
structure Gal where
  x : Str
  ar : Nat
  G : List Int → List D → Option (List D)
def mkNmG (N : List Str) (cal : List Cal) (csts : List (Str × D)) (gal : List Gal) : Nm := ⟨N, cal.map fun c => (c.x, c.tp), csts.map (·.1), gal.map (·.x)⟩
abbrev mkNm (N : List Str) (cal : List Cal) (csts : List (Str × D)) : Nm := mkNmG N cal csts []
def mkSgG (tk : Bool) (cal : List Cal) (csts : List (Str × D)) (gal : List Gal) (ns : List Int) : Sg := ⟨ns, tk, csts.map (·.2), fun f => match cal[f]? with
  | some c => c.G ns
  | none => fun _ _ => none, fun f => match gal[f]? with
  | some c => c.G ns
  | none => fun _ => none⟩
abbrev mkSg (tk : Bool) (cal : List Cal) (csts : List (Str × D)) (ns : List Int) : Sg := mkSgG tk cal csts [] ns
/-- the module's names -/
structure Mo (C : Con) (K : PySem.W.Frag) (mg : Str → Option Value) : Prop where
  hK : C.K = K
  blt : ∀ b : B, mg (bN b) = none
  rng : mg "range" = none
  isn : mg "isinstance" = none
  bool : mg "bool" = none
  oth : ∀ x ∈ (["sorted", "set", "enumerate", "zip"] : List Str), mg x = none
def CstOk (C : Con) (mg : Str → Option Value) (p : Str × D) : Prop := ∃ v u, mg p.1 = some u ∧ RelV v u ∧ ∀ F, R C F v p.2
def DefOk (K : PySem.W.Frag) (mg : Str → Option Value) (x : Str) (st : Stmt) (ps : List Str) : Prop := ∃ f fd, L2.Fun K x x st f fd ∧ mg x = some (.ref f) ∧ Binds K fd ps []
/-- a def is known to do what c says, k calls deep -/
def Kn (Pg : Program) (w : World) (K : PySem.W.Frag) (mg : Str → Option Value) (base : Heap) (C : Con) (k : Nat) (c : Cal) : Prop :=
  ∃ fa fd ps, FnOk Pg w K mg base CX0 k fa fd ps (spD C c.tp c.ar c.G) ∧ mg c.x = some (.ref fa) ∧ PySem.W.keepIn K (.ref fa) = true ∧ Binds K fd ps [] ∧ ∀ ns ds τ r, c.G ns ds τ = some r → ds.length = c.ar

/-- a generator def is known -/
def KnG (Pg : Program) (w : World) (K : PySem.W.Frag) (mg : Str → Option Value) (base : Heap) (C : Con) (k : Nat) (c : Gal) : Prop :=
  ∃ fa fd ps, GFn Pg w K mg base k fa fd ps (spG C c.ar c.G) ∧ mg c.x = some (.ref fa) ∧ PySem.W.keepIn K (.ref fa) = true ∧ Binds K fd ps [] ∧ ∀ ns ds r, c.G ns ds = some r → ds.length = c.ar
/-- what a def's own frame sees is good -/
theorem good_of {Pg : Program} {w : World} {K : PySem.W.Frag} {mg : Str → Option Value} {base : Heap} {C : Con} (M : Mo C K mg) {N : List Str} {cal : List Cal} {csts : List (Str × D)} {gal : List Gal} {k : Nat} {X : Cx} {W : TW} (hcalm : X.calm = true) (hN : X.N = N) (nd : X.N.Nodup) (hXK : X.K = K) (xe : X.xe = fun _ _ => False)
    (units : X.A.units + 65 < cLine) (fnc : ∀ x, X.env.scope.names.lookup x = some .cell → X.fn x = true) (hmg : X.mg = mg) (hprog : X.prog = Pg) (hw : X.w = w) (hbase : X.base = base) (hr : Room k X.A)
    (hcst : ∀ p ∈ csts, CstOk C mg p) (hc : ∀ c ∈ cal, Kn Pg w K mg base C k c) (hg : ∀ c ∈ gal, ∃ j, j + 3 ≤ k ∧ KnG Pg w K mg base C j c) : Good (mkNmG N cal csts gal) (mkSgG C.tk cal csts gal W.ns) C W false X := by
  subst hmg hprog hw hbase hXK
  refine ⟨hcalm, hN, nd, M.hK, rfl, rfl, xe, units, fun _ => fnc, M.blt, M.rng, M.isn, M.bool, M.oth, fun i y d' e1 e2 => ?_, fun i y t e1 => ?_, fun i y e1 => ?_⟩
  · simp only [mkNmG, mkSgG, List.getElem?_map, Option.map_eq_some_iff] at e1 e2
    obtain ⟨p, e1, rfl⟩ := e1
    obtain ⟨p', e2, rfl⟩ := e2
    rw [e1] at e2; cases e2
    exact hcst p (List.mem_of_getElem? e1)
  · simp only [mkNmG, List.getElem?_map, Option.map_eq_some_iff, Prod.mk.injEq] at e1
    obtain ⟨c, e1, rfl, rfl⟩ := e1
    obtain ⟨fa, fd', ps', a1, a2, a3, a4, a5⟩ := hc c (List.mem_of_getElem? e1)
    refine ⟨k, fa, fd', ps', c.ar, c.G, ?_, hr, a1, a2, a3, a4, fun ds τ r e => a5 W.ns ds τ r ?_⟩
    · simp only [mkSgG, e1]
    · simpa only [mkSgG, e1] using e
  · simp only [mkNmG, List.getElem?_map, Option.map_eq_some_iff] at e1
    obtain ⟨c, e1, rfl⟩ := e1
    obtain ⟨j, hj, fa, fd', ps', a1, a2, a3, a4, a5⟩ := hg c (List.mem_of_getElem? e1)
    refine ⟨j, fa, fd', ps', c.ar, c.G, ?_, hr.mono hj, a1, a2, a3, a4, fun ds r e => a5 W.ns ds r ?_⟩
    · simp only [mkSgG, e1]
    · simpa only [mkSgG, e1] using e
theorem start_rel {C : Con} {W : TW} {F H : Hp} {N : List Str} {tp : Bool} {us : List V} {ds : List D} {τ : TS} (hl : ((if tp then [V.ref W.tp] else []) ++ us).length ≤ N.length) (ra : RA C F us ds) (sb : Sub F H) (t : TapeAt W F H τ) :
    Rel C W F H F H (start N ((if tp then [V.ref W.tp] else []) ++ us)) (start' N.length tp ds) τ := by
  have ln := ra.len
  have e0 : ((if tp then [Slot.tape] else []) ++ ds.map Slot.d).length = ((if tp then [V.ref W.tp] else []) ++ us).length := by cases tp <;> simp [ln]
  have hs : ∀ (i : Nat) (s : Slot) (v : Option V), (start' N.length tp ds)[i]? = some s → (start N ((if tp then [V.ref W.tp] else []) ++ us))[i]? = some v → SlotR C W H F H v s ∧ s.own = false := by
    intro i s v h1 h2
    unfold start' at h1
    unfold L2.start at h2
    by_cases hi : i < ((if tp then [Slot.tape] else []) ++ ds.map Slot.d).length
    · rw [List.getElem?_append_left hi] at h1
      rw [List.getElem?_append_left (by rw [List.length_map, ← e0]; exact hi)] at h2
      cases tp with
      | false =>
        simp only [Bool.false_eq_true, if_false, List.nil_append, List.getElem?_map, Option.map_eq_some_iff] at h1 h2
        obtain ⟨d, e1, rfl⟩ := h1
        obtain ⟨u, e2, rfl⟩ := h2
        obtain ⟨u', e3, r⟩ := ra.get e1
        rw [e2] at e3; cases e3
        exact ⟨⟨u, rfl, r⟩, rfl⟩
      | true =>
        cases i with
        | zero =>
          simp only [if_true, List.singleton_append, List.getElem?_cons_zero, Option.some.injEq] at h1
          simp only [if_true, List.singleton_append, List.map_cons, List.getElem?_cons_zero, Option.some.injEq] at h2
          subst h1; subst h2
          exact ⟨rfl, rfl⟩
        | succ i =>
          simp only [if_true, List.singleton_append, List.getElem?_cons_succ, List.getElem?_map, Option.map_eq_some_iff] at h1
          simp only [if_true, List.singleton_append, List.map_cons, List.getElem?_cons_succ, List.getElem?_map, Option.map_eq_some_iff] at h2
          obtain ⟨d, e1, rfl⟩ := h1
          obtain ⟨u, e2, rfl⟩ := h2
          obtain ⟨u', e3, r⟩ := ra.get e1
          rw [e2] at e3; cases e3
          exact ⟨⟨u, rfl, r⟩, rfl⟩
    · rw [List.getElem?_append_right (by omega)] at h1
      have e := List.eq_of_mem_replicate (List.mem_of_getElem? h1)
      subst e
      exact ⟨trivial, rfl⟩
  refine ⟨?_, Ext.rfl' sb, fun i s v h1 h2 => (hs i s v h1 h2).1, fun i j s t a h1 _ o1 _ h3 _ => ?_, t⟩
  · unfold L2.start start'
    simp only [List.length_append, List.length_replicate, List.length_map] at e0 hl ⊢
    omega
  · rw [(hs i s _ h1 h3).2] at o1; cases o1

theorem def_ok {Pg : Program} {w : World} {K : PySem.W.Frag} {mg : Str → Option Value} {base : Heap} {C : Con} (M : Mo C K mg) {x : Str} {st : Stmt} {ps N : List Str} {tp : Bool} {ar k : Nat} {body : Ss} {cal : List Cal} {csts : List (Str × D)}
    (D0 : DefOk K mg x st ps) (S : FnScope N ps (defScope st)) (chk : chkB (mkNm N cal csts) (defScope st) body (defBody st) = true) (hl : (if tp then 1 else 0) + ar = ps.length)
    (hcst : ∀ p ∈ csts, CstOk C mg p) (hc : ∀ c ∈ cal, Kn Pg w K mg base C k c) (G : GF) (hG : ∀ ns ds τ r, G ns ds τ = some r → ds.length = ar ∧ runF (mkSg C.tk cal csts ns) N.length tp body ds τ = some r) :
    Kn Pg w K mg base C (k + 1) ⟨x, tp, ar, G⟩ := by
  obtain ⟨f, fd, Fn, hm, hb⟩ := D0
  refine ⟨f, fd, ps, ?_, hm, Fn.kp, hb, fun ns ds τ r e => (hG ns ds τ r e).1⟩
  have hlen : ∀ vs H Q E, spD C tp ar G vs H Q E → vs.length = ps.length := by
    rintro vs H Q E ⟨W, F, us, ds, τ, d, τ', rfl, h1, h2, _⟩
    rw [← hl, List.length_append, h2.len, h1]
    cases tp <;> rfl
  refine Fn.ok S hlen fun cdv A outer s H vs Q E hr hsp => ?_
  have hvl := hlen _ _ _ _ hsp
  obtain ⟨W, F, us, ds, τ, d, τ', rfl, h1, h2, h3, h4, h5, h6⟩ := hsp
  obtain ⟨_, hrun⟩ := hG _ _ _ _ h5
  have g : Good (mkNm N cal csts) (mkSg C.tk cal csts W.ns) C W false (cxOf CX0 Pg w K mg base N x (defScope st) f cdv A outer s H E).nox :=
    good_of M rfl rfl S.nd rfl rfl (by
      have := hr.un
      show (A.deeper _).units + 65 < cLine
      omega) (fun _ _ => rfl) rfl rfl rfl rfl hr hcst hc (by simp)
  have hN : N.length = (mkNm N cal csts).N.length := rfl
  have hpl : ps.length ≤ N.length := by have := congrArg List.length S.pre; rw [List.length_take] at this; omega
  refine ⟨_, b_ok g S.kind body _ chk, F, H, F, start' N.length tp ds, τ, ?_⟩
  unfold runF at hrun
  simp only [Option.bind_eq_some_iff] at hrun
  obtain ⟨o, e1, e2⟩ := hrun
  refine ⟨o, start_rel (by rw [hvl]; exact hpl) h2 h3 h4, e1, ?_⟩
  cases o with
  | nx ρ τ1 =>
    cases e2
    exact fun σ' F' H' s' r' => h6 _ _ _ r'.base r'.tape .non
  | bk ρ τ1 => cases e2
  | ct ρ τ1 => cases e2
  | rt d' τ1 =>
    cases e2
    exact fun v F' H' x' t' r' => h6 _ _ _ x' t' r'
end PD

set_option Elab.async false
set_option linter.all false
set_option maxRecDepth 100000
set_option maxHeartbeats 8000000
/-! The law's own def. -/
namespace PD
open PySem L2
/-- the first statement of a law: tape = [list(script), 0, 0] -/
def chkTape (sc : Scope) (j : Nat) (N : List Str) (z : Stmt) : Bool := match z with
  | .Assign [.Name x _] (.List [.Call (.Name l _) [.Name y _] [] _, .Constant (.int a) _ _, .Constant (.int b) _ _] _) _ =>
    decide (N[0]? = some y) && visB sc y && okN y && decide (l = ("list" : Str)) && glB sc l && decide (N[j]? = some x) && locB false sc x && decide (a = 0) && decide (b = 0)
  | _ => false
def startLaw (n j : Nat) : Env' := (List.replicate n Slot.un).set j .tape
/-- the law answers True at every script -/
def spLaw (K : PySem.W.Frag) : Sp := fun vs H Q _ => ∃ (a : Addr) (ns : List Int), vs = [.ref a] ∧ SqL K H a (ns.map V.int) ∧ ns.length ≤ 63 ∧ ∀ H', Q (.bl true) H'
theorem boot_list' : bootBuiltins (Str.ofString "list") = some (Value.type "list") := by decide +kernel
theorem law_okG {Pg : Program} {w : World} {K : PySem.W.Frag} {mg : Str → Option Value} {base : Heap} {C : Con} (M : Mo C K mg) {x : Str} {st : Stmt} {f : Addr} {fd : FuncData} {N : List Str} {s0 : Str} {k j : Nat} {body : Ss} {cal : List Cal} {csts : List (Str × D)} {gal : List Gal} {z : Stmt} {rest : List Stmt}
    (Fn : L2.Fun K x x st f fd) (S : FnScope N [s0] (defScope st)) (hb : defBody st = z :: rest) (hz : chkTape (defScope st) j N z = true) (chk : chkB (mkNmG N cal csts gal) (defScope st) body rest = true)
    (hcst : ∀ p ∈ csts, CstOk C mg p) (hc : ∀ c ∈ cal, Kn Pg w K mg base C k c) (hg : ∀ c ∈ gal, ∃ j, j + 3 ≤ k ∧ KnG Pg w K mg base C j c)
    (hG : ∀ ns : List Int, ns.length ≤ 63 → ∃ τ, evB (mkSgG C.tk cal csts gal ns) body (startLaw N.length j) ⟨0, 0⟩ = some (.rt (.bl true) τ)) :
    FnOk Pg w K mg base CX0 (k + 1) f fd [s0] (spLaw K) := by
  refine Fn.ok S (fun vs H Q E h => ?_) fun cdv A outer s H vs Q E hr hsp => ?_
  · obtain ⟨a, ns, rfl, _⟩ := h; rfl
  obtain ⟨a, ns, rfl, hS, hlen, q⟩ := hsp
  have g : ∀ W : TW, W.ns = ns → Good (mkNmG N cal csts gal) (mkSgG C.tk cal csts gal ns) C W false (cxOf CX0 Pg w K mg base N x (defScope st) f cdv A outer s H E).nox := by
    intro W hW
    subst hW
    exact good_of M rfl rfl S.nd rfl rfl (by
      have := hr.un
      show (A.deeper _).units + 65 < cLine
      omega) (fun _ _ => rfl) rfl rfl rfl rfl hr hcst hc hg
  rw [hb]
  unfold chkTape at hz
  split at hz
  · rename_i tx p1 l p2 y p3 p4 a0 k1 p5 b0 k2 p6 p7 p8
    simp only [Bool.and_eq_true, decide_eq_true_eq] at hz
    obtain ⟨⟨⟨⟨⟨⟨⟨⟨h1, h2⟩, h3⟩, rfl⟩, h5⟩, h6⟩, h7⟩, rfl⟩, rfl⟩ := hz
    have hl := (g ⟨0, 0, ns⟩ rfl).loc h7
    have hbody : ∀ W : TW, W.ns = ns → PSs (cxOf CX0 Pg w K mg base N x (defScope st) f cdv A outer s H E).nox rest (RdB (mkSgG C.tk cal csts gal ns) C W body) := fun W hW => b_ok (g W hW) S.kind body rest chk
    -- the tape's addresses are not known before the first statement has run: all of them at once
    have hall : PSs (cxOf CX0 Pg w K mg base N x (defScope st) f cdv A outer s H E).nox rest (fun D σ H => ∃ W : TW, W.ns = ns ∧ RdB (mkSgG C.tk cal csts gal ns) C W body D σ H) :=
      ⟨fun pins s σ H D I ⟨W, hW, h⟩ => (hbody W hW).run pins s σ H D I h⟩
    refine ⟨_, pss_cons (ps_set (i := j) S.nd h6 hl.1 (pe_lst (pa_cons (pe_callTy call_list_of (gl_of h5) (M.blt .list) boot_list' (pa_cons (pe_var (i := 0) h1 (vis_of h2) (okN_of h3).1 (okN_of h3).2.1) pa_nil rfl) (by decide +kernel) (by decide +kernel) rfl rfl) (pa_cons pe_int (pa_cons pe_int pa_nil rfl) rfl) rfl)) rfl hl.2) hall, ?_⟩
    -- the script
    refine ⟨_, rfl, a, ns.map V.int, rfl, .inl hS, fun L hL => ?_⟩
    refine ⟨by show 3 ≤ sizeLine; decide, fun tp htp => ?_⟩
    have hne : L ≠ tp := fun e => by rw [e, upd_same] at htp; cases htp
    obtain ⟨τ, hrun⟩ := hG ns hlen
    have hjl : j < N.length := (List.getElem?_eq_some_iff.mp h6).1
    have sb : Sub (upd (fun _ => none) L (.lst (ns.map V.int))) (upd (upd H L (.lst (ns.map V.int))) tp (.lst [.ref L, .int 0, .int 0])) := fun b o e => by
      by_cases z : b = L
      · subst z
        rw [upd_same] at e
        rw [upd_ne hne, upd_same]
        exact e
      · rw [upd_ne z] at e; cases e
    have hlen0 : (L2.start N [V.ref a]).length = N.length := by
      have hpl : ([s0] : List Str).length ≤ N.length := by have := congrArg List.length S.pre; rw [List.length_take] at this; omega
      unfold L2.start
      rw [List.length_append, List.length_map, List.length_replicate]
      simp only [List.length_singleton] at hpl ⊢
      omega
    refine ⟨⟨tp, L, ns⟩, rfl, upd (fun _ => none) L (.lst (ns.map V.int)), _, upd (fun _ => none) L (.lst (ns.map V.int)), startLaw N.length j, ⟨0, 0⟩, .rt (.bl true) τ, ⟨?_, Ext.rfl' sb, fun i s v e1 e2 => ?_, fun i i2 s t b e1 _ o1 _ _ _ => ?_, ⟨?_, upd_same, upd_same⟩⟩, hrun, fun v F' H' x' t' r' => ?_⟩
    · show ((L2.start N [V.ref a]).set j (some (V.ref tp))).length = _
      rw [List.length_set, hlen0]
      unfold startLaw
      rw [List.length_set, List.length_replicate]
    · have e2 : ((L2.start N [V.ref a]).set j (some (V.ref tp)))[i]? = some v := e2
      unfold startLaw at e1
      by_cases z : j = i
      · subst z
        rw [List.getElem?_set_self (by rw [List.length_replicate]; exact hjl)] at e1
        rw [List.getElem?_set_self (by rw [hlen0]; exact hjl)] at e2
        cases e1; cases e2
        rfl
      · rw [List.getElem?_set_ne z] at e1
        have := List.eq_of_mem_replicate (List.mem_of_getElem? e1)
        subst this
        trivial
    · unfold startLaw at e1
      by_cases z : j = i
      · subst z
        rw [List.getElem?_set_self (by rw [List.length_replicate]; exact hjl)] at e1
        cases e1; cases o1
      · rw [List.getElem?_set_ne z] at e1
        have := List.eq_of_mem_replicate (List.mem_of_getElem? e1)
        subst this
        cases o1
    · exact upd_ne hne.symm
    · cases r'
      exact q H'
  · cases hz
theorem law_ok {Pg : Program} {w : World} {K : PySem.W.Frag} {mg : Str → Option Value} {base : Heap} {C : Con} (M : Mo C K mg) {x : Str} {st : Stmt} {f : Addr} {fd : FuncData} {N : List Str} {s0 : Str} {k j : Nat} {body : Ss} {cal : List Cal} {csts : List (Str × D)} {z : Stmt} {rest : List Stmt}
    (Fn : L2.Fun K x x st f fd) (S : FnScope N [s0] (defScope st)) (hb : defBody st = z :: rest) (hz : chkTape (defScope st) j N z = true) (chk : chkB (mkNm N cal csts) (defScope st) body rest = true)
    (hcst : ∀ p ∈ csts, CstOk C mg p) (hc : ∀ c ∈ cal, Kn Pg w K mg base C k c)
    (hG : ∀ ns : List Int, ns.length ≤ 63 → ∃ τ, evB (mkSg C.tk cal csts ns) body (startLaw N.length j) ⟨0, 0⟩ = some (.rt (.bl true) τ)) :
    FnOk Pg w K mg base CX0 (k + 1) f fd [s0] (spLaw K) := law_okG (gal := []) M Fn S hb hz chk hcst hc (by simp) hG
end PD

set_option Elab.async false
set_option linter.all false
set_option maxRecDepth 100000
set_option maxHeartbeats 4000000
/-! Texts by their codes. -/
namespace PD
open PySem L2
theorem beq_arr (a b : List Nat) : (a.toArray == b.toArray) = (a == b) := by
  by_cases h : a = b
  · subst h; simp
  · have : a.toArray ≠ b.toArray := fun e => h (by simpa using e)
    rw [beq_eq_false_iff_ne.mpr h, beq_eq_false_iff_ne.mpr this]
theorem subAt_l (a b : List Nat) (i : Nat) : Builtin.Str.subAt (tx a) (tx b) i = (((a.drop i).take b.length) == b) := by
  unfold Builtin.Str.subAt
  have e : (tx a).cps.extract i (i + (tx b).length) = ((a.drop i).take b.length).toArray := by
    rw [tx_len]
    apply Array.toList_inj.mp
    show (a.toArray.extract i (i + b.length)).toList = _
    rw [Array.toList_extract, List.extract_eq_take_drop]
    simp
  rw [e]
  exact beq_arr _ _
theorem starts_l (a b : List Nat) : Txt.startswith (tx a) (tx b) = (a.take b.length == b) := by
  unfold Txt.startswith
  rw [subAt_l, tx_len, tx_len, List.drop_zero]
  by_cases h : a.take b.length = b
  · have hl : b.length ≤ a.length := by
      have := congrArg List.length h
      rw [List.length_take] at this
      omega
    rw [h]
    simp [hl]
  · rw [beq_eq_false_iff_ne.mpr h, Bool.and_false]
theorem ends_l (a b : List Nat) : Txt.endswith (tx a) (tx b) = (decide (b.length ≤ a.length) && (a.drop (a.length - b.length) == b)) := by
  unfold Txt.endswith
  rw [subAt_l, tx_len, tx_len, Nat.zero_add]
  by_cases h : b.length ≤ a.length
  · rw [List.take_of_length_le (by rw [List.length_drop]; omega)]
  · rw [decide_eq_false h]; rfl
def trimL (s t : List Nat) : List Nat := ((t.dropWhile fun c => decide (c ∈ s)).reverse.dropWhile fun c => decide (c ∈ s)).reverse
theorem drop_tw (p : Nat → Bool) (l : List Nat) : l.drop (l.takeWhile p).length = l.dropWhile p := by
  induction l with
  | nil => rfl
  | cons c r ih =>
    by_cases h : p c
    · rw [List.takeWhile_cons_of_pos h, List.dropWhile_cons_of_pos h, List.length_cons, List.drop_succ_cons, ih]
    · rw [List.takeWhile_cons_of_neg h, List.dropWhile_cons_of_neg h]; rfl
theorem contains_l (s : List Nat) (c : Nat) : (tx s).cps.contains c = decide (c ∈ s) := by
  show s.toArray.contains c = _
  simp
theorem strip_l (a s : List Nat) : (Txt.stripChars (tx a) (tx s)).cps.toList = trimL s a := by
  have hg : (tx s).cps.contains = fun c => decide (c ∈ s) := funext fun c => contains_l s c
  unfold Txt.stripChars trimL
  rw [hg]
  generalize (fun c => decide (c ∈ s)) = p
  have main : (stripped p true true (tx a)).cps.toList = ((a.dropWhile p).reverse.dropWhile p).reverse := by
    unfold stripped stripLo stripHi
    rw [PySem.StrLaws.strSub_toList]
    show ((a.drop (if true = true then (a.takeWhile p).length else 0)).take _) = _
    rw [if_pos rfl, if_pos rfl, drop_tw, tx_len]
    have hl : (a.takeWhile p).length + (a.dropWhile p).length = a.length := by
      rw [← List.length_append, List.takeWhile_append_dropWhile]
    generalize hd : a.dropWhile p = d at *
    have e : d.take (d.length - (d.reverse.takeWhile p).length) = (d.reverse.dropWhile p).reverse := by
      rw [← drop_tw, List.drop_reverse, List.reverse_reverse]
    rw [← e]
    have e2 : (List.takeWhile p (tx a).cps.toList).length = (a.takeWhile p).length := rfl
    rw [e2]
    congr 1
    omega
  unfold Txt.stripBy
  split
  · rename_i h
    rw [show ((a.dropWhile p).reverse.dropWhile p).reverse = a from ?_]
    unfold stripSame at h
    simp only [Bool.and_eq_true, beq_iff_eq] at h
    rw [← main]
    unfold stripped
    rw [h.2, h.1, PySem.StrLaws.strSub_toList]
    show (a.drop 0).take ((tx a).length - 0) = a
    rw [tx_len]
    simp
  · exact main
theorem lower_l {a : List Nat} (h : ∀ c ∈ a, c < 128) : loS a = a.map PyProof.Rows.lo1 := by
  unfold loS
  have := SX.lower_S (a := a) (List.all_eq_true.mpr fun c hc => decide_eq_true (h c hc))
  show (Txt.lower (SX.S a)).cps.toList = _
  rw [this]
theorem cut_from {α : Type} (xs : List α) (n : Nat) : cutL xs (some (n : Int)) none = xs.drop n := by
  unfold cutL
  rw [HT.sIx_nat, HT.sIx_none]
  by_cases h : n ≤ xs.length
  · rw [Nat.min_eq_left h, List.take_of_length_le (by rw [List.length_drop]; omega)]
  · rw [Nat.min_eq_right (by omega), List.drop_eq_nil_of_le (by omega), List.drop_eq_nil_of_le (by omega), List.take_nil]
theorem cut_to {α : Type} (xs : List α) (n : Nat) : cutL xs none (some (n : Int)) = xs.take n := by
  unfold cutL
  rw [HT.sIx_nat, HT.sIx_none, List.drop_zero, Nat.sub_zero]
  by_cases h : n ≤ xs.length
  · rw [Nat.min_eq_left h]
  · rw [Nat.min_eq_right (by omega), List.take_of_length_le (Nat.le_refl _), List.take_of_length_le (by omega)]
theorem sIx_neg (n d k : Nat) (h : 0 < k) : HT.sIx n d (some (-(k : Int))) = n - k := by
  show (if (-(k : Int)) < 0 then ((-(k : Int)) + (n : Int)).toNat else _) = _
  rw [if_pos (by omega)]
  omega
theorem cut_but {α : Type} (xs : List α) (k : Nat) (h : 0 < k) : cutL xs none (some (-(k : Int))) = xs.take (xs.length - k) := by
  unfold cutL
  rw [sIx_neg _ _ _ h, HT.sIx_none, List.drop_zero, Nat.sub_zero]
theorem cut_last {α : Type} (xs : List α) (k : Nat) (h : 0 < k) : cutL xs (some (-(k : Int))) none = xs.drop (xs.length - k) := by
  unfold cutL
  rw [sIx_neg _ _ _ h, HT.sIx_none, List.take_of_length_le (by rw [List.length_drop]; omega)]
theorem atI_last' (xs : List Nat) (h : xs ≠ []) : atI xs (-1) = xs.getLast? := by
  unfold atI ixN
  have hl : 0 < xs.length := List.length_pos_iff.mpr h
  rw [if_neg (by omega), if_pos (by omega), List.getLast?_eq_getElem?]
  show xs[((-1 : Int) + xs.length).toNat]? = _
  congr 1
  omega
theorem join_nil : ∀ ss : List (List Nat), TL.joinL [] ss = ss.flatten
  | [] => rfl
  | [s] => by simp [TL.joinL]
  | s :: t :: r => by
    have := join_nil (t :: r)
    simp only [TL.joinL, List.flatten_cons] at this ⊢
    rw [this]; simp
end PD
namespace PD
open PySem L2
@[simp] theorem atI_zero {α : Type} (c : α) (r : List α) : atI (c :: r) 0 = some c := by simp [atI, ixN]
@[simp] theorem atI_one {α : Type} (c d : α) (r : List α) : atI (c :: d :: r) 1 = some d := by
  have := atI_nat (xs := c :: d :: r) (j := 1) (v := d) rfl
  exact this
@[simp] theorem atI_two {α : Type} (c d e : α) (r : List α) : atI (c :: d :: e :: r) 2 = some e := by
  have := atI_nat (xs := c :: d :: e :: r) (j := 2) (v := e) rfl
  exact this
@[simp] theorem atI_neg {α : Type} (l : List α) (c : α) : atI (l ++ [c]) (-1) = some c := by
  unfold atI ixN
  rw [if_neg (by omega), if_pos (by simp; omega)]
  show (l ++ [c])[((-1 : Int) + ((l ++ [c]).length : Nat)).toNat]? = some c
  rw [show ((-1 : Int) + ((l ++ [c]).length : Nat)).toNat = l.length by simp; omega]
  simp
@[simp] theorem cut_tail {α : Type} (c : α) (r : List α) : cutL (c :: r) (some 1) none = r := by
  have := cut_from (c :: r) 1
  exact this
@[simp] theorem cut_init {α : Type} (l : List α) (c : α) : cutL (l ++ [c]) none (some (-1)) = l := by
  have := cut_but (l ++ [c]) 1 (by omega)
  rw [show (-((1 : Nat) : Int)) = -1 from rfl] at this
  rw [this]; simp
theorem sl1 {n : Nat} (h : n ≤ 4000) : n ≤ sizeLine := by rw [sizeLine_eq]; omega
end PD
namespace PD
open PySem L2
theorem evB_nx {P : Sg} {s : S} {ss : Ss} {ρ ρ1 : Env'} {τ τ1 : TS} (h : evS P s ρ τ = some (.nx ρ1 τ1)) : evB P (.cons s ss) ρ τ = evB P ss ρ1 τ1 := by
  rw [evB, h]; rfl
theorem evB_rt {P : Sg} {s : S} {ss : Ss} {ρ : Env'} {τ τ1 : TS} {d : D} (h : evS P s ρ τ = some (.rt d τ1)) : evB P (.cons s ss) ρ τ = some (.rt d τ1) := by
  rw [evB, h]; rfl
theorem runF_rt {P : Sg} {n : Nat} {tp : Bool} {b : Ss} {ds : List D} {τ τ1 : TS} {d : D} (h : evB P b (start' n tp ds) τ = some (.rt d τ1)) : runF P n tp b ds τ = some (d, τ1) := by
  unfold runF
  rw [h]; rfl
theorem dw_len {α : Type} (p : α → Bool) : ∀ l : List α, (l.dropWhile p).length ≤ l.length
  | [] => Nat.le_refl _
  | c :: r => by
    cases h : p c with
    | true => rw [List.dropWhile_cons_of_pos h]; exact Nat.le_succ_of_le (dw_len p r)
    | false => rw [List.dropWhile_cons_of_neg (by rw [h]; exact Bool.false_ne_true)]; exact Nat.le_refl _
theorem forL_step {f : D → Env' → TS → Option Out} {x : D} {xs : List D} {ρ ρ1 : Env'} {τ τ1 : TS} (h : f x ρ τ = some (.nx ρ1 τ1)) : forL f (x :: xs) ρ τ = forL f xs ρ1 τ1 := by
  rw [forL, h]; rfl
end PD
namespace PD
open PySem L2
@[simp] theorem eqv_str (x y : List Nat) : eqv (.str x) (.str y) = (x == y) := by rw [eqv]
@[simp] theorem eqv_int (x y : Int) : eqv (.int x) (.int y) = (x == y) := by rw [eqv]
@[simp] theorem eqv_bl (x y : Bool) : eqv (.bl x) (.bl y) = (x == y) := by rw [eqv]
@[simp] theorem eqv_non : eqv .non .non = true := by rw [eqv]
@[simp] theorem eqv_tup (x y : List D) : eqv (.tup x) (.tup y) = eqvs x y := by rw [eqv]
@[simp] theorem eqv_lst (x y : List D) : eqv (.lst x) (.lst y) = eqvs x y := by rw [eqv]
@[simp] theorem eqvs_nil : eqvs [] [] = true := by rw [eqvs]
@[simp] theorem eqvs_nc (x : D) (xs : List D) : eqvs [] (x :: xs) = false := by simp [eqvs]
@[simp] theorem eqvs_cn (x : D) (xs : List D) : eqvs (x :: xs) [] = false := by simp [eqvs]
@[simp] theorem eqvs_cc (x y : D) (xs ys : List D) : eqvs (x :: xs) (y :: ys) = (eqv x y && eqvs xs ys) := by rw [eqvs]
@[simp] theorem dep_non : dep .non = 0 := by simp [dep]
@[simp] theorem dep_bl (x : Bool) : dep (.bl x) = 0 := by simp [dep]
@[simp] theorem dep_int (x : Int) : dep (.int x) = 0 := by simp [dep]
@[simp] theorem dep_str (x : List Nat) : dep (.str x) = 0 := by simp [dep]
@[simp] theorem dep_tup (x : List D) : dep (.tup x) = deps x + 1 := by simp [dep]
@[simp] theorem dep_lst (x : List D) : dep (.lst x) = deps x + 1 := by simp [dep]
@[simp] theorem deps_nil : deps [] = 0 := by simp [deps]
@[simp] theorem deps_cons (x : D) (xs : List D) : deps (x :: xs) = max (dep x) (deps xs) := by simp [deps]
@[simp] theorem eqv_in (x : Int) : eqv (.int x) .non = false := by simp [eqv]
@[simp] theorem eqv_sn (x : List Nat) : eqv (.str x) .non = false := by simp [eqv]
@[simp] theorem eqv_si (x : List Nat) (y : Int) : eqv (.str x) (.int y) = false := by simp [eqv]
@[simp] theorem eqv_is (x : List Nat) (y : Int) : eqv (.int y) (.str x) = false := by simp [eqv]
@[simp] theorem eqv_sb (x : List Nat) (y : Bool) : eqv (.str x) (.bl y) = false := by simp [eqv]
@[simp] theorem eqv_bs (x : List Nat) (y : Bool) : eqv (.bl y) (.str x) = false := by simp [eqv]
@[simp] theorem eqv_st (x : List Nat) (y : List D) : eqv (.str x) (.tup y) = false := by simp [eqv]
@[simp] theorem eqv_ts (x : List Nat) (y : List D) : eqv (.tup y) (.str x) = false := by simp [eqv]
@[simp] theorem eqv_sl (x : List Nat) (y : List D) : eqv (.str x) (.lst y) = false := by simp [eqv]
@[simp] theorem eqv_ls (x : List Nat) (y : List D) : eqv (.lst y) (.str x) = false := by simp [eqv]
@[simp] theorem eqv_tl (x y : List D) : eqv (.tup x) (.lst y) = false := by simp [eqv]
@[simp] theorem eqv_lt (x y : List D) : eqv (.lst x) (.tup y) = false := by simp [eqv]
end PD
namespace PD
open PySem L2
def cbody (P : Sg) (elt : E) (tg : T) (c : Tt) (own : List Nat) (ρ : Env') : D → TS → Option (Option D × TS) := fun x τ1 => (bindT tg x (wipeE ρ own)).bind fun ρ1 => (evt P c ρ1 τ1).bind fun q => if q.1 then (ev P elt ρ1 q.2).map fun z => (some z.1, z.2) else some (none, q.2)
theorem ev_comp {P : Sg} {elt : E} {tg : T} {it : I} {c : Tt} {own : List Nat} {ρ : Env'} {τ τ1 τ2 : TS} {xs ys : List D} (h1 : evi P it ρ τ = some (xs, τ1)) (h2 : compL (cbody P elt tg c own ρ) xs τ1 = some (ys, τ2)) (h3 : ys.length ≤ sizeLine) :
    ev P (.comp elt tg it c own) ρ τ = some (.lst ys, τ2) := by
  rw [ev, h1]
  simp only [Option.bind_some]
  unfold cbody at h2
  rw [h2]
  simp only [Option.bind_some]
  rw [if_pos h3]
theorem ev_join {P : Sg} {e : E} {ρ : Env'} {τ τ1 : TS} {ds : List D} {d : D} (h1 : ev P e ρ τ = some (.lst ds, τ1)) (h2 : joinD (.str []) [.lst ds] = some d) : ev P (.mth .join (.str []) (.cons e .nil)) ρ τ = some (d, τ1) := by
  simp only [ev, evs, h1, Option.bind_some, Option.map_some, mD, h2]
theorem evS_ret {P : Sg} {e : E} {ρ : Env'} {τ τ1 : TS} {d : D} (h : ev P e ρ τ = some (d, τ1)) : evS P (.ret e) ρ τ = some (.rt d τ1) := by
  rw [evS, h]; rfl
theorem evS_set {P : Sg} {e : E} {i : Nat} {ρ : Env'} {τ τ1 : TS} {d : D} (h : ev P e ρ τ = some (d, τ1)) : evS P (.set i e) ρ τ = some (.nx (ρ.set i (.d d)) τ1) := by
  rw [evS, h]; rfl
theorem evS_t {P : Sg} {c : Tt} {a b : Ss} {ρ : Env'} {τ τ1 : TS} {o : Out} (h : evt P c ρ τ = some (true, τ1)) (h2 : evB P a ρ τ1 = some o) : evS P (.ife c a b) ρ τ = some o := by
  rw [evS, h]; exact h2
theorem evS_f {P : Sg} {c : Tt} {a b : Ss} {ρ : Env'} {τ τ1 : TS} {o : Out} (h : evt P c ρ τ = some (false, τ1)) (h2 : evB P b ρ τ1 = some o) : evS P (.ife c a b) ρ τ = some o := by
  rw [evS, h]; exact h2
end PD

set_option Elab.async false
set_option linter.all false
set_option maxRecDepth 100000
set_option maxHeartbeats 4000000
/-! What the defs of textcleaners.running do. -/
namespace PD
open PySem L2
def ir_trimmed : Ss := (.cons (.whl (.and (.cmp .NotEq (.var 0) (.str [])) (.one (.cmp .In (.idx (.var 0) (.int 0)) (.var 1)))) (.cons (.set 0 (.sl (.var 0) (.int 1) .nope)) .nil)) (.cons (.whl (.and (.cmp .NotEq (.var 0) (.str [])) (.one (.cmp .In (.idx (.var 0) (.neg (.int 1))) (.var 1)))) (.cons (.set 0 (.sl (.var 0) .nope (.neg (.int 1)))) .nil)) (.cons (.ret (.var 0)) .nil)))
def ir_squeezed : Ss := (.cons (.set 2 (.str [])) (.cons (.fr (.nm 3) (.data (.var 0)) (.cons (.ife (.or (.cmp .NotIn (.var 3) (.var 1)) (.one (.cmp .NotEq (.sl (.var 2) (.neg (.int 1)) .nope) (.var 3)))) (.cons (.set 2 (.bin .Add (.var 2) (.var 3))) .nil) .nil) .nil)) (.cons (.ret (.var 2)) .nil)))
def ir_joined : Ss := (.cons (.unp (.cons (.nm 3) (.cons (.nm 4) .nil)) (.tup (.cons (.str []) (.cons (.bl false) .nil)))) (.cons (.fr (.nm 5) (.data (.var 0)) (.cons (.ife (.cmp .NotIn (.var 5) (.var 1)) (.cons (.set 3 (.bin .Add (.var 3) (.var 5))) .nil) (.cons (.ife (.not (.val (.var 4))) (.cons (.set 3 (.bin .Add (.var 3) (.var 2))) .nil) .nil) .nil)) (.cons (.set 4 (.cmp .In (.var 5) (.var 1))) .nil))) (.cons (.ret (.var 3)) .nil)))
def ir_unfronted : Ss := (.cons (.ife (.not (.val (.mth .starts (.var 0) (.cons (.var 1) .nil)))) (.cons (.ret (.var 0)) .nil) .nil) (.cons (.ret (.ife (.val (.var 2)) (.call 0 (.cons (.sl (.var 0) (.blt .len (.cons (.var 1) .nil)) .nope) (.cons (.var 1) (.cons (.var 2) .nil)))) (.sl (.var 0) (.blt .len (.cons (.var 1) .nil)) .nope))) .nil))
def ir_unbacked : Ss := (.cons (.ife (.not (.val (.mth .ends (.var 0) (.cons (.var 1) .nil)))) (.cons (.ret (.var 0)) .nil) .nil) (.cons (.set 3 (.sl (.var 0) .nope (.bin .Sub (.blt .len (.cons (.var 0) .nil)) (.blt .len (.cons (.var 1) .nil))))) (.cons (.ret (.ife (.val (.var 2)) (.call 0 (.cons (.var 3) (.cons (.var 1) (.cons (.var 2) .nil)))) (.var 3))) .nil)))
def ir_ended : Ss := (.cons (.par [2, 3] (.cons (.idx (.var 1) (.int 0)) (.cons (.idx (.var 1) (.int 1)) .nil))) (.cons (.ife (.cmp .Eq (.var 2) (.str [102, 105, 114, 115, 116])) (.cons (.ret (.sl (.var 0) .nope (.var 3))) .nil) .nil) (.cons (.ife (.cmp .Eq (.var 2) (.str [108, 97, 115, 116])) (.cons (.ret (.sl (.var 0) (.blt .max (.cons (.int 0) (.cons (.bin .Sub (.blt .len (.cons (.var 0) .nil)) (.var 3)) .nil))) .nope)) .nil) .nil) (.cons (.ife (.cmp .In (.var 2) (.tup (.cons (.str [102, 114, 111, 110, 116]) (.cons (.str [102, 114, 111, 110, 116, 115]) .nil)))) (.cons (.ret (.call 0 (.cons (.var 0) (.cons (.var 3) (.cons (.cmp .Eq (.var 2) (.str [102, 114, 111, 110, 116, 115])) .nil))))) .nil) .nil) (.cons (.ret (.call 1 (.cons (.var 0) (.cons (.var 3) (.cons (.cmp .Eq (.var 2) (.str [98, 97, 99, 107, 115])) .nil))))) .nil)))))
def ir_done : Ss := (.cons (.set 2 (.idx (.var 1) (.int 0))) (.cons (.ife (.cmp .Eq (.var 2) (.str [115, 109, 97, 108, 108])) (.cons (.ret (.mth .join (.str []) (.cons (.comp (.ife (.cmp .In (.var 3) (.cst 0)) (.mth .lower (.var 3) .nil) (.var 3)) (.nm 3) (.data (.var 0)) .yes [3]) .nil))) .nil) .nil) (.cons (.ife (.cmp .Eq (.var 2) (.str [109, 97, 112])) (.cons (.ret (.repl 0 1)) .nil) .nil) (.cons (.ife (.cmp .Eq (.var 2) (.str [100, 114, 111, 112])) (.cons (.ret (.mth .join (.str []) (.cons (.comp (.var 3) (.nm 3) (.data (.var 0)) (.cmp .NotIn (.var 3) (.idx (.var 1) (.int 1))) [3]) .nil))) .nil) .nil) (.cons (.ife (.cmp .Eq (.var 2) (.str [116, 114, 105, 109])) (.cons (.ret (.call 0 (.cons (.var 0) (.cons (.idx (.var 1) (.int 1)) .nil)))) .nil) .nil) (.cons (.ife (.cmp .Eq (.var 2) (.str [115, 113, 117, 101, 101, 122, 101])) (.cons (.ret (.call 1 (.cons (.var 0) (.cons (.idx (.var 1) (.int 1)) .nil)))) .nil) .nil) (.cons (.ret (.ife (.cmp .Eq (.var 2) (.str [106, 111, 105, 110])) (.call 2 (.cons (.var 0) (.cons (.idx (.var 1) (.int 1)) (.cons (.idx (.var 1) (.int 2)) .nil)))) (.call 3 (.cons (.var 0) (.cons (.var 1) .nil))))) .nil)))))))
def ir_cleaned : Ss := (.cons (.fr (.nm 2) (.data (.var 1)) (.cons (.set 0 (.call 0 (.cons (.var 0) (.cons (.var 2) .nil)))) .nil)) (.cons (.ret (.var 0)) .nil))
/-! ### trimmed -/
theorem trim_loop1 (P : Sg) (s : List Nat) : ∀ (t : List Nat) (τ : TS), t.length ≤ 4000 →
    evS P (.whl (.and (.cmp .NotEq (.var 0) (.str [])) (.one (.cmp .In (.idx (.var 0) (.int 0)) (.var 1)))) (.cons (.set 0 (.sl (.var 0) (.int 1) .nope)) .nil)) [.d (.str t), .d (.str s)] τ = some (.nx [.d (.str (t.dropWhile fun c => decide (c ∈ s))), .d (.str s)] τ)
  | [], τ, h => by
    rw [evS]; refine whL_stop ?_
    simp [evB, evS, ev, evs, evt, evp, evi, binD, cmpD, bD, mD, neD, eqD, truD, ixD, inD, inB, slD, lenD, intD, maxD, minD, addD, subD, negD, joinD, joinS, txsO, lowerD, upperD, startsD, endsD, stripD, with1, ordD, mulD, modD, fdivD, powD, intO, Out.then, bindT, setAll, itemsD, rangeD, runF, start', mkSg, mkSgG, opD, small62, wipeE, compL, forL, List.replicate, tyIs]
  | c :: r, τ, h => by
    have hs := sl1 h
    simp only [List.length_cons] at hs
    by_cases hc : c ∈ s
    · have ih := trim_loop1 P s r τ (by simp at h; omega)
      rw [List.dropWhile_cons_of_pos (by simpa using hc)]
      rw [evS] at ih ⊢; refine whL_go (ρ1 := [.d (.str r), .d (.str s)]) (τ1 := τ) (τ2 := τ) ?_ ?_ ih
      · simp [evB, evS, ev, evs, evt, evp, evi, binD, cmpD, bD, mD, neD, eqD, truD, ixD, inD, inB, slD, lenD, intD, maxD, minD, addD, subD, negD, joinD, joinS, txsO, lowerD, upperD, startsD, endsD, stripD, with1, ordD, mulD, modD, fdivD, powD, intO, Out.then, bindT, setAll, itemsD, rangeD, runF, start', mkSg, mkSgG, opD, small62, wipeE, compL, forL, List.replicate, tyIs, hs, hc]
      · simp [evB, evS, ev, evs, evt, evp, evi, binD, cmpD, bD, mD, neD, eqD, truD, ixD, inD, inB, slD, lenD, intD, maxD, minD, addD, subD, negD, joinD, joinS, txsO, lowerD, upperD, startsD, endsD, stripD, with1, ordD, mulD, modD, fdivD, powD, intO, Out.then, bindT, setAll, itemsD, rangeD, runF, start', mkSg, mkSgG, opD, small62, wipeE, compL, forL, List.replicate, tyIs, hs]
    · rw [List.dropWhile_cons_of_neg (by simpa using hc)]
      rw [evS]; refine whL_stop ?_
      simp [evB, evS, ev, evs, evt, evp, evi, binD, cmpD, bD, mD, neD, eqD, truD, ixD, inD, inB, slD, lenD, intD, maxD, minD, addD, subD, negD, joinD, joinS, txsO, lowerD, upperD, startsD, endsD, stripD, with1, ordD, mulD, modD, fdivD, powD, intO, Out.then, bindT, setAll, itemsD, rangeD, runF, start', mkSg, mkSgG, opD, small62, wipeE, compL, forL, List.replicate, tyIs, hs, hc]
theorem trim_loop2 (P : Sg) (s : List Nat) : ∀ (n : Nat) (t : List Nat) (τ : TS), t.length = n → t.length ≤ 4000 →
    evS P (.whl (.and (.cmp .NotEq (.var 0) (.str [])) (.one (.cmp .In (.idx (.var 0) (.neg (.int 1))) (.var 1)))) (.cons (.set 0 (.sl (.var 0) .nope (.neg (.int 1)))) .nil)) [.d (.str t), .d (.str s)] τ = some (.nx [.d (.str ((t.reverse.dropWhile fun c => decide (c ∈ s)).reverse)), .d (.str s)] τ)
  | 0, t, τ, e, h => by
    obtain rfl := List.length_eq_zero_iff.mp e
    rw [evS]; refine whL_stop ?_
    simp [evB, evS, ev, evs, evt, evp, evi, binD, cmpD, bD, mD, neD, eqD, truD, ixD, inD, inB, slD, lenD, intD, maxD, minD, addD, subD, negD, joinD, joinS, txsO, lowerD, upperD, startsD, endsD, stripD, with1, ordD, mulD, modD, fdivD, powD, intO, Out.then, bindT, setAll, itemsD, rangeD, runF, start', mkSg, mkSgG, opD, small62, wipeE, compL, forL, List.replicate, tyIs]
  | n + 1, t, τ, e, h => by
    obtain ⟨l, c, rfl⟩ : ∃ l c, t = l ++ [c] := ⟨t.dropLast, t.getLast (by intro z; subst z; cases e), (List.dropLast_concat_getLast _).symm⟩
    have hs := sl1 h
    simp only [List.length_append, List.length_cons, List.length_nil, Nat.zero_add] at hs e h
    rw [List.reverse_append, List.reverse_singleton, List.singleton_append]
    by_cases hc : c ∈ s
    · have ih := trim_loop2 P s n l τ (by omega) (by omega)
      rw [List.dropWhile_cons_of_pos (by simpa using hc)]
      rw [evS] at ih ⊢; refine whL_go (ρ1 := [.d (.str l), .d (.str s)]) (τ1 := τ) (τ2 := τ) ?_ ?_ ih
      · simp [evB, evS, ev, evs, evt, evp, evi, binD, cmpD, bD, mD, neD, eqD, truD, ixD, inD, inB, slD, lenD, intD, maxD, minD, addD, subD, negD, joinD, joinS, txsO, lowerD, upperD, startsD, endsD, stripD, with1, ordD, mulD, modD, fdivD, powD, intO, Out.then, bindT, setAll, itemsD, rangeD, runF, start', mkSg, mkSgG, opD, small62, wipeE, compL, forL, List.replicate, tyIs, hs, hc]
      · simp [evB, evS, ev, evs, evt, evp, evi, binD, cmpD, bD, mD, neD, eqD, truD, ixD, inD, inB, slD, lenD, intD, maxD, minD, addD, subD, negD, joinD, joinS, txsO, lowerD, upperD, startsD, endsD, stripD, with1, ordD, mulD, modD, fdivD, powD, intO, Out.then, bindT, setAll, itemsD, rangeD, runF, start', mkSg, mkSgG, opD, small62, wipeE, compL, forL, List.replicate, tyIs, hs]
    · rw [List.dropWhile_cons_of_neg (by simpa using hc), List.reverse_cons, List.reverse_reverse]
      rw [evS]; refine whL_stop ?_
      simp [evB, evS, ev, evs, evt, evp, evi, binD, cmpD, bD, mD, neD, eqD, truD, ixD, inD, inB, slD, lenD, intD, maxD, minD, addD, subD, negD, joinD, joinS, txsO, lowerD, upperD, startsD, endsD, stripD, with1, ordD, mulD, modD, fdivD, powD, intO, Out.then, bindT, setAll, itemsD, rangeD, runF, start', mkSg, mkSgG, opD, small62, wipeE, compL, forL, List.replicate, tyIs, hs, hc]
theorem run_trimmed (P : Sg) (t s : List Nat) (τ : TS) (h : t.length ≤ 4000) : runF P 2 false ir_trimmed [.str t, .str s] τ = some (.str (trimL s t), τ) := by
  refine runF_rt ?_
  show evB P ir_trimmed [.d (.str t), .d (.str s)] τ = _
  unfold ir_trimmed
  rw [evB_nx (trim_loop1 P s t τ h), evB_nx (trim_loop2 P s _ _ τ rfl (Nat.le_trans (dw_len _ _) h))]
  simp [evB, evS, ev, evs, evt, evp, evi, binD, cmpD, bD, mD, neD, eqD, truD, ixD, inD, inB, slD, lenD, intD, maxD, minD, addD, subD, negD, joinD, joinS, txsO, lowerD, upperD, startsD, endsD, stripD, with1, ordD, mulD, modD, fdivD, powD, intO, Out.then, bindT, setAll, itemsD, rangeD, runF, start', mkSg, mkSgG, opD, small62, wipeE, compL, forL, List.replicate, tyIs, trimL]
end PD

set_option Elab.async false
set_option linter.all false
set_option maxRecDepth 100000
set_option maxHeartbeats 4000000
/-! What the defs of textcleaners.running do: squeezed, joined, unfronted, unbacked. -/
namespace PD
open PySem L2
/-! ### squeezed -/
def sqL (s : List Nat) : Option Nat → List Nat → List Nat
  | _, [] => []
  | p, c :: r => if c ∈ s ∧ p = some c then sqL s (some c) r else c :: sqL s (some c) r
theorem cut_lst (l : List Nat) : cutL l (some (-1)) none = l.getLast?.toList := by
  have := cut_last l 1 (by omega)
  rw [show (-((1 : Nat) : Int)) = -1 from rfl] at this
  rw [this]
  rcases List.eq_nil_or_concat l with h | ⟨m, c, h⟩
  · subst h; rfl
  · subst h; simp
theorem lst_beq (o : Option Nat) (c : Nat) : (o.toList == [c]) = decide (o = some c) := by
  cases o with
  | none => rfl
  | some d =>
    show ([d] == [c]) = _
    by_cases h : d = c
    · subst h; simp
    · simp [h]
theorem sq_loop (P : Sg) (t s : List Nat) (τ : TS) : ∀ (r f : List Nat) (g : Slot), f.length + r.length ≤ 4000 →
    ∃ g', forL (fun x ρ1 τ1 => (bindT (.nm 3) x ρ1).bind fun ρ2 => evB P (.cons (.ife (.or (.cmp .NotIn (.var 3) (.var 1)) (.one (.cmp .NotEq (.sl (.var 2) (.neg (.int 1)) .nope) (.var 3)))) (.cons (.set 2 (.bin .Add (.var 2) (.var 3))) .nil) .nil) .nil) ρ2 τ1) (r.map fun c => .str [c]) [.d (.str t), .d (.str s), .d (.str f), g] τ
      = some (.nx [.d (.str t), .d (.str s), .d (.str (f ++ sqL s f.getLast? r)), g'] τ)
  | [], f, g, h => ⟨g, by simp [forL, sqL]⟩
  | c :: r, f, g, h => by
    simp only [List.length_cons] at h
    have h1 := sl1 (show f.length ≤ 4000 by omega)
    have h2 := sl1 (show f.length + 1 ≤ 4000 by omega)
    by_cases hc : c ∈ s ∧ f.getLast? = some c
    · obtain ⟨g', e⟩ := sq_loop P t s τ r f (.d (.str [c])) (by omega)
      refine ⟨g', ?_⟩
      rw [List.map_cons, forL_step (ρ1 := [.d (.str t), .d (.str s), .d (.str f), .d (.str [c])]) (τ1 := τ) ?_, e]
      · rw [sqL, if_pos hc, hc.2]
      · simp [evB, evS, ev, evs, evt, evp, evi, binD, cmpD, bD, mD, neD, eqD, truD, ixD, inD, inB, slD, lenD, intD, maxD, minD, addD, subD, negD, joinD, joinS, txsO, lowerD, upperD, startsD, endsD, stripD, with1, ordD, mulD, modD, fdivD, powD, intO, Out.then, bindT, setAll, itemsD, rangeD, runF, start', mkSg, mkSgG, opD, small62, wipeE, compL, forL, List.replicate, tyIs, h1, hc.1, cut_lst, lst_beq, hc.2]
    · obtain ⟨g', e⟩ := sq_loop P t s τ r (f ++ [c]) (.d (.str [c])) (by simp; omega)
      refine ⟨g', ?_⟩
      rw [List.map_cons, forL_step (ρ1 := [.d (.str t), .d (.str s), .d (.str (f ++ [c])), .d (.str [c])]) (τ1 := τ) ?_, e]
      · rw [sqL, if_neg hc]; simp
      · by_cases h3 : c ∈ s
        · have h4 : f.getLast? ≠ some c := fun z => hc ⟨h3, z⟩
          simp [evB, evS, ev, evs, evt, evp, evi, binD, cmpD, bD, mD, neD, eqD, truD, ixD, inD, inB, slD, lenD, intD, maxD, minD, addD, subD, negD, joinD, joinS, txsO, lowerD, upperD, startsD, endsD, stripD, with1, ordD, mulD, modD, fdivD, powD, intO, Out.then, bindT, setAll, itemsD, rangeD, runF, start', mkSg, mkSgG, opD, small62, wipeE, compL, forL, List.replicate, tyIs, h1, h2, h3, cut_lst, lst_beq, h4]
        · simp [evB, evS, ev, evs, evt, evp, evi, binD, cmpD, bD, mD, neD, eqD, truD, ixD, inD, inB, slD, lenD, intD, maxD, minD, addD, subD, negD, joinD, joinS, txsO, lowerD, upperD, startsD, endsD, stripD, with1, ordD, mulD, modD, fdivD, powD, intO, Out.then, bindT, setAll, itemsD, rangeD, runF, start', mkSg, mkSgG, opD, small62, wipeE, compL, forL, List.replicate, tyIs, h1, h2, h3]
theorem run_squeezed (P : Sg) (t s : List Nat) (τ : TS) (h : t.length ≤ 4000) : runF P 4 false ir_squeezed [.str t, .str s] τ = some (.str (sqL s none t), τ) := by
  refine runF_rt ?_
  show evB P ir_squeezed [.d (.str t), .d (.str s), .un, .un] τ = _
  unfold ir_squeezed
  obtain ⟨g', e⟩ := sq_loop P t s τ t [] .un (by simpa using h)
  rw [evB_nx (ρ1 := [.d (.str t), .d (.str s), .d (.str []), .un]) (τ1 := τ) (by simp [evB, evS, ev, evs, evt, evp, evi, binD, cmpD, bD, mD, neD, eqD, truD, ixD, inD, inB, slD, lenD, intD, maxD, minD, addD, subD, negD, joinD, joinS, txsO, lowerD, upperD, startsD, endsD, stripD, with1, ordD, mulD, modD, fdivD, powD, intO, Out.then, bindT, setAll, itemsD, rangeD, runF, start', mkSg, mkSgG, opD, small62, wipeE, compL, forL, List.replicate, tyIs])]
  rw [evB_nx (ρ1 := [.d (.str t), .d (.str s), .d (.str ([] ++ sqL s ([] : List Nat).getLast? t)), g']) (τ1 := τ) (by rw [evS]; simp only [evi, ev, List.getElem?_cons_zero, Option.bind_some, itemsD, Option.map_some]; exact e)]
  simp [evB, evS, ev, evs, evt, evp, evi, binD, cmpD, bD, mD, neD, eqD, truD, ixD, inD, inB, slD, lenD, intD, maxD, minD, addD, subD, negD, joinD, joinS, txsO, lowerD, upperD, startsD, endsD, stripD, with1, ordD, mulD, modD, fdivD, powD, intO, Out.then, bindT, setAll, itemsD, rangeD, runF, start', mkSg, mkSgG, opD, small62, wipeE, compL, forL, List.replicate, tyIs]
/-! ### joined -/
def joL (s o : List Nat) : Bool → List Nat → List Nat
  | _, [] => []
  | b, c :: r => if c ∈ s then (if b then joL s o true r else o ++ joL s o true r) else c :: joL s o false r
theorem jo_loop (P : Sg) (t s o : List Nat) (ho : o.length ≤ 1) (τ : TS) : ∀ (r f : List Nat) (b : Bool) (g : Slot), f.length + r.length ≤ 4000 →
    ∃ b' g', forL (fun x ρ1 τ1 => (bindT (.nm 5) x ρ1).bind fun ρ2 => evB P (.cons (.ife (.cmp .NotIn (.var 5) (.var 1)) (.cons (.set 3 (.bin .Add (.var 3) (.var 5))) .nil) (.cons (.ife (.not (.val (.var 4))) (.cons (.set 3 (.bin .Add (.var 3) (.var 2))) .nil) .nil) .nil)) (.cons (.set 4 (.cmp .In (.var 5) (.var 1))) .nil)) ρ2 τ1) (r.map fun c => .str [c]) [.d (.str t), .d (.str s), .d (.str o), .d (.str f), .d (.bl b), g] τ
      = some (.nx [.d (.str t), .d (.str s), .d (.str o), .d (.str (f ++ joL s o b r)), .d (.bl b'), g'] τ)
  | [], f, b, g, h => ⟨b, g, by simp [forL, joL]⟩
  | c :: r, f, b, g, h => by
    simp only [List.length_cons] at h
    have h1 := sl1 (show f.length ≤ 4000 by omega)
    have h2 := sl1 (show f.length + 1 ≤ 4000 by omega)
    have h3 := sl1 (show f.length + o.length ≤ 4000 by omega)
    by_cases hc : c ∈ s
    · cases b with
      | true =>
        obtain ⟨b', g', e⟩ := jo_loop P t s o ho τ r f true (.d (.str [c])) (by omega)
        refine ⟨b', g', ?_⟩
        rw [List.map_cons, forL_step (ρ1 := [.d (.str t), .d (.str s), .d (.str o), .d (.str f), .d (.bl true), .d (.str [c])]) (τ1 := τ) ?_, e]
        · rw [joL, if_pos hc]; rfl
        · simp [evB, evS, ev, evs, evt, evp, evi, binD, cmpD, bD, mD, neD, eqD, truD, ixD, inD, inB, slD, lenD, intD, maxD, minD, addD, subD, negD, joinD, joinS, txsO, lowerD, upperD, startsD, endsD, stripD, with1, ordD, mulD, modD, fdivD, powD, intO, Out.then, bindT, setAll, itemsD, rangeD, runF, start', mkSg, mkSgG, opD, small62, wipeE, compL, forL, List.replicate, tyIs, h1, hc]
      | false =>
        obtain ⟨b', g', e⟩ := jo_loop P t s o ho τ r (f ++ o) true (.d (.str [c])) (by simp; omega)
        refine ⟨b', g', ?_⟩
        rw [List.map_cons, forL_step (ρ1 := [.d (.str t), .d (.str s), .d (.str o), .d (.str (f ++ o)), .d (.bl true), .d (.str [c])]) (τ1 := τ) ?_, e]
        · rw [joL, if_pos hc]; simp
        · simp [evB, evS, ev, evs, evt, evp, evi, binD, cmpD, bD, mD, neD, eqD, truD, ixD, inD, inB, slD, lenD, intD, maxD, minD, addD, subD, negD, joinD, joinS, txsO, lowerD, upperD, startsD, endsD, stripD, with1, ordD, mulD, modD, fdivD, powD, intO, Out.then, bindT, setAll, itemsD, rangeD, runF, start', mkSg, mkSgG, opD, small62, wipeE, compL, forL, List.replicate, tyIs, h1, h3, hc]
    · obtain ⟨b', g', e⟩ := jo_loop P t s o ho τ r (f ++ [c]) false (.d (.str [c])) (by simp; omega)
      refine ⟨b', g', ?_⟩
      rw [List.map_cons, forL_step (ρ1 := [.d (.str t), .d (.str s), .d (.str o), .d (.str (f ++ [c])), .d (.bl false), .d (.str [c])]) (τ1 := τ) ?_, e]
      · rw [joL, if_neg hc]; simp
      · simp [evB, evS, ev, evs, evt, evp, evi, binD, cmpD, bD, mD, neD, eqD, truD, ixD, inD, inB, slD, lenD, intD, maxD, minD, addD, subD, negD, joinD, joinS, txsO, lowerD, upperD, startsD, endsD, stripD, with1, ordD, mulD, modD, fdivD, powD, intO, Out.then, bindT, setAll, itemsD, rangeD, runF, start', mkSg, mkSgG, opD, small62, wipeE, compL, forL, List.replicate, tyIs, h1, h2, hc]
theorem run_joined (P : Sg) (hk : P.tk = true) (t s o : List Nat) (ho : o.length ≤ 1) (τ : TS) (h : t.length ≤ 4000) : runF P 6 false ir_joined [.str t, .str s, .str o] τ = some (.str (joL s o false t), τ) := by
  refine runF_rt ?_
  show evB P ir_joined [.d (.str t), .d (.str s), .d (.str o), .un, .un, .un] τ = _
  unfold ir_joined
  obtain ⟨b', g', e⟩ := jo_loop P t s o ho τ t [] false .un (by simpa using h)
  rw [evB_nx (ρ1 := [.d (.str t), .d (.str s), .d (.str o), .d (.str []), .d (.bl false), .un]) (τ1 := τ) (by simp [evB, evS, ev, evs, evt, evp, evi, binD, cmpD, bD, mD, neD, eqD, truD, ixD, inD, inB, slD, lenD, intD, maxD, minD, addD, subD, negD, joinD, joinS, txsO, lowerD, upperD, startsD, endsD, stripD, with1, ordD, mulD, modD, fdivD, powD, intO, Out.then, bindT, setAll, itemsD, rangeD, runF, start', mkSg, mkSgG, opD, small62, wipeE, compL, forL, List.replicate, tyIs, okT, isMap, hk, sl1])]
  rw [evB_nx (ρ1 := [.d (.str t), .d (.str s), .d (.str o), .d (.str ([] ++ joL s o false t)), .d (.bl b'), g']) (τ1 := τ) (by rw [evS]; simp only [evi, ev, List.getElem?_cons_zero, Option.bind_some, itemsD, Option.map_some]; exact e)]
  simp [evB, evS, ev, evs, evt, evp, evi, binD, cmpD, bD, mD, neD, eqD, truD, ixD, inD, inB, slD, lenD, intD, maxD, minD, addD, subD, negD, joinD, joinS, txsO, lowerD, upperD, startsD, endsD, stripD, with1, ordD, mulD, modD, fdivD, powD, intO, Out.then, bindT, setAll, itemsD, rangeD, runF, start', mkSg, mkSgG, opD, small62, wipeE, compL, forL, List.replicate, tyIs]
/-! ### unfronted, unbacked -/
def frS (w : List Nat) : Nat → List Nat → List Nat
  | 0, t => t
  | n + 1, t => if t.take w.length = w then frS w n (t.drop w.length) else t
def frF (w : List Nat) (b : Bool) (t : List Nat) : List Nat := if b then frS w t.length t else if t.take w.length = w then t.drop w.length else t
theorem frS_more (w : List Nat) (hw : w ≠ []) : ∀ (n m : Nat) (t : List Nat), t.length ≤ n → t.length ≤ m → frS w n t = frS w m t := by
  intro n
  have hl : 0 < w.length := List.length_pos_iff.mpr hw
  induction n with
  | zero =>
    intro m t h1 h2
    obtain rfl := List.length_eq_zero_iff.mp (Nat.le_zero.mp h1)
    cases m with
    | zero => rfl
    | succ m => rw [frS, frS, if_neg (by simp; exact fun z => hw z)]
  | succ n ih =>
    intro m t h1 h2
    cases m with
    | zero =>
      obtain rfl := List.length_eq_zero_iff.mp (Nat.le_zero.mp h2)
      rw [frS, frS, if_neg (by simp; exact fun z => hw z)]
    | succ m =>
      rw [frS, frS]
      split
      · rename_i h
        have : t.length ≠ 0 := fun z => by
          obtain rfl := List.length_eq_zero_iff.mp z
          simp at h; exact hw h
        exact ih m _ (by rw [List.length_drop]; omega) (by rw [List.length_drop]; omega)
      · rfl
theorem frF_step (w : List Nat) (hw : w ≠ []) (t : List Nat) (h : t.take w.length = w) : frF w true t = frF w true (t.drop w.length) := by
  unfold frF
  rw [if_pos rfl, if_pos rfl]
  have hl : 0 < w.length := List.length_pos_iff.mpr hw
  have : t.length ≠ 0 := fun z => by
    obtain rfl := List.length_eq_zero_iff.mp z
    simp at h; exact hw h
  obtain ⟨n, hn⟩ := Nat.exists_eq_succ_of_ne_zero this
  rw [hn, frS, if_pos h]
  exact frS_more w hw _ _ _ (by rw [List.length_drop]; omega) (Nat.le_refl _)
theorem frF_stop (w : List Nat) (b : Bool) (t : List Nat) (h : ¬ t.take w.length = w) : frF w b t = t := by
  unfold frF
  cases b with
  | false => rw [if_neg Bool.false_ne_true, if_neg h]
  | true =>
    rw [if_pos rfl]
    cases hn : t.length with
    | zero => rfl
    | succ n => rw [frS, if_neg h]
def GUnfr (n : Nat) : GF := fun _ ds τ => match ds with
  | [.str t, .str w, .bl b] => if w ≠ [] ∧ t.length < n ∧ t.length ≤ 4000 ∧ w.length ≤ 4000 then some (.str (frF w b t), τ) else none
  | _ => none
theorem run_unfronted (n : Nat) (ns : List Int) (tk : Bool) (ds : List D) (τ : TS) (r : D × TS) (h : GUnfr (n + 1) ns ds τ = some r) :
    ds.length = 3 ∧ runF (mkSg tk [⟨"unfronted", false, 3, GUnfr n⟩] [] ns) 3 false ir_unfronted ds τ = some r := by
  unfold GUnfr at h
  split at h
  · rename_i t w b
    split at h
    · rename_i hd
      obtain ⟨hw, h1, h2, h3⟩ := hd
      have hl : 0 < w.length := List.length_pos_iff.mpr hw
      have e1 := sl1 h2
      have e2 := sl1 h3
      cases h
      refine ⟨rfl, runF_rt ?_⟩
      show evB _ ir_unfronted [.d (.str t), .d (.str w), .d (.bl b)] τ = _
      unfold ir_unfronted
      by_cases hp : t.take w.length = w
      · have ht : t.length ≠ 0 := fun z => by
          obtain rfl := List.length_eq_zero_iff.mp z
          simp at hp; exact hw hp
        rw [evB_nx (ρ1 := [.d (.str t), .d (.str w), .d (.bl b)]) (τ1 := τ) (by simp [evB, evS, ev, evs, evt, evp, evi, binD, cmpD, bD, mD, neD, eqD, truD, ixD, inD, inB, slD, lenD, intD, maxD, minD, addD, subD, negD, joinD, joinS, txsO, lowerD, upperD, startsD, endsD, stripD, with1, ordD, mulD, modD, fdivD, powD, intO, Out.then, bindT, setAll, itemsD, rangeD, runF, start', mkSg, mkSgG, opD, small62, wipeE, compL, forL, List.replicate, tyIs, starts_l, hp])]
        cases b with
        | true =>
          rw [frF_step w hw t hp]
          have e3 : t.length - w.length < n := by omega
          have e4 : t.length - w.length ≤ 4000 := by omega
          simp [evB, evS, ev, evs, evt, evp, evi, binD, cmpD, bD, mD, neD, eqD, truD, ixD, inD, inB, slD, lenD, intD, maxD, minD, addD, subD, negD, joinD, joinS, txsO, lowerD, upperD, startsD, endsD, stripD, with1, ordD, mulD, modD, fdivD, powD, intO, Out.then, bindT, setAll, itemsD, rangeD, runF, start', mkSg, mkSgG, opD, small62, wipeE, compL, forL, List.replicate, tyIs, e1, e2, cut_from, GUnfr, hw, e3, e4, h3]
        | false => simp [evB, evS, ev, evs, evt, evp, evi, binD, cmpD, bD, mD, neD, eqD, truD, ixD, inD, inB, slD, lenD, intD, maxD, minD, addD, subD, negD, joinD, joinS, txsO, lowerD, upperD, startsD, endsD, stripD, with1, ordD, mulD, modD, fdivD, powD, intO, Out.then, bindT, setAll, itemsD, rangeD, runF, start', mkSg, mkSgG, opD, small62, wipeE, compL, forL, List.replicate, tyIs, e1, e2, cut_from, frF, hp]
      · rw [frF_stop w b t hp]
        rw [evB_rt (d := .str t) (τ1 := τ) (by simp [evB, evS, ev, evs, evt, evp, evi, binD, cmpD, bD, mD, neD, eqD, truD, ixD, inD, inB, slD, lenD, intD, maxD, minD, addD, subD, negD, joinD, joinS, txsO, lowerD, upperD, startsD, endsD, stripD, with1, ordD, mulD, modD, fdivD, powD, intO, Out.then, bindT, setAll, itemsD, rangeD, runF, start', mkSg, mkSgG, opD, small62, wipeE, compL, forL, List.replicate, tyIs, starts_l, hp])]
    · cases h
  · cases h
def bkS (w : List Nat) : Nat → List Nat → List Nat
  | 0, t => t
  | n + 1, t => if w.length ≤ t.length ∧ t.drop (t.length - w.length) = w then bkS w n (t.take (t.length - w.length)) else t
def bkF (w : List Nat) (b : Bool) (t : List Nat) : List Nat := if b then bkS w t.length t else if w.length ≤ t.length ∧ t.drop (t.length - w.length) = w then t.take (t.length - w.length) else t
theorem bkS_more (w : List Nat) (hw : w ≠ []) : ∀ (n m : Nat) (t : List Nat), t.length ≤ n → t.length ≤ m → bkS w n t = bkS w m t := by
  intro n
  have hl : 0 < w.length := List.length_pos_iff.mpr hw
  induction n with
  | zero =>
    intro m t h1 h2
    cases m with
    | zero => rfl
    | succ m => rw [bkS, bkS, if_neg (fun z => by omega)]
  | succ n ih =>
    intro m t h1 h2
    cases m with
    | zero => rw [bkS, bkS, if_neg (fun z => by omega)]
    | succ m =>
      rw [bkS, bkS]
      split
      · rename_i h
        exact ih m _ (by rw [List.length_take]; omega) (by rw [List.length_take]; omega)
      · rfl
theorem bkF_step (w : List Nat) (hw : w ≠ []) (t : List Nat) (h : w.length ≤ t.length ∧ t.drop (t.length - w.length) = w) : bkF w true t = bkF w true (t.take (t.length - w.length)) := by
  unfold bkF
  rw [if_pos rfl, if_pos rfl]
  have hl : 0 < w.length := List.length_pos_iff.mpr hw
  obtain ⟨n, hn⟩ := Nat.exists_eq_succ_of_ne_zero (show t.length ≠ 0 by omega)
  have e : bkS w t.length t = bkS w n (t.take (t.length - w.length)) := by
    conv => lhs; rw [hn]
    rw [bkS, if_pos h]
  rw [e]
  exact bkS_more w hw _ _ _ (by rw [List.length_take]; omega) (Nat.le_refl _)
theorem bkF_stop (w : List Nat) (b : Bool) (t : List Nat) (h : ¬ (w.length ≤ t.length ∧ t.drop (t.length - w.length) = w)) : bkF w b t = t := by
  unfold bkF
  cases b with
  | false => rw [if_neg Bool.false_ne_true, if_neg h]
  | true =>
    rw [if_pos rfl]
    cases hn : t.length with
    | zero => rfl
    | succ n => rw [bkS, if_neg h]
def GUnbk (n : Nat) : GF := fun _ ds τ => match ds with
  | [.str t, .str w, .bl b] => if w ≠ [] ∧ t.length < n ∧ t.length ≤ 4000 ∧ w.length ≤ 4000 then some (.str (bkF w b t), τ) else none
  | _ => none
theorem ends_iff (t w : List Nat) : Txt.endswith (tx t) (tx w) = decide (w.length ≤ t.length ∧ t.drop (t.length - w.length) = w) := by
  rw [ends_l]
  by_cases h1 : w.length ≤ t.length
  · by_cases h2 : t.drop (t.length - w.length) = w
    · rw [h2]; simp [h1]
    · simp [h1, h2]
  · simp [h1]
theorem cut_sub (t : List Nat) (m : Nat) (h : m ≤ t.length) : cutL t none (some ((t.length : Int) - (m : Int))) = t.take (t.length - m) := by
  have := cut_to t (t.length - m)
  rw [← this]
  congr 2
  omega
theorem run_unbacked (n : Nat) (ns : List Int) (tk : Bool) (ds : List D) (τ : TS) (r : D × TS) (h : GUnbk (n + 1) ns ds τ = some r) :
    ds.length = 3 ∧ runF (mkSg tk [⟨"unbacked", false, 3, GUnbk n⟩] [] ns) 4 false ir_unbacked ds τ = some r := by
  unfold GUnbk at h
  split at h
  · rename_i t w b
    split at h
    · rename_i hd
      obtain ⟨hw, h1, h2, h3⟩ := hd
      have hl : 0 < w.length := List.length_pos_iff.mpr hw
      have e1 := sl1 h2
      have e2 := sl1 h3
      cases h
      refine ⟨rfl, runF_rt ?_⟩
      show evB _ ir_unbacked [.d (.str t), .d (.str w), .d (.bl b), .un] τ = _
      unfold ir_unbacked
      by_cases hp : w.length ≤ t.length ∧ t.drop (t.length - w.length) = w
      · have hp1 := hp.1
        rw [evB_nx (ρ1 := [.d (.str t), .d (.str w), .d (.bl b), .un]) (τ1 := τ) (by simp only [evB, evS, ev, evs, evt, evp, evi, binD, cmpD, bD, mD, neD, eqD, truD, ixD, inD, inB, slD, lenD, intD, maxD, minD, addD, subD, negD, joinD, joinS, txsO, lowerD, upperD, startsD, endsD, stripD, with1, ordD, mulD, modD, fdivD, powD, intO, Out.then, bindT, setAll, itemsD, rangeD, runF, start', mkSg, mkSgG, opD, small62, wipeE, compL, forL, List.replicate, tyIs, ends_iff]; simp [hp])]
        rw [evB_nx (ρ1 := [.d (.str t), .d (.str w), .d (.bl b), .d (.str (t.take (t.length - w.length)))]) (τ1 := τ) (by simp [evB, evS, ev, evs, evt, evp, evi, binD, cmpD, bD, mD, neD, eqD, truD, ixD, inD, inB, slD, lenD, intD, maxD, minD, addD, subD, negD, joinD, joinS, txsO, lowerD, upperD, startsD, endsD, stripD, with1, ordD, mulD, modD, fdivD, powD, intO, Out.then, bindT, setAll, itemsD, rangeD, runF, start', mkSg, mkSgG, opD, small62, wipeE, compL, forL, List.replicate, tyIs, e1, e2, cut_sub t w.length hp1])]
        cases b with
        | true =>
          rw [bkF_step w hw t hp]
          have e3 : t.length - w.length < n := by omega
          simp [evB, evS, ev, evs, evt, evp, evi, binD, cmpD, bD, mD, neD, eqD, truD, ixD, inD, inB, slD, lenD, intD, maxD, minD, addD, subD, negD, joinD, joinS, txsO, lowerD, upperD, startsD, endsD, stripD, with1, ordD, mulD, modD, fdivD, powD, intO, Out.then, bindT, setAll, itemsD, rangeD, runF, start', mkSg, mkSgG, opD, small62, wipeE, compL, forL, List.replicate, tyIs, e1, e2, GUnbk, hw, h3]
          rw [if_pos ⟨e3, by omega⟩]; rfl
        | false => simp [evB, evS, ev, evs, evt, evp, evi, binD, cmpD, bD, mD, neD, eqD, truD, ixD, inD, inB, slD, lenD, intD, maxD, minD, addD, subD, negD, joinD, joinS, txsO, lowerD, upperD, startsD, endsD, stripD, with1, ordD, mulD, modD, fdivD, powD, intO, Out.then, bindT, setAll, itemsD, rangeD, runF, start', mkSg, mkSgG, opD, small62, wipeE, compL, forL, List.replicate, tyIs, e1, e2, bkF, hp]
      · rw [bkF_stop w b t hp]
        rw [evB_rt (d := .str t) (τ1 := τ) (by simp only [evB, evS, ev, evs, evt, evp, evi, binD, cmpD, bD, mD, neD, eqD, truD, ixD, inD, inB, slD, lenD, intD, maxD, minD, addD, subD, negD, joinD, joinS, txsO, lowerD, upperD, startsD, endsD, stripD, with1, ordD, mulD, modD, fdivD, powD, intO, Out.then, bindT, setAll, itemsD, rangeD, runF, start', mkSg, mkSgG, opD, small62, wipeE, compL, forL, List.replicate, tyIs, ends_iff]; simp [hp])]
    · cases h
  · cases h
end PD

set_option Elab.async false
set_option linter.all false
set_option maxRecDepth 100000
set_option maxHeartbeats 4000000
/-! Steps; what ended, done, cleaned do. -/
namespace PD
open PySem L2
inductive Stp where
  | small | map (x y : Nat) | drop (s : List Nat) | trim (s : List Nat) | squeeze (s : List Nat) | join (s : List Nat) (o : Nat)
  | front (w : List Nat) | fronts (w : List Nat) | back (w : List Nat) | backs (w : List Nat) | first (n : Nat) | last (n : Nat)
def Stp.d : Stp → D
  | .small => .tup [.str [115, 109, 97, 108, 108]]
  | .map x y => .tup [.str mapW, .str [x], .str [y]]
  | .drop s => .tup [.str [100, 114, 111, 112], .str s]
  | .trim s => .tup [.str [116, 114, 105, 109], .str s]
  | .squeeze s => .tup [.str [115, 113, 117, 101, 101, 122, 101], .str s]
  | .join s o => .tup [.str [106, 111, 105, 110], .str s, .str [o]]
  | .front w => .tup [.str [102, 114, 111, 110, 116], .str w]
  | .fronts w => .tup [.str [102, 114, 111, 110, 116, 115], .str w]
  | .back w => .tup [.str [98, 97, 99, 107], .str w]
  | .backs w => .tup [.str [98, 97, 99, 107, 115], .str w]
  | .first n => .tup [.str [102, 105, 114, 115, 116], .int n]
  | .last n => .tup [.str [108, 97, 115, 116], .int n]
def Stp.ok : Stp → Prop
  | .map x y => x ≠ y
  | .front w => w ≠ [] ∧ w.length ≤ 4000
  | .fronts w => w ≠ [] ∧ w.length ≤ 4000
  | .back w => w ≠ [] ∧ w.length ≤ 4000
  | .backs w => w ≠ [] ∧ w.length ≤ 4000
  | .first n => 1 ≤ n
  | .last n => 1 ≤ n
  | _ => True
def Stp.ap : Stp → List Nat → List Nat
  | .small, t => t.map PyProof.Rows.lo1
  | .map x y, t => t.map fun c => if c = x then y else c
  | .drop s, t => t.filter fun c => !decide (c ∈ s)
  | .trim s, t => trimL s t
  | .squeeze s, t => sqL s none t
  | .join s o, t => joL s [o] false t
  | .front w, t => frF w false t
  | .fronts w, t => frF w true t
  | .back w, t => bkF w false t
  | .backs w, t => bkF w true t
  | .first n, t => t.take n
  | .last n, t => t.drop (t.length - n)
def Stp.isEnd : Stp → Prop
  | .front _ => True
  | .fronts _ => True
  | .back _ => True
  | .backs _ => True
  | .first _ => True
  | .last _ => True
  | _ => False
theorem Stp.inj {s s' : Stp} (h : s.d = s'.d) : s = s' := by
  cases s <;> cases s' <;> simp [Stp.d, mapW] at h ⊢ <;> first | exact h | omega
/-! ### no text gets longer -/
theorem sqL_len (s : List Nat) : ∀ (p : Option Nat) (t : List Nat), (sqL s p t).length ≤ t.length
  | _, [] => Nat.le_refl _
  | p, c :: r => by
    rw [sqL]
    split
    · exact Nat.le_succ_of_le (sqL_len s _ r)
    · exact Nat.succ_le_succ (sqL_len s _ r)
theorem joL_len (s : List Nat) (o : Nat) : ∀ (b : Bool) (t : List Nat), (joL s [o] b t).length ≤ t.length
  | _, [] => Nat.le_refl _
  | b, c :: r => by
    rw [joL]
    split
    · split
      · exact Nat.le_succ_of_le (joL_len s o _ r)
      · exact Nat.succ_le_succ (joL_len s o _ r)
    · exact Nat.succ_le_succ (joL_len s o _ r)
theorem frS_len (w : List Nat) : ∀ (n : Nat) (t : List Nat), (frS w n t).length ≤ t.length
  | 0, _ => Nat.le_refl _
  | n + 1, t => by
    rw [frS]
    split
    · exact Nat.le_trans (frS_len w n _) (by rw [List.length_drop]; omega)
    · exact Nat.le_refl _
theorem bkS_len (w : List Nat) : ∀ (n : Nat) (t : List Nat), (bkS w n t).length ≤ t.length
  | 0, _ => Nat.le_refl _
  | n + 1, t => by
    rw [bkS]
    split
    · exact Nat.le_trans (bkS_len w n _) (by rw [List.length_take]; omega)
    · exact Nat.le_refl _
theorem frF_len (w : List Nat) (b : Bool) (t : List Nat) : (frF w b t).length ≤ t.length := by
  unfold frF
  split
  · exact frS_len _ _ _
  · split
    · rw [List.length_drop]; omega
    · exact Nat.le_refl _
theorem bkF_len (w : List Nat) (b : Bool) (t : List Nat) : (bkF w b t).length ≤ t.length := by
  unfold bkF
  split
  · exact bkS_len _ _ _
  · split
    · rw [List.length_take]; omega
    · exact Nat.le_refl _
theorem trimL_len (s t : List Nat) : (trimL s t).length ≤ t.length := by
  unfold trimL
  rw [List.length_reverse]
  exact Nat.le_trans (dw_len _ _) (by rw [List.length_reverse]; exact dw_len _ _)
theorem Stp.len (s : Stp) (t : List Nat) : (s.ap t).length ≤ t.length := by
  cases s <;> simp only [Stp.ap]
  · simp
  · simp
  · exact List.length_filter_le _ _
  · exact trimL_len _ _
  · exact sqL_len _ _ _
  · exact joL_len _ _ _ _
  · exact frF_len _ _ _
  · exact frF_len _ _ _
  · exact bkF_len _ _ _
  · exact bkF_len _ _ _
  · rw [List.length_take]; omega
  · rw [List.length_drop]; omega
/-! ### defs of a text and a step -/
open Classical in
noncomputable def GStp (n : Nat) (K : Stp → Prop) : GF := fun _ ds τ =>
  if h : ∃ p : List Nat × Stp, ds = [.str p.1, p.2.d] ∧ K p.2 ∧ p.2.ok ∧ p.1.length < n ∧ p.1.length ≤ 4000 then some (.str ((choose h).2.ap (choose h).1), τ) else none
theorem GStp_eq {n : Nat} {K : Stp → Prop} {ns : List Int} {t : List Nat} {s : Stp} {τ : TS} (hK : K s) (hs : s.ok) (h1 : t.length < n) (h2 : t.length ≤ 4000) : GStp n K ns [.str t, s.d] τ = some (.str (s.ap t), τ) := by
  have h : ∃ p : List Nat × Stp, [D.str t, s.d] = [.str p.1, p.2.d] ∧ K p.2 ∧ p.2.ok ∧ p.1.length < n ∧ p.1.length ≤ 4000 := ⟨(t, s), rfl, hK, hs, h1, h2⟩
  unfold GStp
  rw [dif_pos h]
  have e := (Classical.choose_spec h).1
  injection e with e1 e
  injection e1 with e1
  injection e with e2 _
  rw [← e1, ← Stp.inj e2]
theorem GStp_out {n : Nat} {K : Stp → Prop} {ns : List Int} {ds : List D} {τ : TS} {r : D × TS} (h : GStp n K ns ds τ = some r) : ∃ t s, ds = [.str t, Stp.d s] ∧ K s ∧ s.ok ∧ t.length < n ∧ t.length ≤ 4000 ∧ r = (.str (s.ap t), τ) := by
  unfold GStp at h
  split at h
  · rename_i hx
    obtain ⟨a, b, c, d, e⟩ := Classical.choose_spec hx
    cases h
    exact ⟨_, _, a, b, c, d, e, rfl⟩
  · cases h
theorem cut_max (t : List Nat) (n : Nat) : cutL t (some (if (t.length : Int) - (n : Int) > 0 then (t.length : Int) - (n : Int) else 0)) none = t.drop (t.length - n) := by
  have := cut_from t (t.length - n)
  rw [← this]
  congr 2
  split <;> omega
theorem run_ended (n : Nat) (ns : List Int) (tk : Bool) (ds : List D) (τ : TS) (r : D × TS) (h : GStp n Stp.isEnd ns ds τ = some r) :
    ds.length = 2 ∧ runF (mkSg tk [⟨"unfronted", false, 3, GUnfr n⟩, ⟨"unbacked", false, 3, GUnbk n⟩] [] ns) 4 false ir_ended ds τ = some r := by
  obtain ⟨t, s, rfl, hk, hs, h1, h2, rfl⟩ := GStp_out h
  have e1 := sl1 h2
  refine ⟨rfl, runF_rt ?_⟩
  show evB _ ir_ended [.d (.str t), .d s.d, .un, .un] τ = _
  unfold ir_ended
  cases s <;> simp only [Stp.isEnd] at hk <;> simp only [Stp.ok] at hs <;> simp only [Stp.d, Stp.ap]
  · rename_i w
    obtain ⟨w1, w2⟩ := hs
    simp [evB, evS, ev, evs, evt, evp, evi, binD, cmpD, bD, mD, neD, eqD, truD, ixD, inD, inB, slD, lenD, intD, maxD, minD, addD, subD, negD, joinD, joinS, txsO, lowerD, upperD, startsD, endsD, stripD, with1, ordD, mulD, modD, fdivD, powD, intO, Out.then, bindT, setAll, itemsD, rangeD, runF, start', mkSg, mkSgG, opD, small62, wipeE, compL, forL, List.replicate, tyIs, okT, isMap, GUnfr, e1, h1, h2, w1, w2, sl1]
  · rename_i w
    obtain ⟨w1, w2⟩ := hs
    simp [evB, evS, ev, evs, evt, evp, evi, binD, cmpD, bD, mD, neD, eqD, truD, ixD, inD, inB, slD, lenD, intD, maxD, minD, addD, subD, negD, joinD, joinS, txsO, lowerD, upperD, startsD, endsD, stripD, with1, ordD, mulD, modD, fdivD, powD, intO, Out.then, bindT, setAll, itemsD, rangeD, runF, start', mkSg, mkSgG, opD, small62, wipeE, compL, forL, List.replicate, tyIs, okT, isMap, GUnfr, e1, h1, h2, w1, w2, sl1]
  · rename_i w
    obtain ⟨w1, w2⟩ := hs
    simp [evB, evS, ev, evs, evt, evp, evi, binD, cmpD, bD, mD, neD, eqD, truD, ixD, inD, inB, slD, lenD, intD, maxD, minD, addD, subD, negD, joinD, joinS, txsO, lowerD, upperD, startsD, endsD, stripD, with1, ordD, mulD, modD, fdivD, powD, intO, Out.then, bindT, setAll, itemsD, rangeD, runF, start', mkSg, mkSgG, opD, small62, wipeE, compL, forL, List.replicate, tyIs, okT, isMap, GUnbk, e1, h1, h2, w1, w2, sl1]
  · rename_i w
    obtain ⟨w1, w2⟩ := hs
    simp [evB, evS, ev, evs, evt, evp, evi, binD, cmpD, bD, mD, neD, eqD, truD, ixD, inD, inB, slD, lenD, intD, maxD, minD, addD, subD, negD, joinD, joinS, txsO, lowerD, upperD, startsD, endsD, stripD, with1, ordD, mulD, modD, fdivD, powD, intO, Out.then, bindT, setAll, itemsD, rangeD, runF, start', mkSg, mkSgG, opD, small62, wipeE, compL, forL, List.replicate, tyIs, okT, isMap, GUnbk, e1, h1, h2, w1, w2, sl1]
  · rename_i m
    simp [evB, evS, ev, evs, evt, evp, evi, binD, cmpD, bD, mD, neD, eqD, truD, ixD, inD, inB, slD, lenD, intD, maxD, minD, addD, subD, negD, joinD, joinS, txsO, lowerD, upperD, startsD, endsD, stripD, with1, ordD, mulD, modD, fdivD, powD, intO, Out.then, bindT, setAll, itemsD, rangeD, runF, start', mkSg, mkSgG, opD, small62, wipeE, compL, forL, List.replicate, tyIs, e1, cut_to]
  · rename_i m
    have e2 : ∀ i : Int, i = (if (t.length : Int) - (m : Int) > 0 then (t.length : Int) - (m : Int) else 0) → cutL t (some i) none = t.drop (t.length - m) := fun i hi => by rw [hi]; exact cut_max t m
    simp [evB, evS, ev, evs, evt, evp, evi, binD, cmpD, bD, mD, neD, eqD, truD, ixD, inD, inB, slD, lenD, intD, maxD, minD, addD, subD, negD, joinD, joinS, txsO, lowerD, upperD, startsD, endsD, stripD, with1, ordD, mulD, modD, fdivD, powD, intO, Out.then, bindT, setAll, itemsD, rangeD, runF, start', mkSg, mkSgG, opD, small62, wipeE, compL, forL, List.replicate, tyIs, e1]
    refine e2 _ ?_
    split <;> split <;> omega
end PD

set_option Elab.async false
set_option linter.all false
set_option maxRecDepth 100000
set_option maxHeartbeats 4000000
/-! What done, cleaned do. -/
namespace PD
open PySem L2
theorem compL_chars {f : D → TS → Option (Option D × TS)} {h : Nat → List Nat} {τ : TS} : ∀ {t : List Nat}, (∀ c ∈ t, f (.str [c]) τ = some (some (.str (h c)), τ)) → compL f (t.map fun c => .str [c]) τ = some ((t.map h).map .str, τ)
  | [], _ => rfl
  | c :: r, hf => by
    rw [List.map_cons, compL, hf c List.mem_cons_self]
    simp only [Option.bind_some]
    rw [compL_chars (t := r) fun x hx => hf x (List.mem_cons_of_mem _ hx)]
    rfl
theorem compL_filt {f : D → TS → Option (Option D × TS)} {p : Nat → Bool} {τ : TS} : ∀ {t : List Nat}, (∀ c ∈ t, f (.str [c]) τ = some (if p c then some (.str [c]) else none, τ)) → compL f (t.map fun c => .str [c]) τ = some (((t.filter p).map fun c => [c]).map .str, τ)
  | [], _ => rfl
  | c :: r, hf => by
    rw [List.map_cons, compL, hf c List.mem_cons_self]
    simp only [Option.bind_some]
    rw [compL_filt (t := r) fun x hx => hf x (List.mem_cons_of_mem _ hx)]
    cases hp : p c with
    | true => rw [List.filter_cons_of_pos hp]; rfl
    | false => rw [List.filter_cons_of_neg (by rw [hp]; exact Bool.false_ne_true)]; rfl
theorem sum_ones {α : Type} (h : α → Nat) : ∀ t : List α, ((t.map fun c => [h c]).map List.length).sum = t.length
  | [] => rfl
  | c :: r => by
    rw [List.map_cons, List.map_cons, List.sum_cons, sum_ones h r, List.length_cons]
    simp; omega
theorem flat_ones {α : Type} (h : α → Nat) : ∀ t : List α, (t.map fun c => [h c]).flatten = t.map h
  | [] => rfl
  | c :: r => by simp [flat_ones h r]
/-- a text made of signs -/
theorem join_ones {α : Type} (h : α → Nat) (t : List α) (hl : t.length ≤ 4000) : joinD (.str []) [.lst ((t.map fun c => [h c]).map .str)] = some (.str (t.map h)) := by
  show (txsO _).bind (joinS []) = _
  rw [strs_map]
  show joinS [] _ = _
  unfold joinS
  rw [sum_ones, join_nil, flat_ones, if_pos]
  simp; omega
theorem lo_caps (c : Nat) : PyProof.Rows.lo1 c = if c ∈ [65, 66, 67, 68, 69, 70, 71, 72, 73, 74, 75, 76, 77, 78, 79, 80, 81, 82, 83, 84, 85, 86, 87, 88, 89, 90] then c + 32 else c := by
  unfold PyProof.Rows.lo1
  by_cases h : 65 ≤ c ∧ c ≤ 90
  · rw [if_pos h, if_pos]
    simp
    omega
  · rw [if_neg h, if_neg]
    simp
    omega
def capsL : List Nat := [65, 66, 67, 68, 69, 70, 71, 72, 73, 74, 75, 76, 77, 78, 79, 80, 81, 82, 83, 84, 85, 86, 87, 88, 89, 90]
theorem lo1_in {c : Nat} (h : c ∈ capsL) : loS [c] = [PyProof.Rows.lo1 c] := by
  refine lower_l fun x hx => ?_
  have e : x = c := by simpa using hx
  subst e
  simp [capsL] at h
  omega
theorem lo1_out {c : Nat} (h : ¬ c ∈ capsL) : PyProof.Rows.lo1 c = c := by
  rw [lo_caps]; exact if_neg h
theorem repl_one {x y : Nat} : ∀ t : List Nat, PySem.StrLaws.replL [x] [y] t = t.map fun c => if c = x then y else c
  | [] => PySem.StrLaws.replL_nil
  | c :: r => by
    by_cases h : c = x
    · subst h
      rw [PySem.StrLaws.replL_hit (by simp) (by simp)]
      simp [repl_one r]
    · rw [PySem.StrLaws.replL_miss (by simp [h])]
      simp [repl_one r, h]
def ir_law_draw : Ss := (.cons (.set 2 (.int 2305843009213693951)) (.cons (.ife (.cmp .Lt (.tget 0 2) (.var 1)) (.cons (.set 3 (.int 0)) (.cons (.ife (.cmp .Gt (.tlen 0) (.int 0)) (.cons (.set 3 (.tcell 0 (.bin .Mod (.blt .int (.cons (.tget 0 1) .nil)) (.tlen 0)))) .nil) .nil) (.cons (.ife (.or (.cmp .GtE (.tget 0 1) (.tlen 0)) (.one (.cmp .Lt (.var 3) (.bin .Pow (.int 10) (.int 18))))) (.cons (.set 3 (.bin .Mod (.blt .int (.cons (.bin .Add (.var 3) (.bin .Mult (.int 1000003) (.tget 0 1))) .nil)) (.var 2))) (.cons (.set 3 (.bin .Mod (.blt .int (.cons (.bin .Add (.bin .Add (.bin .Mult (.var 3) (.var 3)) (.bin .Mult (.int 1181783497276652981) (.var 3))) (.int 2049848353892358983)) .nil)) (.var 2))) (.cons (.set 3 (.bin .Mod (.blt .int (.cons (.bin .Add (.bin .Mult (.var 3) (.var 3)) (.int 1442695040888963407)) .nil)) (.var 2))) .nil))) .nil) (.cons (.tset 0 1 (.bin .Add (.tget 0 1) (.int 1))) (.cons (.tset 0 2 (.var 3)) .nil))))) .nil) (.cons (.set 4 (.bin .Mod (.blt .int (.cons (.tget 0 2) .nil)) (.var 1))) (.cons (.tset 0 2 (.bin .FloorDiv (.tget 0 2) (.var 1))) (.cons (.ret (.var 4)) .nil)))))
def ir_law_like : Ss := (.cons (.ife (.val (.isiT (.var 0) [.list, .tuple])) (.cons (.ife (.or (.cmp .NotEq (.isi (.var 0) .list) (.isi (.var 1) .list)) (.one (.cmp .NotEq (.isi (.var 0) .tuple) (.isi (.var 1) .tuple)))) (.cons (.ret (.bl false)) .nil) .nil) (.cons (.ife (.cmp .NotEq (.blt .len (.cons (.var 0) .nil)) (.blt .len (.cons (.var 1) .nil))) (.cons (.ret (.bl false)) .nil) .nil) (.cons (.ret (.cmp .Eq (.comp (.var 2) (.nm 2) (.rng1 (.blt .len (.cons (.var 0) .nil))) (.not (.val (.call 0 (.cons (.idx (.var 0) (.var 2)) (.cons (.idx (.var 1) (.var 2)) .nil))))) [2]) (.lst .nil))) .nil))) .nil) (.cons (.ife (.val (.isiT (.var 1) [.list, .tuple])) (.cons (.ret (.bl false)) .nil) .nil) (.cons (.ret (.and (.cmp .Eq (.isi (.var 0) .bool) (.isi (.var 1) .bool)) (.one (.cmp .Eq (.var 0) (.var 1))))) .nil)))
def ir_law_sign : Ss := (.cons (.ret (.idx (.str [97, 97, 98, 98, 65, 32, 45, 95, 46, 66, 99]) (.callT 0 0 (.cons (.int 11) .nil)))) .nil)
def ir_law_word : Ss := (.cons (.set 1 (.callT 0 0 .nil)) (.cons (.ret (.ife (.cmp .Eq (.callT 1 0 (.cons (.int 2) .nil)) (.int 0)) (.var 1) (.bin .Add (.var 1) (.callT 0 0 .nil)))) .nil))
def ir_law_set : Ss := (.cons (.setO 1 (.lst (.cons (.callT 0 0 .nil) .nil))) (.cons (.fr (.nm 2) (.rng1 (.callT 1 0 (.cons (.int 3) .nil))) (.cons (.app 1 (.callT 0 0 .nil)) .nil)) (.frz 1 (.cons (.ret (.mth .join (.str []) (.cons (.srt (.var 1)) .nil))) .nil))))
def ir_law_text : Ss := (.cons (.set 2 (.str [])) (.cons (.fr (.nm 3) (.rng1 (.callT 0 0 (.cons (.bin .Add (.var 1) (.int 1)) .nil))) (.cons (.set 2 (.bin .Add (.var 2) (.bin .Mult (.idx (.str [97, 97, 98, 98, 65, 32, 45, 95, 46, 66, 99, 120, 88]) (.callT 0 0 (.cons (.int 13) .nil))) (.bin .Add (.int 1) (.callT 0 0 (.cons (.int 2) .nil)))))) .nil)) (.cons (.ret (.sl (.var 2) .nope (.var 1))) .nil)))
def ir_law_done : Ss := (.cons (.set 2 (.idx (.var 1) (.int 0))) (.cons (.ife (.cmp .Eq (.var 2) (.str [100, 114, 111, 112])) (.cons (.ret (.mth .join (.str []) (.cons (.comp (.var 5) (.nm 5) (.data (.var 0)) (.cmp .NotIn (.var 5) (.idx (.var 1) (.int 1))) [5]) .nil))) .nil) .nil) (.cons (.ife (.cmp .Eq (.var 2) (.str [109, 97, 112])) (.cons (.ret (.mth .join (.str []) (.cons (.comp (.ife (.cmp .Eq (.var 5) (.idx (.var 1) (.int 1))) (.idx (.var 1) (.int 2)) (.var 5)) (.nm 5) (.data (.var 0)) .yes [5]) .nil))) .nil) .nil) (.cons (.ife (.cmp .Eq (.var 2) (.str [115, 109, 97, 108, 108])) (.cons (.ret (.mth .lower (.var 0) .nil)) .nil) .nil) (.cons (.ife (.cmp .Eq (.var 2) (.str [102, 105, 114, 115, 116])) (.cons (.ret (.sl (.var 0) .nope (.idx (.var 1) (.int 1)))) .nil) .nil) (.cons (.ife (.cmp .Eq (.var 2) (.str [108, 97, 115, 116])) (.cons (.ret (.sl (.var 0) (.neg (.idx (.var 1) (.int 1))) .nope)) .nil) .nil) (.cons (.ife (.cmp .Eq (.var 2) (.str [116, 114, 105, 109])) (.cons (.ret (.mth .strip (.var 0) (.cons (.idx (.var 1) (.int 1)) .nil))) .nil) .nil) (.cons (.ife (.cmp .In (.var 2) (.tup (.cons (.str [115, 113, 117, 101, 101, 122, 101]) (.cons (.str [106, 111, 105, 110]) .nil)))) (.cons (.set 3 (.str [])) (.cons (.fr (.cons (.nm 4) (.cons (.nm 5) .nil)) (.enum (.var 0)) (.cons (.ife (.cmp .NotIn (.var 5) (.idx (.var 1) (.int 1))) (.cons (.set 3 (.bin .Add (.var 3) (.var 5))) .nil) (.cons (.ife (.and (.cmp .Eq (.var 2) (.str [115, 113, 117, 101, 101, 122, 101])) (.one (.or (.cmp .Eq (.var 4) (.int 0)) (.one (.cmp .NotEq (.idx (.var 0) (.bin .Sub (.var 4) (.int 1))) (.var 5)))))) (.cons (.set 3 (.bin .Add (.var 3) (.var 5))) .nil) (.cons (.ife (.and (.cmp .Eq (.var 2) (.str [106, 111, 105, 110])) (.one (.or (.cmp .Eq (.var 4) (.int 0)) (.one (.cmp .NotIn (.idx (.var 0) (.bin .Sub (.var 4) (.int 1))) (.idx (.var 1) (.int 1))))))) (.cons (.set 3 (.bin .Add (.var 3) (.idx (.var 1) (.int 2)))) .nil) .nil) .nil)) .nil)) .nil)) (.cons (.ret (.var 3)) .nil))) .nil) (.cons (.set 6 (.bl true)) (.cons (.whl (.val (.var 6)) (.cons (.ife (.cmp .In (.var 2) (.tup (.cons (.str [102, 114, 111, 110, 116]) (.cons (.str [102, 114, 111, 110, 116, 115]) .nil)))) (.cons (.set 6 (.cmp .Eq (.sl (.var 0) .nope (.blt .len (.cons (.idx (.var 1) (.int 1)) .nil))) (.idx (.var 1) (.int 1)))) (.cons (.set 0 (.ife (.val (.var 6)) (.sl (.var 0) (.blt .len (.cons (.idx (.var 1) (.int 1)) .nil)) .nope) (.var 0))) .nil)) (.cons (.set 6 (.and (.cmp .GtE (.blt .len (.cons (.var 0) .nil)) (.blt .len (.cons (.idx (.var 1) (.int 1)) .nil))) (.one (.cmp .Eq (.sl (.var 0) (.bin .Sub (.blt .len (.cons (.var 0) .nil)) (.blt .len (.cons (.idx (.var 1) (.int 1)) .nil))) .nope) (.idx (.var 1) (.int 1)))))) (.cons (.set 0 (.ife (.val (.var 6)) (.sl (.var 0) .nope (.bin .Sub (.blt .len (.cons (.var 0) .nil)) (.blt .len (.cons (.idx (.var 1) (.int 1)) .nil)))) (.var 0))) .nil))) (.cons (.set 6 (.and (.var 6) (.one (.cmp .In (.var 2) (.tup (.cons (.str [102, 114, 111, 110, 116, 115]) (.cons (.str [98, 97, 99, 107, 115]) .nil))))))) .nil))) (.cons (.ret (.var 0)) .nil)))))))))))
def GTrim : GF := fun _ ds τ => match ds with
  | [.str t, .str s] => if t.length ≤ 4000 then some (.str (trimL s t), τ) else none
  | _ => none
def GSq : GF := fun _ ds τ => match ds with
  | [.str t, .str s] => if t.length ≤ 4000 then some (.str (sqL s none t), τ) else none
  | _ => none
def GJo : GF := fun _ ds τ => match ds with
  | [.str t, .str s, .str [o]] => if t.length ≤ 4000 then some (.str (joL s [o] false t), τ) else none
  | _ => none
noncomputable def calDone (n : Nat) : List Cal := [⟨"trimmed", false, 2, GTrim⟩, ⟨"squeezed", false, 2, GSq⟩, ⟨"joined", false, 3, GJo⟩, ⟨"ended", false, 2, GStp n Stp.isEnd⟩]
def cstDone : List (Str × D) := [("CAPITALS", .str capsL)]
theorem run_done (n : Nat) (ns : List Int) (ds : List D) (τ : TS) (r : D × TS) (h : GStp n (fun _ => True) ns ds τ = some r) :
    ds.length = 2 ∧ runF (mkSg true (calDone n) cstDone ns) 4 false ir_done ds τ = some r := by
  obtain ⟨t, s, rfl, hk, hs, h1, h2, rfl⟩ := GStp_out h
  have e1 := sl1 h2
  refine ⟨rfl, runF_rt ?_⟩
  show evB _ ir_done [.d (.str t), .d s.d, .un, .un] τ = _
  unfold ir_done
  generalize hP : mkSg true (calDone n) cstDone ns = P
  have g0 : ∀ ds, P.G 0 ds = GTrim ns ds := fun ds => by rw [← hP]; rfl
  have g1 : ∀ ds, P.G 1 ds = GSq ns ds := fun ds => by rw [← hP]; rfl
  have g2 : ∀ ds, P.G 2 ds = GJo ns ds := fun ds => by rw [← hP]; rfl
  have g3 : ∀ ds, P.G 3 ds = GStp n Stp.isEnd ns ds := fun ds => by rw [← hP]; rfl
  have gk : P.tk = true := by rw [← hP]; rfl
  have gc : P.cs[0]? = some (.str capsL) := by rw [← hP]; rfl
  rw [evB_nx (ρ1 := [.d (.str t), .d s.d, .d (match s.d with | .tup (k :: _) => k | d => d), .un]) (τ1 := τ) (by cases s <;> simp [evB, evS, ev, evs, evt, evp, evi, binD, cmpD, bD, mD, neD, eqD, truD, ixD, inD, inB, slD, lenD, intD, maxD, minD, addD, subD, negD, joinD, joinS, txsO, lowerD, upperD, startsD, endsD, stripD, with1, ordD, mulD, modD, fdivD, powD, intO, Out.then, bindT, setAll, itemsD, rangeD, runF, start', mkSg, mkSgG, opD, small62, wipeE, compL, forL, List.replicate, tyIs, Stp.d])]
  cases s
  · have hcomp : compL (cbody P (.ife (.cmp .In (.var 3) (.cst 0)) (.mth .lower (.var 3) .nil) (.var 3)) (.nm 3) .yes [3] [.d (.str t), .d Stp.small.d, .d (.str [115, 109, 97, 108, 108]), .un]) (t.map fun c => .str [c]) τ = some ((t.map fun c => [PyProof.Rows.lo1 c]).map .str, τ) := by
      refine compL_chars fun c hc => ?_
      by_cases hm : c ∈ capsL
      · simp [cbody, evB, evS, ev, evs, evt, evp, evi, binD, cmpD, bD, mD, neD, eqD, truD, ixD, inD, inB, slD, lenD, intD, maxD, minD, addD, subD, negD, joinD, joinS, txsO, lowerD, upperD, startsD, endsD, stripD, with1, ordD, mulD, modD, fdivD, powD, intO, Out.then, bindT, setAll, itemsD, rangeD, runF, start', mkSg, mkSgG, opD, small62, wipeE, compL, forL, List.replicate, tyIs, gc, hm, lo1_in hm]
      · simp [cbody, evB, evS, ev, evs, evt, evp, evi, binD, cmpD, bD, mD, neD, eqD, truD, ixD, inD, inB, slD, lenD, intD, maxD, minD, addD, subD, negD, joinD, joinS, txsO, lowerD, upperD, startsD, endsD, stripD, with1, ordD, mulD, modD, fdivD, powD, intO, Out.then, bindT, setAll, itemsD, rangeD, runF, start', mkSg, mkSgG, opD, small62, wipeE, compL, forL, List.replicate, tyIs, gc, hm, lo1_out hm]
    exact evB_rt (evS_t (τ1 := τ) (by simp [evB, evS, ev, evs, evt, evp, evi, binD, cmpD, bD, mD, neD, eqD, truD, ixD, inD, inB, slD, lenD, intD, maxD, minD, addD, subD, negD, joinD, joinS, txsO, lowerD, upperD, startsD, endsD, stripD, with1, ordD, mulD, modD, fdivD, powD, intO, Out.then, bindT, setAll, itemsD, rangeD, runF, start', mkSg, mkSgG, opD, small62, wipeE, compL, forL, List.replicate, tyIs, Stp.d]) (evB_rt (evS_ret (ev_join (ev_comp (τ1 := τ) (by simp [evB, evS, ev, evs, evt, evp, evi, binD, cmpD, bD, mD, neD, eqD, truD, ixD, inD, inB, slD, lenD, intD, maxD, minD, addD, subD, negD, joinD, joinS, txsO, lowerD, upperD, startsD, endsD, stripD, with1, ordD, mulD, modD, fdivD, powD, intO, Out.then, bindT, setAll, itemsD, rangeD, runF, start', mkSg, mkSgG, opD, small62, wipeE, compL, forL, List.replicate, tyIs]) hcomp (by rw [List.length_map, List.length_map]; exact e1)) (join_ones PyProof.Rows.lo1 t h2)))))
  · rename_i x y
    simp only [Stp.ok] at hs
    have hm : isMap [.str mapW, .str [x], .str [y]] = true := by simp [isMap, hs]
    refine (evB_nx (ρ1 := [.d (.str t), .d (Stp.map x y).d, .d (.str mapW), .un]) (τ1 := τ) (by simp [evB, evS, ev, evs, evt, evp, evi, binD, cmpD, bD, mD, neD, eqD, truD, ixD, inD, inB, slD, lenD, intD, maxD, minD, addD, subD, negD, joinD, joinS, txsO, lowerD, upperD, startsD, endsD, stripD, with1, ordD, mulD, modD, fdivD, powD, intO, Out.then, bindT, setAll, itemsD, rangeD, runF, start', mkSg, mkSgG, opD, small62, wipeE, compL, forL, List.replicate, tyIs, Stp.d, mapW])).trans (evB_rt (d := .str _) ?_)
    have hb : t.length + (t.length + 1) * 1 ≤ 16777216 := by omega
    have hb' : t.length + (t.length + 1) ≤ 16777216 := by omega
    simp [evB, evS, ev, evs, evt, evp, evi, binD, cmpD, bD, mD, neD, eqD, truD, ixD, inD, inB, slD, lenD, intD, maxD, minD, addD, subD, negD, joinD, joinS, txsO, lowerD, upperD, startsD, endsD, stripD, with1, ordD, mulD, modD, fdivD, powD, intO, Out.then, bindT, setAll, itemsD, rangeD, runF, start', mkSg, mkSgG, opD, small62, wipeE, compL, forL, List.replicate, tyIs, Stp.d, Stp.ap, gk, hm, repl_one, hb']
  · rename_i s
    refine (evB_nx (ρ1 := [.d (.str t), .d (Stp.drop s).d, .d (.str [100, 114, 111, 112]), .un]) (τ1 := τ) (by simp [evB, evS, ev, evs, evt, evp, evi, binD, cmpD, bD, mD, neD, eqD, truD, ixD, inD, inB, slD, lenD, intD, maxD, minD, addD, subD, negD, joinD, joinS, txsO, lowerD, upperD, startsD, endsD, stripD, with1, ordD, mulD, modD, fdivD, powD, intO, Out.then, bindT, setAll, itemsD, rangeD, runF, start', mkSg, mkSgG, opD, small62, wipeE, compL, forL, List.replicate, tyIs, Stp.d])).trans ((evB_nx (ρ1 := [.d (.str t), .d (Stp.drop s).d, .d (.str [100, 114, 111, 112]), .un]) (τ1 := τ) (by simp [evB, evS, ev, evs, evt, evp, evi, binD, cmpD, bD, mD, neD, eqD, truD, ixD, inD, inB, slD, lenD, intD, maxD, minD, addD, subD, negD, joinD, joinS, txsO, lowerD, upperD, startsD, endsD, stripD, with1, ordD, mulD, modD, fdivD, powD, intO, Out.then, bindT, setAll, itemsD, rangeD, runF, start', mkSg, mkSgG, opD, small62, wipeE, compL, forL, List.replicate, tyIs, Stp.d])).trans (evB_rt (d := .str _) ?_))
    have hcomp : compL (cbody P (.var 3) (.nm 3) (.cmp .NotIn (.var 3) (.idx (.var 1) (.int 1))) [3] [.d (.str t), .d (Stp.drop s).d, .d (.str [100, 114, 111, 112]), .un]) (t.map fun c => .str [c]) τ = some (((t.filter fun c => !decide (c ∈ s)).map fun c => [c]).map .str, τ) := by
      refine compL_filt fun c hc => ?_
      by_cases hm : c ∈ s <;> simp [cbody, evB, evS, ev, evs, evt, evp, evi, binD, cmpD, bD, mD, neD, eqD, truD, ixD, inD, inB, slD, lenD, intD, maxD, minD, addD, subD, negD, joinD, joinS, txsO, lowerD, upperD, startsD, endsD, stripD, with1, ordD, mulD, modD, fdivD, powD, intO, Out.then, bindT, setAll, itemsD, rangeD, runF, start', mkSg, mkSgG, opD, small62, wipeE, compL, forL, List.replicate, tyIs, Stp.d, hm]
    have hl : (t.filter fun c => !decide (c ∈ s)).length ≤ 4000 := Nat.le_trans (List.length_filter_le _ _) h2
    have hj := join_ones (fun c => c) (t.filter fun c => !decide (c ∈ s)) hl
    rw [List.map_id'] at hj
    exact evS_t (τ1 := τ) (by simp [evB, evS, ev, evs, evt, evp, evi, binD, cmpD, bD, mD, neD, eqD, truD, ixD, inD, inB, slD, lenD, intD, maxD, minD, addD, subD, negD, joinD, joinS, txsO, lowerD, upperD, startsD, endsD, stripD, with1, ordD, mulD, modD, fdivD, powD, intO, Out.then, bindT, setAll, itemsD, rangeD, runF, start', mkSg, mkSgG, opD, small62, wipeE, compL, forL, List.replicate, tyIs, Stp.d]) (evB_rt (evS_ret (ev_join (ev_comp (τ1 := τ) (by simp [evB, evS, ev, evs, evt, evp, evi, binD, cmpD, bD, mD, neD, eqD, truD, ixD, inD, inB, slD, lenD, intD, maxD, minD, addD, subD, negD, joinD, joinS, txsO, lowerD, upperD, startsD, endsD, stripD, with1, ordD, mulD, modD, fdivD, powD, intO, Out.then, bindT, setAll, itemsD, rangeD, runF, start', mkSg, mkSgG, opD, small62, wipeE, compL, forL, List.replicate, tyIs]) hcomp (by rw [List.length_map, List.length_map]; exact sl1 hl)) hj)))
  · rename_i s
    simp [evB, evS, ev, evs, evt, evp, evi, binD, cmpD, bD, mD, neD, eqD, truD, ixD, inD, inB, slD, lenD, intD, maxD, minD, addD, subD, negD, joinD, joinS, txsO, lowerD, upperD, startsD, endsD, stripD, with1, ordD, mulD, modD, fdivD, powD, intO, Out.then, bindT, setAll, itemsD, rangeD, runF, start', mkSg, mkSgG, opD, small62, wipeE, compL, forL, List.replicate, tyIs, Stp.d, Stp.ap, g0, GTrim, h2]
  · rename_i s
    simp [evB, evS, ev, evs, evt, evp, evi, binD, cmpD, bD, mD, neD, eqD, truD, ixD, inD, inB, slD, lenD, intD, maxD, minD, addD, subD, negD, joinD, joinS, txsO, lowerD, upperD, startsD, endsD, stripD, with1, ordD, mulD, modD, fdivD, powD, intO, Out.then, bindT, setAll, itemsD, rangeD, runF, start', mkSg, mkSgG, opD, small62, wipeE, compL, forL, List.replicate, tyIs, Stp.d, Stp.ap, g1, GSq, h2]
  · rename_i s o
    simp [evB, evS, ev, evs, evt, evp, evi, binD, cmpD, bD, mD, neD, eqD, truD, ixD, inD, inB, slD, lenD, intD, maxD, minD, addD, subD, negD, joinD, joinS, txsO, lowerD, upperD, startsD, endsD, stripD, with1, ordD, mulD, modD, fdivD, powD, intO, Out.then, bindT, setAll, itemsD, rangeD, runF, start', mkSg, mkSgG, opD, small62, wipeE, compL, forL, List.replicate, tyIs, Stp.d, Stp.ap, g2, GJo, h2]
  · rename_i w
    have e := GStp_eq (K := Stp.isEnd) (s := .front w) (ns := ns) (τ := τ) trivial hs h1 h2
    simp only [Stp.d, Stp.ap] at e ⊢
    simp [evB, evS, ev, evs, evt, evp, evi, binD, cmpD, bD, mD, neD, eqD, truD, ixD, inD, inB, slD, lenD, intD, maxD, minD, addD, subD, negD, joinD, joinS, txsO, lowerD, upperD, startsD, endsD, stripD, with1, ordD, mulD, modD, fdivD, powD, intO, Out.then, bindT, setAll, itemsD, rangeD, runF, start', mkSg, mkSgG, opD, small62, wipeE, compL, forL, List.replicate, tyIs, g3, e]
  · rename_i w
    have e := GStp_eq (K := Stp.isEnd) (s := .fronts w) (ns := ns) (τ := τ) trivial hs h1 h2
    simp only [Stp.d, Stp.ap] at e ⊢
    simp [evB, evS, ev, evs, evt, evp, evi, binD, cmpD, bD, mD, neD, eqD, truD, ixD, inD, inB, slD, lenD, intD, maxD, minD, addD, subD, negD, joinD, joinS, txsO, lowerD, upperD, startsD, endsD, stripD, with1, ordD, mulD, modD, fdivD, powD, intO, Out.then, bindT, setAll, itemsD, rangeD, runF, start', mkSg, mkSgG, opD, small62, wipeE, compL, forL, List.replicate, tyIs, g3, e]
  · rename_i w
    have e := GStp_eq (K := Stp.isEnd) (s := .back w) (ns := ns) (τ := τ) trivial hs h1 h2
    simp only [Stp.d, Stp.ap] at e ⊢
    simp [evB, evS, ev, evs, evt, evp, evi, binD, cmpD, bD, mD, neD, eqD, truD, ixD, inD, inB, slD, lenD, intD, maxD, minD, addD, subD, negD, joinD, joinS, txsO, lowerD, upperD, startsD, endsD, stripD, with1, ordD, mulD, modD, fdivD, powD, intO, Out.then, bindT, setAll, itemsD, rangeD, runF, start', mkSg, mkSgG, opD, small62, wipeE, compL, forL, List.replicate, tyIs, g3, e]
  · rename_i w
    have e := GStp_eq (K := Stp.isEnd) (s := .backs w) (ns := ns) (τ := τ) trivial hs h1 h2
    simp only [Stp.d, Stp.ap] at e ⊢
    simp [evB, evS, ev, evs, evt, evp, evi, binD, cmpD, bD, mD, neD, eqD, truD, ixD, inD, inB, slD, lenD, intD, maxD, minD, addD, subD, negD, joinD, joinS, txsO, lowerD, upperD, startsD, endsD, stripD, with1, ordD, mulD, modD, fdivD, powD, intO, Out.then, bindT, setAll, itemsD, rangeD, runF, start', mkSg, mkSgG, opD, small62, wipeE, compL, forL, List.replicate, tyIs, g3, e]
  · rename_i w
    have e := GStp_eq (K := Stp.isEnd) (s := .first w) (ns := ns) (τ := τ) trivial hs h1 h2
    simp only [Stp.d, Stp.ap] at e ⊢
    simp [evB, evS, ev, evs, evt, evp, evi, binD, cmpD, bD, mD, neD, eqD, truD, ixD, inD, inB, slD, lenD, intD, maxD, minD, addD, subD, negD, joinD, joinS, txsO, lowerD, upperD, startsD, endsD, stripD, with1, ordD, mulD, modD, fdivD, powD, intO, Out.then, bindT, setAll, itemsD, rangeD, runF, start', mkSg, mkSgG, opD, small62, wipeE, compL, forL, List.replicate, tyIs, g3, e]
  · rename_i w
    have e := GStp_eq (K := Stp.isEnd) (s := .last w) (ns := ns) (τ := τ) trivial hs h1 h2
    simp only [Stp.d, Stp.ap] at e ⊢
    simp [evB, evS, ev, evs, evt, evp, evi, binD, cmpD, bD, mD, neD, eqD, truD, ixD, inD, inB, slD, lenD, intD, maxD, minD, addD, subD, negD, joinD, joinS, txsO, lowerD, upperD, startsD, endsD, stripD, with1, ordD, mulD, modD, fdivD, powD, intO, Out.then, bindT, setAll, itemsD, rangeD, runF, start', mkSg, mkSgG, opD, small62, wipeE, compL, forL, List.replicate, tyIs, g3, e]
/-! ### cleaned -/
def apAll (ss : List Stp) (t : List Nat) : List Nat := ss.foldl (fun t s => s.ap t) t
theorem apAll_len : ∀ (ss : List Stp) (t : List Nat), (apAll ss t).length ≤ t.length
  | [], _ => Nat.le_refl _
  | s :: ss, t => Nat.le_trans (apAll_len ss (s.ap t)) (s.len t)
theorem dmap_inj : ∀ {a b : List Stp}, a.map Stp.d = b.map Stp.d → a = b
  | [], [], _ => rfl
  | [], _ :: _, h => by cases h
  | _ :: _, [], h => by cases h
  | x :: a, y :: b, h => by
    injection h with h1 h2
    rw [Stp.inj h1, dmap_inj h2]
open Classical in
noncomputable def GCl (n : Nat) : GF := fun _ ds τ =>
  if h : ∃ p : List Nat × List Stp, ds = [.str p.1, .tup (p.2.map Stp.d)] ∧ (∀ s ∈ p.2, s.ok) ∧ p.1.length < n ∧ p.1.length ≤ 4000 then some (.str (apAll (choose h).2 (choose h).1), τ) else none
theorem GCl_eq {n : Nat} {ns : List Int} {t : List Nat} {ss : List Stp} {τ : TS} (hs : ∀ s ∈ ss, s.ok) (h1 : t.length < n) (h2 : t.length ≤ 4000) : GCl n ns [.str t, .tup (ss.map Stp.d)] τ = some (.str (apAll ss t), τ) := by
  have h : ∃ p : List Nat × List Stp, [D.str t, .tup (ss.map Stp.d)] = [.str p.1, .tup (p.2.map Stp.d)] ∧ (∀ s ∈ p.2, s.ok) ∧ p.1.length < n ∧ p.1.length ≤ 4000 := ⟨(t, ss), rfl, hs, h1, h2⟩
  unfold GCl
  rw [dif_pos h]
  have e := (Classical.choose_spec h).1
  injection e with e1 e
  injection e1 with e1
  injection e with e2 _
  injection e2 with e2
  rw [← e1, ← dmap_inj e2]
theorem cl_loop (n : Nat) (P : Sg) (ns : List Int) (g0 : ∀ ds, P.G 0 ds = GStp n (fun _ => True) ns ds) (row : D) (τ : TS) : ∀ (ss : List Stp) (t : List Nat) (g : Slot), (∀ s ∈ ss, s.ok) → t.length < n → t.length ≤ 4000 →
    ∃ g', forL (fun x ρ1 τ1 => (bindT (.nm 2) x ρ1).bind fun ρ2 => evB P (.cons (.set 0 (.call 0 (.cons (.var 0) (.cons (.var 2) .nil)))) .nil) ρ2 τ1) (ss.map Stp.d) [.d (.str t), .d row, g] τ = some (.nx [.d (.str (apAll ss t)), .d row, g'] τ)
  | [], t, g, _, _, _ => ⟨g, rfl⟩
  | s :: ss, t, g, hs, h1, h2 => by
    have hl := s.len t
    obtain ⟨g', e⟩ := cl_loop n P ns g0 row τ ss (s.ap t) (.d s.d) (fun x hx => hs x (List.mem_cons_of_mem _ hx)) (by omega) (by omega)
    refine ⟨g', ?_⟩
    have es := GStp_eq (n := n) (K := fun _ => True) (ns := ns) (τ := τ) trivial (hs s List.mem_cons_self) h1 h2
    rw [List.map_cons, forL_step (ρ1 := [.d (.str (s.ap t)), .d row, .d s.d]) (τ1 := τ) (by simp [evB, evS, ev, evs, evt, evp, evi, binD, cmpD, bD, mD, neD, eqD, truD, ixD, inD, inB, slD, lenD, intD, maxD, minD, addD, subD, negD, joinD, joinS, txsO, lowerD, upperD, startsD, endsD, stripD, with1, ordD, mulD, modD, fdivD, powD, intO, Out.then, bindT, setAll, itemsD, rangeD, runF, start', mkSg, mkSgG, opD, small62, wipeE, compL, forL, List.replicate, tyIs, g0, es]), e]
    rfl
theorem run_cleaned (n : Nat) (ns : List Int) (ds : List D) (τ : TS) (r : D × TS) (h : GCl n ns ds τ = some r) :
    ds.length = 2 ∧ runF (mkSg true [⟨"done", false, 2, GStp n fun _ => True⟩] [] ns) 3 false ir_cleaned ds τ = some r := by
  unfold GCl at h
  split at h
  · rename_i hx
    obtain ⟨a, b, c, d⟩ := Classical.choose_spec hx
    cases h
    generalize (Classical.choose hx).1 = t at *
    generalize (Classical.choose hx).2 = ss at *
    subst a
    refine ⟨rfl, runF_rt ?_⟩
    show evB _ ir_cleaned [.d (.str t), .d (.tup (ss.map Stp.d)), .un] τ = _
    unfold ir_cleaned
    obtain ⟨g', e⟩ := cl_loop n (mkSg true [⟨"done", false, 2, GStp n fun _ => True⟩] [] ns) ns (fun _ => rfl) (.tup (ss.map Stp.d)) τ ss t .un b c d
    rw [evB_nx (ρ1 := [.d (.str (apAll ss t)), .d (.tup (ss.map Stp.d)), g']) (τ1 := τ) (by rw [evS]; simp only [evi, ev, List.getElem?_cons_zero, List.getElem?_cons_succ, Option.bind_some, itemsD, Option.map_some]; exact e)]
    simp [evB, evS, ev, evs, evt, evp, evi, binD, cmpD, bD, mD, neD, eqD, truD, ixD, inD, inB, slD, lenD, intD, maxD, minD, addD, subD, negD, joinD, joinS, txsO, lowerD, upperD, startsD, endsD, stripD, with1, ordD, mulD, modD, fdivD, powD, intO, Out.then, bindT, setAll, itemsD, rangeD, runF, start', mkSg, mkSgG, opD, small62, wipeE, compL, forL, List.replicate, tyIs]
  · cases h
end PD

set_option Elab.async false
set_option linter.all false
set_option maxRecDepth 100000
set_option maxHeartbeats 4000000
/-! The laws' own draws. -/
namespace PD
open PySem L2
/-- a def by its body -/
noncomputable def Grun (tk : Bool) (n : Nat) (tp : Bool) (ar : Nat) (body : Ss) (cal : List Cal) (csts : List (Str × D)) : GF := fun ns ds τ => if ds.length = ar then runF (mkSg tk cal csts ns) n tp body ds τ else none
theorem Grun_out {tk : Bool} {n : Nat} {tp : Bool} {ar : Nat} {body : Ss} {cal : List Cal} {csts : List (Str × D)} : ∀ ns ds τ r, Grun tk n tp ar body cal csts ns ds τ = some r → ds.length = ar ∧ runF (mkSg tk cal csts ns) n tp body ds τ = some r := by
  intro ns ds τ r h
  unfold Grun at h
  split at h
  · rename_i e; exact ⟨e, h⟩
  · cases h
/-! ### _law_draw -/
noncomputable def GDraw (tk : Bool) : GF := Grun tk 5 true 1 ir_law_draw [] []
theorem draw_cell (P : Sg) (m p : Int) (τ : TS) (x : Int) : ∃ c, evS P (.ife (.cmp .Gt (.tlen 0) (.int 0)) (.cons (.set 3 (.tcell 0 (.bin .Mod (.blt .int (.cons (.tget 0 1) .nil)) (.tlen 0)))) .nil) .nil) [.tape, .d (.int m), .d (.int p), .d (.int x), .un] τ = some (.nx [.tape, .d (.int m), .d (.int p), .d (.int c), .un] τ) := by
  by_cases h : 0 < P.ns.length
  · have h0 : (0 : Int) < (P.ns.length : Int) := by omega
    have h1 := Int.emod_nonneg τ.pos (show (P.ns.length : Int) ≠ 0 by omega)
    have h2 := Int.emod_lt_of_pos τ.pos h0
    have h3 : (τ.pos % (P.ns.length : Int)).toNat < P.ns.length := by omega
    refine ⟨P.ns[(τ.pos % (P.ns.length : Int)).toNat], evS_t (τ1 := τ) (by simp [evB, evS, ev, evs, evt, evp, evi, binD, cmpD, bD, mD, neD, eqD, truD, ixD, inD, inB, slD, lenD, intD, maxD, minD, addD, subD, negD, joinD, joinS, txsO, lowerD, upperD, startsD, endsD, stripD, with1, ordD, mulD, modD, fdivD, powD, intO, Out.then, bindT, setAll, itemsD, rangeD, runF, start', mkSg, mkSgG, opD, small62, wipeE, compL, forL, List.replicate, tyIs, h]) ?_⟩
    rw [evB_nx (ρ1 := [.tape, .d (.int m), .d (.int p), .d (.int P.ns[(τ.pos % (P.ns.length : Int)).toNat]), .un]) (τ1 := τ) ?_]
    · simp [evB]
    · simp only [evB, evS, ev, evs, evt, evp, evi, binD, cmpD, bD, mD, neD, eqD, truD, ixD, inD, inB, slD, lenD, intD, maxD, minD, addD, subD, negD, joinD, joinS, txsO, lowerD, upperD, startsD, endsD, stripD, with1, ordD, mulD, modD, fdivD, powD, intO, Out.then, bindT, setAll, itemsD, rangeD, runF, start', mkSg, mkSgG, opD, small62, wipeE, compL, forL, List.replicate, tyIs, List.getElem?_cons_zero, Option.bind_some, Option.map_some, if_true, h0, h1, List.getElem?_eq_getElem h3]
      rfl
  · exact ⟨x, evS_f (τ1 := τ) (by simp [evB, evS, ev, evs, evt, evp, evi, binD, cmpD, bD, mD, neD, eqD, truD, ixD, inD, inB, slD, lenD, intD, maxD, minD, addD, subD, negD, joinD, joinS, txsO, lowerD, upperD, startsD, endsD, stripD, with1, ordD, mulD, modD, fdivD, powD, intO, Out.then, bindT, setAll, itemsD, rangeD, runF, start', mkSg, mkSgG, opD, small62, wipeE, compL, forL, List.replicate, tyIs, h]) (by simp [evB])⟩
theorem draw_mix (P : Sg) (m : Int) (τ : TS) (x : Int) : ∃ c, evB P (.cons (.set 3 (.bin .Mod (.blt .int (.cons (.bin .Add (.var 3) (.bin .Mult (.int 1000003) (.tget 0 1))) .nil)) (.var 2))) (.cons (.set 3 (.bin .Mod (.blt .int (.cons (.bin .Add (.bin .Add (.bin .Mult (.var 3) (.var 3)) (.bin .Mult (.int 1181783497276652981) (.var 3))) (.int 2049848353892358983)) .nil)) (.var 2))) (.cons (.set 3 (.bin .Mod (.blt .int (.cons (.bin .Add (.bin .Mult (.var 3) (.var 3)) (.int 1442695040888963407)) .nil)) (.var 2))) .nil)))
    [.tape, .d (.int m), .d (.int 2305843009213693951), .d (.int x), .un] τ = some (.nx [.tape, .d (.int m), .d (.int 2305843009213693951), .d (.int c), .un] τ) := by
  have b : ∀ y : Int, (-(2 ^ 64) < y % 2305843009213693951 ∧ y % 2305843009213693951 < 2 ^ 64) := fun y => by
    have h1 := Int.emod_nonneg y (show (2305843009213693951 : Int) ≠ 0 by omega)
    have h2 := Int.emod_lt_of_pos y (show (0 : Int) < 2305843009213693951 by omega)
    omega
  obtain ⟨y, hy, by1⟩ : ∃ y : Int, y = (x + 1000003 * τ.pos) % 2305843009213693951 ∧ (-(2 ^ 64) < y ∧ y < 2 ^ 64) := ⟨_, rfl, b _⟩
  obtain ⟨z, hz, by2⟩ : ∃ z : Int, z = (y * y + 1181783497276652981 * y + 2049848353892358983) % 2305843009213693951 ∧ (-(2 ^ 64) < z ∧ z < 2 ^ 64) := ⟨_, rfl, b _⟩
  refine ⟨(z * z + 1442695040888963407) % 2305843009213693951, ?_⟩
  rw [evB_nx (ρ1 := [.tape, .d (.int m), .d (.int 2305843009213693951), .d (.int y), .un]) (τ1 := τ) (by simp [evB, evS, ev, evs, evt, evp, evi, binD, cmpD, bD, mD, neD, eqD, truD, ixD, inD, inB, slD, lenD, intD, maxD, minD, addD, subD, negD, joinD, joinS, txsO, lowerD, upperD, startsD, endsD, stripD, with1, ordD, mulD, modD, fdivD, powD, intO, Out.then, bindT, setAll, itemsD, rangeD, runF, start', mkSg, mkSgG, opD, small62, wipeE, compL, forL, List.replicate, tyIs, hy])]
  rw [evB_nx (ρ1 := [.tape, .d (.int m), .d (.int 2305843009213693951), .d (.int z), .un]) (τ1 := τ) (by
    simp only [evB, evS, ev, evs, evt, evp, evi, binD, cmpD, bD, mD, neD, eqD, truD, ixD, inD, inB, slD, lenD, intD, maxD, minD, addD, subD, negD, joinD, joinS, txsO, lowerD, upperD, startsD, endsD, stripD, with1, ordD, mulD, modD, fdivD, powD, intO, Out.then, bindT, setAll, itemsD, rangeD, runF, start', mkSg, mkSgG, opD, small62, wipeE, compL, forL, List.replicate, tyIs, List.getElem?_cons_zero, List.getElem?_cons_succ, Option.bind_some, Option.map_some, by1, and_self, true_or, if_true]; simp [hz])]
  rw [evB_nx (ρ1 := [.tape, .d (.int m), .d (.int 2305843009213693951), .d (.int ((z * z + 1442695040888963407) % 2305843009213693951)), .un]) (τ1 := τ) (by
    simp only [evB, evS, ev, evs, evt, evp, evi, binD, cmpD, bD, mD, neD, eqD, truD, ixD, inD, inB, slD, lenD, intD, maxD, minD, addD, subD, negD, joinD, joinS, txsO, lowerD, upperD, startsD, endsD, stripD, with1, ordD, mulD, modD, fdivD, powD, intO, Out.then, bindT, setAll, itemsD, rangeD, runF, start', mkSg, mkSgG, opD, small62, wipeE, compL, forL, List.replicate, tyIs, List.getElem?_cons_zero, List.getElem?_cons_succ, Option.bind_some, Option.map_some, by2, and_self, true_or, if_true]; simp)]
  simp [evB]
theorem draw_ok (tk : Bool) (ns : List Int) (m : Int) (h0 : 0 < m) (h1 : m.natAbs.log2 < 9000) (τ : TS) : ∃ r τ', GDraw tk ns [.int m] τ = some (.int r, τ') ∧ 0 ≤ r ∧ r < m := by
  have hif : ∀ P : Sg, ∃ X τ1, evS P (.ife (.cmp .Lt (.tget 0 2) (.var 1)) (.cons (.set 3 (.int 0)) (.cons (.ife (.cmp .Gt (.tlen 0) (.int 0)) (.cons (.set 3 (.tcell 0 (.bin .Mod (.blt .int (.cons (.tget 0 1) .nil)) (.tlen 0)))) .nil) .nil) (.cons (.ife (.or (.cmp .GtE (.tget 0 1) (.tlen 0)) (.one (.cmp .Lt (.var 3) (.bin .Pow (.int 10) (.int 18))))) (.cons (.set 3 (.bin .Mod (.blt .int (.cons (.bin .Add (.var 3) (.bin .Mult (.int 1000003) (.tget 0 1))) .nil)) (.var 2))) (.cons (.set 3 (.bin .Mod (.blt .int (.cons (.bin .Add (.bin .Add (.bin .Mult (.var 3) (.var 3)) (.bin .Mult (.int 1181783497276652981) (.var 3))) (.int 2049848353892358983)) .nil)) (.var 2))) (.cons (.set 3 (.bin .Mod (.blt .int (.cons (.bin .Add (.bin .Mult (.var 3) (.var 3)) (.int 1442695040888963407)) .nil)) (.var 2))) .nil))) .nil) (.cons (.tset 0 1 (.bin .Add (.tget 0 1) (.int 1))) (.cons (.tset 0 2 (.var 3)) .nil))))) .nil)
      [.tape, .d (.int m), .d (.int 2305843009213693951), .un, .un] τ = some (.nx [.tape, .d (.int m), .d (.int 2305843009213693951), X, .un] τ1) := by
    intro P
    by_cases hc : τ.cur < m
    · obtain ⟨c, hcell⟩ := draw_cell P m 2305843009213693951 τ 0
      have hmid : ∃ c2, evS P (.ife (.or (.cmp .GtE (.tget 0 1) (.tlen 0)) (.one (.cmp .Lt (.var 3) (.bin .Pow (.int 10) (.int 18))))) (.cons (.set 3 (.bin .Mod (.blt .int (.cons (.bin .Add (.var 3) (.bin .Mult (.int 1000003) (.tget 0 1))) .nil)) (.var 2))) (.cons (.set 3 (.bin .Mod (.blt .int (.cons (.bin .Add (.bin .Add (.bin .Mult (.var 3) (.var 3)) (.bin .Mult (.int 1181783497276652981) (.var 3))) (.int 2049848353892358983)) .nil)) (.var 2))) (.cons (.set 3 (.bin .Mod (.blt .int (.cons (.bin .Add (.bin .Mult (.var 3) (.var 3)) (.int 1442695040888963407)) .nil)) (.var 2))) .nil))) .nil) [.tape, .d (.int m), .d (.int 2305843009213693951), .d (.int c), .un] τ = some (.nx [.tape, .d (.int m), .d (.int 2305843009213693951), .d (.int c2), .un] τ) := by
        by_cases hg : τ.pos < (P.ns.length : Int)
        · by_cases hs : c < 10 ^ 18
          · obtain ⟨c2, e⟩ := draw_mix P m τ c
            exact ⟨c2, evS_t (τ1 := τ) (by simp [evB, evS, ev, evs, evt, evp, evi, binD, cmpD, bD, mD, neD, eqD, truD, ixD, inD, inB, slD, lenD, intD, maxD, minD, addD, subD, negD, joinD, joinS, txsO, lowerD, upperD, startsD, endsD, stripD, with1, ordD, mulD, modD, fdivD, powD, intO, Out.then, bindT, setAll, itemsD, rangeD, runF, start', mkSg, mkSgG, opD, small62, wipeE, compL, forL, List.replicate, tyIs, Int.not_le.mpr hg]; simpa using hs) e⟩
          · exact ⟨c, evS_f (τ1 := τ) (by simp [evB, evS, ev, evs, evt, evp, evi, binD, cmpD, bD, mD, neD, eqD, truD, ixD, inD, inB, slD, lenD, intD, maxD, minD, addD, subD, negD, joinD, joinS, txsO, lowerD, upperD, startsD, endsD, stripD, with1, ordD, mulD, modD, fdivD, powD, intO, Out.then, bindT, setAll, itemsD, rangeD, runF, start', mkSg, mkSgG, opD, small62, wipeE, compL, forL, List.replicate, tyIs, Int.not_le.mpr hg]; simpa using hs) (by simp [evB])⟩
        · obtain ⟨c2, e⟩ := draw_mix P m τ c
          exact ⟨c2, evS_t (τ1 := τ) (by simp [evB, evS, ev, evs, evt, evp, evi, binD, cmpD, bD, mD, neD, eqD, truD, ixD, inD, inB, slD, lenD, intD, maxD, minD, addD, subD, negD, joinD, joinS, txsO, lowerD, upperD, startsD, endsD, stripD, with1, ordD, mulD, modD, fdivD, powD, intO, Out.then, bindT, setAll, itemsD, rangeD, runF, start', mkSg, mkSgG, opD, small62, wipeE, compL, forL, List.replicate, tyIs, Int.not_lt.mp hg]) e⟩
      obtain ⟨c2, hmid⟩ := hmid
      refine ⟨.d (.int c2), ⟨τ.pos + 1, c2⟩, evS_t (τ1 := τ) (by simp [evB, evS, ev, evs, evt, evp, evi, binD, cmpD, bD, mD, neD, eqD, truD, ixD, inD, inB, slD, lenD, intD, maxD, minD, addD, subD, negD, joinD, joinS, txsO, lowerD, upperD, startsD, endsD, stripD, with1, ordD, mulD, modD, fdivD, powD, intO, Out.then, bindT, setAll, itemsD, rangeD, runF, start', mkSg, mkSgG, opD, small62, wipeE, compL, forL, List.replicate, tyIs, hc]) ?_⟩
      rw [evB_nx (ρ1 := [.tape, .d (.int m), .d (.int 2305843009213693951), .d (.int 0), .un]) (τ1 := τ) (by simp [evB, evS, ev, evs, evt, evp, evi, binD, cmpD, bD, mD, neD, eqD, truD, ixD, inD, inB, slD, lenD, intD, maxD, minD, addD, subD, negD, joinD, joinS, txsO, lowerD, upperD, startsD, endsD, stripD, with1, ordD, mulD, modD, fdivD, powD, intO, Out.then, bindT, setAll, itemsD, rangeD, runF, start', mkSg, mkSgG, opD, small62, wipeE, compL, forL, List.replicate, tyIs]), evB_nx hcell, evB_nx hmid]
      rw [evB_nx (ρ1 := [.tape, .d (.int m), .d (.int 2305843009213693951), .d (.int c2), .un]) (τ1 := ⟨τ.pos + 1, τ.cur⟩) (by simp [evB, evS, ev, evs, evt, evp, evi, binD, cmpD, bD, mD, neD, eqD, truD, ixD, inD, inB, slD, lenD, intD, maxD, minD, addD, subD, negD, joinD, joinS, txsO, lowerD, upperD, startsD, endsD, stripD, with1, ordD, mulD, modD, fdivD, powD, intO, Out.then, bindT, setAll, itemsD, rangeD, runF, start', mkSg, mkSgG, opD, small62, wipeE, compL, forL, List.replicate, tyIs]), evB_nx (ρ1 := [.tape, .d (.int m), .d (.int 2305843009213693951), .d (.int c2), .un]) (τ1 := ⟨τ.pos + 1, c2⟩) (by simp [evB, evS, ev, evs, evt, evp, evi, binD, cmpD, bD, mD, neD, eqD, truD, ixD, inD, inB, slD, lenD, intD, maxD, minD, addD, subD, negD, joinD, joinS, txsO, lowerD, upperD, startsD, endsD, stripD, with1, ordD, mulD, modD, fdivD, powD, intO, Out.then, bindT, setAll, itemsD, rangeD, runF, start', mkSg, mkSgG, opD, small62, wipeE, compL, forL, List.replicate, tyIs])]
      simp [evB]
    · exact ⟨.un, τ, evS_f (τ1 := τ) (by simp [evB, evS, ev, evs, evt, evp, evi, binD, cmpD, bD, mD, neD, eqD, truD, ixD, inD, inB, slD, lenD, intD, maxD, minD, addD, subD, negD, joinD, joinS, txsO, lowerD, upperD, startsD, endsD, stripD, with1, ordD, mulD, modD, fdivD, powD, intO, Out.then, bindT, setAll, itemsD, rangeD, runF, start', mkSg, mkSgG, opD, small62, wipeE, compL, forL, List.replicate, tyIs, hc]) (by simp [evB])⟩
  obtain ⟨X, τ1, hif⟩ := hif (mkSg tk [] [] ns)
  refine ⟨τ1.cur % m, ⟨τ1.pos, τ1.cur / m⟩, ?_, Int.emod_nonneg _ (by omega), Int.emod_lt_of_pos _ h0⟩
  unfold GDraw Grun
  rw [if_pos (show [D.int m].length = 1 from rfl)]
  refine runF_rt ?_
  show evB _ ir_law_draw [.tape, .d (.int m), .un, .un, .un] τ = _
  unfold ir_law_draw
  rw [evB_nx (ρ1 := [.tape, .d (.int m), .d (.int 2305843009213693951), .un, .un]) (τ1 := τ) (by simp [evB, evS, ev, evs, evt, evp, evi, binD, cmpD, bD, mD, neD, eqD, truD, ixD, inD, inB, slD, lenD, intD, maxD, minD, addD, subD, negD, joinD, joinS, txsO, lowerD, upperD, startsD, endsD, stripD, with1, ordD, mulD, modD, fdivD, powD, intO, Out.then, bindT, setAll, itemsD, rangeD, runF, start', mkSg, mkSgG, opD, small62, wipeE, compL, forL, List.replicate, tyIs]), evB_nx hif]
  rw [evB_nx (ρ1 := [.tape, .d (.int m), .d (.int 2305843009213693951), X, .d (.int (τ1.cur % m))]) (τ1 := τ1) (by simp [evB, evS, ev, evs, evt, evp, evi, binD, cmpD, bD, mD, neD, eqD, truD, ixD, inD, inB, slD, lenD, intD, maxD, minD, addD, subD, negD, joinD, joinS, txsO, lowerD, upperD, startsD, endsD, stripD, with1, ordD, mulD, modD, fdivD, powD, intO, Out.then, bindT, setAll, itemsD, rangeD, runF, start', mkSg, mkSgG, opD, small62, wipeE, compL, forL, List.replicate, tyIs, h0])]
  rw [evB_nx (ρ1 := [.tape, .d (.int m), .d (.int 2305843009213693951), X, .d (.int (τ1.cur % m))]) (τ1 := ⟨τ1.pos, τ1.cur / m⟩) (by simp [evB, evS, ev, evs, evt, evp, evi, binD, cmpD, bD, mD, neD, eqD, truD, ixD, inD, inB, slD, lenD, intD, maxD, minD, addD, subD, negD, joinD, joinS, txsO, lowerD, upperD, startsD, endsD, stripD, with1, ordD, mulD, modD, fdivD, powD, intO, Out.then, bindT, setAll, itemsD, rangeD, runF, start', mkSg, mkSgG, opD, small62, wipeE, compL, forL, List.replicate, tyIs, h0, h1])]
  simp [evB, evS, ev, evs, evt, evp, evi, binD, cmpD, bD, mD, neD, eqD, truD, ixD, inD, inB, slD, lenD, intD, maxD, minD, addD, subD, negD, joinD, joinS, txsO, lowerD, upperD, startsD, endsD, stripD, with1, ordD, mulD, modD, fdivD, powD, intO, Out.then, bindT, setAll, itemsD, rangeD, runF, start', mkSg, mkSgG, opD, small62, wipeE, compL, forL, List.replicate, tyIs]
/-- a small draw -/
theorem draw_nat (tk : Bool) (ns : List Int) (m : Nat) (h0 : 0 < m) (h1 : m ≤ 100000) (τ : TS) : ∃ (r : Nat) (τ' : TS), GDraw tk ns [.int m] τ = some (.int r, τ') ∧ r < m := by
  obtain ⟨r, τ', e, h2, h3⟩ := draw_ok tk ns m (by omega) (by
    rw [Int.natAbs_natCast]
    have : m.log2 < 17 := (Nat.log2_lt (by omega)).mpr (by omega)
    omega) τ
  obtain ⟨k, rfl⟩ := Int.eq_ofNat_of_zero_le h2
  exact ⟨k, τ', e, by omega⟩
end PD

set_option Elab.async false
set_option linter.all false
set_option maxRecDepth 100000
set_option maxHeartbeats 4000000
/-! What the laws draw: signs, words, sets, texts. -/
namespace PD
open PySem L2
theorem draw_int (tk : Bool) (ns : List Int) (m : Nat) (mi : Int) (hm : mi = m) (h0 : 0 < m) (h1 : m ≤ 100000) (τ : TS) : ∃ (r : Nat) (τ' : TS), GDraw tk ns [.int mi] τ = some (.int r, τ') ∧ r < m := by
  subst hm
  exact draw_nat tk ns m h0 h1 τ
noncomputable abbrev cDraw (tk : Bool) : Cal := ⟨"_law_draw", true, 1, GDraw tk⟩
theorem Grun_in {tk : Bool} {n : Nat} {tp : Bool} {ar : Nat} {body : Ss} {cal : List Cal} {csts : List (Str × D)} {ns : List Int} {ds : List D} {τ τ1 : TS} {d : D} (h : ds.length = ar) (e : evB (mkSg tk cal csts ns) body (start' n tp ds) τ = some (.rt d τ1)) : Grun tk n tp ar body cal csts ns ds τ = some (d, τ1) := by
  unfold Grun
  rw [if_pos h]
  exact runF_rt e
theorem small62_nat {k : Nat} (h : k ≤ 1000000) : small62 (k : Int) = true := by
  unfold small62
  rw [decide_eq_true (show -(2 ^ 62 : Int) ≤ (k : Int) by omega), decide_eq_true (show (k : Int) < 2 ^ 62 by omega)]
  rfl
theorem rng1_aux (p : Int → Bool) (k : Int) (τ1 : TS) (hp : p k = true) : ((some (D.int k, τ1)).bind fun r => (intO r.1).bind fun n => if p n then some (rangeD 0 n.toNat 1, r.2) else none) = some (rangeD 0 k.toNat 1, τ1) := by
  simp only [Option.bind_some, intO, hp, if_true]
theorem evi_rng1 {P : Sg} {a : E} {ρ : Env'} {τ τ1 : TS} {k : Nat} (h : ev P a ρ τ = some (.int (k : Int), τ1)) (hk : k ≤ 1000000) : evi P (.rng1 a) ρ τ = some (rangeD 0 k 1, τ1) := by
  rw [evi, h]
  exact rng1_aux small62 (k : Int) τ1 (small62_nat hk)
theorem evS_fr {P : Sg} {tg : T} {it : I} {b : Ss} {ρ : Env'} {τ τ1 : TS} {xs : List D} {o : Out} (h : evi P it ρ τ = some (xs, τ1)) (h2 : forL (fun x ρ1 τ1 => (bindT tg x ρ1).bind fun ρ2 => evB P b ρ2 τ1) xs ρ τ1 = some o) : evS P (.fr tg it b) ρ τ = some o := by
  rw [evS, h]
  exact h2
/-! ### _law_sign -/
def SGN : List Nat := [97, 97, 98, 98, 65, 32, 45, 95, 46, 66, 99]
noncomputable def GSign (tk : Bool) : GF := Grun tk 1 true 0 ir_law_sign [cDraw tk] []
theorem atI_in {α : Type} {l : List α} {r : Nat} (h : r < l.length) : ∃ c, atI l (r : Int) = some c ∧ c ∈ l := ⟨l[r], atI_nat (List.getElem?_eq_getElem h), List.getElem_mem h⟩
theorem sign_ok (tk : Bool) (ns : List Int) (τ : TS) : ∃ c τ', GSign tk ns [] τ = some (.str [c], τ') ∧ c ∈ SGN := by
  obtain ⟨r, τ', e, h⟩ := draw_int tk ns 11 11 rfl (by omega) (by omega) τ
  obtain ⟨c, hc, hm⟩ := atI_in (l := SGN) (r := r) h
  refine ⟨c, τ', ?_, hm⟩
  refine Grun_in rfl ?_
  show evB _ ir_law_sign [.tape] τ = _
  unfold ir_law_sign
  refine evB_rt (evS_ret ?_)
  unfold SGN at hc
  simp [evB, evS, ev, evs, evt, evp, evi, binD, cmpD, bD, mD, neD, eqD, truD, ixD, inD, inB, slD, lenD, intD, maxD, minD, addD, subD, negD, joinD, joinS, txsO, lowerD, upperD, startsD, endsD, stripD, with1, ordD, mulD, modD, fdivD, powD, intO, Out.then, bindT, setAll, itemsD, rangeD, runF, start', mkSg, mkSgG, opD, small62, wipeE, compL, forL, List.replicate, tyIs, e, hc, sl1]
noncomputable abbrev cSign (tk : Bool) : Cal := ⟨"_law_sign", true, 0, GSign tk⟩
/-! ### _law_word -/
noncomputable def GWord (tk : Bool) : GF := Grun tk 2 true 0 ir_law_word [cSign tk, cDraw tk] []
theorem word_ok (tk : Bool) (ns : List Int) (τ : TS) : ∃ w τ', GWord tk ns [] τ = some (.str w, τ') ∧ w ≠ [] ∧ w.length ≤ 2 ∧ ∀ c ∈ w, c ∈ SGN := by
  obtain ⟨c, τ1, e1, h1⟩ := sign_ok tk ns τ
  obtain ⟨r, τ2, e2, h2⟩ := draw_int tk ns 2 2 rfl (by omega) (by omega) τ1
  obtain ⟨d, τ3, e3, h3⟩ := sign_ok tk ns τ2
  have hr : ∀ w τ', evB (mkSg tk [cSign tk, cDraw tk] [] ns) ir_law_word [.tape, .un] τ = some (.rt (.str w) τ') → GWord tk ns [] τ = some (.str w, τ') := fun w τ' h => by
    exact Grun_in rfl h
  by_cases hz : r = 0
  · subst hz
    refine ⟨[c], τ2, hr _ _ ?_, by simp, by simp, by simpa using h1⟩
    unfold ir_law_word
    rw [evB_nx (ρ1 := [.tape, .d (.str [c])]) (τ1 := τ1) (by simp [evB, evS, ev, evs, evt, evp, evi, binD, cmpD, bD, mD, neD, eqD, truD, ixD, inD, inB, slD, lenD, intD, maxD, minD, addD, subD, negD, joinD, joinS, txsO, lowerD, upperD, startsD, endsD, stripD, with1, ordD, mulD, modD, fdivD, powD, intO, Out.then, bindT, setAll, itemsD, rangeD, runF, start', mkSg, mkSgG, opD, small62, wipeE, compL, forL, List.replicate, tyIs, e1])]
    refine evB_rt (evS_ret ?_)
    simp [evB, evS, ev, evs, evt, evp, evi, binD, cmpD, bD, mD, neD, eqD, truD, ixD, inD, inB, slD, lenD, intD, maxD, minD, addD, subD, negD, joinD, joinS, txsO, lowerD, upperD, startsD, endsD, stripD, with1, ordD, mulD, modD, fdivD, powD, intO, Out.then, bindT, setAll, itemsD, rangeD, runF, start', mkSg, mkSgG, opD, small62, wipeE, compL, forL, List.replicate, tyIs, e2]
  · refine ⟨[c, d], τ3, hr _ _ ?_, by simp, by simp, by simp [h1, h3]⟩
    unfold ir_law_word
    rw [evB_nx (ρ1 := [.tape, .d (.str [c])]) (τ1 := τ1) (by simp [evB, evS, ev, evs, evt, evp, evi, binD, cmpD, bD, mD, neD, eqD, truD, ixD, inD, inB, slD, lenD, intD, maxD, minD, addD, subD, negD, joinD, joinS, txsO, lowerD, upperD, startsD, endsD, stripD, with1, ordD, mulD, modD, fdivD, powD, intO, Out.then, bindT, setAll, itemsD, rangeD, runF, start', mkSg, mkSgG, opD, small62, wipeE, compL, forL, List.replicate, tyIs, e1])]
    refine evB_rt (evS_ret ?_)
    simp [evB, evS, ev, evs, evt, evp, evi, binD, cmpD, bD, mD, neD, eqD, truD, ixD, inD, inB, slD, lenD, intD, maxD, minD, addD, subD, negD, joinD, joinS, txsO, lowerD, upperD, startsD, endsD, stripD, with1, ordD, mulD, modD, fdivD, powD, intO, Out.then, bindT, setAll, itemsD, rangeD, runF, start', mkSg, mkSgG, opD, small62, wipeE, compL, forL, List.replicate, tyIs, e2, e3, hz, sl1]
/-! ### _law_set -/
noncomputable def GSet (tk : Bool) : GF := Grun tk 3 true 0 ir_law_set [cSign tk, cDraw tk] []
theorem insS_len (a : List Nat) : ∀ l : List (List Nat), (insS a l).length ≤ l.length + 1
  | [] => by simp [insS]
  | b :: r => by
    unfold insS
    split
    · simp
    · split
      · simp
      · have := insS_len a r
        simp only [List.length_cons]; omega
theorem foldS_len (ss : List (List Nat)) : ∀ acc : List (List Nat), (ss.foldl (fun acc a => insS a acc) acc).length ≤ acc.length + ss.length := by
  induction ss with
  | nil => intro acc; simp
  | cons a r ih =>
    intro acc
    have h1 := ih (insS a acc)
    have h2 := insS_len a acc
    simp only [List.foldl_cons, List.length_cons] at *
    omega
theorem ones_of : ∀ {l : List (List Nat)}, (∀ x ∈ l, ∃ c, x = [c]) → ∃ es : List Nat, l = es.map fun c => [c]
  | [], _ => ⟨[], rfl⟩
  | x :: l, h => by
    obtain ⟨c, rfl⟩ := h x List.mem_cons_self
    obtain ⟨es, rfl⟩ := ones_of (l := l) fun y hy => h y (List.mem_cons_of_mem _ hy)
    exact ⟨c :: es, rfl⟩
/-- the sorted set of signs -/
theorem set_of (ds : List Nat) : ∃ es : List Nat, sortSetS (ds.map fun c => [c]) = es.map (fun c => [c]) ∧ es.Pairwise (· < ·) ∧ (∀ c, c ∈ es ↔ c ∈ ds) ∧ es.length ≤ ds.length := by
  have hm := sortSet_mem (ds.map fun c => [c])
  obtain ⟨es, he⟩ := ones_of (l := sortSetS (ds.map fun c => [c])) fun x hx => by
    obtain ⟨c, _, rfl⟩ := List.mem_map.mp ((hm x).mp hx)
    exact ⟨c, rfl⟩
  refine ⟨es, he, ?_, fun c => ?_, ?_⟩
  · have hp := sortSet_rise (ds.map fun c => [c])
    rw [he, List.pairwise_map] at hp
    refine hp.imp fun {a b} h => ?_
    have := List.cons_lt_cons_iff.mp h
    simpa using this
  · have := hm [c]
    rw [he] at this
    simpa using this
  · have := foldS_len (ds.map fun c => [c]) []
    have h2 : (sortSetS (ds.map fun c => [c])).length ≤ ds.length := by
      unfold sortSetS
      simpa using this
    rw [he, List.length_map] at h2
    exact h2
theorem set_loop (tk : Bool) (ns : List Int) (P : Sg) (g0 : ∀ ds, P.G 0 ds = GSign tk ns ds) : ∀ (xs : List D) (ds : List Nat) (g : Slot) (τ : TS), ds.length + xs.length ≤ 100 → (∀ c ∈ ds, c ∈ SGN) →
    ∃ (ds' : List Nat) (g' : Slot) (τ' : TS), forL (fun x ρ1 τ1 => (bindT (.nm 2) x ρ1).bind fun ρ2 => evB P (.cons (.app 1 (.callT 0 0 .nil)) .nil) ρ2 τ1) xs [.tape, .ol (ds.map fun c => .str [c]), g] τ = some (.nx [.tape, .ol (ds'.map fun c => .str [c]), g'] τ') ∧ ds'.length = ds.length + xs.length ∧ ∀ c ∈ ds', c ∈ SGN
  | [], ds, g, τ, _, h => ⟨ds, g, τ, rfl, rfl, h⟩
  | x :: xs, ds, g, τ, hl, h => by
    simp only [List.length_cons] at hl
    obtain ⟨c, τ1, e1, h1⟩ := sign_ok tk ns τ
    obtain ⟨ds', g', τ', e, h2, h3⟩ := set_loop tk ns P g0 xs (ds ++ [c]) (.d x) τ1 (by simp; omega) (fun y hy => by
      rcases List.mem_append.mp hy with q | q
      · exact h y q
      · have : y = c := by simpa using q
        rw [this]; exact h1)
    refine ⟨ds', g', τ', ?_, by rw [h2]; simp; omega, h3⟩
    have hs : ds.length < sizeLine := by rw [sizeLine_eq]; omega
    rw [forL_step (ρ1 := [.tape, .ol ((ds ++ [c]).map fun c => .str [c]), .d x]) (τ1 := τ1) (by simp [evB, evS, ev, evs, evt, evp, evi, binD, cmpD, bD, mD, neD, eqD, truD, ixD, inD, inB, slD, lenD, intD, maxD, minD, addD, subD, negD, joinD, joinS, txsO, lowerD, upperD, startsD, endsD, stripD, with1, ordD, mulD, modD, fdivD, powD, intO, Out.then, bindT, setAll, itemsD, rangeD, runF, start', mkSg, mkSgG, opD, small62, wipeE, compL, forL, List.replicate, tyIs, g0, e1, hs]), e]
theorem sset_ok (tk : Bool) (ns : List Int) (τ : TS) : ∃ s τ', GSet tk ns [] τ = some (.str s, τ') ∧ s ≠ [] ∧ s.length ≤ 3 ∧ s.Pairwise (· < ·) ∧ ∀ c ∈ s, c ∈ SGN := by
  obtain ⟨c, τ1, e1, h1⟩ := sign_ok tk ns τ
  obtain ⟨k, τ2, e2, h2⟩ := draw_int tk ns 3 3 rfl (by omega) (by omega) τ1
  obtain ⟨ds', g', τ3, e3, h3, h4⟩ := set_loop tk ns (mkSg tk [cSign tk, cDraw tk] [] ns) (fun _ => rfl) (rangeD 0 k 1) [c] .un τ2 (by simp [rangeD]; omega) (by simpa using h1)
  simp only [rangeD, List.length_map, List.length_range, List.length_singleton] at h3
  obtain ⟨es, s1, s2, s3, s4⟩ := set_of ds'
  refine ⟨es, τ3, ?_, ?_, by omega, s2, fun x hx => h4 x ((s3 x).mp hx)⟩
  · refine Grun_in rfl ?_
    show evB _ ir_law_set [.tape, .un, .un] τ = _
    unfold ir_law_set
    rw [evB_nx (ρ1 := [.tape, .ol ([c].map fun c => .str [c]), .un]) (τ1 := τ1) (by simp [evB, evS, ev, evs, evt, evp, evi, binD, cmpD, bD, mD, neD, eqD, truD, ixD, inD, inB, slD, lenD, intD, maxD, minD, addD, subD, negD, joinD, joinS, txsO, lowerD, upperD, startsD, endsD, stripD, with1, ordD, mulD, modD, fdivD, powD, intO, Out.then, bindT, setAll, itemsD, rangeD, runF, start', mkSg, mkSgG, opD, small62, wipeE, compL, forL, List.replicate, tyIs, e1, sl1])]
    rw [evB_nx (ρ1 := [.tape, .ol (ds'.map fun c => .str [c]), g']) (τ1 := τ3) (by
      refine evS_fr (evi_rng1 (k := k) (τ1 := τ2) ?_ (by omega)) e3
      simp [ev, evs, mkSg, mkSgG, e2])]
    rw [evB]
    simp only [List.getElem?_cons_zero, List.getElem?_cons_succ]
    refine evB_rt (evS_ret ?_)
    have hj := join_ones (fun c => c) es (by omega)
    rw [List.map_id'] at hj
    have ht : txsO (ds'.map fun c => .str [c]) = some (ds'.map fun c => [c]) := by
      have := strs_map (ds'.map fun c => [c])
      rw [List.map_map] at this
      exact this
    have hl : (ds'.map fun c => [c]).length + 1 < 4000 := by rw [List.length_map]; omega
    refine ev_join (ds := (es.map fun c => [c]).map .str) ?_ hj
    simp only [ev, List.set, List.getElem?_cons_zero, List.getElem?_cons_succ, Option.bind_some, srtD, ht, hl, if_true, s1, Option.map_some]
  · intro z
    subst z
    have : ds' ≠ [] := fun z => by rw [z] at h3; simp at h3; omega
    cases ds' with
    | nil => exact this rfl
    | cons x r => have := (s3 x).mpr List.mem_cons_self; simp at this
/-! ### _law_text -/
def ALP : List Nat := [97, 97, 98, 98, 65, 32, 45, 95, 46, 66, 99, 120, 88]
noncomputable def GText (tk : Bool) : GF := Grun tk 4 true 1 ir_law_text [cDraw tk] []
theorem text_loop (tk : Bool) (ns : List Int) (P : Sg) (g0 : ∀ ds, P.G 0 ds = GDraw tk ns ds) (m : D) : ∀ (xs : List D) (f : List Nat) (g : Slot) (τ : TS), f.length + 2 * xs.length ≤ 4000 → (∀ c ∈ f, c ∈ ALP) →
    ∃ (f' : List Nat) (g' : Slot) (τ' : TS), forL (fun x ρ1 τ1 => (bindT (.nm 3) x ρ1).bind fun ρ2 => evB P (.cons (.set 2 (.bin .Add (.var 2) (.bin .Mult (.idx (.str [97, 97, 98, 98, 65, 32, 45, 95, 46, 66, 99, 120, 88]) (.callT 0 0 (.cons (.int 13) .nil))) (.bin .Add (.int 1) (.callT 0 0 (.cons (.int 2) .nil)))))) .nil) ρ2 τ1) xs [.tape, .d m, .d (.str f), g] τ = some (.nx [.tape, .d m, .d (.str f'), g'] τ') ∧ f'.length ≤ f.length + 2 * xs.length ∧ ∀ c ∈ f', c ∈ ALP
  | [], f, g, τ, _, h => ⟨f, g, τ, rfl, by simp, h⟩
  | x :: xs, f, g, τ, hl, h => by
    simp only [List.length_cons] at hl
    obtain ⟨r, τ1, e1, h1⟩ := draw_int tk ns 13 13 rfl (by omega) (by omega) τ
    obtain ⟨c, hc, hm⟩ := atI_in (l := ALP) (r := r) h1
    obtain ⟨k, τ2, e2, h2⟩ := draw_int tk ns 2 2 rfl (by omega) (by omega) τ1
    obtain ⟨f', g', τ', e, h3, h4⟩ := text_loop tk ns P g0 m xs (f ++ List.replicate (1 + k) c) (.d x) τ2 (by simp; omega) (fun y hy => by
      rcases List.mem_append.mp hy with q | q
      · exact h y q
      · rw [(List.mem_replicate.mp q).2]; exact hm)
    refine ⟨f', g', τ', ?_, by simp at h3 ⊢; omega, h4⟩
    have hs : f.length + (1 + k) ≤ sizeLine := by rw [sizeLine_eq]; omega
    have hk : (1 + (k : Int)).toNat = 1 + k := by omega
    have hk1 : (0 : Int) ≤ 1 + (k : Int) := by omega
    have hk2 : 1 + (k : Int) ≤ 1000 := by omega
    have hfl : (List.replicate (1 + k) [c]).flatten = List.replicate (1 + k) c := by simp
    unfold ALP at hc
    rw [forL_step (ρ1 := [.tape, .d m, .d (.str (f ++ List.replicate (1 + k) c)), .d x]) (τ1 := τ2) (by simp [evB, evS, ev, evs, binD, addD, mulD, ixD, bindT, Out.then, g0, e1, e2, hc, hk, hk1, hk2, hs, sl1]), e]
theorem text_ok (tk : Bool) (ns : List Int) (m : Nat) (mi : Int) (hmi : mi = m) (hm : m ≤ 1000) (τ : TS) : ∃ t τ', GText tk ns [.int mi] τ = some (.str t, τ') ∧ t.length ≤ m ∧ ∀ c ∈ t, c ∈ ALP := by
  subst hmi
  obtain ⟨k, τ1, e1, h1⟩ := draw_int tk ns (m + 1) ((m : Int) + 1) (by omega) (by omega) (by omega) τ
  obtain ⟨f', g', τ', e, h3, h4⟩ := text_loop tk ns (mkSg tk [cDraw tk] [] ns) (fun _ => rfl) (.int m) (rangeD 0 k 1) [] .un τ1 (by simp [rangeD]; omega) (by simp)
  refine ⟨f'.take m, τ', ?_, by rw [List.length_take]; omega, fun c hc => h4 c (List.mem_of_mem_take hc)⟩
  refine Grun_in rfl ?_
  show evB _ ir_law_text [.tape, .d (.int m), .un, .un] τ = _
  unfold ir_law_text
  rw [evB_nx (ρ1 := [.tape, .d (.int m), .d (.str []), .un]) (τ1 := τ) (by simp [evB, evS, ev, evs, evt, evp, evi, binD, cmpD, bD, mD, neD, eqD, truD, ixD, inD, inB, slD, lenD, intD, maxD, minD, addD, subD, negD, joinD, joinS, txsO, lowerD, upperD, startsD, endsD, stripD, with1, ordD, mulD, modD, fdivD, powD, intO, Out.then, bindT, setAll, itemsD, rangeD, runF, start', mkSg, mkSgG, opD, small62, wipeE, compL, forL, List.replicate, tyIs])]
  rw [evB_nx (ρ1 := [.tape, .d (.int m), .d (.str f'), g']) (τ1 := τ') (by
    refine evS_fr (evi_rng1 (k := k) (τ1 := τ1) ?_ (by omega)) e
    simp [ev, evs, mkSg, mkSgG, binD, addD, e1])]
  have hl : f'.length ≤ 4000 := by simp [rangeD] at h3; omega
  refine evB_rt (evS_ret ?_)
  simp [evB, evS, ev, evs, evt, evp, evi, binD, cmpD, bD, mD, neD, eqD, truD, ixD, inD, inB, slD, lenD, intD, maxD, minD, addD, subD, negD, joinD, joinS, txsO, lowerD, upperD, startsD, endsD, stripD, with1, ordD, mulD, modD, fdivD, powD, intO, Out.then, bindT, setAll, itemsD, rangeD, runF, start', mkSg, mkSgG, opD, small62, wipeE, compL, forL, List.replicate, tyIs, cut_to, sl1 hl]
end PD

set_option Elab.async false
set_option linter.all false
set_option maxRecDepth 100000
set_option maxHeartbeats 4000000
/-! _law_done, _law_like. -/
namespace PD
open PySem L2
noncomputable def GLD (tk : Bool) : GF := Grun tk 7 false 2 ir_law_done [] []
theorem last_at (p : List Nat) (c : Nat) (r : List Nat) : atI (p ++ c :: r) (p.length : Int) = some c := atI_nat (xs := p ++ c :: r) (j := p.length) (v := c) (by simp)
abbrev sqBody : Ss := (.cons (.ife (.cmp .NotIn (.var 5) (.idx (.var 1) (.int 1))) (.cons (.set 3 (.bin .Add (.var 3) (.var 5))) .nil) (.cons (.ife (.and (.cmp .Eq (.var 2) (.str [115, 113, 117, 101, 101, 122, 101])) (.one (.or (.cmp .Eq (.var 4) (.int 0)) (.one (.cmp .NotEq (.idx (.var 0) (.bin .Sub (.var 4) (.int 1))) (.var 5)))))) (.cons (.set 3 (.bin .Add (.var 3) (.var 5))) .nil) (.cons (.ife (.and (.cmp .Eq (.var 2) (.str [106, 111, 105, 110])) (.one (.or (.cmp .Eq (.var 4) (.int 0)) (.one (.cmp .NotIn (.idx (.var 0) (.bin .Sub (.var 4) (.int 1))) (.idx (.var 1) (.int 1))))))) (.cons (.set 3 (.bin .Add (.var 3) (.idx (.var 1) (.int 2)))) .nil) .nil) .nil)) .nil)) .nil)
noncomputable abbrev sqF (P : Sg) : D → Env' → TS → Option Out := fun x ρ1 τ1 => (bindT (.cons (.nm 4) (.cons (.nm 5) .nil)) x ρ1).bind fun ρ2 => evB P sqBody ρ2 τ1
theorem lsq_loop (P : Sg) (s : List Nat) (τ : TS) : ∀ (r p f : List Nat) (g4 g5 g6 : Slot), f.length + r.length ≤ 4000 → (p ++ r).length ≤ 4000 →
    ∃ g4' g5', forL (sqF P) (enumD p.length (r.map fun c => .str [c])) [.d (.str (p ++ r)), .d (Stp.squeeze s).d, .d (.str [115, 113, 117, 101, 101, 122, 101]), .d (.str f), g4, g5, g6] τ
      = some (.nx [.d (.str (p ++ r)), .d (Stp.squeeze s).d, .d (.str [115, 113, 117, 101, 101, 122, 101]), .d (.str (f ++ sqL s p.getLast? r)), g4', g5', g6] τ)
  | [], p, f, g4, g5, g6, _, _ => ⟨g4, g5, by simp [forL, sqL, enumD]⟩
  | c :: r, p, f, g4, g5, g6, h, h' => by
    simp only [List.length_cons] at h
    have h2 := sl1 (show f.length + 1 ≤ 4000 by omega)
    have hpl := sl1 h'
    simp only [List.length_append, List.length_cons] at hpl
    have eP : p ++ c :: r = (p ++ [c]) ++ r := by simp
    have hl : (p ++ [c]).length = p.length + 1 := by simp
    have hla : (p ++ [c]).getLast? = some c := by simp
    rw [List.map_cons, enumD, sqL]
    have step : ∀ f1, evB P sqBody [.d (.str (p ++ c :: r)), .d (Stp.squeeze s).d, .d (.str [115, 113, 117, 101, 101, 122, 101]), .d (.str f), .d (.int p.length), .d (.str [c]), g6] τ = some (.nx [.d (.str (p ++ c :: r)), .d (Stp.squeeze s).d, .d (.str [115, 113, 117, 101, 101, 122, 101]), .d (.str f1), .d (.int p.length), .d (.str [c]), g6] τ) →
        f1.length + r.length ≤ 4000 → ∃ g4' g5', forL (sqF P) (.tup [.int p.length, .str [c]] :: enumD (p.length + 1) (r.map fun c => .str [c])) [.d (.str (p ++ c :: r)), .d (Stp.squeeze s).d, .d (.str [115, 113, 117, 101, 101, 122, 101]), .d (.str f), g4, g5, g6] τ
          = some (.nx [.d (.str (p ++ c :: r)), .d (Stp.squeeze s).d, .d (.str [115, 113, 117, 101, 101, 122, 101]), .d (.str (f1 ++ sqL s (some c) r)), g4', g5', g6] τ) := by
      intro f1 e1 hf
      obtain ⟨g4', g5', e⟩ := lsq_loop P s τ r (p ++ [c]) f1 (.d (.int p.length)) (.d (.str [c])) g6 hf (by rw [← eP]; exact h')
      refine ⟨g4', g5', ?_⟩
      rw [forL_step (ρ1 := [.d (.str (p ++ c :: r)), .d (Stp.squeeze s).d, .d (.str [115, 113, 117, 101, 101, 122, 101]), .d (.str f1), .d (.int p.length), .d (.str [c]), g6]) (τ1 := τ) (by simp only [sqF, bindT, Option.bind_some, List.set]; exact e1)]
      rw [hl, hla, ← eP] at e
      exact e
    by_cases hc : c ∈ s
    · by_cases hp : p.getLast? = some c
      · rw [if_pos ⟨hc, hp⟩]
        refine step f ?_ (by omega)
        obtain ⟨q, rfl⟩ : ∃ q, p = q ++ [c] := by
          rcases List.eq_nil_or_concat p with z | ⟨q, d, z⟩
          · subst z; simp at hp
          · subst z
            have : d = c := by simpa using hp
            exact ⟨q, by rw [this]; simp⟩
        have ha := last_at q c (c :: r)
        have hz : ¬ ((q.length : Int) + 1 = 0) := by omega
        simp only [List.length_append, List.length_singleton] at hpl
        have hpl' : q.length + (r.length + 1 + 1) ≤ sizeLine := by omega
        have hpl2 : q.length + 1 + (r.length + 1) ≤ sizeLine := by omega
        simp [evB, evS, ev, evs, evt, evp, evi, binD, cmpD, bD, mD, neD, eqD, truD, ixD, inD, inB, slD, lenD, intD, maxD, minD, addD, subD, negD, joinD, joinS, txsO, lowerD, upperD, startsD, endsD, stripD, with1, ordD, mulD, modD, fdivD, powD, intO, Out.then, bindT, setAll, itemsD, rangeD, runF, start', mkSg, mkSgG, opD, small62, wipeE, compL, forL, List.replicate, tyIs, sqBody, Stp.d, hc, hpl', hpl2, hz, ha]
      · rw [if_neg (fun z => hp z.2)]
        obtain ⟨g4', g5', e⟩ := step (f ++ [c]) (by
          rcases List.eq_nil_or_concat p with z | ⟨q, d, z⟩
          · subst z
            simp [evB, evS, ev, evs, evt, evp, evi, binD, cmpD, bD, mD, neD, eqD, truD, ixD, inD, inB, slD, lenD, intD, maxD, minD, addD, subD, negD, joinD, joinS, txsO, lowerD, upperD, startsD, endsD, stripD, with1, ordD, mulD, modD, fdivD, powD, intO, Out.then, bindT, setAll, itemsD, rangeD, runF, start', mkSg, mkSgG, opD, small62, wipeE, compL, forL, List.replicate, tyIs, sqBody, Stp.d, hc, h2]
          · have z : p = q ++ [d] := by rw [z]; simp
            subst z
            have hd : ¬ d = c := by simpa using hp
            have ha := last_at q d (c :: r)
            have hz : ¬ ((q.length : Int) + 1 = 0) := by omega
            simp only [List.length_append, List.length_singleton] at hpl
            have hpl' : q.length + (r.length + 1 + 1) ≤ sizeLine := by omega
            have hpl2 : q.length + 1 + (r.length + 1) ≤ sizeLine := by omega
            simp [evB, evS, ev, evs, evt, evp, evi, binD, cmpD, bD, mD, neD, eqD, truD, ixD, inD, inB, slD, lenD, intD, maxD, minD, addD, subD, negD, joinD, joinS, txsO, lowerD, upperD, startsD, endsD, stripD, with1, ordD, mulD, modD, fdivD, powD, intO, Out.then, bindT, setAll, itemsD, rangeD, runF, start', mkSg, mkSgG, opD, small62, wipeE, compL, forL, List.replicate, tyIs, sqBody, Stp.d, hc, h2, hpl', hpl2, hz, ha, hd]) (by simp; omega)
        exact ⟨g4', g5', by rw [e]; simp⟩
    · rw [if_neg (fun z => hc z.1)]
      obtain ⟨g4', g5', e⟩ := step (f ++ [c]) (by simp [evB, evS, ev, evs, evt, evp, evi, binD, cmpD, bD, mD, neD, eqD, truD, ixD, inD, inB, slD, lenD, intD, maxD, minD, addD, subD, negD, joinD, joinS, txsO, lowerD, upperD, startsD, endsD, stripD, with1, ordD, mulD, modD, fdivD, powD, intO, Out.then, bindT, setAll, itemsD, rangeD, runF, start', mkSg, mkSgG, opD, small62, wipeE, compL, forL, List.replicate, tyIs, sqBody, Stp.d, hc, h2]) (by simp; omega)
      exact ⟨g4', g5', by rw [e]; simp⟩
def prevIn (s : List Nat) (p : List Nat) : Bool := match p.getLast? with
  | some c => decide (c ∈ s)
  | none => false
theorem ljo_loop (P : Sg) (s : List Nat) (o : Nat) (τ : TS) : ∀ (r p f : List Nat) (g4 g5 g6 : Slot), f.length + r.length ≤ 4000 → (p ++ r).length ≤ 4000 →
    ∃ g4' g5', forL (sqF P) (enumD p.length (r.map fun c => .str [c])) [.d (.str (p ++ r)), .d (Stp.join s o).d, .d (.str [106, 111, 105, 110]), .d (.str f), g4, g5, g6] τ
      = some (.nx [.d (.str (p ++ r)), .d (Stp.join s o).d, .d (.str [106, 111, 105, 110]), .d (.str (f ++ joL s [o] (prevIn s p) r)), g4', g5', g6] τ)
  | [], p, f, g4, g5, g6, _, _ => ⟨g4, g5, by simp [forL, joL, enumD]⟩
  | c :: r, p, f, g4, g5, g6, h, h' => by
    simp only [List.length_cons] at h
    have h2 := sl1 (show f.length + 1 ≤ 4000 by omega)
    have hpl := sl1 h'
    simp only [List.length_append, List.length_cons] at hpl
    have eP : p ++ c :: r = (p ++ [c]) ++ r := by simp
    have hl : (p ++ [c]).length = p.length + 1 := by simp
    have hla : prevIn s (p ++ [c]) = decide (c ∈ s) := by simp [prevIn]
    rw [List.map_cons, enumD, joL]
    have step : ∀ f1, evB P sqBody [.d (.str (p ++ c :: r)), .d (Stp.join s o).d, .d (.str [106, 111, 105, 110]), .d (.str f), .d (.int p.length), .d (.str [c]), g6] τ = some (.nx [.d (.str (p ++ c :: r)), .d (Stp.join s o).d, .d (.str [106, 111, 105, 110]), .d (.str f1), .d (.int p.length), .d (.str [c]), g6] τ) →
        f1.length + r.length ≤ 4000 → ∃ g4' g5', forL (sqF P) (.tup [.int p.length, .str [c]] :: enumD (p.length + 1) (r.map fun c => .str [c])) [.d (.str (p ++ c :: r)), .d (Stp.join s o).d, .d (.str [106, 111, 105, 110]), .d (.str f), g4, g5, g6] τ
          = some (.nx [.d (.str (p ++ c :: r)), .d (Stp.join s o).d, .d (.str [106, 111, 105, 110]), .d (.str (f1 ++ joL s [o] (decide (c ∈ s)) r)), g4', g5', g6] τ) := by
      intro f1 e1 hf
      obtain ⟨g4', g5', e⟩ := ljo_loop P s o τ r (p ++ [c]) f1 (.d (.int p.length)) (.d (.str [c])) g6 hf (by rw [← eP]; exact h')
      refine ⟨g4', g5', ?_⟩
      rw [forL_step (ρ1 := [.d (.str (p ++ c :: r)), .d (Stp.join s o).d, .d (.str [106, 111, 105, 110]), .d (.str f1), .d (.int p.length), .d (.str [c]), g6]) (τ1 := τ) (by simp only [sqF, bindT, Option.bind_some, List.set]; exact e1)]
      rw [hl, hla, ← eP] at e
      exact e
    by_cases hc : c ∈ s
    · rw [if_pos hc]
      have hcd : decide (c ∈ s) = true := decide_eq_true hc
      rw [hcd] at step
      rcases List.eq_nil_or_concat p with z | ⟨q, d, z⟩
      · subst z
        obtain ⟨g4', g5', e⟩ := step (f ++ [o]) (by simp [evB, evS, ev, evs, evt, evp, evi, binD, cmpD, bD, mD, neD, eqD, truD, ixD, inD, inB, slD, lenD, intD, maxD, minD, addD, subD, negD, joinD, joinS, txsO, lowerD, upperD, startsD, endsD, stripD, with1, ordD, mulD, modD, fdivD, powD, intO, Out.then, bindT, setAll, itemsD, rangeD, runF, start', mkSg, mkSgG, opD, small62, wipeE, compL, forL, List.replicate, tyIs, sqBody, Stp.d, hc, h2]) (by simp; omega)
        exact ⟨g4', g5', by rw [e]; simp [prevIn]⟩
      · have z : p = q ++ [d] := by rw [z]; simp
        subst z
        have ha := last_at q d (c :: r)
        have hz : ¬ ((q.length : Int) + 1 = 0) := by omega
        simp only [List.length_append, List.length_singleton] at hpl
        have hpl' : q.length + (r.length + 1 + 1) ≤ sizeLine := by omega
        have hpl2 : q.length + 1 + (r.length + 1) ≤ sizeLine := by omega
        by_cases hd : d ∈ s
        · obtain ⟨g4', g5', e⟩ := step f (by simp [evB, evS, ev, evs, evt, evp, evi, binD, cmpD, bD, mD, neD, eqD, truD, ixD, inD, inB, slD, lenD, intD, maxD, minD, addD, subD, negD, joinD, joinS, txsO, lowerD, upperD, startsD, endsD, stripD, with1, ordD, mulD, modD, fdivD, powD, intO, Out.then, bindT, setAll, itemsD, rangeD, runF, start', mkSg, mkSgG, opD, small62, wipeE, compL, forL, List.replicate, tyIs, sqBody, Stp.d, hc, hpl', hpl2, hz, ha, hd]) (by omega)
          exact ⟨g4', g5', by rw [e]; simp [prevIn, hd]⟩
        · obtain ⟨g4', g5', e⟩ := step (f ++ [o]) (by simp [evB, evS, ev, evs, evt, evp, evi, binD, cmpD, bD, mD, neD, eqD, truD, ixD, inD, inB, slD, lenD, intD, maxD, minD, addD, subD, negD, joinD, joinS, txsO, lowerD, upperD, startsD, endsD, stripD, with1, ordD, mulD, modD, fdivD, powD, intO, Out.then, bindT, setAll, itemsD, rangeD, runF, start', mkSg, mkSgG, opD, small62, wipeE, compL, forL, List.replicate, tyIs, sqBody, Stp.d, hc, h2, hpl', hpl2, hz, ha, hd]) (by simp; omega)
          exact ⟨g4', g5', by rw [e]; simp [prevIn, hd]⟩
    · rw [if_neg hc]
      have hcd : decide (c ∈ s) = false := decide_eq_false hc
      rw [hcd] at step
      obtain ⟨g4', g5', e⟩ := step (f ++ [c]) (by simp [evB, evS, ev, evs, evt, evp, evi, binD, cmpD, bD, mD, neD, eqD, truD, ixD, inD, inB, slD, lenD, intD, maxD, minD, addD, subD, negD, joinD, joinS, txsO, lowerD, upperD, startsD, endsD, stripD, with1, ordD, mulD, modD, fdivD, powD, intO, Out.then, bindT, setAll, itemsD, rangeD, runF, start', mkSg, mkSgG, opD, small62, wipeE, compL, forL, List.replicate, tyIs, sqBody, Stp.d, hc, h2]) (by simp; omega)
      exact ⟨g4', g5', by rw [e]; simp⟩
end PD

set_option Elab.async false
set_option linter.all false
set_option maxRecDepth 100000
set_option maxHeartbeats 8000000
/-! _law_done of a step; _law_like of two texts. -/
namespace PD
open PySem L2
abbrev whB : Ss := (.cons (.ife (.cmp .In (.var 2) (.tup (.cons (.str [102, 114, 111, 110, 116]) (.cons (.str [102, 114, 111, 110, 116, 115]) .nil)))) (.cons (.set 6 (.cmp .Eq (.sl (.var 0) .nope (.blt .len (.cons (.idx (.var 1) (.int 1)) .nil))) (.idx (.var 1) (.int 1)))) (.cons (.set 0 (.ife (.val (.var 6)) (.sl (.var 0) (.blt .len (.cons (.idx (.var 1) (.int 1)) .nil)) .nope) (.var 0))) .nil)) (.cons (.set 6 (.and (.cmp .GtE (.blt .len (.cons (.var 0) .nil)) (.blt .len (.cons (.idx (.var 1) (.int 1)) .nil))) (.one (.cmp .Eq (.sl (.var 0) (.bin .Sub (.blt .len (.cons (.var 0) .nil)) (.blt .len (.cons (.idx (.var 1) (.int 1)) .nil))) .nope) (.idx (.var 1) (.int 1)))))) (.cons (.set 0 (.ife (.val (.var 6)) (.sl (.var 0) .nope (.bin .Sub (.blt .len (.cons (.var 0) .nil)) (.blt .len (.cons (.idx (.var 1) (.int 1)) .nil)))) (.var 0))) .nil))) (.cons (.set 6 (.and (.var 6) (.one (.cmp .In (.var 2) (.tup (.cons (.str [102, 114, 111, 110, 116, 115]) (.cons (.str [98, 97, 99, 107, 115]) .nil))))))) .nil))
abbrev FrW (st : D) (k : List Nat) (t : List Nat) (b : Bool) : Env' := [.d (.str t), .d st, .d (.str k), .un, .un, .un, .d (.bl b)]
theorem cut_subf (t : List Nat) (m : Nat) (h : m ≤ t.length) : cutL t (some ((t.length : Int) - (m : Int))) none = t.drop (t.length - m) := by
  have := cut_from t (t.length - m)
  rw [← this]
  congr 2
  omega
theorem whB_front (P : Sg) (w t : List Nat) (hw : w ≠ []) (hl : w.length ≤ 4000) (ht : t.length ≤ 4000) (τ : TS) :
    evB P whB (FrW (Stp.front w).d [102, 114, 111, 110, 116] t true) τ = some (.nx (FrW (Stp.front w).d [102, 114, 111, 110, 116] (if t.take w.length = w then t.drop w.length else t) false) τ) := by
  by_cases h : t.take w.length = w
  · simp [evB, evS, ev, evs, evt, evp, evi, binD, cmpD, bD, mD, neD, eqD, truD, ixD, inD, inB, slD, lenD, intD, maxD, minD, addD, subD, negD, joinD, joinS, txsO, lowerD, upperD, startsD, endsD, stripD, with1, ordD, mulD, modD, fdivD, powD, intO, Out.then, bindT, setAll, itemsD, rangeD, runF, start', mkSg, mkSgG, opD, small62, wipeE, compL, forL, List.replicate, tyIs, whB, FrW, Stp.d, okT, isMap, sl1, sl1 hl, sl1 ht, cut_to, cut_from, h]
  · simp [evB, evS, ev, evs, evt, evp, evi, binD, cmpD, bD, mD, neD, eqD, truD, ixD, inD, inB, slD, lenD, intD, maxD, minD, addD, subD, negD, joinD, joinS, txsO, lowerD, upperD, startsD, endsD, stripD, with1, ordD, mulD, modD, fdivD, powD, intO, Out.then, bindT, setAll, itemsD, rangeD, runF, start', mkSg, mkSgG, opD, small62, wipeE, compL, forL, List.replicate, tyIs, whB, FrW, Stp.d, okT, isMap, sl1, sl1 hl, sl1 ht, cut_to, cut_from, h]
theorem whB_fronts (P : Sg) (w t : List Nat) (hw : w ≠ []) (hl : w.length ≤ 4000) (ht : t.length ≤ 4000) (τ : TS) :
    evB P whB (FrW (Stp.fronts w).d [102, 114, 111, 110, 116, 115] t true) τ = some (.nx (FrW (Stp.fronts w).d [102, 114, 111, 110, 116, 115] (if t.take w.length = w then t.drop w.length else t) (decide (t.take w.length = w))) τ) := by
  by_cases h : t.take w.length = w
  · simp [evB, evS, ev, evs, evt, evp, evi, binD, cmpD, bD, mD, neD, eqD, truD, ixD, inD, inB, slD, lenD, intD, maxD, minD, addD, subD, negD, joinD, joinS, txsO, lowerD, upperD, startsD, endsD, stripD, with1, ordD, mulD, modD, fdivD, powD, intO, Out.then, bindT, setAll, itemsD, rangeD, runF, start', mkSg, mkSgG, opD, small62, wipeE, compL, forL, List.replicate, tyIs, whB, FrW, Stp.d, okT, isMap, sl1, sl1 hl, sl1 ht, cut_to, cut_from, h]
  · simp [evB, evS, ev, evs, evt, evp, evi, binD, cmpD, bD, mD, neD, eqD, truD, ixD, inD, inB, slD, lenD, intD, maxD, minD, addD, subD, negD, joinD, joinS, txsO, lowerD, upperD, startsD, endsD, stripD, with1, ordD, mulD, modD, fdivD, powD, intO, Out.then, bindT, setAll, itemsD, rangeD, runF, start', mkSg, mkSgG, opD, small62, wipeE, compL, forL, List.replicate, tyIs, whB, FrW, Stp.d, okT, isMap, sl1, sl1 hl, sl1 ht, cut_to, cut_from, h]
theorem whB_back (P : Sg) (w t : List Nat) (hw : w ≠ []) (hl : w.length ≤ 4000) (ht : t.length ≤ 4000) (τ : TS) :
    evB P whB (FrW (Stp.back w).d [98, 97, 99, 107] t true) τ = some (.nx (FrW (Stp.back w).d [98, 97, 99, 107] (if w.length ≤ t.length ∧ t.drop (t.length - w.length) = w then t.take (t.length - w.length) else t) false) τ) := by
  by_cases h1 : w.length ≤ t.length
  · by_cases h : t.drop (t.length - w.length) = w
    · simp [evB, evS, ev, evs, evt, evp, evi, binD, cmpD, bD, mD, neD, eqD, truD, ixD, inD, inB, slD, lenD, intD, maxD, minD, addD, subD, negD, joinD, joinS, txsO, lowerD, upperD, startsD, endsD, stripD, with1, ordD, mulD, modD, fdivD, powD, intO, Out.then, bindT, setAll, itemsD, rangeD, runF, start', mkSg, mkSgG, opD, small62, wipeE, compL, forL, List.replicate, tyIs, whB, FrW, Stp.d, okT, isMap, sl1, sl1 hl, sl1 ht, cut_subf t w.length h1, cut_sub t w.length h1, h, h1, Nat.not_lt.mpr h1]
    · simp [evB, evS, ev, evs, evt, evp, evi, binD, cmpD, bD, mD, neD, eqD, truD, ixD, inD, inB, slD, lenD, intD, maxD, minD, addD, subD, negD, joinD, joinS, txsO, lowerD, upperD, startsD, endsD, stripD, with1, ordD, mulD, modD, fdivD, powD, intO, Out.then, bindT, setAll, itemsD, rangeD, runF, start', mkSg, mkSgG, opD, small62, wipeE, compL, forL, List.replicate, tyIs, whB, FrW, Stp.d, okT, isMap, sl1, sl1 hl, sl1 ht, cut_subf t w.length h1, cut_sub t w.length h1, h, h1, Nat.not_lt.mpr h1]
  · simp [evB, evS, ev, evs, evt, evp, evi, binD, cmpD, bD, mD, neD, eqD, truD, ixD, inD, inB, slD, lenD, intD, maxD, minD, addD, subD, negD, joinD, joinS, txsO, lowerD, upperD, startsD, endsD, stripD, with1, ordD, mulD, modD, fdivD, powD, intO, Out.then, bindT, setAll, itemsD, rangeD, runF, start', mkSg, mkSgG, opD, small62, wipeE, compL, forL, List.replicate, tyIs, whB, FrW, Stp.d, okT, isMap, sl1, sl1 hl, sl1 ht, h1, Nat.lt_of_not_le h1]
theorem whB_backs (P : Sg) (w t : List Nat) (hw : w ≠ []) (hl : w.length ≤ 4000) (ht : t.length ≤ 4000) (τ : TS) :
    evB P whB (FrW (Stp.backs w).d [98, 97, 99, 107, 115] t true) τ = some (.nx (FrW (Stp.backs w).d [98, 97, 99, 107, 115] (if w.length ≤ t.length ∧ t.drop (t.length - w.length) = w then t.take (t.length - w.length) else t) (decide (w.length ≤ t.length ∧ t.drop (t.length - w.length) = w))) τ) := by
  by_cases h1 : w.length ≤ t.length
  · by_cases h : t.drop (t.length - w.length) = w
    · simp [evB, evS, ev, evs, evt, evp, evi, binD, cmpD, bD, mD, neD, eqD, truD, ixD, inD, inB, slD, lenD, intD, maxD, minD, addD, subD, negD, joinD, joinS, txsO, lowerD, upperD, startsD, endsD, stripD, with1, ordD, mulD, modD, fdivD, powD, intO, Out.then, bindT, setAll, itemsD, rangeD, runF, start', mkSg, mkSgG, opD, small62, wipeE, compL, forL, List.replicate, tyIs, whB, FrW, Stp.d, okT, isMap, sl1, sl1 hl, sl1 ht, cut_subf t w.length h1, cut_sub t w.length h1, h, h1, Nat.not_lt.mpr h1]
    · simp [evB, evS, ev, evs, evt, evp, evi, binD, cmpD, bD, mD, neD, eqD, truD, ixD, inD, inB, slD, lenD, intD, maxD, minD, addD, subD, negD, joinD, joinS, txsO, lowerD, upperD, startsD, endsD, stripD, with1, ordD, mulD, modD, fdivD, powD, intO, Out.then, bindT, setAll, itemsD, rangeD, runF, start', mkSg, mkSgG, opD, small62, wipeE, compL, forL, List.replicate, tyIs, whB, FrW, Stp.d, okT, isMap, sl1, sl1 hl, sl1 ht, cut_subf t w.length h1, cut_sub t w.length h1, h, h1, Nat.not_lt.mpr h1]
  · simp [evB, evS, ev, evs, evt, evp, evi, binD, cmpD, bD, mD, neD, eqD, truD, ixD, inD, inB, slD, lenD, intD, maxD, minD, addD, subD, negD, joinD, joinS, txsO, lowerD, upperD, startsD, endsD, stripD, with1, ordD, mulD, modD, fdivD, powD, intO, Out.then, bindT, setAll, itemsD, rangeD, runF, start', mkSg, mkSgG, opD, small62, wipeE, compL, forL, List.replicate, tyIs, whB, FrW, Stp.d, okT, isMap, sl1, sl1 hl, sl1 ht, h1, Nat.lt_of_not_le h1]
theorem wh_more (P : Sg) (st : D) (k t : List Nat) (b : Bool) (τ : TS) : evt P (.val (.var 6)) (FrW st k t b) τ = some (b, τ) := by simp [evB, evS, ev, evs, evt, evp, evi, binD, cmpD, bD, mD, neD, eqD, truD, ixD, inD, inB, slD, lenD, intD, maxD, minD, addD, subD, negD, joinD, joinS, txsO, lowerD, upperD, startsD, endsD, stripD, with1, ordD, mulD, modD, fdivD, powD, intO, Out.then, bindT, setAll, itemsD, rangeD, runF, start', mkSg, mkSgG, opD, small62, wipeE, compL, forL, List.replicate, tyIs, FrW]
theorem wh_once (P : Sg) (st : D) (k t t' : List Nat) (τ : TS) (h : evB P whB (FrW st k t true) τ = some (.nx (FrW st k t' false) τ)) : evS P (.whl (.val (.var 6)) whB) (FrW st k t true) τ = some (.nx (FrW st k t' false) τ) := by
  rw [evS]
  exact whL_go (wh_more P st k t true τ) h (whL_stop (wh_more P st k t' false τ))
theorem wh_fronts (P : Sg) (w : List Nat) (hw : w ≠ []) (hl : w.length ≤ 4000) (τ : TS) : ∀ (n : Nat) (t : List Nat), t.length ≤ n → t.length ≤ 4000 →
    evS P (.whl (.val (.var 6)) whB) (FrW (Stp.fronts w).d [102, 114, 111, 110, 116, 115] t true) τ = some (.nx (FrW (Stp.fronts w).d [102, 114, 111, 110, 116, 115] (frS w n t) false) τ) := by
  intro n
  have hl0 : 0 < w.length := List.length_pos_iff.mpr hw
  induction n with
  | zero =>
    intro t h0 ht
    obtain rfl := List.length_eq_zero_iff.mp (Nat.le_zero.mp h0)
    have e := whB_fronts P w [] hw hl ht τ
    have hn : ¬ ([] : List Nat).take w.length = w := by simp; exact fun z => hw z
    rw [if_neg hn, decide_eq_false hn] at e
    exact wh_once P _ _ _ _ τ e
  | succ n ih =>
    intro t h0 ht
    have e := whB_fronts P w t hw hl ht τ
    rw [frS]
    by_cases h : t.take w.length = w
    · rw [if_pos h, decide_eq_true h] at e
      rw [if_pos h]
      have hne : t.length ≠ 0 := fun z => by
        obtain rfl := List.length_eq_zero_iff.mp z
        simp at h; exact hw h
      have i1 := ih (t.drop w.length) (by rw [List.length_drop]; omega) (by rw [List.length_drop]; omega)
      rw [evS] at i1 ⊢
      exact whL_go (wh_more P _ _ t true τ) e i1
    · rw [if_neg h, decide_eq_false h] at e
      rw [if_neg h]
      exact wh_once P _ _ _ _ τ e
theorem wh_backs (P : Sg) (w : List Nat) (hw : w ≠ []) (hl : w.length ≤ 4000) (τ : TS) : ∀ (n : Nat) (t : List Nat), t.length ≤ n → t.length ≤ 4000 →
    evS P (.whl (.val (.var 6)) whB) (FrW (Stp.backs w).d [98, 97, 99, 107, 115] t true) τ = some (.nx (FrW (Stp.backs w).d [98, 97, 99, 107, 115] (bkS w n t) false) τ) := by
  intro n
  have hl0 : 0 < w.length := List.length_pos_iff.mpr hw
  induction n with
  | zero =>
    intro t h0 ht
    have e := whB_backs P w t hw hl ht τ
    have hn : ¬ (w.length ≤ t.length ∧ t.drop (t.length - w.length) = w) := fun z => by omega
    rw [if_neg hn, decide_eq_false hn] at e
    exact wh_once P _ _ _ _ τ e
  | succ n ih =>
    intro t h0 ht
    have e := whB_backs P w t hw hl ht τ
    rw [bkS]
    by_cases h : w.length ≤ t.length ∧ t.drop (t.length - w.length) = w
    · rw [if_pos h, decide_eq_true h] at e
      rw [if_pos h]
      have i1 := ih (t.take (t.length - w.length)) (by rw [List.length_take]; omega) (by rw [List.length_take]; omega)
      rw [evS] at i1 ⊢
      exact whL_go (wh_more P _ _ t true τ) e i1
    · rw [if_neg h, decide_eq_false h] at e
      rw [if_neg h]
      exact wh_once P _ _ _ _ τ e
theorem lawdone_ok (tk : Bool) (ns : List Int) (t : List Nat) (s : Stp) (τ : TS) (hs : s.ok) (h2 : t.length ≤ 4000) (ha : ∀ c ∈ t, c < 128) : GLD tk ns [.str t, s.d] τ = some (.str (s.ap t), τ) := by
  have e1 := sl1 h2
  have e5 : t.length ≤ 5592405 := by omega
  refine Grun_in rfl ?_
  show evB _ ir_law_done [.d (.str t), .d s.d, .un, .un, .un, .un, .un] τ = _
  unfold ir_law_done
  generalize mkSg tk [] [] ns = P
  cases s
  · simp [evB, evS, ev, evs, evt, evp, evi, binD, cmpD, bD, mD, neD, eqD, truD, ixD, inD, inB, slD, lenD, intD, maxD, minD, addD, subD, negD, joinD, joinS, txsO, lowerD, upperD, startsD, endsD, stripD, with1, ordD, mulD, modD, fdivD, powD, intO, Out.then, bindT, setAll, itemsD, rangeD, runF, start', mkSg, mkSgG, opD, small62, wipeE, compL, forL, List.replicate, tyIs, Stp.d, Stp.ap, e5, lower_l ha]
  · rename_i x y
    rw [evB_nx (ρ1 := [.d (.str t), .d (Stp.map x y).d, .d (.str mapW), .un, .un, .un, .un]) (τ1 := τ) (by simp [evB, evS, ev, evs, evt, evp, evi, binD, cmpD, bD, mD, neD, eqD, truD, ixD, inD, inB, slD, lenD, intD, maxD, minD, addD, subD, negD, joinD, joinS, txsO, lowerD, upperD, startsD, endsD, stripD, with1, ordD, mulD, modD, fdivD, powD, intO, Out.then, bindT, setAll, itemsD, rangeD, runF, start', mkSg, mkSgG, opD, small62, wipeE, compL, forL, List.replicate, tyIs, Stp.d])]
    rw [evB_nx (ρ1 := [.d (.str t), .d (Stp.map x y).d, .d (.str mapW), .un, .un, .un, .un]) (τ1 := τ) (by simp [evB, evS, ev, evs, evt, evp, evi, binD, cmpD, bD, mD, neD, eqD, truD, ixD, inD, inB, slD, lenD, intD, maxD, minD, addD, subD, negD, joinD, joinS, txsO, lowerD, upperD, startsD, endsD, stripD, with1, ordD, mulD, modD, fdivD, powD, intO, Out.then, bindT, setAll, itemsD, rangeD, runF, start', mkSg, mkSgG, opD, small62, wipeE, compL, forL, List.replicate, tyIs, Stp.d, mapW])]
    have hcomp : compL (cbody P (.ife (.cmp .Eq (.var 5) (.idx (.var 1) (.int 1))) (.idx (.var 1) (.int 2)) (.var 5)) (.nm 5) .yes [5] [.d (.str t), .d (Stp.map x y).d, .d (.str mapW), .un, .un, .un, .un]) (t.map fun c => .str [c]) τ = some ((t.map fun c => [if c = x then y else c]).map .str, τ) := by
      refine compL_chars fun c hc => ?_
      by_cases hm : c = x <;> simp [cbody, evB, evS, ev, evs, evt, evp, evi, binD, cmpD, bD, mD, neD, eqD, truD, ixD, inD, inB, slD, lenD, intD, maxD, minD, addD, subD, negD, joinD, joinS, txsO, lowerD, upperD, startsD, endsD, stripD, with1, ordD, mulD, modD, fdivD, powD, intO, Out.then, bindT, setAll, itemsD, rangeD, runF, start', mkSg, mkSgG, opD, small62, wipeE, compL, forL, List.replicate, tyIs, Stp.d, hm]
    exact evB_rt (evS_t (τ1 := τ) (by simp [evB, evS, ev, evs, evt, evp, evi, binD, cmpD, bD, mD, neD, eqD, truD, ixD, inD, inB, slD, lenD, intD, maxD, minD, addD, subD, negD, joinD, joinS, txsO, lowerD, upperD, startsD, endsD, stripD, with1, ordD, mulD, modD, fdivD, powD, intO, Out.then, bindT, setAll, itemsD, rangeD, runF, start', mkSg, mkSgG, opD, small62, wipeE, compL, forL, List.replicate, tyIs, mapW]) (evB_rt (evS_ret (ev_join (ev_comp (τ1 := τ) (by simp [evB, evS, ev, evs, evt, evp, evi, binD, cmpD, bD, mD, neD, eqD, truD, ixD, inD, inB, slD, lenD, intD, maxD, minD, addD, subD, negD, joinD, joinS, txsO, lowerD, upperD, startsD, endsD, stripD, with1, ordD, mulD, modD, fdivD, powD, intO, Out.then, bindT, setAll, itemsD, rangeD, runF, start', mkSg, mkSgG, opD, small62, wipeE, compL, forL, List.replicate, tyIs]) hcomp (by rw [List.length_map, List.length_map]; exact e1)) (join_ones (fun c => if c = x then y else c) t h2)))))
  · rename_i s
    rw [evB_nx (ρ1 := [.d (.str t), .d (Stp.drop s).d, .d (.str [100, 114, 111, 112]), .un, .un, .un, .un]) (τ1 := τ) (by simp [evB, evS, ev, evs, evt, evp, evi, binD, cmpD, bD, mD, neD, eqD, truD, ixD, inD, inB, slD, lenD, intD, maxD, minD, addD, subD, negD, joinD, joinS, txsO, lowerD, upperD, startsD, endsD, stripD, with1, ordD, mulD, modD, fdivD, powD, intO, Out.then, bindT, setAll, itemsD, rangeD, runF, start', mkSg, mkSgG, opD, small62, wipeE, compL, forL, List.replicate, tyIs, Stp.d])]
    have hcomp : compL (cbody P (.var 5) (.nm 5) (.cmp .NotIn (.var 5) (.idx (.var 1) (.int 1))) [5] [.d (.str t), .d (Stp.drop s).d, .d (.str [100, 114, 111, 112]), .un, .un, .un, .un]) (t.map fun c => .str [c]) τ = some (((t.filter fun c => !decide (c ∈ s)).map fun c => [c]).map .str, τ) := by
      refine compL_filt fun c hc => ?_
      by_cases hm : c ∈ s <;> simp [cbody, evB, evS, ev, evs, evt, evp, evi, binD, cmpD, bD, mD, neD, eqD, truD, ixD, inD, inB, slD, lenD, intD, maxD, minD, addD, subD, negD, joinD, joinS, txsO, lowerD, upperD, startsD, endsD, stripD, with1, ordD, mulD, modD, fdivD, powD, intO, Out.then, bindT, setAll, itemsD, rangeD, runF, start', mkSg, mkSgG, opD, small62, wipeE, compL, forL, List.replicate, tyIs, Stp.d, hm]
    have hl : (t.filter fun c => !decide (c ∈ s)).length ≤ 4000 := Nat.le_trans (List.length_filter_le _ _) h2
    have hj := join_ones (fun c => c) (t.filter fun c => !decide (c ∈ s)) hl
    rw [List.map_id'] at hj
    exact evB_rt (evS_t (τ1 := τ) (by simp [evB, evS, ev, evs, evt, evp, evi, binD, cmpD, bD, mD, neD, eqD, truD, ixD, inD, inB, slD, lenD, intD, maxD, minD, addD, subD, negD, joinD, joinS, txsO, lowerD, upperD, startsD, endsD, stripD, with1, ordD, mulD, modD, fdivD, powD, intO, Out.then, bindT, setAll, itemsD, rangeD, runF, start', mkSg, mkSgG, opD, small62, wipeE, compL, forL, List.replicate, tyIs]) (evB_rt (evS_ret (ev_join (ev_comp (τ1 := τ) (by simp [evB, evS, ev, evs, evt, evp, evi, binD, cmpD, bD, mD, neD, eqD, truD, ixD, inD, inB, slD, lenD, intD, maxD, minD, addD, subD, negD, joinD, joinS, txsO, lowerD, upperD, startsD, endsD, stripD, with1, ordD, mulD, modD, fdivD, powD, intO, Out.then, bindT, setAll, itemsD, rangeD, runF, start', mkSg, mkSgG, opD, small62, wipeE, compL, forL, List.replicate, tyIs]) hcomp (by rw [List.length_map, List.length_map]; exact sl1 hl)) hj))))
  · rename_i s
    simp [evB, evS, ev, evs, evt, evp, evi, binD, cmpD, bD, mD, neD, eqD, truD, ixD, inD, inB, slD, lenD, intD, maxD, minD, addD, subD, negD, joinD, joinS, txsO, lowerD, upperD, startsD, endsD, stripD, with1, ordD, mulD, modD, fdivD, powD, intO, Out.then, bindT, setAll, itemsD, rangeD, runF, start', mkSg, mkSgG, opD, small62, wipeE, compL, forL, List.replicate, tyIs, Stp.d, Stp.ap, e1, strip_l]
  · rename_i s
    obtain ⟨g4, g5, e⟩ := lsq_loop P s τ t [] [] .un .un .un (by simpa using h2) (by simpa using h2)
    rw [evB_nx (ρ1 := [.d (.str t), .d (Stp.squeeze s).d, .d (.str [115, 113, 117, 101, 101, 122, 101]), .un, .un, .un, .un]) (τ1 := τ) (by simp [evB, evS, ev, evs, evt, evp, evi, binD, cmpD, bD, mD, neD, eqD, truD, ixD, inD, inB, slD, lenD, intD, maxD, minD, addD, subD, negD, joinD, joinS, txsO, lowerD, upperD, startsD, endsD, stripD, with1, ordD, mulD, modD, fdivD, powD, intO, Out.then, bindT, setAll, itemsD, rangeD, runF, start', mkSg, mkSgG, opD, small62, wipeE, compL, forL, List.replicate, tyIs, Stp.d])]
    iterate 6 rw [evB_nx (ρ1 := [.d (.str t), .d (Stp.squeeze s).d, .d (.str [115, 113, 117, 101, 101, 122, 101]), .un, .un, .un, .un]) (τ1 := τ) (by simp [evB, evS, ev, evs, evt, evp, evi, binD, cmpD, bD, mD, neD, eqD, truD, ixD, inD, inB, slD, lenD, intD, maxD, minD, addD, subD, negD, joinD, joinS, txsO, lowerD, upperD, startsD, endsD, stripD, with1, ordD, mulD, modD, fdivD, powD, intO, Out.then, bindT, setAll, itemsD, rangeD, runF, start', mkSg, mkSgG, opD, small62, wipeE, compL, forL, List.replicate, tyIs, Stp.d])]
    refine evB_rt (evS_t (τ1 := τ) (by simp [evB, evS, ev, evs, evt, evp, evi, binD, cmpD, bD, mD, neD, eqD, truD, ixD, inD, inB, slD, lenD, intD, maxD, minD, addD, subD, negD, joinD, joinS, txsO, lowerD, upperD, startsD, endsD, stripD, with1, ordD, mulD, modD, fdivD, powD, intO, Out.then, bindT, setAll, itemsD, rangeD, runF, start', mkSg, mkSgG, opD, small62, wipeE, compL, forL, List.replicate, tyIs, Stp.d, okT, isMap, sl1]) ?_)
    rw [evB_nx (ρ1 := [.d (.str t), .d (Stp.squeeze s).d, .d (.str [115, 113, 117, 101, 101, 122, 101]), .d (.str []), .un, .un, .un]) (τ1 := τ) (by simp [evB, evS, ev, evs, evt, evp, evi, binD, cmpD, bD, mD, neD, eqD, truD, ixD, inD, inB, slD, lenD, intD, maxD, minD, addD, subD, negD, joinD, joinS, txsO, lowerD, upperD, startsD, endsD, stripD, with1, ordD, mulD, modD, fdivD, powD, intO, Out.then, bindT, setAll, itemsD, rangeD, runF, start', mkSg, mkSgG, opD, small62, wipeE, compL, forL, List.replicate, tyIs])]
    simp only [List.nil_append, List.length_nil] at e
    refine (evB_nx (evS_fr (it := .enum (.var 0)) (xs := enumD 0 (t.map fun c => .str [c])) (τ1 := τ) (by simp [evi, ev, itemsD]) e)).trans ?_
    refine evB_rt (evS_ret ?_)
    simp [ev, Stp.ap]
  · rename_i s o
    obtain ⟨g4, g5, e⟩ := ljo_loop P s o τ t [] [] .un .un .un (by simpa using h2) (by simpa using h2)
    rw [evB_nx (ρ1 := [.d (.str t), .d (Stp.join s o).d, .d (.str [106, 111, 105, 110]), .un, .un, .un, .un]) (τ1 := τ) (by simp [evB, evS, ev, evs, evt, evp, evi, binD, cmpD, bD, mD, neD, eqD, truD, ixD, inD, inB, slD, lenD, intD, maxD, minD, addD, subD, negD, joinD, joinS, txsO, lowerD, upperD, startsD, endsD, stripD, with1, ordD, mulD, modD, fdivD, powD, intO, Out.then, bindT, setAll, itemsD, rangeD, runF, start', mkSg, mkSgG, opD, small62, wipeE, compL, forL, List.replicate, tyIs, Stp.d])]
    iterate 6 rw [evB_nx (ρ1 := [.d (.str t), .d (Stp.join s o).d, .d (.str [106, 111, 105, 110]), .un, .un, .un, .un]) (τ1 := τ) (by simp [evB, evS, ev, evs, evt, evp, evi, binD, cmpD, bD, mD, neD, eqD, truD, ixD, inD, inB, slD, lenD, intD, maxD, minD, addD, subD, negD, joinD, joinS, txsO, lowerD, upperD, startsD, endsD, stripD, with1, ordD, mulD, modD, fdivD, powD, intO, Out.then, bindT, setAll, itemsD, rangeD, runF, start', mkSg, mkSgG, opD, small62, wipeE, compL, forL, List.replicate, tyIs, Stp.d])]
    refine evB_rt (evS_t (τ1 := τ) (by simp [evB, evS, ev, evs, evt, evp, evi, binD, cmpD, bD, mD, neD, eqD, truD, ixD, inD, inB, slD, lenD, intD, maxD, minD, addD, subD, negD, joinD, joinS, txsO, lowerD, upperD, startsD, endsD, stripD, with1, ordD, mulD, modD, fdivD, powD, intO, Out.then, bindT, setAll, itemsD, rangeD, runF, start', mkSg, mkSgG, opD, small62, wipeE, compL, forL, List.replicate, tyIs, Stp.d, okT, isMap, sl1]) ?_)
    rw [evB_nx (ρ1 := [.d (.str t), .d (Stp.join s o).d, .d (.str [106, 111, 105, 110]), .d (.str []), .un, .un, .un]) (τ1 := τ) (by simp [evB, evS, ev, evs, evt, evp, evi, binD, cmpD, bD, mD, neD, eqD, truD, ixD, inD, inB, slD, lenD, intD, maxD, minD, addD, subD, negD, joinD, joinS, txsO, lowerD, upperD, startsD, endsD, stripD, with1, ordD, mulD, modD, fdivD, powD, intO, Out.then, bindT, setAll, itemsD, rangeD, runF, start', mkSg, mkSgG, opD, small62, wipeE, compL, forL, List.replicate, tyIs])]
    simp only [List.nil_append, List.length_nil] at e
    refine (evB_nx (evS_fr (it := .enum (.var 0)) (xs := enumD 0 (t.map fun c => .str [c])) (τ1 := τ) (by simp [evi, ev, itemsD]) e)).trans ?_
    refine evB_rt (evS_ret ?_)
    simp [ev, Stp.ap, prevIn]
  · rename_i w
    obtain ⟨w1, w2⟩ := hs
    rw [evB_nx (ρ1 := [.d (.str t), .d (Stp.front w).d, .d (.str [102, 114, 111, 110, 116]), .un, .un, .un, .un]) (τ1 := τ) (by simp [evB, evS, ev, evs, evt, evp, evi, binD, cmpD, bD, mD, neD, eqD, truD, ixD, inD, inB, slD, lenD, intD, maxD, minD, addD, subD, negD, joinD, joinS, txsO, lowerD, upperD, startsD, endsD, stripD, with1, ordD, mulD, modD, fdivD, powD, intO, Out.then, bindT, setAll, itemsD, rangeD, runF, start', mkSg, mkSgG, opD, small62, wipeE, compL, forL, List.replicate, tyIs, Stp.d])]
    iterate 7 rw [evB_nx (ρ1 := [.d (.str t), .d (Stp.front w).d, .d (.str [102, 114, 111, 110, 116]), .un, .un, .un, .un]) (τ1 := τ) (by simp [evB, evS, ev, evs, evt, evp, evi, binD, cmpD, bD, mD, neD, eqD, truD, ixD, inD, inB, slD, lenD, intD, maxD, minD, addD, subD, negD, joinD, joinS, txsO, lowerD, upperD, startsD, endsD, stripD, with1, ordD, mulD, modD, fdivD, powD, intO, Out.then, bindT, setAll, itemsD, rangeD, runF, start', mkSg, mkSgG, opD, small62, wipeE, compL, forL, List.replicate, tyIs, Stp.d, okT, isMap, sl1])]
    rw [evB_nx (ρ1 := FrW (Stp.front w).d [102, 114, 111, 110, 116] t true) (τ1 := τ) (by simp [evB, evS, ev, evs, evt, evp, evi, binD, cmpD, bD, mD, neD, eqD, truD, ixD, inD, inB, slD, lenD, intD, maxD, minD, addD, subD, negD, joinD, joinS, txsO, lowerD, upperD, startsD, endsD, stripD, with1, ordD, mulD, modD, fdivD, powD, intO, Out.then, bindT, setAll, itemsD, rangeD, runF, start', mkSg, mkSgG, opD, small62, wipeE, compL, forL, List.replicate, tyIs, FrW])]
    rw [evB_nx (wh_once P _ _ _ _ τ (whB_front P w t w1 w2 h2 τ))]
    refine evB_rt (evS_ret ?_)
    simp [ev, Stp.ap, frF, FrW]
  · rename_i w
    obtain ⟨w1, w2⟩ := hs
    rw [evB_nx (ρ1 := [.d (.str t), .d (Stp.fronts w).d, .d (.str [102, 114, 111, 110, 116, 115]), .un, .un, .un, .un]) (τ1 := τ) (by simp [evB, evS, ev, evs, evt, evp, evi, binD, cmpD, bD, mD, neD, eqD, truD, ixD, inD, inB, slD, lenD, intD, maxD, minD, addD, subD, negD, joinD, joinS, txsO, lowerD, upperD, startsD, endsD, stripD, with1, ordD, mulD, modD, fdivD, powD, intO, Out.then, bindT, setAll, itemsD, rangeD, runF, start', mkSg, mkSgG, opD, small62, wipeE, compL, forL, List.replicate, tyIs, Stp.d])]
    iterate 7 rw [evB_nx (ρ1 := [.d (.str t), .d (Stp.fronts w).d, .d (.str [102, 114, 111, 110, 116, 115]), .un, .un, .un, .un]) (τ1 := τ) (by simp [evB, evS, ev, evs, evt, evp, evi, binD, cmpD, bD, mD, neD, eqD, truD, ixD, inD, inB, slD, lenD, intD, maxD, minD, addD, subD, negD, joinD, joinS, txsO, lowerD, upperD, startsD, endsD, stripD, with1, ordD, mulD, modD, fdivD, powD, intO, Out.then, bindT, setAll, itemsD, rangeD, runF, start', mkSg, mkSgG, opD, small62, wipeE, compL, forL, List.replicate, tyIs, Stp.d, okT, isMap, sl1])]
    rw [evB_nx (ρ1 := FrW (Stp.fronts w).d [102, 114, 111, 110, 116, 115] t true) (τ1 := τ) (by simp [evB, evS, ev, evs, evt, evp, evi, binD, cmpD, bD, mD, neD, eqD, truD, ixD, inD, inB, slD, lenD, intD, maxD, minD, addD, subD, negD, joinD, joinS, txsO, lowerD, upperD, startsD, endsD, stripD, with1, ordD, mulD, modD, fdivD, powD, intO, Out.then, bindT, setAll, itemsD, rangeD, runF, start', mkSg, mkSgG, opD, small62, wipeE, compL, forL, List.replicate, tyIs, FrW])]
    rw [evB_nx (wh_fronts P w w1 w2 τ t.length t (Nat.le_refl _) h2)]
    refine evB_rt (evS_ret ?_)
    simp [ev, Stp.ap, frF, FrW]
  · rename_i w
    obtain ⟨w1, w2⟩ := hs
    rw [evB_nx (ρ1 := [.d (.str t), .d (Stp.back w).d, .d (.str [98, 97, 99, 107]), .un, .un, .un, .un]) (τ1 := τ) (by simp [evB, evS, ev, evs, evt, evp, evi, binD, cmpD, bD, mD, neD, eqD, truD, ixD, inD, inB, slD, lenD, intD, maxD, minD, addD, subD, negD, joinD, joinS, txsO, lowerD, upperD, startsD, endsD, stripD, with1, ordD, mulD, modD, fdivD, powD, intO, Out.then, bindT, setAll, itemsD, rangeD, runF, start', mkSg, mkSgG, opD, small62, wipeE, compL, forL, List.replicate, tyIs, Stp.d])]
    iterate 7 rw [evB_nx (ρ1 := [.d (.str t), .d (Stp.back w).d, .d (.str [98, 97, 99, 107]), .un, .un, .un, .un]) (τ1 := τ) (by simp [evB, evS, ev, evs, evt, evp, evi, binD, cmpD, bD, mD, neD, eqD, truD, ixD, inD, inB, slD, lenD, intD, maxD, minD, addD, subD, negD, joinD, joinS, txsO, lowerD, upperD, startsD, endsD, stripD, with1, ordD, mulD, modD, fdivD, powD, intO, Out.then, bindT, setAll, itemsD, rangeD, runF, start', mkSg, mkSgG, opD, small62, wipeE, compL, forL, List.replicate, tyIs, Stp.d, okT, isMap, sl1])]
    rw [evB_nx (ρ1 := FrW (Stp.back w).d [98, 97, 99, 107] t true) (τ1 := τ) (by simp [evB, evS, ev, evs, evt, evp, evi, binD, cmpD, bD, mD, neD, eqD, truD, ixD, inD, inB, slD, lenD, intD, maxD, minD, addD, subD, negD, joinD, joinS, txsO, lowerD, upperD, startsD, endsD, stripD, with1, ordD, mulD, modD, fdivD, powD, intO, Out.then, bindT, setAll, itemsD, rangeD, runF, start', mkSg, mkSgG, opD, small62, wipeE, compL, forL, List.replicate, tyIs, FrW])]
    rw [evB_nx (wh_once P _ _ _ _ τ (whB_back P w t w1 w2 h2 τ))]
    refine evB_rt (evS_ret ?_)
    simp [ev, Stp.ap, bkF, FrW]
  · rename_i w
    obtain ⟨w1, w2⟩ := hs
    rw [evB_nx (ρ1 := [.d (.str t), .d (Stp.backs w).d, .d (.str [98, 97, 99, 107, 115]), .un, .un, .un, .un]) (τ1 := τ) (by simp [evB, evS, ev, evs, evt, evp, evi, binD, cmpD, bD, mD, neD, eqD, truD, ixD, inD, inB, slD, lenD, intD, maxD, minD, addD, subD, negD, joinD, joinS, txsO, lowerD, upperD, startsD, endsD, stripD, with1, ordD, mulD, modD, fdivD, powD, intO, Out.then, bindT, setAll, itemsD, rangeD, runF, start', mkSg, mkSgG, opD, small62, wipeE, compL, forL, List.replicate, tyIs, Stp.d])]
    iterate 7 rw [evB_nx (ρ1 := [.d (.str t), .d (Stp.backs w).d, .d (.str [98, 97, 99, 107, 115]), .un, .un, .un, .un]) (τ1 := τ) (by simp [evB, evS, ev, evs, evt, evp, evi, binD, cmpD, bD, mD, neD, eqD, truD, ixD, inD, inB, slD, lenD, intD, maxD, minD, addD, subD, negD, joinD, joinS, txsO, lowerD, upperD, startsD, endsD, stripD, with1, ordD, mulD, modD, fdivD, powD, intO, Out.then, bindT, setAll, itemsD, rangeD, runF, start', mkSg, mkSgG, opD, small62, wipeE, compL, forL, List.replicate, tyIs, Stp.d, okT, isMap, sl1])]
    rw [evB_nx (ρ1 := FrW (Stp.backs w).d [98, 97, 99, 107, 115] t true) (τ1 := τ) (by simp [evB, evS, ev, evs, evt, evp, evi, binD, cmpD, bD, mD, neD, eqD, truD, ixD, inD, inB, slD, lenD, intD, maxD, minD, addD, subD, negD, joinD, joinS, txsO, lowerD, upperD, startsD, endsD, stripD, with1, ordD, mulD, modD, fdivD, powD, intO, Out.then, bindT, setAll, itemsD, rangeD, runF, start', mkSg, mkSgG, opD, small62, wipeE, compL, forL, List.replicate, tyIs, FrW])]
    rw [evB_nx (wh_backs P w w1 w2 τ t.length t (Nat.le_refl _) h2)]
    refine evB_rt (evS_ret ?_)
    simp [ev, Stp.ap, bkF, FrW]
  · rename_i m
    simp [evB, evS, ev, evs, evt, evp, evi, binD, cmpD, bD, mD, neD, eqD, truD, ixD, inD, inB, slD, lenD, intD, maxD, minD, addD, subD, negD, joinD, joinS, txsO, lowerD, upperD, startsD, endsD, stripD, with1, ordD, mulD, modD, fdivD, powD, intO, Out.then, bindT, setAll, itemsD, rangeD, runF, start', mkSg, mkSgG, opD, small62, wipeE, compL, forL, List.replicate, tyIs, Stp.d, Stp.ap, e1, cut_to]
  · rename_i m
    have hm : 0 < m := hs
    simp [evB, evS, ev, evs, evt, evp, evi, binD, cmpD, bD, mD, neD, eqD, truD, ixD, inD, inB, slD, lenD, intD, maxD, minD, addD, subD, negD, joinD, joinS, txsO, lowerD, upperD, startsD, endsD, stripD, with1, ordD, mulD, modD, fdivD, powD, intO, Out.then, bindT, setAll, itemsD, rangeD, runF, start', mkSg, mkSgG, opD, small62, wipeE, compL, forL, List.replicate, tyIs, Stp.d, Stp.ap, e1, cut_last t m hm]
/-! ### _law_like -/
noncomputable def GLike (tk : Bool) : Nat → GF
  | 0 => fun _ _ _ => none
  | n + 1 => Grun tk 3 false 2 ir_law_like [⟨"_law_like", false, 2, GLike tk n⟩] []
theorem like_str (tk : Bool) (n : Nat) (ns : List Int) (a b : List Nat) (τ : TS) : GLike tk (n + 1) ns [.str a, .str b] τ = some (.bl (a == b), τ) := by
  refine Grun_in rfl ?_
  show evB _ ir_law_like [.d (.str a), .d (.str b), .un] τ = _
  unfold ir_law_like
  simp [evB, evS, ev, evs, evt, evp, evi, binD, cmpD, bD, mD, neD, eqD, truD, ixD, inD, inB, slD, lenD, intD, maxD, minD, addD, subD, negD, joinD, joinS, txsO, lowerD, upperD, startsD, endsD, stripD, with1, ordD, mulD, modD, fdivD, powD, intO, Out.then, bindT, setAll, itemsD, rangeD, runF, start', mkSg, mkSgG, opD, small62, wipeE, compL, forL, List.replicate, tyIs]
end PD

set_option Elab.async false
set_option linter.all false
set_option maxRecDepth 100000
set_option maxHeartbeats 8000000
/-! k02: the law's own loops. -/
namespace PD
open PySem L2
noncomputable def cal02 : List Cal := [⟨"_law_text", true, 1, GText true⟩, ⟨"_law_word", true, 0, GWord true⟩, ⟨"_law_set", true, 0, GSet true⟩, cDraw true, cSign true, ⟨"_law_like", false, 2, GLike true 1⟩, ⟨"_law_done", false, 2, GLD true⟩, ⟨"cleaned", false, 2, GCl 61⟩]
structure P02 (P : Sg) (ns : List Int) : Prop where
  g0 : ∀ ds, P.G 0 ds = GText true ns ds
  g1 : ∀ ds, P.G 1 ds = GWord true ns ds
  g2 : ∀ ds, P.G 2 ds = GSet true ns ds
  g3 : ∀ ds, P.G 3 ds = GDraw true ns ds
  g4 : ∀ ds, P.G 4 ds = GSign true ns ds
  g5 : ∀ ds, P.G 5 ds = GLike true 1 ns ds
  g6 : ∀ ds, P.G 6 ds = GLD true ns ds
  g7 : ∀ ds, P.G 7 ds = GCl 61 ns ds
  tk : P.tk = true
/-- the signs of which texts are made -/
theorem alp_ascii {t : List Nat} (h : ∀ c ∈ t, c ∈ ALP) : ∀ c ∈ t, c < 128 := fun c hc => by
  have := h c hc
  simp [ALP] at this
  omega
abbrev Fr2 (g2 : Slot) (t : List Nat) (g4 g5 g6 g7 g8 g9 g10 : Slot) : Env' := [.un, .tape, g2, .d (.str t), g4, g5, g6, g7, g8, g9, g10]
theorem or_front (P : Sg) (t : List Nat) (ht : t.length ≤ 4000) (ρ : Env') (hρ : ρ[3]? = some (.d (.str t))) (τ : TS) : ∃ w, ev P (.or (.sl (.var 3) .nope (.int 1)) (.one (.str [97]))) ρ τ = some (.str w, τ) ∧ w ≠ [] ∧ w.length ≤ 4000 := by
  have h1 := sl1 ht
  cases t with
  | nil => exact ⟨[97], by simp [ev, evp, hρ, slD, cutL, truD, HT.sIx_none], by simp, by simp⟩
  | cons c r =>
    have e : cutL (c :: r) none (some 1) = [c] := cut_to (c :: r) 1
    simp only [List.length_cons] at h1
    exact ⟨[c], by simp [ev, evp, hρ, slD, e, truD, sl1, h1], by simp, by simp⟩
theorem or_back (P : Sg) (t : List Nat) (ht : t.length ≤ 4000) (ρ : Env') (hρ : ρ[3]? = some (.d (.str t))) (τ : TS) : ∃ w, ev P (.or (.sl (.var 3) (.neg (.int 2)) .nope) (.one (.str [97]))) ρ τ = some (.str w, τ) ∧ w ≠ [] ∧ w.length ≤ 4000 := by
  have h1 := sl1 ht
  have e : cutL t (some (-2)) none = t.drop (t.length - 2) := cut_last t 2 (by omega)
  have hl := sl1 (show (t.drop (t.length - 2)).length ≤ 4000 by rw [List.length_drop]; omega)
  by_cases hz : t.drop (t.length - 2) = []
  · refine ⟨[97], ?_, by simp, by simp⟩
    rw [hz] at e
    simp [ev, evp, hρ, slD, e, truD, h1, negD, intO]
  · refine ⟨t.drop (t.length - 2), ?_, hz, by rw [List.length_drop]; omega⟩
    have hne : (t.drop (t.length - 2)).isEmpty = false := by
      cases h : t.drop (t.length - 2) with
      | nil => exact absurd h hz
      | cons _ _ => rfl
    simp only [ev, evp, hρ, slD, e, truD, h1, negD, intO, hl, hne, Option.bind_some, Option.map_some, if_true, Bool.not_false]
abbrev askB : Ss := (.cons (.unp (.cons (.nm 6) (.cons (.nm 7) .nil)) (.tup (.cons (.callT 2 1 .nil) (.cons (.callT 1 1 .nil) .nil)))) (.cons (.set 8 (.bin .Add (.int 1) (.callT 3 1 (.cons (.int 3) .nil)))) (.frz 4 (.cons (.setO 4 (.bin .Add (.var 4) (.lst (.cons (.tup (.cons (.str [116, 114, 105, 109]) (.cons (.var 6) .nil))) (.cons (.tup (.cons (.str [100, 114, 111, 112]) (.cons (.var 6) .nil))) (.cons (.tup (.cons (.str [115, 113, 117, 101, 101, 122, 101]) (.cons (.var 6) .nil))) (.cons (.tup (.cons (.str [106, 111, 105, 110]) (.cons (.var 6) (.cons (.callT 4 1 .nil) .nil)))) .nil))))))) (.frz 4 (.cons (.setO 4 (.bin .Add (.var 4) (.comp (.tup (.cons (.var 10) (.cons (.var 7) .nil))) (.nm 10) (.data (.tup (.cons (.str [102, 114, 111, 110, 116]) (.cons (.str [102, 114, 111, 110, 116, 115]) (.cons (.str [98, 97, 99, 107]) (.cons (.str [98, 97, 99, 107, 115]) .nil)))))) .yes [10]))) (.frz 4 (.cons (.setO 4 (.bin .Add (.var 4) (.lst (.cons (.tup (.cons (.str [102, 105, 114, 115, 116]) (.cons (.var 8) .nil))) (.cons (.tup (.cons (.str [108, 97, 115, 116]) (.cons (.var 8) .nil))) (.cons (.tup (.cons (.str [102, 114, 111, 110, 116, 115]) (.cons (.or (.sl (.var 3) .nope (.int 1)) (.one (.str [97]))) .nil))) .nil)))))) (.cons (.app 4 (.tup (.cons (.str [98, 97, 99, 107, 115]) (.cons (.or (.sl (.var 3) (.neg (.int 2)) .nope) (.one (.str [97]))) .nil)))) .nil)))))))))
theorem evB_frz {P : Sg} {i : Nat} {ss : Ss} {ρ : Env'} {τ : TS} {xs : List D} (h : ρ[i]? = some (.ol xs)) : evB P (.frz i ss) ρ τ = evB P ss (ρ.set i (.d (.lst xs))) τ := by
  rw [evB, h]
theorem evs_nil {P : Sg} {ρ : Env'} {τ : TS} : evs P .nil ρ τ = some ([], τ) := by rw [evs]
theorem evs_cons {P : Sg} {e : E} {es : Es} {ρ : Env'} {τ τ1 τ2 : TS} {d : D} {ds : List D} (h1 : ev P e ρ τ = some (d, τ1)) (h2 : evs P es ρ τ1 = some (ds, τ2)) : evs P (.cons e es) ρ τ = some (d :: ds, τ2) := by
  rw [evs, h1]
  simp only [Option.bind_some, h2, Option.map_some]
theorem ev_lst {P : Sg} {es : Es} {ρ : Env'} {τ τ1 : TS} {ds : List D} (h : evs P es ρ τ = some (ds, τ1)) (hl : ds.length ≤ 4000) : ev P (.lst es) ρ τ = some (.lst ds, τ1) := by
  rw [ev, h]
  simp only [Option.bind_some, sl1 hl, if_true]
theorem ev_tup {P : Sg} {es : Es} {ρ : Env'} {τ τ1 : TS} {ds : List D} (h : evs P es ρ τ = some (ds, τ1)) (hl : ds.length ≤ 4000) (hm : isMap ds = false) : ev P (.tup es) ρ τ = some (.tup ds, τ1) := by
  rw [ev, h]
  simp only [Option.bind_some, okT, sl1 hl, hm, Bool.and_false, Bool.not_false, decide_true, Bool.and_true, if_true]
theorem ev_str {P : Sg} {s : List Nat} {ρ : Env'} {τ : TS} : ev P (.str s) ρ τ = some (.str s, τ) := by rw [ev]
theorem ev_var {P : Sg} {i : Nat} {ρ : Env'} {τ : TS} {d : D} (h : ρ[i]? = some (.d d)) : ev P (.var i) ρ τ = some (d, τ) := by rw [ev, h]
theorem evS_cat {P : Sg} {i : Nat} {e : E} {xs ys : List D} {ρ : Env'} {τ τ1 : TS} (hρ : ρ[i]? = some (.d (.lst xs))) (he : ev P e ρ τ = some (.lst ys, τ1)) (hl : xs.length + ys.length ≤ 4000) : evS P (.setO i (.bin .Add (.var i) e)) ρ τ = some (.nx (ρ.set i (.ol (xs ++ ys))) τ1) := by
  rw [evS, ev, ev_var hρ]
  simp only [Option.bind_some, he, binD, addD, sl1 hl, if_true, Option.map_some]
theorem evS_app {P : Sg} {i : Nat} {e : E} {xs : List D} {ρ : Env'} {τ τ1 : TS} {d : D} (hρ : ρ[i]? = some (.ol xs)) (he : ev P e ρ τ = some (d, τ1)) (hl : xs.length < 4000) : evS P (.app i e) ρ τ = some (.nx (ρ.set i (.ol (xs ++ [d]))) τ1) := by
  have h2 : xs.length < sizeLine := by rw [sizeLine_eq]; omega
  rw [evS, hρ]
  simp only [he, Option.bind_some, h2, if_true]
theorem askB_ok (P : Sg) (ns : List Int) (hP : P02 P ns) (g2 : Slot) (t : List Nat) (ht : t.length ≤ 60) (ss : List Stp) (hs : ∀ s ∈ ss, s.ok) (hl : ss.length ≤ 100) (g5 g6 g7 g8 g9 g10 : Slot) (τ : TS) :
    ∃ (ss' : List Stp) (g6' g7' g8' : Slot) (τ' : TS), evB P askB (Fr2 g2 t (.ol (ss.map Stp.d)) g5 g6 g7 g8 g9 g10) τ = some (.nx (Fr2 g2 t (.ol (ss'.map Stp.d)) g5 g6' g7' g8' g9 g10) τ') ∧ (∀ s ∈ ss', s.ok) ∧ ss'.length = ss.length + 12 := by
  obtain ⟨s, τ1, e1, _, hs3, _, _⟩ := sset_ok true ns τ
  obtain ⟨w, τ2, e2, hw1, hw2, _⟩ := word_ok true ns τ1
  obtain ⟨k, τ3, e3, hk⟩ := draw_int true ns 3 3 rfl (by omega) (by omega) τ2
  obtain ⟨o, τ4, e4, _⟩ := sign_ok true ns τ3
  have tk := hP.tk
  have a1 := sl1 (show ss.length + 4 ≤ 4000 by omega)
  have a2 := sl1 (show ss.length + 4 + 4 ≤ 4000 by omega)
  have a3 := sl1 (show ss.length + 4 + 4 + 3 ≤ 4000 by omega)
  have ek : ((1 : Int) + (k : Int)) = ((1 + k : Nat) : Int) := by omega
  obtain ⟨w1, o1, hw3, hw4⟩ := or_front P t (by omega) (Fr2 g2 t (.d (.lst (((ss ++ [Stp.trim s, Stp.drop s, Stp.squeeze s, Stp.join s o]) ++ [Stp.front w, Stp.fronts w, Stp.back w, Stp.backs w]).map Stp.d))) g5 (.d (.str s)) (.d (.str w)) (.d (.int ((1 + k : Nat) : Int))) g9 g10) rfl τ4
  obtain ⟨w2, o2, hw5, hw6⟩ := or_back P t (by omega) (Fr2 g2 t (.ol ((((ss ++ [Stp.trim s, Stp.drop s, Stp.squeeze s, Stp.join s o]) ++ [Stp.front w, Stp.fronts w, Stp.back w, Stp.backs w]) ++ [Stp.first (1 + k), Stp.last (1 + k), Stp.fronts w1]).map Stp.d)) g5 (.d (.str s)) (.d (.str w)) (.d (.int ((1 + k : Nat) : Int))) g9 g10) rfl τ4
  refine ⟨(((ss ++ [Stp.trim s, Stp.drop s, Stp.squeeze s, Stp.join s o]) ++ [Stp.front w, Stp.fronts w, Stp.back w, Stp.backs w]) ++ [Stp.first (1 + k), Stp.last (1 + k), Stp.fronts w1]) ++ [Stp.backs w2], .d (.str s), .d (.str w), .d (.int ((1 + k : Nat) : Int)), τ4, ?_, ?_, by simp⟩
  · refine (evB_nx (ρ1 := Fr2 g2 t (.ol (ss.map Stp.d)) g5 (.d (.str s)) (.d (.str w)) g8 g9 g10) (τ1 := τ2) (by simp [evB, evS, ev, evs, evt, evp, evi, binD, cmpD, bD, mD, neD, eqD, truD, ixD, inD, inB, slD, lenD, intD, maxD, minD, addD, subD, negD, joinD, joinS, txsO, lowerD, upperD, startsD, endsD, stripD, with1, ordD, mulD, modD, fdivD, powD, intO, Out.then, bindT, setAll, itemsD, rangeD, runF, start', mkSg, mkSgG, opD, small62, wipeE, compL, forL, List.replicate, tyIs, Fr2, hP.g1, hP.g2, e1, e2, okT, isMap, sl1])).trans ?_
    refine (evB_nx (ρ1 := Fr2 g2 t (.ol (ss.map Stp.d)) g5 (.d (.str s)) (.d (.str w)) (.d (.int ((1 + k : Nat) : Int))) g9 g10) (τ1 := τ3) (by simp [evB, evS, ev, evs, evt, evp, evi, binD, cmpD, bD, mD, neD, eqD, truD, ixD, inD, inB, slD, lenD, intD, maxD, minD, addD, subD, negD, joinD, joinS, txsO, lowerD, upperD, startsD, endsD, stripD, with1, ordD, mulD, modD, fdivD, powD, intO, Out.then, bindT, setAll, itemsD, rangeD, runF, start', mkSg, mkSgG, opD, small62, wipeE, compL, forL, List.replicate, tyIs, Fr2, hP.g3, e3])).trans ?_
    rw [evB_frz (xs := ss.map Stp.d) rfl]
    have hmap : ∀ l m : List Stp, (l ++ m).map Stp.d = l.map Stp.d ++ m.map Stp.d := fun l m => List.map_append
    rw [evB_nx (ρ1 := Fr2 g2 t (.ol ((ss ++ [Stp.trim s, Stp.drop s, Stp.squeeze s, Stp.join s o]).map Stp.d)) g5 (.d (.str s)) (.d (.str w)) (.d (.int ((1 + k : Nat) : Int))) g9 g10) (τ1 := τ4) (by
      rw [hmap]
      refine evS_cat rfl (ev_lst (evs_cons (ev_tup (evs_cons ev_str (evs_cons (ev_var rfl) evs_nil)) (by simp) rfl) (evs_cons (ev_tup (evs_cons ev_str (evs_cons (ev_var rfl) evs_nil)) (by simp) rfl) (evs_cons (ev_tup (evs_cons ev_str (evs_cons (ev_var rfl) evs_nil)) (by simp) rfl) (evs_cons (ev_tup (evs_cons ev_str (evs_cons (ev_var rfl) (evs_cons (τ1 := τ4) (d := .str [o]) ?_ evs_nil))) (by simp) rfl) evs_nil)))) (by simp)) (by simp; omega)
      simp [ev, evs, hP.g4, e4])]
    rw [evB_frz (xs := (ss ++ [Stp.trim s, Stp.drop s, Stp.squeeze s, Stp.join s o]).map Stp.d) rfl]
    rw [evB_nx (ρ1 := Fr2 g2 t (.ol (((ss ++ [Stp.trim s, Stp.drop s, Stp.squeeze s, Stp.join s o]) ++ [Stp.front w, Stp.fronts w, Stp.back w, Stp.backs w]).map Stp.d)) g5 (.d (.str s)) (.d (.str w)) (.d (.int ((1 + k : Nat) : Int))) g9 g10) (τ1 := τ4) (by
      rw [hmap (ss ++ [Stp.trim s, Stp.drop s, Stp.squeeze s, Stp.join s o])]
      refine evS_cat rfl (ev_comp (xs := [.str [102, 114, 111, 110, 116], .str [102, 114, 111, 110, 116, 115], .str [98, 97, 99, 107], .str [98, 97, 99, 107, 115]]) (τ1 := τ4) ?_ (ys := [Stp.front w, Stp.fronts w, Stp.back w, Stp.backs w].map Stp.d) ?_ (sl1 (by simp))) (by simp; omega)
      · simp [evi, ev, evs, itemsD, okT, isMap, sl1]
      · simp [cbody, evB, evS, ev, evs, evt, evp, evi, binD, cmpD, bD, mD, neD, eqD, truD, ixD, inD, inB, slD, lenD, intD, maxD, minD, addD, subD, negD, joinD, joinS, txsO, lowerD, upperD, startsD, endsD, stripD, with1, ordD, mulD, modD, fdivD, powD, intO, Out.then, bindT, setAll, itemsD, rangeD, runF, start', mkSg, mkSgG, opD, small62, wipeE, compL, forL, List.replicate, tyIs, okT, isMap, sl1, Stp.d])]
    rw [evB_frz (xs := ((ss ++ [Stp.trim s, Stp.drop s, Stp.squeeze s, Stp.join s o]) ++ [Stp.front w, Stp.fronts w, Stp.back w, Stp.backs w]).map Stp.d) rfl]
    rw [evB_nx (ρ1 := Fr2 g2 t (.ol ((((ss ++ [Stp.trim s, Stp.drop s, Stp.squeeze s, Stp.join s o]) ++ [Stp.front w, Stp.fronts w, Stp.back w, Stp.backs w]) ++ [Stp.first (1 + k), Stp.last (1 + k), Stp.fronts w1]).map Stp.d)) g5 (.d (.str s)) (.d (.str w)) (.d (.int ((1 + k : Nat) : Int))) g9 g10) (τ1 := τ4) (by
      rw [hmap ((ss ++ [Stp.trim s, Stp.drop s, Stp.squeeze s, Stp.join s o]) ++ [Stp.front w, Stp.fronts w, Stp.back w, Stp.backs w])]
      exact evS_cat rfl (ev_lst (evs_cons (ev_tup (evs_cons ev_str (evs_cons (ev_var rfl) evs_nil)) (by simp) rfl) (evs_cons (ev_tup (evs_cons ev_str (evs_cons (ev_var rfl) evs_nil)) (by simp) rfl) (evs_cons (ev_tup (evs_cons ev_str (evs_cons o1 evs_nil)) (by simp) rfl) evs_nil))) (by simp)) (by simp; omega))]
    refine (evB_nx (ρ1 := Fr2 g2 t (.ol (((((ss ++ [Stp.trim s, Stp.drop s, Stp.squeeze s, Stp.join s o]) ++ [Stp.front w, Stp.fronts w, Stp.back w, Stp.backs w]) ++ [Stp.first (1 + k), Stp.last (1 + k), Stp.fronts w1]) ++ [Stp.backs w2]).map Stp.d)) g5 (.d (.str s)) (.d (.str w)) (.d (.int ((1 + k : Nat) : Int))) g9 g10) (τ1 := τ4) ?_).trans (by simp [evB])
    rw [hmap (((ss ++ [Stp.trim s, Stp.drop s, Stp.squeeze s, Stp.join s o]) ++ [Stp.front w, Stp.fronts w, Stp.back w, Stp.backs w]) ++ [Stp.first (1 + k), Stp.last (1 + k), Stp.fronts w1])]
    exact evS_app rfl (ev_tup (evs_cons ev_str (evs_cons o2 evs_nil)) (by simp) rfl) (by simp; omega)
  · intro x hx
    simp only [List.mem_append, List.mem_cons, List.not_mem_nil, or_false] at hx
    have hw2' : w.length ≤ 4000 := by omega
    rcases hx with ((((hx | hx) | hx) | hx) | hx)
    all_goals first | exact hs x hx | skip
    · rcases hx with rfl | rfl | rfl | rfl <;> trivial
    · rcases hx with rfl | rfl | rfl | rfl <;> exact ⟨hw1, hw2'⟩
    · rcases hx with rfl | rfl | rfl
      · exact Nat.le_add_right 1 k
      · exact Nat.le_add_right 1 k
      · exact ⟨hw3, hw4⟩
    · subst hx; exact ⟨hw5, hw6⟩
end PD

set_option Elab.async false
set_option linter.all false
set_option maxRecDepth 100000
set_option maxHeartbeats 8000000
/-! k02: the law answers True. -/
namespace PD
open PySem L2
def ir_law02 : Ss := (.cons (.fr (.nm 2) (.rng1 (.int 12)) (.cons (.set 3 (.callT 0 1 (.cons (.int 60) .nil))) (.cons (.setO 4 (.lst (.cons (.tup (.cons (.str [115, 109, 97, 108, 108]) .nil)) (.cons (.mapc [97] [98]) (.cons (.mapc [45] [95]) .nil))))) (.cons (.fr (.nm 5) (.rng1 (.int 3)) (.cons (.unp (.cons (.nm 6) (.cons (.nm 7) .nil)) (.tup (.cons (.callT 2 1 .nil) (.cons (.callT 1 1 .nil) .nil)))) (.cons (.set 8 (.bin .Add (.int 1) (.callT 3 1 (.cons (.int 3) .nil)))) (.frz 4 (.cons (.setO 4 (.bin .Add (.var 4) (.lst (.cons (.tup (.cons (.str [116, 114, 105, 109]) (.cons (.var 6) .nil))) (.cons (.tup (.cons (.str [100, 114, 111, 112]) (.cons (.var 6) .nil))) (.cons (.tup (.cons (.str [115, 113, 117, 101, 101, 122, 101]) (.cons (.var 6) .nil))) (.cons (.tup (.cons (.str [106, 111, 105, 110]) (.cons (.var 6) (.cons (.callT 4 1 .nil) .nil)))) .nil))))))) (.frz 4 (.cons (.setO 4 (.bin .Add (.var 4) (.comp (.tup (.cons (.var 10) (.cons (.var 7) .nil))) (.nm 10) (.data (.tup (.cons (.str [102, 114, 111, 110, 116]) (.cons (.str [102, 114, 111, 110, 116, 115]) (.cons (.str [98, 97, 99, 107]) (.cons (.str [98, 97, 99, 107, 115]) .nil)))))) .yes [10]))) (.frz 4 (.cons (.setO 4 (.bin .Add (.var 4) (.lst (.cons (.tup (.cons (.str [102, 105, 114, 115, 116]) (.cons (.var 8) .nil))) (.cons (.tup (.cons (.str [108, 97, 115, 116]) (.cons (.var 8) .nil))) (.cons (.tup (.cons (.str [102, 114, 111, 110, 116, 115]) (.cons (.or (.sl (.var 3) .nope (.int 1)) (.one (.str [97]))) .nil))) .nil)))))) (.cons (.app 4 (.tup (.cons (.str [98, 97, 99, 107, 115]) (.cons (.or (.sl (.var 3) (.neg (.int 2)) .nope) (.one (.str [97]))) .nil)))) .nil)))))))))) (.frz 4 (.cons (.fr (.nm 9) (.data (.var 4)) (.cons (.ife (.not (.val (.call 5 (.cons (.call 7 (.cons (.var 3) (.cons (.tup (.cons (.var 9) .nil)) .nil))) (.cons (.call 6 (.cons (.var 3) (.cons (.var 9) .nil))) .nil))))) (.cons (.ret (.bl false)) .nil) .nil) .nil)) .nil)))))) (.cons (.ife (.cmp .NotEq (.lst (.cons (.call 7 (.cons (.str [97, 97, 97, 97, 97]) (.cons (.tup (.cons (.tup (.cons (.str [102, 114, 111, 110, 116, 115]) (.cons (.str [97, 97]) .nil))) .nil)) .nil))) (.cons (.call 7 (.cons (.str [98, 97, 98, 97, 98]) (.cons (.tup (.cons (.tup (.cons (.str [98, 97, 99, 107, 115]) (.cons (.str [97, 98]) .nil))) .nil)) .nil))) .nil))) (.lst (.cons (.str [97]) (.cons (.str [98]) .nil)))) (.cons (.ret (.bl false)) .nil) .nil) (.cons (.ret (.cmp .Eq (.lst (.cons (.call 7 (.cons (.str [97, 97, 45, 97, 97]) (.cons (.tup (.cons (.tup (.cons (.str [116, 114, 105, 109]) (.cons (.str [97]) .nil))) .nil)) .nil))) (.cons (.call 7 (.cons (.str []) (.cons (.tup (.cons (.tup (.cons (.str [106, 111, 105, 110]) (.cons (.str [97]) (.cons (.str [98]) .nil)))) .nil)) .nil))) .nil))) (.lst (.cons (.str [45]) (.cons (.str []) .nil))))) .nil)))
theorem one_ok {s : Stp} (hs : s.ok) : ∀ x ∈ [s], x.ok := by
  intro x hx
  have : x = s := by simpa using hx
  rw [this]
  exact hs
theorem ask_loop (P : Sg) (ns : List Int) (hP : P02 P ns) (g2 : Slot) (t : List Nat) (ht : t.length ≤ 60) (g9 g10 : Slot) : ∀ (xs : List D) (ss : List Stp) (g5 g6 g7 g8 : Slot) (τ : TS), (∀ s ∈ ss, s.ok) → ss.length + 12 * xs.length ≤ 100 →
    ∃ (ss' : List Stp) (g5' g6' g7' g8' : Slot) (τ' : TS), forL (fun x ρ1 τ1 => (bindT (.nm 5) x ρ1).bind fun ρ2 => evB P askB ρ2 τ1) xs (Fr2 g2 t (.ol (ss.map Stp.d)) g5 g6 g7 g8 g9 g10) τ = some (.nx (Fr2 g2 t (.ol (ss'.map Stp.d)) g5' g6' g7' g8' g9 g10) τ') ∧ (∀ s ∈ ss', s.ok)
  | [], ss, g5, g6, g7, g8, τ, hs, _ => ⟨ss, g5, g6, g7, g8, τ, rfl, hs⟩
  | x :: xs, ss, g5, g6, g7, g8, τ, hs, hl => by
    simp only [List.length_cons] at hl
    obtain ⟨s1, a6, a7, a8, τ1, e1, h1, h2⟩ := askB_ok P ns hP g2 t ht ss hs (by omega) (.d x) g6 g7 g8 g9 g10 τ
    obtain ⟨s2, b5, b6, b7, b8, τ2, e2, h3⟩ := ask_loop P ns hP g2 t ht g9 g10 xs s1 (.d x) a6 a7 a8 τ1 h1 (by omega)
    refine ⟨s2, b5, b6, b7, b8, τ2, ?_, h3⟩
    rw [forL_step (ρ1 := Fr2 g2 t (.ol (s1.map Stp.d)) (.d x) a6 a7 a8 g9 g10) (τ1 := τ1) (by simp only [bindT, Option.bind_some]; exact e1)]
    exact e2
abbrev seeB : Ss := (.cons (.ife (.not (.val (.call 5 (.cons (.call 7 (.cons (.var 3) (.cons (.tup (.cons (.var 9) .nil)) .nil))) (.cons (.call 6 (.cons (.var 3) (.cons (.var 9) .nil))) .nil))))) (.cons (.ret (.bl false)) .nil) .nil) .nil)
theorem see_one (P : Sg) (ns : List Int) (hP : P02 P ns) (g2 : Slot) (t : List Nat) (ht : t.length ≤ 60) (ha : ∀ c ∈ t, c < 128) (g4 g5 g6 g7 g8 g10 : Slot) (s : Stp) (hs : s.ok) (τ : TS) :
    evB P seeB (Fr2 g2 t g4 g5 g6 g7 g8 (.d s.d) g10) τ = some (.nx (Fr2 g2 t g4 g5 g6 g7 g8 (.d s.d) g10) τ) := by
  have h2 : t.length ≤ 4000 := by omega
  have c1 : GCl 61 ns [.str t, .tup [s.d]] τ = some (.str (s.ap t), τ) := GCl_eq (ss := [s]) (one_ok hs) (by omega) h2
  have c2 := lawdone_ok true ns t s τ hs h2 ha
  have c3 := like_str true 0 ns (s.ap t) (s.ap t) τ
  rw [beq_self_eq_true] at c3
  have e7 : ev P (.call 7 (.cons (.var 3) (.cons (.tup (.cons (.var 9) .nil)) .nil))) (Fr2 g2 t g4 g5 g6 g7 g8 (.d s.d) g10) τ = some (.str (s.ap t), τ) := by
    rw [ev, evs_cons (ev_var rfl) (evs_cons (ev_tup (evs_cons (ev_var rfl) evs_nil) (by simp) (by cases s <;> rfl)) evs_nil)]
    simp only [Option.bind_some, hP.g7, c1]
  have e6 : ev P (.call 6 (.cons (.var 3) (.cons (.var 9) .nil))) (Fr2 g2 t g4 g5 g6 g7 g8 (.d s.d) g10) τ = some (.str (s.ap t), τ) := by
    rw [ev, evs_cons (ev_var rfl) (evs_cons (ev_var rfl) evs_nil)]
    simp only [Option.bind_some, hP.g6, c2]
  have e5 : ev P (.call 5 (.cons (.call 7 (.cons (.var 3) (.cons (.tup (.cons (.var 9) .nil)) .nil))) (.cons (.call 6 (.cons (.var 3) (.cons (.var 9) .nil))) .nil))) (Fr2 g2 t g4 g5 g6 g7 g8 (.d s.d) g10) τ = some (.bl true, τ) := by
    rw [ev, evs_cons e7 (evs_cons e6 evs_nil)]
    simp only [Option.bind_some, hP.g5, c3]
  refine (evB_nx (evS_f (τ1 := τ) (o := .nx (Fr2 g2 t g4 g5 g6 g7 g8 (.d s.d) g10) τ) ?_ (by rw [evB]))).trans (by rw [evB])
  rw [evt, evt, e5]
  rfl
theorem see_loop (P : Sg) (ns : List Int) (hP : P02 P ns) (g2 : Slot) (t : List Nat) (ht : t.length ≤ 60) (ha : ∀ c ∈ t, c < 128) (g4 g5 g6 g7 g8 g10 : Slot) (τ : TS) : ∀ (ss : List Stp) (g9 : Slot), (∀ s ∈ ss, s.ok) →
    ∃ g9', forL (fun x ρ1 τ1 => (bindT (.nm 9) x ρ1).bind fun ρ2 => evB P seeB ρ2 τ1) (ss.map Stp.d) (Fr2 g2 t g4 g5 g6 g7 g8 g9 g10) τ = some (.nx (Fr2 g2 t g4 g5 g6 g7 g8 g9' g10) τ)
  | [], g9, _ => ⟨g9, rfl⟩
  | s :: ss, g9, hs => by
    obtain ⟨g9', e⟩ := see_loop P ns hP g2 t ht ha g4 g5 g6 g7 g8 g10 τ ss (.d s.d) fun x hx => hs x (List.mem_cons_of_mem _ hx)
    refine ⟨g9', ?_⟩
    rw [List.map_cons, forL_step (ρ1 := Fr2 g2 t g4 g5 g6 g7 g8 (.d s.d) g10) (τ1 := τ) (by simp only [bindT, Option.bind_some]; exact see_one P ns hP g2 t ht ha g4 g5 g6 g7 g8 g10 s (hs s List.mem_cons_self) τ)]
    exact e
abbrev turnB : Ss := (.cons (.set 3 (.callT 0 1 (.cons (.int 60) .nil))) (.cons (.setO 4 (.lst (.cons (.tup (.cons (.str [115, 109, 97, 108, 108]) .nil)) (.cons (.mapc [97] [98]) (.cons (.mapc [45] [95]) .nil))))) (.cons (.fr (.nm 5) (.rng1 (.int 3)) askB) (.frz 4 (.cons (.fr (.nm 9) (.data (.var 4)) seeB) .nil)))))
abbrev Fr0 (g2 g3 g4 g5 g6 g7 g8 g9 g10 : Slot) : Env' := [.un, .tape, g2, g3, g4, g5, g6, g7, g8, g9, g10]
theorem evi_data {P : Sg} {e : E} {ρ : Env'} {τ τ1 : TS} {d : D} {xs : List D} (h : ev P e ρ τ = some (d, τ1)) (h2 : itemsD d = some xs) : evi P (.data e) ρ τ = some (xs, τ1) := by
  rw [evi, h]
  simp only [Option.bind_some, h2, Option.map_some]
theorem evS_setO {P : Sg} {i : Nat} {e : E} {xs : List D} {ρ : Env'} {τ τ1 : TS} (he : ev P e ρ τ = some (.lst xs, τ1)) : evS P (.setO i e) ρ τ = some (.nx (ρ.set i (.ol xs)) τ1) := by
  rw [evS, he]
  rfl
theorem ev_int {P : Sg} {i : Int} {ρ : Env'} {τ : TS} : ev P (.int i) ρ τ = some (.int i, τ) := by rw [ev]
theorem turn_ok (P : Sg) (ns : List Int) (hP : P02 P ns) (g2 g3 g4 g5 g6 g7 g8 g9 g10 : Slot) (τ : TS) : ∃ (a3 a4 a5 a6 a7 a8 a9 : Slot) (τ' : TS), evB P turnB (Fr0 g2 g3 g4 g5 g6 g7 g8 g9 g10) τ = some (.nx (Fr0 g2 a3 a4 a5 a6 a7 a8 a9 g10) τ') := by
  obtain ⟨t, τ1, e1, h1, h2⟩ := text_ok true ns 60 60 rfl (by omega) τ
  have ha := alp_ascii h2
  obtain ⟨ss', b5, b6, b7, b8, τ2, e2, h3⟩ := ask_loop P ns hP g2 t h1 g9 g10 (rangeD 0 3 1) [.small, .map 97 98, .map 45 95] g5 g6 g7 g8 τ1 (by simp [Stp.ok]) (by simp [rangeD])
  obtain ⟨g9', e3⟩ := see_loop P ns hP g2 t h1 ha (.d (.lst (ss'.map Stp.d))) b5 b6 b7 b8 g10 τ2 ss' g9 h3
  refine ⟨.d (.str t), .d (.lst (ss'.map Stp.d)), b5, b6, b7, b8, g9', τ2, ?_⟩
  refine (evB_nx (ρ1 := Fr2 g2 t g4 g5 g6 g7 g8 g9 g10) (τ1 := τ1) (evS_set (d := .str t) (by
    rw [ev]
    show ((evs P (.cons (.int 60) .nil) _ τ).bind fun r => P.G 0 r.1 r.2) = _
    rw [evs_cons ev_int evs_nil]
    simp only [Option.bind_some, hP.g0, e1]))).trans ?_
  refine (evB_nx (ρ1 := Fr2 g2 t (.ol ([Stp.small, Stp.map 97 98, Stp.map 45 95].map Stp.d)) g5 g6 g7 g8 g9 g10) (τ1 := τ1) (evS_setO (ev_lst (evs_cons (ev_tup (evs_cons ev_str evs_nil) (by simp) rfl) (evs_cons (by rw [ev]; rfl) (evs_cons (by rw [ev]; rfl) evs_nil))) (by simp)))).trans ?_
  refine (evB_nx (evS_fr (evi_rng1 (k := 3) (τ1 := τ1) ev_int (by omega)) e2)).trans ?_
  rw [evB_frz (xs := ss'.map Stp.d) rfl]
  exact (evB_nx (evS_fr (evi_data (ev_var rfl) rfl) e3)).trans (by rw [evB])
theorem turn_loop (P : Sg) (ns : List Int) (hP : P02 P ns) (g10 : Slot) : ∀ (xs : List D) (g2 g3 g4 g5 g6 g7 g8 g9 : Slot) (τ : TS), ∃ (a2 a3 a4 a5 a6 a7 a8 a9 : Slot) (τ' : TS),
    forL (fun x ρ1 τ1 => (bindT (.nm 2) x ρ1).bind fun ρ2 => evB P turnB ρ2 τ1) xs (Fr0 g2 g3 g4 g5 g6 g7 g8 g9 g10) τ = some (.nx (Fr0 a2 a3 a4 a5 a6 a7 a8 a9 g10) τ')
  | [], g2, g3, g4, g5, g6, g7, g8, g9, τ => ⟨g2, g3, g4, g5, g6, g7, g8, g9, τ, rfl⟩
  | x :: xs, g2, g3, g4, g5, g6, g7, g8, g9, τ => by
    obtain ⟨a3, a4, a5, a6, a7, a8, a9, τ1, e1⟩ := turn_ok P ns hP (.d x) g3 g4 g5 g6 g7 g8 g9 g10 τ
    obtain ⟨b2, b3, b4, b5, b6, b7, b8, b9, τ2, e2⟩ := turn_loop P ns hP g10 xs (.d x) a3 a4 a5 a6 a7 a8 a9 τ1
    refine ⟨b2, b3, b4, b5, b6, b7, b8, b9, τ2, ?_⟩
    rw [forL_step (ρ1 := Fr0 (.d x) a3 a4 a5 a6 a7 a8 a9 g10) (τ1 := τ1) (by simp only [bindT, Option.bind_some]; exact e1)]
    exact e2
theorem call_cl (P : Sg) (ns : List Int) (hP : P02 P ns) (t : List Nat) (s : Stp) (hs : s.ok) (ht : t.length ≤ 60) (e : E) (ρ : Env') (τ : TS) (he : ev P e ρ τ = some (s.d, τ)) :
    ev P (.call 7 (.cons (.str t) (.cons (.tup (.cons e .nil)) .nil))) ρ τ = some (.str (s.ap t), τ) := by
  have c1 : GCl 61 ns [.str t, .tup [s.d]] τ = some (.str (s.ap t), τ) := GCl_eq (ss := [s]) (one_ok hs) (by omega) (by omega)
  rw [ev, evs_cons ev_str (evs_cons (ev_tup (evs_cons he evs_nil) (by simp) (by cases s <;> rfl)) evs_nil)]
  simp only [Option.bind_some, hP.g7, c1]
theorem law02 (P : Sg) (ns : List Int) (hP : P02 P ns) : ∃ τ, evB P ir_law02 (startLaw 11 1) ⟨0, 0⟩ = some (.rt (.bl true) τ) := by
  obtain ⟨b2, b3, b4, b5, b6, b7, b8, b9, τ, e⟩ := turn_loop P ns hP .un (rangeD 0 12 1) .un .un .un .un .un .un .un .un ⟨0, 0⟩
  refine ⟨τ, ?_⟩
  show evB P ir_law02 (Fr0 .un .un .un .un .un .un .un .un .un) ⟨0, 0⟩ = _
  unfold ir_law02
  refine (evB_nx (evS_fr (evi_rng1 (k := 12) (τ1 := ⟨0, 0⟩) ev_int (by omega)) e)).trans ?_
  have r1 := call_cl P ns hP [97, 97, 97, 97, 97] (.fronts [97, 97]) ⟨by simp, by simp⟩ (by simp) (.tup (.cons (.str [102, 114, 111, 110, 116, 115]) (.cons (.str [97, 97]) .nil))) (Fr0 b2 b3 b4 b5 b6 b7 b8 b9 .un) τ (ev_tup (evs_cons ev_str (evs_cons ev_str evs_nil)) (by simp) rfl)
  have r2 := call_cl P ns hP [98, 97, 98, 97, 98] (.backs [97, 98]) ⟨by simp, by simp⟩ (by simp) (.tup (.cons (.str [98, 97, 99, 107, 115]) (.cons (.str [97, 98]) .nil))) (Fr0 b2 b3 b4 b5 b6 b7 b8 b9 .un) τ (ev_tup (evs_cons ev_str (evs_cons ev_str evs_nil)) (by simp) rfl)
  have r3 := call_cl P ns hP [97, 97, 45, 97, 97] (.trim [97]) trivial (by simp) (.tup (.cons (.str [116, 114, 105, 109]) (.cons (.str [97]) .nil))) (Fr0 b2 b3 b4 b5 b6 b7 b8 b9 .un) τ (ev_tup (evs_cons ev_str (evs_cons ev_str evs_nil)) (by simp) rfl)
  have r4 := call_cl P ns hP [] (.join [97] 98) trivial (by simp) (.tup (.cons (.str [106, 111, 105, 110]) (.cons (.str [97]) (.cons (.str [98]) .nil)))) (Fr0 b2 b3 b4 b5 b6 b7 b8 b9 .un) τ (ev_tup (evs_cons ev_str (evs_cons ev_str (evs_cons ev_str evs_nil))) (by simp) rfl)
  have v1 : (Stp.fronts [97, 97]).ap [97, 97, 97, 97, 97] = [97] := by decide
  have v2 : (Stp.backs [97, 98]).ap [98, 97, 98, 97, 98] = [98] := by decide
  have v3 : (Stp.trim [97]).ap [97, 97, 45, 97, 97] = [45] := by decide
  have v4 : (Stp.join [97] 98).ap [] = [] := by decide
  rw [v1] at r1; rw [v2] at r2; rw [v3] at r3; rw [v4] at r4
  have l1 := ev_lst (evs_cons r1 (evs_cons r2 evs_nil)) (by simp)
  have l2 := ev_lst (evs_cons r3 (evs_cons r4 evs_nil)) (by simp)
  refine (evB_nx (evS_f (τ1 := τ) (o := .nx (Fr0 b2 b3 b4 b5 b6 b7 b8 b9 .un) τ) ?_ (by rw [evB]))).trans (evB_rt (evS_ret ?_))
  · rw [evt, l1]
    simp only [Option.bind_some]
    rw [ev_lst (evs_cons ev_str (evs_cons ev_str evs_nil)) (by simp)]
    simp [cmpD, neD, truD]
  · rw [ev, l2]
    simp only [Option.bind_some]
    rw [ev_lst (evs_cons ev_str (evs_cons ev_str evs_nil)) (by simp)]
    simp [cmpD, eqD]
end PD

set_option Elab.async false
set_option linter.all false
set_option maxRecDepth 100000
set_option maxHeartbeats 8000000
/-! Small words for the last chain. -/
namespace PD
open PySem L2
theorem Kn.mono {Pg : Program} {w : World} {K : PySem.W.Frag} {mg : Str → Option Value} {base : Heap} {C : Con} {j k : Nat} {c : Cal} (h : Kn Pg w K mg base C j c) (hjk : j ≤ k) : Kn Pg w K mg base C k c := by
  obtain ⟨fa, fd, ps, a, b⟩ := h
  exact ⟨fa, fd, ps, a.mono hjk, b⟩
theorem Kn_void {Pg : Program} {w : World} {K : PySem.W.Frag} {mg : Str → Option Value} {base : Heap} {C : Con} {k : Nat} {x : Str} {st : Stmt} {ps : List Str} {tp : Bool} {ar : Nat} {G : GF} (D0 : DefOk K mg x st ps) (hG : ∀ ns ds τ r, G ns ds τ = some r → False) : Kn Pg w K mg base C k ⟨x, tp, ar, G⟩ := by
  obtain ⟨f, fd, Fn, hm, hb⟩ := D0
  refine ⟨f, fd, ps, ⟨fun vs H Q E h => ?_, fun A outer s H args us vs Q E hr he hb hv h => ?_⟩, hm, Fn.kp, hb, fun ns ds τ r e => (hG ns ds τ r e).elim⟩
  · obtain ⟨W, F, us, ds, τ, d, τ', _, _, _, _, _, e, _⟩ := h
    exact (hG _ _ _ _ e).elim
  · obtain ⟨W, F, us, ds, τ, d, τ', _, _, _, _, _, e, _⟩ := h
    exact (hG _ _ _ _ e).elim
theorem all1 {α : Type} {p : α → Prop} {a : α} (h : p a) : ∀ c ∈ [a], p c := by
  intro c hc
  have : c = a := by simpa using hc
  rw [this]; exact h
theorem all2 {α : Type} {p : α → Prop} {a b : α} (h : p a) (h2 : p b) : ∀ c ∈ [a, b], p c := by
  intro c hc
  simp only [List.mem_cons, List.not_mem_nil, or_false] at hc
  rcases hc with rfl | rfl
  · exact h
  · exact h2
theorem all4 {α : Type} {p : α → Prop} {a b c d : α} (h : p a) (h2 : p b) (h3 : p c) (h4 : p d) : ∀ x ∈ [a, b, c, d], p x := by
  intro x hx
  simp only [List.mem_cons, List.not_mem_nil, or_false] at hx
  rcases hx with rfl | rfl | rfl | rfl
  · exact h
  · exact h2
  · exact h3
  · exact h4
theorem run_trimG (ns : List Int) (ds : List D) (τ : TS) (r : D × TS) (h : GTrim ns ds τ = some r) : ds.length = 2 ∧ runF (mkSg true [] [] ns) 2 false ir_trimmed ds τ = some r := by
  unfold GTrim at h
  split at h
  · split at h
    · rename_i hl
      cases h
      exact ⟨rfl, run_trimmed _ _ _ τ hl⟩
    · cases h
  · cases h
theorem run_sqG (ns : List Int) (ds : List D) (τ : TS) (r : D × TS) (h : GSq ns ds τ = some r) : ds.length = 2 ∧ runF (mkSg true [] [] ns) 4 false ir_squeezed ds τ = some r := by
  unfold GSq at h
  split at h
  · split at h
    · rename_i hl
      cases h
      exact ⟨rfl, run_squeezed _ _ _ τ hl⟩
    · cases h
  · cases h
theorem run_joG (ns : List Int) (ds : List D) (τ : TS) (r : D × TS) (h : GJo ns ds τ = some r) : ds.length = 3 ∧ runF (mkSg true [] [] ns) 6 false ir_joined ds τ = some r := by
  unfold GJo at h
  split at h
  · split at h
    · rename_i hl
      cases h
      exact ⟨rfl, run_joined _ rfl _ _ _ (by simp) τ hl⟩
    · cases h
  · cases h
end PD
namespace PD
open PySem L2
theorem GUnfr0 (ns : List Int) (ds : List D) (τ : TS) (r : D × TS) (h : GUnfr 0 ns ds τ = some r) : False := by
  unfold GUnfr at h
  split at h
  · split at h
    · rename_i hd; exact absurd hd.2.1 (Nat.not_lt_zero _)
    · cases h
  · cases h
theorem GUnbk0 (ns : List Int) (ds : List D) (τ : TS) (r : D × TS) (h : GUnbk 0 ns ds τ = some r) : False := by
  unfold GUnbk at h
  split at h
  · split at h
    · rename_i hd; exact absurd hd.2.1 (Nat.not_lt_zero _)
    · cases h
  · cases h
end PD

set_option Elab.async false
set_option linter.all false
set_option maxRecDepth 100000
set_option maxHeartbeats 4000000
/-! A def that gives out a fresh text: its token is known to be new. -/
namespace PD
open PySem L2 PySem.Spec PyProof.Rows
/-- u is a text made since the tokens stood at n, and before they stand at m -/
def Fresh (n m : Nat) (u : Value) : Prop := ∃ (x : Str) (t : Tok), u = .str x t ∧ n < t ∧ t < m
/-- a block whose answer is a fresh text -/
def PSF (X : Cx) (st : List Stmt) (t : L2.TS) : Prop :=
  ∀ (pins : List (Addr × Obj)) (s : Shared) (σ : L2.St) (H : Hp) (D : Ends), L2.Inv X pins σ H s → t D σ H →
    wpAny (model X.prog X.w) X.A (execs st X.env) (fun f s' => SP X pins D f s' ∧ ∀ u, f = .ret u → Fresh s.toks s'.toks u) X.xe s
theorem psf_sub {X : Cx} {a : Str} {j : Nat} {cp sp rp : Pos} {e : Expr} {te : TE} (he : PE X e te) (hs : PlainIx e) : PSF X [.Return (some (.Subscript (.Constant (.str a) j cp) e sp)) rp] (tRet (tOp rIxS (tC (.str a)) te)) := by
  intro pins s σ H D I h
  refine wpAny_execs_cons (wpAny_Return_some (Subscript_ (Calls.Constant_str ?_)))
  have I1 := I.tok (s.toks + 1)
  refine wpAny_mono (PySem.wpAny_toks (he.run pins { s with toks := s.toks + 1 } σ H _ I1 h)) (fun v s1 q => ?_) fun _ _ z => z.2
  obtain ⟨hk, y, H1, I2, r1, q⟩ := q
  obtain ⟨z, i, c, e1, rfl, hz, he2, q⟩ := q
  cases e1
  obtain ⟨t', rfl⟩ := r1
  obtain ⟨k, h1, h2, h3, h4, h5⟩ := atI_get he2
  have hl : a.cps.toList.length = a.length := by simp [Str.length]
  rw [hl] at h1 h4 h5
  have hn := line63
  have hk' : s.toks + 1 ≤ s1.toks := hk
  exact tail_any (typeIs_str s1 a s.toks) slot_str_getitem.lookup (getItem_str (c := c) (by
    have e1 : decide (i < -(2 ^ 63 : Int)) = false := decide_eq_false (by omega)
    have e2 : decide (i ≥ 2 ^ 63) = false := decide_eq_false (by omega)
    rw [e1, e2, Bool.or_false]) (by rw [h1]; simpa using h2) ⟨⟨.str ⟨#[c]⟩, σ, H1, I2.tok _, ⟨_, rfl⟩, q⟩, fun u hu => by
      cases hu
      exact ⟨_, s1.toks, rfl, Nat.lt_of_lt_of_le (Nat.lt_succ_self _) hk', Nat.lt_succ_self _⟩⟩) (hs _ _)
/-- a def that gives out a fresh text -/
def FnT (P : Program) (w : World) (K : PySem.W.Frag) (mg : Str → Option Value) (base : Heap) (k : Nat) (f : Addr) (fd : FuncData) (ps : List Str) (sp : Sp) : Prop :=
  ∀ (A : Around) (outer : List Env) (s : Shared) (H : Hp) (args : Args) (us : List Value) (vs : List V) (Q : VK), Room k A → Env0 P w K mg base A outer s H → BindsTo s fd args (ps.zip us) → Vals vs us → sp vs H Q E0 →
    codeAny (model P w) A (.call (.ref f) args) (fun r s' => CR CX0 outer P w H s Q E0 r s' ∧ ∀ u, r = .ok (.ret u) → Fresh s.toks s'.toks u) s
theorem fnT_of {P : Program} {w : World} {K : PySem.W.Frag} {mg : Str → Option Value} {base : Heap} {x qual : Str} {st : Stmt} {f : Addr} {fd : FuncData} {N ps : List Str} {k : Nat} {sp : Sp} (Fn : L2.Fun K x qual st f fd) (S : FnScope N ps (defScope st)) (len : ∀ vs H Q E, sp vs H Q E → vs.length = ps.length)
    (hbody : ∀ (cdv : Value) (A : Around) (outer : List Env) (s : Shared) (H : Hp) (vs : List V) (Q : VK), Room k (A.deeper (envOfC qual (defScope st) s.heap.objs.size f cdv)) → sp vs H Q E0 →
      ∃ t, PSF (cxOf CX0 P w K mg base N qual (defScope st) f cdv A outer s H E0).nox (defBody st) t ∧ t { nx := fun _ _ => False, rt := Q } (L2.start N vs) H) : FnT P w K mg base (k + 1) f fd ps sp := by
  obtain ⟨oc, od, kV, doc, pm, an, cdv, ct, osl, rfl, lk, hcd⟩ := Fn.ex
  intro A outer s H args us vs Q hr e0 hb r hsp
  have hl := len _ _ _ _ hsp
  have KX : K.In s.heap := e0.mod.kin.keeps fun b o e => (e0.bs b o e).1
  have lim : s.heap.NoLimit := e0.mod.nolimit.keeps fun b o e => (e0.bs b o e).1
  have hkind : ∀ y ∈ ps.zip us, (defScope st).names.lookup y.1 = some .local ∨ ((defScope st).names.lookup y.1 = some .cell ∧ ((cellsFrom (s.heap.objs.size + 1) (defScope st).names []).lookup y.1).isSome = true) := fun ⟨n, v⟩ hy => by
    rcases S.par n (List.of_mem_zip hy).1 with q | q
    · exact .inl q
    · exact .inr ⟨q, PySem.W.cellsFrom_some _ _ _ (.inl q)⟩
  refine codeAny_call_function hr.depth (KX _ _ lk) rfl S.co S.gen rfl (PySem.W.codeRec_of KX hcd) (hb _ _ _ _ ?_)
  refine PySem.wpAny_with_toks (Nat.le_refl s.toks) (wpAny_newFunctionEnv_cells S.kind hkind fun env he s1 x => fun hto => ?_)
  subst he
  refine ⟨lim.keeps x.toInCall.keep, codeAny_func ?_⟩
  obtain ⟨t, ht, hq⟩ := hbody cdv A outer s H vs Q (hr.deeper _) hsp
  have I : L2.Inv (cxOf CX0 P w K mg base N qual (defScope st) f cdv A outer s H E0) [] (L2.start N vs) H s1 := inv_start S hr.hd e0 hl r x
  refine wpAny_mono (ht [] s1 (L2.start N vs) H _ (I.wish _) hq) (fun fl s' hs => ?_) fun e s' hs => False.elim hs
  obtain ⟨hs, hf⟩ := hs
  cases fl with
  | ret u =>
    obtain ⟨v, σ', H', J, rv, q⟩ := hs
    refine ⟨⟨v, H', J.unwish.os, J.unwish.bare, J.unwish.base, J.unwish.hok, rv, q⟩, fun u' hu => ?_⟩
    cases hu
    obtain ⟨y, t', e1, e2, e3⟩ := hf u rfl
    exact ⟨y, t', e1, Nat.lt_of_le_of_lt hto e2, e3⟩
  | next =>
    obtain ⟨σ', H', J, q⟩ := hs
    exact q.elim
  | brk =>
    obtain ⟨_, _, _, q⟩ := hs
    exact False.elim q
  | cont =>
    obtain ⟨_, _, _, q⟩ := hs
    exact False.elim q
end PD

set_option Elab.async false
set_option linter.all false
set_option maxRecDepth 100000
set_option maxHeartbeats 4000000
/-! A local name is stored, and its very value is known behind it. -/
namespace PD
open PySem L2 PySem.Spec PyProof.Rows
theorem ns_inj {h : Heap} {a : Addr} {m m' : Str → Option Value} (x : h.Ns a m) (y : h.Ns a m') : m = m' := by
  obtain ⟨o, es, ep, ho, hd, _, hm⟩ := x
  obtain ⟨o', es', ep', ho', hd', _, hm'⟩ := y
  rw [ho] at ho'
  cases ho'
  rw [hd] at hd'
  cases hd'
  exact funext fun n => (hm n).symm.trans (hm' n)
section
variable {X : Cx} {pins : List (Addr × Obj)} {σ : L2.St} {H : Hp} {s : Shared}
/-- the frame's own dict has changed, by one name -/
theorem Inv.named {h' : Heap} {i : Nat} {x : Str} {v : V} {u : Value} {m : Str → Option Value} {t : Nat} (I : L2.Inv X pins σ H s) (hN : X.N.Nodup) (hi : X.N[i]? = some x) (hk : X.env.scope.names.lookup x = some .local) (r : RelV v u)
    (hn : s.heap.Ns X.env.locals m) (hn' : h'.Ns X.env.locals fun y => if y = x then some u else m y) (hs : Heap.SameBut X.env.locals s.heap h') : L2.Inv X pins (σ.set i (some v)) H { s with heap := h', toks := t } := by
  obtain ⟨m0, hn0, hl⟩ := I.loc
  obtain rfl := ns_inj hn0 hn
  obtain ⟨oL, _, _, hoL, _⟩ := id hn
  have hiσ : i < σ.length := by rw [I.len]; exact (List.getElem?_eq_some_iff.mp hi).1
  have old : ∀ b o, X.s_0.heap.get? b = some o → h'.get? b = s.heap.get? b := fun b o e => hs.2 b (Nat.ne_of_lt (Nat.lt_of_lt_of_le (Heap.lt_size e) I.ok.above))
  have stay : HOk X.prog X.w H h' := fun b ob e => by
    refine (I.hok b ob e).stay (fun c w' hc q => (hs.2 c fun z => ?_).trans q) (fun _ q => q) fun _ _ q => q
    subst z
    have hf := I.free
    rcases hc with rfl | hc
    · rw [hf] at e; cases e
    · rw [hf] at hc; cases hc
  refine ⟨I.ok, I.os, I.bare, ⟨fun b o e n hb hx => (old b o e).trans (I.base.keep b o e n hb hx), fun b o e n hb hx => ?_, I.base.free, fun b o e hx => ?_, I.base.tups, I.base.frzs, I.base.tbls⟩, ⟨_, hn', fun j y w e1 e2 e3 => ?_⟩, fun y c e => ?_, I.free, I.freeC, fun p hp => ?_, stay, by rw [List.length_set]; exact I.len⟩
  · obtain ⟨sl, q⟩ := I.base.slot b o e n hb hx
    exact ⟨sl, (old b o e).trans q⟩
  · obtain ⟨o', q⟩ := I.base.there b o e hx
    exact ⟨o', (old b o e).trans q⟩
  · by_cases hj : j = i
    · subst hj
      rw [hi] at e1; cases e1
      rw [List.getElem?_set_self hiσ] at e2; cases e2
      exact ⟨u, r, .inl ⟨hk, if_pos rfl⟩⟩
    · rw [List.getElem?_set_ne (Ne.symm hj)] at e2
      obtain ⟨u', r', q⟩ := hl j y w e1 e2 e3
      refine ⟨u', r', q.imp (fun ⟨k, e⟩ => ⟨k, ?_⟩) fun ⟨k, c, e, z⟩ => ⟨k, c, e, z.sameBut hs (I.cne y c e)⟩⟩
      have hyx : y ≠ x := fun e => hj (nodup_ix hN e1 (e ▸ hi))
      exact (if_neg hyx).trans e
  · obtain ⟨w', z⟩ := I.cell y c e
    exact ⟨w', z.sameBut hs (I.cne y c e)⟩
  · obtain ⟨e, n, ne, nf, d⟩ := I.pin p hp
    exact ⟨(hs.2 p.1 ne).trans e, n, ne, nf, d⟩
theorem store_raw {M : Model} {A : Around} {E : Value → Shared → Prop} {i : Nat} {x : Str} {v : V} {u : Value} {m : Str → Option Value} {Q : Unit → Shared → Prop} (I : L2.Inv X pins σ H s) (hN : X.N.Nodup) (hi : X.N[i]? = some x) (hk : X.env.scope.names.lookup x = some .local) (r : RelV v u)
    (hn : s.heap.Ns X.env.locals m) (h : ∀ s', L2.Inv X pins (σ.set i (some v)) H s' → (s'.heap.Ns X.env.locals fun y => if y = x then some u else m y) → Q () s') : wpAny M A (storeName X.env x u) Q E s :=
  wpAny_storeName_local hk hn (fun h' hn' hs => h _ (Inv.named I hN hi hk r hn hn' hs) hn') (by rw [I.ok.kind]; rfl)
end
end PD

set_option Elab.async false
set_option linter.all false
set_option maxRecDepth 100000
set_option maxHeartbeats 4000000
/-! A call that answers with a fresh text; two of them stored side by side. -/
namespace PD
open PySem L2 PySem.Spec PyProof.Rows
/-- an expression whose value is a fresh text -/
def PEF (X : Cx) (e : Expr) (t : TE) : Prop :=
  ∀ (pins : List (Addr × Obj)) (s : Shared) (σ : L2.St) (H : Hp) (Q : VK), L2.Inv X pins σ H s → t σ H Q →
    wpAny (model X.prog X.w) X.A (eval e X.env) (fun u s' => EP X pins σ Q u s' ∧ Fresh s.toks s'.toks u) X.xe s
section
variable {X : Cx} {k : Nat} {f : Addr} {fd : FuncData} {ps : List Str} {sp : Sp} {x : Str} {e : Expr} {es : List Expr} {t : TA} {p pos : Pos}
theorem pef_call (Fn : FnT X.prog X.w X.K X.mg X.base k f fd ps sp) (len : ∀ vs H Q E, sp vs H Q E → vs.length = ps.length) (hr : Room k X.A) (hg : Gl X x) (hm : X.mg x = some (.ref f)) (hk : PySem.W.keepIn X.K (.ref f) = true) (hb : Binds X.K fd ps [])
    (ha : PA X (e :: es) t) (hdb : (x == ("__debug__" : Str)) = false) (he : starEach (e :: es) X.env = (false, eval e X.env) :: starEach es X.env) (hpl : (backTo pos (starEach es X.env)).any (·.1) = false) :
    PEF X (.Call (.Name x p) (e :: es) [] pos) (fun σ H Q => t σ H fun vs H1 => sp vs H1 Q E0) := by
  intro pins s σ H Q I h
  refine wpAny_Call_Name_kw (ld_glob I hg hm ?_ hdb)
  refine PySem.W.callWith_K (h₀ := X.base) I.ok.mod.kin hk (wpAny_mono (PySem.wpAny_toks (ha.run pos pins s σ H _ I h)) (fun us s1 ⟨ht, vs, H1, I1, r, q⟩ => ⟨I1.kIn, ?_⟩) fun _ _ z => z.2) he hpl
  have hl : (us ++ []).length = ps.length := by rw [List.append_nil, ← r.length]; exact len _ _ _ _ q
  have hbt := hb s1 us I1.kIn hl
  rw [List.append_nil] at hbt
  refine wpAny_call (codeAny_mono (Fn X.A X.stack s1 H1 ⟨us, []⟩ us vs Q hr I1.env0 hbt r q) fun r s' hq => ?_)
  obtain ⟨hq, hf⟩ := hq
  cases r with
  | error e => exact hq.elim
  | ok fl =>
    cases fl with
    | ret u =>
      obtain ⟨y, t', e1, e2, e3⟩ := hf u rfl
      exact ⟨I1.after hq, y, t', e1, Nat.lt_of_le_of_lt ht e2, e3⟩
    | next => exact False.elim hq
    | brk => exact False.elim hq
    | cont => exact False.elim hq
/-- the frame's dict tells these two, and they are two objects -/
def TwoAt (X : Cx) (s : Shared) (x y : Str) : Prop := ∃ (m : Str → Option Value) (a b : Str) (t1 t2 : Tok), s.heap.Ns X.env.locals m ∧ m x = some (.str a t1) ∧ m y = some (.str b t2) ∧ t1 < t2 ∧ 0 < t1
theorem ps_pairF {i j : Nat} {x y : Str} {a b : Expr} {ta tb : TE} {px py pt pos : Pos} {kt k2 : Nat} {pt2 : Pos} (hc : X.calm = true) (hN : X.N.Nodup) (hi : X.N[i]? = some x) (hj : X.N[j]? = some y) (hij : i ≠ j)
    (hx : X.env.scope.names.lookup x = some .local) (hy : X.env.scope.names.lookup y = some .local) (ha : PEF X a ta) (hb : PEF X b tb) (h1 : starEach [a, b] X.env = [(false, eval a X.env), (false, eval b X.env)])
    (hw : swappedStores [.Tuple [.Name x px, .Name y py] kt pt] (.Tuple [a, b] k2 pt2) X.env = pure (some [x, y]))
    (hs : swapsWithSole [.Tuple [.Name x px, .Name y py] kt pt] (.Tuple [a, b] k2 pt2) pos.line X.env = pure false)
    {pins : List (Addr × Obj)} {s : Shared} {σ : L2.St} {H : Hp} {Q : V → V → Hp → Prop} {R : Flow → Shared → Prop} (I : L2.Inv X pins σ H s) (h : ta σ H fun v H1 => tb σ H1 fun w H2 => Q v w H2)
    (hR : ∀ v w H' s', L2.Inv X pins ((σ.set i (some v)).set j (some w)) H' s' → TwoAt X s' x y → Q v w H' → R .next s') :
    wpAny (model X.prog X.w) X.A (exec (.Assign [.Tuple [.Name x px, .Name y py] kt pt] (.Tuple [a, b] k2 pt2) pos) X.env) R X.xe s := by
  have hxy : x ≠ y := fun e => hij (nodup_ix hN hi (e ▸ hj))
  rw [exec_Assign_arm]
  refine wpAny_bind (wpAny_standAt ?_)
  rw [hs]
  refine wpAny_bind (wpAny_pure ?_)
  rw [if_neg (by decide)]
  refine wpAny_bind (Tuple_ ?_)
  rw [h1]
  refine Calls.spliced_cons (wpAny_mono (ha pins s σ H _ I h) (fun u1 s1 q1 => ?_) fun _ _ z => z)
  obtain ⟨⟨v, H1, I1, r1, q1⟩, y1, t1, rfl, f1, g1⟩ := q1
  refine Calls.spliced_cons (wpAny_mono (hb pins s1 σ H1 _ I1 q1) (fun u2 s2 q2 => ?_) fun _ _ z => z)
  obtain ⟨⟨w, H2, I2, r2, q2⟩, y2, t2, rfl, f2, g2⟩ := q2
  refine Calls.spliced_nil ?_
  refine wpAny_newObj_type ?_ (by show 2 ≤ sizeLine; decide)
  have I3 : L2.Inv X pins σ H2 { s2 with heap := s2.heap.push { cls := .type "tuple", data := .seq [Value.str y1 t1, Value.str y2 t2].toArray } } := I2.kept (t' := s2.toks) fun b o e => Heap.get?_push_of_some _ e
  rw [hw]
  refine wpAny_bind (wpAny_pure ?_)
  show wpAny (model X.prog X.w) X.A (do rule "assign.swapped-stores"; let items ← unpackItems (.ref s2.heap.objs.size) 2 none; assignInOrder [fun v => bindName X.env y v, fun v => bindName X.env x v] items.reverse; pure Flow.next) _ _ _
  refine wpAny_bind (wpAny_rule (wpAny_bind (unpackItems_tuple (items := #[Value.str y1 t1, Value.str y2 t2]) (I.ok.hd hc) (IsTup.new s2.heap _) fun h' hx' => ?_)))
  have I4 := I3.kept (h' := h') (t' := s2.toks) fun b o e => hx' b o (Nat.ne_of_lt (Heap.lt_size e)) e
  show wpAny _ _ (assignInOrder [fun v => bindName X.env y v, fun v => bindName X.env x v] [Value.str y2 t2, Value.str y1 t1] >>= fun _ => pure Flow.next) _ _ _
  obtain ⟨m, hn, _⟩ := id I4.loc
  refine wpAny_bind (assignInOrder_cons (wpAny_bindName (store_raw I4 hN hj hy r2 hn fun s5 I5 hn5 => ?_)))
  refine assignInOrder_cons (wpAny_bindName (store_raw I5 hN hi hx r1 hn5 fun s6 I6 hn6 => assignInOrder_nil (wpAny_pure ?_)))
  rw [List.set_comm _ _ (Ne.symm hij)] at I6
  refine hR v w H2 s6 I6 ⟨_, y1, y2, t1, t2, hn6, if_pos rfl, (if_neg (Ne.symm hxy)).trans (if_pos rfl), Nat.lt_trans g1 f2, Nat.lt_of_le_of_lt (Nat.zero_le _) f1⟩ q2
end
end PD

set_option Elab.async false
set_option linter.all false
set_option maxRecDepth 100000
set_option maxHeartbeats 4000000
/-! return ("map", one, other) if word == "map" and one != other else ("small",), by values. -/
namespace PD
open PySem L2 PySem.Spec PyProof.Rows
section
variable {X : Cx} {pins : List (Addr × Obj)} {σ : L2.St} {H : Hp} {s : Shared}
theorem two_tok {x y : Str} (h : TwoAt X s x y) (t : Nat) : TwoAt X { s with toks := t } x y := h
theorem raw_loc {x : Str} {u : Value} {m : Str → Option Value} {pos : Pos} {Q E : Value → Shared → Prop} (I : L2.Inv X pins σ H s) (hk : X.env.scope.names.lookup x = some .local) (hn : s.heap.Ns X.env.locals m) (hm : m x = some u) (hd : (x == ("__debug__" : Str)) = false) (h : Q u s) :
    wpAny (model X.prog X.w) X.A (eval (.Name x pos) X.env) Q E s := wpAny_Name (wpAny_loadName_local I.ok.kind hk hn hm h) hd
theorem eq_strs {prog : Program} {w : World} {A : Around} {E : Value → Shared → Prop} {s : Shared} {a b : Str} {t u : Tok} {Q : Value → Shared → Prop} (hu : A.units < cLine) (h : Q (.bool (a == b)) s) : wpAny (model prog w) A (compareOp .Eq (.str a t) (.str b u)) Q E s := by
  refine SeqAt.eq_plain (.str a t) (.str b u) rfl rfl (by simpa [PyData.depth] using hu) ?_
  have e : PyData.eqv (.str a) (.str b) = (a == b) := by simp [PyData.eqv]
  rw [e]; exact h
theorem ne_strs {prog : Program} {w : World} {A : Around} {E : Value → Shared → Prop} {s : Shared} {a b : Str} {t u : Tok} {Q : Value → Shared → Prop} (hu : A.units < cLine) (h : Q (.bool (!(a == b))) s) : wpAny (model prog w) A (compareOp .NotEq (.str a t) (.str b u)) Q E s := by
  refine SeqAt.ne_plain (.str a t) (.str b u) rfl rfl (by simpa [PyData.depth] using hu) ?_
  have e : PyData.eqv (.str a) (.str b) = (a == b) := by simp [PyData.eqv]
  rw [e]; exact h
theorem ret_map {i j iw : Nat} {x y wn mp sm wv a b : Str} {jm j2 j3 kt k3 : Nat} {pw cm p1 px1 py1 p2 pb c2 px2 py2 pt c3 p3 pi rp : Pos} {D : Ends} (I : L2.Inv X pins σ H s) (hT : TwoAt X s x y) (hu : X.A.units < cLine)
    (hNw : X.N[iw]? = some wn) (hvw : Vis X.env.scope wn) (hw : okN wn = true) (hσw : σ[iw]? = some (some (.str wv)))
    (hNx : X.N[i]? = some x) (hx : X.env.scope.names.lookup x = some .local) (hxd : (x == ("__debug__" : Str)) = false) (hσx : σ[i]? = some (some (.str a)))
    (hNy : X.N[j]? = some y) (hy : X.env.scope.names.lookup y = some .local) (hyd : (y == ("__debug__" : Str)) = false) (hσy : σ[j]? = some (some (.str b)))
    (h1 : wv = mp → a ≠ b → ∀ (p : Addr) (o : Obj) (t0 t1 t2 : Tok), H p = none → o.cls = .type "tuple" → o.data = .seq #[.str mp t0, .str a t1, .str b t2] 0 → t1 ≠ 0 → t2 ≠ 0 → t1 ≠ t2 → D.rt (.ref p) (upd H p (.frz o (.tup [.str mp, .str a, .str b]))))
    (h2 : ¬ (wv = mp ∧ a ≠ b) → ∀ p, H p = none → D.rt (.ref p) (upd H p (.tup [.str sm]))) :
    wpAny (model X.prog X.w) X.A (exec (.Return (some (.IfExp (.BoolOp .And [.Compare (.Name wn pw) [.Eq] [.Constant (.str mp) jm cm] p1, .Compare (.Name x px1) [.NotEq] [.Name y py1] p2] pb) (.Tuple [.Constant (.str mp) j2 c2, .Name x px2, .Name y py2] kt pt) (.Tuple [.Constant (.str sm) j3 c3] k3 p3) pi)) rp) X.env) (SP X pins D) X.xe s := by
  obtain ⟨m, a', b', t1, t2, hn, mx, my, hlt, h0⟩ := hT
  have ea : a' = a := by
    obtain ⟨m0, hn0, hl⟩ := I.loc
    obtain rfl := ns_inj hn0 hn
    obtain ⟨u, r, q⟩ := hl i x _ hNx hσx (.inl hx)
    rcases q with ⟨_, e⟩ | ⟨k, _⟩
    · rw [mx] at e
      obtain ⟨t, e'⟩ := r
      rw [e'] at e
      cases e; rfl
    · rcases k with k | k
      · exact absurd (hx.symm.trans k) (by decide)
      · exact absurd (hx.symm.trans k) (by decide)
  have eb : b' = b := by
    obtain ⟨m0, hn0, hl⟩ := I.loc
    obtain rfl := ns_inj hn0 hn
    obtain ⟨u, r, q⟩ := hl j y _ hNy hσy (.inl hy)
    rcases q with ⟨_, e⟩ | ⟨k, _⟩
    · rw [my] at e
      obtain ⟨t, e'⟩ := r
      rw [e'] at e
      cases e; rfl
    · rcases k with k | k
      · exact absurd (hy.symm.trans k) (by decide)
      · exact absurd (hy.symm.trans k) (by decide)
  subst ea; subst eb
  -- the tuples
  have small : ∀ k, ¬ (wv = mp ∧ a' ≠ b') → wpAny (model X.prog X.w) X.A (eval (.Tuple [.Constant (.str sm) j3 c3] k3 p3) X.env) (fun u s' => SP X pins D (.ret u) s') X.xe { s with toks := k } := by
    intro k hne
    refine Tuple_ ?_
    show wpAny _ _ (spliced ((false, eval (.Constant (.str sm) j3 c3) X.env) :: backTo p3 (starEach [] X.env))) _ _ _
    refine Calls.spliced_cons (Calls.Constant_str (Calls.spliced_nil ?_))
    refine wpAny_newObj_type ?_ (by show 1 ≤ sizeLine; decide)
    refine ⟨.ref s.heap.objs.size, σ, upd H s.heap.objs.size (.tup [.str sm]), ?_, rfl, h2 hne _ (I.hok.fresh (Nat.le_refl _))⟩
    exact I.laid (t' := k + 1) (fun b u e => Heap.get?_push_of_some _ e) (Nat.le_refl _) ⟨by show 1 ≤ sizeLine; decide, [.str sm k], .cons ⟨_, rfl⟩ .nil, ⟨_, Heap.get?_push_size _ rfl, rfl, _, rfl⟩⟩
  have whole : ∀ k, wv = mp → a' ≠ b' → wpAny (model X.prog X.w) X.A (eval (.Tuple [.Constant (.str mp) j2 c2, .Name x px2, .Name y py2] kt pt) X.env) (fun u s' => SP X pins D (.ret u) s') X.xe { s with toks := k } := by
    intro k e1 e2
    have Ik := I.tok k
    refine Tuple_ ?_
    show wpAny _ _ (spliced ((false, eval (.Constant (.str mp) j2 c2) X.env) :: (false, eval (.Name x px2) X.env) :: (false, eval (.Name y py2) X.env) :: backTo pt (starEach [] X.env))) _ _ _
    refine Calls.spliced_cons (Calls.Constant_str (Calls.spliced_cons (raw_loc (I.tok (k + 1)) hx hn mx hxd (Calls.spliced_cons (raw_loc (I.tok (k + 1)) hy hn my hyd (Calls.spliced_nil ?_))))))
    refine wpAny_newObj_type ?_ (by show 3 ≤ sizeLine; decide)
    have h3 : (3 : Nat) ≤ sizeLine := by decide
    refine ⟨.ref s.heap.objs.size, σ, upd H s.heap.objs.size (.frz { cls := .type "tuple", data := .seq #[.str mp k, .str a' t1, .str b' t2] } (.tup [.str mp, .str a', .str b'])), ?_, rfl, h1 e1 e2 _ _ k t1 t2 (I.hok.fresh (Nat.le_refl _)) rfl rfl (Nat.ne_of_gt h0) (Nat.ne_of_gt (Nat.lt_trans h0 hlt)) (Nat.ne_of_lt hlt)⟩
    exact I.laid (t' := k + 1) (fun b u e => Heap.get?_push_of_some _ e) (Nat.le_refl _) ⟨Heap.get?_push_size _ rfl, h3, [.str mp k, .str a' t1, .str b' t2], .cons ⟨_, rfl⟩ (.cons ⟨_, rfl⟩ (.cons ⟨_, rfl⟩ .nil)), ⟨_, Heap.get?_push_size _ rfl, rfl, _, rfl⟩⟩
  refine wpAny_Return_some (wpAny_IfExp (isTrue_and (wpAny_isTrue_Compare1 (raw_name hNw hvw I hσw (fun v r => ?_) (okN_of hw).1 (okN_of hw).2.1) (nobehind _ (by decide) (by decide)))))
  obtain ⟨tw, rfl⟩ := r
  refine Calls.Constant_str (eq_strs hu (wpAny_truthy_bool ?_))
  by_cases e1 : wv = mp
  · have : (wv == mp) = true := by rw [e1]; exact beq_self_eq_true _
    rw [this, if_pos rfl]
    refine isTrue_and (wpAny_isTrue_Compare1 (raw_loc (I.tok (s.toks + 1)) hx hn mx hxd (raw_loc (I.tok (s.toks + 1)) hy hn my hyd (ne_strs hu (wpAny_truthy_bool ?_)))) (nobehind _ (by decide) (by decide)))
    by_cases e2 : a' = b'
    · have : (!(a' == b')) = false := by rw [e2, beq_self_eq_true]; rfl
      rw [this, if_neg Bool.false_ne_true]
      exact small _ fun z => z.2 e2
    · have : (!(a' == b')) = true := by rw [beq_eq_false_iff_ne.mpr e2]; rfl
      rw [this, if_pos rfl]
      exact isTrue_and_nil (whole _ e1 e2)
  · have : (wv == mp) = false := beq_eq_false_iff_ne.mpr e1
    rw [this, if_neg Bool.false_ne_true]
    exact small _ fun z => e1 z.1
end
end PD

set_option Elab.async false
set_option linter.all false
set_option maxRecDepth 100000
set_option maxHeartbeats 4000000
/-! A checked block with a tail behind it; the tail of _law_step. -/
namespace PD
open PySem L2 PySem.Spec PyProof.Rows
section
variable {nm : Nm} {P : Sg} {C : Con} {W : TW} {X : Cx}
theorem bt_ok (g : Good nm P C W false X) (hk : X.env.scope.kind = .function) {r : List Stmt} {tr : L2.TS} (hr : PSs X r tr) : ∀ (b : Ss) (l : List Stmt), chkB nm X.env.scope b l = true → PSs X (l ++ r) (fun D σ H => RdB P C W b { D with nx := tr D } σ H)
  | .nil, l, h => by
    cases l with
    | nil =>
      refine pss_imp hr ?_
      rintro D σ H ⟨F0, H0, F, ρ, τ, o, r, e, k⟩
      rw [evB] at e
      cases e
      exact k _ _ _ (Sub.rfl' F) r
    | cons _ _ => simp [chkB] at h
  | .cons s ss, l, h => by
    cases l with
    | nil => simp [chkB] at h
    | cons z l' =>
      simp only [chkB, Bool.and_eq_true] at h
      exact pss_imp (pss_cons (s_ok g hk s z h.1) (bt_ok g hk hr ss l' h.2)) fun D σ H q => rd_seq q
  | .frz i ss, l, h => by
    simp only [chkB] at h
    exact pss_imp (bt_ok g hk hr ss l h) fun D σ H q => rd_frz q
theorem pef_imp {e : Expr} {t t' : TE} (h : PEF X e t) (f : ∀ σ H Q, t' σ H Q → t σ H Q) : PEF X e t' := fun pins s σ H Q I q => h pins s σ H Q I (f σ H Q q)
/-- f(tape), a fresh text -/
theorem pef_callT (g : Good nm P C W false X) {f i : Nat} {x t : Str} {p1 p2 p : Pos} {n : Nat} {fa : Addr} {fd : FuncData} {ps : List Str} {G : GF} (hG : G W.ns = P.G f) (h1 : nm.fns[f]? = some (x, true)) (h2 : glB X.env.scope x = true) (h3 : okN x = true) (h4 : nm.N[i]? = some t) (h5 : visB X.env.scope t = true) (h6 : okN t = true)
    (Fn : FnT X.prog X.w X.K X.mg X.base n fa fd ps (spD C true 0 G)) (hr : Room n X.A) (hm : X.mg x = some (.ref fa)) (hkp : PySem.W.keepIn X.K (.ref fa) = true) (hb : Binds X.K fd ps []) (hl : ps.length = 1) :
    PEF X (.Call (.Name x p1) [.Name t p2] [] p) (RdE P C W (.callT f i .nil)) := by
  have len : ∀ vs H Q E, spD C true 0 G vs H Q E → vs.length = ps.length := by
    rintro vs H Q E ⟨W, F, us, ds, τ, d, τ', rfl, h1, h2, _⟩
    rw [hl, List.length_append, h2.len, h1]; rfl
  refine pef_imp (pef_call Fn len hr (gl_of h2) hm hkp hb (pa_cons (pe_var (i := i) (by rw [g.hN]; exact h4) (vis_of h5) (okN_of h6).1 (okN_of h6).2.1) pa_nil rfl) (okN_of h3).1 rfl rfl) ?_
  rintro σ H Q ⟨F0, H0, F, ρ, τ, d, τ', r, e, k⟩
  simp only [ev] at e
  cases q : ρ[i]? with
  | none => rw [q] at e; cases e
  | some s =>
    rw [q] at e
    cases s with
    | tape =>
      simp only [Option.bind_eq_some_iff, Prod.exists] at e
      obtain ⟨ds, τ1, e1, e2⟩ := e
      simp only [evs, Option.some.injEq, Prod.mk.injEq] at e1
      obtain ⟨rfl, rfl⟩ := e1
      obtain ⟨v, e3, e4⟩ := r.get q
      have e4' : v = some (.ref W.tp) := e4
      subst e4'
      refine ⟨_, e3, ?_⟩
      exact ⟨W, F, [], [], τ, d, τ', by simp, rfl, .nil, r.sub, r.tape, by rw [hG]; exact e2, fun v F2 H2 x2 t2 q2 => k v F2 H2 x2 (r.ext x2 t2) q2⟩
    | _ => cases e
/-- `one, other = f(tape), f(tape)` and `return (m, one, other) if word == m and one != other else (s,)` -/
def tTail (P : Sg) (C : Con) (W : TW) (iw i j : Nat) (e : E) (sm : List Nat) : L2.TS := fun D σ H => ∃ F0 H0 F ρ τ w a b τ1 τ2, Rel C W F0 H0 F H σ ρ τ ∧ ρ[iw]? = some (.d (.str w)) ∧ ρ.length > i ∧ ρ.length > j ∧ ev P e ρ τ = some (.str a, τ1) ∧ ev P e ρ τ1 = some (.str b, τ2) ∧
  Cont C W D F0 H0 F (.rt (if w = mapW ∧ a ≠ b then .tup [.str mapW, .str a, .str b] else .tup [.str sm]) τ2)
theorem tail_ok (g : Good nm P C W false X) {iw i j : Nat} {x y wn mp sm : Str} {e : E} {ca cb : Expr} {px py pt spos : Pos} {kt k2 : Nat} {pt2 : Pos} {jm j2 j3 kt' k3 : Nat} {pw cm p1 px1 py1 p2 pb c2 px2 py2 pt' c3 p3 pi rp : Pos}
    (hmp : mp = tx mapW) {sml : List Nat} (hsm : sm = tx sml)
    (hi : X.N[i]? = some x) (hj : X.N[j]? = some y) (hij : i ≠ j) (hwi : iw ≠ i) (hwj : iw ≠ j)
    (hx : X.env.scope.names.lookup x = some .local) (hy : X.env.scope.names.lookup y = some .local) (hxd : (x == ("__debug__" : Str)) = false) (hyd : (y == ("__debug__" : Str)) = false)
    (ha : PEF X ca (RdE P C W e)) (hb : PEF X cb (RdE P C W e)) (h1 : starEach [ca, cb] X.env = [(false, eval ca X.env), (false, eval cb X.env)])
    (hw : swappedStores [.Tuple [.Name x px, .Name y py] kt pt] (.Tuple [ca, cb] k2 pt2) X.env = pure (some [x, y]))
    (hs : swapsWithSole [.Tuple [.Name x px, .Name y py] kt pt] (.Tuple [ca, cb] k2 pt2) spos.line X.env = pure false)
    (hNw : X.N[iw]? = some wn) (hvw : Vis X.env.scope wn) (hwn : okN wn = true) :
    PSs X [.Assign [.Tuple [.Name x px, .Name y py] kt pt] (.Tuple [ca, cb] k2 pt2) spos,
      .Return (some (.IfExp (.BoolOp .And [.Compare (.Name wn pw) [.Eq] [.Constant (.str mp) jm cm] p1, .Compare (.Name x px1) [.NotEq] [.Name y py1] p2] pb) (.Tuple [.Constant (.str mp) j2 c2, .Name x px2, .Name y py2] kt' pt') (.Tuple [.Constant (.str sm) j3 c3] k3 p3) pi)) rp] (tTail P C W iw i j e sml) := by
  subst hmp; subst hsm
  refine ⟨fun pins s σ H D I h => ?_⟩
  obtain ⟨F0, H0, F, ρ, τ, w, a, b, τ1, τ2, r, hρ, li, lj, e1, e2, k⟩ := h
  obtain ⟨vw, hσw, sw⟩ := r.get hρ
  obtain ⟨u, rfl, ru⟩ := sw
  cases ru
  refine wpAny_execs_cons (ps_pairF (Q := fun v v2 H2 => ∃ F', R C F' v (.str a) ∧ R C F' v2 (.str b) ∧ Rel C W F0 H0 F' H2 σ ρ τ2 ∧ Sub F F') g.calm g.nd hi hj hij hx hy ha hb h1 hw hs I ?_ ?_)
  · refine ⟨F0, H0, F, ρ, τ, _, τ1, r, e1, fun v F1 H1 x1 r1 q1 => ⟨F0, H0, F1, ρ, τ1, _, τ2, r1, e2, fun v2 F2 H2 x2 r2 q2 => ⟨F2, R.sub x2.ff _ q1, q2, r2, x1.ff.tr x2.ff⟩⟩⟩
  · rintro v v2 H' s' I' hT ⟨F', q1, q2, r', sF⟩
    cases q1
    cases q2
    have ll := r.len
    have hli : i < σ.length := by omega
    have hlj : j < σ.length := by omega
    show wpAny _ _ _ _ _ _
    refine wpAny_execs_cons (thn (ret_map (D := D) (iw := iw) (wv := tx w) (a := tx a) (b := tx b) I' hT (Nat.lt_of_le_of_lt (Nat.le_add_right _ 65) g.units) hNw hvw hwn ?_ hi hx hxd ?_ hj hy hyd ?_ ?_ ?_) fun f s1 q => ?_)
    · rw [List.getElem?_set_ne (Ne.symm hwj), List.getElem?_set_ne (Ne.symm hwi)]; exact hσw
    · rw [List.getElem?_set_ne (Ne.symm hij), List.getElem?_set_self hli]
    · rw [List.getElem?_set_self (by rw [List.length_set]; exact hlj)]
    · intro ew ne p o t0 t1 t2 hp hc hd n1 n2 n3
      have ew' : w = mapW := by have := tx_beq w mapW; rw [ew, beq_self_eq_true] at this; exact (beq_iff_eq.mp this.symm)
      have ne' : a ≠ b := fun z => ne (by rw [z])
      rw [if_pos ⟨ew', ne'⟩] at k
      exact k _ _ _ ((r'.base.tr (Ext.new r'.sub _ hp))) (r'.tape.extP (ExtP.new r'.sub _ hp)) (R.newM r'.sub hp hc hd n1 n2 n3)
    · intro hn p hp
      have hn' : ¬ (w = mapW ∧ a ≠ b) := fun z => hn ⟨by rw [z.1], fun q => z.2 (by have := tx_beq a b; rw [q, beq_self_eq_true] at this; exact beq_iff_eq.mp this.symm)⟩
      rw [if_neg hn'] at k
      exact k _ _ _ ((r'.base.tr (Ext.new r'.sub _ hp))) (r'.tape.extP (ExtP.new r'.sub _ hp)) (.tup (.inl (.inl upd_same)) (.cons (.str _) .nil) fun z => by simp [isMap] at z)
    · cases f with
      | next => exact wpAny_execs_nil q
      | brk => exact q
      | cont => exact q
      | ret u => exact q
end
end PD

set_option Elab.async false
set_option linter.all false
set_option maxRecDepth 100000
set_option maxHeartbeats 8000000
/-! A def whose checked block has the tail of _law_step behind it. -/
namespace PD
open PySem L2 PySem.Spec PyProof.Rows
/-- what the tail answers -/
def tailD (w a b sm : List Nat) : D := if w = mapW ∧ a ≠ b then .tup [.str mapW, .str a, .str b] else .tup [.str sm]
def TailRun (P : Sg) (iw i j : Nat) (e : E) (sm : List Nat) (r : D × TS) : Out → Prop
  | .rt d τ => (d, τ) = r
  | .nx ρ τ => ∃ w a b τ1 τ2, ρ[iw]? = some (.d (.str w)) ∧ ρ.length > i ∧ ρ.length > j ∧ ev P e ρ τ = some (.str a, τ1) ∧ ev P e ρ τ1 = some (.str b, τ2) ∧ r = (tailD w a b sm, τ2)
  | _ => False
theorem def_okB {Pg : Program} {w : World} {K : PySem.W.Frag} {mg : Str → Option Value} {base : Heap} {C : Con} (M : Mo C K mg) {x : Str} {st : Stmt} {ps N : List Str} {tp : Bool} {ar k : Nat} {body : Ss} {cal : List Cal} {csts : List (Str × D)}
    (D0 : DefOk K mg x st ps) (S : FnScope N ps (defScope st)) {l r : List Stmt} (hlr : defBody st = l ++ r) (chk : chkB (mkNm N cal csts) (defScope st) body l = true) (hl : (if tp then 1 else 0) + ar = ps.length)
    (hcst : ∀ p ∈ csts, CstOk C mg p) (hc : ∀ c ∈ cal, Kn Pg w K mg base C k c) {iw i j : Nat} {e : E} {sm : List Nat}
    (hr : ∀ (W : TW) (X : Cx), Good (mkNm N cal csts) (mkSg C.tk cal csts W.ns) C W false X → X.prog = Pg → X.w = w → X.K = K → X.mg = mg → X.base = base → X.N = N → Room k X.A → X.env.scope = defScope st → PSs X r (tTail (mkSg C.tk cal csts W.ns) C W iw i j e sm))
    (G : GF) (hG : ∀ ns ds τ r, G ns ds τ = some r → ds.length = ar ∧ ∃ o, evB (mkSg C.tk cal csts ns) body (start' N.length tp ds) τ = some o ∧ TailRun (mkSg C.tk cal csts ns) iw i j e sm r o) :
    Kn Pg w K mg base C (k + 1) ⟨x, tp, ar, G⟩ := by
  obtain ⟨f, fd, Fn, hm, hb⟩ := D0
  refine ⟨f, fd, ps, ?_, hm, Fn.kp, hb, fun ns ds τ r e => (hG ns ds τ r e).1⟩
  have hlen : ∀ vs H Q E, spD C tp ar G vs H Q E → vs.length = ps.length := by
    rintro vs H Q E ⟨W, F, us, ds, τ, d, τ', rfl, h1, h2, _⟩
    rw [← hl, List.length_append, h2.len, h1]
    cases tp <;> rfl
  refine Fn.ok S hlen fun cdv A outer s H vs Q E hrm hsp => ?_
  have hvl := hlen _ _ _ _ hsp
  obtain ⟨W, F, us, ds, τ, d, τ', rfl, h1, h2, h3, h4, h5, h6⟩ := hsp
  obtain ⟨_, o, hrun, hto⟩ := hG _ _ _ _ h5
  have g : Good (mkNm N cal csts) (mkSg C.tk cal csts W.ns) C W false (cxOf CX0 Pg w K mg base N x (defScope st) f cdv A outer s H E).nox := by
    exact good_of M rfl rfl S.nd rfl rfl (by
      have := hrm.un
      show (A.deeper _).units + 65 < cLine
      omega) (fun _ _ => rfl) rfl rfl rfl rfl hrm hcst hc (by simp)
  have hpl : ps.length ≤ N.length := by have := congrArg List.length S.pre; rw [List.length_take] at this; omega
  have ht := hr W _ g rfl rfl rfl rfl rfl rfl hrm rfl
  have hb2 := bt_ok g S.kind ht body l chk
  rw [← hlr] at hb2
  refine ⟨_, hb2, F, H, F, start' N.length tp ds, τ, o, start_rel (by rw [hvl]; exact hpl) h2 h3 h4, hrun, ?_⟩
  cases o with
  | nx ρ τ1 =>
    obtain ⟨w, a, b, τ2, τ3, q1, q2, q3, q4, q5, q6⟩ := hto
    cases q6
    intro σ' F' H' s' r'
    exact ⟨_, _, F', ρ, τ1, w, a, b, τ2, _, r', q1, q2, q3, q4, q5, fun v F2 H2 x2 t2 r2 => h6 _ _ _ x2 t2 r2⟩
  | bk ρ τ1 => cases hto
  | ct ρ τ1 => cases hto
  | rt d' τ1 =>
    cases hto
    exact fun v F' H' x' t' r' => h6 _ _ _ x' t' r'
end PD

set_option Elab.async false
set_option linter.all false
set_option maxRecDepth 100000
set_option maxHeartbeats 8000000
/-! What _law_step draws. -/
namespace PD
open PySem L2
def ir_step7 : Ss := (.cons (.set 1 (.lst (.cons (.str [116, 114, 105, 109]) (.cons (.str [116, 114, 105, 109]) (.cons (.str [100, 114, 111, 112]) (.cons (.str [115, 113, 117, 101, 101, 122, 101]) (.cons (.str [106, 111, 105, 110]) (.cons (.str [109, 97, 112]) (.cons (.str [115, 109, 97, 108, 108]) .nil))))))))) (.cons (.set 1 (.bin .Add (.var 1) (.lst (.cons (.str [102, 114, 111, 110, 116]) (.cons (.str [102, 114, 111, 110, 116, 115]) (.cons (.str [98, 97, 99, 107]) (.cons (.str [98, 97, 99, 107, 115]) (.cons (.str [102, 105, 114, 115, 116]) (.cons (.str [108, 97, 115, 116]) .nil))))))))) (.cons (.set 2 (.idx (.var 1) (.callT 0 0 (.cons (.int 13) .nil)))) (.cons (.ife (.cmp .In (.var 2) (.tup (.cons (.str [116, 114, 105, 109]) (.cons (.str [100, 114, 111, 112]) (.cons (.str [115, 113, 117, 101, 101, 122, 101]) .nil))))) (.cons (.ret (.tup (.cons (.var 2) (.cons (.callT 1 0 .nil) .nil)))) .nil) .nil) (.cons (.ife (.cmp .In (.var 2) (.tup (.cons (.str [102, 105, 114, 115, 116]) (.cons (.str [108, 97, 115, 116]) .nil)))) (.cons (.ret (.tup (.cons (.var 2) (.cons (.bin .Add (.int 1) (.callT 0 0 (.cons (.int 3) .nil))) .nil)))) .nil) .nil) (.cons (.ife (.cmp .In (.var 2) (.tup (.cons (.str [102, 114, 111, 110, 116]) (.cons (.str [102, 114, 111, 110, 116, 115]) (.cons (.str [98, 97, 99, 107]) (.cons (.str [98, 97, 99, 107, 115]) .nil)))))) (.cons (.ret (.tup (.cons (.var 2) (.cons (.callT 2 0 .nil) .nil)))) .nil) .nil) (.cons (.ife (.cmp .Eq (.var 2) (.str [106, 111, 105, 110])) (.cons (.ret (.tup (.cons (.var 2) (.cons (.callT 1 0 .nil) (.cons (.callT 3 0 .nil) .nil))))) .nil) .nil) .nil)))))))
noncomputable abbrev calStep (tk : Bool) : List Cal := [cDraw tk, ⟨"_law_set", true, 0, GSet tk⟩, ⟨"_law_word", true, 0, GWord tk⟩, cSign tk]
def SML : List Nat := [115, 109, 97, 108, 108]
noncomputable def outTail (P : Sg) : Out → Option (D × TS)
  | .rt d τ1 => some (d, τ1)
  | .nx ρ τ1 => (match (ρ[2]? : Option Slot) with
      | some (.d (.str w)) => if ρ.length = 5 then (match (ev P (.callT 3 0 .nil) ρ τ1 : Option (D × TS)) with
        | some (.str a, τ2) => (match (ev P (.callT 3 0 .nil) ρ τ2 : Option (D × TS)) with
          | some (.str b, τ3) => some (tailD w a b SML, τ3)
          | _ => none)
        | _ => none) else none
      | _ => none)
  | _ => none
noncomputable def GStepD (tk : Bool) : GF := fun ns ds τ =>
  if ds.length = 0 then (evB (mkSg tk (calStep tk) [] ns) ir_step7 (start' 5 true ds) τ).bind (outTail (mkSg tk (calStep tk) [] ns)) else none
theorem GStepD_run {tk : Bool} {ns : List Int} {ds : List D} {τ : TS} {r : D × TS} (h : GStepD tk ns ds τ = some r) : ds.length = 0 ∧ ∃ o, evB (mkSg tk (calStep tk) [] ns) ir_step7 (start' 5 true ds) τ = some o ∧ TailRun (mkSg tk (calStep tk) [] ns) 2 3 4 (.callT 3 0 .nil) SML r o := by
  unfold GStepD at h
  split at h
  · rename_i hl
    simp only [Option.bind_eq_some_iff] at h
    obtain ⟨o, e1, e2⟩ := h
    refine ⟨hl, o, e1, ?_⟩
    unfold outTail at e2
    cases o with
    | rt d τ1 => exact Option.some.inj e2
    | nx ρ τ1 =>
      simp only at e2
      split at e2
      · rename_i w hw
        split at e2
        · rename_i h5
          split at e2
          · rename_i a τ2 q1
            split at e2
            · rename_i b τ3 q2
              exact ⟨w, a, b, τ2, τ3, hw, by omega, by omega, q1, q2, (Option.some.inj e2).symm⟩
            · cases e2
          · cases e2
        · cases e2
      · cases e2
    | bk _ _ => cases e2
    | ct _ _ => cases e2
  · cases h
end PD

set_option Elab.async false
set_option linter.all false
set_option maxRecDepth 100000
set_option maxHeartbeats 8000000
/-! What _law_step draws: an ok step. -/
namespace PD
open PySem L2
def KND : List (List Nat) := [[116, 114, 105, 109], [116, 114, 105, 109], [100, 114, 111, 112], [115, 113, 117, 101, 101, 122, 101], [106, 111, 105, 110], [109, 97, 112], [115, 109, 97, 108, 108], [102, 114, 111, 110, 116], [102, 114, 111, 110, 116, 115], [98, 97, 99, 107], [98, 97, 99, 107, 115], [102, 105, 114, 115, 116], [108, 97, 115, 116]]
def Stp.drawn : Stp → Prop
  | .small => True
  | .map x y => x ∈ SGN ∧ y ∈ SGN
  | .drop s | .trim s | .squeeze s => s ≠ [] ∧ s.length ≤ 3 ∧ s.Pairwise (· < ·) ∧ ∀ c ∈ s, c ∈ SGN
  | .join s o => (s ≠ [] ∧ s.length ≤ 3 ∧ s.Pairwise (· < ·) ∧ ∀ c ∈ s, c ∈ SGN) ∧ o ∈ SGN
  | .front w | .fronts w | .back w | .backs w => w ≠ [] ∧ w.length ≤ 2 ∧ ∀ c ∈ w, c ∈ SGN
  | .first n | .last n => 1 ≤ n ∧ n ≤ 3
theorem step_ok (tk : Bool) (ns : List Int) (τ : TS) : ∃ s τ', GStepD tk ns [] τ = some (Stp.d s, τ') ∧ s.ok ∧ s.drawn := by
  obtain ⟨r, τ1, e1, h1⟩ := draw_int tk ns 13 13 rfl (by omega) (by omega) τ
  obtain ⟨s, τ2, e2, a1, a2, a3, a4⟩ := sset_ok tk ns τ1
  obtain ⟨w, τ3, e3, b1, b2, b3⟩ := word_ok tk ns τ1
  obtain ⟨n, τ4, e4, h4⟩ := draw_int tk ns 3 3 rfl (by omega) (by omega) τ1
  obtain ⟨o, τ5, e5, h5⟩ := sign_ok tk ns τ2
  obtain ⟨x, τ6, e6, h6⟩ := sign_ok tk ns τ1
  obtain ⟨y, τ7, e7, h7⟩ := sign_ok tk ns τ6
  have z1 : 1 ≤ sizeLine := by decide
  have z6 : 6 ≤ sizeLine := by decide
  have z7 : 7 ≤ sizeLine := by decide
  have z13 : 13 ≤ sizeLine := by decide
  have hrun : ∀ d τ', (evB (mkSg tk (calStep tk) [] ns) ir_step7 [.tape, .un, .un, .un, .un] τ).bind (outTail (mkSg tk (calStep tk) [] ns)) = some (d, τ') → GStepD tk ns [] τ = some (d, τ') := fun d τ' h => by
    unfold GStepD
    exact (if_pos (c := ([] : List D).length = 0) rfl).trans h
  have hk : ∃ k, atI KND (r : Int) = some k ∧ KND[r]? = some k := ⟨KND[r], atI_nat (List.getElem?_eq_getElem h1), List.getElem?_eq_getElem h1⟩
  obtain ⟨k, k1, k2⟩ := hk
  have k3 : atI (KND.map D.str) (r : Int) = some (.str k) := atI_nat (by rw [List.getElem?_map, k2]; rfl)
  simp only [KND, List.map_cons, List.map_nil] at k3
  have z2 : 2 ≤ sizeLine := by decide
  have z3 : 3 ≤ sizeLine := by decide
  have z4 : 4 ≤ sizeLine := by decide
  have h13 : r = 0 ∨ r = 1 ∨ r = 2 ∨ r = 3 ∨ r = 4 ∨ r = 5 ∨ r = 6 ∨ r = 7 ∨ r = 8 ∨ r = 9 ∨ r = 10 ∨ r = 11 ∨ r = 12 := by omega
  have hw : ∀ R, (evB (mkSg tk (calStep tk) [] ns) ir_step7 [.tape, .un, .un, .un, .un] τ).bind (outTail (mkSg tk (calStep tk) [] ns)) = R ↔ (evB (mkSg tk (calStep tk) [] ns) (match ir_step7 with | .cons _ (.cons _ (.cons _ t)) => t | t => t) [.tape, .d (.lst (KND.map .str)), .d (.str k), .un, .un] τ1).bind (outTail (mkSg tk (calStep tk) [] ns)) = R := by
    intro R
    unfold ir_step7
    rw [evB_nx (ρ1 := [.tape, .d (.lst ((KND.take 7).map .str)), .un, .un, .un]) (τ1 := τ) (by simp [evB, evS, ev, evs, evt, evp, evi, binD, cmpD, bD, mD, neD, eqD, truD, ixD, inD, inB, slD, lenD, intD, maxD, minD, addD, subD, negD, joinD, joinS, txsO, lowerD, upperD, startsD, endsD, stripD, with1, ordD, mulD, modD, fdivD, powD, intO, Out.then, bindT, setAll, itemsD, rangeD, runF, start', mkSg, mkSgG, opD, small62, wipeE, compL, forL, List.replicate, tyIs, KND, okT, isMap, z6, z7, z13]),
      evB_nx (ρ1 := [.tape, .d (.lst (KND.map .str)), .un, .un, .un]) (τ1 := τ) (by simp [evB, evS, ev, evs, evt, evp, evi, binD, cmpD, bD, mD, neD, eqD, truD, ixD, inD, inB, slD, lenD, intD, maxD, minD, addD, subD, negD, joinD, joinS, txsO, lowerD, upperD, startsD, endsD, stripD, with1, ordD, mulD, modD, fdivD, powD, intO, Out.then, bindT, setAll, itemsD, rangeD, runF, start', mkSg, mkSgG, opD, small62, wipeE, compL, forL, List.replicate, tyIs, KND, okT, isMap, z6, z7, z13]),
      evB_nx (ρ1 := [.tape, .d (.lst (KND.map .str)), .d (.str k), .un, .un]) (τ1 := τ1) (by simp [evB, evS, ev, evs, evt, evp, evi, binD, cmpD, bD, mD, neD, eqD, truD, ixD, inD, inB, slD, lenD, intD, maxD, minD, addD, subD, negD, joinD, joinS, txsO, lowerD, upperD, startsD, endsD, stripD, with1, ordD, mulD, modD, fdivD, powD, intO, Out.then, bindT, setAll, itemsD, rangeD, runF, start', mkSg, mkSgG, opD, small62, wipeE, compL, forL, List.replicate, tyIs, KND, e1, k3])]
  have fin : ∀ d τ', (evB (mkSg tk (calStep tk) [] ns) (match ir_step7 with | .cons _ (.cons _ (.cons _ t)) => t | t => t) [.tape, .d (.lst (KND.map .str)), .d (.str k), .un, .un] τ1).bind (outTail (mkSg tk (calStep tk) [] ns)) = some (d, τ') → GStepD tk ns [] τ = some (d, τ') := fun d τ' h => hrun d τ' ((hw _).mpr h)
  unfold ir_step7 at fin
  simp only at fin
  rcases h13 with rfl | rfl | rfl | rfl | rfl | rfl | rfl | rfl | rfl | rfl | rfl | rfl | rfl <;> (simp only [KND, List.getElem?_cons_zero, List.getElem?_cons_succ, Option.some.injEq] at k2; subst k2)
  · exact ⟨.trim s, τ2, fin _ _ (by simp [evB, evS, ev, evs, evt, evp, evi, binD, cmpD, bD, mD, neD, eqD, truD, ixD, inD, inB, slD, lenD, intD, maxD, minD, addD, subD, negD, joinD, joinS, txsO, lowerD, upperD, startsD, endsD, stripD, with1, ordD, mulD, modD, fdivD, powD, intO, Out.then, bindT, setAll, itemsD, rangeD, runF, start', mkSg, mkSgG, opD, small62, wipeE, compL, forL, List.replicate, tyIs, okT, isMap, mapW, z1, z2, z3, z4, outTail, e2, Stp.d]), trivial, a1, a2, a3, a4⟩
  · exact ⟨.trim s, τ2, fin _ _ (by simp [evB, evS, ev, evs, evt, evp, evi, binD, cmpD, bD, mD, neD, eqD, truD, ixD, inD, inB, slD, lenD, intD, maxD, minD, addD, subD, negD, joinD, joinS, txsO, lowerD, upperD, startsD, endsD, stripD, with1, ordD, mulD, modD, fdivD, powD, intO, Out.then, bindT, setAll, itemsD, rangeD, runF, start', mkSg, mkSgG, opD, small62, wipeE, compL, forL, List.replicate, tyIs, okT, isMap, mapW, z1, z2, z3, z4, outTail, e2, Stp.d]), trivial, a1, a2, a3, a4⟩
  · exact ⟨.drop s, τ2, fin _ _ (by simp [evB, evS, ev, evs, evt, evp, evi, binD, cmpD, bD, mD, neD, eqD, truD, ixD, inD, inB, slD, lenD, intD, maxD, minD, addD, subD, negD, joinD, joinS, txsO, lowerD, upperD, startsD, endsD, stripD, with1, ordD, mulD, modD, fdivD, powD, intO, Out.then, bindT, setAll, itemsD, rangeD, runF, start', mkSg, mkSgG, opD, small62, wipeE, compL, forL, List.replicate, tyIs, okT, isMap, mapW, z1, z2, z3, z4, outTail, e2, Stp.d]), trivial, a1, a2, a3, a4⟩
  · exact ⟨.squeeze s, τ2, fin _ _ (by simp [evB, evS, ev, evs, evt, evp, evi, binD, cmpD, bD, mD, neD, eqD, truD, ixD, inD, inB, slD, lenD, intD, maxD, minD, addD, subD, negD, joinD, joinS, txsO, lowerD, upperD, startsD, endsD, stripD, with1, ordD, mulD, modD, fdivD, powD, intO, Out.then, bindT, setAll, itemsD, rangeD, runF, start', mkSg, mkSgG, opD, small62, wipeE, compL, forL, List.replicate, tyIs, okT, isMap, mapW, z1, z2, z3, z4, outTail, e2, Stp.d]), trivial, a1, a2, a3, a4⟩
  · exact ⟨.join s o, τ5, fin _ _ (by simp [evB, evS, ev, evs, evt, evp, evi, binD, cmpD, bD, mD, neD, eqD, truD, ixD, inD, inB, slD, lenD, intD, maxD, minD, addD, subD, negD, joinD, joinS, txsO, lowerD, upperD, startsD, endsD, stripD, with1, ordD, mulD, modD, fdivD, powD, intO, Out.then, bindT, setAll, itemsD, rangeD, runF, start', mkSg, mkSgG, opD, small62, wipeE, compL, forL, List.replicate, tyIs, okT, isMap, mapW, z1, z2, z3, z4, outTail, e2, e5, Stp.d]), trivial, ⟨a1, a2, a3, a4⟩, h5⟩
  · by_cases q : x = y
    · exact ⟨.small, τ7, fin _ _ (by simp [evB, evS, ev, evs, evt, evp, evi, binD, cmpD, bD, mD, neD, eqD, truD, ixD, inD, inB, slD, lenD, intD, maxD, minD, addD, subD, negD, joinD, joinS, txsO, lowerD, upperD, startsD, endsD, stripD, with1, ordD, mulD, modD, fdivD, powD, intO, Out.then, bindT, setAll, itemsD, rangeD, runF, start', mkSg, mkSgG, opD, small62, wipeE, compL, forL, List.replicate, tyIs, okT, isMap, mapW, z1, z2, z3, z4, outTail, e6, e7, Stp.d, tailD, SML, q]), trivial, trivial⟩
    · exact ⟨.map x y, τ7, fin _ _ (by simp [evB, evS, ev, evs, evt, evp, evi, binD, cmpD, bD, mD, neD, eqD, truD, ixD, inD, inB, slD, lenD, intD, maxD, minD, addD, subD, negD, joinD, joinS, txsO, lowerD, upperD, startsD, endsD, stripD, with1, ordD, mulD, modD, fdivD, powD, intO, Out.then, bindT, setAll, itemsD, rangeD, runF, start', mkSg, mkSgG, opD, small62, wipeE, compL, forL, List.replicate, tyIs, okT, isMap, mapW, z1, z2, z3, z4, outTail, e6, e7, Stp.d, tailD, SML, q]), q, h6, h7⟩
  · exact ⟨.small, τ7, fin _ _ (by simp [evB, evS, ev, evs, evt, evp, evi, binD, cmpD, bD, mD, neD, eqD, truD, ixD, inD, inB, slD, lenD, intD, maxD, minD, addD, subD, negD, joinD, joinS, txsO, lowerD, upperD, startsD, endsD, stripD, with1, ordD, mulD, modD, fdivD, powD, intO, Out.then, bindT, setAll, itemsD, rangeD, runF, start', mkSg, mkSgG, opD, small62, wipeE, compL, forL, List.replicate, tyIs, okT, isMap, mapW, z1, z2, z3, z4, outTail, e6, e7, Stp.d, tailD, SML]), trivial, trivial⟩
  · exact ⟨.front w, τ3, fin _ _ (by simp [evB, evS, ev, evs, evt, evp, evi, binD, cmpD, bD, mD, neD, eqD, truD, ixD, inD, inB, slD, lenD, intD, maxD, minD, addD, subD, negD, joinD, joinS, txsO, lowerD, upperD, startsD, endsD, stripD, with1, ordD, mulD, modD, fdivD, powD, intO, Out.then, bindT, setAll, itemsD, rangeD, runF, start', mkSg, mkSgG, opD, small62, wipeE, compL, forL, List.replicate, tyIs, okT, isMap, mapW, z1, z2, z3, z4, outTail, e3, Stp.d]), ⟨b1, by omega⟩, b1, b2, b3⟩
  · exact ⟨.fronts w, τ3, fin _ _ (by simp [evB, evS, ev, evs, evt, evp, evi, binD, cmpD, bD, mD, neD, eqD, truD, ixD, inD, inB, slD, lenD, intD, maxD, minD, addD, subD, negD, joinD, joinS, txsO, lowerD, upperD, startsD, endsD, stripD, with1, ordD, mulD, modD, fdivD, powD, intO, Out.then, bindT, setAll, itemsD, rangeD, runF, start', mkSg, mkSgG, opD, small62, wipeE, compL, forL, List.replicate, tyIs, okT, isMap, mapW, z1, z2, z3, z4, outTail, e3, Stp.d]), ⟨b1, by omega⟩, b1, b2, b3⟩
  · exact ⟨.back w, τ3, fin _ _ (by simp [evB, evS, ev, evs, evt, evp, evi, binD, cmpD, bD, mD, neD, eqD, truD, ixD, inD, inB, slD, lenD, intD, maxD, minD, addD, subD, negD, joinD, joinS, txsO, lowerD, upperD, startsD, endsD, stripD, with1, ordD, mulD, modD, fdivD, powD, intO, Out.then, bindT, setAll, itemsD, rangeD, runF, start', mkSg, mkSgG, opD, small62, wipeE, compL, forL, List.replicate, tyIs, okT, isMap, mapW, z1, z2, z3, z4, outTail, e3, Stp.d]), ⟨b1, by omega⟩, b1, b2, b3⟩
  · exact ⟨.backs w, τ3, fin _ _ (by simp [evB, evS, ev, evs, evt, evp, evi, binD, cmpD, bD, mD, neD, eqD, truD, ixD, inD, inB, slD, lenD, intD, maxD, minD, addD, subD, negD, joinD, joinS, txsO, lowerD, upperD, startsD, endsD, stripD, with1, ordD, mulD, modD, fdivD, powD, intO, Out.then, bindT, setAll, itemsD, rangeD, runF, start', mkSg, mkSgG, opD, small62, wipeE, compL, forL, List.replicate, tyIs, okT, isMap, mapW, z1, z2, z3, z4, outTail, e3, Stp.d]), ⟨b1, by omega⟩, b1, b2, b3⟩
  · exact ⟨.first (1 + n), τ4, fin _ _ (by simp [evB, evS, ev, evs, evt, evp, evi, binD, cmpD, bD, mD, neD, eqD, truD, ixD, inD, inB, slD, lenD, intD, maxD, minD, addD, subD, negD, joinD, joinS, txsO, lowerD, upperD, startsD, endsD, stripD, with1, ordD, mulD, modD, fdivD, powD, intO, Out.then, bindT, setAll, itemsD, rangeD, runF, start', mkSg, mkSgG, opD, small62, wipeE, compL, forL, List.replicate, tyIs, okT, isMap, mapW, z1, z2, z3, z4, outTail, e4, Stp.d]), by show 1 ≤ 1 + n; omega, by omega, by omega⟩
  · exact ⟨.last (1 + n), τ4, fin _ _ (by simp [evB, evS, ev, evs, evt, evp, evi, binD, cmpD, bD, mD, neD, eqD, truD, ixD, inD, inB, slD, lenD, intD, maxD, minD, addD, subD, negD, joinD, joinS, txsO, lowerD, upperD, startsD, endsD, stripD, with1, ordD, mulD, modD, fdivD, powD, intO, Out.then, bindT, setAll, itemsD, rangeD, runF, start', mkSg, mkSgG, opD, small62, wipeE, compL, forL, List.replicate, tyIs, okT, isMap, mapW, z1, z2, z3, z4, outTail, e4, Stp.d]), by show 1 ≤ 1 + n; omega, by omega, by omega⟩
end PD

set_option Elab.async false
set_option linter.all false
set_option maxRecDepth 100000
set_option maxHeartbeats 8000000
/-! A def `return TEXT[e]` gives out a fresh text. -/
namespace PD
open PySem L2 PySem.Spec PyProof.Rows
def KnT (Pg : Program) (w : World) (K : PySem.W.Frag) (mg : Str → Option Value) (base : Heap) (C : Con) (k : Nat) (c : Cal) : Prop :=
  ∃ fa fd ps, FnT Pg w K mg base k fa fd ps (spD C c.tp c.ar c.G) ∧ mg c.x = some (.ref fa) ∧ PySem.W.keepIn K (.ref fa) = true ∧ Binds K fd ps [] ∧ ps.length = (if c.tp then 1 else 0) + c.ar
theorem def_okT {Pg : Program} {w : World} {K : PySem.W.Frag} {mg : Str → Option Value} {base : Heap} {C : Con} (M : Mo C K mg) {x : Str} {st : Stmt} {ps N : List Str} {tp : Bool} {ar k : Nat} {cal : List Cal} {csts : List (Str × D)}
    (D0 : DefOk K mg x st ps) (S : FnScope N ps (defScope st)) {a : Str} {j : Nat} {cp sp rp : Pos} {ex : Expr} {ie : E} (hbd : defBody st = [.Return (some (.Subscript (.Constant (.str a) j cp) ex sp)) rp]) (hpx : PlainIx ex) (hsz : a.length ≤ sizeLine)
    (chk : chkE (mkNm N cal csts) (defScope st) ie ex = true) (hl : (if tp then 1 else 0) + ar = ps.length)
    (hcst : ∀ p ∈ csts, CstOk C mg p) (hc : ∀ c ∈ cal, Kn Pg w K mg base C k c)
    (G : GF) (hG : ∀ ns ds τ r, G ns ds τ = some r → ds.length = ar ∧ ∃ i τ' c, ev (mkSg C.tk cal csts ns) ie (start' N.length tp ds) τ = some (.int i, τ') ∧ atI a.cps.toList i = some c ∧ r = (.str [c], τ')) :
    KnT Pg w K mg base C (k + 1) ⟨x, tp, ar, G⟩ := by
  obtain ⟨f, fd, Fn, hm, hb⟩ := D0
  refine ⟨f, fd, ps, ?_, hm, Fn.kp, hb, hl.symm⟩
  have hlen : ∀ vs H Q E, spD C tp ar G vs H Q E → vs.length = ps.length := by
    rintro vs H Q E ⟨W, F, us, ds, τ, d, τ', rfl, h1, h2, _⟩
    rw [← hl, List.length_append, h2.len, h1]
    cases tp <;> rfl
  refine fnT_of Fn S hlen fun cdv A outer s H vs Q hrm hsp => ?_
  have hvl := hlen _ _ _ _ hsp
  obtain ⟨W, F, us, ds, τ, d, τ', rfl, h1, h2, h3, h4, h5, h6⟩ := hsp
  obtain ⟨_, i, τ2, c, hrun, hat, heq⟩ := hG _ _ _ _ h5
  have g : Good (mkNm N cal csts) (mkSg C.tk cal csts W.ns) C W false (cxOf CX0 Pg w K mg base N x (defScope st) f cdv A outer s H E0).nox := by
    exact good_of M rfl rfl S.nd rfl rfl (by
      have := hrm.un
      show (A.deeper _).units + 65 < cLine
      omega) (fun _ _ => rfl) rfl rfl rfl rfl hrm hcst hc (by simp)
  have hpl : ps.length ≤ N.length := by have := congrArg List.length S.pre; rw [List.length_take] at this; omega
  have hb2 := psf_sub (a := a) (j := j) (cp := cp) (sp := sp) (rp := rp) (e_ok ie g ex chk) hpx
  rw [← hbd] at hb2
  refine ⟨_, hb2, F, H, F, start' N.length tp ds, τ, .int i, τ2, start_rel (by rw [hvl]; exact hpl) h2 h3 h4, hrun, fun v F' H' x' r' q' => ?_⟩
  cases q'
  cases heq
  exact ⟨a, i, c, rfl, rfl, hsz, hat, h6 _ _ _ x' r'.tape (R.str [c])⟩
end PD

set_option Elab.async false
set_option linter.all false
set_option maxRecDepth 100000
set_option maxHeartbeats 4000000
/-! _law_row, _law_after. -/
namespace PD
open PySem L2
def ir_law_row : Ss := (.cons (.set 2 (.tup .nil)) (.cons (.fr (.nm 3) (.rng1 (.callT 0 0 (.cons (.bin .Add (.var 1) (.int 1)) .nil))) (.cons (.set 2 (.bin .Add (.var 2) (.tup (.cons (.callT 1 0 .nil) .nil)))) .nil)) (.cons (.ret (.var 2)) .nil)))
def ir_law_after : Ss := (.cons (.fr (.nm 2) (.data (.var 1)) (.cons (.set 0 (.call 0 (.cons (.var 0) (.cons (.var 2) .nil)))) .nil)) (.cons (.ret (.var 0)) .nil))
noncomputable abbrev cStep (tk : Bool) : Cal := ⟨"_law_step", true, 0, GStepD tk⟩
noncomputable def GRow (tk : Bool) : GF := Grun tk 4 true 1 ir_law_row [cDraw tk, cStep tk] []
theorem step_notmap (a : List Stp) : isMap (a.map Stp.d) = false := by
  cases a with
  | nil => rfl
  | cons s r => cases s <;> rfl
theorem row_loop (tk : Bool) (ns : List Int) (P : Sg) (ht : P.tk = tk) (g1 : ∀ ds, P.G 1 ds = GStepD tk ns ds) (m : D) : ∀ (xs : List D) (f : List Stp) (g : Slot) (τ : TS), f.length + xs.length ≤ 1000 → (∀ s ∈ f, s.ok ∧ s.drawn) →
    ∃ (f' : List Stp) (g' : Slot) (τ' : TS), forL (fun x ρ1 τ1 => (bindT (.nm 3) x ρ1).bind fun ρ2 => evB P (.cons (.set 2 (.bin .Add (.var 2) (.tup (.cons (.callT 1 0 .nil) .nil)))) .nil) ρ2 τ1) xs [.tape, .d m, .d (.tup (f.map Stp.d)), g] τ = some (.nx [.tape, .d m, .d (.tup (f'.map Stp.d)), g'] τ') ∧ f'.length = f.length + xs.length ∧ ∀ s ∈ f', s.ok ∧ s.drawn
  | [], f, g, τ, _, h => ⟨f, g, τ, rfl, by simp, h⟩
  | x :: xs, f, g, τ, hl, h => by
    simp only [List.length_cons] at hl
    obtain ⟨s, τ1, e1, h1, h2⟩ := step_ok tk ns τ
    obtain ⟨f', g', τ', e, h3, h4⟩ := row_loop tk ns P ht g1 m xs (f ++ [s]) (.d x) τ1 (by simp; omega) (fun y hy => by
      rcases List.mem_append.mp hy with q | q
      · exact h y q
      · have : y = s := by simpa using q
        rw [this]; exact ⟨h1, h2⟩)
    refine ⟨f', g', τ', ?_, by rw [h3]; simp; omega, h4⟩
    have z1 : 1 ≤ sizeLine := by decide
    have hs : f.length + 1 ≤ sizeLine := by rw [sizeLine_eq]; omega
    have n1 : isMap [s.d] = false := step_notmap [s]
    have n2 : isMap (f.map Stp.d ++ [s.d]) = false := by
      have := step_notmap (f ++ [s])
      rwa [List.map_append] at this
    rw [forL_step (ρ1 := [.tape, .d m, .d (.tup ((f ++ [s]).map Stp.d)), .d x]) (τ1 := τ1) (by simp [evB, evS, ev, evs, binD, addD, bindT, Out.then, g1, e1, hs, okT, n1, n2, z1, ht]), e]
theorem row_ok (tk : Bool) (ns : List Int) (m : Nat) (mi : Int) (hmi : mi = m) (hm : m ≤ 900) (τ : TS) : ∃ (f : List Stp) (τ' : TS), GRow tk ns [.int mi] τ = some (.tup (f.map Stp.d), τ') ∧ f.length ≤ m ∧ ∀ s ∈ f, s.ok ∧ s.drawn := by
  subst hmi
  obtain ⟨k, τ1, e1, h1⟩ := draw_int tk ns (m + 1) ((m : Int) + 1) (by omega) (by omega) (by omega) τ
  obtain ⟨f', g', τ', e, h3, h4⟩ := row_loop tk ns (mkSg tk [cDraw tk, cStep tk] [] ns) rfl (fun _ => rfl) (.int m) (rangeD 0 k 1) [] .un τ1 (by simp [rangeD]; omega) (by simp)
  have hl : f'.length = k := by simpa [rangeD] using h3
  refine ⟨f', τ', ?_, by omega, h4⟩
  refine Grun_in rfl ?_
  show evB _ ir_law_row [.tape, .d (.int m), .un, .un] τ = _
  unfold ir_law_row
  rw [evB_nx (ρ1 := [.tape, .d (.int m), .d (.tup []), .un]) (τ1 := τ) (by simp [evB, evS, ev, evs, evt, evp, evi, binD, cmpD, bD, mD, neD, eqD, truD, ixD, inD, inB, slD, lenD, intD, maxD, minD, addD, subD, negD, joinD, joinS, txsO, lowerD, upperD, startsD, endsD, stripD, with1, ordD, mulD, modD, fdivD, powD, intO, Out.then, bindT, setAll, itemsD, rangeD, runF, start', mkSg, mkSgG, opD, small62, wipeE, compL, forL, List.replicate, tyIs, okT, isMap])]
  rw [evB_nx (ρ1 := [.tape, .d (.int m), .d (.tup (f'.map Stp.d)), g']) (τ1 := τ') (by
    refine evS_fr (evi_rng1 (k := k) (τ1 := τ1) ?_ (by omega)) e
    simp [ev, evs, mkSg, mkSgG, binD, addD, e1])]
  refine evB_rt (evS_ret ?_)
  simp [evB, evS, ev, evs, evt, evp, evi, binD, cmpD, bD, mD, neD, eqD, truD, ixD, inD, inB, slD, lenD, intD, maxD, minD, addD, subD, negD, joinD, joinS, txsO, lowerD, upperD, startsD, endsD, stripD, with1, ordD, mulD, modD, fdivD, powD, intO, Out.then, bindT, setAll, itemsD, rangeD, runF, start', mkSg, mkSgG, opD, small62, wipeE, compL, forL, List.replicate, tyIs]
/-! ### texts of signs stay so -/
theorem trimL_mem {s t : List Nat} {c : Nat} (h : c ∈ trimL s t) : c ∈ t := by
  unfold trimL at h
  rw [List.mem_reverse] at h
  have h1 := (List.dropWhile_sublist _).mem h
  rw [List.mem_reverse] at h1
  exact (List.dropWhile_sublist _).mem h1
theorem sqL_mem {s : List Nat} {c : Nat} : ∀ {t : List Nat} {p : Option Nat}, c ∈ sqL s p t → c ∈ t
  | [], p, h => by simp [sqL] at h
  | x :: r, p, h => by
    unfold sqL at h
    split at h
    · exact List.mem_cons_of_mem _ (sqL_mem h)
    · rcases List.mem_cons.mp h with q | q
      · rw [q]; exact List.mem_cons_self
      · exact List.mem_cons_of_mem _ (sqL_mem q)
theorem joL_mem {s o : List Nat} {c : Nat} : ∀ {t : List Nat} {b : Bool}, c ∈ joL s o b t → c ∈ t ∨ c ∈ o
  | [], b, h => by simp [joL] at h
  | x :: r, b, h => by
    unfold joL at h
    split at h
    · split at h
      · exact (joL_mem h).imp (List.mem_cons_of_mem _) id
      · rcases List.mem_append.mp h with q | q
        · exact .inr q
        · exact (joL_mem q).imp (List.mem_cons_of_mem _) id
    · rcases List.mem_cons.mp h with q | q
      · rw [q]; exact .inl List.mem_cons_self
      · exact (joL_mem q).imp (List.mem_cons_of_mem _) id
theorem frS_mem {w : List Nat} {c : Nat} : ∀ {n : Nat} {t : List Nat}, c ∈ frS w n t → c ∈ t
  | 0, t, h => h
  | n + 1, t, h => by
    unfold frS at h
    split at h
    · exact List.mem_of_mem_drop (frS_mem h)
    · exact h
theorem bkS_mem {w : List Nat} {c : Nat} : ∀ {n : Nat} {t : List Nat}, c ∈ bkS w n t → c ∈ t
  | 0, t, h => h
  | n + 1, t, h => by
    unfold bkS at h
    split at h
    · exact List.mem_of_mem_take (bkS_mem h)
    · exact h
theorem frF_mem {w : List Nat} {b : Bool} {t : List Nat} {c : Nat} (h : c ∈ frF w b t) : c ∈ t := by
  unfold frF at h
  split at h
  · exact frS_mem h
  · split at h
    · exact List.mem_of_mem_drop h
    · exact h
theorem bkF_mem {w : List Nat} {b : Bool} {t : List Nat} {c : Nat} (h : c ∈ bkF w b t) : c ∈ t := by
  unfold bkF at h
  split at h
  · exact bkS_mem h
  · split at h
    · exact List.mem_of_mem_take h
    · exact h
theorem sgn_ascii {c : Nat} (h : c ∈ SGN) : c < 128 := by
  simp [SGN] at h
  omega
theorem ap_ascii {s : Stp} (hd : s.drawn) {t : List Nat} (h : ∀ c ∈ t, c < 128) : ∀ c ∈ s.ap t, c < 128 := by
  intro c hc
  cases s
  · simp only [Stp.ap, List.mem_map] at hc
    obtain ⟨x, hx, rfl⟩ := hc
    have := h x hx
    unfold PyProof.Rows.lo1
    split <;> omega
  · simp only [Stp.ap, List.mem_map] at hc
    obtain ⟨x, hx, rfl⟩ := hc
    have := h x hx
    split
    · exact sgn_ascii hd.2
    · exact this
  · exact h c (List.mem_filter.mp hc).1
  · exact h c (trimL_mem hc)
  · exact h c (sqL_mem hc)
  · rcases joL_mem hc with q | q
    · exact h c q
    · rw [List.mem_singleton.mp q]; exact sgn_ascii hd.2
  · exact h c (frF_mem hc)
  · exact h c (frF_mem hc)
  · exact h c (bkF_mem hc)
  · exact h c (bkF_mem hc)
  · exact h c (List.mem_of_mem_take hc)
  · exact h c (List.mem_of_mem_drop hc)
/-! ### _law_after -/
noncomputable def GAfter (tk : Bool) : GF := Grun tk 3 false 2 ir_law_after [⟨"_law_done", false, 2, GLD tk⟩] []
theorem af_loop (tk : Bool) (P : Sg) (ns : List Int) (g0 : ∀ ds, P.G 0 ds = GLD tk ns ds) (row : D) (τ : TS) : ∀ (ss : List Stp) (t : List Nat) (g : Slot), (∀ s ∈ ss, s.ok ∧ s.drawn) → t.length ≤ 4000 → (∀ c ∈ t, c < 128) →
    ∃ g', forL (fun x ρ1 τ1 => (bindT (.nm 2) x ρ1).bind fun ρ2 => evB P (.cons (.set 0 (.call 0 (.cons (.var 0) (.cons (.var 2) .nil)))) .nil) ρ2 τ1) (ss.map Stp.d) [.d (.str t), .d row, g] τ = some (.nx [.d (.str (apAll ss t)), .d row, g'] τ)
  | [], t, g, _, _, _ => ⟨g, rfl⟩
  | s :: ss, t, g, hs, h2, ha => by
    have hl := s.len t
    have h0 := hs s List.mem_cons_self
    obtain ⟨g', e⟩ := af_loop tk P ns g0 row τ ss (s.ap t) (.d s.d) (fun x hx => hs x (List.mem_cons_of_mem _ hx)) (by omega) (ap_ascii h0.2 ha)
    refine ⟨g', ?_⟩
    have es := lawdone_ok tk ns t s τ h0.1 h2 ha
    rw [List.map_cons, forL_step (ρ1 := [.d (.str (s.ap t)), .d row, .d s.d]) (τ1 := τ) (by simp [evB, evS, ev, evs, evt, evp, evi, binD, cmpD, bD, mD, neD, eqD, truD, ixD, inD, inB, slD, lenD, intD, maxD, minD, addD, subD, negD, joinD, joinS, txsO, lowerD, upperD, startsD, endsD, stripD, with1, ordD, mulD, modD, fdivD, powD, intO, Out.then, bindT, setAll, itemsD, rangeD, runF, start', mkSg, mkSgG, opD, small62, wipeE, compL, forL, List.replicate, tyIs, g0, es]), e]
    rfl
theorem after_ok (tk : Bool) (ns : List Int) (ss : List Stp) (t : List Nat) (τ : TS) (hs : ∀ s ∈ ss, s.ok ∧ s.drawn) (h2 : t.length ≤ 4000) (ha : ∀ c ∈ t, c < 128) : GAfter tk ns [.str t, .tup (ss.map Stp.d)] τ = some (.str (apAll ss t), τ) := by
  refine Grun_in rfl ?_
  show evB _ ir_law_after [.d (.str t), .d (.tup (ss.map Stp.d)), .un] τ = _
  unfold ir_law_after
  obtain ⟨g', e⟩ := af_loop tk (mkSg tk [⟨"_law_done", false, 2, GLD tk⟩] [] ns) ns (fun _ => rfl) (.tup (ss.map Stp.d)) τ ss t .un hs h2 ha
  rw [evB_nx (evS_fr (evi_data (ev_var rfl) rfl) e)]
  exact evB_rt (evS_ret (ev_var rfl))
theorem apAll_ascii : ∀ (ss : List Stp) (t : List Nat), (∀ s ∈ ss, s.ok ∧ s.drawn) → (∀ c ∈ t, c < 128) → ∀ c ∈ apAll ss t, c < 128
  | [], t, _, h => h
  | s :: ss, t, hs, h => apAll_ascii ss (s.ap t) (fun x hx => hs x (List.mem_cons_of_mem _ hx)) (ap_ascii (hs s List.mem_cons_self).2 h)
end PD

set_option Elab.async false
set_option linter.all false
set_option maxRecDepth 100000
set_option maxHeartbeats 8000000
/-! textcleaners.told: fitting_rows, missing_steps; _law_like of lists of numbers. -/
namespace PD
open PySem L2
def ir_fitting_rows : Ss := (.cons (.setO 2 (.lst .nil)) (.cons (.fr (.cons (.nm 3) (.cons (.nm 4) .nil)) (.enum (.var 0)) (.cons (.ife (.val (.blt .all (.cons (.comp (.cmp .Eq (.call 0 (.cons (.var 5) (.cons (.var 4) .nil))) (.var 6)) (.cons (.nm 5) (.cons (.nm 6) .nil)) (.data (.var 1)) .yes [5, 6]) .nil))) (.cons (.app 2 (.var 3)) .nil) .nil) .nil)) (.frz 2 (.cons (.ret (.var 2)) .nil))))
def ir_missing_steps : Ss := (.cons (.set 4 (.comp (.tup (.star (.sl (.var 1) .nope (.var 2)) (.cons (.var 5) (.star (.sl (.var 1) (.var 2) .nope) .nil)))) (.nm 5) (.data (.var 0)) .yes [5])) (.cons (.ret (.call 0 (.cons (.var 4) (.cons (.var 3) .nil)))) .nil))
abbrev prD (p : List Nat × List Nat) : D := .tup [.str p.1, .str p.2]
abbrev rowD (r : List Stp) : D := .tup (r.map Stp.d)
def fitB (row : List Stp) (ps : List (List Nat × List Nat)) : Bool := ps.all fun p => apAll row p.1 == p.2
def fits (k : Nat) : List (List Stp) → List (List Nat × List Nat) → List Nat
  | [], _ => []
  | r :: rs, ps => if fitB r ps then k :: fits (k + 1) rs ps else fits (k + 1) rs ps
theorem fits_len (ps : List (List Nat × List Nat)) : ∀ (rs : List (List Stp)) (k : Nat), (fits k rs ps).length ≤ rs.length
  | [], k => Nat.le_refl _
  | r :: rs, k => by
    have := fits_len ps rs (k + 1)
    unfold fits
    split <;> simp <;> omega
theorem compL_map {α : Type} {f : D → TS → Option (Option D × TS)} {g h : α → D} {τ : TS} : ∀ {l : List α}, (∀ x ∈ l, f (g x) τ = some (some (h x), τ)) → compL f (l.map g) τ = some (l.map h, τ)
  | [], _ => rfl
  | x :: r, hf => by
    rw [List.map_cons, compL, hf x List.mem_cons_self]
    simp only [Option.bind_some]
    rw [compL_map (l := r) fun y hy => hf y (List.mem_cons_of_mem _ hy)]
    rfl
theorem compL_mapf {α : Type} {f : D → TS → Option (Option D × TS)} {g h : α → D} {p : α → Bool} {τ : TS} : ∀ {l : List α}, (∀ x ∈ l, f (g x) τ = some (if p x then some (h x) else none, τ)) → compL f (l.map g) τ = some ((l.filter p).map h, τ)
  | [], _ => rfl
  | x :: r, hf => by
    rw [List.map_cons, compL, hf x List.mem_cons_self]
    simp only [Option.bind_some]
    rw [compL_mapf (l := r) fun y hy => hf y (List.mem_cons_of_mem _ hy)]
    cases hp : p x with
    | true => rw [List.filter_cons_of_pos hp]; rfl
    | false => rw [List.filter_cons_of_neg (by rw [hp]; exact Bool.false_ne_true)]; rfl
theorem bools_map : ∀ bs : List Bool, bools (bs.map D.bl) = some bs
  | [] => rfl
  | b :: bs => by rw [List.map_cons, bools, bools_map bs]; rfl
theorem fit_comp (P : Sg) (ns : List Int) (g0 : ∀ ds, P.G 0 ds = GCl 61 ns ds) (row : List Stp) (hr : ∀ s ∈ row, s.ok) (ps : List (List Nat × List Nat)) (hp : ∀ p ∈ ps, p.1.length ≤ 60) (r0 r1 r2 r3 r5 r6 : Slot) (τ : TS) :
    compL (cbody P (.cmp .Eq (.call 0 (.cons (.var 5) (.cons (.var 4) .nil))) (.var 6)) (.cons (.nm 5) (.cons (.nm 6) .nil)) .yes [5, 6] [r0, r1, r2, r3, .d (rowD row), r5, r6]) (ps.map prD) τ = some (ps.map fun p => D.bl (apAll row p.1 == p.2), τ) := by
  refine compL_map fun p hm => ?_
  have h1 := hp p hm
  have e := GCl_eq (n := 61) (ns := ns) (t := p.1) (ss := row) (τ := τ) hr (by omega) (by omega)
  simp [cbody, evB, evS, ev, evs, evt, evp, evi, binD, cmpD, bD, mD, neD, eqD, truD, ixD, inD, inB, slD, lenD, intD, maxD, minD, addD, subD, negD, joinD, joinS, txsO, lowerD, upperD, startsD, endsD, stripD, with1, ordD, mulD, modD, fdivD, powD, intO, Out.then, bindT, setAll, itemsD, rangeD, runF, start', mkSg, mkSgG, opD, small62, wipeE, compL, forL, List.replicate, tyIs, g0, e]
theorem fit_loop (P : Sg) (ns : List Int) (g0 : ∀ ds, P.G 0 ds = GCl 61 ns ds) (ps : List (List Nat × List Nat)) (hp : ∀ p ∈ ps, p.1.length ≤ 60) (hpl : ps.length ≤ 1000) (X : D) (τ : TS) : ∀ (rs : List (List Stp)) (k : Nat) (f : List Nat) (g3 g4 : Slot), (∀ r ∈ rs, ∀ s ∈ r, s.ok) → f.length + rs.length ≤ 1000 →
    ∃ g3' g4', forL (fun x ρ1 τ1 => (bindT (.cons (.nm 3) (.cons (.nm 4) .nil)) x ρ1).bind fun ρ2 => evB P (.cons (.ife (.val (.blt .all (.cons (.comp (.cmp .Eq (.call 0 (.cons (.var 5) (.cons (.var 4) .nil))) (.var 6)) (.cons (.nm 5) (.cons (.nm 6) .nil)) (.data (.var 1)) .yes [5, 6]) .nil))) (.cons (.app 2 (.var 3)) .nil) .nil) .nil) ρ2 τ1) (enumD k (rs.map rowD)) [.d X, .d (.tup (ps.map prD)), .ol (f.map fun i : Nat => .int (i : Int)), g3, g4, .un, .un] τ
      = some (.nx [.d X, .d (.tup (ps.map prD)), .ol ((f ++ fits k rs ps).map fun i : Nat => .int (i : Int)), g3', g4', .un, .un] τ)
  | [], k, f, g3, g4, _, _ => ⟨g3, g4, by simp [forL, fits, enumD]⟩
  | r :: rs, k, f, g3, g4, hr, hl => by
    simp only [List.length_cons] at hl
    have hc := fit_comp P ns g0 r (hr r List.mem_cons_self) ps hp (.d X) (.d (.tup (ps.map prD))) (.ol (f.map fun i : Nat => .int (i : Int))) (.d (.int k)) .un .un τ
    have he : ev P (.blt .all (.cons (.comp (.cmp .Eq (.call 0 (.cons (.var 5) (.cons (.var 4) .nil))) (.var 6)) (.cons (.nm 5) (.cons (.nm 6) .nil)) (.data (.var 1)) .yes [5, 6]) .nil)) [.d X, .d (.tup (ps.map prD)), .ol (f.map fun i : Nat => .int (i : Int)), .d (.int k), .d (rowD r), .un, .un] τ = some (.bl (fitB r ps), τ) := by
      rw [ev, evs_cons (ev_comp (evi_data (ev_var rfl) rfl) hc (sl1 (by simp; omega))) evs_nil]
      have e2 := bools_map (ps.map fun p => apAll r p.1 == p.2)
      rw [List.map_map] at e2
      have e3 : (ps.map fun p => D.bl (apAll r p.1 == p.2)) = ps.map (D.bl ∘ fun p => apAll r p.1 == p.2) := rfl
      simp only [Option.bind_some, bD, allD, e3, e2, Option.map_some, fitB, List.all_map]
      rfl
    have hs : f.length < sizeLine := by rw [sizeLine_eq]; omega
    rw [List.map_cons, enumD]
    cases hb : fitB r ps with
    | true =>
      obtain ⟨g3', g4', e⟩ := fit_loop P ns g0 ps hp hpl X τ rs (k + 1) (f ++ [k]) (.d (.int k)) (.d (rowD r)) (fun x hx => hr x (List.mem_cons_of_mem _ hx)) (by simp; omega)
      refine ⟨g3', g4', ?_⟩
      rw [forL_step (ρ1 := [.d X, .d (.tup (ps.map prD)), .ol ((f ++ [k]).map fun i : Nat => .int (i : Int)), .d (.int k), .d (rowD r), .un, .un]) (τ1 := τ) ?_, e]
      · simp [fits, hb]
      · simp only [bindT, Option.bind_some, List.set]
        rw [evB_nx (evS_t (τ1 := τ) (by rw [evt, he, hb]; rfl) (evB_nx (evS_app rfl (ev_var rfl) (by simp; omega))))]
        simp [evB]
    | false =>
      obtain ⟨g3', g4', e⟩ := fit_loop P ns g0 ps hp hpl X τ rs (k + 1) f (.d (.int k)) (.d (rowD r)) (fun x hx => hr x (List.mem_cons_of_mem _ hx)) (by omega)
      refine ⟨g3', g4', ?_⟩
      rw [forL_step (ρ1 := [.d X, .d (.tup (ps.map prD)), .ol (f.map fun i : Nat => .int (i : Int)), .d (.int k), .d (rowD r), .un, .un]) (τ1 := τ) ?_, e]
      · simp [fits, hb]
      · simp only [bindT, Option.bind_some, List.set]
        rw [evB_nx (evS_f (τ1 := τ) (by rw [evt, he, hb]; rfl) (by rw [evB]))]
        simp [evB]
noncomputable def GFit : GF := Grun true 7 false 2 ir_fitting_rows [⟨"cleaned", false, 2, GCl 61⟩] []
theorem fit_ok (ns : List Int) (X : D) (rows : List (List Stp)) (hX : itemsD X = some (rows.map rowD)) (ps : List (List Nat × List Nat)) (hr : ∀ r ∈ rows, ∀ s ∈ r, s.ok) (hl : rows.length ≤ 1000) (hp : ∀ p ∈ ps, p.1.length ≤ 60) (hpl : ps.length ≤ 1000) (τ : TS) :
    GFit ns [X, .tup (ps.map prD)] τ = some (.lst ((fits 0 rows ps).map fun i : Nat => .int (i : Int)), τ) := by
  refine Grun_in rfl ?_
  show evB _ ir_fitting_rows [.d X, .d (.tup (ps.map prD)), .un, .un, .un, .un, .un] τ = _
  unfold ir_fitting_rows
  obtain ⟨g3', g4', e⟩ := fit_loop (mkSg true [⟨"cleaned", false, 2, GCl 61⟩] [] ns) ns (fun _ => rfl) ps hp hpl X τ rows 0 [] .un .un hr (by simpa using hl)
  rw [evB_nx (evS_setO (ev_lst evs_nil (by simp)))]
  refine (evB_nx (evS_fr (it := .enum (.var 0)) (xs := enumD 0 (rows.map rowD)) (τ1 := τ) (by simp [evi, ev, hX]) e)).trans ?_
  rw [evB_frz (xs := ([] ++ fits 0 rows ps).map fun i : Nat => .int (i : Int)) rfl]
  exact evB_rt (evS_ret (ev_var rfl))
/-! ### missing_steps -/
def insR (row : List Stp) (at_ : Nat) (s : Stp) : List Stp := row.take at_ ++ s :: row.drop at_
noncomputable def GMiss : GF := Grun true 6 false 4 ir_missing_steps [⟨"fitting_rows", false, 2, GFit⟩] []
theorem ev_star_tup {P : Sg} {e : E} {es : Es} {ρ : Env'} {τ τ1 τ2 : TS} {xs ys : List D} (h : ev P e ρ τ = some (.tup xs, τ1)) (h2 : evs P es ρ τ1 = some (ys, τ2)) : evs P (.star e es) ρ τ = some (xs ++ ys, τ2) := by
  rw [evs, h]
  simp only [Option.bind_some, h2, Option.map_some]
theorem ev_slT {P : Sg} {i j : Nat} {ρ : Env'} {τ : TS} {row : List Stp} {k : Nat} (h : ρ[i]? = some (.d (rowD row))) (hj : ρ[j]? = some (.d (.int (k : Int)))) (hl : row.length ≤ 1000) : ev P (.sl (.var i) .nope (.var j)) ρ τ = some (rowD (row.take k), τ) := by
  have h1 : isMap (row.map Stp.d) = false := step_notmap row
  have h2 : isMap ((row.take k).map Stp.d) = false := step_notmap _
  rw [List.map_take] at h2
  have h3 := sl1 (show (row.take k).length ≤ 4000 by rw [List.length_take]; omega)
  rw [List.length_take] at h3
  rw [ev, ev_var h]
  simp [evp, hj, slD, cut_to, okT, h2, h3, rowD, List.map_take]
theorem ev_slF {P : Sg} {i j : Nat} {ρ : Env'} {τ : TS} {row : List Stp} {k : Nat} (h : ρ[i]? = some (.d (rowD row))) (hj : ρ[j]? = some (.d (.int (k : Int)))) (hl : row.length ≤ 1000) : ev P (.sl (.var i) (.var j) .nope) ρ τ = some (rowD (row.drop k), τ) := by
  have h2 : isMap ((row.drop k).map Stp.d) = false := step_notmap _
  rw [List.map_drop] at h2
  have h3 : row.length ≤ sizeLine + k := by have := sl1 (show row.length ≤ 4000 by omega); omega
  rw [ev, ev_var h]
  simp [evp, hj, slD, cut_from, okT, h2, h3, rowD, List.map_drop]
theorem miss_ok (ns : List Int) (steps row : List Stp) (k : Nat) (ps : List (List Nat × List Nat)) (hs : ∀ s ∈ steps, s.ok) (hl : steps.length ≤ 1000) (hr : ∀ s ∈ row, s.ok) (hrl : row.length ≤ 100) (hp : ∀ p ∈ ps, p.1.length ≤ 60) (hpl : ps.length ≤ 1000) (τ : TS) :
    GMiss ns [.tup (steps.map Stp.d), rowD row, .int (k : Int), .tup (ps.map prD)] τ = some (.lst ((fits 0 (steps.map (insR row k)) ps).map fun i : Nat => .int (i : Int)), τ) := by
  refine Grun_in rfl ?_
  show evB _ ir_missing_steps [.d (.tup (steps.map Stp.d)), .d (rowD row), .d (.int (k : Int)), .d (.tup (ps.map prD)), .un, .un] τ = _
  unfold ir_missing_steps
  have hok : ∀ r ∈ steps.map (insR row k), ∀ s ∈ r, s.ok := by
    intro r hr' s hm
    obtain ⟨x, hx, rfl⟩ := List.mem_map.mp hr'
    simp only [insR, List.mem_append, List.mem_cons] at hm
    rcases hm with q | rfl | q
    · exact hr s (List.mem_of_mem_take q)
    · exact hs s hx
    · exact hr s (List.mem_of_mem_drop q)
  have hfit := fit_ok ns (.lst ((steps.map (insR row k)).map rowD)) (steps.map (insR row k)) rfl ps hok (by simpa using hl) hp hpl τ
  have hc : compL (cbody (mkSg true [⟨"fitting_rows", false, 2, GFit⟩] [] ns) (.tup (.star (.sl (.var 1) .nope (.var 2)) (.cons (.var 5) (.star (.sl (.var 1) (.var 2) .nope) .nil)))) (.nm 5) .yes [5] [.d (.tup (steps.map Stp.d)), .d (rowD row), .d (.int (k : Int)), .d (.tup (ps.map prD)), .un, .un]) (steps.map Stp.d) τ = some (steps.map fun s => rowD (insR row k s), τ) := by
    refine compL_map fun s hm => ?_
    unfold cbody
    simp only [wipeE, bindT, Option.bind_some, evt, if_true, List.set]
    have e : ev (mkSg true [⟨"fitting_rows", false, 2, GFit⟩] [] ns) (.tup (.star (.sl (.var 1) .nope (.var 2)) (.cons (.var 5) (.star (.sl (.var 1) (.var 2) .nope) .nil)))) [.d (.tup (steps.map Stp.d)), .d (rowD row), .d (.int (k : Int)), .d (.tup (ps.map prD)), .un, .d s.d] τ = some (rowD (insR row k s), τ) := by
      have e1 := ev_star_tup (P := mkSg true [⟨"fitting_rows", false, 2, GFit⟩] [] ns) (ev_slT (i := 1) (j := 2) (ρ := [.d (.tup (steps.map Stp.d)), .d (rowD row), .d (.int (k : Int)), .d (.tup (ps.map prD)), .un, .d s.d]) (τ := τ) rfl rfl (by omega)) (evs_cons (ev_var (i := 5) rfl) (ev_star_tup (ev_slF (i := 1) (j := 2) rfl rfl (by omega)) evs_nil))
      have e2 : (row.take k).map Stp.d ++ s.d :: ((row.drop k).map Stp.d ++ []) = (insR row k s).map Stp.d := by simp [insR]
      rw [e2] at e1
      refine ev_tup e1 ?_ (step_notmap _)
      simp [insR]
      omega
    rw [e]
    rfl
  rw [evB_nx (evS_set (ev_comp (evi_data (ev_var rfl) rfl) hc (sl1 (by simp; omega))))]
  refine evB_rt (evS_ret ?_)
  rw [ev, evs_cons (ev_var rfl) (evs_cons (ev_var rfl) evs_nil)]
  rw [List.map_map] at hfit
  exact hfit
/-! ### _law_like of lists of numbers -/
theorem like_int (tk : Bool) (n : Nat) (ns : List Int) (a b : Int) (τ : TS) : GLike tk (n + 1) ns [.int a, .int b] τ = some (.bl (a == b), τ) := by
  refine Grun_in rfl ?_
  show evB _ ir_law_like [.d (.int a), .d (.int b), .un] τ = _
  unfold ir_law_like
  simp [evB, evS, ev, evs, evt, evp, evi, binD, cmpD, bD, mD, neD, eqD, truD, ixD, inD, inB, slD, lenD, intD, maxD, minD, addD, subD, negD, joinD, joinS, txsO, lowerD, upperD, startsD, endsD, stripD, with1, ordD, mulD, modD, fdivD, powD, intO, Out.then, bindT, setAll, itemsD, rangeD, runF, start', mkSg, mkSgG, opD, small62, wipeE, compL, forL, List.replicate, tyIs]
theorem rangeD_map (k : Nat) : rangeD 0 k 1 = (List.range k).map fun i : Nat => D.int (i : Int) := by
  unfold rangeD
  refine List.map_congr_left fun i _ => ?_
  simp
mutual
/-- the longest list in a value -/
def wid : D → Nat
  | .tup xs => max xs.length (wids xs)
  | .lst xs => max xs.length (wids xs)
  | _ => 0
def wids : List D → Nat
  | [] => 0
  | x :: xs => max (wid x) (wids xs)
end
theorem wid_mem : ∀ {xs : List D} {x : D}, x ∈ xs → wid x ≤ wids xs
  | y :: ys, x, h => by
    rw [wids]
    rcases List.mem_cons.mp h with q | q
    · rw [q]; omega
    · have := wid_mem q; omega
theorem dep_mem : ∀ {xs : List D} {x : D}, x ∈ xs → dep x ≤ deps xs
  | y :: ys, x, h => by
    rw [deps_cons]
    rcases List.mem_cons.mp h with q | q
    · rw [q]; omega
    · have := dep_mem q; omega
theorem like_many (tk : Bool) (n : Nat) (ns : List Int) (P : Sg) (g0 : ∀ ds, P.G 0 ds = GLike tk n ns ds) (a : D) (xs : List D) (ha : a = .lst xs ∨ a = .tup xs) (τ : TS) (h : ∀ x ∈ xs, GLike tk n ns [x, x] τ = some (.bl true, τ)) (r2 : Slot) :
    compL (cbody P (.var 2) (.nm 2) (.not (.val (.call 0 (.cons (.idx (.var 0) (.var 2)) (.cons (.idx (.var 1) (.var 2)) .nil))))) [2] [.d a, .d a, r2]) (rangeD 0 xs.length 1) τ = some ([], τ) := by
  rw [rangeD_map]
  rw [compL_mapf (p := fun _ => false) (h := fun i : Nat => .int (i : Int)) (τ := τ)]
  · simp
  · intro i hi
    have hi' : i < xs.length := List.mem_range.mp hi
    have e1 := h xs[i] (List.getElem_mem hi')
    have e2 : atI xs (i : Int) = some xs[i] := atI_nat (List.getElem?_eq_getElem hi')
    rcases ha with rfl | rfl <;> simp [cbody, evB, evS, ev, evs, evt, evp, evi, binD, cmpD, bD, mD, neD, eqD, truD, ixD, inD, inB, slD, lenD, intD, maxD, minD, addD, subD, negD, joinD, joinS, txsO, lowerD, upperD, startsD, endsD, stripD, with1, ordD, mulD, modD, fdivD, powD, intO, Out.then, bindT, setAll, itemsD, rangeD, runF, start', mkSg, mkSgG, opD, small62, wipeE, compL, forL, List.replicate, tyIs, g0, e1, e2]
/-- a value is like itself -/
theorem like_refl (tk : Bool) (ns : List Int) : ∀ (n : Nat) (a : D) (τ : TS), dep a < n → wid a ≤ 4000 → GLike tk n ns [a, a] τ = some (.bl true, τ) := by
  intro n
  induction n with
  | zero => intro a τ h; omega
  | succ n ih =>
    intro a τ h hw
    refine Grun_in rfl ?_
    show evB _ ir_law_like [.d a, .d a, .un] τ = _
    unfold ir_law_like
    cases a with
    | non => simp [evB, evS, ev, evs, evt, evp, evi, binD, cmpD, bD, mD, neD, eqD, truD, ixD, inD, inB, slD, lenD, intD, maxD, minD, addD, subD, negD, joinD, joinS, txsO, lowerD, upperD, startsD, endsD, stripD, with1, ordD, mulD, modD, fdivD, powD, intO, Out.then, bindT, setAll, itemsD, rangeD, runF, start', mkSg, mkSgG, opD, small62, wipeE, compL, forL, List.replicate, tyIs]
    | bl b => simp [evB, evS, ev, evs, evt, evp, evi, binD, cmpD, bD, mD, neD, eqD, truD, ixD, inD, inB, slD, lenD, intD, maxD, minD, addD, subD, negD, joinD, joinS, txsO, lowerD, upperD, startsD, endsD, stripD, with1, ordD, mulD, modD, fdivD, powD, intO, Out.then, bindT, setAll, itemsD, rangeD, runF, start', mkSg, mkSgG, opD, small62, wipeE, compL, forL, List.replicate, tyIs]
    | int i => simp [evB, evS, ev, evs, evt, evp, evi, binD, cmpD, bD, mD, neD, eqD, truD, ixD, inD, inB, slD, lenD, intD, maxD, minD, addD, subD, negD, joinD, joinS, txsO, lowerD, upperD, startsD, endsD, stripD, with1, ordD, mulD, modD, fdivD, powD, intO, Out.then, bindT, setAll, itemsD, rangeD, runF, start', mkSg, mkSgG, opD, small62, wipeE, compL, forL, List.replicate, tyIs]
    | str s => simp [evB, evS, ev, evs, evt, evp, evi, binD, cmpD, bD, mD, neD, eqD, truD, ixD, inD, inB, slD, lenD, intD, maxD, minD, addD, subD, negD, joinD, joinS, txsO, lowerD, upperD, startsD, endsD, stripD, with1, ordD, mulD, modD, fdivD, powD, intO, Out.then, bindT, setAll, itemsD, rangeD, runF, start', mkSg, mkSgG, opD, small62, wipeE, compL, forL, List.replicate, tyIs]
    | tup xs =>
      rw [dep_tup] at h
      rw [wid] at hw
      have hm := like_many tk n ns (mkSg tk [⟨"_law_like", false, 2, GLike tk n⟩] [] ns) (fun _ => rfl) (.tup xs) xs (.inr rfl) τ (fun x hx => ih x τ (by have := dep_mem hx; omega) (by have := wid_mem hx; omega)) .un
      have hc := ev_comp (evi_rng1 (P := mkSg tk [⟨"_law_like", false, 2, GLike tk n⟩] [] ns) (a := .blt .len (.cons (.var 0) .nil)) (ρ := [.d (.tup xs), .d (.tup xs), .un]) (k := xs.length) (τ := τ) (τ1 := τ) (by simp [evB, evS, ev, evs, evt, evp, evi, binD, cmpD, bD, mD, neD, eqD, truD, ixD, inD, inB, slD, lenD, intD, maxD, minD, addD, subD, negD, joinD, joinS, txsO, lowerD, upperD, startsD, endsD, stripD, with1, ordD, mulD, modD, fdivD, powD, intO, Out.then, bindT, setAll, itemsD, rangeD, runF, start', mkSg, mkSgG, opD, small62, wipeE, compL, forL, List.replicate, tyIs]) (by omega)) hm (by simp)
      refine evB_rt (evS_t (τ1 := τ) (by simp [evB, evS, ev, evs, evt, evp, evi, binD, cmpD, bD, mD, neD, eqD, truD, ixD, inD, inB, slD, lenD, intD, maxD, minD, addD, subD, negD, joinD, joinS, txsO, lowerD, upperD, startsD, endsD, stripD, with1, ordD, mulD, modD, fdivD, powD, intO, Out.then, bindT, setAll, itemsD, rangeD, runF, start', mkSg, mkSgG, opD, small62, wipeE, compL, forL, List.replicate, tyIs]) ?_)
      rw [evB_nx (evS_f (τ1 := τ) (o := .nx [.d (.tup xs), .d (.tup xs), .un] τ) (by simp [evB, evS, ev, evs, evt, evp, evi, binD, cmpD, bD, mD, neD, eqD, truD, ixD, inD, inB, slD, lenD, intD, maxD, minD, addD, subD, negD, joinD, joinS, txsO, lowerD, upperD, startsD, endsD, stripD, with1, ordD, mulD, modD, fdivD, powD, intO, Out.then, bindT, setAll, itemsD, rangeD, runF, start', mkSg, mkSgG, opD, small62, wipeE, compL, forL, List.replicate, tyIs]) (by rw [evB])), evB_nx (evS_f (τ1 := τ) (o := .nx [.d (.tup xs), .d (.tup xs), .un] τ) (by simp [evB, evS, ev, evs, evt, evp, evi, binD, cmpD, bD, mD, neD, eqD, truD, ixD, inD, inB, slD, lenD, intD, maxD, minD, addD, subD, negD, joinD, joinS, txsO, lowerD, upperD, startsD, endsD, stripD, with1, ordD, mulD, modD, fdivD, powD, intO, Out.then, bindT, setAll, itemsD, rangeD, runF, start', mkSg, mkSgG, opD, small62, wipeE, compL, forL, List.replicate, tyIs]) (by rw [evB]))]
      refine evB_rt (evS_ret ?_)
      rw [ev, hc]
      simp [ev, evs, cmpD, eqD]
    | lst xs =>
      rw [dep_lst] at h
      rw [wid] at hw
      have hm := like_many tk n ns (mkSg tk [⟨"_law_like", false, 2, GLike tk n⟩] [] ns) (fun _ => rfl) (.lst xs) xs (.inl rfl) τ (fun x hx => ih x τ (by have := dep_mem hx; omega) (by have := wid_mem hx; omega)) .un
      have hc := ev_comp (evi_rng1 (P := mkSg tk [⟨"_law_like", false, 2, GLike tk n⟩] [] ns) (a := .blt .len (.cons (.var 0) .nil)) (ρ := [.d (.lst xs), .d (.lst xs), .un]) (k := xs.length) (τ := τ) (τ1 := τ) (by simp [evB, evS, ev, evs, evt, evp, evi, binD, cmpD, bD, mD, neD, eqD, truD, ixD, inD, inB, slD, lenD, intD, maxD, minD, addD, subD, negD, joinD, joinS, txsO, lowerD, upperD, startsD, endsD, stripD, with1, ordD, mulD, modD, fdivD, powD, intO, Out.then, bindT, setAll, itemsD, rangeD, runF, start', mkSg, mkSgG, opD, small62, wipeE, compL, forL, List.replicate, tyIs]) (by omega)) hm (by simp)
      refine evB_rt (evS_t (τ1 := τ) (by simp [evB, evS, ev, evs, evt, evp, evi, binD, cmpD, bD, mD, neD, eqD, truD, ixD, inD, inB, slD, lenD, intD, maxD, minD, addD, subD, negD, joinD, joinS, txsO, lowerD, upperD, startsD, endsD, stripD, with1, ordD, mulD, modD, fdivD, powD, intO, Out.then, bindT, setAll, itemsD, rangeD, runF, start', mkSg, mkSgG, opD, small62, wipeE, compL, forL, List.replicate, tyIs]) ?_)
      rw [evB_nx (evS_f (τ1 := τ) (o := .nx [.d (.lst xs), .d (.lst xs), .un] τ) (by simp [evB, evS, ev, evs, evt, evp, evi, binD, cmpD, bD, mD, neD, eqD, truD, ixD, inD, inB, slD, lenD, intD, maxD, minD, addD, subD, negD, joinD, joinS, txsO, lowerD, upperD, startsD, endsD, stripD, with1, ordD, mulD, modD, fdivD, powD, intO, Out.then, bindT, setAll, itemsD, rangeD, runF, start', mkSg, mkSgG, opD, small62, wipeE, compL, forL, List.replicate, tyIs]) (by rw [evB])), evB_nx (evS_f (τ1 := τ) (o := .nx [.d (.lst xs), .d (.lst xs), .un] τ) (by simp [evB, evS, ev, evs, evt, evp, evi, binD, cmpD, bD, mD, neD, eqD, truD, ixD, inD, inB, slD, lenD, intD, maxD, minD, addD, subD, negD, joinD, joinS, txsO, lowerD, upperD, startsD, endsD, stripD, with1, ordD, mulD, modD, fdivD, powD, intO, Out.then, bindT, setAll, itemsD, rangeD, runF, start', mkSg, mkSgG, opD, small62, wipeE, compL, forL, List.replicate, tyIs]) (by rw [evB]))]
      refine evB_rt (evS_ret ?_)
      rw [ev, hc]
      simp [ev, evs, cmpD, eqD]
end PD

set_option Elab.async false
set_option linter.all false
set_option maxRecDepth 100000
set_option maxHeartbeats 8000000
/-! k13: the law's own loops. -/
namespace PD
open PySem L2
noncomputable def cal13 : List Cal := [cDraw true, cStep true, ⟨"_law_row", true, 1, GRow true⟩, ⟨"_law_text", true, 1, GText true⟩, ⟨"_law_after", false, 2, GAfter true⟩, ⟨"_law_like", false, 2, GLike true 3⟩, ⟨"fitting_rows", false, 2, GFit⟩, ⟨"missing_steps", false, 4, GMiss⟩]
structure P13 (P : Sg) (ns : List Int) : Prop where
  g0 : ∀ ds, P.G 0 ds = GDraw true ns ds
  g1 : ∀ ds, P.G 1 ds = GStepD true ns ds
  g2 : ∀ ds, P.G 2 ds = GRow true ns ds
  g3 : ∀ ds, P.G 3 ds = GText true ns ds
  g4 : ∀ ds, P.G 4 ds = GAfter true ns ds
  g5 : ∀ ds, P.G 5 ds = GLike true 3 ns ds
  g6 : ∀ ds, P.G 6 ds = GFit ns ds
  g7 : ∀ ds, P.G 7 ds = GMiss ns ds
  tk : P.tk = true
def RowOk (r : List Stp) : Prop := r.length ≤ 3 ∧ ∀ s ∈ r, s.ok ∧ s.drawn
def StOk (s : Stp) : Prop := s.ok ∧ s.drawn
theorem rows_notmap (l : List (List Stp)) : isMap (l.map rowD) = false := by
  cases l with
  | nil => rfl
  | cons r l => rfl
theorem prs_notmap (l : List (List Nat × List Nat)) : isMap (l.map prD) = false := by
  cases l with
  | nil => rfl
  | cons r l => rfl
theorem ev_add_tup {P : Sg} {a b : E} {ρ : Env'} {τ τ1 τ2 : TS} {xs ys : List D} (h : ev P a ρ τ = some (.tup xs, τ1)) (h2 : ev P b ρ τ1 = some (.tup ys, τ2)) (hl : xs.length + ys.length ≤ 4000) (hm : isMap (xs ++ ys) = false) : ev P (.bin .Add a b) ρ τ = some (.tup (xs ++ ys), τ2) := by
  have := sl1 hl
  rw [ev, h]
  simp only [Option.bind_some, h2, binD, addD, okT, hm, List.length_append, this, Bool.and_false, Bool.not_false, decide_true, Bool.and_true, if_true, Option.map_some]
theorem ev_callT {P : Sg} {f i : Nat} {es : Es} {ρ : Env'} {τ τ1 τ2 : TS} {ds : List D} {d : D} (h : ρ[i]? = some .tape) (h1 : evs P es ρ τ = some (ds, τ1)) (h2 : P.G f ds τ1 = some (d, τ2)) : ev P (.callT f i es) ρ τ = some (d, τ2) := by
  rw [ev, h]
  simp only [h1, Option.bind_some, h2]
theorem ev_call {P : Sg} {f : Nat} {es : Es} {ρ : Env'} {τ τ1 τ2 : TS} {ds : List D} {d : D} (h1 : evs P es ρ τ = some (ds, τ1)) (h2 : P.G f ds τ1 = some (d, τ2)) : ev P (.call f es) ρ τ = some (d, τ2) := by
  rw [ev, h1]
  simp only [Option.bind_some, h2]
theorem ev_addi {P : Sg} {a b : E} {ρ : Env'} {τ τ1 τ2 : TS} {x y : Int} (h : ev P a ρ τ = some (.int x, τ1)) (h2 : ev P b ρ τ1 = some (.int y, τ2)) : ev P (.bin .Add a b) ρ τ = some (.int (x + y), τ2) := by
  rw [ev, h]
  simp only [Option.bind_some, h2, binD, addD, Option.map_some]
theorem ev_len_tup {P : Sg} {a : E} {ρ : Env'} {τ τ1 : TS} {xs : List D} (h : ev P a ρ τ = some (.tup xs, τ1)) : ev P (.blt .len (.cons a .nil)) ρ τ = some (.int xs.length, τ1) := by
  rw [ev, evs_cons h evs_nil]
  simp [bD, lenD]
theorem ev_idx_tup {P : Sg} {a b : E} {ρ : Env'} {τ τ1 τ2 : TS} {xs : List D} {i : Nat} {d : D} (h : ev P a ρ τ = some (.tup xs, τ1)) (h2 : ev P b ρ τ1 = some (.int (i : Int), τ2)) (h3 : xs[i]? = some d) : ev P (.idx a b) ρ τ = some (d, τ2) := by
  rw [ev, h]
  simp only [Option.bind_some, h2, ixD, atI_nat h3, Option.map_some]
/-! rows and steps are drawn -/
abbrev b13a : Ss := (.cons (.unp (.cons (.nm 3) (.cons (.nm 4) .nil)) (.tup (.cons (.bin .Add (.var 3) (.tup (.cons (.callT 2 1 (.cons (.int 3) .nil)) .nil))) (.cons (.bin .Add (.var 4) (.tup (.cons (.callT 1 1 .nil) .nil))) .nil)))) .nil)
theorem evS_unp2 {P : Sg} {i j : Nat} {a b : E} {ρ : Env'} {τ τ1 τ2 : TS} {x y : D} (h : ev P a ρ τ = some (x, τ1)) (h2 : ev P b ρ τ1 = some (y, τ2)) : evS P (.unp (.cons (.nm i) (.cons (.nm j) .nil)) (.tup (.cons a (.cons b .nil)))) ρ τ = some (.nx ((ρ.set i (.d x)).set j (.d y)) τ2) := by
  rw [evS, ev_tup (evs_cons h (evs_cons h2 evs_nil)) (by simp) (by simp [isMap])]
  simp [bindT]
theorem l13a (P : Sg) (ns : List Int) (hP : P13 P ns) (g2 : Slot) (rest : Env') : ∀ (xs : List D) (rows : List (List Stp)) (steps : List Stp) (g5 : Slot) (τ : TS), (∀ r ∈ rows, RowOk r) → (∀ s ∈ steps, StOk s) → rows.length = steps.length → rows.length + xs.length ≤ 100 →
    ∃ (rows' : List (List Stp)) (steps' : List Stp) (g5' : Slot) (τ' : TS), forL (fun x ρ1 τ1 => (bindT (.nm 5) x ρ1).bind fun ρ2 => evB P b13a ρ2 τ1) xs (.un :: .tape :: g2 :: .d (.tup (rows.map rowD)) :: .d (.tup (steps.map Stp.d)) :: g5 :: rest) τ = some (.nx (.un :: .tape :: g2 :: .d (.tup (rows'.map rowD)) :: .d (.tup (steps'.map Stp.d)) :: g5' :: rest) τ') ∧
      (∀ r ∈ rows', RowOk r) ∧ (∀ s ∈ steps', StOk s) ∧ rows'.length = steps'.length ∧ rows'.length = rows.length + xs.length
  | [], rows, steps, g5, τ, h1, h2, h3, _ => ⟨rows, steps, g5, τ, rfl, h1, h2, h3, rfl⟩
  | x :: xs, rows, steps, g5, τ, h1, h2, h3, hl => by
    simp only [List.length_cons] at hl
    obtain ⟨row, τ1, e1, r1, r2⟩ := row_ok true ns 3 3 rfl (by omega) τ
    obtain ⟨s, τ2, e2, s1, s2⟩ := step_ok true ns τ1
    obtain ⟨rows', steps', g5', τ', e, q1, q2, q3, q4⟩ := l13a P ns hP g2 rest xs (rows ++ [row]) (steps ++ [s]) (.d x) τ2 (by
      intro r hr
      rcases List.mem_append.mp hr with q | q
      · exact h1 r q
      · have : r = row := by simpa using q
        rw [this]; exact ⟨r1, r2⟩) (by
      intro r hr
      rcases List.mem_append.mp hr with q | q
      · exact h2 r q
      · have : r = s := by simpa using q
        rw [this]; exact ⟨s1, s2⟩) (by simp [h3]) (by simp; omega)
    refine ⟨rows', steps', g5', τ', ?_, q1, q2, q3, by rw [q4]; simp; omega⟩
    rw [forL_step (ρ1 := .un :: .tape :: g2 :: .d (.tup ((rows ++ [row]).map rowD)) :: .d (.tup ((steps ++ [s]).map Stp.d)) :: .d x :: rest) (τ1 := τ2) ?_, e]
    simp only [bindT, Option.bind_some, List.set]
    refine (evB_nx (evS_unp2 (x := .tup (rows.map rowD ++ [rowD row])) (y := .tup (steps.map Stp.d ++ [s.d])) (τ1 := τ1) (τ2 := τ2) (ev_add_tup (ev_var rfl) (ev_tup (evs_cons (ev_callT rfl (evs_cons ev_int evs_nil) (by rw [hP.g2]; exact e1)) evs_nil) (by simp) rfl) (by simp; omega) ?_) (ev_add_tup (ev_var rfl) (ev_tup (evs_cons (ev_callT rfl evs_nil (by rw [hP.g1]; exact e2)) evs_nil) (by simp) (step_notmap [s])) (by simp; omega) ?_))).trans ?_
    · have := rows_notmap (rows ++ [row])
      rwa [List.map_append] at this
    · have := step_notmap (steps ++ [s])
      rwa [List.map_append] at this
    · simp [evB]
/-! pairs are drawn -/
abbrev b13b : Ss := (.cons (.set 12 (.callT 3 1 (.cons (.int 12) .nil))) (.cons (.set 13 (.ife (.cmp .Gt (.callT 0 1 (.cons (.int 6) .nil)) (.int 0)) (.call 4 (.cons (.var 12) (.cons (.var 8) .nil))) (.callT 3 1 (.cons (.int 6) .nil)))) (.cons (.set 10 (.bin .Add (.var 10) (.tup (.cons (.tup (.cons (.var 12) (.cons (.var 13) .nil))) .nil)))) (.cons (.set 14 (.bin .Add (.bin .Add (.sl (.var 6) .nope (.var 7)) (.tup (.cons (.var 9) .nil))) (.sl (.var 6) (.var 7) .nope))) (.cons (.set 11 (.bin .Add (.var 11) (.tup (.cons (.tup (.cons (.var 12) (.cons (.call 4 (.cons (.var 12) (.cons (.var 14) .nil))) .nil))) .nil)))) .nil)))))
theorem ins_ok {row : List Stp} {k : Nat} {s : Stp} (h : ∀ x ∈ row, StOk x) (hs : StOk s) : ∀ x ∈ insR row k s, StOk x := by
  intro x hm
  simp only [insR, List.mem_append, List.mem_cons] at hm
  rcases hm with q | rfl | q
  · exact h x (List.mem_of_mem_take q)
  · exact hs
  · exact h x (List.mem_of_mem_drop q)
theorem ev_ins {P : Sg} {i j : Nat} {e : E} {row : List Stp} {k : Nat} {s : Stp} {ρ : Env'} {τ : TS} (hi : ρ[i]? = some (.d (rowD row))) (hj : ρ[j]? = some (.d (.int (k : Int)))) (hrl : row.length ≤ 3) (he : ev P e ρ τ = some (s.d, τ)) :
    ev P (.bin .Add (.bin .Add (.sl (.var i) .nope (.var j)) (.tup (.cons e .nil))) (.sl (.var i) (.var j) .nope)) ρ τ = some (rowD (insR row k s), τ) := by
  have h1 : isMap ((row.take k).map Stp.d ++ [s.d]) = false := by
    have := step_notmap (row.take k ++ [s])
    rwa [List.map_append] at this
  have e1 := ev_add_tup (ev_slT (P := P) (τ := τ) hi hj (by omega)) (ev_tup (evs_cons he evs_nil) (by simp) (step_notmap [s])) (by simp; omega) h1
  have h2 : isMap (((row.take k).map Stp.d ++ [s.d]) ++ (row.drop k).map Stp.d) = false := by
    have := step_notmap ((row.take k ++ [s]) ++ row.drop k)
    rwa [List.map_append, List.map_append] at this
  have e2 := ev_add_tup e1 (ev_slF (P := P) (τ := τ) hi hj (by omega)) (by simp; omega) h2
  rw [e2]
  simp [insR, rowD]
def PairOk (p : List Nat × List Nat) : Prop := p.1.length ≤ 12 ∧ ∀ c ∈ p.1, c < 128
theorem l13b (P : Sg) (ns : List Int) (hP : P13 P ns) (g2 g3 g4 : Slot) (row : List Stp) (hrow : RowOk row) (k : Nat) (hk : k ≤ row.length) (sec : List Stp) (hsec : RowOk sec) (st : Stp) (hst : StOk st) (rest : Env') : ∀ (xs : List D) (p1 p2 : List (List Nat × List Nat)) (g5 g12 g13 g14 : Slot) (τ : TS), (∀ p ∈ p1, PairOk p) → (∀ p ∈ p2, PairOk p) → p1.length = p2.length → p1.length + xs.length ≤ 100 →
    ∃ (p1' p2' : List (List Nat × List Nat)) (g5' g12' g13' g14' : Slot) (τ' : TS), forL (fun x ρ1 τ1 => (bindT (.nm 5) x ρ1).bind fun ρ2 => evB P b13b ρ2 τ1) xs (.un :: .tape :: g2 :: g3 :: g4 :: g5 :: .d (rowD row) :: .d (.int (k : Int)) :: .d (rowD sec) :: .d st.d :: .d (.tup (p1.map prD)) :: .d (.tup (p2.map prD)) :: g12 :: g13 :: g14 :: rest) τ
      = some (.nx (.un :: .tape :: g2 :: g3 :: g4 :: g5' :: .d (rowD row) :: .d (.int (k : Int)) :: .d (rowD sec) :: .d st.d :: .d (.tup (p1'.map prD)) :: .d (.tup (p2'.map prD)) :: g12' :: g13' :: g14' :: rest) τ') ∧ (∀ p ∈ p1', PairOk p) ∧ (∀ p ∈ p2', PairOk p) ∧ p1'.length ≤ p1.length + xs.length ∧ p2'.length ≤ p1.length + xs.length
  | [], p1, p2, g5, g12, g13, g14, τ, h1, h2, h3, _ => ⟨p1, p2, g5, g12, g13, g14, τ, rfl, h1, h2, by simp, by simp [h3]⟩
  | x :: xs, p1, p2, g5, g12, g13, g14, τ, h1, h2, h3, hl => by
    simp only [List.length_cons] at hl
    obtain ⟨t, τ1, e1, t1, t2⟩ := text_ok true ns 12 12 rfl (by omega) τ
    have ta := alp_ascii t2
    obtain ⟨r, τ2, e2, r1⟩ := draw_int true ns 6 6 rfl (by omega) (by omega) τ1
    obtain ⟨t', τ3, e3, _, _⟩ := text_ok true ns 6 6 rfl (by omega) τ2
    have ha := after_ok true ns sec t τ2 hsec.2 (by omega) ta
    have hins := ins_ok (k := k) hrow.2 hst
    obtain ⟨w, τ4, hw⟩ : ∃ w τ4, ∀ y5 y13 y14 q1 q2, ev P (.ife (.cmp .Gt (.callT 0 1 (.cons (.int 6) .nil)) (.int 0)) (.call 4 (.cons (.var 12) (.cons (.var 8) .nil))) (.callT 3 1 (.cons (.int 6) .nil))) (.un :: .tape :: g2 :: g3 :: g4 :: y5 :: .d (rowD row) :: .d (.int (k : Int)) :: .d (rowD sec) :: .d st.d :: q1 :: q2 :: .d (.str t) :: y13 :: y14 :: rest) τ1 = some (.str w, τ4) := by
      by_cases hz : 0 < r
      · refine ⟨apAll sec t, τ2, fun y5 y13 y14 q1 q2 => ?_⟩
        · have hz' : (0 : Int) < (r : Int) := by omega
          rw [ev]
          rw [evt, ev_callT rfl (evs_cons ev_int evs_nil) (by rw [hP.g0]; exact e2)]
          simp only [Option.bind_some, ev_int, cmpD, gtD, ordD, truD]
          rw [decide_eq_true hz']
          simp only [Option.map_some, Option.bind_some, if_true]
          exact ev_call (evs_cons (ev_var rfl) (evs_cons (ev_var rfl) evs_nil)) (by rw [hP.g4]; exact ha)
      · refine ⟨t', τ3, fun y5 y13 y14 q1 q2 => ?_⟩
        · have hz' : ¬ (0 : Int) < (r : Int) := by omega
          rw [ev]
          rw [evt, ev_callT rfl (evs_cons ev_int evs_nil) (by rw [hP.g0]; exact e2)]
          simp only [Option.bind_some, ev_int, cmpD, gtD, ordD, truD]
          rw [decide_eq_false hz']
          simp only [Option.map_some, Option.bind_some, Bool.false_eq_true, if_false]
          exact ev_callT rfl (evs_cons ev_int evs_nil) (by rw [hP.g3]; exact e3)
    have hb := after_ok true ns (insR row k st) t τ4 hins (by omega) ta
    obtain ⟨p1', p2', g5', g12', g13', g14', τ', e, q1, q2, q3, q4⟩ := l13b P ns hP g2 g3 g4 row hrow k hk sec hsec st hst rest xs (p1 ++ [(t, w)]) (p2 ++ [(t, apAll (insR row k st) t)]) (.d x) (.d (.str t)) (.d (.str w)) (.d (rowD (insR row k st))) τ4 (by
      intro p hp
      rcases List.mem_append.mp hp with q | q
      · exact h1 p q
      · have : p = (t, w) := by simpa using q
        rw [this]; exact ⟨t1, ta⟩) (by
      intro p hp
      rcases List.mem_append.mp hp with q | q
      · exact h2 p q
      · have : p = (t, apAll (insR row k st) t) := by simpa using q
        rw [this]; exact ⟨t1, ta⟩) (by simp [h3]) (by simp; omega)
    refine ⟨p1', p2', g5', g12', g13', g14', τ', ?_, q1, q2, by simp at q3 ⊢; omega, by simp at q4 ⊢; omega⟩
    rw [forL_step (τ1 := τ4) ?_, e]
    simp only [bindT, Option.bind_some, List.set]
    refine (evB_nx (evS_set (d := .str t) (τ1 := τ1) (ev_callT rfl (evs_cons ev_int evs_nil) (by rw [hP.g3]; exact e1)))).trans ?_
    simp only [List.set]
    refine (evB_nx (evS_set (hw _ _ _ _ _))).trans ?_
    simp only [List.set]
    refine (evB_nx (evS_set (d := .tup (p1.map prD ++ [prD (t, w)])) (τ1 := τ4) (ev_add_tup (ev_var rfl) (ev_tup (evs_cons (ev_tup (evs_cons (ev_var rfl) (evs_cons (ev_var rfl) evs_nil)) (by simp) rfl) evs_nil) (by simp) rfl) (by simp; omega) (by have := prs_notmap (p1 ++ [(t, w)]); rwa [List.map_append] at this)))).trans ?_
    simp only [List.set]
    refine (evB_nx (evS_set (ev_ins (s := st) rfl rfl hrow.1 (ev_var rfl)))).trans ?_
    simp only [List.set]
    refine (evB_nx (evS_set (d := .tup (p2.map prD ++ [prD (t, apAll (insR row k st) t)])) (τ1 := τ4) (ev_add_tup (ev_var rfl) (ev_tup (evs_cons (ev_tup (evs_cons (ev_var rfl) (evs_cons (ev_call (evs_cons (ev_var rfl) (evs_cons (ev_var rfl) evs_nil)) (by rw [hP.g4]; exact hb)) evs_nil)) (by simp) rfl) evs_nil) (by simp) rfl) (by simp; omega) (by have := prs_notmap (p2 ++ [(t, apAll (insR row k st) t)]); rwa [List.map_append] at this)))).trans ?_
    simp [evB]
end PD

set_option Elab.async false
set_option linter.all false
set_option maxRecDepth 100000
set_option maxHeartbeats 8000000
/-! _law_sign and _law_step at a law's own text. -/
namespace PD
open PySem L2 PySem.Spec PyProof.Rows
def chkSub (l : List Stmt) (a : Str) (f : Expr → Bool) : Bool := match l with
  | [.Return (some (.Subscript (.Constant (.str b) j cp) ex sp)) rp] => decide (b = a) && plainIxB ex && f ex
  | _ => false
theorem chkSub_of {l : List Stmt} {a : Str} {f : Expr → Bool} (h : chkSub l a f = true) : ∃ j cp ex sp rp, l = [.Return (some (.Subscript (.Constant (.str a) j cp) ex sp)) rp] ∧ PlainIx ex ∧ f ex = true := by
  unfold chkSub at h
  split at h
  · rename_i b j cp ex sp rp
    simp only [Bool.and_eq_true, decide_eq_true_eq] at h
    obtain ⟨⟨rfl, h2⟩, h3⟩ := h
    exact ⟨j, cp, ex, sp, rp, rfl, plainIx_of h2, h3⟩
  · cases h
theorem sign_kn {Pg : Program} {w : World} {K : PySem.W.Frag} {mg : Str → Option Value} {base : Heap} {C : Con} (M : Mo C K mg) {st : Stmt} {k : Nat} (D0 : DefOk K mg "_law_sign" st ["tape"]) (S : FnScope ["tape"] ["tape"] (defScope st))
    (hch : chkSub (defBody st) (tx SGN) (chkE ⟨["tape"], [("_law_draw", true)], [], []⟩ (defScope st) (.callT 0 0 (.cons (.int 11) .nil))) = true) (kd : Kn Pg w K mg base C k (cDraw C.tk)) :
    KnT Pg w K mg base C (k + 1) (cSign C.tk) := by
  obtain ⟨j, cp, ex, sp, rp, h1, h2, h3⟩ := chkSub_of hch
  refine def_okT (N := ["tape"]) (cal := [cDraw C.tk]) (csts := []) (ie := .callT 0 0 (.cons (.int 11) .nil)) M D0 S h1 h2 (by rw [tx_len]; exact sl1 (by decide)) h3 rfl (by simp) (all1 kd) _ ?_
  intro ns ds τ r h
  unfold GSign Grun at h
  split at h
  · rename_i hl
    refine ⟨hl, ?_⟩
    obtain rfl := List.length_eq_zero_iff.mp hl
    unfold runF at h
    simp only [Option.bind_eq_some_iff] at h
    obtain ⟨o, e1, e2⟩ := h
    have e1' : evB (mkSg C.tk [cDraw C.tk] [] ns) ir_law_sign [.tape] τ = some o := e1
    obtain ⟨i, τ', e, hi⟩ := draw_int C.tk ns 11 11 rfl (by omega) (by omega) τ
    obtain ⟨c, hc, _⟩ := atI_in (l := SGN) (r := i) hi
    refine ⟨i, τ', c, ?_, hc, ?_⟩
    · show ev (mkSg C.tk [cDraw C.tk] [] ns) (.callT 0 0 (.cons (.int 11) .nil)) [.tape] τ = _
      simp [ev, evs, mkSg, mkSgG, e]
    · unfold ir_law_sign at e1'
      unfold SGN at hc
      rw [evB_rt (evS_ret (d := .str [c]) (τ1 := τ') (by simp [evB, evS, ev, evs, evt, evp, evi, binD, cmpD, bD, mD, neD, eqD, truD, ixD, inD, inB, slD, lenD, intD, maxD, minD, addD, subD, negD, joinD, joinS, txsO, lowerD, upperD, startsD, endsD, stripD, with1, ordD, mulD, modD, fdivD, powD, intO, Out.then, bindT, setAll, itemsD, rangeD, runF, start', mkSg, mkSgG, opD, small62, wipeE, compL, forL, List.replicate, tyIs, e, hc, sl1]))] at e1'
      cases e1'
      exact (Option.some.inj e2).symm
  · cases h
/-- the last two statements of _law_step -/
def chkTail (sc : Scope) (l : List Stmt) : Bool := match l with
  | [.Assign [.Tuple [.Name x px, .Name y py] kt pt] (.Tuple [.Call (.Name f1 p1) [.Name t1 p2] [] p3, .Call (.Name f2 p4) [.Name t2 p5] [] p6] k2 pt2) spos,
     .Return (some (.IfExp (.BoolOp .And [.Compare (.Name wn pw) [.Eq] [.Constant (.str mp) jm cm] p7, .Compare (.Name x1 px1) [.NotEq] [.Name y1 py1] p8] pb) (.Tuple [.Constant (.str mp2) j2 c2, .Name x2 px2, .Name y2 py2] kt' pt') (.Tuple [.Constant (.str sm) j3 c3] k3 p9) pi)) rp] =>
    decide (x = "one") && decide (y = "other") && decide (f1 = "_law_sign") && decide (f2 = "_law_sign") && decide (t1 = "tape") && decide (t2 = "tape") && decide (wn = "word") && decide (mp = tx mapW) && decide (x1 = "one") && decide (y1 = "other") && decide (mp2 = tx mapW) && decide (x2 = "one") && decide (y2 = "other") && decide (sm = tx SML) &&
      doSwap sc [.Name x px, .Name y py] [.Call (.Name f1 p1) [.Name t1 p2] [] p3, .Call (.Name f2 p4) [.Name t2 p5] [] p6] [x, y]
  | _ => false
def locOf (sc : Scope) (x : Str) : Bool := match sc.names.lookup x with
  | some .local => true
  | _ => false
theorem locOf_of {sc : Scope} {x : Str} (h : locOf sc x = true) : sc.names.lookup x = some .local := by
  unfold locOf at h
  split at h
  · rename_i q; exact q
  · cases h
theorem step_kn {Pg : Program} {w : World} {K : PySem.W.Frag} {mg : Str → Option Value} {base : Heap} {C : Con} (M : Mo C K mg) {st : Stmt} {k : Nat} (D0 : DefOk K mg "_law_step" st ["tape"]) (S : FnScope ["tape", "kinds", "word", "one", "other"] ["tape"] (defScope st))
    (chk : chkB ⟨["tape", "kinds", "word", "one", "other"], [("_law_draw", true), ("_law_set", true), ("_law_word", true), ("_law_sign", true)], [], []⟩ (defScope st) ir_step7 ((defBody st).take 7) = true)
    (hT : chkTail (defScope st) ((defBody st).drop 7) = true) (hone : locOf (defScope st) "one" = true) (hoth : locOf (defScope st) "other" = true) (hwd : visB (defScope st) "word" = true) (htp : visB (defScope st) "tape" = true) (hgl : glB (defScope st) "_law_sign" = true)
    (kd : Kn Pg w K mg base C k (cDraw C.tk)) (ks : Kn Pg w K mg base C k ⟨"_law_set", true, 0, GSet C.tk⟩) (kw : Kn Pg w K mg base C k ⟨"_law_word", true, 0, GWord C.tk⟩) (kg : Kn Pg w K mg base C k (cSign C.tk)) (kt : KnT Pg w K mg base C k (cSign C.tk)) :
    Kn Pg w K mg base C (k + 1) ⟨"_law_step", true, 0, GStepD C.tk⟩ := by
  refine def_okB (N := ["tape", "kinds", "word", "one", "other"]) (l := (defBody st).take 7) (r := (defBody st).drop 7) (cal := calStep C.tk) (csts := []) (iw := 2) (i := 3) (j := 4) (e := .callT 3 0 .nil) (sm := SML) M D0 S (List.take_append_drop 7 _).symm chk rfl (by simp) (all4 kd ks kw kg) ?_ _ (fun ns ds τ r h => GStepD_run h)
  intro W X g hPg hw hK hmg hbase hN hRoom hsc
  subst hPg hw hK hmg hbase
  obtain ⟨fa, fd, ps, a1, a2, a3, a4, a5⟩ := kt
  generalize (defBody st).drop 7 = r at hT
  unfold chkTail at hT
  split at hT
  · simp only [Bool.and_eq_true, decide_eq_true_eq] at hT
    obtain ⟨⟨⟨⟨⟨⟨⟨⟨⟨⟨⟨⟨⟨⟨rfl, rfl⟩, rfl⟩, rfl⟩, rfl⟩, rfl⟩, rfl⟩, rfl⟩, rfl⟩, rfl⟩, rfl⟩, rfl⟩, rfl⟩, rfl⟩, hsw⟩ := hT
    have pf : ∀ p1 p2 p, PEF X (.Call (.Name "_law_sign" p1) [.Name "tape" p2] [] p) (RdE (mkSg C.tk (calStep C.tk) [] W.ns) C W (.callT 3 0 .nil)) := fun p1 p2 p =>
      pef_callT g (f := 3) (i := 0) (x := "_law_sign") (t := "tape") (G := GSign C.tk) rfl rfl (by rw [hsc]; exact hgl) (by decide) rfl (by rw [hsc]; exact htp) (by decide) a1 hRoom a2 a3 a4 a5
    refine tail_ok (x := "one") (y := "other") (wn := "word") g rfl rfl (by rw [hN]; rfl) (by rw [hN]; rfl) (by decide) (by decide) (by decide) (by rw [hsc]; exact locOf_of hone) (by rw [hsc]; exact locOf_of hoth) (by decide) (by decide) (pf _ _ _) (pf _ _ _) rfl (do_swap (by rw [hsc]; exact S.kind) (by rw [hsc]; exact hsw)) sw_sole (by rw [hN]; rfl) (vis_of (by rw [hsc]; exact hwd)) (by decide)
  · cases hT
end PD

set_option Elab.async false
set_option linter.all false
set_option maxRecDepth 100000
set_option maxHeartbeats 8000000
/-! textcleaners.steps: texts, steps, rows recognized, for any value. -/
namespace PD
open PySem L2
def ir_is_string : Ss := (.cons (.ret (.and (.isi (.var 0) .str) (.and (.chn .LtE .LtE (.var 1) (.blt .len (.cons (.var 0) .nil)) (.var 2)) (.one (.blt .all (.cons (.comp (.cmp .In (.var 3) (.cst 0)) (.nm 3) (.data (.var 0)) .yes [3]) .nil)))))) .nil)
def ir_is_set : Ss := (.cons (.ret (.and (.call 0 (.cons (.var 0) (.cons (.int 1) (.cons (.int 3) .nil)))) (.one (.blt .all (.cons (.comp (.cmp .Lt (.var 1) (.var 2)) (.cons (.nm 1) (.cons (.nm 2) .nil)) (.zip (.var 0) (.sl (.var 0) (.int 1) .nope)) .yes [1, 2]) .nil))))) .nil)
def ir_is_number : Ss := (.cons (.ret (.and (.isi (.var 0) .int) (.and (.not (.isi (.var 0) .bool)) (.one (.chn .LtE .LtE (.int 1) (.var 0) (.int 3)))))) .nil)
def ir_is_step : Ss := (.cons (.ife (.or (.not (.val (.isi (.var 0) .tuple))) (.or (.cmp .Eq (.blt .len (.cons (.var 0) .nil)) (.int 0)) (.one (.not (.val (.isi (.idx (.var 0) (.int 0)) .str)))))) (.cons (.ret (.bl false)) .nil) .nil) (.cons (.par [1, 2] (.cons (.idx (.var 0) (.int 0)) (.cons (.sl (.var 0) (.int 1) .nope) .nil))) (.cons (.ife (.cmp .In (.var 1) (.cst 0)) (.cons (.ret (.and (.cmp .Eq (.blt .len (.cons (.var 2) .nil)) (.int 1)) (.one (.call 0 (.cons (.idx (.var 2) (.int 0)) .nil))))) .nil) .nil) (.cons (.ife (.cmp .In (.var 1) (.cst 1)) (.cons (.ret (.and (.cmp .Eq (.blt .len (.cons (.var 2) .nil)) (.int 1)) (.one (.call 1 (.cons (.idx (.var 2) (.int 0)) (.cons (.int 1) (.cons (.int 2) .nil))))))) .nil) .nil) (.cons (.ife (.cmp .In (.var 1) (.cst 2)) (.cons (.ret (.and (.cmp .Eq (.blt .len (.cons (.var 2) .nil)) (.int 1)) (.one (.call 2 (.cons (.idx (.var 2) (.int 0)) .nil))))) .nil) .nil) (.cons (.ife (.cmp .Eq (.var 1) (.str [109, 97, 112])) (.cons (.ret (.and (.cmp .Eq (.blt .len (.cons (.var 2) .nil)) (.int 2)) (.and (.call 1 (.cons (.idx (.var 2) (.int 0)) (.cons (.int 1) (.cons (.int 1) .nil)))) (.and (.call 1 (.cons (.idx (.var 2) (.int 1)) (.cons (.int 1) (.cons (.int 1) .nil)))) (.one (.cmp .NotEq (.idx (.var 2) (.int 0)) (.idx (.var 2) (.int 1)))))))) .nil) .nil) (.cons (.ife (.cmp .Eq (.var 1) (.str [106, 111, 105, 110])) (.cons (.ret (.and (.cmp .Eq (.blt .len (.cons (.var 2) .nil)) (.int 2)) (.and (.call 0 (.cons (.idx (.var 2) (.int 0)) .nil)) (.one (.call 1 (.cons (.idx (.var 2) (.int 1)) (.cons (.int 1) (.cons (.int 1) .nil)))))))) .nil) .nil) (.cons (.ret (.and (.cmp .Eq (.var 1) (.str [115, 109, 97, 108, 108])) (.one (.cmp .Eq (.var 2) (.tup .nil))))) .nil))))))))
def ir_is_row : Ss := (.cons (.ret (.and (.isi (.var 0) .tuple) (.and (.cmp .LtE (.blt .len (.cons (.var 0) .nil)) (.cst 0)) (.one (.blt .all (.cons (.comp (.call 0 (.cons (.var 1) .nil)) (.nm 1) (.data (.var 0)) .yes [1]) .nil)))))) .nil)
def sgL : List Nat := [32, 45, 46] ++ capsL ++ [95] ++ [97, 98, 99, 100, 101, 102, 103, 104, 105, 106, 107, 108, 109, 110, 111, 112, 113, 114, 115, 116, 117, 118, 119, 120, 121, 122]
def signsOf (lo hi : Nat) (s : List Nat) : Bool := decide (lo ≤ s.length) && (decide (s.length ≤ hi) && s.all fun c => decide (c ∈ sgL))
def isStr (lo hi : Nat) : D → Bool
  | .str s => signsOf lo hi s
  | _ => false
def riseB (s : List Nat) : Bool := (List.zip s (s.drop 1)).all fun p => decide (p.1 < p.2)
def isSetD : D → Bool
  | .str s => signsOf 1 3 s && riseB s
  | _ => false
def isNumD : D → Bool
  | .int i => decide (1 ≤ i) && decide (i ≤ 3)
  | _ => false
def wTrim : List Nat := [116, 114, 105, 109]
def wDrop : List Nat := [100, 114, 111, 112]
def wSqueeze : List Nat := [115, 113, 117, 101, 101, 122, 101]
def wFront : List Nat := [102, 114, 111, 110, 116]
def wFronts : List Nat := [102, 114, 111, 110, 116, 115]
def wBack : List Nat := [98, 97, 99, 107]
def wBacks : List Nat := [98, 97, 99, 107, 115]
def wFirst : List Nat := [102, 105, 114, 115, 116]
def wLast : List Nat := [108, 97, 115, 116]
def wJoin : List Nat := [106, 111, 105, 110]
def wSmall : List Nat := [115, 109, 97, 108, 108]
def one1 (f : D → Bool) : List D → Bool
  | [a] => f a
  | _ => false
def two2 (f : D → D → Bool) : List D → Bool
  | [a, b] => f a b
  | _ => false
def isStepD : D → Bool
  | .tup (.str w :: rest) =>
    if w = wTrim ∨ w = wDrop ∨ w = wSqueeze then one1 isSetD rest
    else if w = wFront ∨ w = wFronts ∨ w = wBack ∨ w = wBacks then one1 (isStr 1 2) rest
    else if w = wFirst ∨ w = wLast then one1 isNumD rest
    else if w = mapW then two2 (fun a b => isStr 1 1 a && (isStr 1 1 b && !eqv a b)) rest
    else if w = wJoin then two2 (fun a b => isSetD a && isStr 1 1 b) rest
    else if w = wSmall then rest.isEmpty else false
  | _ => false
def isRowD : D → Bool
  | .tup xs => decide (xs.length ≤ 3) && xs.all isStepD
  | _ => false
def cSigns : Str × D := ("SIGNS", .str sgL)
def cWset : Str × D := ("WITH_SET", .tup [.str wTrim, .str wDrop, .str wSqueeze])
def cWword : Str × D := ("WITH_WORD", .tup [.str wFront, .str wFronts, .str wBack, .str wBacks])
def cWnum : Str × D := ("WITH_NUMBER", .tup [.str wFirst, .str wLast])
def cMost : Str × D := ("MOST_STEPS", .int 3)
/-- short enough -/
def shortD : D → Prop
  | .str s => s.length ≤ 4000
  | _ => True
/-! ### is_string -/
noncomputable def GIsStr (tk : Bool) : GF := Grun tk 4 false 3 ir_is_string [] [cSigns]
theorem ev_len_str0 {P : Sg} {a : E} {ρ : Env'} {τ τ1 : TS} {s : List Nat} (h : ev P a ρ τ = some (.str s, τ1)) (hl : s.length ≤ 4000) : ev P (.blt .len (.cons a .nil)) ρ τ = some (.int s.length, τ1) := by
  rw [ev, evs_cons h evs_nil]
  simp [bD, lenD, sl1 hl]
theorem all_bools (p : Nat → Bool) (s : List Nat) : (bools (s.map fun c => D.bl (p c))).map (fun bs => D.bl (bs.all id)) = some (.bl (s.all p)) := by
  have e := bools_map (s.map p)
  rw [List.map_map] at e
  have e3 : (s.map fun c => D.bl (p c)) = s.map (D.bl ∘ p) := rfl
  rw [e3, e]
  simp [List.all_map]
theorem signs_comp (P : Sg) (hc : P.cs[0]? = some (.str sgL)) (r0 r1 r2 r3 : Slot) (s : List Nat) (τ : TS) :
    compL (cbody P (.cmp .In (.var 3) (.cst 0)) (.nm 3) .yes [3] [r0, r1, r2, r3]) (s.map fun c => .str [c]) τ = some (s.map (fun c => D.bl (decide (c ∈ sgL))), τ) := by
  refine compL_map fun c hm => ?_
  simp [cbody, evB, evS, ev, evs, evt, evp, evi, binD, cmpD, bD, mD, neD, eqD, truD, ixD, inD, inB, slD, lenD, intD, maxD, minD, addD, subD, negD, joinD, joinS, txsO, lowerD, upperD, startsD, endsD, stripD, with1, ordD, mulD, modD, fdivD, powD, intO, Out.then, bindT, setAll, itemsD, rangeD, runF, start', mkSg, mkSgG, opD, small62, wipeE, compL, forL, List.replicate, tyIs, hc]
theorem isstr_ok (tk : Bool) (ns : List Int) (d : D) (hd : shortD d) (lo hi : Nat) (τ : TS) : GIsStr tk ns [d, .int lo, .int hi] τ = some (.bl (isStr lo hi d), τ) := by
  refine Grun_in rfl ?_
  show evB _ ir_is_string [.d d, .d (.int lo), .d (.int hi), .un] τ = _
  unfold ir_is_string
  refine evB_rt (evS_ret ?_)
  cases d with
  | str s =>
    have hs : s.length ≤ 4000 := hd
    have hcomp := signs_comp (mkSg tk [] [cSigns] ns) rfl (.d (.str s)) (.d (.int lo)) (.d (.int hi)) .un s τ
    have hall : ev (mkSg tk [] [cSigns] ns) (.blt .all (.cons (.comp (.cmp .In (.var 3) (.cst 0)) (.nm 3) (.data (.var 0)) .yes [3]) .nil)) [.d (.str s), .d (.int lo), .d (.int hi), .un] τ = some (.bl (s.all fun c => decide (c ∈ sgL)), τ) := by
      rw [ev, evs_cons (ev_comp (evi_data (ev_var rfl) rfl) hcomp (sl1 (by simpa using hs))) evs_nil]
      simp only [Option.bind_some, bD, allD]
      rw [all_bools (fun c => decide (c ∈ sgL)) s]
      rfl
    by_cases h1 : lo ≤ s.length
    · by_cases h2 : s.length ≤ hi
      · rw [ev, ev, ev_var rfl]
        simp only [Option.map_some, Option.bind_some, tyIs, truD, if_true]
        rw [ev, ev, ev_var rfl]
        simp only [Option.bind_some]
        rw [ev_len_str0 (ev_var rfl) hs]
        simp only [Option.bind_some, cmpD, leD, ordD, decide_eq_true (show (lo : Int) ≤ (s.length : Int) by omega), ev_var (show ([Slot.d (.str s), .d (.int lo), .d (.int hi), .un] : Env')[2]? = some (.d (.int hi)) from rfl), decide_eq_true (show (s.length : Int) ≤ (hi : Int) by omega), Option.map_some, truD, if_true]
        rw [ev, hall]
        simp [isStr, signsOf, h1, h2]
      · rw [ev, ev, ev_var rfl]
        simp only [Option.map_some, Option.bind_some, tyIs, truD, if_true]
        rw [ev, ev, ev_var rfl]
        simp only [Option.bind_some]
        rw [ev_len_str0 (ev_var rfl) hs]
        simp only [Option.bind_some, cmpD, leD, ordD, decide_eq_true (show (lo : Int) ≤ (s.length : Int) by omega), ev_var (show ([Slot.d (.str s), .d (.int lo), .d (.int hi), .un] : Env')[2]? = some (.d (.int hi)) from rfl), decide_eq_false (show ¬ (s.length : Int) ≤ (hi : Int) by omega), Option.map_some, truD, Bool.false_eq_true, if_false]
        simp [isStr, signsOf, h1, h2]
    · rw [ev, ev, ev_var rfl]
      simp only [Option.map_some, Option.bind_some, tyIs, truD, if_true]
      rw [ev, ev, ev_var rfl]
      simp only [Option.bind_some]
      rw [ev_len_str0 (ev_var rfl) hs]
      simp only [Option.bind_some, cmpD, leD, ordD, decide_eq_false (show ¬ (lo : Int) ≤ (s.length : Int) by omega), truD, Bool.false_eq_true, if_false]
      simp [isStr, signsOf, h1]
  | non => simp [ev, tyIs, truD, isStr]
  | bl b => simp [ev, tyIs, truD, isStr]
  | int i => simp [ev, tyIs, truD, isStr]
  | tup xs => simp [ev, tyIs, truD, isStr]
  | lst xs => simp [ev, tyIs, truD, isStr]
end PD

set_option Elab.async false
set_option linter.all false
set_option maxRecDepth 100000
set_option maxHeartbeats 8000000
/-! is_set, is_number, is_step, is_row of any value. -/
namespace PD
open PySem L2
mutual
/-- short texts, short lists, at every depth -/
def bnd : D → Bool
  | .str s => decide (s.length ≤ 1000)
  | .tup xs => decide (xs.length ≤ 1000) && bnds xs
  | .lst xs => decide (xs.length ≤ 1000) && bnds xs
  | _ => true
def bnds : List D → Bool
  | [] => true
  | x :: xs => bnd x && bnds xs
end
theorem bnds_iff : ∀ {xs : List D}, bnds xs = true ↔ ∀ x ∈ xs, bnd x = true
  | [] => by simp [bnds]
  | x :: xs => by rw [bnds, Bool.and_eq_true, bnds_iff]; simp
theorem bnd_str {s : List Nat} (h : bnd (.str s) = true) : s.length ≤ 1000 := by simpa [bnd] using h
theorem bnd_tup {xs : List D} (h : bnd (.tup xs) = true) : xs.length ≤ 1000 ∧ ∀ x ∈ xs, bnd x = true := by
  simp only [bnd, Bool.and_eq_true, decide_eq_true_eq, bnds_iff] at h
  exact h
theorem bnd_short {d : D} (h : bnd d = true) : shortD d := by
  cases d with
  | str s => have := bnd_str h; show s.length ≤ 4000; omega
  | _ => trivial
theorem ev_call0 {P : Sg} {f : Nat} {es : Es} {ρ : Env'} {τ τ1 τ2 : TS} {ds : List D} {d : D} (h1 : evs P es ρ τ = some (ds, τ1)) (h2 : P.G f ds τ1 = some (d, τ2)) : ev P (.call f es) ρ τ = some (d, τ2) := by
  rw [ev, h1]
  simp only [Option.bind_some, h2]
/-! ### is_set -/
noncomputable def GIsSet (tk : Bool) : GF := Grun tk 3 false 1 ir_is_set [⟨"is_string", false, 3, GIsStr tk⟩] []
theorem rise_comp (P : Sg) (r0 r1 r2 : Slot) (s : List Nat) (τ : TS) :
    compL (cbody P (.cmp .Lt (.var 1) (.var 2)) (.cons (.nm 1) (.cons (.nm 2) .nil)) .yes [1, 2] [r0, r1, r2]) (zipC s (s.drop 1)) τ = some ((List.zip s (s.drop 1)).map (fun p => D.bl (decide (p.1 < p.2))), τ) := by
  unfold zipC
  refine compL_map fun p hm => ?_
  simp [cbody, evB, evS, ev, evs, evt, evp, evi, binD, cmpD, bD, mD, neD, eqD, truD, ixD, inD, inB, slD, lenD, intD, maxD, minD, addD, subD, negD, joinD, joinS, txsO, lowerD, upperD, startsD, endsD, stripD, with1, ordD, mulD, modD, fdivD, powD, intO, Out.then, bindT, setAll, itemsD, rangeD, runF, start', mkSg, mkSgG, opD, small62, wipeE, compL, forL, List.replicate, tyIs, ltD, List.cons_lt_cons_iff]
theorem isset_ok (tk : Bool) (ns : List Int) (d : D) (hd : bnd d = true) (τ : TS) : GIsSet tk ns [d] τ = some (.bl (isSetD d), τ) := by
  have h1 := isstr_ok tk ns d (bnd_short hd) 1 3 τ
  refine Grun_in rfl ?_
  show evB _ ir_is_set [.d d, .un, .un] τ = _
  unfold ir_is_set
  refine evB_rt (evS_ret ?_)
  have hc : ev (mkSg tk [⟨"is_string", false, 3, GIsStr tk⟩] [] ns) (.call 0 (.cons (.var 0) (.cons (.int 1) (.cons (.int 3) .nil)))) [.d d, .un, .un] τ = some (.bl (isStr 1 3 d), τ) :=
    ev_call0 (evs_cons (ev_var rfl) (evs_cons ev_int (evs_cons ev_int evs_nil))) h1
  rw [ev, hc]
  simp only [Option.bind_some, truD]
  cases hb : isStr 1 3 d with
  | false =>
    simp only [Bool.false_eq_true, if_false]
    cases d with
    | str s =>
      have hb' : signsOf 1 3 s = false := hb
      simp [isSetD, hb']
    | _ => rfl
  | true =>
    simp only [if_true]
    cases d with
    | str s =>
      have hb' : signsOf 1 3 s = true := hb
      have hl := bnd_str hd
      have hz : evi (mkSg tk [⟨"is_string", false, 3, GIsStr tk⟩] [] ns) (.zip (.var 0) (.sl (.var 0) (.int 1) .nope)) [.d (.str s), .un, .un] τ = some (zipC s (s.drop 1), τ) := by
        have e1 : cutL s (some 1) none = s.drop 1 := cut_from s 1
        have e2 := sl1 (show s.length ≤ 4000 by omega)
        simp [evi, ev, evp, slD, e1, e2]
      have hlen : ((List.zip s (s.drop 1)).map (fun p => D.bl (decide (p.1 < p.2)))).length ≤ sizeLine := by
        rw [List.length_map, List.length_zip]
        exact Nat.le_trans (Nat.min_le_left _ _) (sl1 (by omega))
      rw [ev, ev, evs_cons (ev_comp hz (rise_comp _ _ _ _ s τ) hlen) evs_nil]
      simp only [Option.bind_some, bD, allD]
      have e := bools_map ((List.zip s (s.drop 1)).map fun p => decide (p.1 < p.2))
      rw [List.map_map] at e
      have e3 : ((List.zip s (s.drop 1)).map (fun p => D.bl (decide (p.1 < p.2)))) = (List.zip s (s.drop 1)).map (D.bl ∘ fun p => decide (p.1 < p.2)) := rfl
      rw [e3, e]
      simp only [Option.map_some, isSetD, hb', Bool.true_and, riseB, List.all_map]
      rfl
    | non => cases hb
    | bl b => cases hb
    | int i => cases hb
    | tup xs => cases hb
    | lst xs => cases hb
/-! ### is_number -/
noncomputable def GIsNum (tk : Bool) : GF := Grun tk 1 false 1 ir_is_number [] []
theorem isnum_ok (tk : Bool) (ns : List Int) (d : D) (τ : TS) : GIsNum tk ns [d] τ = some (.bl (isNumD d), τ) := by
  refine Grun_in rfl ?_
  show evB _ ir_is_number [.d d] τ = _
  unfold ir_is_number
  refine evB_rt (evS_ret ?_)
  cases d with
  | int i =>
    by_cases h1 : 1 ≤ i
    · by_cases h2 : i ≤ 3 <;> simp [evB, evS, ev, evs, evt, evp, evi, binD, cmpD, bD, mD, neD, eqD, truD, ixD, inD, inB, slD, lenD, intD, maxD, minD, addD, subD, negD, joinD, joinS, txsO, lowerD, upperD, startsD, endsD, stripD, with1, ordD, mulD, modD, fdivD, powD, intO, Out.then, bindT, setAll, itemsD, rangeD, runF, start', mkSg, mkSgG, opD, small62, wipeE, compL, forL, List.replicate, tyIs, tyIs, leD, isNumD, h1, h2]
    · simp [evB, evS, ev, evs, evt, evp, evi, binD, cmpD, bD, mD, neD, eqD, truD, ixD, inD, inB, slD, lenD, intD, maxD, minD, addD, subD, negD, joinD, joinS, txsO, lowerD, upperD, startsD, endsD, stripD, with1, ordD, mulD, modD, fdivD, powD, intO, Out.then, bindT, setAll, itemsD, rangeD, runF, start', mkSg, mkSgG, opD, small62, wipeE, compL, forL, List.replicate, tyIs, tyIs, leD, isNumD, h1]
  | bl b => cases b <;> simp [evB, evS, ev, evs, evt, evp, evi, binD, cmpD, bD, mD, neD, eqD, truD, ixD, inD, inB, slD, lenD, intD, maxD, minD, addD, subD, negD, joinD, joinS, txsO, lowerD, upperD, startsD, endsD, stripD, with1, ordD, mulD, modD, fdivD, powD, intO, Out.then, bindT, setAll, itemsD, rangeD, runF, start', mkSg, mkSgG, opD, small62, wipeE, compL, forL, List.replicate, tyIs, tyIs, isNumD]
  | _ => simp [evB, evS, ev, evs, evt, evp, evi, binD, cmpD, bD, mD, neD, eqD, truD, ixD, inD, inB, slD, lenD, intD, maxD, minD, addD, subD, negD, joinD, joinS, txsO, lowerD, upperD, startsD, endsD, stripD, with1, ordD, mulD, modD, fdivD, powD, intO, Out.then, bindT, setAll, itemsD, rangeD, runF, start', mkSg, mkSgG, opD, small62, wipeE, compL, forL, List.replicate, tyIs, tyIs, isNumD]
end PD
namespace PD
open PySem L2
/-! ### is_step -/
noncomputable abbrev calIsStep (tk : Bool) : List Cal := [⟨"is_set", false, 1, GIsSet tk⟩, ⟨"is_string", false, 3, GIsStr tk⟩, ⟨"is_number", false, 1, GIsNum tk⟩]
def cstIsStep : List (Str × D) := [cWset, cWword, cWnum]
noncomputable def GIsStep (tk : Bool) : GF := Grun tk 3 false 1 ir_is_step (calIsStep tk) cstIsStep
abbrev stepT : Ss := match ir_is_step with
  | .cons _ (.cons _ t) => t
  | t => t
theorem evB_nil0 {P : Sg} {ρ : Env'} {τ : TS} : evB P .nil ρ τ = some (.nx ρ τ) := by rw [evB]
theorem len_tup0 {P : Sg} {a : E} {ρ : Env'} {τ τ1 : TS} {xs : List D} (h : ev P a ρ τ = some (.tup xs, τ1)) : ev P (.blt .len (.cons a .nil)) ρ τ = some (.int xs.length, τ1) := by
  rw [ev, evs_cons h evs_nil]
  simp [bD, lenD]
theorem evt_cmp0 {P : Sg} {o : CmpOp} {a b : E} {ρ : Env'} {τ τ1 τ2 : TS} {x y : D} {c : Bool} (h : ev P a ρ τ = some (x, τ1)) (h2 : ev P b ρ τ1 = some (y, τ2)) (h3 : cmpD o x y = some (.bl c)) : evt P (.cmp o a b) ρ τ = some (c, τ2) := by
  rw [evt, h]
  simp only [Option.bind_some, h2, h3, truD, Option.map_some]
theorem ev_cmp0 {P : Sg} {o : CmpOp} {a b : E} {ρ : Env'} {τ τ1 τ2 : TS} {x y d : D} (h : ev P a ρ τ = some (x, τ1)) (h2 : ev P b ρ τ1 = some (y, τ2)) (h3 : cmpD o x y = some d) : ev P (.cmp o a b) ρ τ = some (d, τ2) := by
  rw [ev, h]
  simp only [Option.bind_some, h2, h3, Option.map_some]
theorem ev_and0 {P : Sg} {a b : E} {ρ : Env'} {τ τ1 : TS} {c : Bool} {r : Option (D × TS)} (h : ev P a ρ τ = some (.bl c, τ1)) (h2 : c = true → ev P b ρ τ1 = r) (h3 : c = false → r = some (.bl false, τ1)) : ev P (.and a b) ρ τ = r := by
  rw [ev, h]
  cases c with
  | true => simp only [Option.bind_some, truD, if_true]; exact h2 rfl
  | false => simp only [Option.bind_some, truD, Bool.false_eq_true, if_false]; exact (h3 rfl).symm
theorem ev_one0 {P : Sg} {a : E} {ρ : Env'} {τ : TS} {r : Option (D × TS)} (h : ev P a ρ τ = r) : ev P (.one a) ρ τ = r := by
  rw [ev, h]
theorem idx0 {P : Sg} {a : E} {ρ : Env'} {τ τ1 : TS} {xs : List D} {i : Nat} {d : D} (h : ev P a ρ τ = some (.tup xs, τ1)) (h3 : xs[i]? = some d) : ev P (.idx a (.int (i : Int))) ρ τ = some (d, τ1) := by
  rw [ev, h]
  simp only [Option.bind_some, ev, ixD, atI_nat h3, Option.map_some]
/-- a text among written texts -/
theorem in_cst {P : Sg} {k : Nat} {ws : List (List Nat)} {ρ : Env'} {τ : TS} {w : List Nat} (hc : P.cs[k]? = some (.tup (ws.map .str))) (hρ : ρ[1]? = some (.d (.str w))) : evt P (.cmp .In (.var 1) (.cst k)) ρ τ = some (decide (w ∈ ws), τ) := by
  refine evt_cmp0 (ev_var hρ) (y := .tup (ws.map .str)) (by rw [ev, hc]; rfl) ?_
  have : ∀ l : List (List Nat), ((l.map D.str).any fun y => eqv y (.str w)) = decide (w ∈ l) := by
    intro l
    induction l with
    | nil => rfl
    | cons x l ih =>
      rw [List.map_cons, List.any_cons, ih, eqv_str]
      by_cases h : x = w
      · subst h; simp
      · have h2 : ¬ w = x := fun z => h z.symm
        simp [h, h2]
  simp only [cmpD, inD, inB, dep_str, Nat.min_zero, Nat.zero_le, if_true, Option.map_some, this, Bool.false_eq_true, if_false]
/-- what stands behind the second statement -/
theorem step_go (tk : Bool) (ns : List Int) (w : List Nat) (rest : List D) (hr : rest.length ≤ 1000) (hb : ∀ x ∈ rest, bnd x = true) (v : D) (τ : TS) : evB (mkSg tk (calIsStep tk) cstIsStep ns) stepT [.d v, .d (.str w), .d (.tup rest)] τ = some (.rt (.bl (isStepD (.tup (.str w :: rest)))) τ) := by
  generalize hP : mkSg tk (calIsStep tk) cstIsStep ns = P
  have g0 : ∀ ds, P.G 0 ds = GIsSet tk ns ds := fun ds => by rw [← hP]; rfl
  have g1 : ∀ ds, P.G 1 ds = GIsStr tk ns ds := fun ds => by rw [← hP]; rfl
  have g2 : ∀ ds, P.G 2 ds = GIsNum tk ns ds := fun ds => by rw [← hP]; rfl
  have c0 : P.cs[0]? = some (.tup ([wTrim, wDrop, wSqueeze].map .str)) := by rw [← hP]; rfl
  have c1 : P.cs[1]? = some (.tup ([wFront, wFronts, wBack, wBacks].map .str)) := by rw [← hP]; rfl
  have c2 : P.cs[2]? = some (.tup ([wFirst, wLast].map .str)) := by rw [← hP]; rfl
  generalize hρ : ([.d v, .d (.str w), .d (.tup rest)] : Env') = ρ
  have r1 : ρ[1]? = some (.d (.str w)) := by rw [← hρ]; rfl
  have r2 : ρ[2]? = some (.d (.tup rest)) := by rw [← hρ]; rfl
  have i0 := in_cst (τ := τ) c0 r1
  have i1 := in_cst (τ := τ) c1 r1
  have i2 := in_cst (τ := τ) c2 r1
  have ln : ∀ k : Nat, ev P (.cmp .Eq (.blt .len (.cons (.var 2) .nil)) (.int (k : Int))) ρ τ = some (.bl (decide (rest.length = k)), τ) := fun k => by
    refine ev_cmp0 (len_tup0 (ev_var r2)) ev_int ?_
    simp only [cmpD, eqD, dep_int, Nat.min_self, Nat.zero_le, if_true, eqv_int]
    by_cases h : rest.length = k <;> simp [h]
    omega
  have e1 : ∀ s : List Nat, evt P (.cmp .Eq (.var 1) (.str s)) ρ τ = some (decide (w = s), τ) := fun s => by
    refine evt_cmp0 (ev_var r1) ev_str ?_
    have : (w == s) = decide (w = s) := by by_cases h : w = s <;> simp [h]
    simp [cmpD, eqD, this]
  have one : ∀ (f : D → Bool) (e : E), (∀ a, rest = [a] → ev P e ρ τ = some (.bl (f a), τ)) → ev P (.and (.cmp .Eq (.blt .len (.cons (.var 2) .nil)) (.int 1)) (.one e)) ρ τ = some (.bl (one1 f rest), τ) := fun f e h => by
    refine ev_and0 (ln 1) (fun hl => ?_) fun hl => ?_
    · have hl := of_decide_eq_true hl
      match rest, hl, h with
      | [a], _, h => exact ev_one0 (h a rfl)
    · have hl := of_decide_eq_false hl
      match rest, hl with
      | [], _ => rfl
      | [a], hl => exact absurd rfl hl
      | _ :: _ :: _, _ => rfl
  have two : ∀ (f : D → D → Bool) (e : E), (∀ a b, rest = [a, b] → ev P e ρ τ = some (.bl (f a b), τ)) → ev P (.and (.cmp .Eq (.blt .len (.cons (.var 2) .nil)) (.int 2)) e) ρ τ = some (.bl (two2 f rest), τ) := fun f e h => by
    refine ev_and0 (ln 2) (fun hl => ?_) fun hl => ?_
    · have hl := of_decide_eq_true hl
      match rest, hl, h with
      | [a, b], _, h => exact h a b rfl
    · have hl := of_decide_eq_false hl
      match rest, hl with
      | [], _ => rfl
      | [a], _ => rfl
      | [a, b], hl => exact absurd rfl hl
      | _ :: _ :: _ :: _, _ => rfl
  have a0 : ∀ a b, rest = a :: b → ev P (.idx (.var 2) (.int 0)) ρ τ = some (a, τ) := fun a b h => idx0 (i := 0) (ev_var r2) (by rw [h]; rfl)
  have a1 : ∀ a b c, rest = a :: b :: c → ev P (.idx (.var 2) (.int 1)) ρ τ = some (b, τ) := fun a b c h => idx0 (i := 1) (ev_var r2) (by rw [h]; rfl)
  have sstr : ∀ (e : E) (x : D) (lo hi : Nat), bnd x = true → ev P e ρ τ = some (x, τ) → ev P (.call 1 (.cons e (.cons (.int (lo : Int)) (.cons (.int (hi : Int)) .nil)))) ρ τ = some (.bl (isStr lo hi x), τ) := fun e x lo hi hx he =>
    ev_call0 (evs_cons he (evs_cons ev_int (evs_cons ev_int evs_nil))) (by rw [g1]; exact isstr_ok tk ns x (bnd_short hx) lo hi τ)
  have sset : ∀ (e : E) (x : D), bnd x = true → ev P e ρ τ = some (x, τ) → ev P (.call 0 (.cons e .nil)) ρ τ = some (.bl (isSetD x), τ) := fun e x hx he =>
    ev_call0 (evs_cons he evs_nil) (by rw [g0]; exact isset_ok tk ns x hx τ)
  have snum : ∀ (e : E) (x : D), ev P e ρ τ = some (x, τ) → ev P (.call 2 (.cons e .nil)) ρ τ = some (.bl (isNumD x), τ) := fun e x he =>
    ev_call0 (evs_cons he evs_nil) (by rw [g2]; exact isnum_ok tk ns x τ)
  have m0 : ∀ a b, rest = a :: b → bnd a = true := fun a b h => hb a (by rw [h]; exact List.mem_cons_self)
  have m1 : ∀ a b c, rest = a :: b :: c → bnd b = true := fun a b c h => hb b (by rw [h]; simp)
  unfold stepT ir_is_step
  simp only
  rw [isStepD]
  by_cases h0 : w = wTrim ∨ w = wDrop ∨ w = wSqueeze
  · rw [if_pos h0]
    refine evB_rt (evS_t (by rw [i0, decide_eq_true (by simpa using h0)]) (evB_rt (evS_ret (one isSetD _ fun a h => sset _ a (m0 a [] h) (a0 a [] h)))))
  rw [if_neg h0]
  refine (evB_nx (evS_f (by rw [i0, decide_eq_false (by simpa using h0)]) evB_nil0)).trans ?_
  by_cases h1 : w = wFront ∨ w = wFronts ∨ w = wBack ∨ w = wBacks
  · rw [if_pos h1]
    refine evB_rt (evS_t (by rw [i1, decide_eq_true (by simpa using h1)]) (evB_rt (evS_ret (one (isStr 1 2) _ fun a h => sstr _ a 1 2 (m0 a [] h) (a0 a [] h)))))
  rw [if_neg h1]
  refine (evB_nx (evS_f (by rw [i1, decide_eq_false (by simpa using h1)]) evB_nil0)).trans ?_
  by_cases h2 : w = wFirst ∨ w = wLast
  · rw [if_pos h2]
    refine evB_rt (evS_t (by rw [i2, decide_eq_true (by simpa using h2)]) (evB_rt (evS_ret (one isNumD _ fun a h => snum _ a (a0 a [] h)))))
  rw [if_neg h2]
  refine (evB_nx (evS_f (by rw [i2, decide_eq_false (by simpa using h2)]) evB_nil0)).trans ?_
  by_cases h3 : w = mapW
  · rw [if_pos h3]
    refine evB_rt (evS_t (by rw [e1, decide_eq_true h3]) (evB_rt (evS_ret (two (fun a b => isStr 1 1 a && (isStr 1 1 b && !eqv a b)) _ fun a b h => ?_))))
    refine ev_and0 (sstr _ a 1 1 (m0 a [b] h) (a0 a [b] h)) (fun q => ?_) fun q => by rw [q]; rfl
    refine ev_and0 (sstr _ b 1 1 (m1 a b [] h) (a1 a b [] h)) (fun q2 => ?_) fun q2 => by rw [q, q2]; rfl
    refine ev_one0 (ev_cmp0 (a0 a [b] h) (a1 a b [] h) ?_)
    rw [q, q2]
    cases a with
    | str x => cases b with
      | str y => simp [cmpD, neD]
      | _ => cases q2
    | _ => cases q
  rw [if_neg h3]
  refine (evB_nx (evS_f (by rw [e1, decide_eq_false h3]) evB_nil0)).trans ?_
  by_cases h4 : w = wJoin
  · rw [if_pos h4]
    refine evB_rt (evS_t (by rw [show ([106, 111, 105, 110] : List Nat) = wJoin from rfl, e1, decide_eq_true h4]) (evB_rt (evS_ret (two (fun a b => isSetD a && isStr 1 1 b) _ fun a b h => ?_))))
    refine ev_and0 (sset _ a (m0 a [b] h) (a0 a [b] h)) (fun q => ?_) fun q => by rw [q]; rfl
    rw [q]
    exact ev_one0 (sstr _ b 1 1 (m1 a b [] h) (a1 a b [] h))
  rw [if_neg h4]
  refine (evB_nx (evS_f (by rw [show ([106, 111, 105, 110] : List Nat) = wJoin from rfl, e1, decide_eq_false h4]) evB_nil0)).trans ?_
  refine evB_rt (evS_ret ?_)
  by_cases h5 : w = wSmall
  · rw [if_pos h5]
    refine ev_and0 (c := true) (ev_cmp0 (ev_var r1) ev_str (by rw [h5]; simp [cmpD, eqD, wSmall])) (fun _ => ?_) fun q => by cases q
    refine ev_one0 (ev_cmp0 (ev_var r2) (ev_tup evs_nil (by simp) rfl) ?_)
    cases rest with
    | nil => simp [cmpD, eqD]
    | cons a b => simp [cmpD, eqD]
  · rw [if_neg h5]
    exact ev_and0 (c := false) (ev_cmp0 (ev_var r1) ev_str (by
      have : ¬ w = [115, 109, 97, 108, 108] := h5
      simp [cmpD, eqD, this])) (fun q => by cases q) fun _ => rfl
theorem isstep_ok (tk : Bool) (ns : List Int) (d : D) (hd : bnd d = true) (hm : tk = true → ∀ w rest, d = .tup (w :: rest) → isMap rest = false) (τ : TS) : GIsStep tk ns [d] τ = some (.bl (isStepD d), τ) := by
  refine Grun_in rfl ?_
  show evB _ ir_is_step [.d d, .un, .un] τ = _
  have split : ir_is_step = .cons (.ife (.or (.not (.val (.isi (.var 0) .tuple))) (.or (.cmp .Eq (.blt .len (.cons (.var 0) .nil)) (.int 0)) (.one (.not (.val (.isi (.idx (.var 0) (.int 0)) .str)))))) (.cons (.ret (.bl false)) .nil) .nil) (.cons (.par [1, 2] (.cons (.idx (.var 0) (.int 0)) (.cons (.sl (.var 0) (.int 1) .nope) .nil))) stepT) := rfl
  rw [split]
  have no : evt (mkSg tk (calIsStep tk) cstIsStep ns) (.or (.not (.val (.isi (.var 0) .tuple))) (.or (.cmp .Eq (.blt .len (.cons (.var 0) .nil)) (.int 0)) (.one (.not (.val (.isi (.idx (.var 0) (.int 0)) .str)))))) [.d d, .un, .un] τ = some (true, τ) → isStepD d = false → evB (mkSg tk (calIsStep tk) cstIsStep ns) (.cons (.ife (.or (.not (.val (.isi (.var 0) .tuple))) (.or (.cmp .Eq (.blt .len (.cons (.var 0) .nil)) (.int 0)) (.one (.not (.val (.isi (.idx (.var 0) (.int 0)) .str)))))) (.cons (.ret (.bl false)) .nil) .nil) (.cons (.par [1, 2] (.cons (.idx (.var 0) (.int 0)) (.cons (.sl (.var 0) (.int 1) .nope) .nil))) stepT)) [.d d, .un, .un] τ = some (.rt (.bl (isStepD d)) τ) := fun h q => by
    rw [q]
    exact evB_rt (evS_t h (evB_rt (evS_ret (by rw [ev]))))
  cases d with
  | tup xs =>
    cases xs with
    | nil => exact no (by simp [evB, evS, ev, evs, evt, evp, evi, binD, cmpD, bD, mD, neD, eqD, truD, ixD, inD, inB, slD, lenD, intD, maxD, minD, addD, subD, negD, joinD, joinS, txsO, lowerD, upperD, startsD, endsD, stripD, with1, ordD, mulD, modD, fdivD, powD, intO, Out.then, bindT, setAll, itemsD, rangeD, runF, start', mkSg, mkSgG, opD, small62, wipeE, compL, forL, List.replicate, tyIs, tyIs]) rfl
    | cons x rest =>
      cases x with
      | str w =>
        obtain ⟨hl, hb⟩ := bnd_tup hd
        simp only [List.length_cons] at hl
        have hs := sl1 (show rest.length ≤ 4000 by omega)
        have hz : ¬ ((rest.length : Int) + 1 = 0) := by omega
        have hmm : tk = false ∨ isMap rest = false := by
          cases tk with
          | false => exact .inl rfl
          | true => exact .inr (hm rfl _ _ rfl)
        refine (evB_nx (ρ1 := [.d (.tup (.str w :: rest)), .un, .un]) (τ1 := τ) (evS_f (τ1 := τ) (by simp [evB, evS, ev, evs, evt, evp, evi, binD, cmpD, bD, mD, neD, eqD, truD, ixD, inD, inB, slD, lenD, intD, maxD, minD, addD, subD, negD, joinD, joinS, txsO, lowerD, upperD, startsD, endsD, stripD, with1, ordD, mulD, modD, fdivD, powD, intO, Out.then, bindT, setAll, itemsD, rangeD, runF, start', mkSg, mkSgG, opD, small62, wipeE, compL, forL, List.replicate, tyIs, tyIs, hz]) evB_nil0)).trans ?_
        refine (evB_nx (ρ1 := [.d (.tup (.str w :: rest)), .d (.str w), .d (.tup rest)]) (τ1 := τ) (by simp [evB, evS, ev, evs, evt, evp, evi, binD, cmpD, bD, mD, neD, eqD, truD, ixD, inD, inB, slD, lenD, intD, maxD, minD, addD, subD, negD, joinD, joinS, txsO, lowerD, upperD, startsD, endsD, stripD, with1, ordD, mulD, modD, fdivD, powD, intO, Out.then, bindT, setAll, itemsD, rangeD, runF, start', mkSg, mkSgG, opD, small62, wipeE, compL, forL, List.replicate, tyIs, okT, hs, hmm])).trans ?_
        exact step_go tk ns w rest (by omega) (fun x hx => hb x (List.mem_cons_of_mem _ hx)) _ τ
      | non => exact no (by simp [evB, evS, ev, evs, evt, evp, evi, binD, cmpD, bD, mD, neD, eqD, truD, ixD, inD, inB, slD, lenD, intD, maxD, minD, addD, subD, negD, joinD, joinS, txsO, lowerD, upperD, startsD, endsD, stripD, with1, ordD, mulD, modD, fdivD, powD, intO, Out.then, bindT, setAll, itemsD, rangeD, runF, start', mkSg, mkSgG, opD, small62, wipeE, compL, forL, List.replicate, tyIs, tyIs]) rfl
      | bl b => exact no (by simp [evB, evS, ev, evs, evt, evp, evi, binD, cmpD, bD, mD, neD, eqD, truD, ixD, inD, inB, slD, lenD, intD, maxD, minD, addD, subD, negD, joinD, joinS, txsO, lowerD, upperD, startsD, endsD, stripD, with1, ordD, mulD, modD, fdivD, powD, intO, Out.then, bindT, setAll, itemsD, rangeD, runF, start', mkSg, mkSgG, opD, small62, wipeE, compL, forL, List.replicate, tyIs, tyIs]) rfl
      | int i => exact no (by simp [evB, evS, ev, evs, evt, evp, evi, binD, cmpD, bD, mD, neD, eqD, truD, ixD, inD, inB, slD, lenD, intD, maxD, minD, addD, subD, negD, joinD, joinS, txsO, lowerD, upperD, startsD, endsD, stripD, with1, ordD, mulD, modD, fdivD, powD, intO, Out.then, bindT, setAll, itemsD, rangeD, runF, start', mkSg, mkSgG, opD, small62, wipeE, compL, forL, List.replicate, tyIs, tyIs]) rfl
      | tup ys => exact no (by simp [evB, evS, ev, evs, evt, evp, evi, binD, cmpD, bD, mD, neD, eqD, truD, ixD, inD, inB, slD, lenD, intD, maxD, minD, addD, subD, negD, joinD, joinS, txsO, lowerD, upperD, startsD, endsD, stripD, with1, ordD, mulD, modD, fdivD, powD, intO, Out.then, bindT, setAll, itemsD, rangeD, runF, start', mkSg, mkSgG, opD, small62, wipeE, compL, forL, List.replicate, tyIs, tyIs]) rfl
      | lst ys => exact no (by simp [evB, evS, ev, evs, evt, evp, evi, binD, cmpD, bD, mD, neD, eqD, truD, ixD, inD, inB, slD, lenD, intD, maxD, minD, addD, subD, negD, joinD, joinS, txsO, lowerD, upperD, startsD, endsD, stripD, with1, ordD, mulD, modD, fdivD, powD, intO, Out.then, bindT, setAll, itemsD, rangeD, runF, start', mkSg, mkSgG, opD, small62, wipeE, compL, forL, List.replicate, tyIs, tyIs]) rfl
  | non => exact no (by simp [evB, evS, ev, evs, evt, evp, evi, binD, cmpD, bD, mD, neD, eqD, truD, ixD, inD, inB, slD, lenD, intD, maxD, minD, addD, subD, negD, joinD, joinS, txsO, lowerD, upperD, startsD, endsD, stripD, with1, ordD, mulD, modD, fdivD, powD, intO, Out.then, bindT, setAll, itemsD, rangeD, runF, start', mkSg, mkSgG, opD, small62, wipeE, compL, forL, List.replicate, tyIs, tyIs]) rfl
  | bl b => exact no (by simp [evB, evS, ev, evs, evt, evp, evi, binD, cmpD, bD, mD, neD, eqD, truD, ixD, inD, inB, slD, lenD, intD, maxD, minD, addD, subD, negD, joinD, joinS, txsO, lowerD, upperD, startsD, endsD, stripD, with1, ordD, mulD, modD, fdivD, powD, intO, Out.then, bindT, setAll, itemsD, rangeD, runF, start', mkSg, mkSgG, opD, small62, wipeE, compL, forL, List.replicate, tyIs, tyIs]) rfl
  | int i => exact no (by simp [evB, evS, ev, evs, evt, evp, evi, binD, cmpD, bD, mD, neD, eqD, truD, ixD, inD, inB, slD, lenD, intD, maxD, minD, addD, subD, negD, joinD, joinS, txsO, lowerD, upperD, startsD, endsD, stripD, with1, ordD, mulD, modD, fdivD, powD, intO, Out.then, bindT, setAll, itemsD, rangeD, runF, start', mkSg, mkSgG, opD, small62, wipeE, compL, forL, List.replicate, tyIs, tyIs]) rfl
  | str s => exact no (by simp [evB, evS, ev, evs, evt, evp, evi, binD, cmpD, bD, mD, neD, eqD, truD, ixD, inD, inB, slD, lenD, intD, maxD, minD, addD, subD, negD, joinD, joinS, txsO, lowerD, upperD, startsD, endsD, stripD, with1, ordD, mulD, modD, fdivD, powD, intO, Out.then, bindT, setAll, itemsD, rangeD, runF, start', mkSg, mkSgG, opD, small62, wipeE, compL, forL, List.replicate, tyIs, tyIs]) rfl
  | lst xs => exact no (by simp [evB, evS, ev, evs, evt, evp, evi, binD, cmpD, bD, mD, neD, eqD, truD, ixD, inD, inB, slD, lenD, intD, maxD, minD, addD, subD, negD, joinD, joinS, txsO, lowerD, upperD, startsD, endsD, stripD, with1, ordD, mulD, modD, fdivD, powD, intO, Out.then, bindT, setAll, itemsD, rangeD, runF, start', mkSg, mkSgG, opD, small62, wipeE, compL, forL, List.replicate, tyIs, tyIs]) rfl
/-! ### is_row -/
noncomputable def GIsRow (tk : Bool) : GF := Grun tk 2 false 1 ir_is_row [⟨"is_step", false, 1, GIsStep tk⟩] [cMost]
theorem isrow_ok (tk : Bool) (ns : List Int) (d : D) (hd : bnd d = true) (hm : tk = true → ∀ xs, d = .tup xs → ∀ x ∈ xs, ∀ w rest, x = .tup (w :: rest) → isMap rest = false) (τ : TS) : GIsRow tk ns [d] τ = some (.bl (isRowD d), τ) := by
  refine Grun_in rfl ?_
  show evB _ ir_is_row [.d d, .un] τ = _
  unfold ir_is_row
  refine evB_rt (evS_ret ?_)
  cases d with
  | tup xs =>
    obtain ⟨hl, hb⟩ := bnd_tup hd
    refine ev_and0 (c := true) (by rw [ev, ev_var rfl]; rfl) (fun _ => ?_) fun q => by cases q
    refine ev_and0 (c := decide (xs.length ≤ 3)) (ev_cmp0 (len_tup0 (ev_var rfl)) (y := .int 3) rfl (by simp [cmpD, leD, ordD]; omega)) (fun h => ?_) fun h => ?_
    · have hc : compL (cbody (mkSg tk [⟨"is_step", false, 1, GIsStep tk⟩] [cMost] ns) (.call 0 (.cons (.var 1) .nil)) (.nm 1) .yes [1] [.d (.tup xs), .un]) xs τ = some (xs.map fun x => D.bl (isStepD x), τ) := by
        have := compL_map (f := cbody (mkSg tk [⟨"is_step", false, 1, GIsStep tk⟩] [cMost] ns) (.call 0 (.cons (.var 1) .nil)) (.nm 1) .yes [1] [.d (.tup xs), .un]) (g := id) (h := fun x => D.bl (isStepD x)) (τ := τ) (l := xs) fun x hx => by
          unfold cbody
          simp only [wipeE, bindT, Option.bind_some, evt, if_true, List.set, id]
          rw [ev_call0 (evs_cons (ev_var rfl) evs_nil) (show (mkSg tk [⟨"is_step", false, 1, GIsStep tk⟩] [cMost] ns).G 0 [x] τ = _ from isstep_ok tk ns x (hb x hx) (fun ht w rest he => hm ht xs rfl x hx w rest he) τ)]
          rfl
        rw [List.map_id] at this
        exact this
      refine ev_one0 ?_
      rw [ev, evs_cons (ev_comp (evi_data (ev_var rfl) rfl) hc (sl1 (by rw [List.length_map]; omega))) evs_nil]
      simp only [Option.bind_some, bD, allD]
      have e := bools_map (xs.map isStepD)
      rw [List.map_map] at e
      have e3 : (xs.map fun x => D.bl (isStepD x)) = xs.map (D.bl ∘ isStepD) := rfl
      rw [e3, e]
      simp only [Option.map_some, isRowD, h, Bool.true_and, List.all_map]
      rfl
    · rw [isRowD, h]; rfl
  | non => simp [evB, evS, ev, evs, evt, evp, evi, binD, cmpD, bD, mD, neD, eqD, truD, ixD, inD, inB, slD, lenD, intD, maxD, minD, addD, subD, negD, joinD, joinS, txsO, lowerD, upperD, startsD, endsD, stripD, with1, ordD, mulD, modD, fdivD, powD, intO, Out.then, bindT, setAll, itemsD, rangeD, runF, start', mkSg, mkSgG, opD, small62, wipeE, compL, forL, List.replicate, tyIs, tyIs, isRowD]
  | bl b => simp [evB, evS, ev, evs, evt, evp, evi, binD, cmpD, bD, mD, neD, eqD, truD, ixD, inD, inB, slD, lenD, intD, maxD, minD, addD, subD, negD, joinD, joinS, txsO, lowerD, upperD, startsD, endsD, stripD, with1, ordD, mulD, modD, fdivD, powD, intO, Out.then, bindT, setAll, itemsD, rangeD, runF, start', mkSg, mkSgG, opD, small62, wipeE, compL, forL, List.replicate, tyIs, tyIs, isRowD]
  | int i => simp [evB, evS, ev, evs, evt, evp, evi, binD, cmpD, bD, mD, neD, eqD, truD, ixD, inD, inB, slD, lenD, intD, maxD, minD, addD, subD, negD, joinD, joinS, txsO, lowerD, upperD, startsD, endsD, stripD, with1, ordD, mulD, modD, fdivD, powD, intO, Out.then, bindT, setAll, itemsD, rangeD, runF, start', mkSg, mkSgG, opD, small62, wipeE, compL, forL, List.replicate, tyIs, tyIs, isRowD]
  | str s => simp [evB, evS, ev, evs, evt, evp, evi, binD, cmpD, bD, mD, neD, eqD, truD, ixD, inD, inB, slD, lenD, intD, maxD, minD, addD, subD, negD, joinD, joinS, txsO, lowerD, upperD, startsD, endsD, stripD, with1, ordD, mulD, modD, fdivD, powD, intO, Out.then, bindT, setAll, itemsD, rangeD, runF, start', mkSg, mkSgG, opD, small62, wipeE, compL, forL, List.replicate, tyIs, tyIs, isRowD]
  | lst xs => simp [evB, evS, ev, evs, evt, evp, evi, binD, cmpD, bD, mD, neD, eqD, truD, ixD, inD, inB, slD, lenD, intD, maxD, minD, addD, subD, negD, joinD, joinS, txsO, lowerD, upperD, startsD, endsD, stripD, with1, ordD, mulD, modD, fdivD, powD, intO, Out.then, bindT, setAll, itemsD, rangeD, runF, start', mkSg, mkSgG, opD, small62, wipeE, compL, forL, List.replicate, tyIs, tyIs, isRowD]
end PD

set_option Elab.async false
set_option linter.all false
set_option maxRecDepth 100000
set_option maxHeartbeats 8000000
/-! Arbitrary values that the laws draw: _law_any, _law_spoilt. -/
namespace PD
open PySem L2
def ir_law_any : Ss := (.cons (.set 2 (.callT 0 0 (.cons (.int 13) .nil))) (.cons (.ife (.and (.cmp .Lt (.var 2) (.int 4)) (.one (.cmp .Gt (.var 1) (.int 0)))) (.cons (.set 3 (.comp (.callT 1 0 (.cons (.bin .Sub (.var 1) (.int 1)) .nil)) (.nm 4) (.rng1 (.callT 0 0 (.cons (.int 4) .nil))) .yes [4])) (.cons (.ret (.idx (.lst (.cons (.var 3) (.cons (.blt .tuple (.cons (.var 3) .nil)) (.cons (.blt .tuple (.cons (.var 3) .nil)) (.cons (.blt .tuple (.cons (.var 3) .nil)) .nil))))) (.var 2))) .nil)) .nil) (.cons (.ife (.cmp .Lt (.var 2) (.int 8)) (.cons (.ret (.idx (.lst (.cons (.bin .Sub (.callT 0 0 (.cons (.int 12) .nil)) (.int 2)) (.cons (.callT 0 0 (.cons (.bin .Pow (.int 10) (.int 12)) .nil)) (.cons (.int 0) (.cons (.int 3) .nil))))) (.blt .max (.cons (.int 0) (.cons (.bin .Sub (.var 2) (.int 4)) .nil))))) .nil) .nil) (.cons (.set 3 (.lst (.cons (.str []) (.cons (.str [32]) (.cons (.str [97]) (.cons (.str [116, 114, 105, 109]) (.cons (.str [97, 98]) (.cons (.str [115, 109, 97, 108, 108]) (.cons (.str [102, 105, 114, 115, 116, 32, 50]) .nil))))))))) (.cons (.ret (.idx (.lst (.cons (.bl true) (.cons (.bl false) (.cons .non (.cons (.idx (.var 3) (.callT 0 0 (.cons (.int 7) .nil))) (.cons (.tup (.cons (.int 1) (.cons (.int 2) .nil))) .nil)))))) (.bin .Sub (.var 2) (.int 8)))) .nil)))))
abbrev spS1 : S := (.ife (.and (.val (.isiT (.var 1) [.tuple, .list])) (.and (.cmp .Gt (.blt .len (.cons (.var 1) .nil)) (.int 0)) (.one (.cmp .Gt (.callT 0 0 (.cons (.int 7) .nil)) (.int 0))))) (.cons (.set 2 (.callT 0 0 (.cons (.blt .len (.cons (.var 1) .nil)) .nil))) (.cons (.setO 3 (.blt .list (.cons (.var 1) .nil))) (.cons (.set 4 (.callT 0 0 (.cons (.int 12) .nil))) (.cons (.ife (.cmp .Lt (.var 4) (.int 8)) (.cons (.lset 3 (.var 2) (.callT 1 0 (.cons (.oix 3 (.var 2)) .nil))) .nil) (.cons (.ife (.cmp .Eq (.var 4) (.int 8)) (.cons (.lpop 3 (.var 2)) .nil) (.cons (.ife (.cmp .Eq (.var 4) (.int 9)) (.cons (.lins 3 (.var 2) (.oix 3 (.callT 0 0 (.cons (.olen 3) .nil)))) .nil) (.cons (.ife (.cmp .Eq (.var 4) (.int 10)) (.frz 3 (.cons (.setO 3 (.rev (.var 3))) .nil)) (.cons (.lins 3 (.var 2) (.callT 2 0 (.cons (.int 1) .nil))) .nil)) .nil)) .nil)) .nil)) (.frz 3 (.cons (.ret (.ife (.val (.isi (.var 1) .tuple)) (.blt .tuple (.cons (.var 3) .nil)) (.var 3))) .nil)))))) .nil)
abbrev spS2 : S := (.ife (.and (.val (.call 3 (.cons (.var 1) .nil))) (.one (.cmp .Gt (.callT 0 0 (.cons (.int 6) .nil)) (.int 0)))) (.cons (.ret (.bin .Add (.var 1) (.idx (.lst (.cons (.int 1) (.cons (.neg (.int 1)) (.cons (.int 2) (.cons (.neg (.int 2)) (.cons (.int 9) (.cons (.int 1000) .nil))))))) (.callT 0 0 (.cons (.int 6) .nil))))) .nil) .nil)
abbrev spS3 : S := (.ife (.and (.val (.isi (.var 1) .str)) (.one (.cmp .Gt (.callT 0 0 (.cons (.int 3) .nil)) (.int 0)))) (.cons (.set 5 (.callT 0 0 (.cons (.bin .Add (.blt .len (.cons (.var 1) .nil)) (.int 1)) .nil))) (.cons (.ret (.bin .Add (.bin .Add (.sl (.var 1) .nope (.var 5)) (.idx (.lst (.cons (.str [32]) (.cons (.str [122]) (.cons (.str [65]) (.cons (.str [124]) (.cons (.str [97, 98, 99, 100, 101, 102, 103, 104]) (.cons (.str []) .nil))))))) (.callT 0 0 (.cons (.int 6) .nil)))) (.sl (.var 1) (.var 5) .nope))) .nil)) .nil)
abbrev spS4 : S := (.ife (.and (.val (.isiT (.var 1) [.tuple, .list])) (.one (.cmp .Eq (.callT 0 0 (.cons (.int 2) .nil)) (.int 0)))) (.cons (.ret (.ife (.val (.isi (.var 1) .tuple)) (.blt .list (.cons (.var 1) .nil)) (.blt .tuple (.cons (.var 1) .nil)))) .nil) .nil)
abbrev spS5 : S := (.ret (.callT 2 0 (.cons (.int 2) .nil)))
def ir_law_spoilt : Ss := .cons spS1 (.cons spS2 (.cons spS3 (.cons spS4 (.cons spS5 .nil))))
def ir_law_whole : Ss := (.cons (.ret (.and (.isi (.var 0) .int) (.one (.not (.isi (.var 0) .bool))))) .nil)
mutual
/-- texts and lists of at most N, at every depth -/
def bd (N : Nat) : D → Bool
  | .str s => decide (s.length ≤ N)
  | .tup xs => decide (xs.length ≤ N) && bds N xs
  | .lst xs => decide (xs.length ≤ N) && bds N xs
  | _ => true
def bds (N : Nat) : List D → Bool
  | [] => true
  | x :: xs => bd N x && bds N xs
end
theorem bds_iff {N : Nat} : ∀ {xs : List D}, bds N xs = true ↔ ∀ x ∈ xs, bd N x = true
  | [] => by simp [bds]
  | x :: xs => by rw [bds, Bool.and_eq_true, bds_iff]; simp
theorem bd_str {N : Nat} {s : List Nat} : bd N (.str s) = true ↔ s.length ≤ N := by simp [bd]
theorem bd_tup {N : Nat} {xs : List D} : bd N (.tup xs) = true ↔ xs.length ≤ N ∧ ∀ x ∈ xs, bd N x = true := by
  simp only [bd, Bool.and_eq_true, decide_eq_true_eq, bds_iff]
theorem bd_lst {N : Nat} {xs : List D} : bd N (.lst xs) = true ↔ xs.length ≤ N ∧ ∀ x ∈ xs, bd N x = true := by
  simp only [bd, Bool.and_eq_true, decide_eq_true_eq, bds_iff]
mutual
theorem bd_mono {N M : Nat} (h : N ≤ M) : ∀ (d : D), bd N d = true → bd M d = true
  | .non, _ => rfl
  | .bl _, _ => rfl
  | .int _, _ => rfl
  | .str s, q => by rw [bd_str] at q ⊢; omega
  | .tup xs, q => by
    simp only [bd, Bool.and_eq_true, decide_eq_true_eq] at q ⊢
    exact ⟨by omega, bds_mono h xs q.2⟩
  | .lst xs, q => by
    simp only [bd, Bool.and_eq_true, decide_eq_true_eq] at q ⊢
    exact ⟨by omega, bds_mono h xs q.2⟩
theorem bds_mono {N M : Nat} (h : N ≤ M) : ∀ (xs : List D), bds N xs = true → bds M xs = true
  | [], _ => rfl
  | x :: xs, q => by
    simp only [bds, Bool.and_eq_true] at q ⊢
    exact ⟨bd_mono h x q.1, bds_mono h xs q.2⟩
end
mutual
theorem bd_bnd : ∀ (d : D), bd 1000 d = true → bnd d = true
  | .non, _ => rfl
  | .bl _, _ => rfl
  | .int _, _ => rfl
  | .str s, q => q
  | .tup xs, q => by
    simp only [bd, bnd, Bool.and_eq_true, decide_eq_true_eq] at q ⊢
    exact ⟨q.1, bds_bnds xs q.2⟩
  | .lst xs, q => by
    simp only [bd, bnd, Bool.and_eq_true, decide_eq_true_eq] at q ⊢
    exact ⟨q.1, bds_bnds xs q.2⟩
theorem bds_bnds : ∀ (xs : List D), bds 1000 xs = true → bnds xs = true
  | [], _ => rfl
  | x :: xs, q => by
    simp only [bds, bnds, Bool.and_eq_true] at q ⊢
    exact ⟨bd_bnd x q.1, bds_bnds xs q.2⟩
end
/-! ### _law_any -/
noncomputable def GAny (tk : Bool) : Nat → GF
  | 0 => fun _ _ _ => none
  | n + 1 => Grun tk 5 true 1 ir_law_any [cDraw tk, ⟨"_law_any", true, 1, GAny tk n⟩] []
/-- a comprehension that draws -/
theorem compL_draw {f : D → TS → Option (Option D × TS)} {Ok : D → Prop} (h : ∀ x τ, ∃ y τ', f x τ = some (some y, τ') ∧ Ok y) : ∀ (xs : List D) (τ : TS), ∃ ys τ', compL f xs τ = some (ys, τ') ∧ ys.length = xs.length ∧ ∀ y ∈ ys, Ok y
  | [], τ => ⟨[], τ, rfl, rfl, by simp⟩
  | x :: xs, τ => by
    obtain ⟨y, τ1, e1, h1⟩ := h x τ
    obtain ⟨ys, τ2, e2, h2, h3⟩ := compL_draw h xs τ1
    refine ⟨y :: ys, τ2, ?_, by simp [h2], fun z hz => ?_⟩
    · rw [compL, e1]
      simp only [Option.bind_some, e2]
    · rcases List.mem_cons.mp hz with q | q
      · rw [q]; exact h1
      · exact h3 z q
theorem draw_big (tk : Bool) (ns : List Int) (τ : TS) : ∃ (r : Int) (τ' : TS), GDraw tk ns [.int 1000000000000] τ = some (.int r, τ') := by
  obtain ⟨r, τ', e, _⟩ := draw_ok tk ns 1000000000000 (by omega) (by
    have : (1000000000000 : Int).natAbs.log2 < 100 := (Nat.log2_lt (by decide)).mpr (by decide)
    omega) τ
  exact ⟨r, τ', e⟩
theorem any_ok8 (ns : List Int) : ∀ (n deep : Nat), deep < n → deep ≤ 100 → ∀ τ, ∃ d τ', GAny false n ns [.int (deep : Int)] τ = some (d, τ') ∧ bd 8 d = true ∧ dep d ≤ deep + 1 := by
  intro n
  induction n with
  | zero => intro deep h; omega
  | succ n ih =>
    intro deep hdn hdeep τ
    obtain ⟨r, τ1, e1, h1⟩ := draw_int false ns 13 13 rfl (by omega) (by omega) τ
    have hrun : ∀ d τ', evB (mkSg false [cDraw false, ⟨"_law_any", true, 1, GAny false n⟩] [] ns) (match ir_law_any with | .cons _ t => t | t => t) [.tape, .d (.int (deep : Int)), .d (.int (r : Int)), .un, .un] τ1 = some (.rt d τ') → GAny false (n + 1) ns [.int (deep : Int)] τ = some (d, τ') := fun d τ' h => by
      refine Grun_in rfl ?_
      show evB _ ir_law_any [.tape, .d (.int (deep : Int)), .un, .un, .un] τ = _
      unfold ir_law_any
      exact (evB_nx (evS_set (ev_callT rfl (evs_cons ev_int evs_nil) (show GDraw false ns [.int 13] τ = _ from e1)))).trans h
    unfold ir_law_any at hrun
    simp only at hrun
    have z10 : ∀ k : Nat, k ≤ 8 → k ≤ sizeLine := fun k h => sl1 (by omega)
    by_cases hA : r < 4 ∧ 0 < deep
    · obtain ⟨h4, h0⟩ := hA
      obtain ⟨m, τ2, e2, h2⟩ := draw_int false ns 4 4 rfl (by omega) (by omega) τ1
      have hcb : ∀ x τ, ∃ y τ', cbody (mkSg false [cDraw false, ⟨"_law_any", true, 1, GAny false n⟩] [] ns) (.callT 1 0 (.cons (.bin .Sub (.var 1) (.int 1)) .nil)) (.nm 4) .yes [4] [.tape, .d (.int (deep : Int)), .d (.int (r : Int)), .un, .un] x τ = some (some y, τ') ∧ (bd 8 y = true ∧ dep y ≤ deep) := by
        intro x τ
        obtain ⟨d, τ', e, q1, q2⟩ := ih (deep - 1) (by omega) (by omega) τ
        refine ⟨d, τ', ?_, q1, by omega⟩
        unfold cbody
        simp only [wipeE, bindT, Option.bind_some, evt, if_true, List.set]
        have ed : ((deep : Int) - 1) = ((deep - 1 : Nat) : Int) := by omega
        rw [ev_callT rfl (evs_cons (d := .int ((deep - 1 : Nat) : Int)) (by
          rw [ev, ev_var rfl]
          simp only [Option.bind_some, ev_int, binD, subD, Option.map_some, ed]) evs_nil) (show GAny false n ns [.int ((deep - 1 : Nat) : Int)] τ = _ from e)]
        rfl
      obtain ⟨ys, τ3, e3, l3, q3⟩ := compL_draw hcb (rangeD 0 m 1) τ2
      have hl : ys.length ≤ 8 := by rw [l3]; simp [rangeD]; omega
      have hc := ev_comp (evi_rng1 (P := mkSg false [cDraw false, ⟨"_law_any", true, 1, GAny false n⟩] [] ns) (a := .callT 0 0 (.cons (.int 4) .nil)) (ρ := [.tape, .d (.int (deep : Int)), .d (.int (r : Int)), .un, .un]) (k := m) (τ := τ1) (τ1 := τ2) (ev_callT rfl (evs_cons ev_int evs_nil) e2) (by omega)) e3 (z10 _ hl)
      have hb : bd 8 (.lst ys) = true := bd_lst.mpr ⟨hl, fun y hy => (q3 y hy).1⟩
      have hb2 : bd 8 (.tup ys) = true := bd_tup.mpr ⟨hl, fun y hy => (q3 y hy).1⟩
      have hdp : deps ys ≤ deep := by
        have : ∀ l : List D, (∀ y ∈ l, dep y ≤ deep) → deps l ≤ deep := fun l => by
          induction l with
          | nil => simp
          | cons x l ih => intro h; rw [deps_cons]; have h1 := h x List.mem_cons_self; have h2 := ih fun y hy => h y (List.mem_cons_of_mem _ hy); omega
        exact this ys fun y hy => (q3 y hy).2
      have hok : okT false ys = true := by simp [okT, z10 _ hl]
      have hz4 : (4 : Nat) ≤ sizeLine := z10 4 (by omega)
      have fin : ∀ d, atI [D.lst ys, .tup ys, .tup ys, .tup ys] (r : Int) = some d → bd 8 d = true → dep d ≤ deep + 1 → ∃ d τ', GAny false (n + 1) ns [.int (deep : Int)] τ = some (d, τ') ∧ bd 8 d = true ∧ dep d ≤ deep + 1 := fun d hd q1 q2 => by
        refine ⟨d, τ3, hrun d τ3 (evB_rt (evS_t (τ1 := τ1) ?_ ?_)), q1, q2⟩
        · have a1 : (r : Int) < 4 := by omega
          have a2 : (0 : Int) < (deep : Int) := by omega
          simp [evB, evS, ev, evs, evt, evp, evi, binD, cmpD, bD, mD, neD, eqD, truD, ixD, inD, inB, slD, lenD, intD, maxD, minD, addD, subD, negD, joinD, joinS, txsO, lowerD, upperD, startsD, endsD, stripD, with1, ordD, mulD, modD, fdivD, powD, intO, Out.then, bindT, setAll, itemsD, rangeD, runF, start', mkSg, mkSgG, opD, small62, wipeE, compL, forL, List.replicate, tyIs, a1, h0]
        · refine (evB_nx (evS_set hc)).trans (evB_rt (evS_ret ?_))
          simp only [List.set]
          simp [evB, evS, ev, evs, evt, evp, evi, binD, cmpD, bD, mD, neD, eqD, truD, ixD, inD, inB, slD, lenD, intD, maxD, minD, addD, subD, negD, joinD, joinS, txsO, lowerD, upperD, startsD, endsD, stripD, with1, ordD, mulD, modD, fdivD, powD, intO, Out.then, bindT, setAll, itemsD, rangeD, runF, start', mkSg, mkSgG, opD, small62, wipeE, compL, forL, List.replicate, tyIs, tupleD, hok, hz4, hd]
      have h4' : r = 0 ∨ r = 1 ∨ r = 2 ∨ r = 3 := by omega
      rcases h4' with rfl | rfl | rfl | rfl
      · exact fin (.lst ys) rfl hb (by rw [dep_lst]; omega)
      · exact fin (.tup ys) rfl hb2 (by rw [dep_tup]; omega)
      · exact fin (.tup ys) rfl hb2 (by rw [dep_tup]; omega)
      · exact fin (.tup ys) rfl hb2 (by rw [dep_tup]; omega)
    · have hskip : evt (mkSg false [cDraw false, ⟨"_law_any", true, 1, GAny false n⟩] [] ns) (.and (.cmp .Lt (.var 2) (.int 4)) (.one (.cmp .Gt (.var 1) (.int 0)))) [.tape, .d (.int (deep : Int)), .d (.int (r : Int)), .un, .un] τ1 = some (false, τ1) := by
        by_cases h4 : (r : Int) < 4
        · have h0 : ¬ (0 : Int) < (deep : Int) := by omega
          simp [evB, evS, ev, evs, evt, evp, evi, binD, cmpD, bD, mD, neD, eqD, truD, ixD, inD, inB, slD, lenD, intD, maxD, minD, addD, subD, negD, joinD, joinS, txsO, lowerD, upperD, startsD, endsD, stripD, with1, ordD, mulD, modD, fdivD, powD, intO, Out.then, bindT, setAll, itemsD, rangeD, runF, start', mkSg, mkSgG, opD, small62, wipeE, compL, forL, List.replicate, tyIs, ltD, gtD, h4]
          omega
        · simp [evB, evS, ev, evs, evt, evp, evi, binD, cmpD, bD, mD, neD, eqD, truD, ixD, inD, inB, slD, lenD, intD, maxD, minD, addD, subD, negD, joinD, joinS, txsO, lowerD, upperD, startsD, endsD, stripD, with1, ordD, mulD, modD, fdivD, powD, intO, Out.then, bindT, setAll, itemsD, rangeD, runF, start', mkSg, mkSgG, opD, small62, wipeE, compL, forL, List.replicate, tyIs, ltD, gtD, h4]
      by_cases h8 : r < 8
      · obtain ⟨a, τ2, e2, h2⟩ := draw_int false ns 12 12 rfl (by omega) (by omega) τ1
        obtain ⟨b, τ3, e3⟩ := draw_big false ns τ2
        have hpow : (10 : Int) ^ (12 : Nat) = 1000000000000 := by decide
        have fin : ∀ d, atI [D.int ((a : Int) - 2), .int b, .int 0, .int 3] (if (r : Int) - 4 > 0 then (r : Int) - 4 else 0) = some d → bd 8 d = true → dep d ≤ deep + 1 → ∃ d τ', GAny false (n + 1) ns [.int (deep : Int)] τ = some (d, τ') ∧ bd 8 d = true ∧ dep d ≤ deep + 1 := fun d hd q1 q2 => by
          have a1 : (r : Int) < 8 := by omega
          refine ⟨d, τ3, hrun d τ3 ((evB_nx (evS_f hskip evB_nil0)).trans (evB_rt (evS_t (τ1 := τ1) (by simp [evB, evS, ev, evs, evt, evp, evi, binD, cmpD, bD, mD, neD, eqD, truD, ixD, inD, inB, slD, lenD, intD, maxD, minD, addD, subD, negD, joinD, joinS, txsO, lowerD, upperD, startsD, endsD, stripD, with1, ordD, mulD, modD, fdivD, powD, intO, Out.then, bindT, setAll, itemsD, rangeD, runF, start', mkSg, mkSgG, opD, small62, wipeE, compL, forL, List.replicate, tyIs, ltD, a1]) (evB_rt (evS_ret ?_))))), q1, q2⟩
          simp [evB, evS, ev, evs, evt, evp, evi, binD, cmpD, bD, mD, neD, eqD, truD, ixD, inD, inB, slD, lenD, intD, maxD, minD, addD, subD, negD, joinD, joinS, txsO, lowerD, upperD, startsD, endsD, stripD, with1, ordD, mulD, modD, fdivD, powD, intO, Out.then, bindT, setAll, itemsD, rangeD, runF, start', mkSg, mkSgG, opD, small62, wipeE, compL, forL, List.replicate, tyIs, e2, e3, z10] at hd ⊢
          simp [hd]
        have h8' : r = 0 ∨ r = 1 ∨ r = 2 ∨ r = 3 ∨ r = 4 ∨ r = 5 ∨ r = 6 ∨ r = 7 := by omega
        rcases h8' with rfl | rfl | rfl | rfl | rfl | rfl | rfl | rfl <;> exact fin _ rfl rfl (by rw [dep_int]; omega)
      · obtain ⟨a, τ2, e2, h2⟩ := draw_int false ns 7 7 rfl (by omega) (by omega) τ1
        obtain ⟨w, hw, hm⟩ := atI_in (l := ([[], [32], [97], [116, 114, 105, 109], [97, 98], [115, 109, 97, 108, 108], [102, 105, 114, 115, 116, 32, 50]] : List (List Nat)).map D.str) (r := a) (by simpa using h2)
        have hwb : ∃ s, w = .str s ∧ s.length ≤ 8 := by
          simp only [List.mem_map, List.mem_cons, List.not_mem_nil, or_false] at hm
          obtain ⟨s, hs, rfl⟩ := hm
          refine ⟨s, rfl, ?_⟩
          rcases hs with rfl | rfl | rfl | rfl | rfl | rfl | rfl <;> decide
        obtain ⟨s, rfl, hs⟩ := hwb
        simp only [List.map_cons, List.map_nil] at hw
        have fin : ∀ d, atI [D.bl true, .bl false, .non, .str s, .tup [.int 1, .int 2]] ((r : Int) - 8) = some d → bd 8 d = true → dep d ≤ deep + 1 → ∃ d τ', GAny false (n + 1) ns [.int (deep : Int)] τ = some (d, τ') ∧ bd 8 d = true ∧ dep d ≤ deep + 1 := fun d hd q1 q2 => by
          have a1 : ¬ (r : Int) < 8 := by omega
          refine ⟨d, τ2, hrun d τ2 ((evB_nx (evS_f hskip evB_nil0)).trans ((evB_nx (evS_f (τ1 := τ1) (by simp [evB, evS, ev, evs, evt, evp, evi, binD, cmpD, bD, mD, neD, eqD, truD, ixD, inD, inB, slD, lenD, intD, maxD, minD, addD, subD, negD, joinD, joinS, txsO, lowerD, upperD, startsD, endsD, stripD, with1, ordD, mulD, modD, fdivD, powD, intO, Out.then, bindT, setAll, itemsD, rangeD, runF, start', mkSg, mkSgG, opD, small62, wipeE, compL, forL, List.replicate, tyIs, ltD, a1]) evB_nil0)).trans ?_)), q1, q2⟩
          refine (evB_nx (ρ1 := [.tape, .d (.int (deep : Int)), .d (.int (r : Int)), .d (.lst [.str [], .str [32], .str [97], .str [116, 114, 105, 109], .str [97, 98], .str [115, 109, 97, 108, 108], .str [102, 105, 114, 115, 116, 32, 50]]), .un]) (τ1 := τ1) (by simp [evB, evS, ev, evs, evt, evp, evi, binD, cmpD, bD, mD, neD, eqD, truD, ixD, inD, inB, slD, lenD, intD, maxD, minD, addD, subD, negD, joinD, joinS, txsO, lowerD, upperD, startsD, endsD, stripD, with1, ordD, mulD, modD, fdivD, powD, intO, Out.then, bindT, setAll, itemsD, rangeD, runF, start', mkSg, mkSgG, opD, small62, wipeE, compL, forL, List.replicate, tyIs, z10])).trans (evB_rt (evS_ret ?_))
          simp [evB, evS, ev, evs, evt, evp, evi, binD, cmpD, bD, mD, neD, eqD, truD, ixD, inD, inB, slD, lenD, intD, maxD, minD, addD, subD, negD, joinD, joinS, txsO, lowerD, upperD, startsD, endsD, stripD, with1, ordD, mulD, modD, fdivD, powD, intO, Out.then, bindT, setAll, itemsD, rangeD, runF, start', mkSg, mkSgG, opD, small62, wipeE, compL, forL, List.replicate, tyIs, e2, z10, hw, okT, hd]
        have h13 : r = 8 ∨ r = 9 ∨ r = 10 ∨ r = 11 ∨ r = 12 := by omega
        rcases h13 with rfl | rfl | rfl | rfl | rfl
        · exact fin (.bl true) rfl rfl (by simp)
        · exact fin (.bl false) rfl rfl (by simp)
        · exact fin .non rfl rfl (by simp)
        · exact fin (.str s) rfl (bd_str.mpr hs) (by simp)
        · exact fin (.tup [.int 1, .int 2]) rfl rfl (by simp)
theorem any_ok (ns : List Int) (n deep : Nat) (h : deep < n) (h2 : deep ≤ 100) (τ : TS) : ∃ d τ', GAny false n ns [.int (deep : Int)] τ = some (d, τ') ∧ bd 10 d = true ∧ dep d ≤ deep + 1 := by
  obtain ⟨d, τ', e, q1, q2⟩ := any_ok8 ns n deep h h2 τ
  exact ⟨d, τ', e, bd_mono (by omega) d q1, q2⟩
end PD

set_option Elab.async false
set_option linter.all false
set_option maxRecDepth 100000
set_option maxHeartbeats 8000000
/-! _law_line: a checked block with `return found.replace("'", '"')` behind it. -/
namespace PD
open PySem L2 PySem.Spec PyProof.Rows
def sub1 (a b : Nat) (l : List Nat) : List Nat := l.map fun c => if c = a then b else c
theorem replL_one (a b : Nat) : ∀ l : List Nat, PySem.StrLaws.replL [a] [b] l = sub1 a b l
  | [] => by rw [PySem.StrLaws.replL_nil]; rfl
  | c :: r => by
    by_cases h : c = a
    · subst h
      rw [PySem.StrLaws.replL_hit (by simp) (by simp)]
      show [b] ++ PySem.StrLaws.replL [c] [b] r = _
      rw [replL_one c b r]
      simp [sub1]
    · rw [PySem.StrLaws.replL_miss (by simpa using h), replL_one a b r]
      simp [sub1, h]
theorem repl_tx (t : List Nat) (a b : Nat) : Txt.replace (tx t) (tx [a]) (tx [b]) = tx (sub1 a b t) := by
  have := PySem.StrLaws.replace_list (x := tx t) (y := tx [a]) (z := tx [b]) (by rw [tx_len]; simp)
  rw [← replL_one]
  rw [← tx_cps (Txt.replace (tx t) (tx [a]) (tx [b])), this]
section
variable {nm : Nm} {P : Sg} {C : Con} {W : TW} {X : Cx}
theorem psst_imp {l : List Stmt} {t t' : L2.TS} (h : PSsT X l t) (f : ∀ D σ H, t' D σ H → t D σ H) : PSsT X l t' := fun pins s σ H D h0 I q => h pins s σ H D h0 I (f D σ H q)
theorem bt_okT (g : Good nm P C W false X) (hk : X.env.scope.kind = .function) {r : List Stmt} {tr : L2.TS} (hr : PSsT X r tr) : ∀ (b : Ss) (l : List Stmt), chkB nm X.env.scope b l = true → PSsT X (l ++ r) (fun D σ H => RdB P C W b { D with nx := tr D } σ H)
  | .nil, l, h => by
    cases l with
    | nil =>
      refine psst_imp hr ?_
      rintro D σ H ⟨F0, H0, F, ρ, τ, o, r, e, k⟩
      rw [evB] at e
      cases e
      exact k _ _ _ (Sub.rfl' F) r
    | cons _ _ => simp [chkB] at h
  | .cons s ss, l, h => by
    cases l with
    | nil => simp [chkB] at h
    | cons z l' =>
      simp only [chkB, Bool.and_eq_true] at h
      exact psst_imp (psst_cons (PST.of (s_ok g hk s z h.1)) (bt_okT g hk hr ss l' h.2)) fun D σ H q => rd_seq q
  | .frz i ss, l, h => by
    simp only [chkB] at h
    exact psst_imp (bt_okT g hk hr ss l h) fun D σ H q => rd_frz q
def tRep (C : Con) (W : TW) (i : Nat) : L2.TS := fun D σ H => ∃ F0 H0 F ρ τ t, Rel C W F0 H0 F H σ ρ τ ∧ ρ[i]? = some (.d (.str t)) ∧ t.length ≤ 4000 ∧ Cont C W D F0 H0 F (.rt (.str (sub1 39 34 t)) τ)
def chkRep (n : Str) (l : List Stmt) : Bool := match l with
  | [.Return (some (.Call (.Attribute (.Name x p1) m apos) [.Constant (.str a) j c0, .Constant (.str b) k c1] [] pos)) rp] => decide (x = n) && decide (m = "replace") && decide (a = tx [39]) && decide (b = tx [34]) && (apos.endLine == pos.line)
  | _ => false
theorem rep_ok (g : Good nm P C W false X) {i : Nat} {n : Str} {l : List Stmt} (h : chkRep n l = true) (hN : X.N[i]? = some n) (hv : Vis X.env.scope n) (hd : (n == ("__debug__" : Str)) = false) (hcd : (n == ("__classdict__" : Str)) = false) : PSsT X l (tRep C W i) := by
  unfold chkRep at h
  split at h
  · rename_i x p1 m apos a j c0 b k c1 pos rp
    simp only [Bool.and_eq_true, decide_eq_true_eq] at h
    obtain ⟨⟨⟨⟨rfl, rfl⟩, rfl⟩, rfl⟩, hline⟩ := h
    refine psst_imp (CwR.psst_one (CwR.pst_ret (CwR.pet_replC (pe_var hN hv hd hcd) (by decide) rfl rfl hline))) ?_
    rintro D σ H ⟨F0, H0, F, ρ, τ, t, r, hρ, hl, k⟩
    obtain ⟨vw, hσw, sw⟩ := r.get hρ
    obtain ⟨u, rfl, ru⟩ := sw
    cases ru
    refine ⟨_, hσw, tx t, rfl, ?_, ?_⟩
    · rw [tx_len, tx_len]
      simp only [List.length_singleton]
      omega
    · rw [repl_tx]
      exact k _ _ _ r.base r.tape (.str _)
  · cases h
end
noncomputable def outRep (i : Nat) : Out → Option (D × TS)
  | .nx ρ τ => match ρ[i]? with
    | some (.d (.str t)) => if t.length ≤ 4000 then some (.str (sub1 39 34 t), τ) else none
    | _ => none
  | _ => none
def noCell (sc : Scope) : Bool := sc.names.all fun y => match y.2 with
  | .cell => false
  | _ => true
theorem noCell_of {sc : Scope} (h : noCell sc = true) : ∀ y ∈ sc.names, y.2 ≠ .cell := by
  intro y hy
  have := List.all_eq_true.mp h y hy
  intro e
  rw [e] at this
  cases this
theorem psst_nox {X : Cx} {l : List Stmt} {t : L2.TS} (h : PSsT X.nox l t) : PSsT X l t := fun pins s σ H D h0 I hw =>
  wpAny_mono (h pins s σ H D h0 (I.wish _) hw) (fun _ _ q => q.unwish) fun _ _ z => False.elim z
def ir_line2 : Ss := (.cons (.set 1 (.idx (.var 0) (.int 0))) (.cons (.fr (.nm 2) (.data (.sl (.var 0) (.int 1) .nope)) (.cons (.set 1 (.bin .Add (.bin .Add (.var 1) (.str [32])) (.ife (.val (.isi (.var 2) .int)) (.blt .str (.cons (.var 2) .nil)) (.bin .Add (.bin .Add (.str [39]) (.var 2)) (.str [39]))))) .nil)) .nil))
noncomputable def GLine (tk : Bool) : GF := fun ns ds τ => if ds.length = 1 then (evB (mkSg tk [] [] ns) ir_line2 (start' 3 false ds) τ).bind (outRep 1) else none
theorem line_kn {Pg : Program} {w : World} {K : PySem.W.Frag} {mg : Str → Option Value} {base : Heap} {C : Con} (M : Mo C K mg) {st : Stmt} {k : Nat} (D0 : DefOk K mg "_law_line" st ["step"]) (S : FnScope ["step", "found", "part"] ["step"] (defScope st))
    (chk : chkB ⟨["step", "found", "part"], [], [], []⟩ (defScope st) ir_line2 ((defBody st).take 2) = true) (hT : chkRep "found" ((defBody st).drop 2) = true) (hv : visB (defScope st) "found" = true) (hnc : noCell (defScope st) = true) :
    Kn Pg w K mg base C (k + 1) ⟨"_law_line", false, 1, GLine C.tk⟩ := by
  obtain ⟨f, fd, Fn, hm, hb⟩ := D0
  have hG1 : ∀ ns ds τ r, GLine C.tk ns ds τ = some r → ds.length = 1 ∧ ∃ o, evB (mkSg C.tk [] [] ns) ir_line2 (start' 3 false ds) τ = some o ∧ outRep 1 o = some r := by
    intro ns ds τ r e
    unfold GLine at e
    split at e
    · rename_i h
      simp only [Option.bind_eq_some_iff] at e
      exact ⟨h, e⟩
    · cases e
  have hkp := Fn.kp
  refine ⟨f, fd, ["step"], ?_, hm, hkp, hb, fun ns ds τ r e => (hG1 ns ds τ r e).1⟩
  have hlen : ∀ vs H Q E, spD C false 1 (GLine C.tk) vs H Q E → vs.length = (["step"] : List Str).length := by
    rintro vs H Q E ⟨W, F, us, ds, τ, d, τ', rfl, h1, h2, _⟩
    exact h2.len.trans h1
  obtain ⟨oc, od, kV, doc, pm, an, cdv, ct, osl, rfl, lk, hcd⟩ := Fn.ex
  refine fn_ofT lk hcd S (noCell_of hnc) (by decide) hlen fun A outer s H vs Q E hrm hsp => ?_
  have hvl := hlen _ _ _ _ hsp
  obtain ⟨W, F, us, ds, τ, d, τ', rfl, h1, h2, h3, h4, h5, h6⟩ := hsp
  obtain ⟨_, o, hrun, hto⟩ := hG1 _ _ _ _ h5
  have g : Good (mkNm ["step", "found", "part"] [] []) (mkSg C.tk [] [] W.ns) C W false (cxOf CX0 Pg w K mg base ["step", "found", "part"] "_law_line" (defScope st) f cdv A outer s H E).nox := by
    exact good_of (k := k) M rfl rfl S.nd rfl rfl (by
      have := hrm.un
      show (A.deeper _).units + 65 < cLine
      omega) (fun _ _ => rfl) rfl rfl rfl rfl hrm (by simp) (by simp) (by simp)
  have ht := rep_ok (i := 1) g hT rfl (vis_of hv) (by decide) (by decide)
  have hb2 := bt_okT g S.kind ht ir_line2 ((defBody st).take 2) chk
  rw [List.take_append_drop] at hb2
  refine ⟨_, psst_nox hb2, F, H, F, start' 3 false ds, τ, o, start_rel (N := ["step", "found", "part"]) (tp := false) (us := vs) (by show vs.length ≤ 3; rw [hvl]; decide) h2 h3 h4, hrun, ?_⟩
  unfold outRep at hto
  cases o with
  | nx ρ τ1 =>
    simp only at hto
    split at hto
    · rename_i t q1
      split at hto
      · rename_i q2
        cases hto
        intro σ' F' H' s' r'
        exact ⟨_, _, F', ρ, _, t, r', q1, q2, fun v F2 H2 x2 t2 r2 => h6 _ _ _ x2 t2 r2⟩
      · cases hto
    · cases hto
  | bk ρ τ1 => cases hto
  | ct ρ τ1 => cases hto
  | rt d' τ1 => cases hto
end PD

set_option Elab.async false
set_option linter.all false
set_option maxRecDepth 100000
set_option maxHeartbeats 8000000
/-! Texts of rows, in plain lists. -/
namespace PD
open PySem L2
/-! ### cutting at a sign -/
def cut1 (c : Nat) : List Nat → List (List Nat)
  | [] => [[]]
  | x :: r => if x = c then [] :: cut1 c r else match cut1 c r with
    | h :: t => (x :: h) :: t
    | [] => [[x]]
theorem cut1_hit (c : Nat) (r : List Nat) : cut1 c (c :: r) = [] :: cut1 c r := by rw [cut1, if_pos rfl]
theorem cut1_cons (c : Nat) : ∀ l : List Nat, ∃ h t, cut1 c l = h :: t
  | [] => ⟨[], [], rfl⟩
  | x :: r => by
    obtain ⟨h, t, e⟩ := cut1_cons c r
    by_cases hx : x = c
    · subst hx; exact ⟨[], _, cut1_hit _ _⟩
    · exact ⟨x :: h, t, by rw [cut1, if_neg hx, e]⟩
theorem cut1_miss {c x : Nat} (hx : x ≠ c) {r h : List Nat} {t : List (List Nat)} (e : cut1 c r = h :: t) : cut1 c (x :: r) = (x :: h) :: t := by rw [cut1, if_neg hx, e]
theorem cut1_no {c : Nat} : ∀ {l : List Nat}, c ∉ l → cut1 c l = [l]
  | [], _ => rfl
  | x :: r, h => cut1_miss (fun e => h (by rw [e]; exact List.mem_cons_self)) (cut1_no fun m => h (List.mem_cons_of_mem _ m))
theorem cut1_app (c : Nat) (b : List Nat) : ∀ a : List Nat, cut1 c (a ++ c :: b) = cut1 c a ++ cut1 c b
  | [] => cut1_hit c b
  | x :: r => by
    have ih := cut1_app c b r
    by_cases hx : x = c
    · subst hx
      rw [List.cons_append, cut1_hit, cut1_hit, ih]; rfl
    · obtain ⟨h, t, e⟩ := cut1_cons c r
      rw [List.cons_append, cut1_miss hx (h := h) (t := t ++ cut1 c b) (by rw [ih, e]; rfl), cut1_miss hx e]; rfl
theorem cut1_free (c : Nat) : ∀ l : List Nat, ∀ p ∈ cut1 c l, c ∉ p
  | [], p, h => by
    have : p = [] := by simpa [cut1] using h
    rw [this]; simp
  | x :: r, p, h => by
    by_cases hx : x = c
    · subst hx
      rw [cut1_hit] at h
      rcases List.mem_cons.mp h with q | q
      · rw [q]; simp
      · exact cut1_free x r p q
    · obtain ⟨h1, t, e⟩ := cut1_cons c r
      rw [cut1_miss hx e] at h
      rcases List.mem_cons.mp h with q | q
      · rw [q]
        intro m
        rcases List.mem_cons.mp m with z | z
        · exact hx z.symm
        · exact cut1_free c r h1 (by rw [e]; exact List.mem_cons_self) z
      · exact cut1_free c r p (by rw [e]; exact List.mem_cons_of_mem _ q)
theorem join_cc (c : List Nat) (p q : List Nat) (r : List (List Nat)) : TL.joinL c (p :: q :: r) = p ++ (c ++ TL.joinL c (q :: r)) := rfl
theorem join_cut (c : Nat) : ∀ l : List Nat, TL.joinL [c] (cut1 c l) = l
  | [] => rfl
  | x :: r => by
    have ih := join_cut c r
    obtain ⟨h, t, e⟩ := cut1_cons c r
    rw [e] at ih
    by_cases hx : x = c
    · subst hx
      rw [cut1_hit, e, join_cc, ih]; rfl
    · rw [cut1_miss hx e]
      cases t with
      | nil =>
        have : h = r := ih
        rw [this]; rfl
      | cons q t =>
        rw [join_cc] at ih ⊢
        rw [List.cons_append, ih]
theorem cut_join (c : Nat) : ∀ ps : List (List Nat), ps ≠ [] → (∀ p ∈ ps, c ∉ p) → cut1 c (TL.joinL [c] ps) = ps
  | [], h, _ => absurd rfl h
  | [p], _, h => cut1_no (h p List.mem_cons_self)
  | p :: q :: r, _, h => by
    rw [join_cc]
    show cut1 c (p ++ c :: TL.joinL [c] (q :: r)) = _
    rw [cut1_app, cut1_no (h p List.mem_cons_self), cut_join c (q :: r) (by simp) fun x hx => h x (List.mem_cons_of_mem _ hx)]; rfl
theorem spl_cut (c : Nat) : ∀ (l acc : List Nat), TL.spl [c] 0 acc l = (match cut1 c l with
    | h :: t => (acc ++ h) :: t
    | [] => [acc])
  | [], acc => by rw [TL.spl_nil]; simp [cut1]
  | x :: r, acc => by
    by_cases hx : x = c
    · subst hx
      rw [TL.spl_hit (by simp [TL.pre])]
      obtain ⟨h, t, e⟩ := cut1_cons x r
      have := spl_cut x r []
      rw [e] at this
      show acc :: TL.spl [x] 0 [] r = _
      rw [this, cut1_hit, e]
      simp
    · rw [TL.spl_miss (by simp [TL.pre, hx])]
      obtain ⟨h, t, e⟩ := cut1_cons c r
      rw [spl_cut c r (acc ++ [x]), cut1_miss hx e, e]
      simp
theorem split_D1 (a : List Nat) (c : Nat) (hc : c < 256) (hl : a.length ≤ 4000) : splitD (.str a) [.str [c]] = some (.lst ((cut1 c a).map .str)) := by
  have h1 : ([c] : List Nat) ≠ [] ∧ a.length + 2 ≤ sizeLine := ⟨by simp, by rw [sizeLine_eq]; omega⟩
  show (if ([c] : List Nat) ≠ [] ∧ a.length + 2 ≤ sizeLine then some (D.lst ((Txt.split (tx a) (tx [c])).map fun s => .str s.cps.toList)) else none) = _
  rw [if_pos h1]
  have e : Txt.split (tx a) (tx [c]) = (TL.spl [c] 0 [] a).map tx := SX.split_S (by simp) (by simp [hc])
  rw [e, spl_cut]
  obtain ⟨h, t, e2⟩ := cut1_cons c a
  rw [e2]
  simp only [List.nil_append, List.map_map]
  rfl
theorem join_mem {c : Nat} {L : List Nat} : ∀ {ps : List (List Nat)}, L ∈ ps → ∃ A B, TL.joinL [c] ps = A ++ (L ++ B) ∧ (A = [] ∨ ∃ A', A = A' ++ [c]) ∧ (B = [] ∨ ∃ B', B = c :: B')
  | [p], h => by
    have : L = p := by simpa using h
    subst this
    exact ⟨[], [], by simp [TL.joinL], .inl rfl, .inl rfl⟩
  | p :: q :: r, h => by
    rcases List.mem_cons.mp h with z | z
    · subst z
      exact ⟨[], c :: TL.joinL [c] (q :: r), by rw [join_cc]; simp, .inl rfl, .inr ⟨_, rfl⟩⟩
    · obtain ⟨A, B, e, a1, b1⟩ := join_mem (c := c) z
      refine ⟨p ++ c :: A, B, by rw [join_cc, e]; simp, .inr ?_, b1⟩
      rcases a1 with rfl | ⟨A', rfl⟩
      · exact ⟨p, by simp⟩
      · exact ⟨p ++ c :: A', by simp⟩
theorem cut_mem {c : Nat} {L l : List Nat} (h : L ∈ cut1 c l) : ∃ A B, l = A ++ (L ++ B) ∧ (A = [] ∨ ∃ A', A = A' ++ [c]) ∧ (B = [] ∨ ∃ B', B = c :: B') := by
  obtain ⟨A, B, e, a, b⟩ := join_mem (c := c) h
  rw [join_cut] at e
  exact ⟨A, B, e, a, b⟩
theorem cut1_le (c : Nat) (l : List Nat) {L : List Nat} (h : L ∈ cut1 c l) : L.length ≤ l.length := by
  obtain ⟨A, B, e, _, _⟩ := cut_mem h
  rw [e]; simp; omega
theorem cut1_len (c : Nat) : ∀ l : List Nat, (cut1 c l).length ≤ l.length + 1
  | [] => by simp [cut1]
  | x :: r => by
    have ih := cut1_len c r
    by_cases hx : x = c
    · subst hx; rw [cut1_hit]; simp; omega
    · obtain ⟨h, t, e⟩ := cut1_cons c r
      rw [cut1_miss hx e]
      rw [e] at ih
      simp at ih ⊢
      omega
/-! ### valid steps -/
theorem sgL_ok {c : Nat} (h : c ∈ sgL) : c ≠ 34 ∧ c ≠ 10 ∧ c ≠ 39 ∧ c < 128 := by
  have : ∀ c ∈ sgL, c ≠ 34 ∧ c ≠ 10 ∧ c ≠ 39 ∧ c < 128 := by decide
  exact this c h
def words1 : List (List Nat) := [wTrim, wDrop, wSqueeze, wFront, wFronts, wBack, wBacks]
def Txt3 (s : List Nat) : Prop := s ≠ [] ∧ s.length ≤ 3 ∧ ∀ c ∈ s, c ∈ sgL
/-- a valid step, by its parts -/
inductive VStep : D → Prop
  | small : VStep (.tup [.str wSmall])
  | num {w : List Nat} {n : Int} : w = wFirst ∨ w = wLast → n = 1 ∨ n = 2 ∨ n = 3 → VStep (.tup [.str w, .int n])
  | one {w s : List Nat} : w ∈ words1 → Txt3 s → VStep (.tup [.str w, .str s])
  | two {w s : List Nat} {c : Nat} : w = mapW ∨ w = wJoin → Txt3 s → c ∈ sgL → VStep (.tup [.str w, .str s, .str [c]])
theorem isStr_view {lo hi : Nat} {d : D} (h : isStr lo hi d = true) : ∃ s, d = .str s ∧ lo ≤ s.length ∧ s.length ≤ hi ∧ ∀ c ∈ s, c ∈ sgL := by
  cases d with
  | str s =>
    have h : signsOf lo hi s = true := h
    simp only [signsOf, Bool.and_eq_true, decide_eq_true_eq, List.all_eq_true] at h
    exact ⟨s, rfl, h.1, h.2.1, h.2.2⟩
  | _ => cases h
theorem isSet_view {d : D} (h : isSetD d = true) : ∃ s, d = .str s ∧ Txt3 s := by
  cases d with
  | str s =>
    have h : (signsOf 1 3 s && riseB s) = true := h
    rw [Bool.and_eq_true] at h
    obtain ⟨s', e, a, b, c⟩ := isStr_view (d := .str s) (lo := 1) (hi := 3) h.1
    cases e
    exact ⟨s, rfl, fun z => by rw [z] at a; simp at a, b, c⟩
  | _ => cases h
theorem one1_view {f : D → Bool} {l : List D} (h : one1 f l = true) : ∃ a, l = [a] ∧ f a = true := by
  match l, h with
  | [a], h => exact ⟨a, rfl, h⟩
theorem two2_view {f : D → D → Bool} {l : List D} (h : two2 f l = true) : ∃ a b, l = [a, b] ∧ f a b = true := by
  match l, h with
  | [a, b], h => exact ⟨a, b, rfl, h⟩
theorem vstep {d : D} (h : isStepD d = true) : VStep d := by
  match d, h with
  | .tup (.str w :: rest), h =>
    rw [isStepD] at h
    split at h
    · rename_i hw
      obtain ⟨a, rfl, ha⟩ := one1_view h
      obtain ⟨s, rfl, hs⟩ := isSet_view ha
      exact .one (by rcases hw with rfl | rfl | rfl <;> decide) hs
    · split at h
      · rename_i hw
        obtain ⟨a, rfl, ha⟩ := one1_view h
        obtain ⟨s, rfl, a1, a2, a3⟩ := isStr_view ha
        exact .one (by rcases hw with rfl | rfl | rfl | rfl <;> decide) ⟨fun z => by rw [z] at a1; simp at a1, by omega, a3⟩
      · split at h
        · rename_i hw
          obtain ⟨a, rfl, ha⟩ := one1_view h
          cases a with
          | int n =>
            have ha : (decide (1 ≤ n) && decide (n ≤ 3)) = true := ha
            simp only [Bool.and_eq_true, decide_eq_true_eq] at ha
            exact .num hw (by omega)
          | _ => cases ha
        · split at h
          · rename_i hw
            obtain ⟨a, b, rfl, ha⟩ := two2_view h
            simp only [Bool.and_eq_true] at ha
            obtain ⟨s, rfl, a1, a2, a3⟩ := isStr_view ha.1
            obtain ⟨t, rfl, b1, b2, b3⟩ := isStr_view ha.2.1
            match t, b1, b2, b3 with
            | [c], _, _, b3 => exact .two (.inl hw) ⟨fun z => by rw [z] at a1; simp at a1, by omega, a3⟩ (b3 c List.mem_cons_self)
          · split at h
            · rename_i hw
              obtain ⟨a, b, rfl, ha⟩ := two2_view h
              simp only [Bool.and_eq_true] at ha
              obtain ⟨s, rfl, hs⟩ := isSet_view ha.1
              obtain ⟨t, rfl, b1, b2, b3⟩ := isStr_view ha.2
              match t, b1, b2, b3 with
              | [c], _, _, b3 => exact .two (.inr hw) hs (b3 c List.mem_cons_self)
            · split at h
              · rename_i hw
                match rest, h with
                | [], _ => rw [hw]; exact .small
              · cases h
/-! ### the text of a step, of a row -/
def partT : D → List Nat
  | .int n => numS n
  | .str s => 34 :: (s ++ [34])
  | _ => []
def stepX : D → List Nat
  | .tup (.str w :: rest) => TL.joinL [32] (w :: rest.map partT)
  | _ => []
def rowT (l : List D) : List Nat := TL.joinL [10] (l.map stepX)
def evens {α : Type} : List α → List α
  | [] => []
  | [a] => [a]
  | a :: _ :: r => a :: evens r
def odds {α : Type} : List α → List α
  | [] => []
  | [_] => []
  | _ :: b :: r => b :: odds r
def readParts (rest : List Nat) : Option (List D) :=
  if rest = [32, 49] then some [.int 1] else if rest = [32, 50] then some [.int 2] else if rest = [32, 51] then some [.int 3] else
  if evens (cut1 34 rest) = List.replicate ((evens (cut1 34 rest)).length - 1) [32] ++ [[]] then some ((odds (cut1 34 rest)).map .str) else none
def wordOf (line : List Nat) : List Nat := (cut1 32 line).headD []
def partsOf (rest : List Nat) : Option (List D) := if rest = [] then some [] else readParts rest
def stepOf (w : List Nat) : Option (List D) → D
  | none => .tup []
  | some l => .tup (.str w :: l)
def readStep (line : List Nat) : D := stepOf (wordOf line) (partsOf (line.drop (wordOf line).length))
def readAll (v : List Nat) : List D := if v = [] then [] else (cut1 10 v).map readStep
def readRow (v : List Nat) : D := if isRowD (.tup (readAll v)) then .tup (readAll v) else .non
theorem numS_1 : numS 1 = [49] := by decide +kernel
theorem numS_2 : numS 2 = [50] := by decide +kernel
theorem numS_3 : numS 3 = [51] := by decide +kernel
theorem wordOf_app {w : List Nat} (h : 32 ∉ w) (r : List Nat) : wordOf (w ++ 32 :: r) = w := by
  unfold wordOf
  rw [cut1_app, cut1_no h]; rfl
theorem wordOf_self {w : List Nat} (h : 32 ∉ w) : wordOf w = w := by
  unfold wordOf
  rw [cut1_no h]; rfl
theorem wordOf_cut (line : List Nat) : line = wordOf line ∨ ∃ r, line = wordOf line ++ 32 :: r := by
  obtain ⟨h, t, e⟩ := cut1_cons 32 line
  have j := join_cut 32 line
  unfold wordOf
  rw [e] at j ⊢
  cases t with
  | nil => exact .inl j.symm
  | cons q t => exact .inr ⟨_, j.symm⟩
theorem readStep_app {w : List Nat} (h : 32 ∉ w) (r : List Nat) : readStep (w ++ 32 :: r) = stepOf w (partsOf (32 :: r)) := by
  unfold readStep
  rw [wordOf_app h, List.drop_left]
theorem readStep_self {w : List Nat} (h : 32 ∉ w) : readStep w = .tup [.str w] := by
  unfold readStep
  rw [wordOf_self h, List.drop_length]; rfl
theorem words1_32 {w : List Nat} (h : w ∈ words1) : 32 ∉ w ∧ 10 ∉ w ∧ 34 ∉ w ∧ 39 ∉ w := by
  have : ∀ w ∈ words1, 32 ∉ w ∧ 10 ∉ w ∧ 34 ∉ w ∧ 39 ∉ w := by decide
  exact this w h
theorem readParts_one {s : List Nat} (h : Txt3 s) : partsOf (32 :: 34 :: (s ++ [34])) = some [.str s] := by
  have h34 : 34 ∉ s := fun m => (sgL_ok (h.2.2 34 m)).1 rfl
  have e : cut1 34 (32 :: 34 :: (s ++ [34])) = [[32], s, []] := by
    have := cut1_app 34 (s ++ [34]) [32]
    rw [show ([32] ++ 34 :: (s ++ [34]) : List Nat) = 32 :: 34 :: (s ++ [34]) from rfl] at this
    rw [this, cut1_app 34 [] s, cut1_no h34]; rfl
  unfold partsOf readParts
  rw [e]
  simp [evens, odds]
theorem readParts_two {s : List Nat} (h : Txt3 s) {c : Nat} (hc : c ∈ sgL) : partsOf (32 :: 34 :: (s ++ 34 :: 32 :: 34 :: c :: [34])) = some [.str s, .str [c]] := by
  have h34 : 34 ∉ s := fun m => (sgL_ok (h.2.2 34 m)).1 rfl
  have c34 : c ≠ 34 := (sgL_ok hc).1
  have e : cut1 34 (32 :: 34 :: (s ++ 34 :: 32 :: 34 :: c :: [34])) = [[32], s, [32], [c], []] := by
    have := cut1_app 34 (s ++ 34 :: 32 :: 34 :: c :: [34]) [32]
    rw [show ([32] ++ 34 :: (s ++ 34 :: 32 :: 34 :: c :: [34]) : List Nat) = 32 :: 34 :: (s ++ 34 :: 32 :: 34 :: c :: [34]) from rfl] at this
    rw [this, cut1_app 34 _ s, cut1_no h34]
    simp [cut1, c34]
  unfold partsOf readParts
  rw [e]
  simp [evens, odds, List.replicate]
theorem stepX_one (w s : List Nat) : stepX (.tup [.str w, .str s]) = w ++ 32 :: 34 :: (s ++ [34]) := rfl
theorem stepX_two (w s : List Nat) (c : Nat) : stepX (.tup [.str w, .str s, .str [c]]) = w ++ 32 :: 34 :: (s ++ 34 :: 32 :: 34 :: c :: [34]) := by
  simp [stepX, TL.joinL, partT]
theorem stepX_num (w : List Nat) (n : Int) : stepX (.tup [.str w, .int n]) = w ++ 32 :: numS n := rfl
theorem stepX_small : stepX (.tup [.str wSmall]) = wSmall := rfl
theorem mj_32 {w : List Nat} (h : w = mapW ∨ w = wJoin) : 32 ∉ w ∧ 10 ∉ w ∧ 34 ∉ w ∧ 39 ∉ w := by rcases h with rfl | rfl <;> decide
theorem fl_32 {w : List Nat} (h : w = wFirst ∨ w = wLast) : 32 ∉ w ∧ 10 ∉ w ∧ 34 ∉ w ∧ 39 ∉ w := by rcases h with rfl | rfl <;> decide
theorem read_step {d : D} (h : VStep d) : readStep (stepX d) = d := by
  cases h with
  | small => rw [stepX_small, readStep_self (by decide)]
  | num hw hn =>
    rw [stepX_num, readStep_app (fl_32 hw).1]
    rcases hn with rfl | rfl | rfl
    · rw [numS_1]; rfl
    · rw [numS_2]; rfl
    · rw [numS_3]; rfl
  | one hw hs => rw [stepX_one, readStep_app (words1_32 hw).1, readParts_one hs]; rfl
  | two hw hs hc => rw [stepX_two, readStep_app (mj_32 hw).1, readParts_two hs hc]; rfl
theorem stepX_10 {d : D} (h : VStep d) : 10 ∉ stepX d ∧ stepX d ≠ [] ∧ (stepX d).length ≤ 20 := by
  have t10 : ∀ {s : List Nat}, Txt3 s → 10 ∉ s := fun h m => (sgL_ok (h.2.2 10 m)).2.1 rfl
  cases h with
  | small => rw [stepX_small]; decide
  | num hw hn =>
    rw [stepX_num]
    rcases hn with rfl | rfl | rfl
    · rw [numS_1]; rcases hw with rfl | rfl <;> decide
    · rw [numS_2]; rcases hw with rfl | rfl <;> decide
    · rw [numS_3]; rcases hw with rfl | rfl <;> decide
  | @one w s hw hs =>
    rw [stepX_one]
    have a := (words1_32 hw).2.1
    have b := t10 hs
    have c : w.length ≤ 7 := by
      have : ∀ w ∈ words1, w.length ≤ 7 := by decide
      exact this w hw
    have d := hs.2.1
    refine ⟨by simp [a, b], by simp, by simp; omega⟩
  | @two w s c hw hs hc =>
    rw [stepX_two]
    have a := (mj_32 hw).2.1
    have b := t10 hs
    have c10 := (sgL_ok hc).2.1
    have e : w.length ≤ 4 := by rcases hw with rfl | rfl <;> decide
    have d := hs.2.1
    have c10' : ¬ 10 = c := fun z => c10 z.symm
    refine ⟨by simp [a, b, c10'], by simp, by simp; omega⟩
theorem rowT_ne {l : List D} (h : ∀ d ∈ l, VStep d) (hn : l ≠ []) : rowT l ≠ [] ∧ cut1 10 (rowT l) = l.map stepX := by
  have e : cut1 10 (rowT l) = l.map stepX := cut_join 10 _ (by simpa using hn) fun p hp => by
    obtain ⟨d, hd, rfl⟩ := List.mem_map.mp hp
    exact (stepX_10 (h d hd)).1
  refine ⟨fun z => ?_, e⟩
  rw [z] at e
  match l, hn, h, e with
  | [d], _, h, e =>
    have : stepX d = [] := by simpa [cut1] using e.symm
    exact (stepX_10 (h d List.mem_cons_self)).2.1 this
  | _ :: _ :: _, _, _, e => simp [cut1] at e
/-- a row's text is read back -/
theorem read_row {l : List D} (h : isRowD (.tup l) = true) : readRow (rowT l) = .tup l := by
  have hv : ∀ d ∈ l, VStep d := fun d hd => by
    rw [isRowD, Bool.and_eq_true, List.all_eq_true] at h
    exact vstep (h.2 d hd)
  have e : readAll (rowT l) = l := by
    unfold readAll
    by_cases hn : l = []
    · subst hn; rfl
    · obtain ⟨a, b⟩ := rowT_ne hv hn
      rw [if_neg a, b, List.map_map]
      have : ∀ m : List D, (∀ d ∈ m, VStep d) → m.map (readStep ∘ stepX) = m := by
        intro m
        induction m with
        | nil => intro _; rfl
        | cons d m ih =>
          intro hm
          rw [List.map_cons, ih fun x hx => hm x (List.mem_cons_of_mem _ hx)]
          show readStep (stepX d) :: m = d :: m
          rw [read_step (hm d List.mem_cons_self)]
      exact this l hv
  unfold readRow
  rw [e, h]
  rfl
end PD

set_option Elab.async false
set_option linter.all false
set_option maxRecDepth 100000
set_option maxHeartbeats 8000000
/-! What is read is a row's text, but for one kind of line; one change of a row's text makes no such line. -/
namespace PD
open PySem L2
/-- a line that is read as a step but is no step's text -/
def Bad (L : List Nat) : Prop := ∃ w p q, (w = mapW ∨ w = wJoin) ∧ 34 ∉ p ∧ p ≠ [] ∧ q ≠ 34 ∧ q ≠ 10 ∧ L = w ++ 32 :: 34 :: (p ++ 34 :: 34 :: [q])
theorem bad_len {L : List Nat} (h : Bad L) : 9 ≤ L.length := by
  obtain ⟨w, p, q, hw, _, hp, _, _, rfl⟩ := h
  have : 3 ≤ w.length := by rcases hw with rfl | rfl <;> decide
  have : 1 ≤ p.length := by cases p with
    | nil => exact absurd rfl hp
    | cons a b => simp
  simp
  omega
theorem stepX_2 (w : List Nat) (a b : List Nat) : stepX (.tup [.str w, .str a, .str b]) = w ++ 32 :: 34 :: (a ++ 34 :: 32 :: 34 :: (b ++ [34])) := by
  simp [stepX, TL.joinL, partT]
theorem inv_step {line : List Nat} (h : isStepD (readStep line) = true) : stepX (readStep line) = line ∨ Bad line := by
  have h32 : 32 ∉ wordOf line := by
    obtain ⟨a, t, e⟩ := cut1_cons 32 line
    unfold wordOf
    rw [e]
    exact cut1_free 32 line a (by rw [e]; exact List.mem_cons_self)
  rcases wordOf_cut line with e | ⟨r, e⟩
  · left
    generalize wordOf line = w at *
    subst e
    rw [readStep_self h32]
    rfl
  · generalize wordOf line = w at *
    subst e
    rw [readStep_app h32] at h ⊢
    have e1 : partsOf (32 :: r) = readParts (32 :: r) := rfl
    rw [e1] at h ⊢
    unfold readParts at h ⊢
    by_cases c1 : (32 :: r) = [32, 49]
    · rw [if_pos c1]; left
      rw [c1]
      show stepX (.tup [.str w, .int 1]) = _
      rw [stepX_num, numS_1]
    rw [if_neg c1] at h ⊢
    by_cases c2 : (32 :: r) = [32, 50]
    · rw [if_pos c2]; left
      rw [c2]
      show stepX (.tup [.str w, .int 2]) = _
      rw [stepX_num, numS_2]
    rw [if_neg c2] at h ⊢
    by_cases c3 : (32 :: r) = [32, 51]
    · rw [if_pos c3]; left
      rw [c3]
      show stepX (.tup [.str w, .int 3]) = _
      rw [stepX_num, numS_3]
    rw [if_neg c3] at h ⊢
    have j := join_cut 34 (32 :: r)
    generalize cut1 34 (32 :: r) = ps at *
    by_cases hev : evens ps = List.replicate ((evens ps).length - 1) [32] ++ [[]]
    · rw [if_pos hev] at h ⊢
      match ps, hev, h, j with
      | [], hev, h, j => simp [TL.joinL] at j
      | [a], hev, h, j =>
        simp [evens] at hev
        subst hev
        simp [TL.joinL] at j
      | [a, b], hev, h, j =>
        simp [evens] at hev
        subst hev
        simp [TL.joinL] at j
      | [a, b, c], hev, h, j =>
        simp [evens] at hev
        obtain ⟨rfl, rfl⟩ := hev
        left
        show stepX (.tup [.str w, .str b]) = _
        rw [stepX_one, ← j]
        simp [TL.joinL]
      | [a, b, c, d], hev, h, j =>
        simp [evens] at hev
        obtain ⟨rfl, rfl⟩ := hev
        right
        have hv : VStep (.tup [.str w, .str b, .str d]) := vstep h
        cases hv with
        | @two w s c hw hs hc =>
          refine ⟨w, b, c, hw, fun m => (sgL_ok (hs.2.2 34 m)).1 rfl, hs.1, (sgL_ok hc).1, (sgL_ok hc).2.1, ?_⟩
          rw [← j]
          simp [TL.joinL]
      | [a, b, c, d, e], hev, h, j =>
        simp [evens, List.replicate] at hev
        obtain ⟨rfl, rfl, rfl⟩ := hev
        left
        show stepX (.tup [.str w, .str b, .str d]) = _
        rw [stepX_2, ← j]
        simp [TL.joinL]
      | a :: b :: c :: d :: e :: f :: g, hev, h, j =>
        have hv : VStep (.tup (.str w :: .str b :: .str d :: .str f :: (odds g).map .str)) := vstep h
        cases hv
    · rw [if_neg hev] at h
      cases h
theorem inv_row {v : List Nat} (h : isRowD (.tup (readAll v)) = true) (hb : ∀ L ∈ cut1 10 v, ¬ Bad L) : rowT (readAll v) = v := by
  rw [isRowD, Bool.and_eq_true, List.all_eq_true] at h
  unfold readAll at h ⊢
  by_cases hv : v = []
  · rw [if_pos hv, hv]; rfl
  rw [if_neg hv] at h ⊢
  unfold rowT
  rw [List.map_map]
  have : ∀ m : List (List Nat), (∀ L ∈ m, isStepD (readStep L) = true ∧ ¬ Bad L) → m.map (stepX ∘ readStep) = m := by
    intro m
    induction m with
    | nil => intro _; rfl
    | cons L m ih =>
      intro hm
      rw [List.map_cons, ih fun x hx => hm x (List.mem_cons_of_mem _ hx)]
      obtain ⟨a, b⟩ := hm L List.mem_cons_self
      show stepX (readStep L) :: m = L :: m
      rw [(inv_step a).resolve_right b]
  rw [this _ fun L hL => ⟨h.2 _ (List.mem_map.mpr ⟨L, hL, rfl⟩), hb L hL⟩, join_cut]
/-! ### two quotes side by side -/
def dbl : List Nat → Bool
  | a :: b :: r => (a == 34 && b == 34) || dbl (b :: r)
  | _ => false
theorem dbl_c {c : Nat} (hc : c ≠ 34) : ∀ y : List Nat, dbl (c :: y) = dbl y
  | [] => rfl
  | b :: r => by rw [dbl]; simp [hc]
theorem dbl_mid {c : Nat} (hc : c ≠ 34) (y : List Nat) : ∀ x : List Nat, dbl (x ++ c :: y) = (dbl x || dbl y)
  | [] => by rw [List.nil_append, dbl_c hc]; rfl
  | [a] => by
    show dbl (a :: c :: y) = _
    rw [dbl, dbl_c hc]
    simp [hc, dbl]
  | a :: b :: x => by
    have ih := dbl_mid hc y (b :: x)
    show dbl (a :: b :: (x ++ c :: y)) = _
    rw [dbl, show b :: (x ++ c :: y) = (b :: x) ++ c :: y from rfl, ih, dbl, Bool.or_assoc]
theorem dbl_here (y : List Nat) : ∀ x : List Nat, dbl (x ++ 34 :: 34 :: y) = true
  | [] => by show dbl (34 :: 34 :: y) = true; rw [dbl]; rfl
  | [a] => by show dbl (a :: 34 :: 34 :: y) = true; rw [dbl, dbl]; simp
  | a :: b :: x => by
    have ih := dbl_here y (b :: x)
    show dbl (a :: b :: (x ++ 34 :: 34 :: y)) = true
    rw [dbl]
    have : dbl (b :: (x ++ 34 :: 34 :: y)) = true := ih
    rw [this, Bool.or_true]
theorem dbl_q {s : List Nat} (h : 34 ∉ s) : dbl (s ++ [34]) = false := by
  induction s with
  | nil => rfl
  | cons c r ih =>
    rw [List.cons_append, dbl_c (fun e => h (by rw [e]; exact List.mem_cons_self))]
    exact ih fun m => h (List.mem_cons_of_mem _ m)
theorem dbl_free {s : List Nat} (h : 34 ∉ s) : dbl s = false := by
  induction s with
  | nil => rfl
  | cons c r ih =>
    rw [dbl_c (fun e => h (by rw [e]; exact List.mem_cons_self))]
    exact ih fun m => h (List.mem_cons_of_mem _ m)
theorem t3_34 {s : List Nat} (h : Txt3 s) : 34 ∉ s := fun m => (sgL_ok (h.2.2 34 m)).1 rfl
theorem dbl_step {d : D} (h : VStep d) : dbl (stepX d) = false := by
  cases h with
  | small => rw [stepX_small]; decide
  | num hw hn =>
    rw [stepX_num, dbl_mid (by decide), dbl_free (fl_32 hw).2.2.1]
    rcases hn with rfl | rfl | rfl
    · rw [numS_1]; rfl
    · rw [numS_2]; rfl
    · rw [numS_3]; rfl
  | @one w s hw hs =>
    have h34 := t3_34 hs
    rw [stepX_one, dbl_mid (by decide), dbl_free (words1_32 hw).2.2.1]
    match s, hs, h34 with
    | [], hs, _ => exact absurd rfl hs.1
    | c :: r, hs, h34 =>
      have c34 : c ≠ 34 := fun e => h34 (by rw [e]; exact List.mem_cons_self)
      have := dbl_mid c34 (r ++ [34]) [34]
      show (false || dbl ([34] ++ c :: (r ++ [34]))) = false
      rw [this, dbl_q fun m => h34 (List.mem_cons_of_mem _ m)]
      rfl
  | @two w s c hw hs hc =>
    have h34 := t3_34 hs
    rw [stepX_two, dbl_mid (by decide), dbl_free (mj_32 hw).2.2.1]
    match s, hs, h34 with
    | [], hs, _ => exact absurd rfl hs.1
    | a :: r, hs, h34 =>
      have c34 : a ≠ 34 := fun e => h34 (by rw [e]; exact List.mem_cons_self)
      have cc : c ≠ 34 := (sgL_ok hc).1
      have e : (34 :: (a :: r ++ 34 :: 32 :: 34 :: c :: [34]) : List Nat) = [34] ++ a :: ((r ++ [34]) ++ 32 :: ([34] ++ c :: [34])) := by simp
      rw [e, dbl_mid c34, dbl_mid (show (32 : Nat) ≠ 34 by decide), dbl_mid cc, dbl_q fun m => h34 (List.mem_cons_of_mem _ m)]
      rfl
theorem dbl_row : ∀ l : List D, (∀ d ∈ l, VStep d) → dbl (rowT l) = false
  | [], _ => rfl
  | [d], h => dbl_step (h d List.mem_cons_self)
  | d :: e :: r, h => by
    have ih := dbl_row (e :: r) fun x hx => h x (List.mem_cons_of_mem _ hx)
    have e1 : rowT (d :: e :: r) = stepX d ++ 10 :: rowT (e :: r) := rfl
    rw [e1, dbl_mid (by decide), ih, dbl_step (h d List.mem_cons_self)]
    rfl
/-! ### what stands behind map or join in a row's text -/
theorem kp {l : List D} (hv : ∀ d ∈ l, VStep d) {A w Z : List Nat} (hw : w = mapW ∨ w = wJoin) (e : rowT l = A ++ (w ++ 32 :: 34 :: Z)) (hA : A = [] ∨ ∃ A', A = A' ++ [10]) :
    ∃ p q R, Z = p ++ 34 :: 32 :: 34 :: (q ++ 34 :: R) ∧ 34 ∉ p ∧ 34 ∉ q ∧ 10 ∉ q := by
  have hn : l ≠ [] := by
    intro z
    subst z
    have : ([] : List Nat) = A ++ (w ++ 32 :: 34 :: Z) := e
    simp at this
  obtain ⟨_, hc⟩ := rowT_ne hv hn
  have hin : ∀ L ∈ cut1 10 (w ++ 32 :: 34 :: Z), L ∈ l.map stepX := by
    intro L hL
    rw [← hc, e]
    rcases hA with rfl | ⟨A', rfl⟩
    · exact hL
    · rw [List.append_assoc]
      show L ∈ cut1 10 (A' ++ 10 :: (w ++ 32 :: 34 :: Z))
      rw [cut1_app]
      exact List.mem_append_right _ hL
  obtain ⟨h, t, e2⟩ := cut1_cons 10 (w ++ 32 :: 34 :: Z)
  have j := join_cut 10 (w ++ 32 :: 34 :: Z)
  rw [e2] at j
  obtain ⟨d, hd, hdh⟩ := List.mem_map.mp (hin h (by rw [e2]; exact List.mem_cons_self))
  obtain ⟨R, hR⟩ : ∃ R, h ++ R = w ++ 32 :: 34 :: Z := by
    cases t with
    | nil => exact ⟨[], by rw [List.append_nil]; exact j⟩
    | cons q t => exact ⟨_, j⟩
  subst hdh
  have hvd := hv d hd
  cases hvd with
  | small =>
    rw [stepX_small] at hR
    rcases hw with rfl | rfl <;> simp [wSmall, mapW, wJoin] at hR
  | @num w0 n hw0 hn =>
    rw [stepX_num] at hR
    rcases hw with rfl | rfl <;> rcases hw0 with rfl | rfl <;> simp [wFirst, wLast, mapW, wJoin] at hR
  | @one w0 s hw0 hs =>
    rw [stepX_one] at hR
    simp only [words1, List.mem_cons, List.not_mem_nil, or_false] at hw0
    rcases hw with rfl | rfl <;> rcases hw0 with rfl | rfl | rfl | rfl | rfl | rfl | rfl <;> simp [wTrim, wDrop, wSqueeze, wFront, wFronts, wBack, wBacks, mapW, wJoin] at hR
  | @two w0 s c hw0 hs hc' =>
    rw [stepX_two] at hR
    have hww : w0 = w := by
      rcases hw with rfl | rfl <;> rcases hw0 with rfl | rfl
      · rfl
      · simp [mapW, wJoin] at hR
      · simp [mapW, wJoin] at hR
      · rfl
    subst hww
    rw [List.append_assoc] at hR
    have h3 := List.append_cancel_left hR
    simp only [List.cons_append, List.cons.injEq, true_and] at h3
    refine ⟨s, [c], R, ?_, t3_34 hs, ?_, ?_⟩
    · rw [← h3]; simp
    · have := (sgL_ok hc').1
      intro m
      exact this (List.mem_singleton.mp m).symm
    · have := (sgL_ok hc').2.1
      intro m
      exact this (List.mem_singleton.mp m).symm
theorem first_q : ∀ {p p' u v : List Nat}, 34 ∉ p → 34 ∉ p' → p ++ 34 :: u = p' ++ 34 :: v → p = p' ∧ u = v
  | [], [], u, v, _, _, e => ⟨rfl, by simpa using e⟩
  | [], b :: p', u, v, _, h', e => by
    simp at e
    exact absurd (by rw [← e.1]; exact List.mem_cons_self) h'
  | a :: p, [], u, v, h, _, e => by
    simp at e
    exact absurd (by rw [e.1]; exact List.mem_cons_self) h
  | a :: p, b :: p', u, v, h, h', e => by
    simp only [List.cons_append, List.cons.injEq] at e
    obtain ⟨e1, e2⟩ := first_q (fun m => h (List.mem_cons_of_mem _ m)) (fun m => h' (List.mem_cons_of_mem _ m)) e.2
    exact ⟨by rw [e.1, e1], e2⟩
/-- one change of a row's text makes no such line -/
theorem no_bad {l : List D} (hv : ∀ d ∈ l, VStep d) {x m m' y thing : List Nat} (hm : m.length ≤ 1) (hm' : m'.length ≤ 1) (e1 : thing = x ++ (m ++ y)) (e2 : rowT l = x ++ (m' ++ y)) : ∀ L ∈ cut1 10 thing, ¬ Bad L := by
  intro L hL hbad
  have nd := dbl_row l hv
  obtain ⟨A, B, e3, hA, hB⟩ := cut_mem hL
  obtain ⟨w, p, q, hw, hp, hpn, q34, q10, rfl⟩ := hbad
  have hT : x ++ (m ++ y) = (A ++ (w ++ 32 :: 34 :: p)) ++ (34 :: 34 :: (q :: B)) := by
    rw [← e1, e3]; simp
  have nod : ∀ a b : List Nat, rowT l ≠ a ++ 34 :: 34 :: b := fun a b z => by
    rw [z, dbl_here] at nd; cases nd
  have hB34 : ∀ r, B ≠ 34 :: r := fun r z => by
    rcases hB with h | ⟨B', h⟩ <;> rw [z] at h
    · cases h
    · simp at h
  have hBm : ∀ q' R, 10 ∉ q' → B ≠ q' ++ 34 :: R := fun q' R h10 z => by
    rcases hB with h | ⟨B', h⟩ <;> rw [z] at h
    · simp at h
    · cases q' with
      | nil => simp at h
      | cons a q' =>
        simp at h
        exact h10 (by rw [h.1]; exact List.mem_cons_self)
  have short : ∀ {k : List Nat}, k.length ≤ 1 → k = [] ∨ ∃ c, k = [c] := fun {k} hk => by
    match k, hk with
    | [], _ => exact .inl rfl
    | [c], _ => exact .inr ⟨c, rfl⟩
  -- the pair's first quote new, or its second
  have caseA : ∀ Z, rowT l = (A ++ (w ++ 32 :: 34 :: p)) ++ Z → ∃ p' q' R, p ++ Z = p' ++ 34 :: 32 :: 34 :: (q' ++ 34 :: R) ∧ 34 ∉ p' ∧ 34 ∉ q' ∧ 10 ∉ q' := fun Z h => by
    refine kp hv (A := A) (w := w) (Z := p ++ Z) hw (by rw [h]; simp) hA
  have fA : rowT l = (A ++ (w ++ 32 :: 34 :: p)) ++ (m' ++ 34 :: (q :: B)) → False := fun h => by
    rcases short hm' with rfl | ⟨c, rfl⟩
    · obtain ⟨p', q', R, e, h1, h2, h3⟩ := caseA _ h
      obtain ⟨_, e5⟩ := first_q hp h1 e
      simp only [List.cons.injEq] at e5
      exact hB34 _ e5.2
    · by_cases hc : c = 34
      · subst hc
        exact nod _ _ h
      · obtain ⟨p', q', R, e, h1, h2, h3⟩ := caseA _ h
        have e' : (p ++ [c]) ++ 34 :: (q :: B) = p' ++ 34 :: 32 :: 34 :: (q' ++ 34 :: R) := by rw [← e]; simp
        obtain ⟨_, e5⟩ := first_q (by
          intro mm
          rcases List.mem_append.mp mm with z | z
          · exact hp z
          · exact hc (List.mem_singleton.mp z).symm) h1 e'
        simp only [List.cons.injEq] at e5
        exact hB34 _ e5.2
  have fB : rowT l = (A ++ (w ++ 32 :: 34 :: p)) ++ (34 :: (m' ++ (q :: B))) → False := fun h => by
    obtain ⟨p', q', R, e, h1, h2, h3⟩ := caseA _ h
    obtain ⟨_, e5⟩ := first_q hp h1 e
    rcases short hm' with rfl | ⟨c, rfl⟩
    · simp only [List.nil_append, List.cons.injEq] at e5
      exact hB34 _ e5.2
    · simp only [List.cons_append, List.nil_append, List.cons.injEq] at e5
      exact q34 e5.2.1
  have fC : rowT l = (A ++ (w ++ 32 :: 34 :: p)) ++ (34 :: (m' ++ 34 :: (q :: B))) → False := fun h => by
    obtain ⟨p', q', R, e, h1, h2, h3⟩ := caseA _ h
    obtain ⟨_, e5⟩ := first_q hp h1 e
    rcases short hm' with rfl | ⟨c, rfl⟩
    · simp at e5
    · simp only [List.cons_append, List.nil_append, List.cons.injEq] at e5
      obtain ⟨_, _, e6⟩ := e5
      cases q' with
      | nil =>
        simp at e6
        exact q34 e6.1
      | cons a q' =>
        simp only [List.cons_append, List.cons.injEq] at e6
        exact hBm q' R (fun m => h3 (List.mem_cons_of_mem _ m)) e6.2
  rcases List.append_eq_append_iff.mp hT with ⟨a', h1, h2⟩ | ⟨c', h1, h2⟩
  · cases a' with
    | nil =>
      rw [List.append_nil] at h1
      rw [List.nil_append] at h2
      rcases short hm with rfl | ⟨s, rfl⟩
      · rw [List.nil_append] at h2
        exact nod (x ++ m') (q :: B) (by rw [e2, h2]; simp)
      · simp only [List.cons_append, List.nil_append, List.cons.injEq] at h2
        obtain ⟨_, h2⟩ := h2
        exact fA (by rw [e2, h2, h1])
    | cons a0 a' =>
      rcases short hm with rfl | ⟨s, rfl⟩
      · rw [List.nil_append] at h2
        exact nod (x ++ (m' ++ (a0 :: a'))) (q :: B) (by rw [e2, h2]; simp)
      · simp only [List.cons_append, List.nil_append, List.cons.injEq] at h2
        exact nod (x ++ (m' ++ a')) (q :: B) (by rw [e2, h2.2]; simp)
  · cases c' with
    | nil =>
      rw [List.append_nil] at h1
      rw [List.nil_append] at h2
      rcases short hm with rfl | ⟨s, rfl⟩
      · rw [List.nil_append] at h2
        exact nod (x ++ m') (q :: B) (by rw [e2, ← h2]; simp)
      · simp only [List.cons_append, List.nil_append, List.cons.injEq] at h2
        obtain ⟨_, h2⟩ := h2
        exact fA (by rw [e2, ← h2, h1])
    | cons a c' =>
      simp only [List.cons_append, List.cons.injEq] at h2
      obtain ⟨rfl, h2⟩ := h2
      cases c' with
      | nil =>
        rw [List.nil_append] at h2
        rcases short hm with rfl | ⟨s, rfl⟩
        · rw [List.nil_append] at h2
          exact fC (by rw [e2, h1, ← h2]; simp)
        · simp only [List.cons_append, List.nil_append, List.cons.injEq] at h2
          exact fB (by rw [e2, h1, ← h2.2]; simp)
      | cons b c' =>
        simp only [List.cons_append, List.cons.injEq] at h2
        obtain ⟨rfl, h2⟩ := h2
        exact nod (A ++ (w ++ 32 :: 34 :: p)) (c' ++ (m' ++ y)) (by rw [e2, h1]; simp)
end PD

set_option Elab.async false
set_option linter.all false
set_option maxRecDepth 100000
set_option maxHeartbeats 8000000
/-! textcleaners.texts: what its defs compute. -/
namespace PD
open PySem L2
def ir_part_text : Ss := (.cons (.ret (.ife (.val (.isi (.var 0) .int)) (.blt .str (.cons (.var 0) .nil)) (.op (.fstr [34] [34]) (.cons (.var 0) .nil)))) .nil)
def ir_step_text : Ss := (.cons (.ret (.mth .join (.str [32]) (.cons (.lst (.cons (.idx (.var 0) (.int 0)) (.star (.comp (.call 0 (.cons (.var 1) .nil)) (.nm 1) (.data (.sl (.var 0) (.int 1) .nope)) .yes [1]) .nil))) .nil))) .nil)
def ir_row_text : Ss := (.cons (.ret (.mth .join (.str [10]) (.cons (.comp (.call 0 (.cons (.var 1) .nil)) (.nm 1) (.data (.var 0)) .yes [1]) .nil))) .nil)
def ir_read_parts : Ss := (.cons (.ife (.cmp .In (.var 0) (.tup (.cons (.str [32, 49]) (.cons (.str [32, 50]) (.cons (.str [32, 51]) .nil))))) (.cons (.ret (.tup (.cons (.blt .int (.cons (.sl (.var 0) (.int 1) .nope) .nil)) .nil))) .nil) .nil) (.cons (.set 1 (.mth .split (.var 0) (.cons (.str [34]) .nil))) (.cons (.set 2 (.comp (.var 4) (.cons (.nm 3) (.cons (.nm 4) .nil)) (.enum (.var 1)) (.cmp .Eq (.bin .Mod (.var 3) (.int 2)) (.int 0)) [3, 4])) (.cons (.ife (.cmp .NotEq (.var 2) (.bin .Add (.bin .Mult (.lst (.cons (.str [32]) .nil)) (.bin .Sub (.blt .len (.cons (.var 2) .nil)) (.int 1))) (.lst (.cons (.str []) .nil)))) (.cons (.ret .non) .nil) .nil) (.cons (.ret (.blt .tuple (.cons (.comp (.var 4) (.cons (.nm 3) (.cons (.nm 4) .nil)) (.enum (.var 1)) (.cmp .Eq (.bin .Mod (.var 3) (.int 2)) (.int 1)) [3, 4]) .nil))) .nil)))))
def ir_read_step : Ss := (.cons (.set 1 (.idx (.mth .split (.var 0) (.cons (.str [32]) .nil)) (.int 0))) (.cons (.set 2 (.sl (.var 0) (.blt .len (.cons (.var 1) .nil)) .nope)) (.cons (.set 3 (.ife (.cmp .Eq (.var 2) (.str [])) (.tup .nil) (.call 0 (.cons (.var 2) .nil)))) (.cons (.ret (.ife (.isN false (.var 3)) (.tup .nil) (.tup (.cons (.var 1) (.star (.var 3) .nil))))) .nil))))
def ir_read_row : Ss := (.cons (.ife (.not (.val (.isi (.var 0) .str))) (.cons (.ret .non) .nil) .nil) (.cons (.set 1 (.ife (.cmp .NotEq (.var 0) (.str [])) (.blt .tuple (.cons (.comp (.call 0 (.cons (.var 2) .nil)) (.nm 2) (.data (.mth .split (.var 0) (.cons (.str [10]) .nil))) .yes [2]) .nil)) (.tup .nil))) (.cons (.ret (.ife (.val (.call 1 (.cons (.var 1) .nil))) (.var 1) .non)) .nil)))
theorem sum_le (n : Nat) : ∀ ss : List (List Nat), (∀ s ∈ ss, s.length ≤ n) → (ss.map List.length).sum ≤ ss.length * n
  | [], _ => by simp
  | s :: ss, h => by
    have h1 := h s List.mem_cons_self
    have h2 := sum_le n ss fun x hx => h x (List.mem_cons_of_mem _ hx)
    rw [List.map_cons, List.sum_cons, List.length_cons, Nat.succ_mul]
    omega
theorem ev_joinT {P : Sg} {sep : List Nat} {e : E} {ρ : Env'} {τ τ1 : TS} {ss : List (List Nat)} (h : ev P e ρ τ = some (.lst (ss.map .str), τ1)) (hs : sep.length ≤ 1) (hl : ss.length ≤ 1000) (hb : ∀ s ∈ ss, s.length ≤ 4000) : ev P (.mth .join (.str sep) (.cons e .nil)) ρ τ = some (.str (TL.joinL sep ss), τ1) := by
  have h1 := sum_le 4000 ss hb
  have h2 : ss.length * 4000 ≤ 1000 * 4000 := Nat.mul_le_mul hl (Nat.le_refl _)
  have h3 : ss.length * sep.length ≤ 1000 * 1 := Nat.mul_le_mul hl hs
  rw [ev, ev_str]
  simp only [Option.bind_some, evs_cons h evs_nil, mD, joinD, strs_map, joinS]
  rw [if_pos (by omega)]
  rfl
/-- the parts of a step that have a text -/
def PGood (x : D) : Prop := (∃ n : Int, (n = 1 ∨ n = 2 ∨ n = 3) ∧ x = .int n) ∨ ∃ s, x = .str s ∧ s.length ≤ 1000
theorem numS_ok {n : Int} (h : n = 1 ∨ n = 2 ∨ n = 3) : strD [.int n] = some (.str (numS n)) := by
  have : n.natAbs.log2 < 1920 := by rcases h with rfl | rfl | rfl <;> decide
  show (if n.natAbs.log2 < 1920 then some (D.str (numS n)) else none) = _
  rw [if_pos this]
noncomputable def GPart : GF := Grun false 1 false 1 ir_part_text [] []
theorem part_ok (ns : List Int) (x : D) (h : PGood x) (τ : TS) : GPart ns [x] τ = some (.str (partT x), τ) := by
  refine Grun_in rfl ?_
  show evB _ ir_part_text [.d x] τ = _
  unfold ir_part_text
  refine evB_rt (evS_ret ?_)
  rcases h with ⟨n, hn, rfl⟩ | ⟨s, rfl, hs⟩
  · have := numS_ok hn
    simp [evB, evS, ev, evs, evt, evp, evi, binD, cmpD, bD, mD, neD, eqD, truD, ixD, inD, inB, slD, lenD, intD, maxD, minD, addD, subD, negD, joinD, joinS, txsO, lowerD, upperD, startsD, endsD, stripD, with1, ordD, mulD, modD, fdivD, powD, intO, Out.then, bindT, setAll, itemsD, rangeD, runF, start', mkSg, mkSgG, opD, small62, wipeE, compL, forL, List.replicate, tyIs, this, partT]
  · have h1 := sl1 (show s.length + 1 + 1 ≤ 4000 by omega)
    have h2 := sl1 (show 1 + s.length + 1 ≤ 4000 by omega)
    have h3 := sl1 (show s.length + 2 ≤ 4000 by omega)
    have h4 := sl1 (show 1 + (s.length + 1) ≤ 4000 by omega)
    simp [evB, evS, ev, evs, evt, evp, evi, binD, cmpD, bD, mD, neD, eqD, truD, ixD, inD, inB, slD, lenD, intD, maxD, minD, addD, subD, negD, joinD, joinS, txsO, lowerD, upperD, startsD, endsD, stripD, with1, ordD, mulD, modD, fdivD, powD, intO, Out.then, bindT, setAll, itemsD, rangeD, runF, start', mkSg, mkSgG, opD, small62, wipeE, compL, forL, List.replicate, tyIs, partT, h1, h2, h3, h4]
theorem part_len {x : D} (h : PGood x) : (partT x).length ≤ 2000 := by
  rcases h with ⟨n, hn, rfl⟩ | ⟨s, rfl, hs⟩
  · rcases hn with rfl | rfl | rfl
    · show (numS 1).length ≤ _; rw [numS_1]; decide
    · show (numS 2).length ≤ _; rw [numS_2]; decide
    · show (numS 3).length ≤ _; rw [numS_3]; decide
  · simp [partT]; omega
noncomputable def GStT : GF := Grun false 2 false 1 ir_step_text [⟨"part_text", false, 1, GPart⟩] []
theorem evs_starL {P : Sg} {e : E} {ρ : Env'} {τ τ1 : TS} {xs : List D} (h : ev P e ρ τ = some (.lst xs, τ1)) : evs P (.star e .nil) ρ τ = some (xs, τ1) := by
  rw [evs, h]
  simp only [Option.bind_some, evs_nil, Option.map_some, List.append_nil]
theorem ev_sl1T {P : Sg} (ht : P.tk = false) {i : Nat} {ρ : Env'} {τ : TS} {x : D} {xs : List D} (h : ρ[i]? = some (.d (.tup (x :: xs)))) (hl : xs.length ≤ 4000) : ev P (.sl (.var i) (.int 1) .nope) ρ τ = some (.tup xs, τ) := by
  have e2 := sl1 hl
  rw [ev, ev_var h]
  simp [evp, slD, okT, ht, e2]
theorem steptext_ok (ns : List Int) (w : List Nat) (rest : List D) (hw : w.length ≤ 1000) (hr : rest.length ≤ 100) (h : ∀ x ∈ rest, PGood x) (τ : TS) : GStT ns [.tup (.str w :: rest)] τ = some (.str (stepX (.tup (.str w :: rest))), τ) := by
  refine Grun_in rfl ?_
  show evB _ ir_step_text [.d (.tup (.str w :: rest)), .un] τ = _
  unfold ir_step_text
  refine evB_rt (evS_ret ?_)
  have hc : compL (cbody (mkSg false [⟨"part_text", false, 1, GPart⟩] [] ns) (.call 0 (.cons (.var 1) .nil)) (.nm 1) .yes [1] [.d (.tup (.str w :: rest)), .un]) rest τ = some (rest.map fun x => D.str (partT x), τ) := by
    have := compL_map (f := cbody (mkSg false [⟨"part_text", false, 1, GPart⟩] [] ns) (.call 0 (.cons (.var 1) .nil)) (.nm 1) .yes [1] [.d (.tup (.str w :: rest)), .un]) (g := id) (h := fun x => D.str (partT x)) (τ := τ) (l := rest) fun x hx => by
      unfold cbody
      simp only [wipeE, bindT, Option.bind_some, evt, if_true, List.set, id]
      rw [ev_call0 (evs_cons (ev_var rfl) evs_nil) (show (mkSg false [⟨"part_text", false, 1, GPart⟩] [] ns).G 0 [x] τ = _ from part_ok ns x (h x hx) τ)]
      rfl
    rw [List.map_id] at this
    exact this
  have e1 : (D.str w :: rest.map fun x => D.str (partT x)) = (w :: rest.map partT).map D.str := by
    rw [List.map_cons, List.map_map]; rfl
  refine ev_joinT (ss := w :: rest.map partT) ?_ (by simp) (by simp; omega) (fun s hs => ?_)
  · rw [← e1]
    exact ev_lst (evs_cons (idx0 (i := 0) (ev_var rfl) rfl) (evs_starL (ev_comp (evi_data (ev_sl1T rfl rfl (by omega)) rfl) hc (sl1 (by simp; omega))))) (by simp; omega)
  · rcases List.mem_cons.mp hs with q | q
    · rw [q]; omega
    · obtain ⟨x, hx, rfl⟩ := List.mem_map.mp q
      have := part_len (h x hx)
      omega
theorem vstep_parts {d : D} (h : VStep d) : ∃ w rest, d = .tup (.str w :: rest) ∧ w.length ≤ 7 ∧ rest.length ≤ 2 ∧ ∀ x ∈ rest, PGood x := by
  cases h with
  | small => exact ⟨_, _, rfl, by decide, by simp, by simp⟩
  | num hw hn => exact ⟨_, _, rfl, by rcases hw with rfl | rfl <;> decide, by simp, fun x hx => .inl ⟨_, hn, by simpa using hx⟩⟩
  | one hw hs =>
    refine ⟨_, _, rfl, ?_, by simp, fun x hx => .inr ⟨_, by simpa using hx, ?_⟩⟩
    · have : ∀ w ∈ words1, w.length ≤ 7 := by decide
      exact this _ hw
    · have := hs.2.1; omega
  | @two w s c hw hs hc =>
    refine ⟨_, _, rfl, by rcases hw with rfl | rfl <;> decide, by simp, fun x hx => ?_⟩
    simp only [List.mem_cons, List.not_mem_nil, or_false] at hx
    rcases hx with rfl | rfl
    · exact .inr ⟨_, rfl, by have := hs.2.1; omega⟩
    · exact .inr ⟨_, rfl, by simp⟩
noncomputable def GRoT : GF := Grun false 2 false 1 ir_row_text [⟨"step_text", false, 1, GStT⟩] []
theorem rowtext_ok (ns : List Int) (l : List D) (hl : l.length ≤ 100) (hv : ∀ d ∈ l, VStep d) (τ : TS) : GRoT ns [.tup l] τ = some (.str (rowT l), τ) := by
  refine Grun_in rfl ?_
  show evB _ ir_row_text [.d (.tup l), .un] τ = _
  unfold ir_row_text
  refine evB_rt (evS_ret ?_)
  have hc : compL (cbody (mkSg false [⟨"step_text", false, 1, GStT⟩] [] ns) (.call 0 (.cons (.var 1) .nil)) (.nm 1) .yes [1] [.d (.tup l), .un]) l τ = some (l.map fun x => D.str (stepX x), τ) := by
    have := compL_map (f := cbody (mkSg false [⟨"step_text", false, 1, GStT⟩] [] ns) (.call 0 (.cons (.var 1) .nil)) (.nm 1) .yes [1] [.d (.tup l), .un]) (g := id) (h := fun x => D.str (stepX x)) (τ := τ) (l := l) fun x hx => by
      obtain ⟨w, rest, rfl, h1, h2, h3⟩ := vstep_parts (hv x hx)
      unfold cbody
      simp only [wipeE, bindT, Option.bind_some, evt, if_true, List.set, id]
      rw [ev_call0 (evs_cons (ev_var rfl) evs_nil) (show (mkSg false [⟨"step_text", false, 1, GStT⟩] [] ns).G 0 [_] τ = _ from steptext_ok ns w rest (by omega) (by omega) h3 τ)]
      rfl
    rw [List.map_id] at this
    exact this
  have e1 : (l.map fun x => D.str (stepX x)) = (l.map stepX).map D.str := by rw [List.map_map]; rfl
  refine ev_joinT (ss := l.map stepX) ?_ (by simp) (by simp; omega) (fun s hs => ?_)
  · rw [← e1]
    exact ev_comp (evi_data (ev_var rfl) rfl) hc (sl1 (by simp; omega))
  · obtain ⟨x, hx, rfl⟩ := List.mem_map.mp hs
    have := (stepX_10 (hv x hx)).2.2
    omega
/-! ### reading -/
mutual
theorem evens_cons {α : Type} (a : α) : ∀ xs : List α, evens (a :: xs) = a :: odds xs
  | [] => rfl
  | b :: r => by rw [evens, odds_cons b r]
theorem odds_cons {α : Type} (a : α) : ∀ xs : List α, odds (a :: xs) = evens xs
  | [] => rfl
  | b :: r => by rw [odds, evens_cons b r]
end
theorem odds_len {α : Type} : ∀ xs : List α, (evens xs).length ≤ xs.length ∧ (odds xs).length ≤ xs.length
  | [] => by simp [evens, odds]
  | a :: r => by
    have := odds_len r
    rw [evens_cons, odds_cons]
    simp only [List.length_cons]
    omega
theorem odds_mem {α : Type} {x : α} : ∀ {xs : List α}, (x ∈ evens xs → x ∈ xs) ∧ (x ∈ odds xs → x ∈ xs)
  | [] => by simp [evens, odds]
  | a :: r => by
    have := odds_mem (x := x) (xs := r)
    rw [evens_cons, odds_cons]
    simp only [List.mem_cons]
    exact ⟨fun h => h.imp id this.2, fun h => .inr (this.1 h)⟩
theorem enum_par (P : Sg) (r0 r1 r2 r3 r4 : Slot) (v : Nat) (hv : v = 0 ∨ v = 1) (vi : Int) (hvi : vi = v) (τ : TS) : ∀ (xs : List (List Nat)) (k : Nat),
    compL (cbody P (.var 4) (.cons (.nm 3) (.cons (.nm 4) .nil)) (.cmp .Eq (.bin .Mod (.var 3) (.int 2)) (.int vi)) [3, 4] [r0, r1, r2, r3, r4]) (enumD k (xs.map .str)) τ = some ((if k % 2 = v then evens xs else odds xs).map .str, τ)
  | [], k => by split <;> rfl
  | x :: xs, k => by
    subst hvi
    have ih := enum_par P r0 r1 r2 r3 r4 v hv _ rfl τ xs (k + 1)
    have h1 : cbody P (.var 4) (.cons (.nm 3) (.cons (.nm 4) .nil)) (.cmp .Eq (.bin .Mod (.var 3) (.int 2)) (.int (v : Int))) [3, 4] [r0, r1, r2, r3, r4] (.tup [.int k, .str x]) τ = some (if k % 2 = v then some (.str x) else none, τ) := by
      have e : cmpD .Eq (.int ((k : Int) % 2)) (.int (v : Int)) = some (.bl (decide (k % 2 = v))) := by
        have : ((k : Int) % 2 == (v : Int)) = decide (k % 2 = v) := by
          by_cases h : k % 2 = v
          · rw [decide_eq_true h, beq_iff_eq]; omega
          · rw [decide_eq_false h]
            exact beq_eq_false_iff_ne.mpr (by omega)
        simp only [cmpD, eqD, dep_int, Nat.min_self, Nat.zero_le, if_true, eqv_int, Option.map_some, this]
      have em : ev P (.bin .Mod (.var 3) (.int 2)) [r0, r1, r2, .d (.int (k : Int)), .d (.str x)] τ = some (.int ((k : Int) % 2), τ) := by
        rw [ev, ev_var rfl]
        simp [ev_int, binD, modD]
      unfold cbody
      simp only [wipeE, bindT, Option.bind_some, List.set]
      rw [evt_cmp0 em ev_int e]
      by_cases h : k % 2 = v
      · rw [decide_eq_true h, if_pos h]
        simp only [Option.bind_some, if_true]
        rw [ev_var rfl]; rfl
      · rw [decide_eq_false h, if_neg h]
        rfl
    rw [List.map_cons, enumD, compL, h1]
    simp only [Option.bind_some]
    rw [ih]
    simp only [Option.bind_some]
    by_cases h : k % 2 = v
    · rw [if_pos h, if_pos h, if_neg (by omega), evens_cons]; rfl
    · rw [if_neg h, if_neg h, if_pos (by omega), odds_cons]
def rdD : Option (List D) → D
  | some l => .tup l
  | none => .non
noncomputable def GRdP : GF := Grun false 5 false 1 ir_read_parts [] []
abbrev rpT : Ss := match ir_read_parts with
  | .cons _ t => t
  | t => t
theorem int_1 : intD [.str [49]] = some (.int 1) := by
  have : intText? (tx [49]) = some 1 := by decide +kernel
  show (if ([49] : List Nat).length ≤ 640 then (intText? (tx [49])).map D.int else none) = _
  rw [this]; rfl
theorem int_2 : intD [.str [50]] = some (.int 2) := by
  have : intText? (tx [50]) = some 2 := by decide +kernel
  show (if ([50] : List Nat).length ≤ 640 then (intText? (tx [50])).map D.int else none) = _
  rw [this]; rfl
theorem int_3 : intD [.str [51]] = some (.int 3) := by
  have : intText? (tx [51]) = some 3 := by decide +kernel
  show (if ([51] : List Nat).length ≤ 640 then (intText? (tx [51])).map D.int else none) = _
  rw [this]; rfl
theorem eqv_strs2 (a b : List (List Nat)) : eqv (.lst (a.map .str)) (.lst (b.map .str)) = decide (a = b) := by
  have : ∀ a b : List (List Nat), eqvs (a.map D.str) (b.map D.str) = decide (a = b) := by
    intro a
    induction a with
    | nil => intro b; cases b <;> simp
    | cons x a ih =>
      intro b
      cases b with
      | nil => simp
      | cons y b =>
        rw [List.map_cons, List.map_cons, eqvs_cc, eqv_str, ih b]
        by_cases h : x = y
        · subst h; by_cases h2 : a = b <;> simp [h2]
        · simp [h]
  rw [eqv_lst, this]
theorem deps_strs2 : ∀ a : List (List Nat), deps (a.map D.str) = 0
  | [] => by simp
  | x :: a => by rw [List.map_cons, deps_cons, deps_strs2 a]; simp
theorem readparts_ok (ns : List Int) (rest : List Nat) (hl : rest.length ≤ 900) (τ : TS) : GRdP ns [.str rest] τ = some (rdD (readParts rest), τ) := by
  refine Grun_in rfl ?_
  show evB _ ir_read_parts [.d (.str rest), .un, .un, .un, .un] τ = _
  generalize hP : mkSg false [] [] ns = P
  have tk : P.tk = false := by rw [← hP]; rfl
  have z3 := sl1 (show 3 ≤ 4000 by omega)
  have z1 := sl1 (show 1 ≤ 4000 by omega)
  have hz := sl1 (show rest.length ≤ 4000 by omega)
  unfold readParts
  by_cases c1 : rest = [32, 49]
  · rw [if_pos c1, c1]
    unfold ir_read_parts
    refine evB_rt (evS_t (τ1 := τ) ?_ (evB_rt (evS_ret ?_)))
    · simp [evB, evS, ev, evs, evt, evp, evi, binD, cmpD, bD, mD, neD, eqD, truD, ixD, inD, inB, slD, lenD, intD, maxD, minD, addD, subD, negD, joinD, joinS, txsO, lowerD, upperD, startsD, endsD, stripD, with1, ordD, mulD, modD, fdivD, powD, intO, Out.then, bindT, setAll, itemsD, rangeD, runF, start', mkSg, mkSgG, opD, small62, wipeE, compL, forL, List.replicate, tyIs, okT, tk, z3]
    · have hs : ev P (.sl (.var 0) (.int 1) .nope) [.d (.str [32, 49]), .un, .un, .un, .un] τ = some (.str [49], τ) := by
        have z2 := sl1 (show 2 ≤ 4000 by omega)
        rw [ev, ev_var rfl]
        simp [evp, slD, z2]
      rw [ev, evs_cons (show ev P (.blt .int (.cons (.sl (.var 0) (.int 1) .nope) .nil)) [.d (.str [32, 49]), .un, .un, .un, .un] τ = some (.int 1, τ) from by
        rw [ev, evs_cons hs evs_nil]
        simp only [Option.bind_some, bD, int_1, Option.map_some]) evs_nil]
      simp [okT, tk, z1, rdD]
  rw [if_neg c1]
  by_cases c2 : rest = [32, 50]
  · rw [if_pos c2, c2]
    unfold ir_read_parts
    refine evB_rt (evS_t (τ1 := τ) ?_ (evB_rt (evS_ret ?_)))
    · simp [evB, evS, ev, evs, evt, evp, evi, binD, cmpD, bD, mD, neD, eqD, truD, ixD, inD, inB, slD, lenD, intD, maxD, minD, addD, subD, negD, joinD, joinS, txsO, lowerD, upperD, startsD, endsD, stripD, with1, ordD, mulD, modD, fdivD, powD, intO, Out.then, bindT, setAll, itemsD, rangeD, runF, start', mkSg, mkSgG, opD, small62, wipeE, compL, forL, List.replicate, tyIs, okT, tk, z3]
    · have hs : ev P (.sl (.var 0) (.int 1) .nope) [.d (.str [32, 50]), .un, .un, .un, .un] τ = some (.str [50], τ) := by
        have z2 := sl1 (show 2 ≤ 4000 by omega)
        rw [ev, ev_var rfl]
        simp [evp, slD, z2]
      rw [ev, evs_cons (show ev P (.blt .int (.cons (.sl (.var 0) (.int 1) .nope) .nil)) [.d (.str [32, 50]), .un, .un, .un, .un] τ = some (.int 2, τ) from by
        rw [ev, evs_cons hs evs_nil]
        simp only [Option.bind_some, bD, int_2, Option.map_some]) evs_nil]
      simp [okT, tk, z1, rdD]
  rw [if_neg c2]
  by_cases c3 : rest = [32, 51]
  · rw [if_pos c3, c3]
    unfold ir_read_parts
    refine evB_rt (evS_t (τ1 := τ) ?_ (evB_rt (evS_ret ?_)))
    · simp [evB, evS, ev, evs, evt, evp, evi, binD, cmpD, bD, mD, neD, eqD, truD, ixD, inD, inB, slD, lenD, intD, maxD, minD, addD, subD, negD, joinD, joinS, txsO, lowerD, upperD, startsD, endsD, stripD, with1, ordD, mulD, modD, fdivD, powD, intO, Out.then, bindT, setAll, itemsD, rangeD, runF, start', mkSg, mkSgG, opD, small62, wipeE, compL, forL, List.replicate, tyIs, okT, tk, z3]
    · have hs : ev P (.sl (.var 0) (.int 1) .nope) [.d (.str [32, 51]), .un, .un, .un, .un] τ = some (.str [51], τ) := by
        have z2 := sl1 (show 2 ≤ 4000 by omega)
        rw [ev, ev_var rfl]
        simp [evp, slD, z2]
      rw [ev, evs_cons (show ev P (.blt .int (.cons (.sl (.var 0) (.int 1) .nope) .nil)) [.d (.str [32, 51]), .un, .un, .un, .un] τ = some (.int 3, τ) from by
        rw [ev, evs_cons hs evs_nil]
        simp only [Option.bind_some, bD, int_3, Option.map_some]) evs_nil]
      simp [okT, tk, z1, rdD]
  rw [if_neg c3]
  have e1 : ¬ [32, 49] = rest := fun z => c1 z.symm
  have e2 : ¬ [32, 50] = rest := fun z => c2 z.symm
  have e3 : ¬ [32, 51] = rest := fun z => c3 z.symm
  have hps := cut1_len 34 rest
  have hpl : ∀ p ∈ cut1 34 rest, p.length ≤ rest.length := fun p hp => cut1_le 34 rest hp
  have hsp := split_D1 rest 34 (by omega) (by omega)
  have hne : cut1 34 rest ≠ [] := by
    obtain ⟨a, t, e⟩ := cut1_cons 34 rest
    rw [e]; simp
  generalize cut1 34 rest = ps at *
  have ho := odds_len ps
  have s1 : ir_read_parts = .cons (match ir_read_parts with | .cons s _ => s | _ => .nop) rpT := rfl
  rw [s1]
  refine (evB_nx (ρ1 := [.d (.str rest), .un, .un, .un, .un]) (τ1 := τ) (evS_f (τ1 := τ) (by simp [evB, evS, ev, evs, evt, evp, evi, binD, cmpD, bD, mD, neD, eqD, truD, ixD, inD, inB, slD, lenD, intD, maxD, minD, addD, subD, negD, joinD, joinS, txsO, lowerD, upperD, startsD, endsD, stripD, with1, ordD, mulD, modD, fdivD, powD, intO, Out.then, bindT, setAll, itemsD, rangeD, runF, start', mkSg, mkSgG, opD, small62, wipeE, compL, forL, List.replicate, tyIs, okT, tk, z3, e1, e2, e3]) evB_nil0)).trans ?_
  unfold rpT ir_read_parts
  simp only
  refine (evB_nx (evS_set (d := .lst (ps.map .str)) (τ1 := τ) (by
    rw [ev, ev_var rfl]
    simp only [Option.bind_some, evs_cons ev_str evs_nil, mD, hsp, Option.map_some]))).trans ?_
  simp only [List.set]
  have k0 := enum_par P (.d (.str rest)) (.d (.lst (ps.map .str))) .un .un .un 0 (.inl rfl) 0 rfl τ ps 0
  have hi : ∀ (a b c : Slot), evi P (.enum (.var 1)) [.d (.str rest), .d (.lst (ps.map .str)), a, b, c] τ = some (enumD 0 (ps.map .str), τ) := fun a b c => by
    rw [evi, ev_var rfl]; rfl
  refine (evB_nx (evS_set (ev_comp (hi _ _ _) k0 (sl1 (by simp; omega))))).trans ?_
  simp only [List.set, Nat.zero_mod, if_true]
  have hE : 1 ≤ (evens ps).length := by
    cases ps with
    | nil => exact absurd rfl hne
    | cons a r => rw [evens_cons]; simp
  have hEl : (evens ps).length ≤ 901 := by omega
  have e5 : ev P (.bin .Sub (.blt .len (.cons (.var 2) .nil)) (.int 1)) [.d (.str rest), .d (.lst (ps.map .str)), .d (.lst ((evens ps).map .str)), .un, .un] τ = some (.int (((evens ps).length - 1 : Nat) : Int), τ) := by
    rw [ev, ev, evs_cons (ev_var rfl) evs_nil]
    simp only [Option.bind_some, bD, lenD, Option.map_some, ev_int, binD, subD, List.length_map]
    have : ((evens ps).length : Int) - 1 = (((evens ps).length - 1 : Nat) : Int) := by omega
    rw [this]
  have hfl : ∀ n : Nat, (List.replicate n [D.str [32]]).flatten = (List.replicate n [32]).map D.str := by
    intro n
    induction n with
    | zero => rfl
    | succ n ih => rw [List.replicate_succ, List.flatten_cons, ih]; rfl
  have e6 : ev P (.bin .Mult (.lst (.cons (.str [32]) .nil)) (.bin .Sub (.blt .len (.cons (.var 2) .nil)) (.int 1))) [.d (.str rest), .d (.lst (ps.map .str)), .d (.lst ((evens ps).map .str)), .un, .un] τ = some (.lst ((List.replicate ((evens ps).length - 1) [32]).map .str), τ) := by
    rw [ev, ev_lst (evs_cons ev_str evs_nil) (by simp)]
    simp only [Option.bind_some, e5, binD, mulD]
    rw [if_pos ⟨by omega, by omega, by simp⟩]
    have et : ((((evens ps).length - 1 : Nat) : Int)).toNat = (evens ps).length - 1 := rfl
    rw [et, hfl]
    rfl
  have hrhs : ev P (.bin .Add (.bin .Mult (.lst (.cons (.str [32]) .nil)) (.bin .Sub (.blt .len (.cons (.var 2) .nil)) (.int 1))) (.lst (.cons (.str []) .nil))) [.d (.str rest), .d (.lst (ps.map .str)), .d (.lst ((evens ps).map .str)), .un, .un] τ = some (.lst ((List.replicate ((evens ps).length - 1) [32] ++ [[]]).map .str), τ) := by
    rw [ev, e6]
    have hs := sl1 (show (evens ps).length - 1 + 1 ≤ 4000 by omega)
    simp only [Option.bind_some, ev_lst (evs_cons ev_str evs_nil) (show ([D.str []]).length ≤ 4000 by simp), binD, addD, List.length_map, List.length_replicate, List.length_singleton]
    rw [if_pos hs, List.map_append]
    rfl
  have hcmp : cmpD .NotEq (.lst ((evens ps).map .str)) (.lst ((List.replicate ((evens ps).length - 1) [32] ++ [[]]).map .str)) = some (.bl (!decide (evens ps = List.replicate ((evens ps).length - 1) [32] ++ [[]]))) := by
    simp only [cmpD, neD, dep_lst, deps_strs2, eqv_strs2]
    rfl
  by_cases hev : evens ps = List.replicate ((evens ps).length - 1) [32] ++ [[]]
  · rw [if_pos hev]
    rw [decide_eq_true hev] at hcmp
    refine (evB_nx (evS_f (evt_cmp0 (ev_var rfl) hrhs hcmp) evB_nil0)).trans ?_
    have k1 := enum_par P (.d (.str rest)) (.d (.lst (ps.map .str))) (.d (.lst ((evens ps).map .str))) .un .un 1 (.inr rfl) 1 rfl τ ps 0
    refine evB_rt (evS_ret ?_)
    rw [ev, evs_cons (ev_comp (hi _ _ _) k1 (sl1 (by simp; omega))) evs_nil]
    have hs := sl1 (show (odds ps).length ≤ 4000 by omega)
    simp [bD, tupleD, okT, tk, hs, rdD]
  · rw [if_neg hev]
    rw [decide_eq_false hev] at hcmp
    exact evB_rt (evS_t (evt_cmp0 (ev_var rfl) hrhs hcmp) (evB_rt (evS_ret (by rw [ev]; rfl))))
/-! ### read_step, read_row -/
noncomputable def GRdS : GF := Grun false 4 false 1 ir_read_step [⟨"read_parts", false, 1, GRdP⟩] []
theorem readstep_ok (ns : List Int) (line : List Nat) (hl : line.length ≤ 900) (τ : TS) : GRdS ns [.str line] τ = some (readStep line, τ) := by
  refine Grun_in rfl ?_
  show evB _ ir_read_step [.d (.str line), .un, .un, .un] τ = _
  generalize hP : mkSg false [⟨"read_parts", false, 1, GRdP⟩] [] ns = P
  have tk : P.tk = false := by rw [← hP]; rfl
  have g0 : ∀ ds, P.G 0 ds = GRdP ns ds := fun ds => by rw [← hP]; rfl
  unfold ir_read_step
  have hsp := split_D1 line 32 (by omega) (by omega)
  obtain ⟨w, t, e⟩ := cut1_cons 32 line
  have hw : wordOf line = w := by unfold wordOf; rw [e]; rfl
  have hwl : w.length ≤ line.length := cut1_le 32 line (by rw [e]; exact List.mem_cons_self)
  rw [e] at hsp
  have z1 := sl1 (show line.length ≤ 4000 by omega)
  refine (evB_nx (evS_set (d := .str w) (τ1 := τ) ?_)).trans ?_
  · rw [ev, ev, ev_var rfl]
    simp only [Option.bind_some, evs_cons ev_str evs_nil, mD, hsp, Option.map_some, ev_int, ixD, List.map_cons, atI_zero]
  simp only [List.set]
  refine (evB_nx (evS_set (d := .str (line.drop w.length)) (τ1 := τ) ?_)).trans ?_
  · rw [ev, ev_var rfl]
    have hlen : evp P (.blt .len (.cons (.var 1) .nil)) [.d (.str line), .d (.str w), .un, .un] τ = some (some (w.length : Int), τ) := by
      rw [evp, evs_cons (ev_var rfl) evs_nil]
      have hz := sl1 (show w.length ≤ 4000 by omega)
      simp [bD, lenD, hz, intO]
    simp only [Option.bind_some]
    rw [hlen]
    simp only [Option.bind_some, evp, slD, z1, if_true, Option.map_some, cut_from]
  simp only [List.set]
  have hd : (line.drop w.length).length ≤ 900 := by rw [List.length_drop]; omega
  generalize hrest : line.drop w.length = rest at *
  have e3 : readStep line = stepOf w (partsOf rest) := by unfold readStep; rw [hw, hrest]
  rw [e3]
  have hparts : ev P (.ife (.cmp .Eq (.var 2) (.str [])) (.tup .nil) (.call 0 (.cons (.var 2) .nil))) [.d (.str line), .d (.str w), .d (.str rest), .un] τ = some (rdD (partsOf rest), τ) := by
    unfold partsOf
    by_cases h0 : rest = []
    · subst h0
      rw [ev, evt_cmp0 (ev_var rfl) ev_str (c := true) (by simp [cmpD, eqD])]
      simp only [Option.bind_some, if_true]
      have z0 := sl1 (show 0 ≤ 4000 by omega)
      rw [ev, evs_nil]
      simp [okT, tk, z0, rdD]
    · rw [ev, evt_cmp0 (ev_var rfl) ev_str (c := false) (by simp [cmpD, eqD, h0]), if_neg h0]
      simp only [Option.bind_some, Bool.false_eq_true, if_false]
      exact ev_call0 (evs_cons (ev_var rfl) evs_nil) (by rw [g0]; exact readparts_ok ns rest hd τ)
  refine (evB_nx (evS_set hparts)).trans ?_
  simp only [List.set]
  refine evB_rt (evS_ret ?_)
  have hol : ∀ l, partsOf rest = some l → l.length ≤ 1000 := by
    intro l hl
    unfold partsOf at hl
    by_cases h0 : rest = []
    · rw [if_pos h0] at hl; cases hl; simp
    rw [if_neg h0] at hl
    unfold readParts at hl
    split at hl
    · cases hl; simp
    split at hl
    · cases hl; simp
    split at hl
    · cases hl; simp
    split at hl
    · cases hl
      have h1 := (odds_len (cut1 34 rest)).2
      have h2 := cut1_len 34 rest
      simp only [List.length_map]
      omega
    · cases hl
  cases hp : partsOf rest with
  | none =>
    have z0 := sl1 (show 0 ≤ 4000 by omega)
    simp [evB, evS, ev, evs, evt, evp, evi, binD, cmpD, bD, mD, neD, eqD, truD, ixD, inD, inB, slD, lenD, intD, maxD, minD, addD, subD, negD, joinD, joinS, txsO, lowerD, upperD, startsD, endsD, stripD, with1, ordD, mulD, modD, fdivD, powD, intO, Out.then, bindT, setAll, itemsD, rangeD, runF, start', mkSg, mkSgG, opD, small62, wipeE, compL, forL, List.replicate, tyIs, rdD, stepOf, okT, tk, z0]
  | some l =>
    have h1 := hol l hp
    have hs := sl1 (show l.length + 1 ≤ 4000 by omega)
    simp [evB, evS, ev, evs, evt, evp, evi, binD, cmpD, bD, mD, neD, eqD, truD, ixD, inD, inB, slD, lenD, intD, maxD, minD, addD, subD, negD, joinD, joinS, txsO, lowerD, upperD, startsD, endsD, stripD, with1, ordD, mulD, modD, fdivD, powD, intO, Out.then, bindT, setAll, itemsD, rangeD, runF, start', mkSg, mkSgG, opD, small62, wipeE, compL, forL, List.replicate, tyIs, rdD, stepOf, okT, tk, hs]
noncomputable def GRdR : GF := Grun false 3 false 1 ir_read_row [⟨"read_step", false, 1, GRdS⟩, ⟨"is_row", false, 1, GIsRow false⟩] []
theorem readStep_bnd (line : List Nat) (hl : line.length ≤ 900) : bnd (readStep line) = true := by
  have hw : (wordOf line).length ≤ 900 := by
    obtain ⟨w, t, e⟩ := cut1_cons 32 line
    have := cut1_le 32 line (L := w) (by rw [e]; exact List.mem_cons_self)
    unfold wordOf
    rw [e]
    show w.length ≤ 900
    omega
  unfold readStep
  generalize hrest : line.drop (wordOf line).length = rest
  have hr : rest.length ≤ 900 := by rw [← hrest, List.length_drop]; omega
  unfold partsOf
  by_cases h0 : rest = []
  · rw [if_pos h0]
    simp [stepOf, bnd, bnds]; omega
  rw [if_neg h0]
  unfold readParts
  split
  · simp [stepOf, bnd, bnds]; omega
  split
  · simp [stepOf, bnd, bnds]; omega
  split
  · simp [stepOf, bnd, bnds]; omega
  split
  · have h1 := (odds_len (cut1 34 rest)).2
    have h2 := cut1_len 34 rest
    have h3 : bnds ((odds (cut1 34 rest)).map .str) = true := bnds_iff.mpr fun x hx => by
      obtain ⟨s, hs, rfl⟩ := List.mem_map.mp hx
      have := cut1_le 34 rest (odds_mem.2 hs)
      simp [bnd]; omega
    simp only [stepOf, bnd, bnds, h3, List.length_cons, List.length_map, Bool.and_true, Bool.and_eq_true, decide_eq_true_eq]
    omega
  · rfl
theorem readAll_bnd (v : List Nat) (hl : v.length ≤ 900) : bnd (.tup (readAll v)) = true := by
  unfold readAll
  split
  · rfl
  · have h2 := cut1_len 10 v
    have h3 : bnds ((cut1 10 v).map readStep) = true := bnds_iff.mpr fun x hx => by
      obtain ⟨s, hs, rfl⟩ := List.mem_map.mp hx
      exact readStep_bnd s (Nat.le_trans (cut1_le 10 v hs) hl)
    simp only [bnd, h3, List.length_map, Bool.and_true, decide_eq_true_eq]
    omega
def readRowD : D → D
  | .str v => readRow v
  | _ => .non
theorem readrow_ok (ns : List Int) (d : D) (hd : ∀ v, d = .str v → v.length ≤ 900) (τ : TS) : GRdR ns [d] τ = some (readRowD d, τ) := by
  refine Grun_in rfl ?_
  show evB _ ir_read_row [.d d, .un, .un] τ = _
  generalize hP : mkSg false [⟨"read_step", false, 1, GRdS⟩, ⟨"is_row", false, 1, GIsRow false⟩] [] ns = P
  have tk : P.tk = false := by rw [← hP]; rfl
  have g0 : ∀ ds, P.G 0 ds = GRdS ns ds := fun ds => by rw [← hP]; rfl
  have g1 : ∀ ds, P.G 1 ds = GIsRow false ns ds := fun ds => by rw [← hP]; rfl
  unfold ir_read_row
  cases d with
  | str v =>
    have hl := hd v rfl
    refine (evB_nx (evS_f (τ1 := τ) (by simp [evB, evS, ev, evs, evt, evp, evi, binD, cmpD, bD, mD, neD, eqD, truD, ixD, inD, inB, slD, lenD, intD, maxD, minD, addD, subD, negD, joinD, joinS, txsO, lowerD, upperD, startsD, endsD, stripD, with1, ordD, mulD, modD, fdivD, powD, intO, Out.then, bindT, setAll, itemsD, rangeD, runF, start', mkSg, mkSgG, opD, small62, wipeE, compL, forL, List.replicate, tyIs, tyIs]) evB_nil0)).trans ?_
    have hfound : ev P (.ife (.cmp .NotEq (.var 0) (.str [])) (.blt .tuple (.cons (.comp (.call 0 (.cons (.var 2) .nil)) (.nm 2) (.data (.mth .split (.var 0) (.cons (.str [10]) .nil))) .yes [2]) .nil)) (.tup .nil)) [.d (.str v), .un, .un] τ = some (.tup (readAll v), τ) := by
      unfold readAll
      by_cases h0 : v = []
      · subst h0
        have z0 := sl1 (show 0 ≤ 4000 by omega)
        rw [ev, evt_cmp0 (ev_var rfl) ev_str (c := false) (by simp [cmpD, neD])]
        simp only [Option.bind_some, Bool.false_eq_true, if_false]
        rw [ev, evs_nil]
        simp [okT, tk, z0]
      · rw [ev, evt_cmp0 (ev_var rfl) ev_str (c := true) (by simp [cmpD, neD, h0]), if_neg h0]
        simp only [Option.bind_some, if_true]
        have hsp := split_D1 v 10 (by omega) (by omega)
        have h2 := cut1_len 10 v
        have hc : compL (cbody P (.call 0 (.cons (.var 2) .nil)) (.nm 2) .yes [2] [.d (.str v), .un, .un]) ((cut1 10 v).map .str) τ = some ((cut1 10 v).map readStep, τ) := compL_map fun x hx => by
          unfold cbody
          simp only [wipeE, bindT, Option.bind_some, evt, if_true, List.set]
          rw [ev_call0 (evs_cons (ev_var rfl) evs_nil) (by rw [g0]; exact readstep_ok ns x (Nat.le_trans (cut1_le 10 v hx) hl) τ)]
          rfl
        have he : ev P (.mth .split (.var 0) (.cons (.str [10]) .nil)) [.d (.str v), .un, .un] τ = some (.lst ((cut1 10 v).map .str), τ) := by
          rw [ev, ev_var rfl]
          simp only [Option.bind_some, evs_cons ev_str evs_nil, mD, hsp, Option.map_some]
        rw [ev, evs_cons (ev_comp (evi_data he rfl) hc (sl1 (by rw [List.length_map]; omega))) evs_nil]
        have hs := sl1 (show (cut1 10 v).length ≤ 4000 by omega)
        simp [bD, tupleD, okT, tk, hs]
    refine (evB_nx (evS_set hfound)).trans ?_
    simp only [List.set]
    refine evB_rt (evS_ret ?_)
    have hcall : ev P (.call 1 (.cons (.var 1) .nil)) [.d (.str v), .d (.tup (readAll v)), .un] τ = some (.bl (isRowD (.tup (readAll v))), τ) :=
      ev_call0 (evs_cons (ev_var rfl) evs_nil) (by rw [g1]; exact isrow_ok false ns _ (readAll_bnd v hl) (by simp) τ)
    rw [ev, evt, hcall]
    show _ = some (readRow v, τ)
    unfold readRow
    cases isRowD (.tup (readAll v)) with
    | true =>
      simp only [Option.bind_some, truD, Option.map_some, if_true]
      exact ev_var rfl
    | false =>
      simp only [Option.bind_some, truD, Option.map_some, Bool.false_eq_true, if_false]
      rw [ev]
  | non => simp [evB, evS, ev, evs, evt, evp, evi, binD, cmpD, bD, mD, neD, eqD, truD, ixD, inD, inB, slD, lenD, intD, maxD, minD, addD, subD, negD, joinD, joinS, txsO, lowerD, upperD, startsD, endsD, stripD, with1, ordD, mulD, modD, fdivD, powD, intO, Out.then, bindT, setAll, itemsD, rangeD, runF, start', mkSg, mkSgG, opD, small62, wipeE, compL, forL, List.replicate, tyIs, tyIs, readRowD]
  | bl b => simp [evB, evS, ev, evs, evt, evp, evi, binD, cmpD, bD, mD, neD, eqD, truD, ixD, inD, inB, slD, lenD, intD, maxD, minD, addD, subD, negD, joinD, joinS, txsO, lowerD, upperD, startsD, endsD, stripD, with1, ordD, mulD, modD, fdivD, powD, intO, Out.then, bindT, setAll, itemsD, rangeD, runF, start', mkSg, mkSgG, opD, small62, wipeE, compL, forL, List.replicate, tyIs, tyIs, readRowD]
  | int i => simp [evB, evS, ev, evs, evt, evp, evi, binD, cmpD, bD, mD, neD, eqD, truD, ixD, inD, inB, slD, lenD, intD, maxD, minD, addD, subD, negD, joinD, joinS, txsO, lowerD, upperD, startsD, endsD, stripD, with1, ordD, mulD, modD, fdivD, powD, intO, Out.then, bindT, setAll, itemsD, rangeD, runF, start', mkSg, mkSgG, opD, small62, wipeE, compL, forL, List.replicate, tyIs, tyIs, readRowD]
  | tup xs => simp [evB, evS, ev, evs, evt, evp, evi, binD, cmpD, bD, mD, neD, eqD, truD, ixD, inD, inB, slD, lenD, intD, maxD, minD, addD, subD, negD, joinD, joinS, txsO, lowerD, upperD, startsD, endsD, stripD, with1, ordD, mulD, modD, fdivD, powD, intO, Out.then, bindT, setAll, itemsD, rangeD, runF, start', mkSg, mkSgG, opD, small62, wipeE, compL, forL, List.replicate, tyIs, tyIs, readRowD]
  | lst xs => simp [evB, evS, ev, evs, evt, evp, evi, binD, cmpD, bD, mD, neD, eqD, truD, ixD, inD, inB, slD, lenD, intD, maxD, minD, addD, subD, negD, joinD, joinS, txsO, lowerD, upperD, startsD, endsD, stripD, with1, ordD, mulD, modD, fdivD, powD, intO, Out.then, bindT, setAll, itemsD, rangeD, runF, start', mkSg, mkSgG, opD, small62, wipeE, compL, forL, List.replicate, tyIs, tyIs, readRowD]
end PD

set_option Elab.async false
set_option linter.all false
set_option maxRecDepth 100000
set_option maxHeartbeats 8000000
/-! k14: the law's own lines. -/
namespace PD
open PySem L2
theorem ev_adS {P : Sg} {a b : E} {ρ : Env'} {τ τ1 τ2 : TS} {x y : List Nat} (h : ev P a ρ τ = some (.str x, τ1)) (h2 : ev P b ρ τ1 = some (.str y, τ2)) (hl : x.length + y.length ≤ 4000) : ev P (.bin .Add a b) ρ τ = some (.str (x ++ y), τ2) := by
  rw [ev, h]
  simp only [Option.bind_some, h2, binD, addD, sl1 hl, if_true, Option.map_some]
theorem ev_adL {P : Sg} {a b : E} {ρ : Env'} {τ τ1 τ2 : TS} {xs ys : List D} (h : ev P a ρ τ = some (.lst xs, τ1)) (h2 : ev P b ρ τ1 = some (.lst ys, τ2)) (hl : xs.length + ys.length ≤ 4000) : ev P (.bin .Add a b) ρ τ = some (.lst (xs ++ ys), τ2) := by
  rw [ev, h]
  simp only [Option.bind_some, h2, binD, addD, sl1 hl, if_true, Option.map_some]
theorem ev_tpF {P : Sg} (ht : P.tk = false) {es : Es} {ρ : Env'} {τ τ1 : TS} {ds : List D} (h : evs P es ρ τ = some (ds, τ1)) (hl : ds.length ≤ 4000) : ev P (.tup es) ρ τ = some (.tup ds, τ1) := by
  rw [ev, h]
  simp only [Option.bind_some, okT, sl1 hl, ht, Bool.false_and, Bool.not_false, decide_true, Bool.and_true, if_true]
/-! ### _law_line -/
def lineP : D → List Nat
  | .int n => numS n
  | .str s => 39 :: (s ++ [39])
  | _ => []
theorem lineP_len {x : D} (h : PGood x) : (lineP x).length ≤ 1010 := by
  rcases h with ⟨n, hn, rfl⟩ | ⟨s, rfl, hs⟩
  · rcases hn with rfl | rfl | rfl
    · show (numS 1).length ≤ _; rw [numS_1]; decide
    · show (numS 2).length ≤ _; rw [numS_2]; decide
    · show (numS 3).length ≤ _; rw [numS_3]; decide
  · simp [lineP]; omega
abbrev lnB : Ss := (.cons (.set 1 (.bin .Add (.bin .Add (.var 1) (.str [32])) (.ife (.val (.isi (.var 2) .int)) (.blt .str (.cons (.var 2) .nil)) (.bin .Add (.bin .Add (.str [39]) (.var 2)) (.str [39]))))) .nil)
theorem line_loop (P : Sg) (d : D) (τ : TS) : ∀ (xs : List D) (f : List Nat) (g : Slot), (∀ x ∈ xs, PGood x) → f.length + 1100 * xs.length ≤ 3000 →
    ∃ g', forL (fun x ρ1 τ1 => (bindT (.nm 2) x ρ1).bind fun ρ2 => evB P lnB ρ2 τ1) xs [.d d, .d (.str f), g] τ = some (.nx [.d d, .d (.str (f ++ (xs.map fun x => 32 :: lineP x).flatten)), g'] τ)
  | [], f, g, _, _ => ⟨g, by simp [forL]⟩
  | x :: xs, f, g, h, hl => by
    simp only [List.length_cons] at hl
    have hx := h x List.mem_cons_self
    have hpl := lineP_len hx
    obtain ⟨g', e⟩ := line_loop P d τ xs (f ++ 32 :: lineP x) (.d x) (fun y hy => h y (List.mem_cons_of_mem _ hy)) (by simp; omega)
    refine ⟨g', ?_⟩
    have hp : ev P (.ife (.val (.isi (.var 2) .int)) (.blt .str (.cons (.var 2) .nil)) (.bin .Add (.bin .Add (.str [39]) (.var 2)) (.str [39]))) [.d d, .d (.str f), .d x] τ = some (.str (lineP x), τ) := by
      rcases hx with ⟨n, hn, rfl⟩ | ⟨s, rfl, hs⟩
      · rw [ev, evt, ev, ev_var rfl]
        simp only [Option.map_some, Option.bind_some, tyIs, truD, if_true]
        rw [ev, evs_cons (ev_var rfl) evs_nil]
        simp only [Option.bind_some, bD, numS_ok hn, Option.map_some]
        rfl
      · rw [ev, evt, ev, ev_var rfl]
        simp only [Option.map_some, Option.bind_some, tyIs, truD, Bool.false_eq_true, if_false]
        exact ev_adS (ev_adS ev_str (ev_var rfl) (by simp; omega)) ev_str (by simp; omega)
    rw [forL_step (ρ1 := [.d d, .d (.str (f ++ 32 :: lineP x)), .d x]) (τ1 := τ) ?_, e]
    · simp
    · simp only [bindT, Option.bind_some, List.set]
      refine (evB_nx (evS_set (ev_adS (ev_adS (ev_var rfl) ev_str (by simp; omega)) hp (by simp; omega)))).trans ?_
      simp [evB]
theorem sub1_app (a b : List Nat) : sub1 39 34 (a ++ b) = sub1 39 34 a ++ sub1 39 34 b := by simp [sub1]
theorem sub1_free : ∀ {l : List Nat}, 39 ∉ l → sub1 39 34 l = l
  | [], _ => rfl
  | c :: r, h => by
    have : c ≠ 39 := fun e => h (by rw [e]; exact List.mem_cons_self)
    have ih := sub1_free (l := r) fun m => h (List.mem_cons_of_mem _ m)
    show (if c = 39 then 34 else c) :: sub1 39 34 r = _
    rw [if_neg this, ih]
theorem sub1_cons (c : Nat) (r : List Nat) : sub1 39 34 (c :: r) = (if c = 39 then 34 else c) :: sub1 39 34 r := rfl
theorem t3_39 {s : List Nat} (h : Txt3 s) : 39 ∉ s := fun m => (sgL_ok (h.2.2 39 m)).2.2.1 rfl
theorem sub1_step {w : List Nat} {rest : List D} (h : VStep (.tup (.str w :: rest))) : sub1 39 34 (w ++ (rest.map fun x => 32 :: lineP x).flatten) = stepX (.tup (.str w :: rest)) := by
  cases h with
  | small => rw [stepX_small]; decide
  | num hw hn =>
    rw [stepX_num, sub1_app, sub1_free (fl_32 hw).2.2.2]
    rcases hn with rfl | rfl | rfl
    · simp [lineP, numS_1, sub1]
    · simp [lineP, numS_2, sub1]
    · simp [lineP, numS_3, sub1]
  | one hw hs =>
    rw [stepX_one, sub1_app, sub1_free (words1_32 hw).2.2.2]
    simp only [List.map_cons, List.map_nil, List.flatten_cons, List.flatten_nil, List.append_nil, lineP, sub1_cons, sub1_app, sub1_free (t3_39 hs)]
    rfl
  | @two w s c hw hs hc =>
    have hc' : ¬ c = 39 := (sgL_ok hc).2.2.1
    rw [stepX_two, sub1_app, sub1_free (mj_32 hw).2.2.2]
    simp only [List.map_cons, List.map_nil, List.flatten_cons, List.flatten_nil, List.append_nil, lineP, sub1_cons, sub1_app, sub1_free (t3_39 hs), List.cons_append, List.nil_append, List.append_assoc]
    simp [sub1, hc']
theorem line_ok (ns : List Int) (d : D) (h : VStep d) (τ : TS) : GLine false ns [d] τ = some (.str (stepX d), τ) := by
  obtain ⟨w, rest, rfl, h1, h2, h3⟩ := vstep_parts h
  unfold GLine
  refine (if_pos (c := ([D.tup (.str w :: rest)] : List D).length = 1) rfl).trans ?_
  show (evB (mkSg false [] [] ns) ir_line2 [.d (.tup (.str w :: rest)), .un, .un] τ).bind (outRep 1) = _
  obtain ⟨g', e⟩ := line_loop (mkSg false [] [] ns) (.tup (.str w :: rest)) τ rest w .un h3 (by omega)
  have hrun : evB (mkSg false [] [] ns) ir_line2 [.d (.tup (.str w :: rest)), .un, .un] τ = some (.nx [.d (.tup (.str w :: rest)), .d (.str (w ++ (rest.map fun x => 32 :: lineP x).flatten)), g'] τ) := by
    unfold ir_line2
    refine (evB_nx (evS_set (idx0 (i := 0) (ev_var rfl) rfl))).trans ?_
    simp only [List.set]
    refine (evB_nx (evS_fr (evi_data (ev_sl1T rfl rfl (by omega)) rfl) e)).trans ?_
    rw [evB]
  rw [hrun]
  have hlen : (w ++ (rest.map fun x => 32 :: lineP x).flatten).length ≤ 4000 := by
    have := congrArg List.length (sub1_step h)
    have e2 : ∀ l, (sub1 39 34 l).length = l.length := fun l => by simp [sub1]
    rw [e2] at this
    have h4 := (stepX_10 h).2.2
    omega
  simp only [Option.bind_some, outRep, List.getElem?_cons_succ, List.getElem?_cons_zero]
  rw [if_pos hlen, sub1_step h]
/-! ### _law_all_lines -/
def ir_law_all_lines : Ss := (.cons (.set 2 (.comp (.call 0 (.cons (.var 4) .nil)) (.nm 4) (.data (.var 1)) .yes [4])) (.cons (.set 3 (.str [34])) (.frz 2 (.cons (.setO 2 (.bin .Add (.var 2) (.lst (.cons (.str [115, 109, 97, 108, 108, 32]) (.cons (.str [32, 115, 109, 97, 108, 108]) (.cons (.str [102, 105, 114, 115, 116, 32, 51, 32]) (.cons (.str [102, 105, 114, 115, 116, 32, 32, 51]) (.cons (.str [102, 105, 114, 115, 116, 32, 48, 51]) (.cons (.str [102, 105, 114, 115, 116]) (.cons (.str [116, 114, 105, 109]) (.cons (.bin .Add (.str [116, 114, 105, 109, 32]) (.var 3)) (.cons (.str [100, 114, 111, 112, 32, 97]) .nil)))))))))))) (.frz 2 (.cons (.setO 2 (.bin .Add (.var 2) (.lst (.cons (.bin .Add (.bin .Add (.bin .Add (.str [116, 114, 105, 109, 32]) (.var 3)) (.str [98, 97])) (.var 3)) (.cons (.bin .Add (.str [102, 114, 111, 110, 116, 32]) (.bin .Mult (.var 3) (.int 2))) .nil))))) (.cons (.app 2 (.bin .Add (.bin .Add (.bin .Add (.bin .Add (.bin .Add (.bin .Add (.str [109, 97, 112, 32]) (.var 3)) (.str [97])) (.var 3)) (.var 3)) (.str [98])) (.var 3))) (.frz 2 (.cons (.ret (.var 2)) .nil)))))))))
noncomputable def GAll : GF := Grun false 5 true 1 ir_law_all_lines [⟨"_law_line", false, 1, GLine false⟩] []
def L12 : List (List Nat) := [[115, 109, 97, 108, 108, 32], [32, 115, 109, 97, 108, 108], [102, 105, 114, 115, 116, 32, 51, 32], [102, 105, 114, 115, 116, 32, 32, 51], [102, 105, 114, 115, 116, 32, 48, 51], [102, 105, 114, 115, 116], [116, 114, 105, 109], [116, 114, 105, 109, 32, 34], [100, 114, 111, 112, 32, 97],
  [116, 114, 105, 109, 32, 34, 98, 97, 34], [102, 114, 111, 110, 116, 32, 34, 34], [109, 97, 112, 32, 34, 97, 34, 34, 98, 34]]
theorem lines_comp (P : Sg) (ns : List Int) (f : Nat) (g0 : ∀ ds, P.G f ds = GLine false ns ds) (k : Nat) (l : List D) (hv : ∀ d ∈ l, VStep d) (ρ : Env') (hk : k < ρ.length) (τ : TS) :
    compL (cbody P (.call f (.cons (.var k) .nil)) (.nm k) .yes [k] ρ) l τ = some ((l.map stepX).map .str, τ) := by
  have := compL_map (f := cbody P (.call f (.cons (.var k) .nil)) (.nm k) .yes [k] ρ) (g := id) (h := fun x => D.str (stepX x)) (τ := τ) (l := l) fun x hx => by
    unfold cbody
    simp only [wipeE, bindT, Option.bind_some, evt, if_true, id]
    rw [ev_call0 (evs_cons (ev_var (d := x) (by rw [List.getElem?_set_self (by rw [List.length_set]; exact hk)])) evs_nil) (by rw [g0]; exact line_ok ns x (hv x hx) τ)]
    rfl
  rw [List.map_id] at this
  rw [this, List.map_map]; rfl
theorem all_ok (ns : List Int) (l : List D) (hl : l.length ≤ 100) (hv : ∀ d ∈ l, VStep d) (τ : TS) : GAll ns [.tup l] τ = some (.lst ((l.map stepX ++ L12).map .str), τ) := by
  refine Grun_in rfl ?_
  show evB _ ir_law_all_lines [.tape, .d (.tup l), .un, .un, .un] τ = _
  generalize hP : mkSg false [⟨"_law_line", false, 1, GLine false⟩] [] ns = P
  have g0 : ∀ ds, P.G 0 ds = GLine false ns ds := fun ds => by rw [← hP]; rfl
  unfold ir_law_all_lines
  have hc := lines_comp P ns 0 g0 4 l hv [.tape, .d (.tup l), .un, .un, .un] (by simp) τ
  refine (evB_nx (evS_set (ev_comp (evi_data (ev_var rfl) rfl) hc (sl1 (by simp; omega))))).trans ?_
  simp only [List.set]
  refine (evB_nx (evS_set ev_str)).trans ?_
  simp only [List.set]
  rw [evB]
  simp only [List.getElem?_cons_succ, List.getElem?_cons_zero]
  refine (evB_nx (evS_setO (ev_adL (ev_var rfl) (ev_lst (evs_cons ev_str (evs_cons ev_str (evs_cons ev_str (evs_cons ev_str (evs_cons ev_str (evs_cons ev_str (evs_cons ev_str (evs_cons (ev_adS ev_str (ev_var rfl) (by decide)) (evs_cons ev_str evs_nil))))))))) (by simp)) (by simp; omega)))).trans ?_
  simp only [List.set]
  rw [evB]
  simp only [List.getElem?_cons_succ, List.getElem?_cons_zero, List.set]
  have hq2 : ev P (.bin .Mult (.var 3) (.int 2)) [.tape, .d (.tup l), .d (.lst (List.map D.str (List.map stepX l) ++ [.str [115, 109, 97, 108, 108, 32], .str [32, 115, 109, 97, 108, 108], .str [102, 105, 114, 115, 116, 32, 51, 32], .str [102, 105, 114, 115, 116, 32, 32, 51], .str [102, 105, 114, 115, 116, 32, 48, 51], .str [102, 105, 114, 115, 116], .str [116, 114, 105, 109], .str ([116, 114, 105, 109, 32] ++ [34]), .str [100, 114, 111, 112, 32, 97]])), .d (.str [34]), .un] τ = some (.str [34, 34], τ) := by
    rw [ev, ev_var rfl]
    simp [ev_int, binD, mulD, List.replicate]
  refine (evB_nx (evS_setO (ev_adL (ev_var rfl) (ev_lst (evs_cons (ev_adS (ev_adS (ev_adS ev_str (ev_var rfl) (by decide)) ev_str (by decide)) (ev_var rfl) (by decide)) (evs_cons (ev_adS ev_str hq2 (by decide)) evs_nil)) (by simp)) (by simp; omega)))).trans ?_
  simp only [List.set]
  have happ : ∀ (xs : List D), xs.length ≤ 200 → evS P (.app 2 (.bin .Add (.bin .Add (.bin .Add (.bin .Add (.bin .Add (.bin .Add (.str [109, 97, 112, 32]) (.var 3)) (.str [97])) (.var 3)) (.var 3)) (.str [98])) (.var 3))) [.tape, .d (.tup l), .ol xs, .d (.str [34]), .un] τ = some (.nx [.tape, .d (.tup l), .ol (xs ++ [.str [109, 97, 112, 32, 34, 97, 34, 34, 98, 34]]), .d (.str [34]), .un] τ) := fun xs hx => by
    have hs := sl1 (show xs.length + 1 ≤ 4000 by omega)
    rw [evS]
    simp only [List.getElem?_cons_succ, List.getElem?_cons_zero]
    rw [ev_adS (ev_adS (ev_adS (ev_adS (ev_adS (ev_adS ev_str (ev_var rfl) (by decide)) ev_str (by decide)) (ev_var rfl) (by decide)) (ev_var rfl) (by decide)) ev_str (by decide)) (ev_var rfl) (by decide)]
    simp only [Option.bind_some]
    rw [if_pos (by omega)]
    rfl
  refine (evB_nx (happ _ (by simp; omega))).trans ?_
  rw [evB]
  simp only [List.getElem?_cons_succ, List.getElem?_cons_zero, List.set]
  refine evB_rt (evS_ret ?_)
  rw [ev_var rfl]
  simp [L12]
end PD

set_option Elab.async false
set_option linter.all false
set_option maxRecDepth 100000
set_option maxHeartbeats 8000000
/-! k14: _law_step_of. -/
namespace PD
open PySem L2
/-! ### _law_step_of -/
def ir_law_step_of : Ss := (.cons (.unp (.cons (.nm 1) (.cons (.nm 2) .nil)) (.tup (.cons (.idx (.mth .split (.var 0) (.cons (.str [32]) .nil)) (.int 0)) (.cons (.mth .split (.var 0) (.cons (.str [34]) .nil)) .nil)))) (.cons (.ife (.cmp .Gt (.blt .len (.cons (.var 2) .nil)) (.int 1)) (.cons (.ret (.bin .Add (.tup (.cons (.var 1) .nil)) (.blt .tuple (.cons (.comp (.idx (.var 2) (.var 3)) (.nm 3) (.rng3 (.int 1) (.blt .len (.cons (.var 2) .nil)) (2)) .yes [3]) .nil)))) .nil) .nil) (.cons (.ret (.ife (.cmp .In (.sl (.var 0) (.neg (.int 2)) .nope) (.tup (.cons (.str [32, 49]) (.cons (.str [32, 50]) (.cons (.str [32, 51]) .nil))))) (.tup (.cons (.var 1) (.cons (.blt .int (.cons (.sl (.var 0) (.neg (.int 1)) .nope) .nil)) .nil))) (.tup (.cons (.var 1) .nil)))) .nil)))
noncomputable def GSOf : GF := Grun false 4 false 1 ir_law_step_of [] []
theorem compL_pure {f : D → TS → Option (Option D × TS)} {Ok : D → Prop} {τ : TS} : ∀ (xs : List D), (∀ x ∈ xs, ∃ y, f x τ = some (some y, τ) ∧ Ok y) → ∃ ys, compL f xs τ = some (ys, τ) ∧ ys.length = xs.length ∧ ∀ y ∈ ys, Ok y
  | [], _ => ⟨[], rfl, rfl, by simp⟩
  | x :: xs, h => by
    obtain ⟨y, e1, h1⟩ := h x List.mem_cons_self
    obtain ⟨ys, e2, h2, h3⟩ := compL_pure xs fun z hz => h z (List.mem_cons_of_mem _ hz)
    refine ⟨y :: ys, ?_, by simp [h2], fun z hz => ?_⟩
    · rw [compL, e1]
      simp only [Option.bind_some, e2]
    · rcases List.mem_cons.mp hz with q | q
      · rw [q]; exact h1
      · exact h3 z q
theorem last2 {line : List Nat} {a b : Nat} (h : line.drop (line.length - 2) = [a, b]) : line.drop (line.length - 1) = [b] := by
  have hl := congrArg List.length h
  rw [List.length_drop] at hl
  simp only [List.length_cons, List.length_nil] at hl
  have e : line.drop (line.length - 1) = (line.drop (line.length - 2)).drop 1 := by
    rw [List.drop_drop]
    congr 1
    omega
  rw [e, h]; rfl
theorem evi_rng3 {P : Sg} {a b : E} {m n c : Int} {k : Nat} {ρ : Env'} {τ τ1 τ2 : TS} (h1 : ev P a ρ τ = some (.int m, τ1)) (h2 : ev P b ρ τ1 = some (.int n, τ2)) (hc : c ≠ 0 ∧ c.natAbs < 1073741824) (hs : Builtin.Range.small m n c = true) (hk : Builtin.Range.rangeSize m n c = (k : Int)) : evi P (.rng3 a b c) ρ τ = some (rangeD m k c, τ2) := by
  rw [evi, h1]
  simp only [Option.bind_some, h2, intO]
  rw [if_pos ⟨hc.1, hc.2, hs, by rw [hk]; exact Int.natCast_nonneg k⟩, hk]
  rfl
theorem two_ok : (2 : Int) ≠ 0 ∧ (2 : Int).natAbs < 1073741824 := ⟨by decide, by decide⟩
theorem small_ok {n k : Nat} (h : 1 < n) (hn : n ≤ 2000) (hk : Builtin.Range.rangeSize 1 (n : Int) 2 = (k : Int)) : Builtin.Range.small 1 (n : Int) 2 = true := by
  have hk2 : k ≤ 2000 := by
    unfold Builtin.Range.rangeSize at hk
    rw [if_pos (by omega), if_pos (by omega)] at hk
    omega
  have fit : ∀ x : Int, 0 ≤ x → x ≤ 3000 → Builtin.Range.rangeFitsLong x = true := fun x h0 h1 => by
    unfold Builtin.Range.rangeFitsLong
    rw [Bool.and_eq_true, decide_eq_true_eq, decide_eq_true_eq]
    omega
  unfold Builtin.Range.small
  rw [hk, if_pos (by omega), fit 1 (by omega) (by omega), fit n (by omega) (by omega), fit 2 (by omega) (by omega), fit k (by omega) (by omega), fit _ (by omega) (by omega)]
  simp
theorem neg_part {P : Sg} {k : Int} {ρ : Env'} {τ : TS} : evp P (.neg (.int k)) ρ τ = some (some (-k), τ) := by
  rw [evp, ev_int]; rfl
theorem sl_last {P : Sg} {line : List Nat} (hl : line.length ≤ 900) {ρ : Env'} {τ : TS} (h : ρ[0]? = some (.d (.str line))) (k : Nat) (hk : 0 < k) (ki : Int) (e : ki = k) : ev P (.sl (.var 0) (.neg (.int ki)) .nope) ρ τ = some (.str (line.drop (line.length - k)), τ) := by
  subst e
  have z0 := sl1 (show line.length ≤ 4000 by omega)
  rw [ev, ev_var h]
  simp only [Option.bind_some]
  rw [neg_part]
  simp only [Option.bind_some, evp, slD, if_pos z0, Option.map_some, cut_last _ _ hk]
theorem odd_k {n : Nat} (h : 1 < n) : ∃ k : Nat, Builtin.Range.rangeSize 1 (n : Int) 2 = (k : Int) ∧ (k = 0 ∨ 1 + 2 * (k - 1) < n) ∧ k ≤ n := by
  unfold Builtin.Range.rangeSize
  rw [if_pos (by omega), if_pos (by omega)]
  exact ⟨(n - 1 - 1) / 2 + 1, by omega, .inr (by omega), by omega⟩
theorem odd_comp (P : Sg) (ps : List (List Nat)) (r0 r1 r3 : Slot) (N : Nat) (hN : N ≤ 900) (hpl : ∀ p ∈ ps, p.length ≤ N) (k : Nat) (hk : k = 0 ∨ 1 + 2 * (k - 1) < ps.length) (τ : TS) : ∃ ys, compL (cbody P (.idx (.var 2) (.var 3)) (.nm 3) .yes [3] [r0, r1, .d (.lst (ps.map .str)), r3]) (rangeD 1 k 2) τ = some (ys, τ) ∧ ys.length = (rangeD 1 k 2).length ∧ ∀ y ∈ ys, bnd y = true := by
  refine compL_pure (Ok := fun y => bnd y = true) (rangeD 1 k 2) fun x hx => ?_
  unfold rangeD at hx
  obtain ⟨i, hi, rfl⟩ := List.mem_map.mp hx
  have hi := List.mem_range.mp hi
  have hix : 1 + i * 2 < ps.length := by omega
  refine ⟨.str ps[1 + i * 2], ?_, ?_⟩
  · unfold cbody
    simp only [wipeE, bindT, Option.bind_some, evt, if_true, List.set]
    have hat : atI (ps.map D.str) (1 + (i : Int) * 2) = some (.str ps[1 + i * 2]) := by
      have := atI_nat (xs := ps.map D.str) (j := 1 + i * 2) (v := .str ps[1 + i * 2]) (by rw [List.getElem?_map, List.getElem?_eq_getElem hix]; rfl)
      rw [← this]
      congr 1
    rw [ev, ev_var rfl]
    simp only [Option.bind_some, ev_var (show ([r0, r1, .d (.lst (ps.map .str)), .d (.int (1 + (i : Int) * 2))] : Env')[3]? = some (.d (.int (1 + (i : Int) * 2))) from rfl), ixD, hat, Option.map_some]
  · have := hpl _ (List.getElem_mem hix)
    simp [bnd]; omega
abbrev soT : E := (.bin .Add (.tup (.cons (.var 1) .nil)) (.blt .tuple (.cons (.comp (.idx (.var 2) (.var 3)) (.nm 3) (.rng3 (.int 1) (.blt .len (.cons (.var 2) .nil)) (2)) .yes [3]) .nil)))
abbrev soF : E := (.ife (.cmp .In (.sl (.var 0) (.neg (.int 2)) .nope) (.tup (.cons (.str [32, 49]) (.cons (.str [32, 50]) (.cons (.str [32, 51]) .nil))))) (.tup (.cons (.var 1) (.cons (.blt .int (.cons (.sl (.var 0) (.neg (.int 1)) .nope) .nil)) .nil))) (.tup (.cons (.var 1) .nil)))
abbrev soU : S := (.unp (.cons (.nm 1) (.cons (.nm 2) .nil)) (.tup (.cons (.idx (.mth .split (.var 0) (.cons (.str [32]) .nil)) (.int 0)) (.cons (.mth .split (.var 0) (.cons (.str [34]) .nil)) .nil))))
abbrev soC : Tt := (.cmp .Gt (.blt .len (.cons (.var 2) .nil)) (.int 1))
theorem so_eq : ir_law_step_of = .cons soU (.cons (.ife soC (.cons (.ret soT) .nil) .nil) (.cons (.ret soF) .nil)) := rfl
theorem so_len (P : Sg) (a b c : Slot) (ps : List (List Nat)) (τ : TS) : ev P (.blt .len (.cons (.var 2) .nil)) [a, b, .d (.lst (ps.map .str)), c] τ = some (.int (ps.length : Int), τ) := by
  rw [ev, evs_cons (ev_var rfl) evs_nil]
  simp [bD, lenD]
theorem so_i {P : Sg} {b : E} {n k : Nat} {ρ : Env'} {τ : TS} (hb : ev P b ρ τ = some (.int (n : Int), τ)) (h1 : 1 < n) (hn : n ≤ 2000) (hk : Builtin.Range.rangeSize 1 (n : Int) 2 = (k : Int)) : evi P (.rng3 (.int 1) b 2) ρ τ = some (rangeD 1 k 2, τ) :=
  evi_rng3 ev_int hb two_ok (small_ok h1 hn hk) hk
theorem so_y {ys : List D} {k : Nat} (l5 : ys.length = (rangeD 1 k 2).length) : ys.length = k := by
  rw [l5]
  simp [rangeD]
theorem so_c {P : Sg} (tk : P.tk = false) {e : E} {ρ : Env'} {τ : TS} {ys : List D} (h : ev P e ρ τ = some (.lst ys, τ)) (hl : ys.length ≤ 901) {w : List Nat} (hw : ρ[1]? = some (.d (.str w))) : ev P (.bin .Add (.tup (.cons (.var 1) .nil)) (.blt .tuple (.cons e .nil))) ρ τ = some (.tup ([.str w] ++ ys), τ) := by
  have hs := sl1 (show ys.length ≤ 4000 by omega)
  have hok : okT P.tk ys = true := by rw [tk]; simp [okT, hs]
  have ht : ev P (.blt .tuple (.cons e .nil)) ρ τ = some (.tup ys, τ) := by
    rw [ev, evs_cons h evs_nil]
    simp only [Option.bind_some, bD, tupleD, if_pos hok, Option.map_some]
  have hok2 : okT P.tk ([D.str w] ++ ys) = true := by
    have := sl1 (show ([D.str w] ++ ys).length ≤ 4000 by simp; omega)
    rw [tk]
    simp only [okT, this, decide_true, Bool.false_and, Bool.not_false, Bool.and_true]
  rw [ev, ev_tpF tk (evs_cons (ev_var hw) evs_nil) (by simp)]
  simp only [Option.bind_some, ht, binD, addD, if_pos hok2, Option.map_some]
theorem so_t {P : Sg} (tk : P.tk = false) (line w : List Nat) (ps : List (List Nat)) (hl : line.length ≤ 900) (hps : ps.length ≤ line.length + 1) (hpl : ∀ p ∈ ps, p.length ≤ line.length) (h1 : 1 < ps.length) (τ : TS) :
    ∃ ys, ev P soT [.d (.str line), .d (.str w), .d (.lst (ps.map .str)), .un] τ = some (.tup ([.str w] ++ ys), τ) ∧ ys.length ≤ 901 ∧ ∀ y ∈ ys, bnd y = true := by
  obtain ⟨k, hk, hk2, hk3⟩ := odd_k h1
  have hi := so_i (so_len P (.d (.str line)) (.d (.str w)) .un ps τ) h1 (by omega) hk
  obtain ⟨ys, e5, l5, q5⟩ := odd_comp P ps (.d (.str line)) (.d (.str w)) .un line.length hl hpl k hk2 τ
  have hyl : ys.length ≤ 901 := by
    have := so_y l5
    omega
  exact ⟨ys, so_c tk (ev_comp hi e5 (sl1 (by omega))) hyl rfl, hyl, q5⟩
theorem so_num {c : Nat} {n : Int} (hc : c = 49 ∧ n = 1 ∨ c = 50 ∧ n = 2 ∨ c = 51 ∧ n = 3) : intD [.str [c]] = some (.int n) := by
  rcases hc with ⟨rfl, rfl⟩ | ⟨rfl, rfl⟩ | ⟨rfl, rfl⟩
  · exact int_1
  · exact int_2
  · exact int_3
theorem so_in {l : List Nat} {b : Bool} (h : b = decide (l = [32, 49] ∨ l = [32, 50] ∨ l = [32, 51])) : cmpD .In (.str l) (.tup [.str [32, 49], .str [32, 50], .str [32, 51]]) = some (.bl b) := by
  rw [h]
  by_cases c1 : l = [32, 49]
  · subst c1; rfl
  by_cases c2 : l = [32, 50]
  · subst c2; rfl
  by_cases c3 : l = [32, 51]
  · subst c3; rfl
  have a1 : ¬ [32, 49] = l := fun z => c1 z.symm
  have a2 : ¬ [32, 50] = l := fun z => c2 z.symm
  have a3 : ¬ [32, 51] = l := fun z => c3 z.symm
  simp [cmpD, inD, inB, a1, a2, a3, c1, c2, c3]
theorem so_f {P : Sg} (tk : P.tk = false) (line w : List Nat) (ps : List (List Nat)) (hl : line.length ≤ 900) (hw : w.length ≤ 900) (τ : TS) :
    ∃ d, ev P soF [.d (.str line), .d (.str w), .d (.lst (ps.map .str)), .un] τ = some (d, τ) ∧ bnd d = true := by
  have hs2 := sl_last (P := P) hl (ρ := [.d (.str line), .d (.str w), .d (.lst (ps.map .str)), .un]) (τ := τ) rfl 2 (by omega) 2 rfl
  have hs1 := sl_last (P := P) hl (ρ := [.d (.str line), .d (.str w), .d (.lst (ps.map .str)), .un]) (τ := τ) rfl 1 (by omega) 1 rfl
  have ht3 : ev P (.tup (.cons (.str [32, 49]) (.cons (.str [32, 50]) (.cons (.str [32, 51]) .nil)))) [.d (.str line), .d (.str w), .d (.lst (ps.map .str)), .un] τ = some (.tup [.str [32, 49], .str [32, 50], .str [32, 51]], τ) := ev_tpF tk (evs_cons ev_str (evs_cons ev_str (evs_cons ev_str evs_nil))) (by simp)
  generalize hz : line.drop (line.length - 2) = z at *
  have hgo : ∀ b : Bool, b = decide (z = [32, 49] ∨ z = [32, 50] ∨ z = [32, 51]) → ev P soF [.d (.str line), .d (.str w), .d (.lst (ps.map .str)), .un] τ = if b then ev P (.tup (.cons (.var 1) (.cons (.blt .int (.cons (.sl (.var 0) (.neg (.int 1)) .nope) .nil)) .nil))) [.d (.str line), .d (.str w), .d (.lst (ps.map .str)), .un] τ else ev P (.tup (.cons (.var 1) .nil)) [.d (.str line), .d (.str w), .d (.lst (ps.map .str)), .un] τ := fun b hb => by
    rw [ev, evt_cmp0 hs2 ht3 (so_in hb)]
    rfl
  by_cases hin : z = [32, 49] ∨ z = [32, 50] ∨ z = [32, 51]
  · obtain ⟨c, n, hzc, hcn⟩ : ∃ (c : Nat) (n : Int), z = [32, c] ∧ (c = 49 ∧ n = 1 ∨ c = 50 ∧ n = 2 ∨ c = 51 ∧ n = 3) := by
      rcases hin with h | h | h
      · exact ⟨49, 1, h, .inl ⟨rfl, rfl⟩⟩
      · exact ⟨50, 2, h, .inr (.inl ⟨rfl, rfl⟩)⟩
      · exact ⟨51, 3, h, .inr (.inr ⟨rfl, rfl⟩)⟩
    refine ⟨.tup [.str w, .int n], ?_, ?_⟩
    · rw [hgo true (decide_eq_true hin).symm, if_pos rfl]
      refine ev_tpF tk (evs_cons (ev_var rfl) (evs_cons ?_ evs_nil)) (by simp)
      rw [ev, evs_cons hs1 evs_nil, last2 (hz.trans hzc)]
      simp only [Option.bind_some, bD, so_num hcn, Option.map_some]
    · simp only [bnd, bnds, List.length_cons, List.length_nil, Bool.and_true, Bool.and_eq_true, decide_eq_true_eq]
      omega
  · refine ⟨.tup [.str w], ?_, ?_⟩
    · rw [hgo false (decide_eq_false hin).symm, if_neg Bool.false_ne_true]
      exact ev_tpF tk (evs_cons (ev_var rfl) evs_nil) (by simp)
    · simp only [bnd, bnds, List.length_cons, List.length_nil, Bool.and_true, Bool.and_eq_true, decide_eq_true_eq]
      omega
theorem so_u {P : Sg} (tk : P.tk = false) (line w : List Nat) (t : List (List Nat)) (e : cut1 32 line = w :: t) (hl : line.length ≤ 900) (τ : TS) :
    evS P soU [.d (.str line), .un, .un, .un] τ = some (.nx [.d (.str line), .d (.str w), .d (.lst ((cut1 34 line).map .str)), .un] τ) := by
  have h32 := split_D1 line 32 (by omega) (by omega)
  have h34 := split_D1 line 34 (by omega) (by omega)
  rw [e] at h32
  have e1 : ev P (.mth .split (.var 0) (.cons (.str [32]) .nil)) [.d (.str line), .un, .un, .un] τ = some (.lst ((w :: t).map .str), τ) := by
    rw [ev, ev_var rfl]
    simp only [Option.bind_some, evs_cons ev_str evs_nil, mD, h32, Option.map_some]
  have e2 : ev P (.mth .split (.var 0) (.cons (.str [34]) .nil)) [.d (.str line), .un, .un, .un] τ = some (.lst ((cut1 34 line).map .str), τ) := by
    rw [ev, ev_var rfl]
    simp only [Option.bind_some, evs_cons ev_str evs_nil, mD, h34, Option.map_some]
  have e3 : ev P (.idx (.mth .split (.var 0) (.cons (.str [32]) .nil)) (.int 0)) [.d (.str line), .un, .un, .un] τ = some (.str w, τ) := by
    rw [ev, e1]
    simp only [Option.bind_some, ev_int, ixD, List.map_cons, atI_zero, Option.map_some]
  rw [evS, ev_tpF tk (evs_cons e3 (evs_cons e2 evs_nil)) (by simp)]
  simp [bindT]
theorem stepof_ok (ns : List Int) (line : List Nat) (hl : line.length ≤ 900) (τ : TS) : ∃ d, GSOf ns [.str line] τ = some (d, τ) ∧ bnd d = true := by
  obtain ⟨w, t, e⟩ := cut1_cons 32 line
  have hwl : w.length ≤ line.length := cut1_le 32 line (by rw [e]; exact List.mem_cons_self)
  have hps := cut1_len 34 line
  have hpl : ∀ p ∈ cut1 34 line, p.length ≤ line.length := fun p hp => cut1_le 34 line hp
  have eu := so_u (P := mkSg false [] [] ns) rfl line w t e hl τ
  generalize cut1 34 line = ps at *
  have hlen := so_len (mkSg false [] [] ns) (.d (.str line)) (.d (.str w)) .un ps τ
  by_cases h1 : 1 < ps.length
  · obtain ⟨ys, e5, l5, q5⟩ := so_t (P := mkSg false [] [] ns) rfl line w ps hl hps hpl h1 τ
    refine ⟨.tup ([.str w] ++ ys), Grun_in rfl ?_, ?_⟩
    · show evB _ ir_law_step_of [.d (.str line), .un, .un, .un] τ = _
      rw [so_eq]
      exact (evB_nx eu).trans (evB_rt (evS_t (evt_cmp0 hlen ev_int (c := true) (by simp only [cmpD, gtD, ordD]; rw [decide_eq_true (by omega)])) (evB_rt (evS_ret e5))))
    · simp only [bnd, List.cons_append, List.nil_append, List.length_cons, bnds, Bool.and_eq_true, decide_eq_true_eq]
      exact ⟨by omega, by omega, bnds_iff.mpr q5⟩
  · obtain ⟨d, e5, q5⟩ := so_f (P := mkSg false [] [] ns) rfl line w ps hl (by omega) τ
    refine ⟨d, Grun_in rfl ?_, q5⟩
    show evB _ ir_law_step_of [.d (.str line), .un, .un, .un] τ = _
    rw [so_eq]
    exact (evB_nx eu).trans ((evB_nx (evS_f (evt_cmp0 hlen ev_int (c := false) (by simp only [cmpD, gtD, ordD]; rw [decide_eq_false (by omega)])) evB_nil0)).trans (evB_rt (evS_ret e5)))
end PD

set_option Elab.async false
set_option linter.all false
set_option maxRecDepth 100000
set_option maxHeartbeats 8000000
/-! k14: the law's own loops. -/
namespace PD
open PySem L2
abbrev s14a : S := (.set 3 (.callT 0 1 (.cons (.int 3) .nil)))
abbrev s14b : S := (.set 4 (.mth .join (.str [10]) (.cons (.comp (.call 1 (.cons (.var 12) .nil)) (.nm 12) (.data (.var 3)) .yes [12]) .nil)))
abbrev s14c : S := (.ife (.or (.cmp .NotEq (.call 2 (.cons (.var 3) .nil)) (.var 4)) (.one (.not (.val (.call 3 (.cons (.call 4 (.cons (.var 4) .nil)) (.cons (.var 3) .nil))))))) (.cons (.ret (.bl false)) .nil) .nil)
abbrev l14L : E := (.sl (.callT 5 1 (.cons (.var 3) .nil)) (.blt .len (.cons (.var 3) .nil)) .nope)
abbrev b14L : Ss := (.cons (.ife (.or (.isN true (.call 4 (.cons (.var 5) .nil))) (.one (.isN true (.call 4 (.cons (.bin .Add (.bin .Add (.var 4) (.str [10])) (.var 5)) .nil))))) (.cons (.ret (.bl false)) .nil) .nil) .nil)
abbrev s14e : S := (.set 6 (.callT 6 1 (.cons (.bin .Add (.blt .len (.cons (.var 4) .nil)) (.int 1)) .nil)))
abbrev s14f : S := (.set 7 (.lst (.cons .non (.cons (.int 5) (.cons (.var 3) (.cons (.bin .Add (.var 4) (.str [10])) (.cons (.str [10]) (.cons (.mth .join (.str [10]) (.cons (.bin .Mult (.lst (.cons (.str [115, 109, 97, 108, 108]) .nil)) (.int 4)) .nil)) (.cons (.callT 7 1 (.cons (.int 2) .nil)) .nil)))))))))
abbrev l14S : E := (.tup (.cons (.str [32]) (.cons (.str [10]) (.cons (.str [97]) (.cons (.str [49]) (.cons (.str [34]) (.cons (.str []) (.cons (.str [95]) .nil))))))))
abbrev b14S : Ss := (.cons (.set 7 (.bin .Add (.var 7) (.lst (.cons (.bin .Add (.bin .Add (.sl (.var 4) .nope (.var 6)) (.var 8)) (.sl (.var 4) (.var 6) .nope)) (.cons (.bin .Add (.bin .Add (.sl (.var 4) .nope (.var 6)) (.var 8)) (.sl (.var 4) (.bin .Add (.var 6) (.int 1)) .nope)) .nil))))) .nil)
abbrev b14T : Ss := (.cons (.set 10 (.call 4 (.cons (.var 9) .nil))) (.cons (.ife (.and (.isN true (.var 10)) (.one (.or (.not (.val (.call 8 (.cons (.var 10) .nil)))) (.one (.cmp .NotEq (.call 2 (.cons (.var 10) .nil)) (.var 9)))))) (.cons (.ret (.bl false)) .nil) .nil) (.cons (.ife (.and (.val (.isi (.var 9) .str)) (.and (.cmp .NotEq (.var 9) (.str [])) (.one (.isN false (.var 10))))) (.cons (.set 11 (.blt .tuple (.cons (.comp (.call 9 (.cons (.var 5) .nil)) (.nm 5) (.data (.mth .split (.var 9) (.cons (.str [10]) .nil))) .yes [5]) .nil))) (.cons (.ife (.and (.val (.call 8 (.cons (.var 11) .nil))) (.one (.cmp .Eq (.call 2 (.cons (.var 11) .nil)) (.var 9)))) (.cons (.ret (.bl false)) .nil) .nil) .nil)) .nil) .nil)))
abbrev fin14 : E := (.and (.cmp .Eq (.call 4 (.cons (.str []) .nil)) (.tup .nil)) (.one (.cmp .Eq (.call 2 (.cons (.tup .nil) .nil)) (.str []))))
abbrev t14 : Ss := .cons s14a (.cons s14b (.cons s14c (.cons (.fr (.nm 5) (.data l14L) b14L) (.cons s14e (.cons s14f (.cons (.fr (.nm 8) (.data l14S) b14S) (.cons (.fr (.nm 9) (.data (.var 7)) b14T) .nil)))))))
def ir_law14 : Ss := .cons (.fr (.nm 2) (.rng1 (.int 7)) t14) (.cons (.ret fin14) .nil)
noncomputable def cal14 : List Cal := [⟨"_law_row", true, 1, GRow false⟩, ⟨"_law_line", false, 1, GLine false⟩, ⟨"row_text", false, 1, GRoT⟩, ⟨"_law_like", false, 2, GLike false 3⟩, ⟨"read_row", false, 1, GRdR⟩, ⟨"_law_all_lines", true, 1, GAll⟩, cDraw false, ⟨"_law_any", true, 1, GAny false 3⟩, ⟨"is_row", false, 1, GIsRow false⟩, ⟨"_law_step_of", false, 1, GSOf⟩]
structure P14 (P : Sg) (ns : List Int) : Prop where
  g0 : ∀ ds, P.G 0 ds = GRow false ns ds
  g1 : ∀ ds, P.G 1 ds = GLine false ns ds
  g2 : ∀ ds, P.G 2 ds = GRoT ns ds
  g3 : ∀ ds, P.G 3 ds = GLike false 3 ns ds
  g4 : ∀ ds, P.G 4 ds = GRdR ns ds
  g5 : ∀ ds, P.G 5 ds = GAll ns ds
  g6 : ∀ ds, P.G 6 ds = GDraw false ns ds
  g7 : ∀ ds, P.G 7 ds = GAny false 3 ns ds
  g8 : ∀ ds, P.G 8 ds = GIsRow false ns ds
  g9 : ∀ ds, P.G 9 ds = GSOf ns ds
  tk : P.tk = false
/-! ### drawn rows are valid -/
theorem rise_of : ∀ {s : List Nat}, s.Pairwise (· < ·) → riseB s = true
  | [], _ => rfl
  | [a], _ => rfl
  | a :: b :: r, h => by
    have ih := rise_of (s := b :: r) (List.pairwise_cons.mp h).2
    have h1 : a < b := (List.pairwise_cons.mp h).1 b List.mem_cons_self
    have e : riseB (a :: b :: r) = (decide (a < b) && riseB (b :: r)) := rfl
    rw [e, ih, decide_eq_true h1]; rfl
theorem sgn_sg {c : Nat} (h : c ∈ SGN) : c ∈ sgL := by
  have : ∀ c ∈ SGN, c ∈ sgL := by decide
  exact this c h
theorem isStr_of {lo hi : Nat} {s : List Nat} (h1 : lo ≤ s.length) (h2 : s.length ≤ hi) (h : ∀ c ∈ s, c ∈ SGN) : isStr lo hi (.str s) = true := by
  show signsOf lo hi s = true
  unfold signsOf
  rw [decide_eq_true h1, decide_eq_true h2]
  simp only [Bool.true_and, List.all_eq_true, decide_eq_true_eq]
  exact fun c hc => sgn_sg (h c hc)
theorem ne_len {s : List Nat} (h : s ≠ []) : 1 ≤ s.length := by
  cases s with
  | nil => exact absurd rfl h
  | cons a r => simp
theorem isSet_of {s : List Nat} (h : s ≠ [] ∧ s.length ≤ 3 ∧ s.Pairwise (· < ·) ∧ ∀ c ∈ s, c ∈ SGN) : isSetD (.str s) = true := by
  have h1 : signsOf 1 3 s = true := isStr_of (ne_len h.1) h.2.1 h.2.2.2
  show (signsOf 1 3 s && riseB s) = true
  rw [h1, rise_of h.2.2.1]; rfl
theorem drawn_step (s : Stp) (h1 : s.ok) (h2 : s.drawn) : isStepD s.d = true := by
  have one : ∀ c, c ∈ SGN → isStr 1 1 (.str [c]) = true := fun c hc => isStr_of (by simp) (by simp) (by simpa using hc)
  cases s with
  | small => rfl
  | map x y =>
    have e : isStepD (Stp.d (.map x y)) = (isStr 1 1 (.str [x]) && (isStr 1 1 (.str [y]) && !eqv (.str [x]) (.str [y]))) := rfl
    have hxy : x ≠ y := h1
    rw [e, one x h2.1, one y h2.2]
    simp [hxy]
  | drop s => exact isSet_of h2
  | trim s => exact isSet_of h2
  | squeeze s => exact isSet_of h2
  | join s o =>
    have e : isStepD (Stp.d (.join s o)) = (isSetD (.str s) && isStr 1 1 (.str [o])) := rfl
    rw [e, isSet_of h2.1, one o h2.2]; rfl
  | front w => exact isStr_of (lo := 1) (hi := 2) (ne_len h2.1) h2.2.1 h2.2.2
  | fronts w => exact isStr_of (lo := 1) (hi := 2) (ne_len h2.1) h2.2.1 h2.2.2
  | back w => exact isStr_of (lo := 1) (hi := 2) (ne_len h2.1) h2.2.1 h2.2.2
  | backs w => exact isStr_of (lo := 1) (hi := 2) (ne_len h2.1) h2.2.1 h2.2.2
  | first n =>
    have e : isStepD (Stp.d (.first n)) = (decide ((1 : Int) ≤ (n : Int)) && decide ((n : Int) ≤ 3)) := rfl
    obtain ⟨a, b⟩ := h2
    rw [e, decide_eq_true (by omega), decide_eq_true (by omega)]; rfl
  | last n =>
    have e : isStepD (Stp.d (.last n)) = (decide ((1 : Int) ≤ (n : Int)) && decide ((n : Int) ≤ 3)) := rfl
    obtain ⟨a, b⟩ := h2
    rw [e, decide_eq_true (by omega), decide_eq_true (by omega)]; rfl
theorem vstep_bd {d : D} (h : VStep d) : bd 10 d = true ∧ dep d ≤ 1 := by
  cases h with
  | small => exact ⟨rfl, by simp⟩
  | num hw hn => exact ⟨by rcases hw with rfl | rfl <;> rfl, by simp⟩
  | @one w s hw hs =>
    have h1 : w.length ≤ 7 := by
      have : ∀ w ∈ words1, w.length ≤ 7 := by decide
      exact this _ hw
    have h2 := hs.2.1
    refine ⟨?_, by simp⟩
    simp only [bd, bds, List.length_cons, List.length_nil, Bool.and_true, Bool.and_eq_true, decide_eq_true_eq]
    omega
  | @two w s c hw hs hc =>
    have h1 : w.length ≤ 4 := by rcases hw with rfl | rfl <;> decide
    have h2 := hs.2.1
    refine ⟨?_, by simp⟩
    simp only [bd, bds, List.length_cons, List.length_nil, Bool.and_true, Bool.and_eq_true, decide_eq_true_eq]
    omega
mutual
theorem wid_bd {N : Nat} : ∀ d : D, bd N d = true → wid d ≤ N
  | .non, _ => by simp [wid]
  | .bl _, _ => by simp [wid]
  | .int _, _ => by simp [wid]
  | .str _, _ => by simp [wid]
  | .tup xs, h => by
    simp only [bd, Bool.and_eq_true, decide_eq_true_eq] at h
    have := wids_bd xs h.2
    rw [wid]; omega
  | .lst xs, h => by
    simp only [bd, Bool.and_eq_true, decide_eq_true_eq] at h
    have := wids_bd xs h.2
    rw [wid]; omega
theorem wids_bd {N : Nat} : ∀ xs : List D, bds N xs = true → wids xs ≤ N
  | [], _ => by simp [wids]
  | x :: xs, h => by
    simp only [bds, Bool.and_eq_true] at h
    have h1 := wid_bd x h.1
    have h2 := wids_bd xs h.2
    rw [wids]; omega
end
theorem rowT_len : ∀ l : List D, (∀ d ∈ l, VStep d) → (rowT l).length ≤ 21 * l.length
  | [], _ => by simp [rowT, TL.joinL]
  | [d], h => by
    have := (stepX_10 (h d List.mem_cons_self)).2.2
    show (stepX d).length ≤ _
    simp; omega
  | d :: e :: r, h => by
    have ih := rowT_len (e :: r) fun x hx => h x (List.mem_cons_of_mem _ hx)
    have h1 := (stepX_10 (h d List.mem_cons_self)).2.2
    have e1 : rowT (d :: e :: r) = stepX d ++ 10 :: rowT (e :: r) := rfl
    rw [e1]
    simp only [List.length_append, List.length_cons] at ih ⊢
    omega
/-! ### the wrong lines -/
theorem L12_ok : ∀ x ∈ L12, isStepD (readStep x) = false ∧ 10 ∉ x ∧ x ≠ [] ∧ x.length ≤ 20 := by decide +kernel
theorem read_one {x : List Nat} (h : isStepD (readStep x) = false) (h10 : 10 ∉ x) (hx : x ≠ []) : readRow x = .non := by
  unfold readRow readAll
  rw [if_neg hx, cut1_no h10]
  have : isRowD (.tup ([x].map readStep)) = false := by
    rw [isRowD]
    simp [h]
  rw [this]; rfl
theorem read_more (T : List Nat) {x : List Nat} (h : isStepD (readStep x) = false) (h10 : 10 ∉ x) : readRow (T ++ [10] ++ x) = .non := by
  have e : T ++ [10] ++ x = T ++ 10 :: x := by simp
  have hA : readAll (T ++ [10] ++ x) = (cut1 10 T ++ [x]).map readStep := by
    unfold readAll
    rw [e, if_neg (by simp), cut1_app, cut1_no h10]
  unfold readRow
  rw [hA]
  have : isRowD (.tup ((cut1 10 T ++ [x]).map readStep)) = false := by
    rw [isRowD]
    simp [h]
  rw [this]; rfl
abbrev F14 (a2 a3 a4 a5 a6 a7 a8 a9 a10 a11 a12 : Slot) : Env' := [.un, .tape, a2, a3, a4, a5, a6, a7, a8, a9, a10, a11, a12]
def isNb (ng : Bool) : D → Bool
  | .non => !ng
  | _ => ng
theorem evt_isN {P : Sg} {a : E} {ng : Bool} {ρ : Env'} {τ τ1 : TS} {d : D} {b : Bool} (h : ev P a ρ τ = some (d, τ1)) (hb : isNb ng d = b) : evt P (.isN ng a) ρ τ = some (b, τ1) := by
  rw [evt, h, ← hb]
  cases d <;> rfl
theorem evt_orF2 {P : Sg} {a b : Tt} {ρ : Env'} {τ τ1 : TS} {r : Option (Bool × TS)} (h : evt P a ρ τ = some (false, τ1)) (h2 : evt P b ρ τ1 = r) : evt P (.or a b) ρ τ = r := by
  rw [evt, h]; exact h2
theorem evt_andF2 {P : Sg} {a b : Tt} {ρ : Env'} {τ τ1 : TS} (h : evt P a ρ τ = some (false, τ1)) : evt P (.and a b) ρ τ = some (false, τ1) := by
  rw [evt, h]; rfl
theorem evt_andT2 {P : Sg} {a b : Tt} {ρ : Env'} {τ τ1 : TS} {r : Option (Bool × TS)} (h : evt P a ρ τ = some (true, τ1)) (h2 : evt P b ρ τ1 = r) : evt P (.and a b) ρ τ = r := by
  rw [evt, h]; exact h2
theorem evt_one2 {P : Sg} {a : Tt} {ρ : Env'} {τ : TS} {r : Option (Bool × TS)} (h : evt P a ρ τ = r) : evt P (.one a) ρ τ = r := by rw [evt]; exact h
theorem evt_val {P : Sg} {a : E} {ρ : Env'} {τ τ1 : TS} {b : Bool} (h : ev P a ρ τ = some (.bl b, τ1)) : evt P (.val a) ρ τ = some (b, τ1) := by rw [evt, h]; rfl
theorem evt_notv {P : Sg} {a : E} {ρ : Env'} {τ τ1 : TS} {b : Bool} (h : ev P a ρ τ = some (.bl b, τ1)) : evt P (.not (.val a)) ρ τ = some (!b, τ1) := by rw [evt, evt_val h]; rfl
theorem lines_loop {P : Sg} {ns : List Int} (hP : P14 P ns) (a2 a3 : Slot) (T : List Nat) (hT : T.length ≤ 200) (a6 a7 a8 a9 a10 a11 a12 : Slot) (τ : TS) : ∀ (xs : List (List Nat)) (a5 : Slot), (∀ x ∈ xs, x ∈ L12) →
    ∃ b5, forL (fun x ρ1 τ1 => (bindT (.nm 5) x ρ1).bind fun ρ2 => evB P b14L ρ2 τ1) (xs.map .str) (F14 a2 a3 (.d (.str T)) a5 a6 a7 a8 a9 a10 a11 a12) τ = some (.nx (F14 a2 a3 (.d (.str T)) b5 a6 a7 a8 a9 a10 a11 a12) τ)
  | [], a5, _ => ⟨a5, rfl⟩
  | x :: xs, a5, h => by
    obtain ⟨b5, e⟩ := lines_loop hP a2 a3 T hT a6 a7 a8 a9 a10 a11 a12 τ xs (.d (.str x)) fun y hy => h y (List.mem_cons_of_mem _ hy)
    refine ⟨b5, ?_⟩
    obtain ⟨h1, h2, h3, h4⟩ := L12_ok x (h x List.mem_cons_self)
    have r1 := readrow_ok ns (.str x) (fun v hv => by cases hv; omega) τ
    have r2 := readrow_ok ns (.str (T ++ [10] ++ x)) (fun v hv => by cases hv; simp; omega) τ
    rw [show readRowD (.str x) = .non from read_one h1 h2 h3] at r1
    rw [show readRowD (.str (T ++ [10] ++ x)) = .non from read_more T h1 h2] at r2
    rw [List.map_cons, forL_step (ρ1 := F14 a2 a3 (.d (.str T)) (.d (.str x)) a6 a7 a8 a9 a10 a11 a12) (τ1 := τ) ?_, e]
    simp only [bindT, Option.bind_some, List.set]
    refine (evB_nx (evS_f (τ1 := τ) (evt_orF2 (evt_isN (d := .non) (ev_call0 (evs_cons (ev_var rfl) evs_nil) (by rw [hP.g4]; exact r1)) rfl) (evt_one2 (evt_isN (d := .non) (ev_call0 (evs_cons (ev_adS (ev_adS (ev_var rfl) ev_str (by simp; omega)) (ev_var rfl) (by simp; omega)) evs_nil) (by rw [hP.g4]; exact r2)) rfl))) evB_nil0)).trans evB_nil0
/-! ### the things -/
def Good14 (x : D) : Prop := bnd x = true ∧ ∀ v, x = .str v → v.length ≤ 900 ∧ ∀ L ∈ cut1 10 v, ¬ Bad L
theorem thing_ok {P : Sg} {ns : List Int} (hP : P14 P ns) (a2 a3 a4 a5 a6 a7 a8 : Slot) (x : D) (hx : Good14 x) (a10 a11 a12 : Slot) (τ : TS) :
    ∃ b10 b11, evB P b14T (F14 a2 a3 a4 a5 a6 a7 a8 (.d x) a10 a11 a12) τ = some (.nx (F14 a2 a3 a4 a5 a6 a7 a8 (.d x) b10 b11 a12) τ) := by
  have r1 := readrow_ok ns x (fun v hv => (hx.2 v hv).1) τ
  have e0 : evS P (.set 10 (.call 4 (.cons (.var 9) .nil))) (F14 a2 a3 a4 a5 a6 a7 a8 (.d x) a10 a11 a12) τ = some (.nx (F14 a2 a3 a4 a5 a6 a7 a8 (.d x) (.d (readRowD x)) a11 a12) τ) :=
    evS_set (ev_call0 (evs_cons (ev_var rfl) evs_nil) (by rw [hP.g4]; exact r1))
  have nostr : (∀ v, x ≠ .str v) → readRowD x = .non ∧ tyIs x .str = false := fun h => by
    cases x with
    | str v => exact absurd rfl (h v)
    | _ => exact ⟨rfl, rfl⟩
  have c1 : readRowD x = .non → evS P (.ife (.and (.isN true (.var 10)) (.one (.or (.not (.val (.call 8 (.cons (.var 10) .nil)))) (.one (.cmp .NotEq (.call 2 (.cons (.var 10) .nil)) (.var 9)))))) (.cons (.ret (.bl false)) .nil) .nil) (F14 a2 a3 a4 a5 a6 a7 a8 (.d x) (.d (readRowD x)) a11 a12) τ = some (.nx (F14 a2 a3 a4 a5 a6 a7 a8 (.d x) (.d (readRowD x)) a11 a12) τ) := fun h => by
    rw [h]
    exact evS_f (τ1 := τ) (evt_andF2 (evt_isN (d := .non) (ev_var rfl) rfl)) evB_nil0
  by_cases hs : ∃ v, x = .str v
  · obtain ⟨v, rfl⟩ := hs
    obtain ⟨hl, hb⟩ := hx.2 v rfl
    have isi : evt P (.val (.isi (.var 9) .str)) (F14 a2 a3 a4 a5 a6 a7 a8 (.d (.str v)) (.d (readRowD (.str v))) a11 a12) τ = some (true, τ) := evt_val (by rw [ev, ev_var rfl]; rfl)
    by_cases hr : isRowD (.tup (readAll v)) = true
    · have ht : readRowD (.str v) = .tup (readAll v) := by
        show readRow v = _
        unfold readRow
        rw [if_pos hr]
      have hT := inv_row hr hb
      have hv : ∀ d ∈ readAll v, VStep d := fun d hd => by
        rw [isRowD, Bool.and_eq_true, List.all_eq_true] at hr
        exact vstep (hr.2 d hd)
      have h3 : (readAll v).length ≤ 3 := by
        rw [isRowD, Bool.and_eq_true, decide_eq_true_eq] at hr
        exact hr.1
      have c1' : evS P (.ife (.and (.isN true (.var 10)) (.one (.or (.not (.val (.call 8 (.cons (.var 10) .nil)))) (.one (.cmp .NotEq (.call 2 (.cons (.var 10) .nil)) (.var 9)))))) (.cons (.ret (.bl false)) .nil) .nil) (F14 a2 a3 a4 a5 a6 a7 a8 (.d (.str v)) (.d (readRowD (.str v))) a11 a12) τ = some (.nx (F14 a2 a3 a4 a5 a6 a7 a8 (.d (.str v)) (.d (readRowD (.str v))) a11 a12) τ) := by
        rw [ht]
        have q1 := isrow_ok false ns (.tup (readAll v)) (readAll_bnd v hl) (by simp) τ
        rw [hr] at q1
        have q2 := rowtext_ok ns (readAll v) (by omega) hv τ
        rw [hT] at q2
        refine evS_f (τ1 := τ) (evt_andT2 (evt_isN (d := .tup (readAll v)) (ev_var rfl) rfl) (evt_one2 (evt_orF2 (evt_notv (b := true) (ev_call0 (evs_cons (ev_var rfl) evs_nil) (by rw [hP.g8]; exact q1))) (evt_one2 (evt_cmp0 (ev_call0 (evs_cons (ev_var rfl) evs_nil) (by rw [hP.g2]; exact q2)) (ev_var rfl) ?_))))) evB_nil0
        simp [cmpD, neD]
      refine ⟨_, _, (evB_nx e0).trans ((evB_nx c1').trans ((evB_nx (ρ1 := F14 a2 a3 a4 a5 a6 a7 a8 (.d (.str v)) (.d (readRowD (.str v))) a11 a12) (τ1 := τ) ?_).trans evB_nil0))⟩
      by_cases h0 : v = []
      · exact evS_f (τ1 := τ) (evt_andT2 isi (evt_andF2 (evt_cmp0 (ev_var rfl) ev_str (by simp [cmpD, neD, h0])))) evB_nil0
      · exact evS_f (τ1 := τ) (evt_andT2 isi (evt_andT2 (evt_cmp0 (c := true) (ev_var rfl) ev_str (by simp [cmpD, neD, h0])) (evt_one2 (evt_isN (d := .tup (readAll v)) (ev_var (by rw [ht]; rfl)) rfl)))) evB_nil0
    · have hn : readRowD (.str v) = .non := by
        show readRow v = _
        unfold readRow
        rw [if_neg hr]
      have h0 : v ≠ [] := fun z => hr (by rw [z]; rfl)
      have h2 := cut1_len 10 v
      obtain ⟨zs, e5, l5, q5⟩ := compL_pure (f := cbody P (.call 9 (.cons (.var 5) .nil)) (.nm 5) .yes [5] (F14 a2 a3 a4 a5 a6 a7 a8 (.d (.str v)) (.d (readRowD (.str v))) a11 a12)) (Ok := fun y => bnd y = true) (τ := τ) ((cut1 10 v).map .str) (fun y hy => by
        obtain ⟨L, hL, rfl⟩ := List.mem_map.mp hy
        obtain ⟨d, e6, q6⟩ := stepof_ok ns L (Nat.le_trans (cut1_le 10 v hL) hl) τ
        refine ⟨d, ?_, q6⟩
        unfold cbody
        simp only [wipeE, bindT, Option.bind_some, evt, if_true, List.set]
        rw [ev_call0 (evs_cons (ev_var rfl) evs_nil) (by rw [hP.g9]; exact e6)]
        rfl)
      have hzl : zs.length ≤ 901 := by rw [l5, List.length_map]; omega
      have hzb : bnd (.tup zs) = true := by
        simp only [bnd, Bool.and_eq_true, decide_eq_true_eq]
        exact ⟨by omega, bnds_iff.mpr q5⟩
      have hsp := split_D1 v 10 (by omega) (by omega)
      have he : ev P (.mth .split (.var 9) (.cons (.str [10]) .nil)) (F14 a2 a3 a4 a5 a6 a7 a8 (.d (.str v)) (.d (readRowD (.str v))) a11 a12) τ = some (.lst ((cut1 10 v).map .str), τ) := by
        rw [ev, ev_var rfl]
        simp only [Option.bind_some, evs_cons ev_str evs_nil, mD, hsp, Option.map_some]
      have hset : ev P (.blt .tuple (.cons (.comp (.call 9 (.cons (.var 5) .nil)) (.nm 5) (.data (.mth .split (.var 9) (.cons (.str [10]) .nil))) .yes [5]) .nil)) (F14 a2 a3 a4 a5 a6 a7 a8 (.d (.str v)) (.d (readRowD (.str v))) a11 a12) τ = some (.tup zs, τ) := by
        rw [ev, evs_cons (ev_comp (evi_data he rfl) e5 (sl1 (by omega))) evs_nil]
        have hs := sl1 (show zs.length ≤ 4000 by omega)
        have hok : okT P.tk zs = true := by rw [hP.tk]; simp [okT, hs]
        simp only [Option.bind_some, bD, tupleD, if_pos hok, Option.map_some]
      have q1 := isrow_ok false ns (.tup zs) hzb (by simp) τ
      have hin : evS P (.ife (.and (.val (.call 8 (.cons (.var 11) .nil))) (.one (.cmp .Eq (.call 2 (.cons (.var 11) .nil)) (.var 9)))) (.cons (.ret (.bl false)) .nil) .nil) (F14 a2 a3 a4 a5 a6 a7 a8 (.d (.str v)) (.d (readRowD (.str v))) (.d (.tup zs)) a12) τ = some (.nx (F14 a2 a3 a4 a5 a6 a7 a8 (.d (.str v)) (.d (readRowD (.str v))) (.d (.tup zs)) a12) τ) := by
        cases hz : isRowD (.tup zs) with
        | false =>
          rw [hz] at q1
          exact evS_f (τ1 := τ) (evt_andF2 (evt_val (ev_call0 (evs_cons (ev_var rfl) evs_nil) (by rw [hP.g8]; exact q1)))) evB_nil0
        | true =>
          rw [hz] at q1
          have hv : ∀ d ∈ zs, VStep d := fun d hd => by
            rw [isRowD, Bool.and_eq_true, List.all_eq_true] at hz
            exact vstep (hz.2 d hd)
          have h3 : zs.length ≤ 3 := by
            rw [isRowD, Bool.and_eq_true, decide_eq_true_eq] at hz
            exact hz.1
          have q2 := rowtext_ok ns zs (by omega) hv τ
          have hne : ¬ rowT zs = v := fun z => by
            have := read_row hz
            rw [z] at this
            have h5 : readRow v = .non := hn
            rw [h5] at this
            cases this
          exact evS_f (τ1 := τ) (evt_andT2 (evt_val (ev_call0 (evs_cons (ev_var rfl) evs_nil) (by rw [hP.g8]; exact q1))) (evt_one2 (evt_cmp0 (ev_call0 (evs_cons (ev_var rfl) evs_nil) (by rw [hP.g2]; exact q2)) (ev_var rfl) (by simp [cmpD, eqD, hne])))) evB_nil0
      refine ⟨_, _, (evB_nx e0).trans ((evB_nx (c1 hn)).trans ((evB_nx (ρ1 := F14 a2 a3 a4 a5 a6 a7 a8 (.d (.str v)) (.d (readRowD (.str v))) (.d (.tup zs)) a12) (τ1 := τ) ?_).trans evB_nil0))⟩
      refine evS_t (τ1 := τ) (evt_andT2 isi (evt_andT2 (evt_cmp0 (c := true) (ev_var rfl) ev_str (by simp [cmpD, neD, h0])) (evt_one2 (evt_isN (d := .non) (ev_var (by rw [hn]; rfl)) rfl)))) ?_
      exact (evB_nx (evS_set hset)).trans ((evB_nx hin).trans evB_nil0)
  · obtain ⟨n1, n2⟩ := nostr fun v z => hs ⟨v, z⟩
    refine ⟨_, _, (evB_nx e0).trans ((evB_nx (c1 n1)).trans ((evB_nx (ρ1 := F14 a2 a3 a4 a5 a6 a7 a8 (.d x) (.d (readRowD x)) a11 a12) (τ1 := τ) (evS_f (τ1 := τ) (evt_andF2 (evt_val (by rw [ev, ev_var rfl, ← n2]; rfl))) evB_nil0)).trans evB_nil0))⟩
theorem things_loop {P : Sg} {ns : List Int} (hP : P14 P ns) (a2 a3 a4 a5 a6 a7 a8 a12 : Slot) (τ : TS) : ∀ (xs : List D) (a9 a10 a11 : Slot), (∀ x ∈ xs, Good14 x) →
    ∃ b9 b10 b11, forL (fun x ρ1 τ1 => (bindT (.nm 9) x ρ1).bind fun ρ2 => evB P b14T ρ2 τ1) xs (F14 a2 a3 a4 a5 a6 a7 a8 a9 a10 a11 a12) τ = some (.nx (F14 a2 a3 a4 a5 a6 a7 a8 b9 b10 b11 a12) τ)
  | [], a9, a10, a11, _ => ⟨a9, a10, a11, rfl⟩
  | x :: xs, a9, a10, a11, h => by
    obtain ⟨c10, c11, e1⟩ := thing_ok hP a2 a3 a4 a5 a6 a7 a8 x (h x List.mem_cons_self) a10 a11 a12 τ
    obtain ⟨b9, b10, b11, e2⟩ := things_loop hP a2 a3 a4 a5 a6 a7 a8 a12 τ xs (.d x) c10 c11 fun y hy => h y (List.mem_cons_of_mem _ hy)
    refine ⟨b9, b10, b11, ?_⟩
    rw [forL_step (ρ1 := F14 a2 a3 a4 a5 a6 a7 a8 (.d x) c10 c11 a12) (τ1 := τ) (by simp only [bindT, Option.bind_some]; exact e1)]
    exact e2
/-! ### one change -/
theorem sl_to {P : Sg} {T : List Nat} (hl : T.length ≤ 900) {i j : Nat} {ρ : Env'} {τ : TS} {k : Nat} (h : ρ[i]? = some (.d (.str T))) (h2 : ρ[j]? = some (.d (.int (k : Int)))) : ev P (.sl (.var i) .nope (.var j)) ρ τ = some (.str (T.take k), τ) := by
  have z := sl1 (show T.length ≤ 4000 by omega)
  have e2 : evp P (.var j) ρ τ = some (some (k : Int), τ) := by rw [evp, h2]
  rw [ev, ev_var h]
  simp only [Option.bind_some, evp]
  rw [h2]
  simp only [Option.bind_some, slD, if_pos z, Option.map_some, cut_to]
theorem sl_from {P : Sg} {T : List Nat} (hl : T.length ≤ 900) {i : Nat} {b : E} {ρ : Env'} {τ : TS} {k : Nat} (h : ρ[i]? = some (.d (.str T))) (h2 : evp P b ρ τ = some (some (k : Int), τ)) : ev P (.sl (.var i) b .nope) ρ τ = some (.str (T.drop k), τ) := by
  have z := sl1 (show T.length ≤ 4000 by omega)
  rw [ev, ev_var h]
  simp only [Option.bind_some]
  rw [h2]
  simp only [Option.bind_some, evp, slD, if_pos z, Option.map_some, cut_from]
theorem signs_loop {P : Sg} {ns : List Int} (hP : P14 P ns) (a2 a3 a5 a9 a10 a11 a12 : Slot) (l : List D) (hv : ∀ d ∈ l, VStep d) (hT : (rowT l).length ≤ 200) (k : Nat) (τ : TS) : ∀ (xs : List (List Nat)) (ts : List D) (a8 : Slot), (∀ x ∈ xs, x.length ≤ 1) → (∀ t ∈ ts, Good14 t) → ts.length + 2 * xs.length ≤ 100 →
    ∃ ts' b8, forL (fun x ρ1 τ1 => (bindT (.nm 8) x ρ1).bind fun ρ2 => evB P b14S ρ2 τ1) (xs.map .str) (F14 a2 a3 (.d (.str (rowT l))) a5 (.d (.int (k : Int))) (.d (.lst ts)) a8 a9 a10 a11 a12) τ = some (.nx (F14 a2 a3 (.d (.str (rowT l))) a5 (.d (.int (k : Int))) (.d (.lst ts')) b8 a9 a10 a11 a12) τ) ∧ ∀ t ∈ ts', Good14 t
  | [], ts, a8, _, h2, _ => ⟨ts, a8, rfl, h2⟩
  | x :: xs, ts, a8, h1, h2, hl => by
    simp only [List.length_cons] at hl
    have hx := h1 x List.mem_cons_self
    have gd : ∀ v : List Nat, v.length ≤ 300 → (∀ L ∈ cut1 10 v, ¬ Bad L) → Good14 (.str v) := fun v hv hb => ⟨by simp [bnd]; omega, fun w hw => by cases hw; exact ⟨by omega, hb⟩⟩
    have g1 : Good14 (.str ((rowT l).take k ++ x ++ (rowT l).drop k)) := gd _ (by simp; omega) (no_bad hv (x := (rowT l).take k) (m := x) (m' := []) (y := (rowT l).drop k) hx (by simp) (by simp) (by simp))
    have g2 : Good14 (.str ((rowT l).take k ++ x ++ (rowT l).drop (k + 1))) := gd _ (by simp; omega) (no_bad hv (x := (rowT l).take k) (m := x) (m' := ((rowT l).drop k).take 1) (y := (rowT l).drop (k + 1)) hx (by simp; omega) (by simp) (by
      have : (rowT l).drop k = ((rowT l).drop k).take 1 ++ (rowT l).drop (k + 1) := by
        conv => lhs; rw [← List.take_append_drop 1 ((rowT l).drop k)]
        rw [List.drop_drop]
      rw [← this, List.take_append_drop]))
    obtain ⟨ts', b8, e, q⟩ := signs_loop hP a2 a3 a5 a9 a10 a11 a12 l hv hT k τ xs (ts ++ [.str ((rowT l).take k ++ x ++ (rowT l).drop k), .str ((rowT l).take k ++ x ++ (rowT l).drop (k + 1))]) (.d (.str x)) (fun y hy => h1 y (List.mem_cons_of_mem _ hy)) (fun t ht => by
      rcases List.mem_append.mp ht with z | z
      · exact h2 t z
      · simp only [List.mem_cons, List.not_mem_nil, or_false] at z
        rcases z with rfl | rfl
        · exact g1
        · exact g2) (by simp; omega)
    refine ⟨ts', b8, ?_, q⟩
    rw [List.map_cons, forL_step (ρ1 := F14 a2 a3 (.d (.str (rowT l))) a5 (.d (.int (k : Int))) (.d (.lst (ts ++ [.str ((rowT l).take k ++ x ++ (rowT l).drop k), .str ((rowT l).take k ++ x ++ (rowT l).drop (k + 1))]))) (.d (.str x)) a9 a10 a11 a12) (τ1 := τ) ?_, e]
    simp only [bindT, Option.bind_some, List.set]
    have p1 : evp P (.var 6) (F14 a2 a3 (.d (.str (rowT l))) a5 (.d (.int (k : Int))) (.d (.lst ts)) (.d (.str x)) a9 a10 a11 a12) τ = some (some (k : Int), τ) := by rw [evp]; rfl
    have p2 : evp P (.bin .Add (.var 6) (.int 1)) (F14 a2 a3 (.d (.str (rowT l))) a5 (.d (.int (k : Int))) (.d (.lst ts)) (.d (.str x)) a9 a10 a11 a12) τ = some (some ((k + 1 : Nat) : Int), τ) := by
      rw [evp, ev_var rfl]
      simp only [Option.bind_some, ev_int, binD, addD, intO, Option.map_some]
      rfl
    exact (evB_nx (evS_set (ev_adL (ev_var rfl) (ev_lst (evs_cons (ev_adS (ev_adS (sl_to (by omega) rfl rfl) (ev_var rfl) (by simp; omega)) (sl_from (by omega) rfl p1) (by simp; omega)) (evs_cons (ev_adS (ev_adS (sl_to (by omega) rfl rfl) (ev_var rfl) (by simp; omega)) (sl_from (by omega) rfl p2) (by simp; omega)) evs_nil)) (by simp)) (by simp; omega)))).trans evB_nil0
theorem good_any {x : D} (h : bd 8 x = true) : Good14 x := by
  refine ⟨bd_bnd x (bd_mono (by omega) x h), fun v hv => ?_⟩
  subst hv
  have hl := bd_str.mp h
  refine ⟨by omega, fun L hL hb => ?_⟩
  have h1 := cut1_le 10 v hL
  have h2 := bad_len hb
  omega
theorem small4 : ∀ L ∈ cut1 10 [115, 109, 97, 108, 108, 10, 115, 109, 97, 108, 108, 10, 115, 109, 97, 108, 108, 10, 115, 109, 97, 108, 108], L.length ≤ 5 := by decide
theorem turn14 (P : Sg) (ns : List Int) (hP : P14 P ns) (a2 a3 a4 a5 a6 a7 a8 a9 a10 a11 a12 : Slot) (τ : TS) : ∃ b3 b4 b5 b6 b7 b8 b9 b10 b11 τ', evB P t14 (F14 a2 a3 a4 a5 a6 a7 a8 a9 a10 a11 a12) τ = some (.nx (F14 a2 b3 b4 b5 b6 b7 b8 b9 b10 b11 a12) τ') := by
  have tk := hP.tk
  obtain ⟨f, τ1, e1, f1, f2⟩ := row_ok false ns 3 3 rfl (by omega) τ
  have hstep : ∀ d ∈ f.map Stp.d, isStepD d = true := fun d hd => by
    obtain ⟨s, hs, rfl⟩ := List.mem_map.mp hd
    exact drawn_step s (f2 s hs).1 (f2 s hs).2
  have hfl : (f.map Stp.d).length ≤ 3 := by rw [List.length_map]; exact f1
  generalize f.map Stp.d = l at *
  have hv : ∀ d ∈ l, VStep d := fun d hd => vstep (hstep d hd)
  have hrow : isRowD (.tup l) = true := by
    rw [isRowD, decide_eq_true hfl, Bool.true_and, List.all_eq_true]
    exact hstep
  have hTl : (rowT l).length ≤ 200 := by
    have := rowT_len l hv
    omega
  -- row
  have ea : evS P s14a (F14 a2 a3 a4 a5 a6 a7 a8 a9 a10 a11 a12) τ = some (.nx (F14 a2 (.d (.tup l)) a4 a5 a6 a7 a8 a9 a10 a11 a12) τ1) :=
    evS_set (ev_callT rfl (evs_cons ev_int evs_nil) (by rw [hP.g0]; exact e1))
  -- text
  have hcomp := lines_comp P ns 1 hP.g1 12 l hv (F14 a2 (.d (.tup l)) a4 a5 a6 a7 a8 a9 a10 a11 a12) (by simp) τ1
  have eb : evS P s14b (F14 a2 (.d (.tup l)) a4 a5 a6 a7 a8 a9 a10 a11 a12) τ1 = some (.nx (F14 a2 (.d (.tup l)) (.d (.str (rowT l))) a5 a6 a7 a8 a9 a10 a11 a12) τ1) := by
    refine evS_set (ev_joinT (ev_comp (evi_data (ev_var rfl) rfl) hcomp (sl1 (by simp; omega))) (by simp) (by simp; omega) (fun s hs => ?_))
    obtain ⟨d, hd, rfl⟩ := List.mem_map.mp hs
    have := (stepX_10 (hv d hd)).2.2
    omega
  -- told back
  have q1 := rowtext_ok ns l (by omega) hv τ1
  have q2 := readrow_ok ns (.str (rowT l)) (fun v hv => by cases hv; omega) τ1
  rw [show readRowD (.str (rowT l)) = .tup l from read_row hrow] at q2
  have hbl : bd 10 (.tup l) = true := bd_tup.mpr ⟨by omega, fun d hd => (vstep_bd (hv d hd)).1⟩
  have hdl : dep (.tup l) < 3 := by
    have : ∀ m : List D, (∀ d ∈ m, VStep d) → deps m ≤ 1 := by
      intro m
      induction m with
      | nil => intro _; simp
      | cons d m ih =>
        intro h
        have h1 := (vstep_bd (h d List.mem_cons_self)).2
        have h2 := ih fun x hx => h x (List.mem_cons_of_mem _ hx)
        rw [deps_cons]
        omega
    have := this l hv
    rw [dep_tup]; omega
  have q3 := like_refl false ns 3 (.tup l) τ1 hdl (by have := wid_bd _ hbl; omega)
  have ec : evS P s14c (F14 a2 (.d (.tup l)) (.d (.str (rowT l))) a5 a6 a7 a8 a9 a10 a11 a12) τ1 = some (.nx (F14 a2 (.d (.tup l)) (.d (.str (rowT l))) a5 a6 a7 a8 a9 a10 a11 a12) τ1) := by
    refine evS_f (τ1 := τ1) (evt_orF2 (evt_cmp0 (ev_call0 (evs_cons (ev_var rfl) evs_nil) (by rw [hP.g2]; exact q1)) (ev_var rfl) (by simp [cmpD, neD])) (evt_one2 (evt_notv (b := true) (ev_call0 (evs_cons (ev_call0 (evs_cons (ev_var rfl) evs_nil) (by rw [hP.g4]; exact q2)) (evs_cons (ev_var rfl) evs_nil)) (by rw [hP.g3]; exact q3))))) evB_nil0
  -- wrong lines
  have q4 := all_ok ns l (by omega) hv τ1
  have el : evi P (.data l14L) (F14 a2 (.d (.tup l)) (.d (.str (rowT l))) a5 a6 a7 a8 a9 a10 a11 a12) τ1 = some (L12.map .str, τ1) := by
    have hlen : evp P (.blt .len (.cons (.var 3) .nil)) (F14 a2 (.d (.tup l)) (.d (.str (rowT l))) a5 a6 a7 a8 a9 a10 a11 a12) τ1 = some (some (l.length : Int), τ1) := by
      rw [evp, evs_cons (ev_var rfl) evs_nil]
      simp [bD, lenD, intO]
    have e : ev P l14L (F14 a2 (.d (.tup l)) (.d (.str (rowT l))) a5 a6 a7 a8 a9 a10 a11 a12) τ1 = some (.lst (L12.map .str), τ1) := by
      rw [ev, ev_callT rfl (evs_cons (ev_var rfl) evs_nil) (by rw [hP.g5]; exact q4)]
      simp only [Option.bind_some]
      rw [hlen]
      simp only [Option.bind_some, evp, slD, Option.map_some, cut_from]
      have : ((l.map stepX ++ L12).map D.str).drop l.length = L12.map D.str := by
        rw [List.map_append]
        have := List.drop_left (l₁ := (l.map stepX).map D.str) (l₂ := L12.map D.str)
        simpa using this
      rw [this]
    exact evi_data e rfl
  obtain ⟨c5, el2⟩ := lines_loop hP a2 (.d (.tup l)) (rowT l) hTl a6 a7 a8 a9 a10 a11 a12 τ1 L12 a5 fun x hx => hx
  -- a place
  obtain ⟨k, τ2, e2, h2⟩ := draw_int false ns ((rowT l).length + 1) (((rowT l).length : Int) + 1) (by omega) (by omega) (by omega) τ1
  have ee : evS P s14e (F14 a2 (.d (.tup l)) (.d (.str (rowT l))) c5 a6 a7 a8 a9 a10 a11 a12) τ1 = some (.nx (F14 a2 (.d (.tup l)) (.d (.str (rowT l))) c5 (.d (.int (k : Int))) a7 a8 a9 a10 a11 a12) τ2) :=
    evS_set (ev_callT rfl (evs_cons (ev_addi (ev_len_str0 (ev_var rfl) (by omega)) ev_int) evs_nil) (by rw [hP.g6]; exact e2))
  -- the things
  obtain ⟨y, τ3, e3, q5, _⟩ := any_ok8 ns 3 2 (by omega) (by omega) τ2
  have hsm : ev P (.mth .join (.str [10]) (.cons (.bin .Mult (.lst (.cons (.str [115, 109, 97, 108, 108]) .nil)) (.int 4)) .nil)) (F14 a2 (.d (.tup l)) (.d (.str (rowT l))) c5 (.d (.int (k : Int))) a7 a8 a9 a10 a11 a12) τ2 = some (.str [115, 109, 97, 108, 108, 10, 115, 109, 97, 108, 108, 10, 115, 109, 97, 108, 108, 10, 115, 109, 97, 108, 108], τ2) := by
    have em : ev P (.bin .Mult (.lst (.cons (.str [115, 109, 97, 108, 108]) .nil)) (.int 4)) (F14 a2 (.d (.tup l)) (.d (.str (rowT l))) c5 (.d (.int (k : Int))) a7 a8 a9 a10 a11 a12) τ2 = some (.lst (([[115, 109, 97, 108, 108], [115, 109, 97, 108, 108], [115, 109, 97, 108, 108], [115, 109, 97, 108, 108]] : List (List Nat)).map .str), τ2) := by
      rw [ev, ev_lst (evs_cons ev_str evs_nil) (by simp)]
      simp only [Option.bind_some, ev_int, binD, mulD]
      rw [if_pos ⟨by omega, by omega, by simp⟩]
      rfl
    exact ev_joinT em (by simp) (by simp) (fun s hs => by
      simp only [List.mem_cons, List.not_mem_nil, or_false, or_self] at hs
      rw [hs]; simp)
  have ef : evS P s14f (F14 a2 (.d (.tup l)) (.d (.str (rowT l))) c5 (.d (.int (k : Int))) a7 a8 a9 a10 a11 a12) τ2 = some (.nx (F14 a2 (.d (.tup l)) (.d (.str (rowT l))) c5 (.d (.int (k : Int))) (.d (.lst [.non, .int 5, .tup l, .str (rowT l ++ [10]), .str [10], .str [115, 109, 97, 108, 108, 10, 115, 109, 97, 108, 108, 10, 115, 109, 97, 108, 108, 10, 115, 109, 97, 108, 108], y])) a8 a9 a10 a11 a12) τ3) :=
    evS_set (ev_lst (evs_cons (by rw [ev]) (evs_cons ev_int (evs_cons (ev_var rfl) (evs_cons (ev_adS (ev_var rfl) ev_str (by simp; omega)) (evs_cons ev_str (evs_cons hsm (evs_cons (ev_callT rfl (evs_cons ev_int evs_nil) (by rw [hP.g7]; exact e3)) evs_nil))))))) (by simp))
  have gts : ∀ t ∈ ([.non, .int 5, .tup l, .str (rowT l ++ [10]), .str [10], .str [115, 109, 97, 108, 108, 10, 115, 109, 97, 108, 108, 10, 115, 109, 97, 108, 108, 10, 115, 109, 97, 108, 108], y] : List D), Good14 t := by
    intro t ht
    simp only [List.mem_cons, List.not_mem_nil, or_false] at ht
    rcases ht with rfl | rfl | rfl | rfl | rfl | rfl | rfl
    · exact ⟨rfl, fun v hv => by cases hv⟩
    · exact ⟨rfl, fun v hv => by cases hv⟩
    · exact ⟨bd_bnd _ (bd_mono (by omega) _ hbl), fun v hv => by cases hv⟩
    · refine ⟨by simp [bnd]; omega, fun v hv => ?_⟩
      cases hv
      exact ⟨by simp; omega, no_bad hv (x := rowT l) (m := [10]) (m' := []) (y := []) (by simp) (by simp) (by simp) (by simp)⟩
    · refine ⟨rfl, fun v hv => ?_⟩
      cases hv
      refine ⟨by simp, fun L hL hb => ?_⟩
      have h1 := cut1_le 10 [10] hL
      have h2 := bad_len hb
      simp only [List.length_singleton] at h1
      omega
    · refine ⟨by simp [bnd], fun v hv => ?_⟩
      cases hv
      refine ⟨by simp, fun L hL hb => ?_⟩
      have h1 := small4 L hL
      have h2 := bad_len hb
      omega
    · exact good_any q5
  have esl : evi P (.data l14S) (F14 a2 (.d (.tup l)) (.d (.str (rowT l))) c5 (.d (.int (k : Int))) (.d (.lst [.non, .int 5, .tup l, .str (rowT l ++ [10]), .str [10], .str [115, 109, 97, 108, 108, 10, 115, 109, 97, 108, 108, 10, 115, 109, 97, 108, 108, 10, 115, 109, 97, 108, 108], y])) a8 a9 a10 a11 a12) τ3 = some (([[32], [10], [97], [49], [34], [], [95]] : List (List Nat)).map .str, τ3) :=
    evi_data (ev_tpF tk (evs_cons ev_str (evs_cons ev_str (evs_cons ev_str (evs_cons ev_str (evs_cons ev_str (evs_cons ev_str (evs_cons ev_str evs_nil))))))) (by simp)) rfl
  obtain ⟨ts, c8, es, qs⟩ := signs_loop hP a2 (.d (.tup l)) c5 a9 a10 a11 a12 l hv hTl k τ3 [[32], [10], [97], [49], [34], [], [95]] [.non, .int 5, .tup l, .str (rowT l ++ [10]), .str [10], .str [115, 109, 97, 108, 108, 10, 115, 109, 97, 108, 108, 10, 115, 109, 97, 108, 108, 10, 115, 109, 97, 108, 108], y] a8 (by decide) gts (by simp)
  obtain ⟨c9, c10, c11, et⟩ := things_loop hP a2 (.d (.tup l)) (.d (.str (rowT l))) c5 (.d (.int (k : Int))) (.d (.lst ts)) c8 a12 τ3 ts a9 a10 a11 qs
  refine ⟨.d (.tup l), .d (.str (rowT l)), c5, .d (.int (k : Int)), .d (.lst ts), c8, c9, c10, c11, τ3, ?_⟩
  exact (evB_nx ea).trans ((evB_nx eb).trans ((evB_nx ec).trans ((evB_nx (evS_fr el el2)).trans ((evB_nx ee).trans ((evB_nx ef).trans ((evB_nx (evS_fr esl es)).trans ((evB_nx (evS_fr (evi_data (ev_var rfl) rfl) et)).trans evB_nil0)))))))
theorem turn14_loop (P : Sg) (ns : List Int) (hP : P14 P ns) (a12 : Slot) : ∀ (xs : List D) (a2 a3 a4 a5 a6 a7 a8 a9 a10 a11 : Slot) (τ : TS), ∃ b2 b3 b4 b5 b6 b7 b8 b9 b10 b11 τ', forL (fun x ρ1 τ1 => (bindT (.nm 2) x ρ1).bind fun ρ2 => evB P t14 ρ2 τ1) xs (F14 a2 a3 a4 a5 a6 a7 a8 a9 a10 a11 a12) τ = some (.nx (F14 b2 b3 b4 b5 b6 b7 b8 b9 b10 b11 a12) τ')
  | [], a2, a3, a4, a5, a6, a7, a8, a9, a10, a11, τ => ⟨a2, a3, a4, a5, a6, a7, a8, a9, a10, a11, τ, rfl⟩
  | x :: xs, a2, a3, a4, a5, a6, a7, a8, a9, a10, a11, τ => by
    obtain ⟨c3, c4, c5, c6, c7, c8, c9, c10, c11, τ1, e1⟩ := turn14 P ns hP (.d x) a3 a4 a5 a6 a7 a8 a9 a10 a11 a12 τ
    obtain ⟨b2, b3, b4, b5, b6, b7, b8, b9, b10, b11, τ2, e2⟩ := turn14_loop P ns hP a12 xs (.d x) c3 c4 c5 c6 c7 c8 c9 c10 c11 τ1
    refine ⟨b2, b3, b4, b5, b6, b7, b8, b9, b10, b11, τ2, ?_⟩
    rw [forL_step (ρ1 := F14 (.d x) c3 c4 c5 c6 c7 c8 c9 c10 c11 a12) (τ1 := τ1) (by simp only [bindT, Option.bind_some]; exact e1)]
    exact e2
theorem law14 (P : Sg) (ns : List Int) (hP : P14 P ns) : ∃ τ, evB P ir_law14 (startLaw 13 1) ⟨0, 0⟩ = some (.rt (.bl true) τ) := by
  obtain ⟨b2, b3, b4, b5, b6, b7, b8, b9, b10, b11, τ, e⟩ := turn14_loop P ns hP .un (rangeD 0 7 1) .un .un .un .un .un .un .un .un .un .un ⟨0, 0⟩
  have tk := hP.tk
  refine ⟨τ, ?_⟩
  show evB P ir_law14 (F14 .un .un .un .un .un .un .un .un .un .un .un) ⟨0, 0⟩ = _
  unfold ir_law14
  refine (evB_nx (evS_fr (evi_rng1 (k := 7) (τ1 := ⟨0, 0⟩) ev_int (by omega)) e)).trans (evB_rt (evS_ret ?_))
  have q2 := readrow_ok ns (.str []) (fun v hv => by cases hv; simp) τ
  have q1 := rowtext_ok ns [] (by simp) (by simp) τ
  rw [show readRowD (.str []) = .tup [] from rfl] at q2
  refine ev_and0 (c := true) (ev_cmp0 (ev_call0 (evs_cons ev_str evs_nil) (by rw [hP.g4]; exact q2)) (ev_tpF tk evs_nil (by simp)) (by simp [cmpD, eqD])) (fun _ => ?_) fun z => by cases z
  exact ev_one0 (ev_cmp0 (ev_call0 (evs_cons (ev_tpF tk evs_nil (by simp)) evs_nil) (by rw [hP.g2]; exact q1)) ev_str (by simp [cmpD, eqD, rowT, TL.joinL]))
theorem all3 {α : Type} {p : α → Prop} {a b c : α} (h : p a) (h2 : p b) (h3 : p c) : ∀ x ∈ [a, b, c], p x := by
  intro x hx
  simp only [List.mem_cons, List.not_mem_nil, or_false] at hx
  rcases hx with rfl | rfl | rfl
  · exact h
  · exact h2
  · exact h3
end PD

set_option Elab.async false
set_option linter.all false
set_option maxRecDepth 100000
set_option maxHeartbeats 8000000
namespace K14
open PySem L2 PD
def topS (i : Nat) : Stmt := PySem.Challenge.pw_textcleaners_k14_whole_texts_of_rows.main.body.getD i (.Pass ⟨0, 0, 0, 0⟩)
theorem sc_is_string : FnScope ["value", "low", "high", "sign"] ["value", "low", "high"] (defScope (topS 8)) := ⟨rfl, rfl, rfl, by decide +kernel, rfl, by decide +kernel, by decide +kernel⟩
theorem ck_is_string : chkB ⟨["value", "low", "high", "sign"], [], ["SIGNS"], []⟩ (defScope (topS 8)) ir_is_string (defBody (topS 8)) = true := by decide +kernel
theorem sc_is_set : FnScope ["value", "one", "other"] ["value"] (defScope (topS 9)) := ⟨rfl, rfl, rfl, by decide +kernel, rfl, by decide +kernel, by decide +kernel⟩
theorem ck_is_set : chkB ⟨["value", "one", "other"], [("is_string", false)], [], []⟩ (defScope (topS 9)) ir_is_set (defBody (topS 9)) = true := by decide +kernel
theorem sc_is_number : FnScope ["value"] ["value"] (defScope (topS 10)) := ⟨rfl, rfl, rfl, by decide +kernel, rfl, by decide +kernel, by decide +kernel⟩
theorem ck_is_number : chkB ⟨["value"], [], [], []⟩ (defScope (topS 10)) ir_is_number (defBody (topS 10)) = true := by decide +kernel
theorem sc_is_step : FnScope ["value", "word", "rest"] ["value"] (defScope (topS 11)) := ⟨rfl, rfl, rfl, by decide +kernel, rfl, by decide +kernel, by decide +kernel⟩
theorem ck_is_step : chkB ⟨["value", "word", "rest"], [("is_set", false), ("is_string", false), ("is_number", false)], ["WITH_SET", "WITH_WORD", "WITH_NUMBER"], []⟩ (defScope (topS 11)) ir_is_step (defBody (topS 11)) = true := by decide +kernel
theorem sc_is_row : FnScope ["value", "step"] ["value"] (defScope (topS 12)) := ⟨rfl, rfl, rfl, by decide +kernel, rfl, by decide +kernel, by decide +kernel⟩
theorem ck_is_row : chkB ⟨["value", "step"], [("is_step", false)], ["MOST_STEPS"], []⟩ (defScope (topS 12)) ir_is_row (defBody (topS 12)) = true := by decide +kernel
theorem sc_part_text : FnScope ["part"] ["part"] (defScope (topS 14)) := ⟨rfl, rfl, rfl, by decide +kernel, rfl, by decide +kernel, by decide +kernel⟩
theorem ck_part_text : chkB ⟨["part"], [], [], []⟩ (defScope (topS 14)) ir_part_text (defBody (topS 14)) = true := by decide +kernel
theorem sc_step_text : FnScope ["step", "part"] ["step"] (defScope (topS 15)) := ⟨rfl, rfl, rfl, by decide +kernel, rfl, by decide +kernel, by decide +kernel⟩
theorem ck_step_text : chkB ⟨["step", "part"], [("part_text", false)], [], []⟩ (defScope (topS 15)) ir_step_text (defBody (topS 15)) = true := by decide +kernel
theorem sc_row_text : FnScope ["row", "step"] ["row"] (defScope (topS 16)) := ⟨rfl, rfl, rfl, by decide +kernel, rfl, by decide +kernel, by decide +kernel⟩
theorem ck_row_text : chkB ⟨["row", "step"], [("step_text", false)], [], []⟩ (defScope (topS 16)) ir_row_text (defBody (topS 16)) = true := by decide +kernel
theorem sc_read_parts : FnScope ["rest", "parts", "odd", "at", "part"] ["rest"] (defScope (topS 17)) := ⟨rfl, rfl, rfl, by decide +kernel, rfl, by decide +kernel, by decide +kernel⟩
theorem ck_read_parts : chkB ⟨["rest", "parts", "odd", "at", "part"], [], [], []⟩ (defScope (topS 17)) ir_read_parts (defBody (topS 17)) = true := by decide +kernel
theorem sc_read_step : FnScope ["line", "word", "rest", "parts"] ["line"] (defScope (topS 18)) := ⟨rfl, rfl, rfl, by decide +kernel, rfl, by decide +kernel, by decide +kernel⟩
theorem ck_read_step : chkB ⟨["line", "word", "rest", "parts"], [("read_parts", false)], [], []⟩ (defScope (topS 18)) ir_read_step (defBody (topS 18)) = true := by decide +kernel
theorem sc_read_row : FnScope ["value", "found", "line"] ["value"] (defScope (topS 19)) := ⟨rfl, rfl, rfl, by decide +kernel, rfl, by decide +kernel, by decide +kernel⟩
theorem ck_read_row : chkB ⟨["value", "found", "line"], [("read_step", false), ("is_row", false)], [], []⟩ (defScope (topS 19)) ir_read_row (defBody (topS 19)) = true := by decide +kernel
theorem sc_law_draw : FnScope ["tape", "many", "prime", "cell", "found"] ["tape", "many"] (defScope (topS 21)) := ⟨rfl, rfl, rfl, by decide +kernel, rfl, by decide +kernel, by decide +kernel⟩
theorem ck_law_draw : chkB ⟨["tape", "many", "prime", "cell", "found"], [], [], []⟩ (defScope (topS 21)) ir_law_draw (defBody (topS 21)) = true := by decide +kernel
theorem sc_law_like : FnScope ["one", "two", "k"] ["one", "two"] (defScope (topS 22)) := ⟨rfl, rfl, rfl, by decide +kernel, rfl, by decide +kernel, by decide +kernel⟩
theorem ck_law_like : chkB ⟨["one", "two", "k"], [("_law_like", false)], [], []⟩ (defScope (topS 22)) ir_law_like (defBody (topS 22)) = true := by decide +kernel
theorem sc_law_any : FnScope ["tape", "deep", "course", "some", "k"] ["tape", "deep"] (defScope (topS 23)) := ⟨rfl, rfl, rfl, by decide +kernel, rfl, by decide +kernel, by decide +kernel⟩
theorem ck_law_any : chkB ⟨["tape", "deep", "course", "some", "k"], [("_law_draw", true), ("_law_any", true)], [], []⟩ (defScope (topS 23)) ir_law_any (defBody (topS 23)) = true := by decide +kernel
theorem sc_law_sign : FnScope ["tape"] ["tape"] (defScope (topS 24)) := ⟨rfl, rfl, rfl, by decide +kernel, rfl, by decide +kernel, by decide +kernel⟩
theorem ck_law_sign : chkB ⟨["tape"], [("_law_draw", true)], [], []⟩ (defScope (topS 24)) ir_law_sign (defBody (topS 24)) = true := by decide +kernel
theorem ct_law_sign : chkSub (defBody (topS 24)) (tx SGN) (chkE ⟨["tape"], [("_law_draw", true)], [], []⟩ (defScope (topS 24)) (.callT 0 0 (.cons (.int 11) .nil))) = true := by decide +kernel
theorem sc_law_word : FnScope ["tape", "one"] ["tape"] (defScope (topS 25)) := ⟨rfl, rfl, rfl, by decide +kernel, rfl, by decide +kernel, by decide +kernel⟩
theorem ck_law_word : chkB ⟨["tape", "one"], [("_law_sign", true), ("_law_draw", true)], [], []⟩ (defScope (topS 25)) ir_law_word (defBody (topS 25)) = true := by decide +kernel
theorem sc_law_set : FnScope ["tape", "found", "turn"] ["tape"] (defScope (topS 26)) := ⟨rfl, rfl, rfl, by decide +kernel, rfl, by decide +kernel, by decide +kernel⟩
theorem ck_law_set : chkB ⟨["tape", "found", "turn"], [("_law_sign", true), ("_law_draw", true)], [], []⟩ (defScope (topS 26)) ir_law_set (defBody (topS 26)) = true := by decide +kernel
theorem sc_law_step : FnScope ["tape", "kinds", "word", "one", "other"] ["tape"] (defScope (topS 27)) := ⟨rfl, rfl, rfl, by decide +kernel, rfl, by decide +kernel, by decide +kernel⟩
theorem ck_law_step : chkB ⟨["tape", "kinds", "word", "one", "other"], [("_law_draw", true), ("_law_set", true), ("_law_word", true), ("_law_sign", true)], [], []⟩ (defScope (topS 27)) ir_step7 ((defBody (topS 27)).take 7) = true := by decide +kernel
theorem ct_law_step : chkTail (defScope (topS 27)) ((defBody (topS 27)).drop 7) = true := by decide +kernel
theorem sc_law_row : FnScope ["tape", "most", "found", "turn"] ["tape", "most"] (defScope (topS 28)) := ⟨rfl, rfl, rfl, by decide +kernel, rfl, by decide +kernel, by decide +kernel⟩
theorem ck_law_row : chkB ⟨["tape", "most", "found", "turn"], [("_law_draw", true), ("_law_step", true)], [], []⟩ (defScope (topS 28)) ir_law_row (defBody (topS 28)) = true := by decide +kernel
theorem sc_law_line : FnScope ["step", "found", "part"] ["step"] (defScope (topS 29)) := ⟨rfl, rfl, rfl, by decide +kernel, rfl, by decide +kernel, by decide +kernel⟩
theorem ck_law_line : chkB ⟨["step", "found", "part"], [], [], []⟩ (defScope (topS 29)) ir_line2 ((defBody (topS 29)).take 2) = true := by decide +kernel
theorem ct_law_line : chkRep "found" ((defBody (topS 29)).drop 2) = true := by decide +kernel
theorem sc_law_all_lines : FnScope ["tape", "row", "lines", "quote", "step"] ["tape", "row"] (defScope (topS 30)) := ⟨rfl, rfl, rfl, by decide +kernel, rfl, by decide +kernel, by decide +kernel⟩
theorem ck_law_all_lines : chkB ⟨["tape", "row", "lines", "quote", "step"], [("_law_line", false)], [], []⟩ (defScope (topS 30)) ir_law_all_lines (defBody (topS 30)) = true := by decide +kernel
theorem sc_law_step_of : FnScope ["line", "word", "parts", "at"] ["line"] (defScope (topS 31)) := ⟨rfl, rfl, rfl, by decide +kernel, rfl, by decide +kernel, by decide +kernel⟩
theorem ck_law_step_of : chkB ⟨["line", "word", "parts", "at"], [], [], []⟩ (defScope (topS 31)) ir_law_step_of (defBody (topS 31)) = true := by decide +kernel
theorem sc_law : FnScope ["script", "tape", "turn", "row", "text", "line", "at", "things", "sign", "thing", "told", "steps", "step"] ["script"] (defScope (topS 32)) := ⟨rfl, rfl, rfl, by decide +kernel, rfl, by decide +kernel, by decide +kernel⟩
theorem cz_law : chkTape (defScope (topS 32)) 1 ["script", "tape", "turn", "row", "text", "line", "at", "things", "sign", "thing", "told", "steps", "step"] ((defBody (topS 32)).headD (.Pass ⟨0, 0, 0, 0⟩)) = true := by decide +kernel
theorem cb_law : defBody (topS 32) = (defBody (topS 32)).headD (.Pass ⟨0, 0, 0, 0⟩) :: (defBody (topS 32)).tail := rfl
theorem ck_law : chkB ⟨["script", "tape", "turn", "row", "text", "line", "at", "things", "sign", "thing", "told", "steps", "step"], [("_law_row", true), ("_law_line", false), ("row_text", false), ("_law_like", false), ("read_row", false), ("_law_all_lines", true), ("_law_draw", true), ("_law_any", true), ("is_row", false), ("_law_step_of", false)], [], []⟩ (defScope (topS 32)) ir_law14 (defBody (topS 32)).tail = true := by decide +kernel
theorem all_mk {l : PySem.W.OpenLaw} {w : World} {K : PySem.W.Frag} {h : Heap} {mg : Str → Option Value} {fa : Addr} (X : K.In h) (G : h.Ns mainGlobals mg) (hfa : mg "law" = some (.ref fa))
    {od0 an0 : Option Addr} {sl0 : Array (Option Value)} {oc0 kV0 dc0 pm0 cd0 ct0 : Value} {f0 : Addr} {od1 an1 : Option Addr} {sl1 : Array (Option Value)} {oc1 kV1 dc1 pm1 cd1 ct1 : Value} {f1 : Addr} {od2 an2 : Option Addr} {sl2 : Array (Option Value)} {oc2 kV2 dc2 pm2 cd2 ct2 : Value} {f2 : Addr} {od3 an3 : Option Addr} {sl3 : Array (Option Value)} {oc3 kV3 dc3 pm3 cd3 ct3 : Value} {f3 : Addr} {od4 an4 : Option Addr} {sl4 : Array (Option Value)} {oc4 kV4 dc4 pm4 cd4 ct4 : Value} {f4 : Addr} {od5 an5 : Option Addr} {sl5 : Array (Option Value)} {oc5 kV5 dc5 pm5 cd5 ct5 : Value} {f5 : Addr} {od6 an6 : Option Addr} {sl6 : Array (Option Value)} {oc6 kV6 dc6 pm6 cd6 ct6 : Value} {f6 : Addr} {od7 an7 : Option Addr} {sl7 : Array (Option Value)} {oc7 kV7 dc7 pm7 cd7 ct7 : Value} {f7 : Addr} {od8 an8 : Option Addr} {sl8 : Array (Option Value)} {oc8 kV8 dc8 pm8 cd8 ct8 : Value} {f8 : Addr} {od9 an9 : Option Addr} {sl9 : Array (Option Value)} {oc9 kV9 dc9 pm9 cd9 ct9 : Value} {f9 : Addr} {od10 an10 : Option Addr} {sl10 : Array (Option Value)} {oc10 kV10 dc10 pm10 cd10 ct10 : Value} {f10 : Addr} {od11 an11 : Option Addr} {sl11 : Array (Option Value)} {oc11 kV11 dc11 pm11 cd11 ct11 : Value} {f11 : Addr} {od12 an12 : Option Addr} {sl12 : Array (Option Value)} {oc12 kV12 dc12 pm12 cd12 ct12 : Value} {f12 : Addr} {od13 an13 : Option Addr} {sl13 : Array (Option Value)} {oc13 kV13 dc13 pm13 cd13 ct13 : Value} {f13 : Addr} {od14 an14 : Option Addr} {sl14 : Array (Option Value)} {oc14 kV14 dc14 pm14 cd14 ct14 : Value} {f14 : Addr} {od15 an15 : Option Addr} {sl15 : Array (Option Value)} {oc15 kV15 dc15 pm15 cd15 ct15 : Value} {f15 : Addr} {od16 an16 : Option Addr} {sl16 : Array (Option Value)} {oc16 kV16 dc16 pm16 cd16 ct16 : Value} {f16 : Addr} {od17 an17 : Option Addr} {sl17 : Array (Option Value)} {oc17 kV17 dc17 pm17 cd17 ct17 : Value} {f17 : Addr} {od18 an18 : Option Addr} {sl18 : Array (Option Value)} {oc18 kV18 dc18 pm18 cd18 ct18 : Value} {f18 : Addr} {od19 an19 : Option Addr} {sl19 : Array (Option Value)} {oc19 kV19 dc19 pm19 cd19 ct19 : Value} {f19 : Addr} {od20 an20 : Option Addr} {sl20 : Array (Option Value)} {oc20 kV20 dc20 pm20 cd20 ct20 : Value} {f20 : Addr} {od21 an21 : Option Addr} {sl21 : Array (Option Value)} {oc21 kV21 dc21 pm21 cd21 ct21 : Value} {f21 : Addr} {od22 an22 : Option Addr} {sl22 : Array (Option Value)} {oc22 kV22 dc22 pm22 cd22 ct22 : Value} {f22 : Addr} {uMOST_STEPS : Value} {uSIGNS : Value} {rWITH_NUMBER : Addr} {ddWITH_NUMBER : Option Addr} {itWITH_NUMBER : Array Value} {nnWITH_NUMBER : Nat} {ssWITH_NUMBER : Array (Option Value)} {rWITH_SET : Addr} {ddWITH_SET : Option Addr} {itWITH_SET : Array Value} {nnWITH_SET : Nat} {ssWITH_SET : Array (Option Value)} {rWITH_WORD : Addr} {ddWITH_WORD : Option Addr} {itWITH_WORD : Array Value} {nnWITH_WORD : Nat} {ssWITH_WORD : Array (Option Value)}
    (a0 : PySem.W.nsIn K mainGlobals "is_string" = some (some (.ref f0))) (l0 : K.lookup f0 = some ⟨oc0, od0, .func (PySem.W.fnOf "is_string" "is_string" (defArgs (topS 8)) (defBody (topS 8)) (defScope (topS 8)) .none kV0 dc0 pm0 an0 cd0 ct0), sl0⟩) (c0 : PySem.W.codeIn K cd0 "is_string" = true) (k0 : PySem.W.keepIn K (.ref f0) = true)
    (a1 : PySem.W.nsIn K mainGlobals "is_set" = some (some (.ref f1))) (l1 : K.lookup f1 = some ⟨oc1, od1, .func (PySem.W.fnOf "is_set" "is_set" (defArgs (topS 9)) (defBody (topS 9)) (defScope (topS 9)) .none kV1 dc1 pm1 an1 cd1 ct1), sl1⟩) (c1 : PySem.W.codeIn K cd1 "is_set" = true) (k1 : PySem.W.keepIn K (.ref f1) = true)
    (a2 : PySem.W.nsIn K mainGlobals "is_number" = some (some (.ref f2))) (l2 : K.lookup f2 = some ⟨oc2, od2, .func (PySem.W.fnOf "is_number" "is_number" (defArgs (topS 10)) (defBody (topS 10)) (defScope (topS 10)) .none kV2 dc2 pm2 an2 cd2 ct2), sl2⟩) (c2 : PySem.W.codeIn K cd2 "is_number" = true) (k2 : PySem.W.keepIn K (.ref f2) = true)
    (a3 : PySem.W.nsIn K mainGlobals "is_step" = some (some (.ref f3))) (l3 : K.lookup f3 = some ⟨oc3, od3, .func (PySem.W.fnOf "is_step" "is_step" (defArgs (topS 11)) (defBody (topS 11)) (defScope (topS 11)) .none kV3 dc3 pm3 an3 cd3 ct3), sl3⟩) (c3 : PySem.W.codeIn K cd3 "is_step" = true) (k3 : PySem.W.keepIn K (.ref f3) = true)
    (a4 : PySem.W.nsIn K mainGlobals "is_row" = some (some (.ref f4))) (l4 : K.lookup f4 = some ⟨oc4, od4, .func (PySem.W.fnOf "is_row" "is_row" (defArgs (topS 12)) (defBody (topS 12)) (defScope (topS 12)) .none kV4 dc4 pm4 an4 cd4 ct4), sl4⟩) (c4 : PySem.W.codeIn K cd4 "is_row" = true) (k4 : PySem.W.keepIn K (.ref f4) = true)
    (a5 : PySem.W.nsIn K mainGlobals "part_text" = some (some (.ref f5))) (l5 : K.lookup f5 = some ⟨oc5, od5, .func (PySem.W.fnOf "part_text" "part_text" (defArgs (topS 14)) (defBody (topS 14)) (defScope (topS 14)) .none kV5 dc5 pm5 an5 cd5 ct5), sl5⟩) (c5 : PySem.W.codeIn K cd5 "part_text" = true) (k5 : PySem.W.keepIn K (.ref f5) = true)
    (a6 : PySem.W.nsIn K mainGlobals "step_text" = some (some (.ref f6))) (l6 : K.lookup f6 = some ⟨oc6, od6, .func (PySem.W.fnOf "step_text" "step_text" (defArgs (topS 15)) (defBody (topS 15)) (defScope (topS 15)) .none kV6 dc6 pm6 an6 cd6 ct6), sl6⟩) (c6 : PySem.W.codeIn K cd6 "step_text" = true) (k6 : PySem.W.keepIn K (.ref f6) = true)
    (a7 : PySem.W.nsIn K mainGlobals "row_text" = some (some (.ref f7))) (l7 : K.lookup f7 = some ⟨oc7, od7, .func (PySem.W.fnOf "row_text" "row_text" (defArgs (topS 16)) (defBody (topS 16)) (defScope (topS 16)) .none kV7 dc7 pm7 an7 cd7 ct7), sl7⟩) (c7 : PySem.W.codeIn K cd7 "row_text" = true) (k7 : PySem.W.keepIn K (.ref f7) = true)
    (a8 : PySem.W.nsIn K mainGlobals "read_parts" = some (some (.ref f8))) (l8 : K.lookup f8 = some ⟨oc8, od8, .func (PySem.W.fnOf "read_parts" "read_parts" (defArgs (topS 17)) (defBody (topS 17)) (defScope (topS 17)) .none kV8 dc8 pm8 an8 cd8 ct8), sl8⟩) (c8 : PySem.W.codeIn K cd8 "read_parts" = true) (k8 : PySem.W.keepIn K (.ref f8) = true)
    (a9 : PySem.W.nsIn K mainGlobals "read_step" = some (some (.ref f9))) (l9 : K.lookup f9 = some ⟨oc9, od9, .func (PySem.W.fnOf "read_step" "read_step" (defArgs (topS 18)) (defBody (topS 18)) (defScope (topS 18)) .none kV9 dc9 pm9 an9 cd9 ct9), sl9⟩) (c9 : PySem.W.codeIn K cd9 "read_step" = true) (k9 : PySem.W.keepIn K (.ref f9) = true)
    (a10 : PySem.W.nsIn K mainGlobals "read_row" = some (some (.ref f10))) (l10 : K.lookup f10 = some ⟨oc10, od10, .func (PySem.W.fnOf "read_row" "read_row" (defArgs (topS 19)) (defBody (topS 19)) (defScope (topS 19)) .none kV10 dc10 pm10 an10 cd10 ct10), sl10⟩) (c10 : PySem.W.codeIn K cd10 "read_row" = true) (k10 : PySem.W.keepIn K (.ref f10) = true)
    (a11 : PySem.W.nsIn K mainGlobals "_law_draw" = some (some (.ref f11))) (l11 : K.lookup f11 = some ⟨oc11, od11, .func (PySem.W.fnOf "_law_draw" "_law_draw" (defArgs (topS 21)) (defBody (topS 21)) (defScope (topS 21)) .none kV11 dc11 pm11 an11 cd11 ct11), sl11⟩) (c11 : PySem.W.codeIn K cd11 "_law_draw" = true) (k11 : PySem.W.keepIn K (.ref f11) = true)
    (a12 : PySem.W.nsIn K mainGlobals "_law_like" = some (some (.ref f12))) (l12 : K.lookup f12 = some ⟨oc12, od12, .func (PySem.W.fnOf "_law_like" "_law_like" (defArgs (topS 22)) (defBody (topS 22)) (defScope (topS 22)) .none kV12 dc12 pm12 an12 cd12 ct12), sl12⟩) (c12 : PySem.W.codeIn K cd12 "_law_like" = true) (k12 : PySem.W.keepIn K (.ref f12) = true)
    (a13 : PySem.W.nsIn K mainGlobals "_law_any" = some (some (.ref f13))) (l13 : K.lookup f13 = some ⟨oc13, od13, .func (PySem.W.fnOf "_law_any" "_law_any" (defArgs (topS 23)) (defBody (topS 23)) (defScope (topS 23)) .none kV13 dc13 pm13 an13 cd13 ct13), sl13⟩) (c13 : PySem.W.codeIn K cd13 "_law_any" = true) (k13 : PySem.W.keepIn K (.ref f13) = true)
    (a14 : PySem.W.nsIn K mainGlobals "_law_sign" = some (some (.ref f14))) (l14 : K.lookup f14 = some ⟨oc14, od14, .func (PySem.W.fnOf "_law_sign" "_law_sign" (defArgs (topS 24)) (defBody (topS 24)) (defScope (topS 24)) .none kV14 dc14 pm14 an14 cd14 ct14), sl14⟩) (c14 : PySem.W.codeIn K cd14 "_law_sign" = true) (k14 : PySem.W.keepIn K (.ref f14) = true)
    (a15 : PySem.W.nsIn K mainGlobals "_law_word" = some (some (.ref f15))) (l15 : K.lookup f15 = some ⟨oc15, od15, .func (PySem.W.fnOf "_law_word" "_law_word" (defArgs (topS 25)) (defBody (topS 25)) (defScope (topS 25)) .none kV15 dc15 pm15 an15 cd15 ct15), sl15⟩) (c15 : PySem.W.codeIn K cd15 "_law_word" = true) (k15 : PySem.W.keepIn K (.ref f15) = true)
    (a16 : PySem.W.nsIn K mainGlobals "_law_set" = some (some (.ref f16))) (l16 : K.lookup f16 = some ⟨oc16, od16, .func (PySem.W.fnOf "_law_set" "_law_set" (defArgs (topS 26)) (defBody (topS 26)) (defScope (topS 26)) .none kV16 dc16 pm16 an16 cd16 ct16), sl16⟩) (c16 : PySem.W.codeIn K cd16 "_law_set" = true) (k16 : PySem.W.keepIn K (.ref f16) = true)
    (a17 : PySem.W.nsIn K mainGlobals "_law_step" = some (some (.ref f17))) (l17 : K.lookup f17 = some ⟨oc17, od17, .func (PySem.W.fnOf "_law_step" "_law_step" (defArgs (topS 27)) (defBody (topS 27)) (defScope (topS 27)) .none kV17 dc17 pm17 an17 cd17 ct17), sl17⟩) (c17 : PySem.W.codeIn K cd17 "_law_step" = true) (k17 : PySem.W.keepIn K (.ref f17) = true)
    (a18 : PySem.W.nsIn K mainGlobals "_law_row" = some (some (.ref f18))) (l18 : K.lookup f18 = some ⟨oc18, od18, .func (PySem.W.fnOf "_law_row" "_law_row" (defArgs (topS 28)) (defBody (topS 28)) (defScope (topS 28)) .none kV18 dc18 pm18 an18 cd18 ct18), sl18⟩) (c18 : PySem.W.codeIn K cd18 "_law_row" = true) (k18 : PySem.W.keepIn K (.ref f18) = true)
    (a19 : PySem.W.nsIn K mainGlobals "_law_line" = some (some (.ref f19))) (l19 : K.lookup f19 = some ⟨oc19, od19, .func (PySem.W.fnOf "_law_line" "_law_line" (defArgs (topS 29)) (defBody (topS 29)) (defScope (topS 29)) .none kV19 dc19 pm19 an19 cd19 ct19), sl19⟩) (c19 : PySem.W.codeIn K cd19 "_law_line" = true) (k19 : PySem.W.keepIn K (.ref f19) = true)
    (a20 : PySem.W.nsIn K mainGlobals "_law_all_lines" = some (some (.ref f20))) (l20 : K.lookup f20 = some ⟨oc20, od20, .func (PySem.W.fnOf "_law_all_lines" "_law_all_lines" (defArgs (topS 30)) (defBody (topS 30)) (defScope (topS 30)) .none kV20 dc20 pm20 an20 cd20 ct20), sl20⟩) (c20 : PySem.W.codeIn K cd20 "_law_all_lines" = true) (k20 : PySem.W.keepIn K (.ref f20) = true)
    (a21 : PySem.W.nsIn K mainGlobals "_law_step_of" = some (some (.ref f21))) (l21 : K.lookup f21 = some ⟨oc21, od21, .func (PySem.W.fnOf "_law_step_of" "_law_step_of" (defArgs (topS 31)) (defBody (topS 31)) (defScope (topS 31)) .none kV21 dc21 pm21 an21 cd21 ct21), sl21⟩) (c21 : PySem.W.codeIn K cd21 "_law_step_of" = true) (k21 : PySem.W.keepIn K (.ref f21) = true)
    (a22 : PySem.W.nsIn K mainGlobals "law" = some (some (.ref f22))) (l22 : K.lookup f22 = some ⟨oc22, od22, .func (PySem.W.fnOf "law" "law" (defArgs (topS 32)) (defBody (topS 32)) (defScope (topS 32)) .none kV22 dc22 pm22 an22 cd22 ct22), sl22⟩) (c22 : PySem.W.codeIn K cd22 "law" = true) (k22 : PySem.W.keepIn K (.ref f22) = true)
    (zlen : PySem.W.nsIn K mainGlobals "len" = some none)
    (zint : PySem.W.nsIn K mainGlobals "int" = some none)
    (zmax : PySem.W.nsIn K mainGlobals "max" = some none)
    (zmin : PySem.W.nsIn K mainGlobals "min" = some none)
    (zlist : PySem.W.nsIn K mainGlobals "list" = some none)
    (ztuple : PySem.W.nsIn K mainGlobals "tuple" = some none)
    (zstr : PySem.W.nsIn K mainGlobals "str" = some none)
    (zall : PySem.W.nsIn K mainGlobals "all" = some none)
    (zany : PySem.W.nsIn K mainGlobals "any" = some none)
    (zrange : PySem.W.nsIn K mainGlobals "range" = some none)
    (zisinstance : PySem.W.nsIn K mainGlobals "isinstance" = some none)
    (zbool : PySem.W.nsIn K mainGlobals "bool" = some none)
    (zsorted : PySem.W.nsIn K mainGlobals "sorted" = some none)
    (zset : PySem.W.nsIn K mainGlobals "set" = some none)
    (zenumerate : PySem.W.nsIn K mainGlobals "enumerate" = some none)
    (zzip : PySem.W.nsIn K mainGlobals "zip" = some none)
    (aMOST_STEPS : PySem.W.nsIn K mainGlobals "MOST_STEPS" = some (some uMOST_STEPS))
    (aSIGNS : PySem.W.nsIn K mainGlobals "SIGNS" = some (some uSIGNS))
    (aWITH_NUMBER : PySem.W.nsIn K mainGlobals "WITH_NUMBER" = some (some (.ref rWITH_NUMBER)))
    (bWITH_NUMBER : K.lookup rWITH_NUMBER = some ⟨.type "tuple", ddWITH_NUMBER, .seq itWITH_NUMBER nnWITH_NUMBER, ssWITH_NUMBER⟩)
    (aWITH_SET : PySem.W.nsIn K mainGlobals "WITH_SET" = some (some (.ref rWITH_SET)))
    (bWITH_SET : K.lookup rWITH_SET = some ⟨.type "tuple", ddWITH_SET, .seq itWITH_SET nnWITH_SET, ssWITH_SET⟩)
    (aWITH_WORD : PySem.W.nsIn K mainGlobals "WITH_WORD" = some (some (.ref rWITH_WORD)))
    (bWITH_WORD : K.lookup rWITH_WORD = some ⟨.type "tuple", ddWITH_WORD, .seq itWITH_WORD nnWITH_WORD, ssWITH_WORD⟩)
    (vMOST_STEPS : ∃ t, uMOST_STEPS = Value.int 3 t)
    (vSIGNS : ∃ t, uSIGNS = Value.str (tx sgL) t)
    (vWITH_NUMBER : ∃ t0 t1, itWITH_NUMBER = #[Value.str (tx wFirst) t0, Value.str (tx wLast) t1])
    (vWITH_SET : ∃ t0 t1 t2, itWITH_SET = #[Value.str (tx wTrim) t0, Value.str (tx wDrop) t1, Value.str (tx wSqueeze) t2])
    (vWITH_WORD : ∃ t0 t1 t2 t3, itWITH_WORD = #[Value.str (tx wFront) t0, Value.str (tx wFronts) t1, Value.str (tx wBack) t2, Value.str (tx wBacks) t3]) :
    ∃ fd : FuncData, (∀ (s : Shared) (v : Value), BindsTo s fd ⟨[v], []⟩ [("script", v)]) ∧ ∀ base : Heap, K.In base → base.Ns mainGlobals mg → FnOk l.prog w K mg base CX0 21 fa fd ["script"] (PD.spLaw K) := by
  have e := hfa.symm.trans (PySem.W.mg_of X G a22)
  cases e
  have M : Mo ⟨K, false⟩ K mg := by
    refine ⟨rfl, fun b => ?_, PySem.W.mg_none_of X G zrange, PySem.W.mg_none_of X G zisinstance, PySem.W.mg_none_of X G zbool, fun x hx => ?_⟩
    · cases b
      · exact PySem.W.mg_none_of X G zlen
      · exact PySem.W.mg_none_of X G zint
      · exact PySem.W.mg_none_of X G zmax
      · exact PySem.W.mg_none_of X G zmin
      · exact PySem.W.mg_none_of X G zlist
      · exact PySem.W.mg_none_of X G ztuple
      · exact PySem.W.mg_none_of X G zstr
      · exact PySem.W.mg_none_of X G zall
      · exact PySem.W.mg_none_of X G zany
    · simp only [List.mem_cons, List.not_mem_nil, or_false] at hx
      rcases hx with rfl | rfl | rfl | rfl
      · exact PySem.W.mg_none_of X G zsorted
      · exact PySem.W.mg_none_of X G zset
      · exact PySem.W.mg_none_of X G zenumerate
      · exact PySem.W.mg_none_of X G zzip
  have F0 := fun_mk (st := topS 8) l0 c0 k0
  have D0 : DefOk K mg "is_string" (topS 8) ["value", "low", "high"] := ⟨_, _, F0, PySem.W.mg_of X G a0, F0.binds (ps := ["value", "low", "high"]) fun _ _ _ _ _ _ us hl => match us, hl with | [_, _, _], _ => rfl⟩
  have F1 := fun_mk (st := topS 9) l1 c1 k1
  have D1 : DefOk K mg "is_set" (topS 9) ["value"] := ⟨_, _, F1, PySem.W.mg_of X G a1, F1.binds (ps := ["value"]) fun _ _ _ _ _ _ us hl => match us, hl with | [_], _ => rfl⟩
  have F2 := fun_mk (st := topS 10) l2 c2 k2
  have D2 : DefOk K mg "is_number" (topS 10) ["value"] := ⟨_, _, F2, PySem.W.mg_of X G a2, F2.binds (ps := ["value"]) fun _ _ _ _ _ _ us hl => match us, hl with | [_], _ => rfl⟩
  have F3 := fun_mk (st := topS 11) l3 c3 k3
  have D3 : DefOk K mg "is_step" (topS 11) ["value"] := ⟨_, _, F3, PySem.W.mg_of X G a3, F3.binds (ps := ["value"]) fun _ _ _ _ _ _ us hl => match us, hl with | [_], _ => rfl⟩
  have F4 := fun_mk (st := topS 12) l4 c4 k4
  have D4 : DefOk K mg "is_row" (topS 12) ["value"] := ⟨_, _, F4, PySem.W.mg_of X G a4, F4.binds (ps := ["value"]) fun _ _ _ _ _ _ us hl => match us, hl with | [_], _ => rfl⟩
  have F5 := fun_mk (st := topS 14) l5 c5 k5
  have D5 : DefOk K mg "part_text" (topS 14) ["part"] := ⟨_, _, F5, PySem.W.mg_of X G a5, F5.binds (ps := ["part"]) fun _ _ _ _ _ _ us hl => match us, hl with | [_], _ => rfl⟩
  have F6 := fun_mk (st := topS 15) l6 c6 k6
  have D6 : DefOk K mg "step_text" (topS 15) ["step"] := ⟨_, _, F6, PySem.W.mg_of X G a6, F6.binds (ps := ["step"]) fun _ _ _ _ _ _ us hl => match us, hl with | [_], _ => rfl⟩
  have F7 := fun_mk (st := topS 16) l7 c7 k7
  have D7 : DefOk K mg "row_text" (topS 16) ["row"] := ⟨_, _, F7, PySem.W.mg_of X G a7, F7.binds (ps := ["row"]) fun _ _ _ _ _ _ us hl => match us, hl with | [_], _ => rfl⟩
  have F8 := fun_mk (st := topS 17) l8 c8 k8
  have D8 : DefOk K mg "read_parts" (topS 17) ["rest"] := ⟨_, _, F8, PySem.W.mg_of X G a8, F8.binds (ps := ["rest"]) fun _ _ _ _ _ _ us hl => match us, hl with | [_], _ => rfl⟩
  have F9 := fun_mk (st := topS 18) l9 c9 k9
  have D9 : DefOk K mg "read_step" (topS 18) ["line"] := ⟨_, _, F9, PySem.W.mg_of X G a9, F9.binds (ps := ["line"]) fun _ _ _ _ _ _ us hl => match us, hl with | [_], _ => rfl⟩
  have F10 := fun_mk (st := topS 19) l10 c10 k10
  have D10 : DefOk K mg "read_row" (topS 19) ["value"] := ⟨_, _, F10, PySem.W.mg_of X G a10, F10.binds (ps := ["value"]) fun _ _ _ _ _ _ us hl => match us, hl with | [_], _ => rfl⟩
  have F11 := fun_mk (st := topS 21) l11 c11 k11
  have D11 : DefOk K mg "_law_draw" (topS 21) ["tape", "many"] := ⟨_, _, F11, PySem.W.mg_of X G a11, F11.binds (ps := ["tape", "many"]) fun _ _ _ _ _ _ us hl => match us, hl with | [_, _], _ => rfl⟩
  have F12 := fun_mk (st := topS 22) l12 c12 k12
  have D12 : DefOk K mg "_law_like" (topS 22) ["one", "two"] := ⟨_, _, F12, PySem.W.mg_of X G a12, F12.binds (ps := ["one", "two"]) fun _ _ _ _ _ _ us hl => match us, hl with | [_, _], _ => rfl⟩
  have F13 := fun_mk (st := topS 23) l13 c13 k13
  have D13 : DefOk K mg "_law_any" (topS 23) ["tape", "deep"] := ⟨_, _, F13, PySem.W.mg_of X G a13, F13.binds (ps := ["tape", "deep"]) fun _ _ _ _ _ _ us hl => match us, hl with | [_, _], _ => rfl⟩
  have F14 := fun_mk (st := topS 24) l14 c14 k14
  have D14 : DefOk K mg "_law_sign" (topS 24) ["tape"] := ⟨_, _, F14, PySem.W.mg_of X G a14, F14.binds (ps := ["tape"]) fun _ _ _ _ _ _ us hl => match us, hl with | [_], _ => rfl⟩
  have F15 := fun_mk (st := topS 25) l15 c15 k15
  have D15 : DefOk K mg "_law_word" (topS 25) ["tape"] := ⟨_, _, F15, PySem.W.mg_of X G a15, F15.binds (ps := ["tape"]) fun _ _ _ _ _ _ us hl => match us, hl with | [_], _ => rfl⟩
  have F16 := fun_mk (st := topS 26) l16 c16 k16
  have D16 : DefOk K mg "_law_set" (topS 26) ["tape"] := ⟨_, _, F16, PySem.W.mg_of X G a16, F16.binds (ps := ["tape"]) fun _ _ _ _ _ _ us hl => match us, hl with | [_], _ => rfl⟩
  have F17 := fun_mk (st := topS 27) l17 c17 k17
  have D17 : DefOk K mg "_law_step" (topS 27) ["tape"] := ⟨_, _, F17, PySem.W.mg_of X G a17, F17.binds (ps := ["tape"]) fun _ _ _ _ _ _ us hl => match us, hl with | [_], _ => rfl⟩
  have F18 := fun_mk (st := topS 28) l18 c18 k18
  have D18 : DefOk K mg "_law_row" (topS 28) ["tape", "most"] := ⟨_, _, F18, PySem.W.mg_of X G a18, F18.binds (ps := ["tape", "most"]) fun _ _ _ _ _ _ us hl => match us, hl with | [_, _], _ => rfl⟩
  have F19 := fun_mk (st := topS 29) l19 c19 k19
  have D19 : DefOk K mg "_law_line" (topS 29) ["step"] := ⟨_, _, F19, PySem.W.mg_of X G a19, F19.binds (ps := ["step"]) fun _ _ _ _ _ _ us hl => match us, hl with | [_], _ => rfl⟩
  have F20 := fun_mk (st := topS 30) l20 c20 k20
  have D20 : DefOk K mg "_law_all_lines" (topS 30) ["tape", "row"] := ⟨_, _, F20, PySem.W.mg_of X G a20, F20.binds (ps := ["tape", "row"]) fun _ _ _ _ _ _ us hl => match us, hl with | [_, _], _ => rfl⟩
  have F21 := fun_mk (st := topS 31) l21 c21 k21
  have D21 : DefOk K mg "_law_step_of" (topS 31) ["line"] := ⟨_, _, F21, PySem.W.mg_of X G a21, F21.binds (ps := ["line"]) fun _ _ _ _ _ _ us hl => match us, hl with | [_], _ => rfl⟩
  have F22 := fun_mk (st := topS 32) l22 c22 k22
  have D22 : DefOk K mg "law" (topS 32) ["script"] := ⟨_, _, F22, PySem.W.mg_of X G a22, F22.binds (ps := ["script"]) fun _ _ _ _ _ _ us hl => match us, hl with | [_], _ => rfl⟩
  have cstMOST_STEPS : CstOk ⟨K, false⟩ mg cMost := by
    obtain ⟨t, rfl⟩ := vMOST_STEPS
    exact ⟨.int 3, _, PySem.W.mg_of X G aMOST_STEPS, ⟨t, rfl⟩, fun F => .int _⟩
  have cstSIGNS : CstOk ⟨K, false⟩ mg cSigns := by
    obtain ⟨t, rfl⟩ := vSIGNS
    exact ⟨.str (tx sgL), _, PySem.W.mg_of X G aSIGNS, ⟨t, rfl⟩, fun F => .str _⟩
  have cstWITH_NUMBER : CstOk ⟨K, false⟩ mg cWnum := by
    obtain ⟨t0, t1, rfl⟩ := vWITH_NUMBER
    exact ⟨.ref rWITH_NUMBER, _, PySem.W.mg_of X G aWITH_NUMBER, rfl, fun F => .tup (vs := [V.str (tx wFirst), V.str (tx wLast)]) (.inr ⟨_, _, _, bWITH_NUMBER, rfl, rfl, by simp [sizeLine_eq], .cons ⟨t0, rfl⟩ (.cons ⟨t1, rfl⟩ (.nil))⟩) (.cons (.str _) (.cons (.str _) (.nil))) (fun h => by cases h)⟩
  have cstWITH_SET : CstOk ⟨K, false⟩ mg cWset := by
    obtain ⟨t0, t1, t2, rfl⟩ := vWITH_SET
    exact ⟨.ref rWITH_SET, _, PySem.W.mg_of X G aWITH_SET, rfl, fun F => .tup (vs := [V.str (tx wTrim), V.str (tx wDrop), V.str (tx wSqueeze)]) (.inr ⟨_, _, _, bWITH_SET, rfl, rfl, by simp [sizeLine_eq], .cons ⟨t0, rfl⟩ (.cons ⟨t1, rfl⟩ (.cons ⟨t2, rfl⟩ (.nil)))⟩) (.cons (.str _) (.cons (.str _) (.cons (.str _) (.nil)))) (fun h => by cases h)⟩
  have cstWITH_WORD : CstOk ⟨K, false⟩ mg cWword := by
    obtain ⟨t0, t1, t2, t3, rfl⟩ := vWITH_WORD
    exact ⟨.ref rWITH_WORD, _, PySem.W.mg_of X G aWITH_WORD, rfl, fun F => .tup (vs := [V.str (tx wFront), V.str (tx wFronts), V.str (tx wBack), V.str (tx wBacks)]) (.inr ⟨_, _, _, bWITH_WORD, rfl, rfl, by simp [sizeLine_eq], .cons ⟨t0, rfl⟩ (.cons ⟨t1, rfl⟩ (.cons ⟨t2, rfl⟩ (.cons ⟨t3, rfl⟩ (.nil))))⟩) (.cons (.str _) (.cons (.str _) (.cons (.str _) (.cons (.str _) (.nil))))) (fun h => by cases h)⟩
  refine ⟨PySem.W.fnOf "law" "law" (defArgs (topS 32)) (defBody (topS 32)) (defScope (topS 32)) .none kV22 dc22 pm22 an22 cd22 ct22, fun s v => .of_eq rfl, fun base _ _ => ?_⟩
  have kDr : Kn l.prog w K mg base ⟨K, false⟩ 1 (cDraw false) := def_ok (cal := []) (csts := []) M D11 sc_law_draw ck_law_draw rfl (by simp) (by simp) _ Grun_out
  have kSi : Kn l.prog w K mg base ⟨K, false⟩ 2 (cSign false) := def_ok (cal := [cDraw false]) (csts := []) M D14 sc_law_sign ck_law_sign rfl (by simp) (all1 kDr) _ Grun_out
  have kST : KnT l.prog w K mg base ⟨K, false⟩ 3 (cSign false) := sign_kn M D14 sc_law_sign ct_law_sign (kDr.mono (by omega))
  have kWo : Kn l.prog w K mg base ⟨K, false⟩ 3 ⟨"_law_word", true, 0, GWord false⟩ := def_ok (cal := [cSign false, cDraw false]) (csts := []) M D15 sc_law_word ck_law_word rfl (by simp) (all2 kSi (kDr.mono (by omega))) _ Grun_out
  have kSe : Kn l.prog w K mg base ⟨K, false⟩ 3 ⟨"_law_set", true, 0, GSet false⟩ := def_ok (cal := [cSign false, cDraw false]) (csts := []) M D16 sc_law_set ck_law_set rfl (by simp) (all2 kSi (kDr.mono (by omega))) _ Grun_out
  have kSp : Kn l.prog w K mg base ⟨K, false⟩ 4 (cStep false) := step_kn M D17 sc_law_step ck_law_step ct_law_step (by decide +kernel) (by decide +kernel) (by decide +kernel) (by decide +kernel) (by decide +kernel) (kDr.mono (by omega)) kSe kWo (kSi.mono (by omega)) kST
  have kRo : Kn l.prog w K mg base ⟨K, false⟩ 5 ⟨"_law_row", true, 1, GRow false⟩ := def_ok (cal := [cDraw false, cStep false]) (csts := []) M D18 sc_law_row ck_law_row rfl (by simp) (all2 (kDr.mono (by omega)) kSp) _ Grun_out
  have kLk : ∀ n, Kn l.prog w K mg base ⟨K, false⟩ n ⟨"_law_like", false, 2, GLike false n⟩ := by
    intro n
    induction n with
    | zero => exact Kn_void D12 fun ns ds τ r e => by cases e
    | succ n ih => exact def_ok (cal := [⟨"_law_like", false, 2, GLike false n⟩]) (csts := []) M D12 sc_law_like ck_law_like rfl (by simp) (all1 ih) _ Grun_out
  have kIs : Kn l.prog w K mg base ⟨K, false⟩ 1 ⟨"is_string", false, 3, GIsStr false⟩ := def_ok (cal := []) (csts := [cSigns]) M D0 sc_is_string ck_is_string rfl (all1 cstSIGNS) (by simp) _ Grun_out
  have kIe : Kn l.prog w K mg base ⟨K, false⟩ 2 ⟨"is_set", false, 1, GIsSet false⟩ := def_ok (cal := [⟨"is_string", false, 3, GIsStr false⟩]) (csts := []) M D1 sc_is_set ck_is_set rfl (by simp) (all1 kIs) _ Grun_out
  have kIn : Kn l.prog w K mg base ⟨K, false⟩ 1 ⟨"is_number", false, 1, GIsNum false⟩ := def_ok (cal := []) (csts := []) M D2 sc_is_number ck_is_number rfl (by simp) (by simp) _ Grun_out
  have kIp : Kn l.prog w K mg base ⟨K, false⟩ 3 ⟨"is_step", false, 1, GIsStep false⟩ := def_ok (cal := calIsStep false) (csts := cstIsStep) M D3 sc_is_step ck_is_step rfl (all3 cstWITH_SET cstWITH_WORD cstWITH_NUMBER) (all3 kIe (kIs.mono (by omega)) (kIn.mono (by omega))) _ Grun_out
  have kIr : Kn l.prog w K mg base ⟨K, false⟩ 4 ⟨"is_row", false, 1, GIsRow false⟩ := def_ok (cal := [⟨"is_step", false, 1, GIsStep false⟩]) (csts := [cMost]) M D4 sc_is_row ck_is_row rfl (all1 cstMOST_STEPS) (all1 kIp) _ Grun_out
  have kAn : ∀ n, Kn l.prog w K mg base ⟨K, false⟩ (n + 1) ⟨"_law_any", true, 1, GAny false n⟩ := by
    intro n
    induction n with
    | zero => exact Kn_void D13 fun ns ds τ r e => by cases e
    | succ n ih => exact def_ok (cal := [cDraw false, ⟨"_law_any", true, 1, GAny false n⟩]) (csts := []) M D13 sc_law_any ck_law_any rfl (by simp) (all2 (kDr.mono (by omega)) ih) _ Grun_out
  have kPt : Kn l.prog w K mg base ⟨K, false⟩ 1 ⟨"part_text", false, 1, GPart⟩ := def_ok (cal := []) (csts := []) M D5 sc_part_text ck_part_text rfl (by simp) (by simp) _ Grun_out
  have kSt : Kn l.prog w K mg base ⟨K, false⟩ 2 ⟨"step_text", false, 1, GStT⟩ := def_ok (cal := [⟨"part_text", false, 1, GPart⟩]) (csts := []) M D6 sc_step_text ck_step_text rfl (by simp) (all1 kPt) _ Grun_out
  have kRt : Kn l.prog w K mg base ⟨K, false⟩ 3 ⟨"row_text", false, 1, GRoT⟩ := def_ok (cal := [⟨"step_text", false, 1, GStT⟩]) (csts := []) M D7 sc_row_text ck_row_text rfl (by simp) (all1 kSt) _ Grun_out
  have kPa : Kn l.prog w K mg base ⟨K, false⟩ 1 ⟨"read_parts", false, 1, GRdP⟩ := def_ok (cal := []) (csts := []) M D8 sc_read_parts ck_read_parts rfl (by simp) (by simp) _ Grun_out
  have kRs : Kn l.prog w K mg base ⟨K, false⟩ 2 ⟨"read_step", false, 1, GRdS⟩ := def_ok (cal := [⟨"read_parts", false, 1, GRdP⟩]) (csts := []) M D9 sc_read_step ck_read_step rfl (by simp) (all1 kPa) _ Grun_out
  have kRr : Kn l.prog w K mg base ⟨K, false⟩ 5 ⟨"read_row", false, 1, GRdR⟩ := def_ok (cal := [⟨"read_step", false, 1, GRdS⟩, ⟨"is_row", false, 1, GIsRow false⟩]) (csts := []) M D10 sc_read_row ck_read_row rfl (by simp) (all2 (kRs.mono (by omega)) kIr) _ Grun_out
  have kLi : Kn l.prog w K mg base ⟨K, false⟩ 1 ⟨"_law_line", false, 1, GLine false⟩ := line_kn (C := ⟨K, false⟩) (k := 0) M D19 sc_law_line ck_law_line ct_law_line (by decide +kernel) (by decide +kernel)
  have kAl : Kn l.prog w K mg base ⟨K, false⟩ 2 ⟨"_law_all_lines", true, 1, GAll⟩ := def_ok (cal := [⟨"_law_line", false, 1, GLine false⟩]) (csts := []) M D20 sc_law_all_lines ck_law_all_lines rfl (by simp) (all1 kLi) _ Grun_out
  have kSf : Kn l.prog w K mg base ⟨K, false⟩ 1 ⟨"_law_step_of", false, 1, GSOf⟩ := def_ok (cal := []) (csts := []) M D21 sc_law_step_of ck_law_step_of rfl (by simp) (by simp) _ Grun_out
  refine law_ok (C := ⟨K, false⟩) (k := 20) (j := 1) (cal := cal14) (csts := []) M F22 sc_law cb_law cz_law ck_law (by simp) ?_ fun ns _ => law14 _ ns ⟨fun _ => rfl, fun _ => rfl, fun _ => rfl, fun _ => rfl, fun _ => rfl, fun _ => rfl, fun _ => rfl, fun _ => rfl, fun _ => rfl, fun _ => rfl, rfl⟩
  intro c hc
  simp only [cal14, List.mem_cons, List.not_mem_nil, or_false] at hc
  rcases hc with rfl | rfl | rfl | rfl | rfl | rfl | rfl | rfl | rfl | rfl
  · exact kRo.mono (by omega)
  · exact kLi.mono (by omega)
  · exact kRt.mono (by omega)
  · exact (kLk 3).mono (by omega)
  · exact kRr.mono (by omega)
  · exact kAl.mono (by omega)
  · exact kDr.mono (by omega)
  · exact (kAn 3).mono (by omega)
  · exact kIr.mono (by omega)
  · exact kSf.mono (by omega)
end K14
open PySem PySem.W PyProof.Rows
set_option maxHeartbeats 0 in
theorem PySem.Challenge.cw_textcleaners_k14_whole_texts_of_rows_holds : PySem.Challenge.rw_textcleaners_k14_whole_texts_of_rows.Holds := by
  w_on; o_law; k_head; (case hw => w_witness2)
  k_fill
  refine L2.walk_of (l := PySem.Challenge.rw_textcleaners_k14_whole_texts_of_rows) (n := 63) (k := 21) (x := "script") (CX := fun _ => L2.CX0) (sp := fun w => PD.spLaw _) rfl (by decide) rfl ⟨rfl, by decide, by decide⟩ (fun w h Y => PySem.W.kIn_of Y) ?F (fun _ _ a ns hl _ hS => ⟨a, ns, rfl, hS, hl, fun _ => rfl⟩) (fun _ _ _ _ _ h => h)
  case F =>
    intro w mg fa h KX G hmg
    refine' K14.all_mk KX G hmg ?a0 ?l0 ?c0 ?k0 ?a1 ?l1 ?c1 ?k1 ?a2 ?l2 ?c2 ?k2 ?a3 ?l3 ?c3 ?k3 ?a4 ?l4 ?c4 ?k4 ?a5 ?l5 ?c5 ?k5 ?a6 ?l6 ?c6 ?k6 ?a7 ?l7 ?c7 ?k7 ?a8 ?l8 ?c8 ?k8 ?a9 ?l9 ?c9 ?k9 ?a10 ?l10 ?c10 ?k10 ?a11 ?l11 ?c11 ?k11 ?a12 ?l12 ?c12 ?k12 ?a13 ?l13 ?c13 ?k13 ?a14 ?l14 ?c14 ?k14 ?a15 ?l15 ?c15 ?k15 ?a16 ?l16 ?c16 ?k16 ?a17 ?l17 ?c17 ?k17 ?a18 ?l18 ?c18 ?k18 ?a19 ?l19 ?c19 ?k19 ?a20 ?l20 ?c20 ?k20 ?a21 ?l21 ?c21 ?k21 ?a22 ?l22 ?c22 ?k22 ?zlen ?zint ?zmax ?zmin ?zlist ?ztuple ?zstr ?zall ?zany ?zrange ?zisinstance ?zbool ?zsorted ?zset ?zenumerate ?zzip ?aMOST_STEPS ?aSIGNS ?aWITH_NUMBER ?bWITH_NUMBER ?aWITH_SET ?bWITH_SET ?aWITH_WORD ?bWITH_WORD ?vMOST_STEPS ?vSIGNS ?vWITH_NUMBER ?vWITH_SET ?vWITH_WORD
    (case a0 => k_is)
    (case l0 => k_is)
    (case c0 => k_is)
    (case k0 => k_is)
    (case a1 => k_is)
    (case l1 => k_is)
    (case c1 => k_is)
    (case k1 => k_is)
    (case a2 => k_is)
    (case l2 => k_is)
    (case c2 => k_is)
    (case k2 => k_is)
    (case a3 => k_is)
    (case l3 => k_is)
    (case c3 => k_is)
    (case k3 => k_is)
    (case a4 => k_is)
    (case l4 => k_is)
    (case c4 => k_is)
    (case k4 => k_is)
    (case a5 => k_is)
    (case l5 => k_is)
    (case c5 => k_is)
    (case k5 => k_is)
    (case a6 => k_is)
    (case l6 => k_is)
    (case c6 => k_is)
    (case k6 => k_is)
    (case a7 => k_is)
    (case l7 => k_is)
    (case c7 => k_is)
    (case k7 => k_is)
    (case a8 => k_is)
    (case l8 => k_is)
    (case c8 => k_is)
    (case k8 => k_is)
    (case a9 => k_is)
    (case l9 => k_is)
    (case c9 => k_is)
    (case k9 => k_is)
    (case a10 => k_is)
    (case l10 => k_is)
    (case c10 => k_is)
    (case k10 => k_is)
    (case a11 => k_is)
    (case l11 => k_is)
    (case c11 => k_is)
    (case k11 => k_is)
    (case a12 => k_is)
    (case l12 => k_is)
    (case c12 => k_is)
    (case k12 => k_is)
    (case a13 => k_is)
    (case l13 => k_is)
    (case c13 => k_is)
    (case k13 => k_is)
    (case a14 => k_is)
    (case l14 => k_is)
    (case c14 => k_is)
    (case k14 => k_is)
    (case a15 => k_is)
    (case l15 => k_is)
    (case c15 => k_is)
    (case k15 => k_is)
    (case a16 => k_is)
    (case l16 => k_is)
    (case c16 => k_is)
    (case k16 => k_is)
    (case a17 => k_is)
    (case l17 => k_is)
    (case c17 => k_is)
    (case k17 => k_is)
    (case a18 => k_is)
    (case l18 => k_is)
    (case c18 => k_is)
    (case k18 => k_is)
    (case a19 => k_is)
    (case l19 => k_is)
    (case c19 => k_is)
    (case k19 => k_is)
    (case a20 => k_is)
    (case l20 => k_is)
    (case c20 => k_is)
    (case k20 => k_is)
    (case a21 => k_is)
    (case l21 => k_is)
    (case c21 => k_is)
    (case k21 => k_is)
    (case a22 => k_is)
    (case l22 => k_is)
    (case c22 => k_is)
    (case k22 => k_is)
    (case zlen => k_is)
    (case zint => k_is)
    (case zmax => k_is)
    (case zmin => k_is)
    (case zlist => k_is)
    (case ztuple => k_is)
    (case zstr => k_is)
    (case zall => k_is)
    (case zany => k_is)
    (case zrange => k_is)
    (case zisinstance => k_is)
    (case zbool => k_is)
    (case zsorted => k_is)
    (case zset => k_is)
    (case zenumerate => k_is)
    (case zzip => k_is)
    (case aMOST_STEPS => k_is)
    (case aSIGNS => k_is)
    (case aWITH_NUMBER => k_is)
    (case bWITH_NUMBER => k_is)
    (case aWITH_SET => k_is)
    (case bWITH_SET => k_is)
    (case aWITH_WORD => k_is)
    (case bWITH_WORD => k_is)
    (case vMOST_STEPS => exact ⟨_, rfl⟩)
    (case vSIGNS => exact ⟨_, rfl⟩)
    (case vWITH_NUMBER => exact ⟨_, _, rfl⟩)
    (case vWITH_SET => exact ⟨_, _, _, rfl⟩)
    (case vWITH_WORD => exact ⟨_, _, _, _, rfl⟩)
