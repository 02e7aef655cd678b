import PyProof.Rows.All
import Wide.All
import OpenK.AllK
import Wide.FinOn
import HandS.ForMost
import HandS.ForExc
import HandS.IsInst
import HandS.Walk
import HandS.Wide
import HandS.EndBits
import HandS.Flow
import HandS.TupAny
import HandS.TupMul
import HandS.WideBits
import KE.GoesNew
import KE.GoesEnumKw
import KE.GoesMore
import HandS.Defaults
import HandS.CallSlots
import HandS.ExcInit
import KE.KExcSuper
import HandS.ExcIs
import KE.RegKSuper
import PySem.Challenge.RW_blockpics_k34_what_levels_show
set_option Elab.async false
set_option linter.all false
set_option maxRecDepth 100000
set_option maxHeartbeats 1000000
set_option maxRecDepth 100000
set_option maxHeartbeats 4000000
/-! BpA: plain data over the hand layer. D: values with tuples and settled lists as plain data; F: the settled part of the abstract heap; MH: the cells that may still change. -/
namespace BP
open PySem PySem.Spec PyProof.Rows L2

/-- plain data: tuples, settled lists; ref: a cell that may change; exc: a caught error and its fields -/
inductive D where
  | non | bl (b : Bool) | int (i : Int) | str (x : Str) | ty (n : String)
  | tup (ds : List D) | lst (ds : List D) | dct (kvs : List (Key × D)) | scr (ns : List Int)
  | ref (a : Addr) | exc (a dd : Addr) (n : String) (fs : List (Str × D))

inductive Cell where
  | lst (ds : List D) | dct (kvs : List (Key × D)) | ins (C : Addr) (fs : List (Str × D))

abbrev MH := Addr → Option Cell
def mupd (h : MH) (a : Addr) (c : Cell) : MH := fun b => if b = a then some c else h b
def mdel (h : MH) (a : Addr) : MH := fun b => if b = a then none else h b
theorem mupd_same {h : MH} {a : Addr} {c : Cell} : mupd h a c a = some c := by unfold mupd; rw [if_pos rfl]
theorem mupd_ne {h : MH} {a b : Addr} {c : Cell} (n : b ≠ a) : mupd h a c b = h b := by unfold mupd; rw [if_neg n]
theorem mupd_upd {h : MH} {a : Addr} {c d : Cell} : mupd (mupd h a c) a d = mupd h a d := by
  funext b; unfold mupd; split <;> rfl
theorem mdel_upd {h : MH} {a : Addr} {c : Cell} (n : h a = none) : mdel (mupd h a c) a = h := by
  funext b; unfold mdel mupd
  by_cases e : b = a
  · rw [if_pos e, e, n]
  · rw [if_neg e, if_neg e]

mutual
inductive RD (K : PySem.W.Frag) (F : Hp) : D → V → Prop
  | non : RD K F .non .non
  | bl (b : Bool) : RD K F (.bl b) (.bl b)
  | int (i : Int) : RD K F (.int i) (.int i)
  | str (x : Str) : RD K F (.str x) (.str x)
  | ty (n : String) : RD K F (.ty n) (.ty n)
  | ref (a : Addr) : RD K F (.ref a) (.ref a)
  | tup {a : Addr} {xs : List V} {ds : List D} : SqT K F a xs → RDs K F ds xs → RD K F (.tup ds) (.ref a)
  | lst {a : Addr} {xs : List V} {ds : List D} : F a = some (.lst xs) → RDs K F ds xs → RD K F (.lst ds) (.ref a)
  | scr {a : Addr} {ns : List Int} : SqL K F a (ns.map V.int) → RD K F (.scr ns) (.ref a)
  | dct {a : Addr} {xs : List (Key × V)} {ds : List (Key × D)} : F a = some (.dK xs) → RDk K F ds xs → RD K F (.dct ds) (.ref a)
  | exc {a dd : Addr} {n : String} {gs : List (Str × V)} {fs : List (Str × D)} : F dd = some (.xd gs) → RDf K F fs gs → RD K F (.exc a dd n fs) (.ref a)
inductive RDs (K : PySem.W.Frag) (F : Hp) : List D → List V → Prop
  | nil : RDs K F [] []
  | cons {d : D} {v : V} {ds : List D} {vs : List V} : RD K F d v → RDs K F ds vs → RDs K F (d :: ds) (v :: vs)
inductive RDk (K : PySem.W.Frag) (F : Hp) : List (Key × D) → List (Key × V) → Prop
  | nil : RDk K F [] []
  | cons {k : Key} {d : D} {v : V} {ds : List (Key × D)} {vs : List (Key × V)} : RD K F d v → RDk K F ds vs → RDk K F ((k, d) :: ds) ((k, v) :: vs)
inductive RDf (K : PySem.W.Frag) (F : Hp) : List (Str × D) → List (Str × V) → Prop
  | nil : RDf K F [] []
  | cons {k : Str} {d : D} {v : V} {ds : List (Str × D)} {vs : List (Str × V)} : RD K F d v → RDf K F ds vs → RDf K F ((k, d) :: ds) ((k, v) :: vs)
end

theorem Same.rd {H H' : Hp} {a : Addr} {u : HO} (e : Same H H') (h : Rd H a u) : Rd H' a u := by
  rcases h with h | ⟨o, h⟩
  · exact .inl (e a _ h)
  · exact .inr ⟨o, e a _ h⟩
theorem Same.sqL {K : PySem.W.Frag} {H H' : Hp} {a : Addr} {xs : List V} (e : Same H H') (h : SqL K H a xs) : SqL K H' a xs := by
  rcases h with h | h
  · exact .inl (Same.rd e h)
  · exact .inr h
theorem Same.sqT {K : PySem.W.Frag} {H H' : Hp} {a : Addr} {xs : List V} (e : Same H H') (h : SqT K H a xs) : SqT K H' a xs := by
  rcases h with h | h
  · exact .inl (Same.rd e h)
  · exact .inr h

section
variable {K : PySem.W.Frag} {F F' : Hp}
mutual
theorem RD.mono (e : Same F F') : ∀ {d : D} {v : V}, RD K F d v → RD K F' d v
  | _, _, .non => .non
  | _, _, .bl b => .bl b
  | _, _, .int i => .int i
  | _, _, .str x => .str x
  | _, _, .ty n => .ty n
  | _, _, .ref a => .ref a
  | _, _, .tup h r => .tup (Same.sqT e h) (RDs.mono e r)
  | _, _, .lst h r => .lst (e _ _ h) (RDs.mono e r)
  | _, _, .scr h => .scr (Same.sqL e h)
  | _, _, .dct h r => .dct (e _ _ h) (RDk.mono e r)
  | _, _, .exc h r => .exc (e _ _ h) (RDf.mono e r)
theorem RDs.mono (e : Same F F') : ∀ {d : List D} {v : List V}, RDs K F d v → RDs K F' d v
  | _, _, .nil => .nil
  | _, _, .cons h r => .cons (RD.mono e h) (RDs.mono e r)
theorem RDk.mono (e : Same F F') : ∀ {d : List (Key × D)} {v : List (Key × V)}, RDk K F d v → RDk K F' d v
  | _, _, .nil => .nil
  | _, _, .cons h r => .cons (RD.mono e h) (RDk.mono e r)
theorem RDf.mono (e : Same F F') : ∀ {d : List (Str × D)} {v : List (Str × V)}, RDf K F d v → RDf K F' d v
  | _, _, .nil => .nil
  | _, _, .cons h r => .cons (RD.mono e h) (RDf.mono e r)
end
theorem RDs.length : ∀ {d : List D} {v : List V}, RDs K F d v → d.length = v.length
  | _, _, .nil => rfl
  | _, _, .cons _ r => by rw [List.length_cons, List.length_cons, RDs.length r]
theorem RDs.get : ∀ {ds : List D} {vs : List V} {i : Nat} {d : D}, RDs K F ds vs → ds[i]? = some d → ∃ v, vs[i]? = some v ∧ RD K F d v
  | _, _, _, _, .nil, e => by simp at e
  | _, _, 0, _, .cons h _, e => by simp at e; subst e; exact ⟨_, rfl, h⟩
  | _, _, i + 1, d, .cons _ r, e => by
    obtain ⟨v, h1, h2⟩ := RDs.get (i := i) (d := d) r (by simpa using e)
    exact ⟨v, by simpa using h1, h2⟩
theorem RDs.getV {ds : List D} {vs : List V} {i : Nat} {v : V} (r : RDs K F ds vs) (e : vs[i]? = some v) : ∃ d, ds[i]? = some d ∧ RD K F d v := by
  have hi : i < vs.length := (List.getElem?_eq_some_iff.mp e).1
  have hj : i < ds.length := by rw [r.length]; exact hi
  obtain ⟨w, h1, h2⟩ := r.get (List.getElem?_eq_getElem hj)
  rw [e] at h1; cases h1
  exact ⟨_, List.getElem?_eq_getElem hj, h2⟩
theorem RDs.append : ∀ {ds es : List D} {vs ws : List V}, RDs K F ds vs → RDs K F es ws → RDs K F (ds ++ es) (vs ++ ws)
  | _, _, _, _, .nil, s => s
  | _, _, _, _, .cons h r, s => .cons h (RDs.append r s)
theorem RDs.take : ∀ {ds : List D} {vs : List V} (n : Nat), RDs K F ds vs → RDs K F (ds.take n) (vs.take n)
  | _, _, 0, _ => .nil
  | _, _, _ + 1, .nil => .nil
  | _, _, n + 1, .cons h r => .cons h (RDs.take n r)
theorem RDs.drop : ∀ {ds : List D} {vs : List V} (n : Nat), RDs K F ds vs → RDs K F (ds.drop n) (vs.drop n)
  | _, _, 0, r => r
  | _, _, _ + 1, .nil => .nil
  | _, _, n + 1, .cons _ r => RDs.drop n r
theorem RDs.set {d : D} {v : V} (h : RD K F d v) : ∀ {ds : List D} {vs : List V} (i : Nat), RDs K F ds vs → RDs K F (ds.set i d) (vs.set i v)
  | _, _, _, .nil => .nil
  | _, _, 0, .cons _ r => .cons h r
  | _, _, i + 1, .cons q r => .cons q (RDs.set h i r)
theorem RDs.rep {ds : List D} {vs : List V} (r : RDs K F ds vs) : ∀ n : Nat, RDs K F (List.replicate n ds).flatten (List.replicate n vs).flatten
  | 0 => by simpa using RDs.nil
  | n + 1 => by
    rw [List.replicate_succ, List.replicate_succ, List.flatten_cons, List.flatten_cons]
    exact r.append (RDs.rep r n)
theorem RDf.look {f : Str} {d : D} : ∀ {fs : List (Str × D)} {gs : List (Str × V)}, RDf K F fs gs → fs.lookup f = some d → ∃ v, gs.lookup f = some v ∧ RD K F d v
  | _, _, .nil, e => by simp at e
  | _, _, .cons (k := k) h r, e => by
    rw [List.lookup_cons] at e
    by_cases hk : f == k
    · rw [hk] at e
      simp only [Option.some.injEq] at e
      subst e
      exact ⟨_, by rw [List.lookup_cons, hk], h⟩
    · have hk' : (f == k) = false := by simpa using hk
      rw [hk'] at e
      obtain ⟨v, h1, h2⟩ := RDf.look r e
      exact ⟨v, by rw [List.lookup_cons, hk']; exact h1, h2⟩
end

/-- a cell of MH and what stands there -/
def CellR (K : PySem.W.Frag) (F H : Hp) (a : Addr) : Cell → Prop
  | .lst ds => ∃ xs, H a = some (.lst xs) ∧ RDs K F ds xs
  | .dct kvs => ∃ xs, H a = some (.dK xs) ∧ RDk K F kvs xs
  | .ins C fs => ∃ dx gs, H a = some (.ins C dx gs) ∧ RDf K F fs gs
theorem CellR.mono {K : PySem.W.Frag} {F F' H H' : Hp} {a : Addr} {c : Cell} (x : CellR K F H a c) (e : Same F F') (k : H' a = H a) : CellR K F' H' a c := by
  cases c with
  | lst ds => obtain ⟨xs, h, r⟩ := x; exact ⟨xs, k.trans h, r.mono e⟩
  | dct ds => obtain ⟨xs, h, r⟩ := x; exact ⟨xs, k.trans h, r.mono e⟩
  | ins C fs => obtain ⟨dx, gs, h, r⟩ := x; exact ⟨dx, gs, k.trans h, r.mono e⟩
theorem CellR.some {K : PySem.W.Frag} {F H : Hp} {a : Addr} {c : Cell} (x : CellR K F H a c) : ∃ o, H a = some o := by
  cases c with
  | lst ds => obtain ⟨xs, h, r⟩ := x; exact ⟨_, h⟩
  | dct ds => obtain ⟨xs, h, r⟩ := x; exact ⟨_, h⟩
  | ins C fs => obtain ⟨dx, gs, h, r⟩ := x; exact ⟨_, h⟩

structure SR (K : PySem.W.Frag) (F H : Hp) (h : MH) : Prop where
  fr : Same F H
  cell : ∀ a c, h a = some c → F a = none ∧ CellR K F H a c
/-- from one state to a later one -/
structure Go (K : PySem.W.Frag) (F H : Hp) (h : MH) (F' H' : Hp) (h' : MH) : Prop where
  ss : Same F F'
  hid : ∀ a o, H a = some o → F a = none → h a = none → F' a = none ∧ h' a = none ∧ H' a = some o
  sr : SR K F' H' h'
theorem Go.refl {K : PySem.W.Frag} {F H : Hp} {h : MH} (s : SR K F H h) : Go K F H h F H h := ⟨Same.refl F, fun _ _ e f m => ⟨f, m, e⟩, s⟩
theorem Go.trans {K : PySem.W.Frag} {F H F1 H1 F2 H2 : Hp} {h h1 h2 : MH} (a : Go K F H h F1 H1 h1) (b : Go K F1 H1 h1 F2 H2 h2) : Go K F H h F2 H2 h2 :=
  ⟨a.ss.trans b.ss, fun p o e f m => by obtain ⟨f1, m1, e1⟩ := a.hid p o e f m; exact b.hid p o e1 f1 m1, b.sr⟩
section
variable {K : PySem.W.Frag} {F H : Hp} {h : MH} {p a : Addr}
theorem SR.freeF (s : SR K F H h) (n : H p = none) : F p = none := s.fr.free n
theorem SR.freeM (s : SR K F H h) (n : H p = none) : h p = none := by
  cases e : h p with
  | none => rfl
  | some c =>
    obtain ⟨o, q⟩ := (s.cell p c e).2.some
    rw [n] at q; cases q
theorem same_upd {H : Hp} {p : Addr} {o : HO} (n : H p = none) : Same H (upd H p o) := fun b x e => by
  rw [upd_ne (ne_of_none e n)]
  exact e
/-- something new that is settled at once -/
theorem Go.settled {o : HO} (s : SR K F H h) (n : H p = none) : Go K F H h (upd F p o) (upd H p o) h := by
  have nF := s.freeF n
  have nM := s.freeM n
  refine ⟨same_upd nF, fun b x e f m => ?_, ⟨fun b x e => ?_, fun b c e => ?_⟩⟩
  · have hb : b ≠ p := ne_of_none e n
    exact ⟨by rw [upd_ne hb]; exact f, m, by rw [upd_ne hb]; exact e⟩
  · by_cases hb : b = p
    · subst hb; rw [upd_same] at e ⊢; exact e
    · rw [upd_ne hb] at e ⊢; exact s.fr b x e
  · have hb : b ≠ p := fun z => by rw [z, nM] at e; cases e
    obtain ⟨f, r⟩ := s.cell b c e
    exact ⟨by rw [upd_ne hb]; exact f, r.mono (same_upd nF) (upd_ne hb)⟩
/-- something new that may change: o holds c -/
theorem Go.fresh {o : HO} {c : Cell} (s : SR K F H h) (n : H p = none) (r : CellR K F (upd H p o) p c) : Go K F H h F (upd H p o) (mupd h p c) := by
  have nF := s.freeF n
  refine ⟨Same.refl F, fun b x e f m => ?_, ⟨fun b x e => ?_, fun b d e => ?_⟩⟩
  · have hb : b ≠ p := ne_of_none e n
    exact ⟨f, by rw [mupd_ne hb]; exact m, by rw [upd_ne hb]; exact e⟩
  · have hb : b ≠ p := fun z => by rw [z, nF] at e; cases e
    rw [upd_ne hb]; exact s.fr b x e
  · by_cases hb : b = p
    · subst hb; rw [mupd_same] at e; cases e; exact ⟨nF, r⟩
    · rw [mupd_ne hb] at e
      obtain ⟨f, q⟩ := s.cell b d e
      exact ⟨f, q.mono (Same.refl F) (upd_ne hb)⟩
/-- a cell is changed -/
theorem Go.write {o : HO} {c c0 : Cell} (s : SR K F H h) (m : h a = some c0) (r : CellR K F (upd H a o) a c) : Go K F H h F (upd H a o) (mupd h a c) := by
  have nF := (s.cell a c0 m).1
  refine ⟨Same.refl F, fun b x e f n => ?_, ⟨fun b x e => ?_, fun b d e => ?_⟩⟩
  · have hb : b ≠ a := fun z => by rw [z, m] at n; cases n
    exact ⟨f, by rw [mupd_ne hb]; exact n, by rw [upd_ne hb]; exact e⟩
  · have hb : b ≠ a := fun z => by rw [z, nF] at e; cases e
    rw [upd_ne hb]; exact s.fr b x e
  · by_cases hb : b = a
    · subst hb; rw [mupd_same] at e; cases e; exact ⟨nF, r⟩
    · rw [mupd_ne hb] at e
      obtain ⟨f, q⟩ := s.cell b d e
      exact ⟨f, q.mono (Same.refl F) (upd_ne hb)⟩
/-- a cell is settled: from now on plain data -/
theorem Go.settle {o : HO} {c0 : Cell} (s : SR K F H h) (m : h a = some c0) (e0 : H a = some o) : Go K F H h (upd F a o) H (mdel h a) := by
  have nF := (s.cell a c0 m).1
  refine ⟨same_upd nF, fun b x e f n => ?_, ⟨fun b x e => ?_, fun b d e => ?_⟩⟩
  · have hb : b ≠ a := fun z => by rw [z, m] at n; cases n
    exact ⟨by rw [upd_ne hb]; exact f, by unfold mdel; rw [if_neg hb]; exact n, e⟩
  · by_cases hb : b = a
    · subst hb; rw [upd_same] at e; cases e; exact e0
    · rw [upd_ne hb] at e; exact s.fr b x e
  · have hb : b ≠ a := fun z => by unfold mdel at e; rw [if_pos z] at e; cases e
    unfold mdel at e; rw [if_neg hb] at e
    obtain ⟨f, q⟩ := s.cell b d e
    exact ⟨by rw [upd_ne hb]; exact f, q.mono (same_upd nF) rfl⟩
end

/-- the state from which all is told (a def's entry) -/
structure Bs where
  F : Hp
  H : Hp
  h : MH
structure Bd (K : PySem.W.Frag) (B : Bs) (F H : Hp) (h : MH) : Prop where
  all : Go K B.F B.H B.h F H h
theorem Bd.sr {K : PySem.W.Frag} {B : Bs} {F H : Hp} {h : MH} (b : Bd K B F H h) : SR K F H h := b.all.sr
theorem Bd.fr {K : PySem.W.Frag} {B : Bs} {F H : Hp} {h : MH} (b : Bd K B F H h) : Same F H := b.all.sr.fr
theorem Bd.cell {K : PySem.W.Frag} {B : Bs} {F H : Hp} {h : MH} (b : Bd K B F H h) : ∀ a c, h a = some c → F a = none ∧ CellR K F H a c := b.all.sr.cell
theorem Bd.go {K : PySem.W.Frag} {B : Bs} {F H F1 H1 : Hp} {h h1 : MH} (b : Bd K B F H h) (g : Go K F H h F1 H1 h1) : Bd K B F1 H1 h1 := ⟨b.all.trans g⟩
instance {K : PySem.W.Frag} {B : Bs} {F H : Hp} {h : MH} : CoeOut (Bd K B F H h) (SR K F H h) := ⟨Bd.sr⟩
/-! ### readings over plain data -/
abbrev MSt := List (Option D)
abbrev MQ := D → MH → Prop
abbrev WE := MSt → MH → MQ → Prop
abbrev WT := MSt → MH → (Bool → MH → Prop) → Prop
abbrev WA := MSt → MH → (List D → MH → Prop) → Prop
structure MEnds where
  nx : MSt → MH → Prop
  rt : MQ
  bk : MSt → MH → Prop := fun _ _ => False
  ct : MSt → MH → Prop := fun _ _ => False
abbrev WS := MEnds → MSt → MH → Prop

structure LR (K : PySem.W.Frag) (F : Hp) (σd : MSt) (σ : L2.St) : Prop where
  len : σd.length = σ.length
  get : ∀ (i : Nat) (d : D), σd[i]? = some (some d) → ∃ v, σ[i]? = some (some v) ∧ RD K F d v
theorem LR.mono {K : PySem.W.Frag} {F F' : Hp} {σd : MSt} {σ : L2.St} (l : LR K F σd σ) (e : Same F F') : LR K F' σd σ :=
  ⟨l.len, fun i d q => by obtain ⟨v, h, r⟩ := l.get i d q; exact ⟨v, h, r.mono e⟩⟩
theorem LR.set {K : PySem.W.Frag} {F : Hp} {σd : MSt} {σ : L2.St} {d : D} {v : V} (l : LR K F σd σ) (r : RD K F d v) (i : Nat) : LR K F (σd.set i (some d)) (σ.set i (some v)) := by
  refine ⟨by rw [List.length_set, List.length_set, l.len], fun j e q => ?_⟩
  rw [List.getElem?_set] at q
  rw [List.getElem?_set]
  by_cases hij : i = j
  · rw [if_pos hij] at q ⊢
    by_cases hl : i < σd.length
    · rw [if_pos hl] at q
      rw [if_pos (by rw [← l.len]; exact hl)]
      simp only [Option.some.injEq] at q
      subst q
      exact ⟨v, rfl, r⟩
    · rw [if_neg hl] at q; cases q
  · rw [if_neg hij] at q ⊢
    exact l.get j e q

def ContV (K : PySem.W.Frag) (F H : Hp) (h : MH) (Q' : MQ) (Q : VK) : Prop := ∀ F' H' h' d v, Go K F H h F' H' h' → RD K F' d v → Q' d h' → Q v H'
def ContA (K : PySem.W.Frag) (F H : Hp) (h : MH) (Q' : List D → MH → Prop) (Q : List V → Hp → Prop) : Prop := ∀ F' H' h' d v, Go K F H h F' H' h' → RDs K F' d v → Q' d h' → Q v H'
def ContT (K : PySem.W.Frag) (F H : Hp) (h : MH) (Q' : Bool → MH → Prop) (Q : Bool → Hp → Prop) : Prop := ∀ F' H' h' b, Go K F H h F' H' h' → Q' b h' → Q b H'
def ContS (K : PySem.W.Frag) (F H : Hp) (h : MH) (Q' : MSt → MH → Prop) (Q : L2.St → Hp → Prop) : Prop := ∀ F' H' h' σd σ, Go K F H h F' H' h' → LR K F' σd σ → Q' σd h' → Q σ H'
structure ContE (K : PySem.W.Frag) (F H : Hp) (h : MH) (D' : MEnds) (E : Ends) : Prop where
  nx : ContS K F H h D'.nx E.nx
  rt : ContV K F H h D'.rt E.rt
  bk : ContS K F H h D'.bk E.bk
  ct : ContS K F H h D'.ct E.ct
section
variable {K : PySem.W.Frag} {F H F1 H1 : Hp} {h h1 : MH}
theorem ContV.go {Q' : MQ} {Q : VK} (c : ContV K F H h Q' Q) (g : Go K F H h F1 H1 h1) : ContV K F1 H1 h1 Q' Q := fun F' H' h' d v g' r q => c F' H' h' d v (g.trans g') r q
theorem ContA.go {Q' : List D → MH → Prop} {Q : List V → Hp → Prop} (c : ContA K F H h Q' Q) (g : Go K F H h F1 H1 h1) : ContA K F1 H1 h1 Q' Q := fun F' H' h' d v g' r q => c F' H' h' d v (g.trans g') r q
theorem ContT.go {Q' : Bool → MH → Prop} {Q : Bool → Hp → Prop} (c : ContT K F H h Q' Q) (g : Go K F H h F1 H1 h1) : ContT K F1 H1 h1 Q' Q := fun F' H' h' b g' q => c F' H' h' b (g.trans g') q
theorem ContS.go {Q' : MSt → MH → Prop} {Q : L2.St → Hp → Prop} (c : ContS K F H h Q' Q) (g : Go K F H h F1 H1 h1) : ContS K F1 H1 h1 Q' Q := fun F' H' h' d v g' r q => c F' H' h' d v (g.trans g') r q
theorem ContE.go {D' : MEnds} {E : Ends} (c : ContE K F H h D' E) (g : Go K F H h F1 H1 h1) : ContE K F1 H1 h1 D' E := ⟨c.nx.go g, c.rt.go g, c.bk.go g, c.ct.go g⟩
end

def lift (K : PySem.W.Frag) (B : Bs) (t : WE) : TE := fun σ H Q => ∃ F h σd Q', LR K F σd σ ∧ Bd K B F H h ∧ t σd h Q' ∧ ContV K F H h Q' Q
def liftT (K : PySem.W.Frag) (B : Bs) (t : WT) : TT := fun σ H Q => ∃ F h σd Q', LR K F σd σ ∧ Bd K B F H h ∧ t σd h Q' ∧ ContT K F H h Q' Q
def liftA (K : PySem.W.Frag) (B : Bs) (t : WA) : TA := fun σ H Q => ∃ F h σd Q', LR K F σd σ ∧ Bd K B F H h ∧ t σd h Q' ∧ ContA K F H h Q' Q
def liftS (K : PySem.W.Frag) (B : Bs) (t : WS) : TS := fun E σ H => ∃ F h σd D', LR K F σd σ ∧ Bd K B F H h ∧ t D' σd h ∧ ContE K F H h D' E

abbrev ME (X : Cx) (B : Bs) (e : Expr) (t : WE) : Prop := PE X e (lift X.K B t)
abbrev MT (X : Cx) (B : Bs) (e : Expr) (t : WT) : Prop := PT X e (liftT X.K B t)
abbrev MA (X : Cx) (B : Bs) (es : List Expr) (t : WA) : Prop := PA X es (liftA X.K B t)
abbrev MS (X : Cx) (B : Bs) (st : Stmt) (t : WS) : Prop := PS X st (liftS X.K B t)
abbrev MSs (X : Cx) (B : Bs) (st : List Stmt) (t : WS) : Prop := PSs X st (liftS X.K B t)

section
variable {X : Cx} {B : Bs}
theorem pe_mono {e : Expr} {t t' : TE} (h : PE X e t) (m : ∀ σ H Q, t' σ H Q → t σ H Q) : PE X e t' := ⟨fun pins s σ H Q I q => h.run pins s σ H Q I (m σ H Q q)⟩
theorem pt_mono {e : Expr} {t t' : TT} (h : PT X e t) (m : ∀ σ H Q, t' σ H Q → t σ H Q) : PT X e t' := ⟨fun pins s σ H Q I q => h.run pins s σ H Q I (m σ H Q q)⟩
theorem pw_mono {e : Expr} {t t' : TT} (h : PW X e t) (m : ∀ σ H Q, t' σ H Q → t σ H Q) : PW X e t' := ⟨fun wh pins s σ H Q I q => h.run wh pins s σ H Q I (m σ H Q q)⟩
theorem pa_mono {e : List Expr} {t t' : TA} (h : PA X e t) (m : ∀ σ H Q, t' σ H Q → t σ H Q) : PA X e t' := ⟨fun pos pins s σ H Q I q => h.run pos pins s σ H Q I (m σ H Q q)⟩
theorem ps_mono {e : Stmt} {t t' : TS} (h : PS X e t) (m : ∀ σ H Q, t' σ H Q → t σ H Q) : PS X e t' := ⟨fun pins s σ H Q I q => h.run pins s σ H Q I (m Q σ H q)⟩
theorem pss_mono {e : List Stmt} {t t' : TS} (h : PSs X e t) (m : ∀ σ H Q, t' σ H Q → t σ H Q) : PSs X e t' := ⟨fun pins s σ H Q I q => h.run pins s σ H Q I (m Q σ H q)⟩

/-! ### names, constants -/
def wVar (i : Nat) : WE := fun σ h Q => match σ[i]? with
  | some (some d) => Q d h
  | _ => False
def wC (d : D) : WE := fun _ h Q => Q d h
theorem m_var (i : Nat) {x : Str} {pos : Pos} (hN : X.N[i]? = some x := by rfl) (hv : Vis X.env.scope x := by first | exact Or.inl rfl | exact Or.inr (Or.inl rfl) | exact Or.inr (Or.inr rfl)) (hd : (x == ("__debug__" : Str)) = false := by decide)
    (hcd : (x == ("__classdict__" : Str)) = false := by decide) : ME X B (.Name x pos) (wVar i) := by
  refine pe_mono (pe_var hN hv hd hcd) fun σ H Q ⟨F, h, σd, Q', l, s, t, c⟩ => ?_
  unfold wVar at t
  split at t
  · rename_i d e
    obtain ⟨v, hv, r⟩ := l.get i d e
    exact ⟨v, hv, c F H h d v (Go.refl s) r t⟩
  · exact t.elim
theorem m_c {e : Expr} {d : D} {v : V} (h : PE X e (tC v)) (r : ∀ F, RD X.K F d v) : ME X B e (wC d) :=
  pe_mono h fun σ H Q ⟨F, h, σd, Q', l, s, t, c⟩ => c F H h d v (Go.refl s) (r F) t
theorem m_int {i j pos} : ME X B (.Constant (.int i) j pos) (wC (.int i)) := m_c pe_int fun _ => .int i
theorem m_bl {b j pos} : ME X B (.Constant (.bool b) j pos) (wC (.bl b)) := m_c pe_bl fun _ => .bl b
theorem m_non {j pos} : ME X B (.Constant .none j pos) (wC .non) := m_c pe_non fun _ => .non
theorem m_str {x j pos} : ME X B (.Constant (.str x) j pos) (wC (.str x)) := m_c pe_str fun _ => .str x
/-- a global that is plain data -/
theorem m_glob {x : Str} {d : D} {v : V} {u : Value} {pos : Pos} (hg : Gl X x) (hm : X.mg x = some u) (r : RelV v u) (rd : ∀ F, RD X.K F d v) (hd : (x == ("__debug__" : Str)) = false := by decide) : ME X B (.Name x pos) (wC d) :=
  m_c (pe_glob hg hm r hd) rd
theorem m_bltn {x : Str} {n : String} {pos : Pos} (hg : Gl X x) (hm : X.mg x = none) (hv : bootBuiltins x = some (.type n)) (hn : x ≠ "__name__" := by decide) (hd : (x == ("__debug__" : Str)) = false := by decide) : ME X B (.Name x pos) (wC (.ty n)) :=
  m_c (pe_bltn (v := .ty n) hg hm hv rfl hn hd) fun _ => .ty n

/-! ### operations on values -/
/-- r is met wherever f is -/
def OpD (K : PySem.W.Frag) (r : R2) (f : D → D → MH → MQ → Prop) : Prop := ∀ F H h x y u v Q' Q, SR K F H h → RD K F x u → RD K F y v → f x y h Q' → ContV K F H h Q' Q → r u v H Q
def wOp (f : D → D → MH → MQ → Prop) (a b : WE) : WE := fun σ h Q => a σ h fun x h1 => b σ h1 fun y h2 => f x y h2 Q
theorem lift_op {f : D → D → MH → MQ → Prop} {r : R2} {ta tb : WE} (hf : OpD X.K r f) : ∀ σ H Q, lift X.K B (wOp f ta tb) σ H Q → tOp r (lift X.K B ta) (lift X.K B tb) σ H Q := fun σ H Q ⟨F, h, σd, Q', l, s, t, c⟩ =>
  ⟨F, h, σd, _, l, s, t, fun F1 H1 h1 x u g1 rx t1 => ⟨F1, h1, σd, _, l.mono g1.ss, s.go g1, t1, fun F2 H2 h2 y v g2 ry t2 =>
    hf F2 H2 h2 x y u v Q' Q g2.sr (rx.mono g2.ss) ry t2 (c.go (g1.trans g2))⟩⟩
theorem m_bin {a b : Expr} {op : Operator} {pos : Pos} {ta tb : WE} {r : R2} {f : D → D → MH → MQ → Prop} (ho : OpR X (binaryOp op) r) (hf : OpD X.K r f) (ha : ME X B a ta) (hb : ME X B b tb) : ME X B (.BinOp a op b pos) (wOp f ta tb) :=
  pe_mono (pe_op ho ha hb) (lift_op hf)
theorem m_cmp {a b : Expr} {op : CmpOp} {pos : Pos} {ta tb : WE} {r : R2} {f : D → D → MH → MQ → Prop} (ho : OpR X (compareOp op) r) (hf : OpD X.K r f) (ha : ME X B a ta) (hb : ME X B b tb) (hm : behindInMarks op b = false := by first | exact nomark _ | with_unfolding_all rfl) :
    ME X B (.Compare a [op] [b] pos) (wOp f ta tb) := pe_mono (pe_cmpR ho ha hb hm) (lift_op hf)
def wTest (t : WE) : WT := fun σ h Q => t σ h fun x h1 => match x with
  | .bl b => Q b h1
  | _ => False
theorem m_tcmp {a b : Expr} {op : CmpOp} {pos : Pos} {ta tb : WE} {r : R2} {f : D → D → MH → MQ → Prop} (ho : OpR X (compareOp op) r) (hf : OpD X.K r f) (ha : ME X B a ta) (hb : ME X B b tb) (hm : behindInMarks op b = false := by first | exact nomark _ | with_unfolding_all rfl) :
    MT X B (.Compare a [op] [b] pos) (wTest (wOp f ta tb)) :=
  pt_mono (pt_cmpR ho ha hb hm) fun σ H Q ⟨F, h, σd, Q', l, s, t, c⟩ => lift_op hf σ H _ ⟨F, h, σd, _, l, s, t, fun F1 H1 h1 x u g1 rx t1 => by
    cases rx with
    | bl b => exact ⟨b, rfl, c F1 H1 h1 b g1 t1⟩
    | _ => exact t1.elim⟩
/-- one place -/
def UnD (K : PySem.W.Frag) (r : V → Hp → VK → Prop) (f : D → MH → MQ → Prop) : Prop := ∀ F H h x u Q' Q, SR K F H h → RD K F x u → f x h Q' → ContV K F H h Q' Q → r u H Q
def wUn (f : D → MH → MQ → Prop) (a : WE) : WE := fun σ h Q => a σ h fun x h1 => f x h1 Q
theorem m_un {a : Expr} {op : UnaryOp} {pos : Pos} {ta : WE} {r : V → Hp → VK → Prop} {f : D → MH → MQ → Prop} (ho : UnR X (unaryOp op) r) (hf : UnD X.K r f) (ha : ME X B a ta) : ME X B (.UnaryOp op a pos) (wUn f ta) :=
  pe_mono (pe_un ho ha) fun σ H Q ⟨F, h, σd, Q', l, s, t, c⟩ => ⟨F, h, σd, _, l, s, t, fun F1 H1 h1 x u g1 rx t1 => hf F1 H1 h1 x u Q' Q g1.sr rx t1 (c.go g1)⟩
end
end BP

set_option maxRecDepth 100000
set_option maxHeartbeats 4000000
/-! BpB: operations on plain data. -/
namespace BP
open PySem PySem.Spec PyProof.Rows L2

/-! ### plain data as the library's data; equality -/
mutual
def toP : D → Option PyData
  | .non => some .none
  | .bl b => some (.bool b)
  | .int i => some (.int i)
  | .str x => some (.str x)
  | .tup ds => (toPs ds).map .tuple
  | .lst ds => (toPs ds).map .list
  | _ => none
def toPs : List D → Option (List PyData)
  | [] => some []
  | d :: ds => match toP d, toPs ds with
    | some p, some ps => some (p :: ps)
    | _, _ => none
end
mutual
def eqv : D → D → Bool
  | .non, .non => true
  | .bl a, .bl b => a == b
  | .bl a, .int j => (if a then 1 else 0) == j
  | .int i, .bl b => i == (if b then 1 else 0)
  | .int i, .int j => i == j
  | .str x, .str y => x == y
  | .lst xs, .lst ys => eqvs xs ys
  | .tup xs, .tup ys => eqvs xs ys
  | _, _ => false
def eqvs : List D → List D → Bool
  | [], [] => true
  | x :: xs, y :: ys => eqv x y && eqvs xs ys
  | _, _ => false
end
/-- strings are well formed, no cells, not deeper than n -/
def fit : Nat → D → Bool
  | _, .non => true
  | _, .bl _ => true
  | _, .int _ => true
  | _, .str x => PyData.strOk x
  | n + 1, .tup ds => ds.all (fit n)
  | n + 1, .lst ds => ds.all (fit n)
  | _, _ => false
theorem toPs_of : ∀ {n : Nat} {ds : List D}, (∀ d ∈ ds, ∃ p, toP d = some p ∧ p.canLay0 = true ∧ p.depth ≤ n) → ∃ ps, toPs ds = some ps ∧ PyData.canLayAll0 ps = true ∧ PyData.depthAll ps ≤ n
  | n, [], _ => ⟨[], rfl, rfl, Nat.zero_le _⟩
  | n, d :: ds, h => by
    obtain ⟨p, e, c, l⟩ := h d List.mem_cons_self
    obtain ⟨ps, e2, c2, l2⟩ := toPs_of (n := n) (ds := ds) fun x hx => h x (List.mem_cons_of_mem _ hx)
    refine ⟨p :: ps, ?_, ?_, ?_⟩
    · simp only [toPs, e, e2]
    · simp only [PyData.canLayAll0, c, c2, Bool.and_self]
    · simp only [PyData.depthAll]; omega
theorem toP_of : ∀ (n : Nat) (d : D), fit n d = true → ∃ p, toP d = some p ∧ p.canLay0 = true ∧ p.depth ≤ n
  | n, .non, _ => ⟨_, rfl, rfl, Nat.zero_le _⟩
  | n, .bl _, _ => ⟨_, rfl, rfl, Nat.zero_le _⟩
  | n, .int _, _ => ⟨_, rfl, rfl, Nat.zero_le _⟩
  | n, .str x, h => ⟨_, rfl, by simpa only [fit, PyData.canLay0] using h, Nat.zero_le _⟩
  | n + 1, .tup ds, h => by
    simp only [fit, List.all_eq_true] at h
    obtain ⟨ps, e, c, l⟩ := toPs_of (n := n) fun d hd => toP_of n d (h d hd)
    exact ⟨.tuple ps, by simp only [toP, e, Option.map_some], by simpa only [PyData.canLay0] using c, by simp only [PyData.depth]; omega⟩
  | n + 1, .lst ds, h => by
    simp only [fit, List.all_eq_true] at h
    obtain ⟨ps, e, c, l⟩ := toPs_of (n := n) fun d hd => toP_of n d (h d hd)
    exact ⟨.list ps, by simp only [toP, e, Option.map_some], by simpa only [PyData.canLay0] using c, by simp only [PyData.depth]; omega⟩
  | 0, .tup _, h => by simp [fit] at h
  | 0, .lst _, h => by simp [fit] at h
  | 0, .ty _, h => by simp [fit] at h
  | 0, .dct _, h => by simp [fit] at h
  | 0, .scr _, h => by simp [fit] at h
  | 0, .ref _, h => by simp [fit] at h
  | 0, .exc _ _ _ _, h => by simp [fit] at h
  | _ + 1, .ty _, h => by simp [fit] at h
  | _ + 1, .dct _, h => by simp [fit] at h
  | _ + 1, .scr _, h => by simp [fit] at h
  | _ + 1, .ref _, h => by simp [fit] at h
  | _ + 1, .exc _ _ _ _, h => by simp [fit] at h
theorem shaped_of {d : D} (h : fit 64 d = true) : ∃ p, toP d = some p ∧ SeqAt.shaped p = true := by
  obtain ⟨p, e, c, l⟩ := toP_of 64 d h
  exact ⟨p, e, by unfold SeqAt.shaped; rw [c, decide_eq_true l]; rfl⟩
mutual
theorem eqv_toP : ∀ (x y : D) (a b : PyData), toP x = some a → toP y = some b → PyData.eqv a b = eqv x y := by
  intro x y a b hx hy
  cases x with
  | tup xs =>
    simp only [toP, Option.map_eq_some_iff] at hx
    obtain ⟨ps, hp, rfl⟩ := hx
    cases y <;> simp only [toP, Option.some.injEq, Option.map_eq_some_iff, reduceCtorEq] at hy
    all_goals first
      | (obtain ⟨qs, hq, rfl⟩ := hy; simp only [PyData.eqv, eqv, eqvs_toPs _ _ _ _ hp hq])
      | (subst hy; simp only [PyData.eqv, eqv])
  | lst xs =>
    simp only [toP, Option.map_eq_some_iff] at hx
    obtain ⟨ps, hp, rfl⟩ := hx
    cases y <;> simp only [toP, Option.some.injEq, Option.map_eq_some_iff, reduceCtorEq] at hy
    all_goals first
      | (obtain ⟨qs, hq, rfl⟩ := hy; simp only [PyData.eqv, eqv, eqvs_toPs _ _ _ _ hp hq])
      | (subst hy; simp only [PyData.eqv, eqv])
  | _ =>
    simp only [toP, Option.some.injEq, reduceCtorEq] at hx <;> (
      subst hx
      cases y <;> simp only [toP, Option.some.injEq, Option.map_eq_some_iff, reduceCtorEq] at hy
      all_goals first
        | (subst hy; simp only [PyData.eqv, eqv])
        | (obtain ⟨qs, hq, rfl⟩ := hy; simp only [PyData.eqv, eqv]))
theorem eqvs_toPs : ∀ (xs ys : List D) (as bs : List PyData), toPs xs = some as → toPs ys = some bs → PyData.eqvAll as bs = eqvs xs ys := by
  intro xs ys as bs hx hy
  cases xs with
  | nil =>
    simp only [toPs, Option.some.injEq] at hx
    subst hx
    cases ys with
    | nil => simp only [toPs, Option.some.injEq] at hy; subst hy; simp only [PyData.eqvAll, eqvs]
    | cons y ys =>
      simp only [toPs] at hy
      split at hy <;> simp only [Option.some.injEq, reduceCtorEq] at hy
      subst hy; simp only [PyData.eqvAll, eqvs]
  | cons x xs =>
    simp only [toPs] at hx
    split at hx <;> simp only [Option.some.injEq, reduceCtorEq] at hx
    rename_i a as' ea eas
    subst hx
    cases ys with
    | nil => simp only [toPs, Option.some.injEq] at hy; subst hy; simp only [PyData.eqvAll, eqvs]
    | cons y ys =>
      simp only [toPs] at hy
      split at hy <;> simp only [Option.some.injEq, reduceCtorEq] at hy
      rename_i b bs' eb ebs
      subst hy
      simp only [PyData.eqvAll, eqvs, eqv_toP x y a b ea eb, eqvs_toPs xs ys as' bs' eas ebs]
end
mutual
theorem RD.dp {K : PySem.W.Frag} {F H : Hp} (e : Same F H) : ∀ {d : D} {v : V} {p : PyData}, RD K F d v → toP d = some p → Dp K H v p
  | _, _, _, .non, h => by simp only [toP, Option.some.injEq] at h; subst h; exact .non
  | _, _, _, .bl b, h => by simp only [toP, Option.some.injEq] at h; subst h; exact .bl b
  | _, _, _, .int i, h => by simp only [toP, Option.some.injEq] at h; subst h; exact .int i
  | _, _, _, .str x, h => by simp only [toP, Option.some.injEq] at h; subst h; exact .str x
  | _, _, _, .tup q r, h => by
    simp only [toP, Option.map_eq_some_iff] at h
    obtain ⟨ps, hp, rfl⟩ := h
    exact .tup (Same.sqT e q) (RDs.dp e r hp)
  | _, _, _, .lst q r, h => by
    simp only [toP, Option.map_eq_some_iff] at h
    obtain ⟨ps, hp, rfl⟩ := h
    exact .lst (SqL.of (e _ _ q)) (RDs.dp e r hp)
  | _, _, _, .ty _, h => by simp [toP] at h
  | _, _, _, .ref _, h => by simp [toP] at h
  | _, _, _, .scr _, h => by simp [toP] at h
  | _, _, _, .dct _ _, h => by simp [toP] at h
  | _, _, _, .exc _ _, h => by simp [toP] at h
theorem RDs.dp {K : PySem.W.Frag} {F H : Hp} (e : Same F H) : ∀ {d : List D} {v : List V} {p : List PyData}, RDs K F d v → toPs d = some p → DpAll K H v p
  | _, _, _, .nil, h => by simp only [toPs, Option.some.injEq] at h; subst h; exact .nil
  | _, _, _, .cons q r, h => by
    simp only [toPs] at h
    split at h <;> simp only [Option.some.injEq, reduceCtorEq] at h
    subst h
    rename_i a b ea eb
    exact .cons (RD.dp e q ea) (RDs.dp e r eb)
end

/-! ### rows -/
def lsOf (h : MH) : D → Option (List D)
  | .lst ds => some ds
  | .ref a => match h a with
    | some (.lst ds) => some ds
    | _ => none
  | _ => none
def sqOf (h : MH) : D → Option (List D)
  | .tup ds => some ds
  | .scr ns => some (ns.map .int)
  | .lst ds => some ds
  | .ref a => match h a with
    | some (.lst ds) => some ds
    | _ => none
  | _ => none
section
variable {K : PySem.W.Frag} {F H : Hp} {h : MH}
theorem RDs.ints : ∀ ns : List Int, RDs K F (ns.map D.int) (ns.map V.int)
  | [] => .nil
  | n :: ns => .cons (.int n) (RDs.ints ns)
theorem ls_rd (s : SR K F H h) {d : D} {v : V} {ds : List D} (r : RD K F d v) (e : lsOf h d = some ds) : ∃ a xs, v = .ref a ∧ H a = some (.lst xs) ∧ RDs K F ds xs := by
  cases r with
  | lst q r => simp only [lsOf, Option.some.injEq] at e; subst e; exact ⟨_, _, rfl, s.fr _ _ q, r⟩
  | ref a =>
    simp only [lsOf] at e
    split at e <;> simp only [Option.some.injEq, reduceCtorEq] at e
    rename_i ds' em
    subst e
    obtain ⟨_, xs, q, r⟩ := s.cell a _ em
    exact ⟨a, xs, rfl, q, r⟩
  | _ => simp [lsOf] at e
theorem sq_rd (s : SR K F H h) {d : D} {v : V} {ds : List D} (r : RD K F d v) (e : sqOf h d = some ds) : ∃ a xs, v = .ref a ∧ (SqL K H a xs ∨ SqT K H a xs) ∧ RDs K F ds xs := by
  cases r with
  | tup q r => simp only [sqOf, Option.some.injEq] at e; subst e; exact ⟨_, _, rfl, .inr (Same.sqT s.fr q), r⟩
  | scr q => simp only [sqOf, Option.some.injEq] at e; subst e; exact ⟨_, _, rfl, .inl (Same.sqL s.fr q), RDs.ints _⟩
  | lst q r => simp only [sqOf, Option.some.injEq] at e; subst e; exact ⟨_, _, rfl, .inl (SqL.of (s.fr _ _ q)), r⟩
  | ref a =>
    simp only [sqOf] at e
    split at e <;> simp only [Option.some.injEq, reduceCtorEq] at e
    rename_i ds' em
    subst e
    obtain ⟨_, xs, q, r⟩ := s.cell a _ em
    exact ⟨a, xs, rfl, .inl (SqL.of q), r⟩
  | _ => simp [sqOf] at e
end
theorem ContV.same {K : PySem.W.Frag} {F H : Hp} {h : MH} {Q' : MQ} {Q : VK} {d : D} {v : V} (c : ContV K F H h Q' Q) (s : SR K F H h) (r : RD K F d v) (q : Q' d h) : Q v H := c F H h d v (Go.refl s) r q
theorem ContV.tup {K : PySem.W.Frag} {F H : Hp} {h : MH} {Q' : MQ} {Q : VK} {ds : List D} {xs : List V} {p : Addr} (c : ContV K F H h Q' Q) (s : SR K F H h) (n : H p = none) (r : RDs K F ds xs) (q : Q' (.tup ds) h) : Q (.ref p) (upd H p (.tup xs)) :=
  c _ _ h _ _ (Go.settled s n) (.tup (SqT.of upd_same) (r.mono (same_upd (s.freeF n)))) q
theorem ContV.lst {K : PySem.W.Frag} {F H : Hp} {h : MH} {Q' : MQ} {Q : VK} {ds : List D} {xs : List V} {p : Addr} (c : ContV K F H h Q' Q) (s : SR K F H h) (n : H p = none) (r : RDs K F ds xs) (q : Q' (.lst ds) h) : Q (.ref p) (upd H p (.lst xs)) :=
  c _ _ h _ _ (Go.settled s n) (.lst upd_same (r.mono (same_upd (s.freeF n)))) q

/-! ### arithmetic -/
def opI2 (C : Int → Int → Prop) (g : Int → Int → Int) (x y : D) (h : MH) (Q : MQ) : Prop := match x, y with
  | .int i, .int j => C i j ∧ Q (.int (g i j)) h
  | _, _ => False
theorem opI2_d {K : PySem.W.Frag} {C : Int → Int → Prop} {g : Int → Int → Int} : OpD K (rI C fun i j => .int (g i j)) (opI2 C g) := fun F H h x y u v Q' Q s rx ry t c => by
  cases rx <;> cases ry <;> first | exact t.elim | skip
  rename_i i j
  exact ⟨i, j, rfl, rfl, t.1, c.same s (.int _) t.2⟩
def opB2 (g : Int → Int → Bool) (x y : D) (h : MH) (Q : MQ) : Prop := match x, y with
  | .int i, .int j => Q (.bl (g i j)) h
  | _, _ => False
theorem opB2_d {K : PySem.W.Frag} {g : Int → Int → Bool} : OpD K (rI0 fun i j => .bl (g i j)) (opB2 g) := fun F H h x y u v Q' Q s rx ry t c => by
  cases rx <;> cases ry <;> first | exact t.elim | skip
  rename_i i j
  exact ⟨i, j, rfl, rfl, c.same s (.bl _) t⟩
def opSub (x y : D) (h : MH) (Q : MQ) : Prop := match x, y with
  | .int i, .int j => Q (.int (i - j)) h
  | _, _ => False
theorem opSub_d {K : PySem.W.Frag} : OpD K (rI0 fun i j => .int (i - j)) opSub := fun F H h x y u v Q' Q s rx ry t c => by
  cases rx <;> cases ry <;> first | exact t.elim | skip
  rename_i i j
  exact ⟨i, j, rfl, rfl, c.same s (.int _) t⟩
def opAnd (x y : D) (h : MH) (Q : MQ) : Prop := match x, y with
  | .int i, .int j => Q (.int (Builtin.bitAnd i j)) h
  | _, _ => False
theorem opAnd_d {K : PySem.W.Frag} : OpD K (rI0 fun i j => .int (Builtin.bitAnd i j)) opAnd := fun F H h x y u v Q' Q s rx ry t c => by
  cases rx <;> cases ry <;> first | exact t.elim | skip
  rename_i i j
  exact ⟨i, j, rfl, rfl, c.same s (.int _) t⟩
/-- + -/
def opAdd (x y : D) (h : MH) (Q : MQ) : Prop := match x, y with
  | .int i, .int j => Q (.int (i + j)) h
  | .str a, .str b => a.length + b.length ≤ sizeLine ∧ Q (.str (a ++ b)) h
  | .tup a, .tup b => a.length + b.length ≤ sizeLine ∧ Q (.tup (a ++ b)) h
  | x, y => match lsOf h x, lsOf h y with
    | some a, some b => a.length + b.length ≤ sizeLine ∧ Q (.lst (a ++ b)) h
    | _, _ => False
abbrev rAdd (K : PySem.W.Frag) : R2 := fun x y H Q => (((∃ i j, x = .int i ∧ y = .int j ∧ Q (.int (i + j)) H) ∨ (∃ i j, x = .str i ∧ y = .str j ∧ i.length + j.length ≤ sizeLine ∧ Q (.str (i ++ j)) H)) ∨ rCatA K x y H Q) ∨ rCat x y H Q
theorem op_addA {X : Cx} : OpR X (binaryOp .Add) (rAdd X.K) := ((op_add.or op_add_str).or op_catA).or op_cat
theorem opAdd_d {K : PySem.W.Frag} : OpD K (rAdd K) opAdd := fun F H h x y u v Q' Q s rx ry t c => by
  have key : ∀ a b, lsOf h x = some a → lsOf h y = some b → a.length + b.length ≤ sizeLine → Q' (.lst (a ++ b)) h → rAdd K u v H Q := fun a b ea eb hz q => by
    obtain ⟨p, xs, rfl, hp, r1⟩ := ls_rd s rx ea
    obtain ⟨p2, ys, rfl, hp2, r2⟩ := ls_rd s ry eb
    exact .inr ⟨p, p2, xs, ys, rfl, rfl, hp, hp2, by rw [← r1.length, ← r2.length]; exact hz, fun z hz => c.lst s hz (r1.append r2) q⟩
  unfold opAdd at t
  split at t
  · cases rx; cases ry
    exact .inl (.inl (.inl ⟨_, _, rfl, rfl, c.same s (.int _) t⟩))
  · cases rx; cases ry
    exact .inl (.inl (.inr ⟨_, _, rfl, rfl, t.1, c.same s (.str _) t.2⟩))
  · rename_i a b
    cases rx with
    | tup q1 r1 =>
      cases ry with
      | tup q2 r2 =>
        rename_i p xs p2 ys
        refine .inl (.inr ⟨_, _, _, _, rfl, rfl, Same.sqT s.fr q1, Same.sqT s.fr q2, by rw [← r1.length, ← r2.length]; exact t.1, fun e => ?_, fun n e => ?_, fun n n2 z hz => c.tup s hz (r1.append r2) t.2⟩)
        · subst e; cases r1; exact c.same s (.tup q2 r2) t.2
        · subst e; cases r2
          have t2 := t.2
          rw [List.append_nil] at t2
          exact c.same s (.tup q1 r1) t2
  · split at t
    · rename_i a b ea eb
      exact key a b ea eb t.1 t.2
    · exact t.elim
/-- * -/
def mulOk (i j : Int) : Prop := CMul i j ∨ CMulX i j
/-- z * k, k at least 2, z not empty -/
def strRep (z : Str) (k : Int) : Str := ⟨(List.replicate k.toNat z.cps).foldl (· ++ ·) #[]⟩
def strRepOk (z : Str) (k : Int) : Prop := 2 ≤ k ∧ k ≤ 1000 ∧ 0 < z.length ∧ z.length ≤ 1000
theorem size_rep {α : Type} (a : Array α) : ∀ (n : Nat) (b : Array α), ((List.replicate n a).foldl (· ++ ·) b).size = b.size + n * a.size
  | 0, b => by simp
  | n + 1, b => by
    rw [List.replicate_succ, List.foldl_cons, size_rep a n, Array.size_append, Nat.succ_mul]
    omega
theorem op_repS {X : Cx} : OpR X (binaryOp .Mult) (fun x y H Q => ∃ z k, x = .str z ∧ y = .int k ∧ strRepOk z k ∧ Q (.str (strRep z k)) H) := by
  intro pins s σ H x y v u Q I rx ry h
  obtain ⟨z, k, rfl, rfl, ⟨h1, h2, h3, h4⟩, q⟩ := h
  obtain ⟨t, rfl⟩ := rx
  obtain ⟨t', rfl⟩ := ry
  have a1 : ¬ k < 1 := by omega
  have a2 : (k == 1 || z.length == 0) = false := by
    have : k ≠ 1 := by omega
    have : z.length ≠ 0 := by omega
    simp [*]
  have a3 : z.length * k.toNat ≤ 1000 * 1000 := Nat.mul_le_mul h4 (by omega)
  refine P.mul_str ?_ (fun _ _ => ?_) (fun _ _ => ?_) ?_
  · simp only [Bool.or_eq_false_iff, decide_eq_false_iff_not]
    omega
  · have : (2 ^ 63 - 1) / 1000 ≤ ((2 ^ 63 - 1) / k : Int) := by
      have e := Int.le_ediv_iff_mul_le (a := (2 ^ 63 - 1) / 1000) (b := 2 ^ 63 - 1) (c := k) (by omega)
      rw [e]
      omega
    omega
  · show decide (_ > sizeLine) = false
    have : (sizeLine : Nat) = 16777216 := by decide
    rw [decide_eq_false_iff_not]
    omega
  · rw [if_neg a1, if_neg (by rw [a2]; exact Bool.false_ne_true)]
    refine ⟨?_, .str (strRep z k), H, I.tok _, ⟨_, rfl⟩, q⟩
    have e : (strRep z k).length = z.length * k.toNat := by
      show ((List.replicate k.toNat z.cps).foldl (· ++ ·) #[]).size = z.cps.size * k.toNat
      rw [size_rep, Nat.mul_comm]; simp
    have : (sizeLine : Nat) = 16777216 := by decide
    show (strRep z k).length ≤ sizeLine
    omega
def opMul (x y : D) (h : MH) (Q : MQ) : Prop := match x, y with
  | .int i, .int j => mulOk i j ∧ Q (.int (i * j)) h
  | .tup a, .int k => (a ≠ [] ∧ 2 ≤ k ∧ k ≤ 1000 ∧ a.length ≤ 1000) ∧ Q (.tup (List.replicate k.toNat a).flatten) h
  | .str z, .int k => strRepOk z k ∧ Q (.str (strRep z k)) h
  | x, .int k => match lsOf h x with
    | some a => (-(2 ^ 63) ≤ k ∧ k < 2 ^ 63 ∧ a.length * k.toNat ≤ sizeLine) ∧ Q (.lst (List.replicate k.toNat a).flatten) h
    | none => False
  | _, _ => False
abbrev rMulA (K : PySem.W.Frag) : R2 := fun x y H Q => (((rI CMul (fun i j => .int (i * j)) x y H Q ∨ rI CMulX (fun i j => .int (i * j)) x y H Q) ∨ rRepT K x y H Q) ∨ rRep x y H Q) ∨ ∃ z k, x = .str z ∧ y = .int k ∧ strRepOk z k ∧ Q (.str (strRep z k)) H
theorem op_mulA {X : Cx} : OpR X (binaryOp .Mult) (rMulA X.K) := (((op_mul.or op_mulX).or op_repT).or op_rep).or op_repS
theorem opMul_d {K : PySem.W.Frag} : OpD K (rMulA K) opMul := fun F H h x y u v Q' Q s rx ry t c => by
  unfold opMul at t
  split at t
  · cases rx; cases ry
    rcases t.1 with z | z
    · exact .inl (.inl (.inl (.inl ⟨_, _, rfl, rfl, z, c.same s (.int _) t.2⟩)))
    · exact .inl (.inl (.inl (.inr ⟨_, _, rfl, rfl, z, c.same s (.int _) t.2⟩)))
  · cases ry
    cases rx with
    | tup q r =>
      obtain ⟨⟨h0, h1, h2, h3⟩, t2⟩ := t
      refine .inl (.inl (.inr ⟨_, _, _, rfl, rfl, Same.sqT s.fr q, fun z => h0 ?_, h1, h2, by rw [← r.length]; exact h3, fun z hz => c.tup s hz (r.rep _) t2⟩))
      subst z; cases r; rfl
  · cases rx; cases ry
    exact .inr ⟨_, _, rfl, rfl, t.1, c.same s (.str _) t.2⟩
  · cases ry
    split at t
    · rename_i a ea
      obtain ⟨p, xs, rfl, hp, r⟩ := ls_rd s rx ea
      obtain ⟨⟨h1, h2, h3⟩, t2⟩ := t
      exact .inl (.inr ⟨p, _, xs, rfl, rfl, hp, h1, h2, by rw [← r.length]; exact h3, fun z hz => c.lst s hz (r.rep _) t2⟩)
    · exact t.elim
  · exact t.elim
def divOk (_ j : Int) : Prop := 0 < j ∧ j.natAbs.log2 < 9000
def modOk (_ j : Int) : Prop := 0 < j
def powOk (i j : Int) : Prop := 0 ≤ j ∧ j ≤ 1000000 ∧ i.natAbs < 2 ^ 64
def shlOk (i j : Int) : Prop := 0 ≤ j ∧ (Builtin.Int.intBits i : Int) + j ≤ 2 ^ 27
def shrOk (_ j : Int) : Prop := 0 ≤ j

section
variable {X : Cx} {B : Bs} {a b c : Expr} {ta tb tc : WE} {pos : Pos}
theorem m_add (ha : ME X B a ta) (hb : ME X B b tb) : ME X B (.BinOp a .Add b pos) (wOp opAdd ta tb) := m_bin op_addA opAdd_d ha hb
theorem m_sub (ha : ME X B a ta) (hb : ME X B b tb) : ME X B (.BinOp a .Sub b pos) (wOp opSub ta tb) := m_bin op_sub opSub_d ha hb
theorem m_mul (ha : ME X B a ta) (hb : ME X B b tb) : ME X B (.BinOp a .Mult b pos) (wOp opMul ta tb) := m_bin op_mulA opMul_d ha hb
theorem m_fdiv (ha : ME X B a ta) (hb : ME X B b tb) : ME X B (.BinOp a .FloorDiv b pos) (wOp (opI2 divOk fun i j => i / j) ta tb) := m_bin (op_fdivW (X := X)) (opI2_d (C := divOk)) ha hb
theorem m_mod (ha : ME X B a ta) (hb : ME X B b tb) : ME X B (.BinOp a .Mod b pos) (wOp (opI2 modOk fun i j => i % j) ta tb) := m_bin (op_mod (X := X)) (opI2_d (C := modOk)) ha hb
theorem m_pow (ha : ME X B a ta) (hb : ME X B b tb) : ME X B (.BinOp a .Pow b pos) (wOp (opI2 powOk fun i j => i ^ j.toNat) ta tb) := m_bin (op_pow (X := X)) (opI2_d (C := powOk)) ha hb
theorem m_shl (ha : ME X B a ta) (hb : ME X B b tb) : ME X B (.BinOp a .LShift b pos) (wOp (opI2 shlOk fun i j => i * 2 ^ j.toNat) ta tb) := m_bin (op_shlW (X := X)) (opI2_d (C := shlOk)) ha hb
theorem m_shr (ha : ME X B a ta) (hb : ME X B b tb) : ME X B (.BinOp a .RShift b pos) (wOp (opI2 shrOk fun i j => i / 2 ^ j.toNat) ta tb) := m_bin (op_shr (X := X)) (opI2_d (C := shrOk)) ha hb
theorem m_band (ha : ME X B a ta) (hb : ME X B b tb) : ME X B (.BinOp a .BitAnd b pos) (wOp opAnd ta tb) := m_bin op_and opAnd_d ha hb
def unNeg (x : D) (h : MH) (Q : MQ) : Prop := match x with
  | .int i => Q (.int (-i)) h
  | _ => False
theorem m_neg (ha : ME X B a ta) : ME X B (.UnaryOp .USub a pos) (wUn unNeg ta) := m_un un_neg (fun F H h x u Q' Q s rx t c => by
  cases rx <;> first | exact t.elim | skip
  rename_i i
  exact ⟨i, rfl, c.same s (.int _) t⟩) ha
/-! ### comparisons -/
def opEq (neg : Bool) (x y : D) (h : MH) (Q : MQ) : Prop := match x, y with
  | .int i, .int j => Q (.bl (if neg then !(i == j) else i == j)) h
  | x, y => match lsOf h x, lsOf h y with
    | some a, some b => (fit 64 (.lst a) = true ∧ fit 64 (.lst b) = true) ∧ Q (.bl (if neg then !eqvs a b else eqvs a b)) h
    | some a, none => (fit 64 (.lst a) = true ∧ fit 64 y = true) ∧ Q (.bl neg) h
    | none, some b => (fit 64 x = true ∧ fit 64 (.lst b) = true) ∧ Q (.bl neg) h
    | none, none => (fit 64 x = true ∧ fit 64 y = true) ∧ Q (.bl (if neg then !eqv x y else eqv x y)) h
end
/-- what a value is as plain data: a cell's list as a settled one -/
theorem eq_side {K : PySem.W.Frag} {F H : Hp} {h : MH} (s : SR K F H h) {x : D} {u : V} (rx : RD K F x u) :
    (∀ a, lsOf h x = some a → fit 64 (.lst a) = true → ∃ p, toP (.lst a) = some p ∧ SeqAt.shaped p = true ∧ Dp K H u p) ∧ (lsOf h x = none → fit 64 x = true → ∃ p, toP x = some p ∧ SeqAt.shaped p = true ∧ Dp K H u p) := by
  refine ⟨fun a e f => ?_, fun e f => ?_⟩
  · obtain ⟨p, hp, hs⟩ := shaped_of f
    obtain ⟨q, xs, rfl, hq, r⟩ := ls_rd s rx e
    refine ⟨p, hp, hs, ?_⟩
    simp only [toP, Option.map_eq_some_iff] at hp
    obtain ⟨ps, hps, rfl⟩ := hp
    exact .lst (SqL.of hq) (RDs.dp s.fr r hps)
  · obtain ⟨p, hp, hs⟩ := shaped_of f
    exact ⟨p, hp, hs, rx.dp s.fr hp⟩
theorem lsOf_none_eqv {h : MH} {x : D} (e : lsOf h x = none) (f : fit 64 x = true) (a : List D) : eqv (.lst a) x = false ∧ eqv x (.lst a) = false := by
  cases x <;> simp [lsOf, fit] at e f <;> simp [eqv]
theorem opEq_core {K : PySem.W.Frag} {neg : Bool} {F H : Hp} {h : MH} {x y : D} {u v : V} {Q' : MQ} {Q : VK} (s : SR K F H h) (rx : RD K F x u) (ry : RD K F y v) (t : opEq neg x y h Q') (c : ContV K F H h Q' Q) :
    ∃ d e, Dp K H u d ∧ Dp K H v e ∧ SeqAt.shaped d = true ∧ SeqAt.shaped e = true ∧ Q (.bl (if neg then !PyData.eqv d e else PyData.eqv d e)) H := by
  unfold opEq at t
  split at t
  · cases rx; cases ry
    rename_i i j
    refine ⟨.int i, .int j, .int i, .int j, rfl, rfl, ?_⟩
    have := c.same s (.bl _) t
    simpa only [PyData.eqv] using this
  · obtain ⟨xl, xn⟩ := eq_side s rx
    obtain ⟨yl, yn⟩ := eq_side s ry
    split at t
    · rename_i a b ea eb
      obtain ⟨p, hp, sp, dp⟩ := xl a ea t.1.1
      obtain ⟨q, hq, sq, dq⟩ := yl b eb t.1.2
      refine ⟨p, q, dp, dq, sp, sq, ?_⟩
      rw [eqv_toP _ _ _ _ hp hq]
      simp only [eqv]
      exact c.same s (.bl _) t.2
    · rename_i a ea eb
      obtain ⟨p, hp, sp, dp⟩ := xl a ea t.1.1
      obtain ⟨q, hq, sq, dq⟩ := yn eb t.1.2
      refine ⟨p, q, dp, dq, sp, sq, ?_⟩
      rw [eqv_toP _ _ _ _ hp hq, (lsOf_none_eqv eb t.1.2 a).1]
      have z : (if neg = true then !false else false) = neg := by cases neg <;> rfl
      rw [z]
      exact c.same s (.bl _) t.2
    · rename_i b ea eb
      obtain ⟨p, hp, sp, dp⟩ := xn ea t.1.1
      obtain ⟨q, hq, sq, dq⟩ := yl b eb t.1.2
      refine ⟨p, q, dp, dq, sp, sq, ?_⟩
      rw [eqv_toP _ _ _ _ hp hq, (lsOf_none_eqv ea t.1.1 b).2]
      have z : (if neg = true then !false else false) = neg := by cases neg <;> rfl
      rw [z]
      exact c.same s (.bl _) t.2
    · rename_i ea eb
      obtain ⟨p, hp, sp, dp⟩ := xn ea t.1.1
      obtain ⟨q, hq, sq, dq⟩ := yn eb t.1.2
      refine ⟨p, q, dp, dq, sp, sq, ?_⟩
      rw [eqv_toP _ _ _ _ hp hq]
      exact c.same s (.bl _) t.2
theorem opEq_d {K : PySem.W.Frag} : OpD K (rEqD K) (opEq false) := fun F H h x y u v Q' Q s rx ry t c => by
  obtain ⟨d, e, h1, h2, h3, h4, h5⟩ := opEq_core s rx ry t c
  exact ⟨d, e, h1, h2, h3, h4, h5⟩
theorem opNe_d {K : PySem.W.Frag} : OpD K (rNeD K) (opEq true) := fun F H h x y u v Q' Q s rx ry t c => by
  obtain ⟨d, e, h1, h2, h3, h4, h5⟩ := opEq_core s rx ry t c
  exact ⟨d, e, h1, h2, h3, h4, h5⟩
def opIsN (neg : Bool) (x y : D) (h : MH) (Q : MQ) : Prop := match y with
  | .non => Q (.bl (match x with | .non => !neg | _ => neg)) h
  | _ => False
section
variable {X : Cx} {B : Bs} {a b c : Expr} {ta tb tc : WE} {pos : Pos}
theorem opIsN_d {K : PySem.W.Frag} : OpD K (fun x y H Q => y = .non ∧ Q (.bl (decide (x = .non))) H) (opIsN false) := fun F H h x y u v Q' Q s rx ry t c => by
  cases ry <;> first | exact t.elim | skip
  refine ⟨rfl, ?_⟩
  cases rx <;> exact c.same s (.bl _) t
theorem opNotN_d {K : PySem.W.Frag} : OpD K (fun x y H Q => y = .non ∧ Q (.bl (!decide (x = .non))) H) (opIsN true) := fun F H h x y u v Q' Q s rx ry t c => by
  cases ry <;> first | exact t.elim | skip
  refine ⟨rfl, ?_⟩
  cases rx <;> exact c.same s (.bl _) t
end
end BP

set_option maxRecDepth 100000
set_option maxHeartbeats 4000000
/-! BpC: expressions over plain data. -/
namespace BP
open PySem PySem.Spec PyProof.Rows L2
section
variable {X : Cx} {B : Bs} {a b c : Expr} {ta tb tc : WE} {pos : Pos}
/-! ### comparisons as values and as tests -/
theorem m_eq (hu : X.A.units + 64 < cLine) (ha : ME X B a ta) (hb : ME X B b tb) : ME X B (.Compare a [.Eq] [b] pos) (wOp (opEq false) ta tb) := m_cmp (op_eqD hu) opEq_d ha hb
theorem m_ne (hu : X.A.units + 64 < cLine) (ha : ME X B a ta) (hb : ME X B b tb) : ME X B (.Compare a [.NotEq] [b] pos) (wOp (opEq true) ta tb) := m_cmp (op_neD hu) opNe_d ha hb
theorem m_lt (ha : ME X B a ta) (hb : ME X B b tb) : ME X B (.Compare a [.Lt] [b] pos) (wOp (opB2 fun i j => decide (i < j)) ta tb) := m_cmp op_lt opB2_d ha hb
theorem m_le (ha : ME X B a ta) (hb : ME X B b tb) : ME X B (.Compare a [.LtE] [b] pos) (wOp (opB2 fun i j => decide (i ≤ j)) ta tb) := m_cmp op_le opB2_d ha hb
theorem m_gt (ha : ME X B a ta) (hb : ME X B b tb) : ME X B (.Compare a [.Gt] [b] pos) (wOp (opB2 fun i j => decide (j < i)) ta tb) := m_cmp op_gt opB2_d ha hb
theorem m_ge (ha : ME X B a ta) (hb : ME X B b tb) : ME X B (.Compare a [.GtE] [b] pos) (wOp (opB2 fun i j => decide (j ≤ i)) ta tb) := m_cmp op_ge opB2_d ha hb
theorem m_is (ha : ME X B a ta) (hb : ME X B b tb) : ME X B (.Compare a [.Is] [b] pos) (wOp (opIsN false) ta tb) := m_cmp op_isN opIsN_d ha hb
theorem m_isnot (ha : ME X B a ta) (hb : ME X B b tb) : ME X B (.Compare a [.IsNot] [b] pos) (wOp (opIsN true) ta tb) := m_cmp op_notN opNotN_d ha hb
theorem mt_eq (hu : X.A.units + 64 < cLine) (ha : ME X B a ta) (hb : ME X B b tb) : MT X B (.Compare a [.Eq] [b] pos) (wTest (wOp (opEq false) ta tb)) := m_tcmp (op_eqD hu) opEq_d ha hb
theorem mt_ne (hu : X.A.units + 64 < cLine) (ha : ME X B a ta) (hb : ME X B b tb) : MT X B (.Compare a [.NotEq] [b] pos) (wTest (wOp (opEq true) ta tb)) := m_tcmp (op_neD hu) opNe_d ha hb
theorem mt_lt (ha : ME X B a ta) (hb : ME X B b tb) : MT X B (.Compare a [.Lt] [b] pos) (wTest (wOp (opB2 fun i j => decide (i < j)) ta tb)) := m_tcmp op_lt opB2_d ha hb
theorem mt_le (ha : ME X B a ta) (hb : ME X B b tb) : MT X B (.Compare a [.LtE] [b] pos) (wTest (wOp (opB2 fun i j => decide (i ≤ j)) ta tb)) := m_tcmp op_le opB2_d ha hb
theorem mt_gt (ha : ME X B a ta) (hb : ME X B b tb) : MT X B (.Compare a [.Gt] [b] pos) (wTest (wOp (opB2 fun i j => decide (j < i)) ta tb)) := m_tcmp op_gt opB2_d ha hb
theorem mt_ge (ha : ME X B a ta) (hb : ME X B b tb) : MT X B (.Compare a [.GtE] [b] pos) (wTest (wOp (opB2 fun i j => decide (j ≤ i)) ta tb)) := m_tcmp op_ge opB2_d ha hb
theorem mt_is (ha : ME X B a ta) (hb : ME X B b tb) : MT X B (.Compare a [.Is] [b] pos) (wTest (wOp (opIsN false) ta tb)) := m_tcmp op_isN opIsN_d ha hb
theorem mt_isnot (ha : ME X B a ta) (hb : ME X B b tb) : MT X B (.Compare a [.IsNot] [b] pos) (wTest (wOp (opIsN true) ta tb)) := m_tcmp op_notN opNotN_d ha hb
/-- a op b op' c -/
def wChain (f f' : D → D → MH → MQ → Prop) (ta tb tc : WE) : WE := fun σ h Q => ta σ h fun x h1 => tb σ h1 fun y h2 => f x y h2 fun z h3 => match z with
  | .bl true => tc σ h3 fun w h4 => f' y w h4 Q
  | .bl false => Q (.bl false) h3
  | _ => False
theorem lift_chain {f f' : D → D → MH → MQ → Prop} {r r' : R2} (hf : OpD X.K r f) (hf' : OpD X.K r' f') : ∀ σ H Q, lift X.K B (wChain f f' ta tb tc) σ H Q → tChain r r' (lift X.K B ta) (lift X.K B tb) (lift X.K B tc) σ H Q := fun σ H Q ⟨F, h, σd, Q', l, s, t, c⟩ =>
  ⟨F, h, σd, _, l, s, t, fun F1 H1 h1 x u g1 rx t1 => ⟨F1, h1, σd, _, l.mono g1.ss, s.go g1, t1, fun F2 H2 h2 y v g2 ry t2 =>
    hf F2 H2 h2 x y u v _ _ g2.sr (rx.mono g2.ss) ry t2 fun F3 H3 h3 z k g3 rz t3 => by
      cases rz <;> first | exact t3.elim | skip
      rename_i k
      cases k with
      | false => exact ⟨false, rfl, by rw [if_neg Bool.false_ne_true]; exact c F3 H3 h3 _ _ ((g1.trans g2).trans g3) (.bl _) t3⟩
      | true => exact ⟨true, rfl, by
          rw [if_pos rfl]
          exact ⟨F3, h3, σd, _, l.mono ((g1.trans g2).trans g3).ss, s.go ((g1.trans g2).trans g3), t3, fun F4 H4 h4 w z g4 rw' t4 => hf' F4 H4 h4 y w v z Q' Q g4.sr ((ry.mono g3.ss).mono g4.ss) rw' t4 (c.go (((g1.trans g2).trans g3).trans g4))⟩⟩⟩⟩
theorem m_chain {op op' : CmpOp} {f f' : D → D → MH → MQ → Prop} {r r' : R2} (ho : OpR X (compareOp op) r) (hf : OpD X.K r f) (ho' : OpR X (compareOp op') r') (hf' : OpD X.K r' f') (ha : ME X B a ta) (hb : ME X B b tb) (hc : ME X B c tc)
    (hm : lastMarks [op, op'] [b, c] = false := by with_unfolding_all rfl) : ME X B (.Compare a [op, op'] [b, c] pos) (wChain f f' ta tb tc) := pe_mono (pe_chain ho ho' ha hb hc hm) (lift_chain hf hf')
theorem mt_chain {op op' : CmpOp} {f f' : D → D → MH → MQ → Prop} {r r' : R2} (ho : OpR X (compareOp op) r) (hf : OpD X.K r f) (ho' : OpR X (compareOp op') r') (hf' : OpD X.K r' f') (ha : ME X B a ta) (hb : ME X B b tb) (hc : ME X B c tc)
    (hm : lastMarks [op, op'] [b, c] = false := by with_unfolding_all rfl) : MT X B (.Compare a [op, op'] [b, c] pos) (wTest (wChain f f' ta tb tc)) :=
  pt_mono (pt_chain ho ho' ha hb hc hm) fun σ H Q ⟨F, h, σd, Q', l, s, t, c⟩ => lift_chain hf hf' σ H _ ⟨F, h, σd, _, l, s, t, fun F1 H1 h1 x u g1 rx t1 => by
    cases rx with
    | bl b => exact ⟨b, rfl, c F1 H1 h1 b g1 t1⟩
    | _ => exact t1.elim⟩
theorem m_lele (ha : ME X B a ta) (hb : ME X B b tb) (hc : ME X B c tc) (hm : lastMarks [.LtE, .LtE] [b, c] = false := by with_unfolding_all rfl) : ME X B (.Compare a [.LtE, .LtE] [b, c] pos) (wChain (opB2 fun i j => decide (i ≤ j)) (opB2 fun i j => decide (i ≤ j)) ta tb tc) := m_chain op_le opB2_d op_le opB2_d ha hb hc hm
theorem mt_lele (ha : ME X B a ta) (hb : ME X B b tb) (hc : ME X B c tc) (hm : lastMarks [.LtE, .LtE] [b, c] = false := by with_unfolding_all rfl) : MT X B (.Compare a [.LtE, .LtE] [b, c] pos) (wTest (wChain (opB2 fun i j => decide (i ≤ j)) (opB2 fun i j => decide (i ≤ j)) ta tb tc)) := mt_chain op_le opB2_d op_le opB2_d ha hb hc hm
theorem m_lelt (ha : ME X B a ta) (hb : ME X B b tb) (hc : ME X B c tc) (hm : lastMarks [.LtE, .Lt] [b, c] = false := by with_unfolding_all rfl) : ME X B (.Compare a [.LtE, .Lt] [b, c] pos) (wChain (opB2 fun i j => decide (i ≤ j)) (opB2 fun i j => decide (i < j)) ta tb tc) := m_chain op_le opB2_d op_lt opB2_d ha hb hc hm
theorem mt_lelt (ha : ME X B a ta) (hb : ME X B b tb) (hc : ME X B c tc) (hm : lastMarks [.LtE, .Lt] [b, c] = false := by with_unfolding_all rfl) : MT X B (.Compare a [.LtE, .Lt] [b, c] pos) (wTest (wChain (opB2 fun i j => decide (i ≤ j)) (opB2 fun i j => decide (i < j)) ta tb tc)) := mt_chain op_le opB2_d op_lt opB2_d ha hb hc hm

/-! ### truth -/
def truth (h : MH) : D → Option Bool
  | .non => some false
  | .bl b => some b
  | .int i => some (i != 0)
  | .str x => if x.length ≤ sizeLine then some ((x.length : Int) != 0) else none
  | .dct kvs => some (!kvs.isEmpty)
  | d => (sqOf h d).map fun xs => !xs.isEmpty
theorem rds_empty {K : PySem.W.Frag} {F : Hp} {ds : List D} {xs : List V} (r : RDs K F ds xs) : ds.isEmpty = xs.isEmpty := by cases r <;> rfl
theorem truth_v {K : PySem.W.Frag} {F H : Hp} {h : MH} (s : SR K F H h) {d : D} {v : V} {k : Bool} (r : RD K F d v) (e : truth h d = some k) : TruV K v H k := by
  have key : ∀ {xs}, sqOf h d = some xs → k = !xs.isEmpty → TruV K v H k := fun {xs} q z => by
    obtain ⟨a, ys, rfl, o, r⟩ := sq_rd s r q
    rw [rds_empty r] at z
    rcases o with o | o
    · exact .inl ⟨ys, o, z⟩
    · exact .inr (.inl ⟨ys, o, z⟩)
  cases r with
  | non => simp only [truth, Option.some.injEq] at e; exact e.symm
  | bl b => simp only [truth, Option.some.injEq] at e; exact e.symm
  | int i => simp only [truth, Option.some.injEq] at e; exact e.symm
  | str x =>
    simp only [truth] at e
    split at e
    · rename_i hz; simp only [Option.some.injEq] at e; exact ⟨hz, e.symm⟩
    · cases e
  | dct q r =>
    simp only [truth, Option.some.injEq] at e
    refine .inr (.inr ⟨_, s.fr _ _ q, ?_⟩)
    rw [← e]; cases r <;> rfl
  | tup q r => simp only [truth, Option.map_eq_some_iff] at e; obtain ⟨xs, q, z⟩ := e; exact key q z.symm
  | lst q r => simp only [truth, Option.map_eq_some_iff] at e; obtain ⟨xs, q, z⟩ := e; exact key q z.symm
  | scr q => simp only [truth, Option.map_eq_some_iff] at e; obtain ⟨xs, q, z⟩ := e; exact key q z.symm
  | ref q => simp only [truth, Option.map_eq_some_iff] at e; obtain ⟨xs, q, z⟩ := e; exact key q z.symm
  | ty n => simp [truth, sqOf] at e
  | exc q r => simp [truth, sqOf] at e
def wTruth (t : WE) : WT := fun σ h Q => t σ h fun x h1 => match truth h1 x with
  | some b => Q b h1
  | none => False
/-- an expression as a test (a name, a call, a subscript ..) -/
theorem mt_val (ha : ME X B a ta) (he : ∀ whole, isTrue a X.env whole = (do let v ← whole; standAt a.pos; holding [v] (truthy v)) := by intro _; rfl) : MT X B a (wTruth ta) :=
  pt_mono (pt_truth ha he) fun σ H Q ⟨F, h, σd, Q', l, s, t, c⟩ => ⟨F, h, σd, _, l, s, t, fun F1 H1 h1 x u g1 rx t1 => by
    split at t1
    · rename_i b e
      exact ⟨b, truth_v g1.sr rx e, c F1 H1 h1 b g1 t1⟩
    · exact t1.elim⟩
/-! ### and, or, not -/
def wAnd (t u : WT) : WT := fun σ h Q => t σ h fun b h1 => if b = true then u σ h1 Q else Q false h1
def wOr (t u : WT) : WT := fun σ h Q => t σ h fun b h1 => if b = true then Q true h1 else u σ h1 Q
def wNot (t : WT) : WT := fun σ h Q => t σ h fun b h1 => Q (!b) h1
abbrev MW (X : Cx) (B : Bs) (e : Expr) (t : WT) : Prop := PW X e (liftT X.K B t)
variable {ua ub : WT} {rest : List Expr}
theorem mw_and1 (ha : MT X B a ua) : MW X B (.BoolOp .And [a] pos) ua := pw_and1 ha
theorem mw_or1 (ha : MT X B a ua) : MW X B (.BoolOp .Or [a] pos) ua := pw_or1 ha
theorem mw_and (ha : MT X B a ua) (hb : MW X B (.BoolOp .And (b :: rest) pos) ub) : MW X B (.BoolOp .And (a :: b :: rest) pos) (wAnd ua ub) :=
  pw_mono (pw_and ha hb) fun σ H Q ⟨F, h, σd, Q', l, s, t, c⟩ => ⟨F, h, σd, _, l, s, t, fun F1 H1 h1 k g1 t1 => by
    cases k with
    | true => rw [if_pos rfl] at t1 ⊢; exact ⟨F1, h1, σd, Q', l.mono g1.ss, s.go g1, t1, c.go g1⟩
    | false => rw [if_neg Bool.false_ne_true] at t1 ⊢; exact c F1 H1 h1 false g1 t1⟩
theorem mw_or (ha : MT X B a ua) (hb : MW X B (.BoolOp .Or (b :: rest) pos) ub) : MW X B (.BoolOp .Or (a :: b :: rest) pos) (wOr ua ub) :=
  pw_mono (pw_or ha hb) fun σ H Q ⟨F, h, σd, Q', l, s, t, c⟩ => ⟨F, h, σd, _, l, s, t, fun F1 H1 h1 k g1 t1 => by
    cases k with
    | false => rw [if_neg Bool.false_ne_true] at t1 ⊢; exact ⟨F1, h1, σd, Q', l.mono g1.ss, s.go g1, t1, c.go g1⟩
    | true => rw [if_pos rfl] at t1 ⊢; exact c F1 H1 h1 true g1 t1⟩
theorem mt_w {e : Expr} (h : MW X B e ua) : MT X B e ua := PW.pt h
theorem mt_not (ha : MT X B a ua) : MT X B (.UnaryOp .Not a pos) (wNot ua) :=
  pt_mono (pt_not ha) fun σ H Q ⟨F, h, σd, Q', l, s, t, c⟩ => ⟨F, h, σd, _, l, s, t, fun F1 H1 h1 k g1 t1 => c F1 H1 h1 (!k) g1 t1⟩
/-- .. as values -/
def wAndV (t u : WE) : WE := fun σ h Q => t σ h fun x h1 => match truth h1 x with
  | some true => u σ h1 Q
  | some false => Q x h1
  | none => False
def wOrV (t u : WE) : WE := fun σ h Q => t σ h fun x h1 => match truth h1 x with
  | some true => Q x h1
  | some false => u σ h1 Q
  | none => False
def wNotV (t : WE) : WE := fun σ h Q => t σ h fun x h1 => match truth h1 x with
  | some b => Q (.bl (!b)) h1
  | none => False
end
end BP

set_option maxRecDepth 100000
set_option maxHeartbeats 4000000
/-! BpD: more expressions over plain data: and, or, displays, subscripts, slices, calls of built-ins. -/
namespace BP
open PySem PySem.Spec PyProof.Rows L2
section
variable {X : Cx} {B : Bs} {a b c e : Expr} {ta tb tc : WE} {pos : Pos} {rest es : List Expr} {ua ub : WT}
theorem m_one {op} (ha : ME X B a ta) : ME X B (.BoolOp op [a] pos) ta := pe_one ha
theorem m_and (ha : ME X B a ta) (hb : ME X B (.BoolOp .And (b :: rest) pos) tb) : ME X B (.BoolOp .And (a :: b :: rest) pos) (wAndV ta tb) :=
  pe_mono (pe_andT ha hb) fun σ H Q ⟨F, h, σd, Q', l, s, t, c⟩ => ⟨F, h, σd, _, l, s, t, fun F1 H1 h1 x u g1 rx t1 => by
    split at t1
    · rename_i e; exact ⟨true, truth_v g1.sr rx e, by rw [if_pos rfl]; exact ⟨F1, h1, σd, Q', l.mono g1.ss, s.go g1, t1, c.go g1⟩⟩
    · rename_i e; exact ⟨false, truth_v g1.sr rx e, by rw [if_neg Bool.false_ne_true]; exact c F1 H1 h1 x u g1 rx t1⟩
    · exact t1.elim⟩
theorem m_or (ha : ME X B a ta) (hb : ME X B (.BoolOp .Or (b :: rest) pos) tb) : ME X B (.BoolOp .Or (a :: b :: rest) pos) (wOrV ta tb) :=
  pe_mono (pe_orT ha hb) fun σ H Q ⟨F, h, σd, Q', l, s, t, c⟩ => ⟨F, h, σd, _, l, s, t, fun F1 H1 h1 x u g1 rx t1 => by
    split at t1
    · rename_i e; exact ⟨true, truth_v g1.sr rx e, by rw [if_pos rfl]; exact c F1 H1 h1 x u g1 rx t1⟩
    · rename_i e; exact ⟨false, truth_v g1.sr rx e, by rw [if_neg Bool.false_ne_true]; exact ⟨F1, h1, σd, Q', l.mono g1.ss, s.go g1, t1, c.go g1⟩⟩
    · exact t1.elim⟩
theorem m_not (ha : ME X B a ta) : ME X B (.UnaryOp .Not a pos) (wNotV ta) :=
  pe_mono (pe_notT ha) fun σ H Q ⟨F, h, σd, Q', l, s, t, c⟩ => ⟨F, h, σd, _, l, s, t, fun F1 H1 h1 x u g1 rx t1 => by
    split at t1
    · rename_i b e; exact ⟨b, truth_v g1.sr rx e, c F1 H1 h1 _ _ g1 (.bl _) t1⟩
    · exact t1.elim⟩
/-- a if t else b -/
def wIf (t : WT) (ta tb : WE) : WE := fun σ h Q => t σ h fun k h1 => if k = true then ta σ h1 Q else tb σ h1 Q
theorem m_if (hc : MT X B c ua) (ha : ME X B a ta) (hb : ME X B b tb) : ME X B (.IfExp c a b pos) (wIf ua ta tb) :=
  pe_mono (pe_ifExp hc ha hb) fun σ H Q ⟨F, h, σd, Q', l, s, t, c⟩ => ⟨F, h, σd, _, l, s, t, fun F1 H1 h1 k g1 t1 => by
    cases k with
    | true => rw [if_pos rfl] at t1 ⊢; exact ⟨F1, h1, σd, Q', l.mono g1.ss, s.go g1, t1, c.go g1⟩
    | false => rw [if_neg Bool.false_ne_true] at t1 ⊢; exact ⟨F1, h1, σd, Q', l.mono g1.ss, s.go g1, t1, c.go g1⟩⟩
/-! ### arguments, displays -/
def wNil : WA := fun _ h Q => Q [] h
def wCons (t : WE) (r : WA) : WA := fun σ h Q => t σ h fun d h1 => r σ h1 fun ds h2 => Q (d :: ds) h2
variable {wa : WA}
theorem ma_nil : MA X B [] wNil := pa_mono pa_nil fun σ H Q ⟨F, h, σd, Q', l, s, t, c⟩ => c F H h [] [] (Go.refl s) .nil t
theorem ma_cons (ha : ME X B e ta) (hr : MA X B es wa) (hs : starEach (e :: es) X.env = (false, eval e X.env) :: starEach es X.env := by rfl) : MA X B (e :: es) (wCons ta wa) :=
  pa_mono (pa_cons ha hr hs) fun σ H Q ⟨F, h, σd, Q', l, s, t, c⟩ => ⟨F, h, σd, _, l, s, t, fun F1 H1 h1 x u g1 rx t1 => ⟨F1, h1, σd, _, l.mono g1.ss, s.go g1, t1, fun F2 H2 h2 ds vs g2 rs t2 =>
    c F2 H2 h2 (x :: ds) (u :: vs) (g1.trans g2) (.cons (rx.mono g2.ss) rs) t2⟩⟩
def wTup (t : WA) : WE := fun σ h Q => t σ h fun ds h1 => ds.length ≤ sizeLine ∧ Q (.tup ds) h1
def wLst (t : WA) : WE := fun σ h Q => t σ h fun ds h1 => ds.length ≤ sizeLine ∧ Q (.lst ds) h1
def wLstM (t : WA) : WE := fun σ h Q => t σ h fun ds h1 => ds.length ≤ sizeLine ∧ ∀ p, h1 p = none → Q (.ref p) (mupd h1 p (.lst ds))
theorem m_tup {x1} (h : MA X B es wa) : ME X B (.Tuple es x1 pos) (wTup wa) :=
  pe_mono (pe_tup h) fun σ H Q ⟨F, h, σd, Q', l, s, t, c⟩ => ⟨F, h, σd, _, l, s, t, fun F1 H1 h1 ds vs g1 rs t1 => ⟨by rw [← rs.length]; exact t1.1, fun p hp => (c.go g1).tup g1.sr hp rs t1.2⟩⟩
theorem m_lst (h : MA X B es wa) : ME X B (.List es pos) (wLst wa) :=
  pe_mono (pe_lst h) fun σ H Q ⟨F, h, σd, Q', l, s, t, c⟩ => ⟨F, h, σd, _, l, s, t, fun F1 H1 h1 ds vs g1 rs t1 => ⟨by rw [← rs.length]; exact t1.1, fun p hp => (c.go g1).lst g1.sr hp rs t1.2⟩⟩
theorem ContV.newM {K : PySem.W.Frag} {F H : Hp} {h : MH} {Q' : MQ} {Q : VK} {ds : List D} {xs : List V} {p : Addr} (c : ContV K F H h Q' Q) (s : SR K F H h) (n : H p = none) (r : RDs K F ds xs) (q : ∀ p, h p = none → Q' (.ref p) (mupd h p (.lst ds))) : Q (.ref p) (upd H p (.lst xs)) :=
  c _ _ _ _ _ (Go.fresh (c := .lst ds) s n ⟨xs, upd_same, r⟩) (.ref p) (q p (s.freeM n))
theorem m_lstM (h : MA X B es wa) : ME X B (.List es pos) (wLstM wa) :=
  pe_mono (pe_lst h) fun σ H Q ⟨F, h, σd, Q', l, s, t, c⟩ => ⟨F, h, σd, _, l, s, t, fun F1 H1 h1 ds vs g1 rs t1 => ⟨by rw [← rs.length]; exact t1.1, fun p hp => (c.go g1).newM g1.sr hp rs t1.2⟩⟩
/-- {} as plain data -/
theorem m_dct0 : ME X B (.Dict [] [] pos) (wC (.dct [])) :=
  pe_mono pe_dnewK fun σ H Q ⟨F, h, σd, Q', l, s, t, c⟩ => fun p hp => c _ _ h _ _ (Go.settled s hp) (.dct upd_same .nil) t
/-! ### subscripts -/
theorem atI_rd {K : PySem.W.Frag} {F : Hp} {ds : List D} {xs : List V} {i : Int} {d : D} (r : RDs K F ds xs) (e : atI ds i = some d) : ∃ v, atI xs i = some v ∧ RD K F d v := by
  unfold atI at e ⊢
  rw [r.length] at e
  cases q : ixN xs.length i with
  | none => rw [q] at e; cases e
  | some j =>
    rw [q] at e
    exact r.get e
def opIx (x y : D) (h : MH) (Q : MQ) : Prop := match y with
  | .int i => match sqOf h x with
    | some xs => match atI xs i with
      | some d => Q d h
      | none => False
    | none => False
  | _ => False
theorem opIx_d {K : PySem.W.Frag} : OpD K (fun x y H Q => rIxL K x y H Q ∨ rIxT K x y H Q) opIx := fun F H h x y u v Q' Q s rx ry t c => by
  unfold opIx at t
  split at t
  · rename_i i
    cases ry
    split at t
    · rename_i xs ex
      split at t
      · rename_i d ed
        obtain ⟨p, ys, rfl, o, r⟩ := sq_rd s rx ex
        obtain ⟨w, ew, rw'⟩ := atI_rd r ed
        rcases o with o | o
        · exact .inl ⟨p, ys, i, w, rfl, rfl, o, ew, c.same s rw' t⟩
        · exact .inr ⟨p, ys, i, w, rfl, rfl, o, ew, c.same s rw' t⟩
      · exact t.elim
    · exact t.elim
  · exact t.elim
theorem m_ix (ha : ME X B a ta) (hb : ME X B b tb) (hs : PlainIx b := by intro _ _; rfl) : ME X B (.Subscript a b pos) (wOp opIx ta tb) := pe_mono (pe_ix (ix_list.or ix_tup) ha hb hs) (lift_op opIx_d)
/-! ### slices -/
abbrev WO := MSt → MH → (Option Int → MH → Prop) → Prop
def ContO (K : PySem.W.Frag) (F H : Hp) (h : MH) (Q' : Option Int → MH → Prop) (Q : Option Int → Hp → Prop) : Prop := ∀ F' H' h' b, Go K F H h F' H' h' → Q' b h' → Q b H'
def liftO (K : PySem.W.Frag) (B : Bs) (t : WO) : TO := fun σ H Q => ∃ F h σd Q', LR K F σd σ ∧ Bd K B F H h ∧ t σd h Q' ∧ ContO K F H h Q' Q
abbrev MO (X : Cx) (B : Bs) (o : Option Expr) (t : WO) : Prop := PO X o (liftO X.K B t)
theorem po_mono {o : Option Expr} {t t' : TO} (h : PO X o t) (m : ∀ σ H Q, t' σ H Q → t σ H Q) : PO X o t' := ⟨fun pins s σ H Q I q => h.run pins s σ H Q I (m σ H Q q)⟩
def wNo : WO := fun _ h Q => Q none h
def wPart (t : WE) : WO := fun σ h Q => t σ h fun x h1 => match x with
  | .int i => Q (some i) h1
  | _ => False
theorem mo_none : MO X B none wNo := po_mono po_none fun σ H Q ⟨F, h, σd, Q', l, s, t, c⟩ => c F H h none (Go.refl s) t
theorem mo_some (h : ME X B a ta) : MO X B (some a) (wPart ta) := po_mono (po_some h) fun σ H Q ⟨F, h, σd, Q', l, s, t, c⟩ => ⟨F, h, σd, _, l, s, t, fun F1 H1 h1 x u g1 rx t1 => by
  cases rx <;> first | exact t1.elim | skip
  rename_i i
  exact ⟨i, rfl, c F1 H1 h1 (some i) g1 t1⟩⟩
def cut {α : Type} (xs : List α) (lo hi : Option Int) : List α := (xs.drop (HT.sIx xs.length 0 lo)).take (HT.sIx xs.length xs.length hi - HT.sIx xs.length 0 lo)
theorem cut_rd {K : PySem.W.Frag} {F : Hp} {ds : List D} {xs : List V} (r : RDs K F ds xs) (lo hi : Option Int) : RDs K F (cut ds lo hi) (cutV xs lo hi) := by
  unfold cut cutV
  rw [r.length]
  exact (r.drop _).take _
theorem cut_whole {α : Type} {xs : List α} {lo hi : Option Int} (e : HT.sIx xs.length 0 lo = 0 ∧ HT.sIx xs.length xs.length hi = xs.length) : cut xs lo hi = xs := by
  unfold cut
  rw [e.1, e.2]
  simp
def opSl (x : D) (lo hi : Option Int) (h : MH) (Q : MQ) : Prop := match x with
  | .tup xs => Q (.tup (cut xs lo hi)) h
  | x => match sqOf h x with
    | some xs => Q (.lst (cut xs lo hi)) h
    | none => False
def wSl (ta : WE) (tl th : WO) : WE := fun σ h Q => ta σ h fun x h1 => tl σ h1 fun lo h2 => th σ h2 fun hi h3 => opSl x lo hi h3 Q
theorem m_sl {lo hi : Option Expr} {tl th : WO} {p2 : Pos} (ha : ME X B a ta) (hl : MO X B lo tl) (hh : MO X B hi th) : ME X B (.Subscript a (.Slice lo hi none p2) pos) (wSl ta tl th) :=
  pe_mono (pe_slice (sl_tupA.or sl_list) ha hl hh) fun σ H Q ⟨F, h, σd, Q', l, s, t, c⟩ => ⟨F, h, σd, _, l, s, t, fun F1 H1 h1 x u g1 rx t1 => ⟨F1, h1, σd, _, l.mono g1.ss, s.go g1, t1, fun F2 H2 h2 lo g2 t2 => ⟨F2, h2, σd, _, l.mono (g1.trans g2).ss, s.go (g1.trans g2), t2, fun F3 H3 h3 hi g3 t3 => by
    have s3 := g3.sr
    have c3 := c.go ((g1.trans g2).trans g3)
    have rx3 := (rx.mono g2.ss).mono g3.ss
    unfold opSl at t3
    split at t3
    · cases rx3 with
      | tup q r =>
        rename_i xs _ ys
        refine .inl ⟨_, ys, rfl, Same.sqT s3.fr q, fun e => ?_, fun _ p hp => c3.tup s3 hp (cut_rd r lo hi) t3⟩
        rw [cut_whole (by rw [r.length]; exact e)] at t3
        exact c3.same s3 (.tup q r) t3
    · split at t3
      · rename_i hn _ ys ey
        cases rx3 with
        | tup q r => exact (hn _ rfl).elim
        | scr q => simp only [sqOf, Option.some.injEq] at ey; subst ey; exact .inr ⟨_, _, rfl, Same.sqL s3.fr q, fun p hp => c3.lst s3 hp (cut_rd (RDs.ints _) lo hi) t3⟩
        | lst q r => simp only [sqOf, Option.some.injEq] at ey; subst ey; exact .inr ⟨_, _, rfl, SqL.of (s3.fr _ _ q), fun p hp => c3.lst s3 hp (cut_rd r lo hi) t3⟩
        | ref a0 =>
          simp only [sqOf] at ey
          split at ey <;> simp only [Option.some.injEq, reduceCtorEq] at ey
          rename_i ds' em
          subst ey
          obtain ⟨_, xs, q, r⟩ := s3.cell _ _ em
          exact .inr ⟨_, xs, rfl, SqL.of q, fun p hp => c3.lst s3 hp (cut_rd r lo hi) t3⟩
        | _ => simp [sqOf] at ey
      · exact t3.elim⟩⟩⟩
/-! ### calls of built-ins -/
def CallD (K : PySem.W.Frag) (r : List V → Hp → VK → Prop) (f : List D → MH → MQ → Prop) : Prop := ∀ F H h ds vs Q' Q, SR K F H h → RDs K F ds vs → f ds h Q' → ContV K F H h Q' Q → r vs H Q
def wCB (f : List D → MH → MQ → Prop) (t : WA) : WE := fun σ h Q => t σ h fun ds h1 => f ds h1 Q
theorem lift_cb {r : List V → Hp → VK → Prop} {f : List D → MH → MQ → Prop} (hf : CallD X.K r f) : ∀ σ H Q, lift X.K B (wCB f wa) σ H Q → tCB r (liftA X.K B wa) σ H Q := fun σ H Q ⟨F, h, σd, Q', l, s, t, c⟩ =>
  ⟨F, h, σd, _, l, s, t, fun F1 H1 h1 ds vs g1 rs t1 => hf F1 H1 h1 ds vs Q' Q g1.sr rs t1 (c.go g1)⟩
theorem m_callB {x : Str} {p : Pos} {id : String} {r : List V → Hp → VK → Prop} {f : List D → MH → MQ → Prop} (hc : CallR X (.builtin id) r) (hf : CallD X.K r f) (hm : X.mg x = none) (hv : bootBuiltins x = some (.builtin id)) (ha : MA X B (e :: es) wa) (hg : Gl X x := by rfl) (hn : x ≠ "__name__" := by decide) (hdb : (x == ("__debug__" : Str)) = false := by decide)
    (he : starEach (e :: es) X.env = (false, eval e X.env) :: starEach es X.env := by rfl) (hpl : (backTo pos (starEach es X.env)).any (·.1) = false := by rfl) : ME X B (.Call (.Name x p) (e :: es) [] pos) (wCB f wa) := pe_mono (pe_callB hc hg hm hv ha hn hdb he hpl) (lift_cb hf)
theorem m_callTy {x : Str} {p : Pos} {T : String} {r : List V → Hp → VK → Prop} {f : List D → MH → MQ → Prop} (hc : CallR X (.type T) r) (hf : CallD X.K r f) (hm : X.mg x = none) (hv : bootBuiltins x = some (.type T)) (ha : MA X B (e :: es) wa) (hg : Gl X x := by rfl) (hn : x ≠ "__name__" := by decide) (hdb : (x == ("__debug__" : Str)) = false := by decide)
    (he : starEach (e :: es) X.env = (false, eval e X.env) :: starEach es X.env := by rfl) (hpl : (backTo pos (starEach es X.env)).any (·.1) = false := by rfl) : ME X B (.Call (.Name x p) (e :: es) [] pos) (wCB f wa) := pe_mono (pe_callTy hc hg hm hv ha hn hdb he hpl) (lift_cb hf)
def fLen (ds : List D) (h : MH) (Q : MQ) : Prop := match ds with
  | [.str z] => z.length ≤ sizeLine ∧ Q (.int z.length) h
  | [d] => match sqOf h d with
    | some xs => Q (.int xs.length) h
    | none => False
  | _ => False
theorem rds_one {K : PySem.W.Frag} {F : Hp} {d : D} {vs : List V} (r : RDs K F [d] vs) : ∃ v, vs = [v] ∧ RD K F d v := by
  cases r with
  | cons q r => cases r; exact ⟨_, rfl, q⟩
theorem rds_two {K : PySem.W.Frag} {F : Hp} {d e : D} {vs : List V} (r : RDs K F [d, e] vs) : ∃ v w, vs = [v, w] ∧ RD K F d v ∧ RD K F e w := by
  cases r with
  | cons q r =>
    obtain ⟨w, rfl, q2⟩ := rds_one r
    exact ⟨_, _, rfl, q, q2⟩
theorem fLen_d {K : PySem.W.Frag} : CallD K (fun xs H Q => (∃ p ys, xs = [.ref p] ∧ (SqL K H p ys ∨ SqT K H p ys) ∧ Q (.int ys.length) H) ∨ ∃ z, xs = [.str z] ∧ z.length ≤ sizeLine ∧ Q (.int z.length) H) fLen := fun F H h ds vs Q' Q s rs t c => by
  unfold fLen at t
  split at t
  · obtain ⟨v, rfl, r⟩ := rds_one rs
    cases r
    exact .inr ⟨_, rfl, t.1, c.same s (.int _) t.2⟩
  · obtain ⟨v, rfl, r⟩ := rds_one rs
    split at t
    · rename_i xs ex
      obtain ⟨p, ys, rfl, o, r2⟩ := sq_rd s r ex
      refine .inl ⟨p, ys, rfl, o, ?_⟩
      rw [← r2.length]
      exact c.same s (.int _) t
    · exact t.elim
  · exact t.elim
theorem m_len {p : Pos} (hm : X.mg "len" = none) (ha : MA X B (e :: es) wa) (hg : Gl X "len" := by rfl) (he : starEach (e :: es) X.env = (false, eval e X.env) :: starEach es X.env := by rfl) (hpl : (backTo pos (starEach es X.env)).any (·.1) = false := by rfl) :
    ME X B (.Call (.Name "len" p) (e :: es) [] pos) (wCB fLen wa) := m_callB (call_len_seq.or call_len_str) fLen_d hm PySem.boot_len ha hg (by decide) (by decide) he hpl
def fInt (ds : List D) (h : MH) (Q : MQ) : Prop := match ds with
  | [.int i] => Q (.int i) h
  | [.bl b] => Q (.int (if b then 1 else 0)) h
  | _ => False
theorem m_intc {p : Pos} (hm : X.mg "int" = none) (ha : MA X B (e :: es) wa) (hg : Gl X "int" := by rfl) (he : starEach (e :: es) X.env = (false, eval e X.env) :: starEach es X.env := by rfl) (hpl : (backTo pos (starEach es X.env)).any (·.1) = false := by rfl) :
    ME X B (.Call (.Name "int" p) (e :: es) [] pos) (wCB fInt wa) := m_callTy call_int1 (fun F H h ds vs Q' Q s rs t c => by
      unfold fInt at t
      split at t
      · obtain ⟨v, rfl, r⟩ := rds_one rs; cases r; exact .inl ⟨_, rfl, c.same s (.int _) t⟩
      · obtain ⟨v, rfl, r⟩ := rds_one rs; cases r; exact .inr ⟨_, rfl, c.same s (.int _) t⟩
      · exact t.elim) hm (by decide +kernel) ha hg (by decide) (by decide) he hpl
def fMax2 (ds : List D) (h : MH) (Q : MQ) : Prop := match ds with
  | [.int i, .int j] => Q (.int (if j > i then j else i)) h
  | _ => False
def fMin2 (ds : List D) (h : MH) (Q : MQ) : Prop := match ds with
  | [.int i, .int j] => Q (.int (if j < i then j else i)) h
  | _ => False
theorem m_max2 {p : Pos} (hc : X.calm = true) (hm : X.mg "max" = none) (ha : MA X B (e :: es) wa) (hg : Gl X "max" := by rfl) (he : starEach (e :: es) X.env = (false, eval e X.env) :: starEach es X.env := by rfl) (hpl : (backTo pos (starEach es X.env)).any (·.1) = false := by rfl) :
    ME X B (.Call (.Name "max" p) (e :: es) [] pos) (wCB fMax2 wa) := m_callB (call_max2 hc) (fun F H h ds vs Q' Q s rs t c => by
      unfold fMax2 at t
      split at t
      · obtain ⟨v, w, rfl, r, r2⟩ := rds_two rs; cases r; cases r2; exact ⟨_, _, rfl, c.same s (.int _) t⟩
      · exact t.elim) hm (by decide +kernel) ha hg (by decide) (by decide) he hpl
theorem m_min2 {p : Pos} (hc : X.calm = true) (hm : X.mg "min" = none) (ha : MA X B (e :: es) wa) (hg : Gl X "min" := by rfl) (he : starEach (e :: es) X.env = (false, eval e X.env) :: starEach es X.env := by rfl) (hpl : (backTo pos (starEach es X.env)).any (·.1) = false := by rfl) :
    ME X B (.Call (.Name "min" p) (e :: es) [] pos) (wCB fMin2 wa) := m_callB (call_min2 hc) (fun F H h ds vs Q' Q s rs t c => by
      unfold fMin2 at t
      split at t
      · obtain ⟨v, w, rfl, r, r2⟩ := rds_two rs; cases r; cases r2; exact ⟨_, _, rfl, c.same s (.int _) t⟩
      · exact t.elim) hm (by decide +kernel) ha hg (by decide) (by decide) he hpl
def fTup (ds : List D) (h : MH) (Q : MQ) : Prop := match ds with
  | [d] => match sqOf h d with
    | some xs => Q (.tup xs) h
    | none => False
  | _ => False
theorem m_tuple {p : Pos} (hm : X.mg "tuple" = none) (ha : MA X B (e :: es) wa) (hg : Gl X "tuple" := by rfl) (he : starEach (e :: es) X.env = (false, eval e X.env) :: starEach es X.env := by rfl) (hpl : (backTo pos (starEach es X.env)).any (·.1) = false := by rfl) :
    ME X B (.Call (.Name "tuple" p) (e :: es) [] pos) (wCB fTup wa) := m_callTy call_tuple_of (fun F H h ds vs Q' Q s rs t c => by
      unfold fTup at t
      split at t
      · obtain ⟨v, rfl, r⟩ := rds_one rs
        split at t
        · rename_i xs ex
          obtain ⟨p, ys, rfl, o, r2⟩ := sq_rd s r ex
          cases r with
          | tup q r => simp only [sqOf, Option.some.injEq] at ex; subst ex; exact ⟨_, _, rfl, .inr ⟨Same.sqT s.fr q, c.same s (.tup q r) t⟩⟩
          | scr q => simp only [sqOf, Option.some.injEq] at ex; subst ex; exact ⟨_, _, rfl, .inl ⟨Same.sqL s.fr q, fun p hp => c.tup s hp (RDs.ints _) t⟩⟩
          | lst q r => simp only [sqOf, Option.some.injEq] at ex; subst ex; exact ⟨_, _, rfl, .inl ⟨SqL.of (s.fr _ _ q), fun p hp => c.tup s hp r t⟩⟩
          | ref a0 =>
            simp only [sqOf] at ex
            split at ex <;> simp only [Option.some.injEq, reduceCtorEq] at ex
            rename_i ds' em
            subst ex
            obtain ⟨_, zs, q, r⟩ := s.cell _ _ em
            exact ⟨_, _, rfl, .inl ⟨SqL.of q, fun p hp => c.tup s hp r t⟩⟩
          | _ => simp [sqOf] at ex
        · exact t.elim
      · exact t.elim) hm (by decide +kernel) ha hg (by decide) (by decide) he hpl
def fList (ds : List D) (h : MH) (Q : MQ) : Prop := match ds with
  | [d] => match sqOf h d with
    | some xs => Q (.lst xs) h
    | none => False
  | _ => False
def fListM (ds : List D) (h : MH) (Q : MQ) : Prop := match ds with
  | [d] => match sqOf h d with
    | some xs => ∀ p, h p = none → Q (.ref p) (mupd h p (.lst xs))
    | none => False
  | _ => False
theorem m_list {p : Pos} (hm : X.mg "list" = none) (ha : MA X B (e :: es) wa) (hg : Gl X "list" := by rfl) (he : starEach (e :: es) X.env = (false, eval e X.env) :: starEach es X.env := by rfl) (hpl : (backTo pos (starEach es X.env)).any (·.1) = false := by rfl) :
    ME X B (.Call (.Name "list" p) (e :: es) [] pos) (wCB fList wa) := m_callTy call_list_of (fun F H h ds vs Q' Q s rs t c => by
      unfold fList at t
      split at t
      · obtain ⟨v, rfl, r⟩ := rds_one rs
        split at t
        · rename_i xs ex
          obtain ⟨p, ys, rfl, o, r2⟩ := sq_rd s r ex
          exact ⟨p, ys, rfl, o, fun p hp => c.lst s hp r2 t⟩
        · exact t.elim
      · exact t.elim) hm (by decide +kernel) ha hg (by decide) (by decide) he hpl
theorem m_listM {p : Pos} (hm : X.mg "list" = none) (ha : MA X B (e :: es) wa) (hg : Gl X "list" := by rfl) (he : starEach (e :: es) X.env = (false, eval e X.env) :: starEach es X.env := by rfl) (hpl : (backTo pos (starEach es X.env)).any (·.1) = false := by rfl) :
    ME X B (.Call (.Name "list" p) (e :: es) [] pos) (wCB fListM wa) := m_callTy call_list_of (fun F H h ds vs Q' Q s rs t c => by
      unfold fListM at t
      split at t
      · obtain ⟨v, rfl, r⟩ := rds_one rs
        split at t
        · rename_i xs ex
          obtain ⟨p, ys, rfl, o, r2⟩ := sq_rd s r ex
          exact ⟨p, ys, rfl, o, fun p hp => c.newM s hp r2 t⟩
        · exact t.elim
      · exact t.elim) hm (by decide +kernel) ha hg (by decide) (by decide) he hpl
/-! ### all, any, sum of lists -/
def bls : List D → Option (List Bool)
  | [] => some []
  | .bl b :: ds => (bls ds).map (b :: ·)
  | _ => none
def intsOf : List D → Option (List Int)
  | [] => some []
  | .int i :: ds => (intsOf ds).map (i :: ·)
  | _ => none
theorem bls_rd {K : PySem.W.Frag} {F : Hp} : ∀ {ds : List D} {xs : List V} {bs : List Bool}, RDs K F ds xs → bls ds = some bs → xs = bs.map V.bl
  | _, _, _, .nil, e => by simp only [bls, Option.some.injEq] at e; subst e; rfl
  | _, _, _, .cons (d := d) q r, e => by
    cases q <;> simp only [bls, Option.map_eq_some_iff, reduceCtorEq] at e
    obtain ⟨bs, e, rfl⟩ := e
    rw [bls_rd r e]; rfl
theorem ints_rd {K : PySem.W.Frag} {F : Hp} : ∀ {ds : List D} {xs : List V} {bs : List Int}, RDs K F ds xs → intsOf ds = some bs → xs = bs.map V.int
  | _, _, _, .nil, e => by simp only [intsOf, Option.some.injEq] at e; subst e; rfl
  | _, _, _, .cons (d := d) q r, e => by
    cases q <;> simp only [intsOf, Option.map_eq_some_iff, reduceCtorEq] at e
    obtain ⟨bs, e, rfl⟩ := e
    rw [ints_rd r e]; rfl
def fBools (g : List Bool → Bool) (ds : List D) (h : MH) (Q : MQ) : Prop := match ds with
  | [d] => match (lsOf h d).bind bls with
    | some bs => Q (.bl (g bs)) h
    | none => False
  | _ => False
def fSum (ds : List D) (h : MH) (Q : MQ) : Prop := match ds with
  | [d] => match (lsOf h d).bind intsOf with
    | some bs => Q (.int bs.sum) h
    | none => False
  | _ => False
theorem fBools_d {K : PySem.W.Frag} {g : List Bool → Bool} : CallD K (fun vs H Q => ∃ (a : Addr) (bs : List Bool), vs = [V.ref a] ∧ SqL K H a (bs.map V.bl) ∧ Q (.bl (g bs)) H) (fBools g) := fun F H h ds vs Q' Q s rs t c => by
  unfold fBools at t
  split at t
  · obtain ⟨v, rfl, r⟩ := rds_one rs
    split at t
    · rename_i bs eb
      simp only [Option.bind_eq_some_iff] at eb
      obtain ⟨xs, ex, eb⟩ := eb
      obtain ⟨p, ys, rfl, q, r2⟩ := ls_rd s r ex
      have := bls_rd r2 eb
      subst this
      exact ⟨p, bs, rfl, SqL.of q, c.same s (.bl _) t⟩
    · exact t.elim
  · exact t.elim
theorem m_all {p : Pos} (hc : X.calm = true) (hm : X.mg "all" = none) (ha : MA X B (e :: es) wa) (hg : Gl X "all" := by rfl) (he : starEach (e :: es) X.env = (false, eval e X.env) :: starEach es X.env := by rfl) (hpl : (backTo pos (starEach es X.env)).any (·.1) = false := by rfl) :
    ME X B (.Call (.Name "all" p) (e :: es) [] pos) (wCB (fBools fun bs => bs.all id) wa) := m_callB (cr_all hc) fBools_d hm (by decide +kernel) ha hg (by decide) (by decide) he hpl
theorem m_any {p : Pos} (hc : X.calm = true) (hm : X.mg "any" = none) (ha : MA X B (e :: es) wa) (hg : Gl X "any" := by rfl) (he : starEach (e :: es) X.env = (false, eval e X.env) :: starEach es X.env := by rfl) (hpl : (backTo pos (starEach es X.env)).any (·.1) = false := by rfl) :
    ME X B (.Call (.Name "any" p) (e :: es) [] pos) (wCB (fBools fun bs => bs.any id) wa) := m_callB (cr_any hc) fBools_d hm (by decide +kernel) ha hg (by decide) (by decide) he hpl
theorem m_sum {p : Pos} (hc : X.calm = true) (hm : X.mg "sum" = none) (ha : MA X B (e :: es) wa) (hg : Gl X "sum" := by rfl) (he : starEach (e :: es) X.env = (false, eval e X.env) :: starEach es X.env := by rfl) (hpl : (backTo pos (starEach es X.env)).any (·.1) = false := by rfl) :
    ME X B (.Call (.Name "sum" p) (e :: es) [] pos) (wCB fSum wa) := m_callB (cr_sum hc) (fun F H h ds vs Q' Q s rs t c => by
      unfold fSum at t
      split at t
      · obtain ⟨v, rfl, r⟩ := rds_one rs
        split at t
        · rename_i bs eb
          simp only [Option.bind_eq_some_iff] at eb
          obtain ⟨xs, ex, eb⟩ := eb
          obtain ⟨p, ys, rfl, q, r2⟩ := ls_rd s r ex
          have := ints_rd r2 eb
          subst this
          exact ⟨p, bs, rfl, SqL.of q, c.same s (.int _) t⟩
        · exact t.elim
      · exact t.elim) hm (by decide +kernel) ha hg (by decide) (by decide) he hpl
end
end BP

set_option maxRecDepth 100000
set_option maxHeartbeats 4000000
/-! BpE: isinstance, methods, statements, loops, comprehensions over plain data. -/
namespace BP
open PySem PySem.Spec PyProof.Rows L2
/-! ### isinstance -/
def clsD (h : MH) : D → Option String
  | .non => some "NoneType"
  | .bl _ => some "bool"
  | .int _ => some "int"
  | .str _ => some "str"
  | .tup _ => some "tuple"
  | .lst _ => some "list"
  | .scr _ => some "list"
  | .dct _ => some "dict"
  | .ref a => match h a with
    | some (.lst _) => some "list"
    | some (.dct _) => some "dict"
    | _ => none
  | _ => none
def subT (a b : String) : Bool := a == b || (a == "bool" && b == "int")
theorem ty_rd {K : PySem.W.Frag} {F H : Hp} {h : MH} (s : SR K F H h) {d : D} {v : V} {n : String} (r : RD K F d v) (e : clsD h d = some n) : TyX K H v (.type n) ∧ n ∈ ["NoneType", "bool", "int", "str", "tuple", "list", "dict"] := by
  cases r with
  | non => simp only [clsD, Option.some.injEq] at e; subst e; exact ⟨.base .non, by decide⟩
  | bl b => simp only [clsD, Option.some.injEq] at e; subst e; exact ⟨.base (.bl b), by decide⟩
  | int i => simp only [clsD, Option.some.injEq] at e; subst e; exact ⟨.base (.int i), by decide⟩
  | str x => simp only [clsD, Option.some.injEq] at e; subst e; exact ⟨.base (.str x), by decide⟩
  | tup q r =>
    simp only [clsD, Option.some.injEq] at e; subst e
    refine ⟨?_, by decide⟩
    rcases Same.sqT s.fr q with (q | ⟨o, q⟩) | ⟨o, its, n, hk, hc, _⟩
    · exact .base (.tup q)
    · exact .fTuple q
    · exact .kTuple hk hc
  | lst q r => simp only [clsD, Option.some.injEq] at e; subst e; exact ⟨.base (.lst (s.fr _ _ q)), by decide⟩
  | scr q =>
    simp only [clsD, Option.some.injEq] at e; subst e
    refine ⟨?_, by decide⟩
    rcases Same.sqL s.fr q with (q | ⟨o, q⟩) | ⟨o, its, n, hk, hc, _⟩
    · exact .base (.lst q)
    · exact .base (.frz q)
    · exact .kList hk hc
  | dct q r => simp only [clsD, Option.some.injEq] at e; subst e; exact ⟨.base (.dK (s.fr _ _ q)), by decide⟩
  | ref a =>
    simp only [clsD] at e
    split at e <;> simp only [Option.some.injEq, reduceCtorEq] at e
    · rename_i em; subst e; obtain ⟨_, xs, q, r⟩ := s.cell _ _ em; exact ⟨.base (.lst q), by decide⟩
    · rename_i em; subst e; obtain ⟨_, xs, q, r⟩ := s.cell _ _ em; exact ⟨.base (.dK q), by decide⟩
  | _ => simp [clsD] at e
def okT (n : String) : Bool := ["bool", "int", "str", "tuple", "list", "dict"].contains n
theorem kit_sub {K : PySem.W.Frag} {a b : String} (ha : a ∈ ["NoneType", "bool", "int", "str", "tuple", "list", "dict"]) (hb : okT b = true) : PySem.W.kitOne K (.type a) (.type b) = some (subT a b) := by
  have hb' : b ∈ ["bool", "int", "str", "tuple", "list", "dict"] := by unfold okT at hb; simpa using hb
  refine kit_ty ?_
  have all : ∀ a ∈ ["NoneType", "bool", "int", "str", "tuple", "list", "dict"], ∀ b ∈ ["bool", "int", "str", "tuple", "list", "dict"], kitB a b = some (subT a b) := by decide +kernel
  exact all a ha b hb'
theorem kit_any {K : PySem.W.Frag} {a : String} (ha : a ∈ ["NoneType", "bool", "int", "str", "tuple", "list", "dict"]) : ∀ {ns : List String}, ns.all okT = true → PySem.W.kitAny K (.type a) (ns.map Value.type) = some (ns.any (subT a))
  | [], _ => kitAny_nil
  | n :: ns, h => by
    simp only [List.all_cons, Bool.and_eq_true] at h
    refine kitAny_cons (kit_sub ha h.1) (fun e => ?_) (fun e => ?_)
    · rw [List.any_cons, e, Bool.false_or]; exact kit_any ha h.2
    · rw [List.any_cons, e, Bool.true_or]
def fIsi (ns : List String) (d : D) (h : MH) (Q : MQ) : Prop := match clsD h d with
  | some a => Q (.bl (ns.any (subT a))) h
  | none => False
theorem clsV_tys : ∀ ns : List String, Paired ClsV (ns.map V.ty) (ns.map Value.type)
  | [] => .nil
  | n :: ns => .cons (.ty n) (clsV_tys ns)
section
variable {X : Cx} {B : Bs} {a b c e o : Expr} {ta tb tc to : WE} {pos p p2 : Pos} {es : List Expr} {wa : WA} {ua : WT}
theorem m_isi {n : String} (hm : X.mg "isinstance" = none) (hn : okT n = true) (ha : ME X B a ta) (hb : PE X b (tC (.ty n))) (hg : Gl X "isinstance" := by rfl) (hs : starEach [a, b] X.env = (false, eval a X.env) :: starEach [b] X.env := by rfl) (hs2 : starEach [b] X.env = (false, eval b X.env) :: starEach [] X.env := by rfl)
    (hpl : (backTo pos (starEach [b] X.env)).any (·.1) = false := by rfl) : ME X B (.Call (.Name "isinstance" p) [a, b] [] pos) (wUn (fIsi [n]) ta) :=
  pe_mono (pe_callB call_isi hg hm (by decide +kernel) (pa_cons ha (pa_cons hb pa_nil hs2) hs) (by decide) (by decide) hs hpl) fun σ H Q ⟨F, h, σd, Q', l, s, t, c⟩ => ⟨F, h, σd, _, l, s, t, fun F1 H1 h1 x u g1 rx t1 => by
    unfold fIsi at t1
    split at t1
    · rename_i m em
      obtain ⟨ty, hm⟩ := ty_rd g1.sr rx em
      refine ⟨u, .ty n, .type m, .type n, subT m n, rfl, .ty n, ty, kit_sub hm hn, ?_⟩
      simp only [List.any_cons, List.any_nil, Bool.or_false] at t1
      exact c F1 H1 h1 _ _ g1 (.bl _) t1
    · exact t1.elim⟩
theorem m_isiT {ns : List String} {cs : List Expr} {k : Nat} (hm : X.mg "isinstance" = none) (hn : ns.all okT = true) (hz : ns.length ≤ 100) (ha : ME X B a ta) (hb : PA X cs (fun _ H Q => Q (ns.map V.ty) H)) (hg : Gl X "isinstance" := by rfl) (hs : starEach [a, .Tuple cs k p2] X.env = (false, eval a X.env) :: starEach [.Tuple cs k p2] X.env := by rfl)
    (hs2 : starEach [.Tuple cs k p2] X.env = (false, eval (.Tuple cs k p2) X.env) :: starEach [] X.env := by rfl) (hpl : (backTo pos (starEach [.Tuple cs k p2] X.env)).any (·.1) = false := by rfl) : ME X B (.Call (.Name "isinstance" p) [a, .Tuple cs k p2] [] pos) (wUn (fIsi ns) ta) :=
  pe_mono (pe_callB call_isiT hg hm (by decide +kernel) (pa_cons ha (pa_cons (pe_tup hb) pa_nil hs2) hs) (by decide) (by decide) hs hpl) fun σ H Q ⟨F, h, σd, Q', l, s, t, c⟩ => ⟨F, h, σd, _, l, s, t, fun F1 H1 h1 x u g1 rx t1 => by
    unfold fIsi at t1
    split at t1
    · rename_i m em
      obtain ⟨ty, hm⟩ := ty_rd g1.sr rx em
      refine ⟨by rw [List.length_map]; exact Nat.le_trans hz (by decide), fun q hq => ?_⟩
      have g2 := Go.settled (o := .tup (ns.map V.ty)) g1.sr hq
      refine ⟨u, q, ns.map V.ty, .type m, ns.map Value.type, _, rfl, upd_same, clsV_tys ns, (ty_rd g2.sr (rx.mono g2.ss) em).1, kit_any hm hn, ?_⟩
      exact c _ _ h1 _ _ (g1.trans g2) (.bl _) t1
    · exact t1.elim⟩
theorem pa_tys_nil : PA X [] (fun _ H Q => Q (([] : List String).map V.ty) H) := pa_mono pa_nil fun _ _ _ q => q
theorem pa_tys {x : Str} {n : String} {ns : List String} {cs : List Expr} {pos : Pos} (hm : X.mg x = none) (hv : bootBuiltins x = some (.type n)) (hr : PA X cs (fun _ H Q => Q (ns.map V.ty) H)) (hg : Gl X x := by rfl) (hn : x ≠ "__name__" := by decide) (hd : (x == ("__debug__" : Str)) = false := by decide)
    (hs : starEach (.Name x pos :: cs) X.env = (false, eval (.Name x pos) X.env) :: starEach cs X.env := by rfl) : PA X (.Name x pos :: cs) (fun _ H Q => Q ((n :: ns).map V.ty) H) := pa_mono (pa_cons (pe_bltn (v := .ty n) hg hm hv rfl hn hd) hr hs) fun _ _ _ q => q
/-! ### methods of lists -/
def isL (h : MH) (d : D) : Prop := ∃ xs, lsOf h d = some xs
def MtD (K : PySem.W.Frag) (r : V → List V → Hp → VK → Prop) (f : D → List D → MH → MQ → Prop) : Prop := ∀ F H h x u ds vs Q' Q, SR K F H h → RD K F x u → RDs K F ds vs → f x ds h Q' → ContV K F H h Q' Q → r u vs H Q
def wMt (f : D → List D → MH → MQ → Prop) (to : WE) (t : WA) : WE := fun σ h Q => to σ h fun x h1 => (lsOf h1 x).isSome = true ∧ t σ h1 fun ds h2 => f x ds h2 Q
theorem lift_mt {r : V → List V → Hp → VK → Prop} {f : D → List D → MH → MQ → Prop} (hf : MtD X.K r f) : ∀ σ H Q, lift X.K B (wMt f to wa) σ H Q → tBM X.K "list" r (lift X.K B to) (liftA X.K B wa) σ H Q := fun σ H Q ⟨F, h, σd, Q', l, s, t, c⟩ =>
  ⟨F, h, σd, _, l, s, t, fun F1 H1 h1 x u g1 rx ⟨t0, t1⟩ => by
    obtain ⟨xs, ex⟩ := Option.isSome_iff_exists.mp t0
    obtain ⟨p, ys, rfl, q, r⟩ := ls_rd g1.sr rx ex
    exact ⟨.inl ⟨rfl, ys, SqL.of q⟩, F1, h1, σd, _, l.mono g1.ss, s.go g1, t1, fun F2 H2 h2 ds vs g2 rs t2 => hf F2 H2 h2 x _ ds vs Q' Q g2.sr (rx.mono g2.ss) rs t2 (c.go (g1.trans g2))⟩⟩
def fAppend (x : D) (ds : List D) (h : MH) (Q : MQ) : Prop := match x, ds with
  | .ref a, [d] => match h a with
    | some (.lst xs) => xs.length < sizeLine ∧ Q .non (mupd h a (.lst (xs ++ [d])))
    | _ => False
  | _, _ => False
theorem fAppend_d {K : PySem.W.Frag} : MtD K rAppend fAppend := fun F H h x u ds vs Q' Q s rx rs t c => by
  unfold fAppend at t
  split at t
  · rename_i a d
    cases rx
    obtain ⟨v, rfl, r⟩ := rds_one rs
    split at t
    · rename_i xs em
      obtain ⟨_, ys, q, r2⟩ := s.cell _ _ em
      exact ⟨a, ys, v, rfl, rfl, q, by rw [← r2.length]; exact t.1, c _ _ _ _ _ (Go.write (c := .lst (xs ++ [d])) s em ⟨_, upd_same, r2.append (.cons r .nil)⟩) .non t.2⟩
    · exact t.elim
  · exact t.elim
def fExtend (x : D) (ds : List D) (h : MH) (Q : MQ) : Prop := match x, ds with
  | .ref a, [d] => match h a, lsOf h d with
    | some (.lst xs), some zs => xs.length + zs.length ≤ sizeLine ∧ Q .non (mupd h a (.lst (xs ++ zs)))
    | _, _ => False
  | _, _ => False
theorem fExtend_d {K : PySem.W.Frag} : MtD K rExtend fExtend := fun F H h x u ds vs Q' Q s rx rs t c => by
  unfold fExtend at t
  split at t
  · rename_i a d
    cases rx
    obtain ⟨v, rfl, r⟩ := rds_one rs
    split at t
    · rename_i xs zs em ez
      obtain ⟨_, ys, q, r2⟩ := s.cell _ _ em
      obtain ⟨b, ws, rfl, q3, r3⟩ := ls_rd s r ez
      exact ⟨a, b, ys, ws, rfl, rfl, q, q3, by rw [← r2.length, ← r3.length]; exact t.1, c _ _ _ _ _ (Go.write (c := .lst (xs ++ zs)) s em ⟨_, upd_same, r2.append r3⟩) .non t.2⟩
    · exact t.elim
  · exact t.elim
theorem m_mt {name : Str} {id : String} {apos : Pos} {r : V → List V → Hp → VK → Prop} {f : D → List D → MH → MQ → Prop} (slot : Slot "list" name id) (hty : typeOf (.builtin id) = pure (.type "method_descriptor")) (hm : MtR X id r) (hf : MtD X.K r f) (ho : ME X B o to) (ha : MA X B (e :: es) wa)
    (hbase : attributeBase o name X.env (eval o X.env) = eval o X.env := by rfl)
    (hfew : ((backTo pos (starEach (e :: es) X.env)).all (fun x => !x.1) && (backToKw pos (keywordEach [] X.env)).all (fun x => x.1.isSome)
      && decide ((e :: es).length + ([] : List Keyword).length + (if ([] : List Keyword).isEmpty then 0 else 1) < 30)) = true := by rfl)
    (hline : (apos.endLine == pos.line) = true := by rfl) (hs : starEach (e :: es) X.env = (false, eval e X.env) :: starEach es X.env := by rfl) (hplain : (backTo pos (starEach es X.env)).any (·.1) = false := by rfl) :
    ME X B (.Call (.Attribute o name apos) (e :: es) [] pos) (wMt f to wa) := pe_mono (pe_bm PySem.F.plainAttrs_list slot hty hm ho ha hbase hfew hline hs hplain) (lift_mt hf)
/-! ### targets -/
abbrev WG := D → MSt → MH → (MSt → MH → Prop) → Prop
abbrev WGs := List D → MSt → MH → (MSt → MH → Prop) → Prop
def liftG (K : PySem.W.Frag) (B : Bs) (g : WG) : TG := fun v σ H Q => ∃ F h σd d Q', LR K F σd σ ∧ Bd K B F H h ∧ RD K F d v ∧ g d σd h Q' ∧ ContS K F H h Q' Q
def liftGs (K : PySem.W.Frag) (B : Bs) (g : WGs) : TGs := fun vs σ H Q => ∃ F h σd ds Q', LR K F σd σ ∧ Bd K B F H h ∧ RDs K F ds vs ∧ g ds σd h Q' ∧ ContS K F H h Q' Q
abbrev MG (X : Cx) (B : Bs) (tg : Expr) (g : WG) : Prop := PG X tg (liftG X.K B g)
abbrev MGs (X : Cx) (B : Bs) (tgs : List Expr) (g : WGs) : Prop := PGs X tgs (liftGs X.K B g)
theorem pg_mono {tg : Expr} {t t' : TG} (h : PG X tg t) (m : ∀ v σ H Q, t' v σ H Q → t v σ H Q) : PG X tg t' := ⟨fun pins s σ H v u Q I r q => h.run pins s σ H v u Q I r (m v σ H Q q)⟩
theorem pgs_mono {tg : List Expr} {t t' : TGs} (h : PGs X tg t) (m : ∀ v σ H Q, t' v σ H Q → t v σ H Q) : PGs X tg t' := ⟨fun pins s σ H v u Q I r q => h.run pins s σ H v u Q I r (m v σ H Q q)⟩
def gN (i : Nat) : WG := fun d σ h Q => Q (σ.set i (some d)) h
theorem mg_name (i : Nat) {x : Str} (hN : X.N.Nodup) (hi : X.N[i]? = some x := by rfl) (hx : Loc X.env.scope x := by first | exact Or.inl rfl | exact Or.inr rfl) (hf : X.fn x = true ∨ X.env.scope.names.lookup x = some .local := by first | exact .inl rfl | exact .inr rfl | assumption) : MG X B (.Name x pos) (gN i) :=
  pg_mono (pg_name hN hi hx hf) fun v σ H Q ⟨F, h, σd, d, Q', l, s, r, t, c⟩ => c F H h _ _ (Go.refl s) (l.set r i) t
def gZ : WGs := fun ds σ h Q => match ds with
  | [] => Q σ h
  | _ => False
def gC (g : WG) (gs : WGs) : WGs := fun ds σ h Q => match ds with
  | d :: r => g d σ h fun σ1 h1 => gs r σ1 h1 Q
  | [] => False
theorem mgs_nil : MGs X B [] gZ := pgs_mono pgs_nil fun v σ H Q ⟨F, h, σd, d, Q', l, s, r, t, c⟩ => by
  cases r with
  | nil => exact ⟨rfl, c F H h _ _ (Go.refl s) l t⟩
  | cons _ _ => exact t.elim
theorem mgs_cons {g : WG} {gs : WGs} (h1 : MG X B e g) (h2 : MGs X B es gs) (hs : (assignEach (e :: es) X.env).map (·.2) = assign e X.env :: (assignEach es X.env).map (·.2) := by rfl) : MGs X B (e :: es) (gC g gs) :=
  pgs_mono (pgs_cons h1 h2 hs) fun v σ H Q ⟨F, h, σd, d, Q', l, s, r, t, c⟩ => by
    cases r with
    | nil => exact t.elim
    | cons q r =>
      exact ⟨_, _, rfl, F, h, σd, _, _, l, s, q, t, fun F1 H1 h1 σ1 τ1 g1 l1 t1 => ⟨F1, h1, σ1, _, Q', l1, s.go g1, r.mono g1.ss, t1, c.go g1⟩⟩
def gT (n : Nat) (gs : WGs) : WG := fun d σ h Q => match d with
  | .tup ds => ds.length = n ∧ gs ds σ h Q
  | _ => False
theorem mg_tup {k n : Nat} {gs : WGs} (hc : X.calm = true) (h : MGs X B es gs) (hn : (assignEach es X.env).length = n := by rfl) (hst : (assignEach es X.env).findIdx? (·.1) = none := by rfl) : MG X B (.Tuple es k pos) (gT n gs) :=
  pg_mono (pg_tup hc h hn hst) fun v σ H Q ⟨F, h, σd, d, Q', l, s, r, t, c⟩ => by
    cases r with
    | tup q r => exact ⟨_, _, rfl, Same.sqT s.fr q, by rw [← r.length]; exact t.1, F, h, σd, _, Q', l, s, r, t.2, c⟩
    | _ => exact t.elim
/-- xs[i] = v -/
def gSt (to ti : WE) : WG := fun d σ h Q => to σ h fun o h1 => ti σ h1 fun i h2 => match o, i with
  | .ref a, .int k => match h2 a with
    | some (.lst xs) => match ixN xs.length k with
      | some j => Q σ (mupd h2 a (.lst (xs.set j d)))
      | none => False
    | _ => False
  | _, _ => False
theorem mg_sub {i : Expr} {ti : WE} (ho : ME X B o to) (hi : ME X B i ti)
    (ha : ∀ v, assign (.Subscript o i pos) X.env v = (do
      let ov ← holding [v] (eval o X.env)
      let iv ← holding [v, ov] (eval i X.env)
      standAt pos
      holding [v, ov, iv] (setItem ov iv v)
      release [v, ov, iv] []) := by intro _; rfl) : MG X B (.Subscript o i pos) (gSt to ti) :=
  pg_mono (pg_sub ho hi set_list ha) fun v σ H Q ⟨F, h, σd, d, Q', l, s, r, t, c⟩ => ⟨F, h, σd, _, l, s, t, fun F1 H1 h1 x u g1 rx t1 => ⟨F1, h1, σd, _, l.mono g1.ss, s.go g1, t1, fun F2 H2 h2 y w g2 ry t2 => by
    split at t2
    · cases rx; cases ry
      split at t2
      · rename_i a k _ xs em
        split at t2
        · rename_i j ej
          obtain ⟨_, ys, q, r2⟩ := g2.sr.cell _ _ em
          refine ⟨a, ys, k, j, rfl, rfl, q, by rw [← r2.length]; exact ej, ?_⟩
          have rd : RD X.K F2 d v := (r.mono g1.ss).mono g2.ss
          exact c _ _ _ _ _ ((g1.trans g2).trans (Go.write (c := .lst (xs.set j d)) g2.sr em ⟨_, upd_same, r2.set rd j⟩)) (l.mono (g1.trans g2).ss) t2
        · exact t2.elim
      · exact t2.elim
    · exact t2.elim⟩⟩
/-! ### statements -/
variable {st : Stmt} {sts : List Stmt} {t u : WS}
def wNext : WS := fun D σ h => D.nx σ h
def wSeq (t u : WS) : WS := fun D σ h => t { D with nx := u D } σ h
theorem ms_nil : MSs X B [] wNext := pss_mono pss_nil fun E σ H ⟨F, h, σd, D', l, s, t, c⟩ => c.nx F H h _ _ (Go.refl s) l t
theorem ms_cons (h1 : MS X B st t) (h2 : MSs X B sts u) : MSs X B (st :: sts) (wSeq t u) :=
  pss_mono (pss_cons h1 h2) fun E σ H ⟨F, h, σd, D', l, s, t, c⟩ => ⟨F, h, σd, _, l, s, t, ⟨fun F1 H1 h1 σ1 τ1 g1 l1 t1 => ⟨F1, h1, σ1, D', l1, s.go g1, t1, c.go g1⟩, c.rt, c.bk, c.ct⟩⟩
theorem ms_one (h1 : MS X B st t) : MSs X B [st] t := pss_one h1
theorem ms_pass : MS X B (.Pass pos) wNext := ps_mono ps_pass fun E σ H ⟨F, h, σd, D', l, s, t, c⟩ => c.nx F H h _ _ (Go.refl s) l t
def wBreak : WS := fun D σ h => D.bk σ h
def wCont : WS := fun D σ h => D.ct σ h
theorem ms_break : MS X B (.Break pos) wBreak := ps_mono ps_break fun E σ H ⟨F, h, σd, D', l, s, t, c⟩ => c.bk F H h _ _ (Go.refl s) l t
theorem ms_continue : MS X B (.Continue pos) wCont := ps_mono ps_continue fun E σ H ⟨F, h, σd, D', l, s, t, c⟩ => c.ct F H h _ _ (Go.refl s) l t
def wDrop (t : WE) : WS := fun D σ h => t σ h fun _ h1 => D.nx σ h1
theorem ms_expr (he : ME X B e ta) (hs : swapsWith e none pos.line X.env = pure false := by rfl) : MS X B (.Expr e pos) (wDrop ta) :=
  ps_mono (ps_expr he hs) fun E σ H ⟨F, h, σd, D', l, s, t, c⟩ => ⟨F, h, σd, _, l, s, t, fun F1 H1 h1 x u g1 rx t1 => c.nx F1 H1 h1 _ _ g1 (l.mono g1.ss) t1⟩
def wRet (t : WE) : WS := fun D σ h => t σ h D.rt
theorem ms_ret (he : ME X B e ta) : MS X B (.Return (some e) pos) (wRet ta) :=
  ps_mono (ps_ret he) fun E σ H ⟨F, h, σd, D', l, s, t, c⟩ => ⟨F, h, σd, _, l, s, t, c.rt⟩
def wRetN : WS := fun D _ h => D.rt .non h
theorem ms_retN : MS X B (.Return none pos) wRetN := ps_mono ps_retN fun E σ H ⟨F, h, σd, D', l, s, t, c⟩ => c.rt F H h _ _ (Go.refl s) .non t
def wIfS (c : WT) (t u : WS) : WS := fun D σ h => c σ h fun b h1 => if b = true then t D σ h1 else u D σ h1
theorem ms_if {c : Expr} {ss rs : List Stmt} (hc : MT X B c ua) (ha : MSs X B ss t) (hb : MSs X B rs u) : MS X B (.If c ss rs pos) (wIfS ua t u) :=
  ps_mono (ps_if hc ha hb) fun E σ H ⟨F, h, σd, D', l, s, t, c⟩ => ⟨F, h, σd, _, l, s, t, fun F1 H1 h1 k g1 t1 => by
    cases k with
    | true => rw [if_pos rfl] at t1 ⊢; exact ⟨F1, h1, σd, D', l.mono g1.ss, s.go g1, t1, c.go g1⟩
    | false => rw [if_neg Bool.false_ne_true] at t1 ⊢; exact ⟨F1, h1, σd, D', l.mono g1.ss, s.go g1, t1, c.go g1⟩⟩
def wSet (i : Nat) (t : WE) : WS := fun D σ h => t σ h fun d h1 => D.nx (σ.set i (some d)) h1
theorem lift_set {i : Nat} : ∀ E σ H, liftS X.K B (wSet i ta) E σ H → tAsg (lift X.K B ta) (gName i) E σ H := fun E σ H ⟨F, h, σd, D', l, s, t, c⟩ =>
  ⟨F, h, σd, _, l, s, t, fun F1 H1 h1 x u g1 rx t1 => c.nx F1 H1 h1 _ _ g1 ((l.mono g1.ss).set rx i) t1⟩
theorem ms_set (i : Nat) {x : Str} {pos' : Pos} (hN : X.N.Nodup) (he : ME X B e ta) (hi : X.N[i]? = some x := by rfl) (hx : Loc X.env.scope x := by first | exact Or.inl rfl | exact Or.inr rfl) (hs : swapsWith e (some (.Name x pos')) pos.line X.env = pure false := by rfl)
    (hf : X.fn x = true ∨ X.env.scope.names.lookup x = some .local := by first | exact .inl rfl | exact .inr rfl | assumption) : MS X B (.Assign [.Name x pos'] e pos) (wSet i ta) := ps_mono (ps_set hN hi hx he hs hf) lift_set
def wAsg (t : WE) (g : WG) : WS := fun D σ h => t σ h fun d h1 => g d σ h1 D.nx
theorem ms_asg {tg : Expr} {g : WG} (he : ME X B e ta) (hg : MG X B tg g) (hs : swapsWithSole [tg] e pos.line X.env = pure false := by rfl) (hw : swappedStores [tg] e X.env = pure none := by rfl)
    (h1 : (assignEach [tg] X.env).map (·.2) = [assign tg X.env] := by rfl) : MS X B (.Assign [tg] e pos) (wAsg ta g) :=
  ps_mono (ps_asg he hg hs hw h1) fun E σ H ⟨F, h, σd, D', l, s, t, c⟩ => ⟨F, h, σd, _, l, s, t, fun F1 H1 h1 x u g1 rx t1 => ⟨F1, h1, σd, x, _, l.mono g1.ss, s.go g1, rx, t1, fun F2 H2 h2 σ2 τ2 g2 l2 t2 => c.nx F2 H2 h2 _ _ (g1.trans g2) l2 t2⟩⟩
/-- a, b = x, y: two plain names -/
def wPar (i j : Nat) (t : WA) : WS := fun D σ h => t σ h fun ds h1 => match ds with
  | [d, e] => D.nx ((σ.set i (some d)).set j (some e)) h1
  | _ => False
theorem ms_par (i j : Nat) {x y : Str} {a b : Expr} {px py pt : Pos} {kt k2 pt2} (hc : X.calm = true) (hN : X.N.Nodup) (ha : MA X B [a, b] wa) (hi : X.N[i]? = some x := by rfl) (hj : X.N[j]? = some y := by rfl) (hij : i ≠ j := by decide)
    (hx : X.env.scope.names.lookup x = some .local := by rfl) (hy : X.env.scope.names.lookup y = some .local := by rfl)
    (hw : swappedStores [.Tuple [.Name x px, .Name y py] kt pt] (.Tuple [a, b] k2 pt2) X.env = pure (some [x, y]) := by rfl)
    (hs : swapsWithSole [.Tuple [.Name x px, .Name y py] kt pt] (.Tuple [a, b] k2 pt2) pos.line X.env = pure false := by rfl) :
    MS X B (.Assign [.Tuple [.Name x px, .Name y py] kt pt] (.Tuple [a, b] k2 pt2) pos) (wPar i j wa) :=
  ps_mono (ps_par hc hN hi hj hij hx hy ha hw hs) fun E σ H ⟨F, h, σd, D', l, s, t, c⟩ => ⟨F, h, σd, _, l, s, t, fun F1 H1 h1 ds vs g1 rs t1 => by
    split at t1
    · obtain ⟨v, w, rfl, r1, r2⟩ := rds_two rs
      exact ⟨v, w, rfl, c.nx F1 H1 h1 _ _ g1 (((l.mono g1.ss).set r1 i).set r2 j) t1⟩
    · exact t1.elim⟩
/-- x op= e, ints -/
def wAug (i : Nat) (t : WE) (g : Int → Int → Int) : WS := fun D σ h => match σ[i]? with
  | some (some (.int x)) => t σ h fun d h1 => match d with
    | .int y => D.nx (σ.set i (some (.int (g x y)))) h1
    | _ => False
  | _ => False
theorem ms_aug (i : Nat) {x : Str} {op : Operator} {g : Int → Int → Int} {pos' : Pos} (hN : X.N.Nodup) (he : ME X B e ta) (ho : PIp X op (ipI g)) (hi : X.N[i]? = some x := by rfl) (hx : Loc X.env.scope x := by first | exact Or.inl rfl | exact Or.inr rfl)
    (hf : X.fn x = true ∨ X.env.scope.names.lookup x = some .local := by first | exact .inl rfl | exact .inr rfl | assumption) : MS X B (.AugAssign (.Name x pos') op e pos) (wAug i ta g) :=
  ps_mono (ps_aug hN hi hx he ho hf) fun E σ H ⟨F, h, σd, D', l, s, t, c⟩ => by
    unfold wAug at t
    split at t
    · rename_i k ek
      obtain ⟨v, ev, rv⟩ := l.get _ _ ek
      cases rv
      refine ⟨_, ev, F, h, σd, _, l, s, t, fun F1 H1 h1 y u g1 ry t1 => ?_⟩
      split at t1
      · cases ry
        exact ⟨_, _, rfl, rfl, c.nx F1 H1 h1 _ _ g1 ((l.mono g1.ss).set (.int _) i) t1⟩
      · exact t1.elim
    · exact t.elim
/-- from here on the list in slot i is settled -/
def wFz (i : Nat) (t : WS) : WS := fun D σ h => match σ[i]? with
  | some (some (.ref a)) => match h a with
    | some (.lst ds) => t D (σ.set i (some (.lst ds))) (mdel h a)
    | _ => False
  | some (some (.lst _)) => t D σ h
  | _ => False
theorem LR.setD {K : PySem.W.Frag} {F : Hp} {σd : MSt} {σ : L2.St} {d : D} {v : V} {i : Nat} (l : LR K F σd σ) (r : RD K F d v) (e : σ[i]? = some (some v)) : LR K F (σd.set i (some d)) σ := by
  have h := l.set r i
  have z : σ.set i (some v) = σ := by
    apply List.ext_getElem?
    intro j
    rw [List.getElem?_set]
    split
    · rename_i hij; subst hij
      split
      · exact e.symm
      · rename_i hl; rw [List.getElem?_eq_none_iff.mpr (by omega)] at e; cases e
    · rfl
  rw [z] at h
  exact h
theorem ms_fz (i : Nat) (h : MSs X B sts t) : MSs X B sts (wFz i t) := pss_mono h fun E σ H ⟨F, h, σd, D', l, s, t, c⟩ => by
  unfold wFz at t
  split at t
  · rename_i a ea
    split at t
    · rename_i ds em
      obtain ⟨v, ev, rv⟩ := l.get _ _ ea
      cases rv
      obtain ⟨_, xs, q, r⟩ := s.cell _ _ em
      have g := Go.settle s.sr em q
      exact ⟨_, _, _, D', (l.mono g.ss).setD (.lst upd_same (r.mono g.ss)) ev, s.go g, t, c.go g⟩
    · exact t.elim
  · exact ⟨F, h, σd, D', l, s, t, c⟩
  · exact t.elim
/-- a value that is a list's cell, settled -/
def wFzE (t : WE) : WE := fun σ h Q => t σ h fun d h1 => match d with
  | .ref a => match h1 a with
    | some (.lst ds) => Q (.lst ds) (mdel h1 a)
    | _ => False
  | d => Q d h1
theorem m_fz (h : ME X B e ta) : ME X B e (wFzE ta) := pe_mono h fun σ H Q ⟨F, h, σd, Q', l, s, t, c⟩ => ⟨F, h, σd, _, l, s, t, fun F1 H1 h1 x u g1 rx t1 => by
  split at t1
  · rename_i a
    cases rx
    split at t1
    · rename_i ds em
      obtain ⟨_, xs, q, r⟩ := g1.sr.cell _ _ em
      have g := Go.settle g1.sr em q
      exact c _ _ _ _ _ (g1.trans g) (.lst upd_same (r.mono g.ss)) t1
    · exact t1.elim
  · exact c _ _ _ _ _ g1 rx t1⟩
end
end BP

set_option maxRecDepth 100000
set_option maxHeartbeats 4000000
/-! BpF: what is walked; for, while, comprehensions. -/
namespace BP
open PySem PySem.Spec PyProof.Rows L2

/-! ### enumerate over a list or a tuple -/
set_option maxHeartbeats 4000000 in
theorem meets_enum1 {v : Value} {o : Obj} {H : Heap → Prop} (B : Begins v o H) :
    Meets (Builtin.«enumerate.__new__» ⟨[.type "enumerate", v], []⟩) (fun _ R s => H s.heap ∧
      R (.ok (.ret (.ref (s.heap.push o).objs.size))) { s with heap := (s.heap.push o).push { cls := .type "enumerate", data := .fields #[.none, .bool false, .ref s.heap.objs.size, rawInt 0, .none, .none] } }) :=
  .of_wp fun prog w A R s h => by
    obtain ⟨hp, g, d, tk, os⟩ := s; obtain ⟨h1, h⟩ := h
    have hsub := sub_enumerate
    have q1 : ∀ {A' : Around} {E : Value → Shared → Prop} {Q : Value → Shared → Prop}, Q (.ref hp.objs.size) ⟨hp.push o, g, d, tk, os⟩ → wpAny (model prog w) A' (pyIter v) Q E ⟨hp, g, d, tk, os⟩ :=
      fun q => B.iter prog w _ _ ⟨hp, g, d, tk, os⟩ _ h1 q
    wp_walk using q1
    refine wpAny_stack_any fun st => wpAny_pure ?_
    split
    · rename_i c _ _ _ _ _
      cases (c == Value.type "enumerate")
      · wp_walk using q1
        exact ⟨_, rfl, h⟩
      · wp_walk using q1
        exact ⟨_, rfl, h⟩
    · wp_walk using q1
      exact ⟨_, rfl, h⟩
theorem enum_begins1 {prog : Program} {w : World} {A : Around} {E : Value → Shared → Prop} {s : Shared} {v : Value} {o : Obj} {H : Heap → Prop} {Q : Value → Shared → Prop} (B : Begins v o H) (h1 : H s.heap)
    (h : ∀ h', IsEnum h' (s.heap.objs.size + 1) s.heap.objs.size 0 .none → h'.get? s.heap.objs.size = some o → h'.objs.size = s.heap.objs.size + 2 →
      (∀ b o, s.heap.get? b = some o → h'.get? b = some o) → Q (.ref (s.heap.objs.size + 1)) { s with heap := h' }) :
    wpAny (model prog w) A (call (.type "enumerate") [v]) Q E s := by
  refine callType_new F.called_enumerate (by decide) (F.typeCall_enumerate_1 _) (F.newCall_enumerate_1 _) (fun obj => F.args_object_init_2 obj _) F.entry_enumerate_new
    (meets_enum1 B) ⟨h1, ?_⟩
  have hz : (s.heap.push o).objs.size = s.heap.objs.size + 1 := Heap.size_push ..
  show _ ∧ _
  rw [hz]
  have he : IsEnum ((s.heap.push o).push { cls := .type "enumerate", data := .fields #[.none, .bool false, .ref s.heap.objs.size, rawInt 0, .none, .none] }) (s.heap.objs.size + 1) s.heap.objs.size 0 .none := by
    have := Heap.get?_push_size (s.heap.push o) (o := { cls := .type "enumerate", data := .fields #[.none, .bool false, .ref s.heap.objs.size, rawInt 0, .none, .none] }) rfl
    rw [hz] at this; exact this
  refine ⟨⟨_, he, rfl⟩, h _ he (Heap.get?_push_of_some _ (Heap.get?_push_size _ B.free)) (by rw [Heap.size_push, hz]) fun b o x => Heap.get?_push_of_some _ (Heap.get?_push_of_some _ x)⟩

/-- a row at a: a list (k) or a tuple -/
def Sq (K : PySem.W.Frag) (k : Bool) (H : Hp) (a : Addr) (xs : List V) : Prop := if k = true then SqL K H a xs else SqT K H a xs
def IsSq (k : Bool) (h : Heap) (a : Addr) (its : Array Value) : Prop := if k = true then h.IsList a its else h.IsTuple a its
def IsItr (k : Bool) (h : Heap) (it a : Addr) (i : Nat) : Prop := if k = true then h.IsListIter it a i else h.IsTupleIter it a i
theorem Inv.sq {X : Cx} {pins : List (Addr × Obj)} {σ : L2.St} {H : Hp} {s : Shared} {k : Bool} {a : Addr} {xs : List V} (I : Inv X pins σ H s) (h : Sq X.K k H a xs) : ∃ its : List Value, Vals xs its ∧ IsSq k s.heap a its.toArray ∧ xs.length ≤ sizeLine := by
  cases k with
  | true => obtain ⟨its, r, p, z⟩ := I.list h; exact ⟨its, r, p.isList, z⟩
  | false => obtain ⟨its, r, p, z⟩ := I.tuple h; exact ⟨its, r, p, z⟩
theorem Inv.sq_inj {X : Cx} {pins : List (Addr × Obj)} {σ : L2.St} {H : Hp} {s : Shared} {k : Bool} {a : Addr} {xs ys : List V} (I : Inv X pins σ H s) (h : Sq X.K k H a xs) (h' : Sq X.K k H a ys) : xs = ys := by
  cases k with
  | true => exact I.list_inj h h'
  | false => exact I.tuple_inj h h'
theorem IsItr.obj {k : Bool} {h : Heap} {it a : Addr} {i : Nat} (x : IsItr k h it a i) : ∃ o, h.get? it = some o ∧ ∀ v, o.data ≠ .cell v := by
  cases k with
  | true => obtain ⟨o, e, c, d⟩ := (show h.IsListIter it a i from x); exact ⟨o, e, fun v z => by rw [d] at z; cases z⟩
  | false => obtain ⟨o, e, c, d⟩ := (show h.IsTupleIter it a i from x); exact ⟨o, e, fun v z => by rw [d] at z; cases z⟩
theorem IsItr.at {k : Bool} {h h' : Heap} {it a : Addr} {i : Nat} (x : IsItr k h it a i) (q : ∀ o, h.get? it = some o → h'.get? it = some o) : IsItr k h' it a i := by
  cases k with
  | true => exact Heap.IsListIter.at (show h.IsListIter it a i from x) q
  | false => exact Heap.IsTupleIter.at (show h.IsTupleIter it a i from x) q
theorem draws_of {prog : Program} {w : World} {A : Around} (hh : A.handled = none) (k : Bool) (it a : Addr) (hne : a ≠ it) (its : Array Value) : Draws prog w A it [it, a] its.size (fun i v => its[i]? = some v) (fun i h => IsItr k h it a i ∧ IsSq k h a its) := by
  cases k with
  | true => exact Draws.list hh it a hne its
  | false => exact Draws.tuple hh it a hne its
/-- new pairs of k0 + i and the i-th item -/
def ItE (K : PySem.W.Frag) (k : Bool) (a : Addr) (k0 : Int) : It :=
  ⟨fun i H => ∃ (xs : List V) (x : V), Sq K k H a xs ∧ xs[i]? = some x, fun i H v H' => ∃ T x, v = .ref T ∧ H T = none ∧ H' = upd H T (.tup [.int (k0 + (i : Nat)), x]) ∧ ∀ xs, Sq K k H a xs → xs[i]? = some x, fun i H => ∃ xs : List V, Sq K k H a xs ∧ xs.length = i⟩
theorem turn_enumA {P : Program} {w : World} {K : PySem.W.Frag} {elts : List Expr} {kk : Nat} {tpos : Pos} (k : Bool) (k0 : Int) (a e it : Addr) :
    Turn P w K (.Tuple elts kk tpos) (ItE K k a k0) [e, it] e (fun i h => (∃ old, IsEnum h e it (k0 + ((i : Nat) : Int)) old) ∧ IsItr k h it a i ∧ e ≠ it ∧ a ≠ it ∧ a ≠ e) where
  mem := by simp
  obj := fun i h st b hb => by
    obtain ⟨⟨old, he⟩, hi, _⟩ := st
    have e' : b = e ∨ b = it := by simpa using hb
    rcases e' with z | z
    · rw [z]; exact ⟨_, he, fun v q => nomatch q⟩
    · rw [z]; exact hi.obj
  keep := fun i h h' st kp => let ⟨⟨old, he⟩, hi, hne⟩ := st; ⟨⟨old, kp e (by simp) _ he⟩, hi.at fun o q => kp it (by simp) o q, hne⟩
  item := by
    intro X hP hw hK hc i pins s σ H E I hf st hg
    subst hP hw hK
    obtain ⟨⟨old, he⟩, hit, hne, ha1, ha2⟩ := st
    obtain ⟨xs, x, hq, hx⟩ := hg
    obtain ⟨its, rv, p, hz⟩ := Inv.sq I hq
    obtain ⟨u, hu, ru⟩ := rv.get hx
    have hi : i < its.toArray.size := by rw [List.size_toArray]; exact (List.getElem?_eq_some_iff.mp hu).1
    have hin : ∀ b ∈ [e, it], b < s.heap.objs.size := fun b hb => by
      have e' : b = e ∨ b = it := by simpa using hb
      rcases e' with z | z
      · rw [z]; exact Heap.lt_size he
      · rw [z]; obtain ⟨o, q, _⟩ := hit.obj; exact Heap.lt_size q
    have D := draws_of (prog := X.prog) (w := X.w) (A := X.A.in1) (I.ok.hd hc) k it a ha1 its.toArray
    have G := GoesN.enumFrom (A := X.A) (elts := elts) (x1 := kk) (pos := tpos) k0 D e hne (by simp [hne, Ne.symm ha2]) (by simp)
    refine thn (G.goes i s (fun v s2 => ∃ y H', Inv X pins σ H' s2 ∧ RelV y v ∧ (ItE X.K k a k0).yld i H y H' ∧ ((∃ old, IsEnum s2.heap e it (k0 + (((i + 1 : Nat)) : Int)) old) ∧ IsItr k s2.heap it a (i + 1) ∧ e ≠ it ∧ a ≠ it ∧ a ≠ e) ∧ ∀ b ∈ [e, it], H' b = none) E hi ⟨⟨old, he⟩, hit, p⟩ fun v h' tk hY st' hk htk => ?_) fun r s1 ⟨v, hr, hw⟩ => ⟨v, hr, hw⟩
    obtain ⟨T, t, y, rfl, hT, hy, hTup⟩ := hY
    obtain ⟨he', hit', _⟩ := st'
    have ey : y = u := by
      have : its.toArray[i]? = some u := by simpa using hu
      rw [this] at hy; exact (Option.some.inj hy).symm
    subst ey
    have new : ObjOk X.prog X.w (upd H T (.tup [.int (k0 + (i : Nat)), x])) h' T (.tup [.int (k0 + (i : Nat)), x]) :=
      ⟨by show 2 ≤ sizeLine; decide, [.int (k0 + (i : Int)) t, y], .cons ⟨_, rfl⟩ (.cons ru .nil), hTup⟩
    have I1 : Inv X pins σ (upd H T (.tup [.int (k0 + (i : Nat)), x])) { s with heap := h', toks := tk } := I.turnedNew (ch := [e, it]) (fun b ob hb q => hk b ob hb q) hf hT new
    refine ⟨.ref T, _, I1, rfl, ⟨T, x, rfl, I.hok.fresh hT, rfl, fun ys hys => by rw [Inv.sq_inj I hys hq]; exact hx⟩, ⟨he', hit', hne, ha1, ha2⟩, fun b hb => ?_⟩
    rw [upd_ne (Nat.ne_of_lt (Nat.lt_of_lt_of_le (hin b hb) hT))]
    exact (hf b hb).1
  done := by
    intro X hP hw hK hc i pins s σ H E I hf st hg
    subst hP hw hK
    obtain ⟨⟨old, he⟩, hit, hne, ha1, ha2⟩ := st
    obtain ⟨xs, hq, hx⟩ := hg
    obtain ⟨its, rv, p, hz⟩ := Inv.sq I hq
    have D := draws_of (prog := X.prog) (w := X.w) (A := X.A.in1) (I.ok.hd hc) k it a ha1 its.toArray
    have G := GoesN.enumFrom (A := X.A) (elts := elts) (x1 := kk) (pos := tpos) k0 D e hne (by simp [hne, Ne.symm ha2]) (by simp)
    have hn : its.toArray.size = i := by rw [List.size_toArray, ← rv.length, hx]
    rw [hn] at G
    exact G.stops s (fun s1 => Inv X pins σ H s1) E ⟨⟨old, he⟩, hit, p⟩ fun h' tk hk htk => I.turnedL (ch := [e, it]) hk hf
  self := fun A i s Q E st h => let ⟨⟨_, he⟩, _⟩ := st; wpAny_pyIter_enum he h
def iEnumA (K : PySem.W.Frag) (ta : TA) : TI := fun σ H R => ta σ H fun vs H1 => ∃ k a xs, vs = [.ref a] ∧ Sq K k H1 a xs ∧ R (ItE K k a 0) H1
theorem IsSq.lt {k : Bool} {h : Heap} {a : Addr} {its : Array Value} (x : IsSq k h a its) : a < h.objs.size := by
  cases k with
  | true => obtain ⟨o, e, _⟩ := (show h.IsList a its from x); exact Heap.lt_size e
  | false => obtain ⟨o, e, _⟩ := (show h.IsTuple a its from x); exact Heap.lt_size e
def itObj (k : Bool) (a : Addr) : Obj := if k = true then { cls := .type "list_iterator", data := .fields #[.ref a, .int 0 0] } else { cls := .type "tuple_iterator", data := .fields #[.ref a, .int 0 0] }
theorem begins_of (k : Bool) (a : Addr) (its : Array Value) : Begins (.ref a) (itObj k a) fun h => IsSq k h a its := by
  cases k with
  | true => exact begins_list a its
  | false => exact begins_tuple a its
theorem itObj_is {k : Bool} {h : Heap} {it a : Addr} (e : h.get? it = some (itObj k a)) : IsItr k h it a 0 := by
  cases k with
  | true => exact ⟨_, e, rfl, rfl⟩
  | false => exact ⟨_, e, rfl, rfl⟩
theorem enum_pie {X : Cx} {pins : List (Addr × Obj)} {σ : L2.St} {H : Hp} {s : Shared} {R : It → Hp → Prop} {E : Value → Shared → Prop} {elts : List Expr} {kk : Nat} {tpos : Pos} {k : Bool} {a : Addr} {k0 : Int} {its : Array Value} {h' : Heap} (I : Inv X pins σ H s) (hs : IsSq k s.heap a its)
    (he : IsEnum h' (s.heap.objs.size + 1) s.heap.objs.size k0 .none) (hit : h'.get? s.heap.objs.size = some (itObj k a)) (hk : ∀ b o, s.heap.get? b = some o → h'.get? b = some o) (q : R (ItE X.K k a k0) H) :
    wpAny (model X.prog X.w) X.A (pyIter (.ref (s.heap.objs.size + 1))) (PIE X pins σ (.Tuple elts kk tpos) R) E { s with heap := h' } := by
  refine wpAny_pyIter_enum he ?_
  have hl := hs.lt
  have I2 : Inv X pins σ H { s with heap := h' } := I.kept (t' := s.toks) hk
  refine ⟨s.heap.objs.size + 1, [s.heap.objs.size + 1, s.heap.objs.size], _, _, H, rfl, I2, turn_enumA k k0 a (s.heap.objs.size + 1) s.heap.objs.size, ⟨⟨.none, ?_⟩, itObj_is hit, Nat.succ_ne_self _, Nat.ne_of_lt hl, Nat.ne_of_lt (Nat.lt_succ_of_lt hl)⟩, fun b hb => ?_, q⟩
  · have z : k0 + ((0 : Nat) : Int) = k0 := by omega
    rw [z]; exact he
  · have e' : b = s.heap.objs.size + 1 ∨ b = s.heap.objs.size := by simpa using hb
    have hle : s.heap.objs.size ≤ b := by
      rcases e' with z | z
      · rw [z]; exact Nat.le_add_right _ _
      · rw [z]; exact Nat.le_refl _
    exact I.fpOk hle (I.hok.fresh hle)
theorem pi_enumA {X : Cx} {e : Expr} {ta : TA} {p pos tpos : Pos} {elts : List Expr} {kk : Nat} (hg : Gl X "enumerate") (hm : X.mg "enumerate" = none) (ha : PA X [e] ta) (hs : starEach [e] X.env = [(false, eval e X.env)] := by rfl) :
    PI X (.Tuple elts kk tpos) (.Call (.Name "enumerate" p) [e] [] pos) (iEnumA X.K ta) := by
  refine ⟨fun pins s σ H R I h => ?_⟩
  refine Call_ (ld_blt I hg hm boot_enumerate (PyProof.Rows.callWith_type1 (thn (ha.run pos pins s σ H _ I h) fun us s1 ⟨vs, H1, I1, r1, q1⟩ => ?_) hs rfl))
  obtain ⟨k, a, xs, ex, hq, q⟩ := q1
  subst ex
  cases r1 with
  | cons r rr =>
    cases rr
    cases r
    obtain ⟨its, rv, p', hz⟩ := Inv.sq I1 hq
    exact enum_begins1 (begins_of k a its.toArray) p' fun h' he hit hsz hk => enum_pie I1 p' he hit hk q

/-! ### what is walked, as plain data -/
/-- J gives the items ds, as long as what is settled stays -/
structure WalkD (K : PySem.W.Frag) (J : It) (F : Hp) (ds : List D) : Prop where
  goes : ∀ i H, i < ds.length → Same F H → J.go i H
  stops : ∀ H, Same F H → J.stop ds.length H
  yields : ∀ (i : Nat) (d : D) (H : Hp) (x : V) (H' : Hp), ds[i]? = some d → Same F H → J.yld i H x H' → ∀ F1 h, Same F F1 → SR K F1 H h → ∃ F2, Go K F1 H h F2 H' h ∧ RD K F2 d x
abbrev WI := MSt → MH → (List D → MH → Prop) → Prop
def liftI (K : PySem.W.Frag) (B : Bs) (t : WI) : TI := fun σ H R => ∃ F h σd Q', LR K F σd σ ∧ Bd K B F H h ∧ t σd h Q' ∧ ∀ F' H' h' ds J, Go K F H h F' H' h' → WalkD K J F' ds → Q' ds h' → R J H'
abbrev MI (X : Cx) (B : Bs) (tg iter : Expr) (t : WI) : Prop := PI X tg iter (liftI X.K B t)
section
variable {X : Cx} {B : Bs} {tg iter a b c e : Expr} {ta tb tc : WE} {pos p : Pos} {wa : WA}
theorem pi_mono {t t' : TI} (h : PI X tg iter t) (m : ∀ σ H R, t' σ H R → t σ H R) : PI X tg iter t' := ⟨fun pins s σ H R I q => h.run pins s σ H R I (m σ H R q)⟩
/-- a list or a tuple, walked -/
theorem pi_row {l : Expr} {tl : TE} (hl : PE X l tl) : PI X tg l (fun σ H R => tl σ H fun x H1 => (∃ a, x = .ref a ∧ (∃ xs, SqL X.K H1 a xs) ∧ R (Itl X.K a) H1) ∨ (∃ a, x = .ref a ∧ (∃ xs, SqT X.K H1 a xs) ∧ R (Itt X.K a) H1)) := by
  refine ⟨fun pins s σ H R I h => ?_⟩
  refine thn (hl.run pins s σ H _ I h) fun v s1 ⟨x, H1, I1, r1, q1⟩ => ?_
  rcases q1 with ⟨a, e, ⟨xs, hq⟩, q⟩ | ⟨a, e, ⟨xs, hq⟩, q⟩
  · subst e
    cases r1
    obtain ⟨its, rv, p, hz⟩ := I1.list hq
    refine wpAny_pyIter_list p.isList ?_
    refine ⟨s1.heap.objs.size, [s1.heap.objs.size], _, _, H1, rfl, I1.kept (t' := s1.toks) fun b o e => Heap.get?_push_of_some _ e, turn_list a _, ⟨_, Heap.get?_push_size _ rfl, rfl, rfl⟩, fun b hb => ?_, q⟩
    have e : b = s1.heap.objs.size := by simpa using hb
    subst e
    exact I1.fpOk (Nat.le_refl _) (I1.hok.fresh (Nat.le_refl _))
  · subst e
    cases r1
    obtain ⟨its, rv, p, hz⟩ := I1.tuple hq
    refine wpAny_pyIter_tuple (show s1.heap.IsTuple a its.toArray from p) ?_
    refine ⟨s1.heap.objs.size, [s1.heap.objs.size], _, _, H1, rfl, I1.kept (t' := s1.toks) fun b o e => Heap.get?_push_of_some _ e, turn_tuple a _, ⟨_, Heap.get?_push_size _ rfl, rfl, rfl⟩, fun b hb => ?_, q⟩
    have e : b = s1.heap.objs.size := by simpa using hb
    subst e
    exact I1.fpOk (Nat.le_refl _) (I1.hok.fresh (Nat.le_refl _))
theorem walkD_list {K : PySem.W.Frag} {F : Hp} {a : Addr} {xs : List V} {ds : List D} (q : SqL K F a xs) (r : RDs K F ds xs) : WalkD K (Itl K a) F ds where
  goes := fun i H hi sm => ⟨xs, xs[i]'(by rw [← r.length]; exact hi), Same.sqL sm q, by simp⟩
  stops := fun H sm => ⟨xs, Same.sqL sm q, by rw [r.length]; exact Nat.le_refl _⟩
  yields := fun i d H x H' hd sm ⟨e, y⟩ F1 h s1 sr => by
    subst e
    obtain ⟨v, hv, rd⟩ := r.get hd
    have := y xs (Same.sqL sm q)
    rw [hv] at this; cases this
    exact ⟨F1, Go.refl sr, rd.mono s1⟩
theorem walkD_tup {K : PySem.W.Frag} {F : Hp} {a : Addr} {xs : List V} {ds : List D} (q : SqT K F a xs) (r : RDs K F ds xs) : WalkD K (Itt K a) F ds where
  goes := fun i H hi sm => ⟨xs, xs[i]'(by rw [← r.length]; exact hi), Same.sqT sm q, by simp⟩
  stops := fun H sm => ⟨xs, Same.sqT sm q, by rw [r.length]; exact Nat.le_refl _⟩
  yields := fun i d H x H' hd sm ⟨e, y⟩ F1 h s1 sr => by
    subst e
    obtain ⟨v, hv, rd⟩ := r.get hd
    have := y xs (Same.sqT sm q)
    rw [hv] at this; cases this
    exact ⟨F1, Go.refl sr, rd.mono s1⟩
/-- settled rows -/
def rowF : D → Option (List D)
  | .tup ds => some ds
  | .lst ds => some ds
  | .scr ns => some (ns.map .int)
  | _ => none
theorem rowF_rd {K : PySem.W.Frag} {F : Hp} {d : D} {v : V} {ds : List D} (r : RD K F d v) (e : rowF d = some ds) : ∃ k a xs, v = .ref a ∧ Sq K k F a xs ∧ RDs K F ds xs := by
  cases r with
  | tup q r => simp only [rowF, Option.some.injEq] at e; subst e; exact ⟨false, _, _, rfl, q, r⟩
  | lst q r => simp only [rowF, Option.some.injEq] at e; subst e; exact ⟨true, _, _, rfl, SqL.of q, r⟩
  | scr q => simp only [rowF, Option.some.injEq] at e; subst e; exact ⟨true, _, _, rfl, q, RDs.ints _⟩
  | _ => simp [rowF] at e
def wIt (t : WE) : WI := fun σ h Q => t σ h fun d h1 => match rowF d with
  | some ds => Q ds h1
  | none => False
theorem mi_row (hl : ME X B iter ta) : MI X B tg iter (wIt ta) := pi_mono (pi_row hl) fun σ H R ⟨F, h, σd, Q', l, s, t, c⟩ => ⟨F, h, σd, _, l, s, t, fun F1 H1 h1 x u g1 rx t1 => by
  split at t1
  · rename_i ds ed
    obtain ⟨k, a, xs, rfl, q, r⟩ := rowF_rd rx ed
    cases k with
    | true => exact .inl ⟨a, rfl, ⟨xs, Same.sqL g1.sr.fr q⟩, c F1 H1 h1 ds _ g1 (walkD_list q r) t1⟩
    | false => exact .inr ⟨a, rfl, ⟨xs, Same.sqT g1.sr.fr q⟩, c F1 H1 h1 ds _ g1 (walkD_tup q r) t1⟩
  · exact t1.elim⟩
def enumD (k0 : Int) (ds : List D) : List D := ds.mapIdx fun i d => .tup [.int (k0 + (i : Nat)), d]
theorem walkD_enum {K : PySem.W.Frag} {F : Hp} {k : Bool} {a : Addr} {k0 : Int} {xs : List V} {ds : List D} (q : Sq K k F a xs) (r : RDs K F ds xs) : WalkD K (ItE K k a k0) F (enumD k0 ds) := by
  have sq : ∀ {H}, Same F H → Sq K k H a xs := fun {H} sm => by
    cases k with
    | true => exact Same.sqL sm q
    | false => exact Same.sqT sm q
  have hl : (enumD k0 ds).length = xs.length := by unfold enumD; rw [List.length_mapIdx, r.length]
  refine ⟨fun i H hi sm => ⟨xs, xs[i]'(by rw [← hl]; exact hi), sq sm, by simp⟩, fun H sm => ⟨xs, sq sm, hl.symm⟩, fun i d H x H' hd sm y F1 h s1 sr => ?_⟩
  obtain ⟨T, z, rfl, nT, rfl, hz⟩ := y
  unfold enumD at hd
  rw [List.getElem?_mapIdx] at hd
  cases e : ds[i]? with
  | none => rw [e] at hd; cases hd
  | some d0 =>
    rw [e] at hd
    simp only [Option.map_some, Option.some.injEq] at hd
    subst hd
    obtain ⟨v, hv, rd⟩ := r.get e
    have := hz xs (sq sm)
    rw [hv] at this; cases this
    have nF := sr.freeF nT
    exact ⟨_, Go.settled sr nT, .tup (SqT.of upd_same) (.cons (.int _) (.cons ((rd.mono s1).mono (same_upd nF)) .nil))⟩
def wEnum (k0 : Int) (t : WE) : WI := fun σ h Q => t σ h fun d h1 => match rowF d with
  | some ds => Q (enumD k0 ds) h1
  | none => False
theorem mi_enum {elts : List Expr} {kk : Nat} {tpos : Pos} (hm : X.mg "enumerate" = none) (ha : ME X B e ta) (hg : Gl X "enumerate" := by rfl) (hs : starEach [e] X.env = [(false, eval e X.env)] := by rfl) :
    MI X B (.Tuple elts kk tpos) (.Call (.Name "enumerate" p) [e] [] pos) (wEnum 0 ta) := pi_mono (pi_enumA hg hm (pa_cons ha pa_nil hs) hs) fun σ H R ⟨F, h, σd, Q', l, s, t, c⟩ => ⟨F, h, σd, _, l, s, t, fun F1 H1 h1 x u g1 rx t1 => by
  split at t1
  · rename_i ds ed
    obtain ⟨k, a, xs, rfl, q, r⟩ := rowF_rd rx ed
    refine ⟨k, a, xs, rfl, ?_, c F1 H1 h1 _ _ g1 (walkD_enum q r) t1⟩
    cases k with
    | true => exact Same.sqL g1.sr.fr q
    | false => exact Same.sqT g1.sr.fr q
  · exact t1.elim⟩
/-- range -/
def rangeD (lo : Int) (n : Nat) : List D := (List.range n).map fun i => .int (lo + (i : Nat))
theorem walkD_range {K : PySem.W.Frag} {F : Hp} {lo : Int} {n : Nat} : WalkD K (Itr lo n) F (rangeD lo n) where
  goes := fun i H hi sm => by unfold rangeD at hi; rw [List.length_map, List.length_range] at hi; exact hi
  stops := fun H sm => by unfold rangeD; rw [List.length_map, List.length_range]; exact Nat.le_refl _
  yields := fun i d H x H' hd sm ⟨e, y⟩ F1 h s1 sr => by
    subst e y
    unfold rangeD at hd
    rw [List.getElem?_map] at hd
    have hi : i < n := by
      cases q : (List.range n)[i]? with
      | none => rw [q] at hd; cases hd
      | some j => simpa using (List.getElem?_eq_some_iff.mp q).1
    rw [List.getElem?_range hi] at hd
    simp only [Option.map_some, Option.some.injEq] at hd
    subst hd
    exact ⟨F1, Go.refl sr, .int _⟩
def okR (i : Int) : Prop := -(2 ^ 62) ≤ i ∧ i < 2 ^ 62
def wRange1 (t : WE) : WI := fun σ h Q => t σ h fun d h1 => match d with
  | .int j => okR j ∧ Q (rangeD 0 j.toNat) h1
  | _ => False
def wRange2 (t u : WE) : WI := fun σ h Q => t σ h fun d h1 => u σ h1 fun e h2 => match d, e with
  | .int i, .int j => okR i ∧ okR j ∧ Q (rangeD i (j - i).toNat) h2
  | _, _ => False
theorem mi_range1 (hm : X.mg "range" = none) (ha : ME X B a ta) (hg : Gl X "range" := by rfl) (hs : starEach [a] X.env = [(false, eval a X.env)] := by rfl) : MI X B tg (.Call (.Name "range" p) [a] [] pos) (wRange1 ta) :=
  pi_mono (pi_range1 hg hm (pa_cons ha pa_nil hs) hs) fun σ H R ⟨F, h, σd, Q', l, s, t, c⟩ => ⟨F, h, σd, _, l, s, t, fun F1 H1 h1 x u g1 rx t1 => by
    split at t1
    · cases rx
      exact ⟨_, rfl, t1.1.1, t1.1.2, c F1 H1 h1 _ _ g1 walkD_range t1.2⟩
    · exact t1.elim⟩
theorem mi_range2 (hm : X.mg "range" = none) (ha : ME X B a ta) (hb : ME X B b tb) (hg : Gl X "range" := by rfl) (hs : starEach [a, b] X.env = [(false, eval a X.env), (false, eval b X.env)] := by rfl) (hs2 : starEach [b] X.env = [(false, eval b X.env)] := by rfl) : MI X B tg (.Call (.Name "range" p) [a, b] [] pos) (wRange2 ta tb) :=
  pi_mono (pi_range2 hg hm (pa_cons ha (pa_cons hb pa_nil hs2) (by rw [hs, hs2])) hs hs2) fun σ H R ⟨F, h, σd, Q', l, s, t, c⟩ => ⟨F, h, σd, _, l, s, t, fun F1 H1 h1 x u g1 rx t1 => ⟨F1, h1, σd, _, l.mono g1.ss, s.go g1, t1, fun F2 H2 h2 y v g2 ry t2 => by
    split at t2
    · cases rx; cases ry
      exact ⟨_, _, rfl, ⟨t2.1.1, t2.1.2, t2.2.1.1, t2.2.1.2⟩, c F2 H2 h2 _ _ (g1.trans g2) walkD_range t2.2.2⟩
    · exact t2.elim⟩⟩
/-! ### for -/
def wLoop (g : WG) (tb : WS) : List D → WS
  | [], D, σ, h => D.nx σ h
  | d :: ds, D, σ, h => g d σ h fun σ2 h2 => tb { nx := wLoop g tb ds D, ct := wLoop g tb ds D, bk := D.nx, rt := D.rt } σ2 h2
def wFor (wi : WI) (g : WG) (tb : WS) : WS := fun D σ h => wi σ h fun ds h1 => wLoop g tb ds D σ h1
theorem drop_of_get {α : Type} {l : List α} {i : Nat} {x : α} (e : l[i]? = some x) : l.drop i = x :: l.drop (i + 1) := by
  obtain ⟨hi, e⟩ := List.getElem?_eq_some_iff.mp e
  rw [List.drop_eq_getElem_cons hi, e]
theorem ms_for {wi : WI} {g : WG} {tb : WS} {body : List Stmt} (hp : PassesOwn (model X.prog X.w) X.A X.env X.xe) (hc : X.calm = true) (hi : MI X B tg iter wi) (hg : MG X B tg g) (hb : MSs X B body tb) (hs : ∀ x, foldedSetIterable iter X.env x = pure x := by intro _; rfl) :
    MS X B (.For tg iter body [] pos) (wFor wi g tb) := ps_mono (ps_for hp hc hi hg hb hs) fun E σ H ⟨F, h, σd, D', l, s, t, c⟩ => ⟨F, h, σd, _, l, s, t, fun F1 H1 h1 ds J g1 W t1 => by
    refine ⟨fun i m σ2 H2 => ∃ F2 h2 σd2, Go X.K F1 H1 h1 F2 H2 h2 ∧ LR X.K F2 σd2 σ2 ∧ i ≤ ds.length ∧ m = ds.length - i ∧ wLoop g tb (ds.drop i) D' σd2 h2, ⟨ds.length, F1, h1, σd, Go.refl g1.sr, l.mono g1.ss, Nat.zero_le _, rfl, t1⟩, ?_⟩
    rintro i m σ2 H2 ⟨F2, h2, σd2, g2, l2, hi, rfl, t2⟩
    by_cases hlt : i < ds.length
    · have ed : ds[i]? = some ds[i] := List.getElem?_eq_getElem hlt
      rw [drop_of_get ed] at t2
      refine .inr ⟨W.goes i H2 hlt (g2.ss.trans g2.sr.fr), fun σ3 H3 => ∃ F3 h3 σd3, Go X.K F1 H1 h1 F3 H3 h3 ∧ LR X.K F3 σd3 σ3 ∧ wLoop g tb (ds.drop (i + 1)) D' σd3 h3, fun σ3 H3 ⟨F3, h3, σd3, g3, l3, t3⟩ => ⟨ds.length - (i + 1), by omega, F3, h3, σd3, g3, l3, hlt, rfl, t3⟩, fun x H3 y => ?_⟩
      obtain ⟨F3, g3, rx⟩ := W.yields i _ H2 x H3 ed (g2.ss.trans g2.sr.fr) y F2 h2 g2.ss g2.sr
      refine ⟨F3, h2, σd2, _, _, l2.mono g3.ss, (s.go g1).go (g2.trans g3), rx, t2, fun F4 H4 h4 σd4 σ4 g4 l4 t4 => ⟨F4, h4, σd4, _, l4, (s.go g1).go ((g2.trans g3).trans g4), t4, ?_⟩⟩
      have g04 := (g2.trans g3).trans g4
      exact ⟨fun F5 H5 h5 σd5 σ5 g5 l5 t5 => ⟨F5, h5, σd5, g04.trans g5, l5, t5⟩, (c.rt.go g1).go g04, (c.nx.go g1).go g04, fun F5 H5 h5 σd5 σ5 g5 l5 t5 => ⟨F5, h5, σd5, g04.trans g5, l5, t5⟩⟩
    · have e : i = ds.length := by omega
      subst e
      refine .inl ⟨W.stops H2 (g2.ss.trans g2.sr.fr), ?_⟩
      rw [List.drop_length] at t2
      exact c.nx F2 H2 h2 _ _ (g1.trans g2) l2 t2⟩
/-! ### while -/
def wWhileN (c : WT) (tb : WS) : Nat → WS
  | 0, _, _, _ => False
  | n + 1, D, σ, h => c σ h fun b h1 => if b = true then tb { nx := wWhileN c tb n D, ct := wWhileN c tb n D, bk := D.nx, rt := D.rt } σ h1 else D.nx σ h1
def wWhile (c : WT) (tb : WS) : WS := fun D σ h => ∃ n, wWhileN c tb n D σ h
theorem ms_while {ce : Expr} {uc : WT} {tb : WS} {body : List Stmt} (hp : PassesOwn (model X.prog X.w) X.A X.env X.xe) (hc : MT X B ce uc) (hb : MSs X B body tb) : MS X B (.While ce body [] pos) (wWhile uc tb) :=
  ps_mono (ps_while hp hc hb) fun E σ H ⟨F, h, σd, D', l, s, ⟨n, t⟩, c⟩ => by
    refine ⟨fun m σ2 H2 => ∃ F2 h2 σd2, Go X.K F H h F2 H2 h2 ∧ LR X.K F2 σd2 σ2 ∧ wWhileN uc tb m D' σd2 h2, ⟨n, F, h, σd, Go.refl s, l, t⟩, ?_⟩
    rintro m σ2 H2 ⟨F2, h2, σd2, g2, l2, t2⟩
    cases m with
    | zero => exact t2.elim
    | succ m =>
      refine ⟨F2, h2, σd2, _, l2, s.go g2, t2, fun F3 H3 h3 b g3 t3 => ?_⟩
      have g03 := g2.trans g3
      cases b with
      | true =>
        rw [if_pos rfl] at t3
        refine iteT ⟨fun σ4 H4 => ∃ F4 h4 σd4, Go X.K F H h F4 H4 h4 ∧ LR X.K F4 σd4 σ4 ∧ wWhileN uc tb m D' σd4 h4, fun σ4 H4 ⟨F4, h4, σd4, g4, l4, t4⟩ => ⟨m, Nat.lt_succ_self _, F4, h4, σd4, g4, l4, t4⟩, F3, h3, σd2, _, l2.mono g3.ss, s.go g03, t3, ?_⟩
        exact ⟨fun F5 H5 h5 σd5 σ5 g5 l5 t5 => ⟨F5, h5, σd5, g03.trans g5, l5, t5⟩, c.rt.go g03, c.nx.go g03, fun F5 H5 h5 σd5 σ5 g5 l5 t5 => ⟨F5, h5, σd5, g03.trans g5, l5, t5⟩⟩
      | false =>
        rw [if_neg Bool.false_ne_true] at t3
        exact iteF (c.nx F3 H3 h3 _ _ g03 (l2.mono g3.ss) t3)
end
end BP

set_option maxRecDepth 100000
set_option maxHeartbeats 4000000
/-! BpG: comprehensions, calls of defs, defs over plain data. -/
namespace BP
open PySem PySem.Spec PyProof.Rows L2

/-! ### list comprehensions -/
def mwipe (σ : MSt) : List Nat → MSt
  | [] => σ
  | v :: vs => (mwipe σ vs).set v none
theorem LR.unset {K : PySem.W.Frag} {F : Hp} {σd : MSt} {σ : L2.St} (l : LR K F σd σ) (i : Nat) : LR K F (σd.set i none) (σ.set i none) := by
  refine ⟨by rw [List.length_set, List.length_set, l.len], fun j e q => ?_⟩
  rw [List.getElem?_set] at q
  rw [List.getElem?_set]
  by_cases hij : i = j
  · rw [if_pos hij] at q
    by_cases hl : i < σd.length
    · rw [if_pos hl] at q; cases q
    · rw [if_neg hl] at q; cases q
  · rw [if_neg hij] at q ⊢
    exact l.get j e q
theorem LR.wipe {K : PySem.W.Frag} {F : Hp} {σd : MSt} {σ : L2.St} (l : LR K F σd σ) : ∀ vs : List Nat, LR K F (mwipe σd vs) (L2.wipe σ vs)
  | [] => l
  | v :: vs => (LR.wipe l vs).unset v
/-- names i1, i2, .. -/
def gNames : List Nat → TGs
  | [] => gNil
  | i :: is => gCons (gName i) (gNames is)
def setAll (σ : L2.St) : List Nat → List V → L2.St
  | i :: is, v :: vs => setAll (σ.set i (some v)) is vs
  | _, _ => σ
def msetAll (σ : MSt) : List Nat → List D → MSt
  | i :: is, d :: ds => msetAll (σ.set i (some d)) is ds
  | _, _ => σ
theorem gNames_of {Q : L2.St → Hp → Prop} {H : Hp} : ∀ {is : List Nat} {vs : List V} {σ : L2.St}, vs.length = is.length → Q (setAll σ is vs) H → gNames is vs σ H Q
  | [], [], σ, _, q => ⟨rfl, q⟩
  | i :: is, v :: vs, σ, h, q => ⟨v, vs, rfl, gNames_of (by simpa using h) q⟩
  | [], _ :: _, _, h, _ => by simp at h
  | _ :: _, [], _, h, _ => by simp at h
theorem wipe_set {σ : L2.St} {i : Nat} {o : Option V} : ∀ {vs : List Nat}, i ∈ vs → L2.wipe (σ.set i o) vs = L2.wipe σ vs
  | [], h => by cases h
  | v :: vs, h => by
    show (L2.wipe (σ.set i o) vs).set v none = (L2.wipe σ vs).set v none
    by_cases hv : i ∈ vs
    · rw [wipe_set hv]
    · have e : i = v := by
        rcases List.mem_cons.mp h with e | e
        · exact e
        · exact absurd e hv
      subst e
      have key : ∀ ws : List Nat, i ∉ ws → L2.wipe (σ.set i o) ws = (L2.wipe σ ws).set i o := by
        intro ws
        induction ws with
        | nil => intro _; rfl
        | cons w ws ih =>
          intro hw
          show (L2.wipe (σ.set i o) ws).set w none = ((L2.wipe σ ws).set w none).set i o
          rw [ih fun z => hw (List.mem_cons_of_mem _ z), List.set_comm _ _ (fun z => hw (by rw [z]; exact List.mem_cons_self))]
      rw [key vs hv, List.set_set]
theorem wipe_setAll {is : List Nat} : ∀ {js : List Nat} {vs : List V} {σ : L2.St}, (∀ j ∈ js, j ∈ is) → L2.wipe (setAll σ js vs) is = L2.wipe σ is
  | [], _, _, _ => rfl
  | _ :: _, [], _, _ => rfl
  | j :: js, v :: vs, σ, h => by
    show L2.wipe (setAll (σ.set j (some v)) js vs) is = _
    rw [wipe_setAll fun x hx => h x (List.mem_cons_of_mem _ hx), wipe_set (h j List.mem_cons_self)]
theorem wipe_wipe (σ : L2.St) (vs : List Nat) : L2.wipe (L2.wipe σ vs) vs = L2.wipe σ vs := by
  have key : ∀ (ws : List Nat) (τ : L2.St), (∀ w ∈ ws, w ∈ vs) → L2.wipe (L2.wipe τ ws) vs = L2.wipe τ vs := by
    intro ws
    induction ws with
    | nil => intro τ _; rfl
    | cons w ws ih =>
      intro τ h
      show L2.wipe ((L2.wipe τ ws).set w none) vs = _
      rw [wipe_set (h w List.mem_cons_self)]
      exact ih τ fun x hx => h x (List.mem_cons_of_mem _ hx)
  exact key vs σ fun _ h => h
theorem LR.setAll {K : PySem.W.Frag} {F : Hp} : ∀ {is : List Nat} {ds : List D} {vs : List V} {σd : MSt} {σ : L2.St}, LR K F σd σ → RDs K F ds vs → LR K F (msetAll σd is ds) (setAll σ is vs)
  | [], _, _, _, _, l, _ => l
  | _ :: _, _, _, _, _, l, .nil => l
  | i :: is, _, _, _, _, l, .cons r rs => LR.setAll (is := is) (l.set r i) rs
/-- the loop of a comprehension: how an item d goes into the slots is told by put -/
def wLcGo (put : MSt → D → Option MSt) (tt : WT) (te : WE) (σ : MSt) : List D → List D → MH → (List D → MH → Prop) → Prop
  | [], acc, h, Q => Q acc h
  | d :: ds, acc, h, Q => match put σ d with
    | some σ2 => tt σ2 h fun b h3 => if b = true then te σ2 h3 fun y h4 => acc.length < sizeLine ∧ wLcGo put tt te σ ds (acc ++ [y]) h4 Q else wLcGo put tt te σ ds acc h3 Q
    | none => False
def wLc (wi : WI) (put : MSt → D → Option MSt) (tt : WT) (te : WE) (vs : List Nat) : WE := fun σ h Q => wi σ h fun ds h1 => wLcGo put tt te (mwipe σ vs) ds [] h1 fun acc h2 => Q (.lst acc) h2
def put1 (i : Nat) : MSt → D → Option MSt := fun σ d => some (σ.set i (some d))
def putT (is : List Nat) : MSt → D → Option MSt := fun σ d => match d with
  | .tup ds => if ds.length = is.length then some (msetAll σ is ds) else none
  | _ => none
def wYes : WT := fun _ h Q => Q true h
theorem Go.hidden {K : PySem.W.Frag} {F H F1 H1 : Hp} {h h1 : MH} {D : Addr} {o : HO} (g : Go K F H h F1 H1 h1) (n : H D = none) (nF : F1 D = none) (nh : h1 D = none) : Go K F H h F1 (upd H1 D o) h1 := by
  refine ⟨g.ss, fun a x e f m => ?_, ⟨fun a x e => ?_, fun a c e => ?_⟩⟩
  · obtain ⟨f1, m1, e1⟩ := g.hid a x e f m
    exact ⟨f1, m1, by rw [upd_ne (ne_of_none e n)]; exact e1⟩
  · rw [upd_ne (fun z => by rw [z, nF] at e; cases e)]; exact g.sr.fr a x e
  · obtain ⟨f, q⟩ := g.sr.cell a c e
    exact ⟨f, q.mono (Same.refl _) (upd_ne (fun z => by rw [z, nh] at e; cases e))⟩
theorem Go.hiddenF {K : PySem.W.Frag} {F H F1 H1 : Hp} {h h1 : MH} {D : Addr} {o : HO} (g : Go K F H h F1 H1 h1) (n : H D = none) (nF : F1 D = none) (nh : h1 D = none) (e0 : H1 D = some o) : Go K F H h (upd F1 D o) H1 h1 := by
  refine ⟨g.ss.trans (same_upd nF), fun a x e f m => ?_, ⟨fun a x e => ?_, fun a c e => ?_⟩⟩
  · obtain ⟨f1, m1, e1⟩ := g.hid a x e f m
    exact ⟨by rw [upd_ne (ne_of_none e n)]; exact f1, m1, e1⟩
  · by_cases hb : a = D
    · subst hb; rw [upd_same] at e; cases e; exact e0
    · rw [upd_ne hb] at e; exact g.sr.fr a x e
  · obtain ⟨f, q⟩ := g.sr.cell a c e
    have hb : a ≠ D := fun z => by rw [z, nh] at e; cases e
    exact ⟨by rw [upd_ne hb]; exact f, q.mono (same_upd nF) rfl⟩
section
variable {X : Cx} {B : Bs} {a b c e : Expr} {ta tb tc : WE} {pos p : Pos} {wa : WA}
/-- g puts an item as put says -/
def PutOk (K : PySem.W.Frag) (g : TG) (put : MSt → D → Option MSt) (vs : List Nat) : Prop := ∀ F H h σd σ d v σd2 (Q : L2.St → Hp → Prop), LR K F σd σ → SR K F H h → RD K F d v → put σd d = some σd2 → (∀ σ2, LR K F σd2 σ2 → L2.wipe σ2 vs = L2.wipe σ vs → Q σ2 H) → g v σ H Q
theorem put1_ok {K : PySem.W.Frag} {i : Nat} : PutOk K (gName i) (put1 i) [i] := fun F H h σd σ d v σd2 Q l s r e q => by
  simp only [put1, Option.some.injEq] at e
  subst e
  exact q _ (l.set r i) (wipe_set List.mem_cons_self)
theorem putT_ok {K : PySem.W.Frag} {is : List Nat} {n : Nat} (hn : is.length = n) : PutOk K (gTup K n (gNames is)) (putT is) is := fun F H h σd σ d v σd2 Q l s r e q => by
  unfold putT at e
  split at e
  · split at e
    · rename_i hl
      simp only [Option.some.injEq] at e
      subst e
      cases r with
      | tup sq rs => exact ⟨_, _, rfl, Same.sqT s.fr sq, by rw [← rs.length, hl, hn], gNames_of (by rw [← rs.length, hl]) (q _ (l.setAll rs) (wipe_setAll fun _ h => h))⟩
    · cases e
  · cases e
theorem lift_lc {wi : WI} {g : TG} {put : MSt → D → Option MSt} {tt : WT} {te : WE} {vs : List Nat} (hp : PutOk X.K g put vs) : ∀ σ H Q, lift X.K B (wLc wi put tt te vs) σ H Q → tLc (liftI X.K B wi) g (liftT X.K B tt) (lift X.K B te) vs σ H Q := fun σ H Q ⟨F, h, σd, Q', l, s, t, c⟩ =>
  ⟨F, h, σd, _, l, s, t, fun F1 H1 h1 ds J g1 W t1 D nD => by
    have w1 : ∀ {F2}, Same F1 F2 → LR X.K F2 (mwipe σd vs) (L2.wipe σ vs) := fun e => ((l.mono g1.ss).mono e).wipe vs
    refine ⟨fun i m H2 => ∃ F2 h2 acc accV, Go X.K F1 H1 h1 F2 H2 h2 ∧ H2 D = some (.lst accV) ∧ F2 D = none ∧ h2 D = none ∧ RDs X.K F2 acc accV ∧ i ≤ ds.length ∧ m = ds.length - i ∧ wLcGo put tt te (mwipe σd vs) (ds.drop i) acc h2 fun acc h2 => Q' (.lst acc) h2,
      ⟨ds.length, F1, h1, [], [], (Go.refl g1.sr).hidden nD (g1.sr.freeF nD) (g1.sr.freeM nD), upd_same, g1.sr.freeF nD, g1.sr.freeM nD, .nil, Nat.zero_le _, rfl, t1⟩, ?_⟩
    rintro i m H2 ⟨F2, h2, acc, accV, g2, eD, fD, mD, ra, hi, rfl, t2⟩
    by_cases hlt : i < ds.length
    · have ed : ds[i]? = some ds[i] := List.getElem?_eq_getElem hlt
      rw [drop_of_get ed] at t2
      unfold wLcGo at t2
      split at t2
      · rename_i σ3 e3
        refine .inr ⟨W.goes i H2 hlt (g2.ss.trans g2.sr.fr), fun H3 => ∃ F3 h3 acc accV, Go X.K F1 H1 h1 F3 H3 h3 ∧ H3 D = some (.lst accV) ∧ F3 D = none ∧ h3 D = none ∧ RDs X.K F3 acc accV ∧ wLcGo put tt te (mwipe σd vs) (ds.drop (i + 1)) acc h3 fun acc h2 => Q' (.lst acc) h2,
          fun H3 ⟨F3, h3, acc, accV, g3, k1, k2, k3, k4, t3⟩ => ⟨ds.length - (i + 1), by omega, F3, h3, acc, accV, g3, k1, k2, k3, k4, hlt, rfl, t3⟩, fun x H3 y => ?_⟩
        obtain ⟨F3, g3, rx⟩ := W.yields i _ H2 x H3 ed (g2.ss.trans g2.sr.fr) y F2 h2 g2.ss g2.sr
        refine hp F3 H3 h2 _ _ _ _ _ _ (w1 (g2.ss.trans g3.ss)) g3.sr rx e3 fun σ4 l4 hw => ⟨hw.trans (wipe_wipe σ vs), F3, h2, σ3, _, l4, (s.go g1).go (g2.trans g3), t2, fun F5 H5 h5 b g5 t5 => ?_⟩
        obtain ⟨fD5, mD5, eD5⟩ := (g3.trans g5).hid D _ eD fD mD
        have g05 := (g2.trans g3).trans g5
        cases b with
        | false =>
          rw [if_neg Bool.false_ne_true] at t5
          exact iteF ⟨F5, h5, acc, accV, g05, eD5, fD5, mD5, ra.mono (g3.trans g5).ss, t5⟩
        | true =>
          rw [if_pos rfl] at t5
          refine iteT ⟨F5, h5, σ3, _, l4.mono g5.ss, (s.go g1).go g05, t5, fun F6 H6 h6 y6 v6 g6 r6 t6 => ?_⟩
          obtain ⟨fD6, mD6, eD6⟩ := g6.hid D _ eD5 fD5 mD5
          refine ⟨accV, eD6, by rw [← ra.length]; exact t6.1, F6, h6, acc ++ [y6], accV ++ [v6], (g05.trans g6).hidden nD fD6 mD6, upd_same, fD6, mD6, ?_, t6.2⟩
          exact (ra.mono ((g3.trans g5).trans g6).ss).append (.cons r6 .nil)
      · exact t2.elim
    · have e : i = ds.length := by omega
      subst e
      refine .inl ⟨W.stops H2 (g2.ss.trans g2.sr.fr), ?_⟩
      rw [List.drop_length] at t2
      have gF := g2.hiddenF nD fD mD eD
      exact c _ _ _ _ _ (g1.trans gF) (.lst upd_same (ra.mono (same_upd fD))) t2⟩
abbrev MTs (X : Cx) (B : Bs) (ifs : List Expr) (t : WT) : Prop := PTs X ifs (liftT X.K B t)
theorem mts_nil : MTs X B [] wYes := ⟨fun pins s σ H Q I ⟨F, h, σd, Q', l, s0, t, c⟩ => pts_nil.run pins s σ H Q I (c F H h true (Go.refl s0.sr) t)⟩
theorem mts_one {ua : WT} (h : MT X B c ua) : MTs X B [c] ua := pts_one h
theorem m_lc {elt tg iter : Expr} {ifs : List Expr} {scope : Scope} {own : List (Str × Nat)} {wi : WI} {g : TG} {put : MSt → D → Option MSt} {tt : WT} {te : WE} (hc : X.calm = true) (hN : X.N.Nodup) (hi : MI X B tg iter wi) (ok : BlkOk X.N X.env.scope scope own) (hp : PutOk X.K g put (own.map (·.2)))
    (hg : ∀ (s : Shared) (H : Hp) (C : Addr) (cl : List (Str × Addr)) (fp : List Addr), PG (X.blk s H scope (compEnvC scope cl C X.env) fp) tg g) (ht : ∀ (s : Shared) (H : Hp) (C : Addr) (cl : List (Str × Addr)) (fp : List Addr), MTs (X.blk s H scope (compEnvC scope cl C X.env) fp) B ifs tt)
    (he : ∀ (s : Shared) (H : Hp) (C : Addr) (cl : List (Str × Addr)) (fp : List Addr), ME (X.blk s H scope (compEnvC scope cl C X.env) fp) B elt te) (hs : ∀ x, foldedSetIterable iter X.env x = pure x := by intro _; rfl) :
    ME X B (.ListComp elt [⟨tg, iter, ifs, 0⟩] scope pos) (wLc wi put tt te (own.map (·.2))) := pe_mono (pe_lc hc hN hi ok hg ht he hs) (lift_lc hp)
theorem ms_setLc (i : Nat) {y : Str} {py spos : Pos} {elt tg iter : Expr} {ifs : List Expr} {scope : Scope} {own : List (Str × Nat)} {wi : WI} {g : TG} {put : MSt → D → Option MSt} {tt : WT} {te : WE} (hc : X.calm = true) (hN : X.N.Nodup) (hi : MI X B tg iter wi) (ok : BlkOk X.N X.env.scope scope own) (hp : PutOk X.K g put (own.map (·.2)))
    (hg : ∀ (s : Shared) (H : Hp) (C : Addr) (cl : List (Str × Addr)) (fp : List Addr), PG (X.blk s H scope (compEnvC scope cl C X.env) fp) tg g) (ht : ∀ (s : Shared) (H : Hp) (C : Addr) (cl : List (Str × Addr)) (fp : List Addr), MTs (X.blk s H scope (compEnvC scope cl C X.env) fp) B ifs tt)
    (he : ∀ (s : Shared) (H : Hp) (C : Addr) (cl : List (Str × Addr)) (fp : List Addr), ME (X.blk s H scope (compEnvC scope cl C X.env) fp) B elt te) (hy : X.N[i]? = some y := by rfl) (hyl : X.env.scope.names.lookup y = some .local := by rfl)
    (hsw : swapsWith (.ListComp elt [⟨tg, iter, ifs, 0⟩] scope pos) (some (.Name y py)) spos.line X.env = pure true := by exact sw_true rfl rfl rfl (by decide +kernel)) (hs : ∀ x, foldedSetIterable iter X.env x = pure x := by intro _; rfl) :
    MS X B (.Assign [.Name y py] (.ListComp elt [⟨tg, iter, ifs, 0⟩] scope pos) spos) (wSet i (wLc wi put tt te (own.map (·.2)))) :=
  ps_mono (ps_setLc hc hN hy hyl hsw hi ok hg ht he hs) fun E σ H ⟨F, h, σd, D', l, s, t, c⟩ =>
    lift_lc hp σ H _ ⟨F, h, σd, _, l, s, t, fun F1 H1 h1 x u g1 rx t1 => c.nx F1 H1 h1 _ _ g1 ((l.mono g1.ss).set rx i) t1⟩
end

/-! ### defs -/
/-- what is wanted of an error: its class's name, its fields -/
abbrev XQ := String → List (Str × D) → MH → Prop
abbrev MSp := List D → MH → MQ → XQ → Prop
def ContX (K : PySem.W.Frag) (mg : Str → Option Value) (F H : Hp) (h : MH) (E' : XQ) (E : XK) : Prop :=
  ∀ F' H' h' n C dd fs gs, Go K F H h F' H' h' → mg (Str.ofString n) = some (.ref C) → F' dd = some (.xd gs) → RDf K F' fs gs → E' n fs h' → E (.ref C) (some dd) H'
def liftSp (K : PySem.W.Frag) (mg : Str → Option Value) (sp : MSp) : Sp := fun vs H Q E => ∃ F h ds Q' E', RDs K F ds vs ∧ SR K F H h ∧ sp ds h Q' E' ∧ ContV K F H h Q' Q ∧ ContX K mg F H h E' E
abbrev FnM (P : Program) (w : World) (K : PySem.W.Frag) (mg : Str → Option Value) (base : Heap) (k : Nat) (f : Addr) (fd : FuncData) (ps : List Str) (sp : MSp) : Prop := FnOk P w K mg base (L2.CX P w) k f fd ps (liftSp K mg sp)
/-- the wish of a body whose errors go to Es -/
def WB (K : PySem.W.Frag) (mg : Str → Option Value) (B : Bs) (Es : MSt → XQ) : WX := fun cls d σ H' => ∃ F' h' σd n C dd fs gs, cls = .ref C ∧ d = some dd ∧ mg (Str.ofString n) = some (.ref C) ∧ Go K B.F B.H B.h F' H' h' ∧ LR K F' σd σ ∧ F' dd = some (.xd gs) ∧ RDf K F' fs gs ∧ Es σd n fs h'
abbrev TkM (X : Cx) (B : Bs) (Es : MSt → XQ) : Prop := Takes X (WB X.K X.mg B Es)
abbrev xF : MSt → XQ := fun _ _ _ _ => False
theorem tkF {X : Cx} {B : Bs} : TkM X B xF := takes0.imp fun c d σ H ⟨_, _, _, _, _, _, _, _, _, _, _, _, _, _, _, z⟩ => z
def mstart (N : List Str) (ds : List D) : MSt := ds.map some ++ List.replicate (N.length - ds.length) none
theorem lr_start {K : PySem.W.Frag} {F : Hp} {N : List Str} {ds : List D} {vs : List V} (r : RDs K F ds vs) : LR K F (mstart N ds) (L2.start N vs) := by
  have hl := r.length
  refine ⟨by unfold mstart L2.start; rw [List.length_append, List.length_append, List.length_map, List.length_map, List.length_replicate, List.length_replicate, hl], fun i d e => ?_⟩
  unfold mstart at e
  unfold L2.start
  by_cases hi : i < ds.length
  · rw [List.getElem?_append_left (by rw [List.length_map]; exact hi), List.getElem?_map] at e
    cases q : ds[i]? with
    | none => rw [q] at e; cases e
    | some d0 =>
      rw [q] at e
      simp only [Option.map_some, Option.some.injEq] at e
      subst e
      obtain ⟨v, hv, rv⟩ := r.get q
      refine ⟨v, ?_, rv⟩
      rw [List.getElem?_append_left (by rw [List.length_map, ← hl]; exact hi), List.getElem?_map, hv]
      rfl
  · rw [List.getElem?_append_right (by rw [List.length_map]; omega), List.getElem?_replicate] at e
    split at e <;> simp at e
/-- a def keeps its promise: its body told over plain data -/
theorem fn_m {P : Program} {w : World} {K : PySem.W.Frag} {mg : Str → Option Value} {base : Heap} {x qual : Str} {st : Stmt} {f : Addr} {fd : FuncData} {N ps : List Str} {k : Nat} {sp : MSp} (F : Fun K x qual st f fd) (S : FnScope N ps (defScope st)) (len : ∀ ds h Q E, sp ds h Q E → ds.length = ps.length)
    (hbody : ∀ (cdv : Value) (A : Around) (outer : List Env) (s : Shared) (H : Hp) (E : XK) (B : Bs) (ds : List D) (h : MH) (Q' : MQ) (E' : XQ), Room k (A.deeper (envOfC qual (defScope st) s.heap.objs.size f cdv)) →
      TkM (cxOf (L2.CX P w) P w K mg base N qual (defScope st) f cdv A outer s H E) B (fun _ => E') → sp ds h Q' E' →
      ∃ t, MSs (cxOf (L2.CX P w) P w K mg base N qual (defScope st) f cdv A outer s H E) B (defBody st) t ∧ t { nx := fun _ h' => Q' .non h', rt := Q' } (mstart N ds) h) : FnM P w K mg base (k + 1) f fd ps sp := by
  refine F.okX S (fun vs H Q E ⟨F, h, ds, Q', E', r, s, q, _, _⟩ => by rw [← r.length]; exact len ds h Q' E' q) fun cdv A outer s H vs Q E hr ⟨F, h, ds, Q', E', r, sr, q, cv, cx⟩ => ?_
  have tk : TkM (cxOf (L2.CX P w) P w K mg base N qual (defScope st) f cdv A outer s H E) ⟨F, H, h⟩ (fun _ => E') := by
    refine (takes_of (E := E) rfl rfl rfl rfl).imp fun c d σ H' ⟨F', h', σd, n, C, dd, fs, gs, e1, e2, e3, g, l, hd, rf, z⟩ => ?_
    subst e1 e2
    exact cx F' H' h' n C dd fs gs g e3 hd rf z
  obtain ⟨t, ht, hq⟩ := hbody cdv A outer s H E ⟨F, H, h⟩ ds h Q' E' hr tk q
  exact ⟨_, ht, F, h, mstart N ds, _, lr_start r, ⟨Go.refl sr⟩, hq, ⟨fun F1 H1 h1 σd σ g l t1 => cv F1 H1 h1 _ _ g .non t1, cv, fun _ _ _ _ _ _ _ z => z.elim, fun _ _ _ _ _ _ _ z => z.elim⟩⟩
section
variable {X : Cx} {B : Bs} {e : Expr} {es : List Expr} {wa : WA} {pos p : Pos} {k : Nat} {f : Addr} {fd : FuncData} {ps : List Str} {sp : MSp} {x : Str} {Es : MSt → XQ}
def wCall (sp : MSp) (Es : MSt → XQ) (t : WA) : WE := fun σ h Q => t σ h fun ds h1 => sp ds h1 Q (Es σ)
theorem sp_at {vs : List V} {ds : List D} {F H F1 H1 : Hp} {h h1 : MH} {σd : MSt} {σ : L2.St} {Q' : MQ} {Q : VK} (s : Bd X.K B F H h) (l : LR X.K F σd σ) (c : ContV X.K F H h Q' Q) (g1 : Go X.K F H h F1 H1 h1) (rs : RDs X.K F1 ds vs) (t1 : sp ds h1 Q' (Es σd)) :
    liftSp X.K X.mg sp vs H1 Q fun cls d H' => WB X.K X.mg B Es cls d σ H' :=
  ⟨F1, h1, ds, Q', Es σd, rs, g1.sr, t1, c.go g1, fun F' H' h' n C dd fs gs g e3 hd rf z => ⟨F', h', σd, n, C, dd, fs, gs, rfl, rfl, e3, (s.all.trans g1).trans g, l.mono (g1.trans g).ss, hd, rf, z⟩⟩
/-- f(e, ..) -/
theorem m_call (G : FnM X.prog X.w X.K X.mg X.base k f fd ps sp) (hr : Room k X.A) (hm : X.mg x = some (.ref f)) (hk : PySem.W.keepIn X.K (.ref f) = true) (hb : Binds X.K fd ps []) (tk : TkM X B Es) (ha : MA X B (e :: es) wa) (hg : Gl X x := by rfl) (hdb : (x == ("__debug__" : Str)) = false := by decide)
    (he : starEach (e :: es) X.env = (false, eval e X.env) :: starEach es X.env := by rfl) (hpl : (backTo pos (starEach es X.env)).any (·.1) = false := by rfl) : ME X B (.Call (.Name x p) (e :: es) [] pos) (wCall sp Es wa) :=
  pe_mono (pe_callSD (dvs := []) (E := fun σ cls d H' => WB X.K X.mg B Es cls d σ H') G hr hg hm hk hb .nil (fun σ => passAt tk σ) ha hdb he hpl) fun σ H Q ⟨F, h, σd, Q', l, s, t, c⟩ => ⟨F, h, σd, _, l, s, t, fun F1 H1 h1 ds vs g1 rs t1 => by
    show liftSp X.K X.mg sp (vs ++ []) H1 Q _
    rw [List.append_nil]
    exact sp_at s l c g1 rs t1⟩
/-- f() -/
theorem m_call0 (G : FnM X.prog X.w X.K X.mg X.base k f fd ps sp) (hr : Room k X.A) (hm : X.mg x = some (.ref f)) (hk : PySem.W.keepIn X.K (.ref f) = true) (hb : Binds X.K fd ps []) (tk : TkM X B Es) (hg : Gl X x := by rfl) (hdb : (x == ("__debug__" : Str)) = false := by decide) :
    ME X B (.Call (.Name x p) [] [] pos) (wCall sp Es wNil) := by
  refine ⟨fun pins s σ H Q I ⟨F, h, σd, Q', l, s0, t, c⟩ => ?_⟩
  refine wpAny_Call_Name_kw (ld_glob I hg hm ?_ hdb)
  exact PySem.W.callWith_K0 I.kIn hk (run_fnSD (us := []) (vs := []) (dvs := []) (ds := []) (E := fun σ cls d H' => WB X.K X.mg B Es cls d σ H') G hr hb .nil (passAt tk σ) I .nil (sp_at s0 l c (Go.refl s0.sr) .nil t))
/-- f(k = v, ..): keywords alone -/
structure KwB (K : PySem.W.Frag) (fd : FuncData) (ps ks : List Str) (g : {α : Type} → List α → List α) : Prop where
  to : ∀ (s : Shared) (ws : List Value), K.In s.heap → ws.length = ks.length → BindsTo s fd ⟨[], ks.zip ws⟩ (ps.zip (g ws))
  rel : ∀ {zs : List V} {ws : List Value}, Vals zs ws → Vals (g zs) (g ws)
  relD : ∀ {K : PySem.W.Frag} {F : Hp} {ds : List D} {zs : List V}, RDs K F ds zs → RDs K F (g ds) (g zs)
variable {ks : List Str} {g : {α : Type} → List α → List α} {kws : List Keyword}
abbrev MK (X : Cx) (B : Bs) (kws : List Keyword) (t : WA) : Prop := PK X kws (liftA X.K B t)
theorem pk_mono {t t' : TA} (h : PK X kws t) (m : ∀ σ H Q, t' σ H Q → t σ H Q) : PK X kws t' := ⟨fun pos pins s σ H Q I q => h.run pos pins s σ H Q I (m σ H Q q)⟩
theorem mk_nil : MK X B [] wNil := pk_mono pk_nil fun σ H Q ⟨F, h, σd, Q', l, s, t, c⟩ => c F H h [] [] (Go.refl s.sr) .nil t
theorem mk_cons {ta : WE} {nm : Option Str} {kpos : Pos} (ha : ME X B e ta) (hr : MK X B kws wa) : MK X B (⟨nm, e, kpos⟩ :: kws) (wCons ta wa) :=
  pk_mono (pk_cons ha hr) fun σ H Q ⟨F, h, σd, Q', l, s, t, c⟩ => ⟨F, h, σd, _, l, s, t, fun F1 H1 h1 x u g1 rx t1 => ⟨F1, h1, σd, _, l.mono g1.ss, s.go g1, t1, fun F2 H2 h2 ds vs g2 rs t2 =>
    c F2 H2 h2 (x :: ds) (u :: vs) (g1.trans g2) (.cons (rx.mono g2.ss) rs) t2⟩⟩
def wCallK (sp : MSp) (Es : MSt → XQ) (n : Nat) (g : {α : Type} → List α → List α) (t : WA) : WE := fun σ h Q => t σ h fun ds h1 => ds.length = n ∧ sp (g ds) h1 Q (Es σ)
theorem m_callK (G : FnM X.prog X.w X.K X.mg X.base k f fd ps sp) (hr : Room k X.A) (hm : X.mg x = some (.ref f)) (hk : PySem.W.keepIn X.K (.ref f) = true) (hb : KwB X.K fd ps ks g) (tk : TkM X B Es) (ha : MK X B kws wa) (hg : Gl X x := by rfl) (hdb : (x == ("__debug__" : Str)) = false := by decide)
    (hall : (backToKw pos (keywordEach kws X.env)).all (·.1.isSome) = true := by rfl) (hks : (backToKw pos (keywordEach kws X.env)).filterMap (·.1) = ks := by rfl)
    (hpl : ((backTo pos (starEach [] X.env)).any (·.1) || (backToKw pos (keywordEach kws X.env)).any (·.1.isNone)) = false := by rfl) : ME X B (.Call (.Name x p) [] kws pos) (wCallK sp Es ks.length g wa) := by
  refine ⟨fun pins s σ H Q I ⟨F, h, σd, Q', l, s0, t, c⟩ => ?_⟩
  refine wpAny_Call_Name_kw (ld_glob I hg hm ?_ hdb)
  refine PySem.W.callWith_KW0 (h₀ := X.base) I.ok.mod.kin hk hall (thn (ha.run pos pins s σ H (fun vs H1 => vs.length = ks.length ∧ liftSp X.K X.mg sp (g vs) H1 Q fun cls d H' => WB X.K X.mg B Es cls d σ H') I ⟨F, h, σd, _, l, s0, t, fun F1 H1 h1 ds vs g1 rs t1 => ?_⟩) fun ws s2 ⟨zs, H2, I2, rz, l2, q2⟩ => ⟨I2.kIn, ?_⟩) hpl
  · exact ⟨by rw [← rs.length]; exact t1.1, sp_at s0 l c g1 (hb.relD rs) t1.2⟩
  · rw [hks]
    have r2 := hb.rel rz
    show wpAny _ _ (call (.ref f) [] (ks.zip ws)) _ _ _
    refine wpAny_call (codeAny_mono (G.run X.A X.stack s2 H2 ⟨[], ks.zip ws⟩ (g ws) (g zs) Q _ hr I2.env0 (hb.to s2 ws I2.kIn (by rw [← rz.length]; exact l2)) r2 q2) fun r s' hq => ?_)
    cases r with
    | error e => exact passAt tk σ pins H2 s2 e s' I2 hq
    | ok fl =>
      cases fl with
      | ret u => exact I2.after hq
      | next => exact False.elim hq
      | brk => exact False.elim hq
      | cont => exact False.elim hq
end
end BP

set_option maxRecDepth 100000
set_option maxHeartbeats 4000000
/-! BpX1: the package's errors: classes over PicError(ValueError) whose __init__ says super().__init__(..) and keeps its fields. -/
namespace BP
open PySem PySem.W PySem.Calls PyProof.Rows PySem.HandSPX

/-- super().__init__(f1, ..) -/
def supExpr (fs : List (Str × Pos)) (p0 p1 p2 p3 : Pos) : PySem.Expr := .Call (.Attribute (.Call (.Name "super" p0) [] [] p1) "__init__" p2) (fs.map fun f => .Name f.1 f.2) [] p3
def supCall (fs : List (Str × Pos)) (p0 p1 p2 p3 p4 : Pos) : Stmt := .Expr (supExpr fs p0 p1 p2 p3) p4
/-- how such a call goes -/
def SupGoes (fs : List (Str × Pos)) (p0 p1 p2 p3 : Pos) : Prop := ∀ env : Env, (∃ pl : Sem Bool, eval (supExpr fs p0 p1 p2 p3) env = (do
  let ov ← attributeBase (.Call (.Name "super" p0) [] [] p1) "__init__" env (eval (.Call (.Name "super" p0) [] [] p1) env)
  standAt p2.atName
  let (f, first) ← holding [ov] (getMethod ov "__init__" pl)
  callWith p3 f first (backTo p3 (starEach (fs.map fun f => .Name f.1 f.2) env)) [])) ∧ ∀ l, swapsWith (supExpr fs p0 p1 p2 p3) none l env = pure false
/-- self.f = f -/
def selfSet (f : Str × Pos × Pos × Pos × Pos) : Stmt := .Assign [.Attribute (.Name "self" f.2.1) f.1 f.2.2.1] (.Name f.1 f.2.2.2.1) f.2.2.2.2
/-- what the text says of an __init__ with the fields fs -/
structure XDef (fs : List Str) (st : Stmt) : Prop where
  body : ∃ (a : List (Str × Pos)) (b : List (Str × Pos × Pos × Pos × Pos)) (p0 p1 p2 p3 p4 : Pos), a.map (·.1) = fs ∧ b.map (·.1) = fs ∧ L2.defBody st = supCall a p0 p1 p2 p3 p4 :: b.map selfSet ∧ SupGoes a p0 p1 p2 p3
  par : ∃ ar, ((L2.defArgs st).posonlyargs ++ (L2.defArgs st).args).head? = some ar ∧ ar.arg = "self"
  kind : (L2.defScope st).kind = .function
  co : (L2.defScope st).isCoroutine = false
  gen : (L2.defScope st).isGenerator = false
  cells : ∀ x ∈ (L2.defScope st).names, x.2 ≠ .cell
  sup : (L2.defScope st).names.lookup ("super" : Str) = some .globalImplicit
  cls : (L2.defScope st).names.lookup ("__class__" : Str) = some .free
  slf : (L2.defScope st).names.lookup ("self" : Str) = some .local
  loc : ∀ f ∈ fs, (L2.defScope st).names.lookup f = some .local ∧ (f == ("__debug__" : Str)) = false ∧ f ≠ "self"
  nd : fs.Nodup
  ne : fs ≠ []
  bind : ∀ (qual : Str) (doc pm : Value) (an : Option Addr) (cdv ct : Value) (cc : Addr) (us : List Value), us.length = fs.length + 1 →
    bindArgs (fnX "__init__" qual (L2.defArgs st) (L2.defBody st) (L2.defScope st) [("__class__", cc)] .none .none doc pm an cdv ct) ⟨us, []⟩ = pure (((("self" : Str)) :: fs).zip us)
/-- what the written part says of the class -/
structure XCls (prog : Program) (K : Frag) (mg : Str → Option Value) (n : String) (C fI : Addr) (fs : List Str) : Prop where
  gC : mg (Str.ofString n) = some (.ref C)
  ox : L2.OexC K C
  noF : ∀ f ∈ fs, findIn K (.ref C) f = some none
  iC : findIn K (.ref C) "__init__" = some (some (.ref fI))
  tI : typeIn K (.ref fI) = some (.type "function")
  fn : ∃ (st : Stmt) (oc : Value) (od : Option Addr) (qual : Str) (doc pm : Value) (an : Option Addr) (cda : Addr) (ct : Value) (osl : Array (Option Value)) (cc : Addr) (vs : Array Value) (file : Str) (tf : Tok) (ccl : Value) (cdd : Option Addr) (ccs : Array (Option Value)) (cl : Value) (cld : Option Addr) (csl : Array (Option Value)),
    XDef fs st ∧ K.lookup fI = some ⟨oc, od, .func (fnX "__init__" qual (L2.defArgs st) (L2.defBody st) (L2.defScope st) [("__class__", cc)] .none .none doc pm an (.ref cda) ct), osl⟩ ∧ codeIn K (.ref cda) qual = true ∧
    K.lookup cda = some ⟨ccl, cdd, .fields vs, ccs⟩ ∧ vs[2]? = some (.str file tf) ∧ ((prog.main.file : Str) == file) = true ∧ K.lookup cc = some ⟨cl, cld, .cell (some (.ref C)), csl⟩
  su : ks_superIn K C C "__init__" = some (some (.builtin "ValueError.__init__"))
  sv : subIn K (.ref C) (.type "ValueError") = some true
  ss : mroIn K C (.ref C) = some true
  op : nsIn K cStatics "thirdparty.any" = some none
  ms : mg "super" = none
  tp : (prog.main.scope.names.lookup ("super" : Str)).isSome = false

section
variable {prog : Program} {w : World} {M : Model} {A : Around} {E : Value → Shared → Prop} {s : Shared} {env : Env}
theorem ld_loc {m : Str → Option Value} {x : Str} {pos : Pos} {v : Value} {Q : Value → Shared → Prop} (hn : s.heap.Ns env.locals m) (hv : m x = some v) (hk : env.scope.kind = .function) (hl : env.kindOf x = some .local) (hd : (x == ("__debug__" : Str)) = false) (h : Q v s) :
    wpAny M A (eval (.Name x pos) env) Q E s := wpAny_Name (wpAny_loadName_local hk hl hn hv h) hd
theorem back_cons {pos : Pos} {t : Sem Value} {r : List (Bool × Sem Value)} : backTo pos ((false, t) :: r) = (false, t) :: backTo pos r := rfl
theorem star_name {x : Str} {p : Pos} {es : List PySem.Expr} : starEach (.Name x p :: es) env = (false, eval (.Name x p) env) :: starEach es env := rfl
/-- the names f1, .. as arguments -/
theorem spl_names {m : Str → Option Value} {pos : Pos} (hn : s.heap.Ns env.locals m) (hk : env.scope.kind = .function) : ∀ (fs : List (Str × Pos)) (vs : List Value) {Q : List Value → Shared → Prop}, Paired (fun f v => m f.1 = some v ∧ env.kindOf f.1 = some .local ∧ (f.1 == ("__debug__" : Str)) = false) fs vs → Q vs s →
    wpAny M A (spliced (backTo pos (starEach (fs.map fun f => PySem.Expr.Name f.1 f.2) env))) Q E s
  | [], _, Q, .nil, q => spliced_nil q
  | f :: fs, _, Q, .cons (b := v) ⟨h1, h2, h3⟩ r, q => by
    rw [List.map_cons, star_name, back_cons]
    exact spliced_cons (ld_loc hn h1 hk h2 h3 (spl_names hn hk fs _ r q))
theorem plain_names {pos : Pos} : ∀ fs : List (Str × Pos), (backTo pos (starEach (fs.map fun f => PySem.Expr.Name f.1 f.2) env)).any (·.1) = false
  | [] => rfl
  | f :: fs => by
    rw [List.map_cons, star_name, back_cons]
    show (false || (backTo pos (starEach (fs.map fun f => PySem.Expr.Name f.1 f.2) env)).any (·.1)) = false
    rw [plain_names fs]; rfl
end
section
variable {prog : Program} {w : World} {A : Around} {E : Value → Shared → Prop} {K : Frag} {mg : Str → Option Value} {n : String} {C fI : Addr} {fs : List Str}
/-- the bound __init__ of ValueError, called: it keeps the arguments in a new tuple -/
theorem call_wrapped {h : Heap} {g : Array GenState} {d : Drawn} {t : Nat} {os : OsState} {nm q : Str} {N : Addr} {bs bm : List Value} {hdct : Bool} {sn : List Str} {sub : List Value} {ab : Bool} {col : Option Bool} {dd : Option Addr} {k0 k1 k2 k3 k5 : Option Value} {u x t0 : Addr} {rest : List Value} {Q : Value → Shared → Prop}
    (hC : h.get? C = some (excClassObj nm q C N bs bm hdct sn sub ab col dd k0 k1 k2 k3 k5 "ValueError.__new__")) (hx : h.get? x = some (excO C t0)) (hu : h.get? u = some (kxs_mw "ValueError.__init__" x)) (hz : rest.length ≤ sizeLine)
    (hq : ∀ h' t1, (∀ b o, b ≠ x → h.get? b = some o → h'.get? b = some o) → h'.get? x = some (excO C t1) → Q .none ⟨h', g, d, t, os⟩) : wpAny (model prog w) A (call (.ref u) rest) Q E ⟨h, g, d, t, os⟩ := by
  have FB := F.excBase_ValueError
  refine wpAny_call (codeAny_of_tree ?_)
  show wpAny _ A.in1 (callAny (.ref u) ⟨rest, []⟩) _ _ _
  simp only [callAny]
  refine wpAny_bind (wpAny_load hu ?_)
  have e1 : (Value.type "method-wrapper" == Value.type "method" || Value.type "method-wrapper" == Value.type "builtin_function_or_method" || Value.type "method-wrapper" == Value.type "method-wrapper") = true := by decide
  simp only [kxs_mw, e1, if_true]
  refine KFB.if_so (by decide) (wpAny_bind (check_bound_init FB.toExcCallFacts hC hx rfl (wpAny_bind (wpAny_pure (wpAny_pure ?_)))))
  exact ⟨plainId_quiet FB.init.plain _, codeAny_builtin FB.initEntry (exc_init_tree (cls := .ref C) (t0 := t0) (dv := none) (c2 := .none) (c3 := .none) (b4 := .bool false) hx hz fun h' k e' _ => hq h' _ k e')⟩
/-- super().__init__(f1, ..) in the __init__ -/
theorem x_super (T : XCls prog K mg n C fI fs) {st : Stmt} {qual : Str} {doc pm : Value} {an : Option Addr} {cda cc L x t0 : Addr} {ct : Value} {vs : Array Value} {file : Str} {tf : Tok} {oc ccl cl : Value} {od cdd cld : Option Addr} {osl ccs csl : Array (Option Value)} {m : Str → Option Value} {a : List (Str × Pos)} {p0 p1 p2 p3 p4 : Pos} {us : List Value} {body : List Stmt} {Q : Flow → Shared → Prop} {s : Shared}
    (D : XDef fs st) (sg : SupGoes a p0 p1 p2 p3) (ho : K.lookup fI = some ⟨oc, od, .func (fnX "__init__" qual (L2.defArgs st) (L2.defBody st) (L2.defScope st) [("__class__", cc)] .none .none doc pm an (.ref cda) ct), osl⟩)
    (hcode : K.lookup cda = some ⟨ccl, cdd, .fields vs, ccs⟩) (hvs : vs[2]? = some (.str file tf)) (hfile : ((prog.main.file : Str) == file) = true) (hcell : K.lookup cc = some ⟨cl, cld, .cell (some (.ref C)), csl⟩)
    (X : K.In s.heap) (G : s.heap.Ns mainGlobals mg) (Bt : ∃ mb, s.heap.Ns builtinsNs mb ∧ ∀ x : Str, x ≠ "__name__" → mb x = bootBuiltins x) (hx : s.heap.get? x = some (excO C t0)) (hn : s.heap.Ns L m) (hs : m "self" = some (.ref x))
    (ha : Paired (fun f v => m f.1 = some v ∧ (L2.defScope st).names.lookup f.1 = some .local ∧ (f.1 == ("__debug__" : Str)) = false) a us) (hne : us ≠ []) (hz : us.length ≤ sizeLine)
    (hq : ∀ h' t1 tk, (∀ b o, b ≠ x → s.heap.get? b = some o → h'.get? b = some o) → h'.get? x = some (excO C t1) → Q .next { s with heap := h', toks := tk }) :
    _root_.PySem.wpAt (model prog w) A (.func body (ksEnv qual (L2.defScope st) L fI (.ref cda) cc)) (exec (supCall a p0 p1 p2 p3 p4) (ksEnv qual (L2.defScope st) L fI (.ref cda) cc)) Q E s := by
  obtain ⟨nm, q, N, bs, bm, sn, sub, ab, col, dd, k0, k1, k2, k3, k5, hC, hbm⟩ := T.ox.cls
  obtain ⟨ar, har, hsf⟩ := D.par
  obtain ⟨mb, hmb, hbt⟩ := Bt
  have hcl : clsIn K C = some { name := nm, bases := bs, mro := .ref C :: bm, ns := N, qualname := q, hasDict := true, slotNames := sn, subclasses := sub, abstract := ab, collection := col, hasDel := false } := by unfold clsIn; rw [hC] <;> rfl
  have I0 : InstAt s.heap x (excO C t0) C none := ⟨hx, rfl, rfl, trivial⟩
  have hxC : x ≠ C := ks_ne X I0 hcl
  obtain ⟨hp, g, d, t, os⟩ := s
  have hi : interactive (ksEnv qual (L2.defScope st) L fI (.ref cda) cc) = false := by
    unfold interactive
    rw [show (ksEnv qual (L2.defScope st) L fI (.ref cda) cc).scope.kind = .function from D.kind]
    rfl
  obtain ⟨⟨pl, hev⟩, hsw⟩ := sg (ksEnv qual (L2.defScope st) L fI (.ref cda) cc)
  refine ks_wpAt_Expr_any ?_ hi (hsw _)
  refine ks_wpAt_MethodCall (pl := pl) ?_ hev
  have hk : (ksEnv qual (L2.defScope st) L fI (.ref cda) cc).scope.kind = .function := D.kind
  refine ks_wpAt_super_base (env := ksEnv qual (L2.defScope st) L fI (.ref cda) cc) D.sup D.cls (by decide +kernel) rfl (X _ _ ho) rfl har rfl (X _ _ hcode) rfl hvs hfile T.tp ?_
  refine ks_loadName_global hk D.sup (loadGlobal_builtin (env := ksEnv qual (L2.defScope st) L fI (.ref cda) cc) G T.ms hmb ((hbt "super" (by decide +kernel)).trans (by decide +kernel)) ⟨rfl, ?_⟩)
  refine wpAny_loadName_free hk D.cls rfl ⟨_, X _ _ hcell, rfl⟩ ?_
  rw [hsf]
  refine wpAny_loadName_local hk D.slf hn hs ?_
  refine ks_wpAny_isType_cls (X _ _ hC) rfl ⟨rfl, ?_⟩
  refine ks_wpAny_call_super (X _ _ hC) rfl hx rfl (fun c e => nomatch e) (looks_mroIn X T.ss) (fun h1 e1 kp1 => ?_)
  have X1 : K.In h1 := X.keeps kp1
  have hx1 := kp1 _ _ hx
  have I1 : InstAt h1 x (excO C t0) C none := ⟨hx1, rfl, rfl, trivial⟩
  have su := T.su
  unfold ks_superIn at su
  rw [hcl] at su
  refine kxs_getMethod kxs_ValueError e1 (looks_opaque X1 T.op) (l₀ := .ref C :: bm) (fun A Q E s k q => wpAny_bind ((looks_clsIn X1 hcl) A _ E s k (wpAny_pure q))) rfl X1 su (I1.type.andThen (looks_subIn X1 T.sv)) hxC (by decide +kernel) ?_
  have kp2 : ∀ b o, h1.get? b = some o → (h1.push (kxs_mw "ValueError.__init__" x)).get? b = some o := fun b o e => Heap.get?_push_of_some _ e
  have hmw : (h1.push (kxs_mw "ValueError.__init__" x)).get? h1.objs.size = some (kxs_mw "ValueError.__init__" x) := Heap.get?_push_at rfl rfl
  refine kxs_callWith (i := "ValueError.__init__") (x := x) (plain_names a) ?_
  have hn2 : (h1.push (kxs_mw "ValueError.__init__" x)).Ns L m := (hn.keeps kp1).keeps kp2
  have ev : ∀ {Q' : Args → Shared → Prop}, Q' ⟨us, []⟩ ⟨h1.push (kxs_mw "ValueError.__init__" x), g, d, t + 1, os⟩ → wpAny (model prog w) A (evalArgs (.ref h1.objs.size) true (backTo p3 (starEach (a.map fun f => PySem.Expr.Name f.1 f.2) (ksEnv qual (L2.defScope st) L fI (.ref cda) cc))) []) Q' E ⟨h1.push (kxs_mw "ValueError.__init__" x), g, d, t + 1, os⟩ := fun {Q'} q' => by
    cases ha with
    | nil => exact (hne rfl).elim
    | cons r rs =>
      have sp := spl_names (M := model prog w) (A := A) (E := E) (pos := p3) (env := ksEnv qual (L2.defScope st) L fI (.ref cda) cc) (s := ⟨h1.push (kxs_mw "ValueError.__init__" x), g, d, t + 1, os⟩) hn2 hk _ _ (Q := fun vs s' => Q' ⟨vs, []⟩ s') (Paired.cons r rs) q'
      rw [List.map_cons, star_name, back_cons] at sp ⊢
      exact evalArgs_plain sp
  refine ev ⟨hmw, ?_⟩
  show wpAny _ _ (call (.ref h1.objs.size) us) _ _ _
  exact call_wrapped (kp2 _ _ (X1 _ _ hC)) (kp2 _ _ hx1) hmw hz fun h' t1 k e' => hq h' t1 _ (fun b o hb e => k b o hb (kp2 _ _ (kp1 _ _ e))) e'
/-- what an __init__ leaves of a fresh error at x -/
structure XEnd (h h' : Heap) (x C dx : Addr) (l : List (Str × Value)) : Prop where
  keep : ∀ b o, b ≠ x → h.get? b = some o → h'.get? b = some o
  obj : ∃ t1 : Addr, h'.get? x = some { cls := .ref C, dict := some dx, data := .fields #[.ref t1, .none, .none, .none, .bool false, .none] }
  dbig : h.objs.size ≤ dx
  dne : dx ≠ x
  ns : h'.Ns1 dx (fun y => l.lookup y)
theorem lookup_snoc {l : List (Str × Value)} {f : Str} {v : Value} (h : f ∉ l.map (·.1)) : (fun y => if y = f then some v else l.lookup y) = fun y => (l ++ [(f, v)]).lookup y := by
  funext y
  induction l with
  | nil =>
    by_cases e : y = f
    · subst e; simp [List.lookup]
    · have : (y == f) = false := by simpa using e
      simp [List.lookup, e, this]
  | cons p r ih =>
    obtain ⟨k, u⟩ := p
    simp only [List.map_cons, List.mem_cons, not_or] at h
    have ih := ih h.2
    rw [List.cons_append, List.lookup_cons, List.lookup_cons]
    by_cases e : y == k
    · have ek : y = k := by simpa using e
      rw [e]
      have : y ≠ f := fun z => h.1 (by rw [← z, ek])
      rw [if_neg this]
    · have e' : (y == k) = false := by simpa using e
      rw [e']
      exact ih
theorem within_lookup (l : List (Str × Value)) : Within (fun y => l.lookup y) (l.map (·.1)) := by
  intro y hy
  have hy' : (l.lookup y).isSome = true := by
    cases e : l.lookup y with
    | none => exact absurd e hy
    | some _ => rfl
  obtain ⟨v, e⟩ := Option.isSome_iff_exists.mp hy'
  exact List.mem_map_of_mem (f := (·.1)) (PySem.mem_of_lookup e)
/-- the further fields -/
theorem x_sets (T : XCls prog K mg n C fI fs) {cd : ClassData} (hcl : clsIn K C = some cd) (hm : refsVE cd.mro = true) (hh : cd.hasDict = true) {env : Env} {L x dx : Addr} {m : Str → Option Value} (hk : env.scope.kind = .function) (hL : env.locals = L) (hsl : env.kindOf "self" = some .local) (hs : m "self" = some (.ref x)) (hLd : L ≠ dx) :
    ∀ (b : List (Str × Pos × Pos × Pos × Pos)) (us : List Value) (l : List (Str × Value)) (s : Shared) {Q : Flow → Shared → Prop}, Paired (fun f v => m f.1 = some v ∧ env.kindOf f.1 = some .local ∧ (f.1 == ("__debug__" : Str)) = false ∧ f.1 ∈ fs) b us → ((l.map (·.1)) ++ b.map (·.1)).Nodup → l.length + b.length ≤ 1000 →
      K.In s.heap → s.heap.Ns L m → (∃ t1 : Addr, s.heap.get? x = some { cls := .ref C, dict := some dx, data := .fields #[.ref t1, .none, .none, .none, .bool false, .none] }) → s.heap.Ns1 dx (fun y => l.lookup y) → K.lookup dx = none → dx ≠ x →
      (∀ h' tk, (∀ b o, b ≠ dx → s.heap.get? b = some o → h'.get? b = some o) → h'.Ns1 dx (fun y => (l ++ (b.map (·.1)).zip us).lookup y) → Q .next { s with heap := h', toks := tk }) →
      wpAny (model prog w) A (execs (b.map selfSet) env) Q E s
  | [], _, l, s, Q, .nil, _, _, _, _, _, hns, _, _, hq => wpAny_execs_nil (by
      have := hq s.heap s.toks (fun _ _ _ e => e) (by simpa using hns)
      exact this)
  | f :: b, _, l, s, Q, .cons (b := v) ⟨h1, h2, h3, h4⟩ r, nd, hz, X, hn, ⟨t1, hx⟩, hns, hKd, hdx, hq => by
    rw [List.map_cons]
    have hn' : s.heap.Ns env.locals m := by rw [hL]; exact hn
    refine wpAny_execs_cons (plainObj_wpAny_Assign_Attribute (ld_loc hn' h1 hk h2 h3 (ld_loc hn' hs hk hsl (by decide +kernel) ?_)) rfl)
    obtain ⟨oD, esD, epD, hoD, hdD, _⟩ := hns.count (within_lookup l)
    refine set_plain X (ox := { cls := .ref C, dict := some dx, data := .fields #[.ref t1, .none, .none, .none, .bool false, .none] }) (od := some oD) ⟨hx, rfl, rfl, hoD⟩ T.ox.sa ?_
    refine OEX.osa_old (nl := l.map (·.1)) X hx hns (within_lookup l) (by rw [List.length_map]; simp only [List.length_cons] at hz; omega) hcl hm hh (T.noF _ h4) fun h' tk' k hns' => ?_
    have nf : f.1 ∉ l.map (·.1) := fun hm => by
      rw [List.map_cons, List.nodup_append] at nd
      exact nd.2.2 _ hm _ List.mem_cons_self rfl
    rw [lookup_snoc nf] at hns'
    have KX : K.In h' := fun a o e => k a o (fun z => by rw [z, hKd] at e; cases e) (X a o e)
    refine x_sets T hcl hm hh hk hL hsl hs hLd b _ (l ++ [(f.1, v)]) { s with heap := h', toks := tk' } r ?_ ?_ KX ?_ ⟨t1, k _ _ (Ne.symm hdx) hx⟩ hns' hKd hdx fun h2 tk2 k2 hns2 => ?_
    · rw [List.map_append, List.append_assoc]; simpa using nd
    · rw [List.length_append]; simp only [List.length_cons, List.length_nil] at hz ⊢; omega
    · obtain ⟨o, es, ep, e, r⟩ := hn; exact ⟨o, es, ep, k _ _ hLd e, r⟩
    · refine hq h2 tk2 (fun b o hb e => k2 b o hb (k b o hb e)) ?_
      rw [List.append_assoc] at hns2
      exact hns2
theorem lookup_rev {y : Str} : ∀ {l : List (Str × Value)}, (l.map (·.1)).Nodup → l.reverse.lookup y = l.lookup y
  | [], _ => rfl
  | (k, u) :: r, nd => by
    rw [List.map_cons, List.nodup_cons] at nd
    rw [List.reverse_cons]
    have key : ∀ (l : List (Str × Value)) (k : Str) (u : Value), k ∉ l.map (·.1) → (l ++ [(k, u)]).lookup y = if y = k then some u else l.lookup y := fun l k u h => (congrFun (lookup_snoc (v := u) h) y).symm
    rw [key r.reverse k u (by rw [List.map_reverse]; simpa using nd.1), lookup_rev nd.2, List.lookup_cons]
    by_cases e : y = k
    · subst e; simp
    · have : (y == k) = false := by simpa using e
      rw [if_neg e, this]
theorem lookup_zip : ∀ {fs : List Str} {us : List Value} {i : Nat} {f : Str} {v : Value}, fs.Nodup → fs[i]? = some f → us[i]? = some v → (fs.zip us).lookup f = some v
  | [], _, _, _, _, _, h, _ => by simp at h
  | _ :: _, [], _, _, _, _, _, h => by simp at h
  | g :: fs, u :: us, 0, f, v, _, h1, h2 => by
    simp at h1 h2; subst h1; subst h2
    simp [List.zip_cons_cons, List.lookup]
  | g :: fs, u :: us, i + 1, f, v, nd, h1, h2 => by
    rw [List.nodup_cons] at nd
    have hf : f ∈ fs := List.mem_of_getElem? (by simpa using h1)
    have : (f == g) = false := by simpa using fun z : f = g => nd.1 (z ▸ hf)
    rw [List.zip_cons_cons, List.lookup_cons, this]
    exact lookup_zip (i := i) nd.2 (by simpa using h1) (by simpa using h2)
theorem paired_by {α : Type} {P : Str → Value → Prop} (nm : α → Str) : ∀ {c : List α} {us : List Value}, c.length = us.length → (∀ (i : Nat) (f : Str) (v : Value), (c.map nm)[i]? = some f → us[i]? = some v → P f v) → Paired (fun x v => P (nm x) v) c us
  | [], [], _, _ => .nil
  | [], _ :: _, h, _ => by simp at h
  | _ :: _, [], h, _ => by simp at h
  | x :: c, v :: us, h, q => .cons (q 0 _ _ rfl rfl) (paired_by nm (by simpa using h) fun i f v h1 h2 => q (i + 1) f v (by simpa using h1) (by simpa using h2))
/-- the __init__ runs -/
theorem x_init (T : XCls prog K mg n C fI fs) {s : Shared} {R : Result → Shared → Prop} {x t0 : Addr} {us : List Value} (X : K.In s.heap) (hlim : s.heap.NoLimit) (G : s.heap.Ns mainGlobals mg) (Bt : ∃ mb, s.heap.Ns builtinsNs mb ∧ ∀ x : Str, x ≠ "__name__" → mb x = bootBuiltins x)
    (hx : s.heap.get? x = some (excO C t0)) (hKx : K.lookup x = none) (hgx : mainGlobals ≠ x) (hroom : A.depth < recursionLimit) (hl : us.length = fs.length) (hz : us.length ≤ 1000)
    (hq : ∀ h' tk dx, XEnd s.heap h' x C dx (fs.zip us) → R (.ok (.ret .none)) { s with heap := h', toks := tk }) : codeAny (model prog w) A (.call (.ref fI) ⟨.ref x :: us, []⟩) R s := by
  obtain ⟨st, oc, od, qual, doc, pm, an, cda, ct, osl, cc, vs, file, tf, ccl, cdd, ccs, cl, cld, csl, D, ho, hcd, hcode, hvs, hfile, hcell⟩ := T.fn
  obtain ⟨a, b, p0, p1, p2, p3, p4, ea, eb, hbody, sg⟩ := D.body
  obtain ⟨nm, q, N, bs, bm, sn, sub, ab, col, dd, k0, k1, k2, k3, k5, hC, hbm⟩ := T.ox.cls
  have hcl : clsIn K C = some { name := nm, bases := bs, mro := .ref C :: bm, ns := N, qualname := q, hasDict := true, slotNames := sn, subclasses := sub, abstract := ab, collection := col, hasDel := false } := by unfold clsIn; rw [hC] <;> rfl
  have hb := D.bind qual doc pm an (.ref cda) ct cc (.ref x :: us) (by rw [List.length_cons, hl])
  refine ks_codeAny_call_defAt (fd := fnX "__init__" qual (L2.defArgs st) (L2.defBody st) (L2.defScope st) [("__class__", cc)] .none .none doc pm an (.ref cda) ct) (body := L2.defBody st) (binds := ((("self" : Str)) :: fs).zip (.ref x :: us)) hroom (X _ _ ho) rfl hlim (codeRec_of X hcd) rfl (.of_eq hb) D.cells (fun y hy => ?_) (fun h1 hns hk1 => ?_) D.co D.gen D.kind
  · have := (List.of_mem_zip hy).1
    rcases List.mem_cons.mp this with e | e
    · rw [e]; exact D.slf
    · exact (D.loc _ e).1
  · have ndS : ((("self" : Str)) :: fs).Nodup := List.nodup_cons.mpr ⟨fun h => (D.loc _ h).2.2 rfl, D.nd⟩
    have mz : (((("self" : Str)) :: fs).zip (Value.ref x :: us)).map (·.1) = ("self" : Str) :: fs := by
      rw [List.map_fst_zip (by simp [hl])]
    have mk : ∀ y, (((("self" : Str)) :: fs).zip (Value.ref x :: us)).reverse.lookup y = (((("self" : Str)) :: fs).zip (Value.ref x :: us)).lookup y := fun y => lookup_rev (by rw [mz]; exact ndS)
    have mself : (((("self" : Str)) :: fs).zip (Value.ref x :: us)).reverse.lookup ("self" : Str) = some (.ref x) := by
      rw [mk]; exact lookup_zip (i := 0) ndS rfl rfl
    have mf : ∀ (i : Nat) (f : Str) (v : Value), fs[i]? = some f → us[i]? = some v → (((("self" : Str)) :: fs).zip (Value.ref x :: us)).reverse.lookup f = some v := fun i f v h1 h2 => by
      rw [mk]; exact lookup_zip (i := i + 1) ndS (by simpa using h1) (by simpa using h2)
    have la : a.length = us.length := by rw [hl, ← ea, List.length_map]
    have lb : b.length = us.length := by rw [hl, ← eb, List.length_map]
    have hune : us ≠ [] := fun z => D.ne (List.length_eq_zero_iff.mp (by rw [← hl, z]; rfl))
    have hxL : s.heap.objs.size ≠ x := Nat.ne_of_gt (Heap.lt_size hx)
    have hsz : us.length ≤ sizeLine := Nat.le_trans hz (by decide)
    rw [hbody]
    refine ks_wpAt_execs_cons ?_
    refine x_super T (st := st) (L := s.heap.objs.size) (us := us) (s := { s with heap := h1, toks := s.toks + (((("self" : Str)) :: fs).zip (Value.ref x :: us)).length }) D sg ho hcode hvs hfile hcell (X.keeps hk1) (G.keeps hk1) (by obtain ⟨mb, e1, e2⟩ := Bt; exact ⟨mb, e1.keeps hk1, e2⟩) (hk1 _ _ hx) hns mself
      (paired_by (P := fun f v => (((("self" : Str)) :: fs).zip (Value.ref x :: us)).reverse.lookup f = some v ∧ (L2.defScope st).names.lookup f = some .local ∧ (f == ("__debug__" : Str)) = false) (·.1) la fun i f v e1 e2 => by
        rw [ea] at e1
        exact ⟨mf i f v e1 e2, (D.loc f (List.mem_of_getElem? e1)).1, (D.loc f (List.mem_of_getElem? e1)).2.1⟩) hune hsz fun h2 t2 tk2 kp2 e2 => ?_
    have k2' : ∀ c o, c ≠ x → s.heap.get? c = some o → h2.get? c = some o := fun c o hc e => kp2 c o hc (hk1 c o e)
    have X2 : K.In h2 := fun c o e => k2' c o (fun z => by rw [z, hKx] at e; cases e) (X c o e)
    have hn2 : h2.Ns s.heap.objs.size (fun y => (((("self" : Str)) :: fs).zip (Value.ref x :: us)).reverse.lookup y) := by
      obtain ⟨o, es, ep, e, r⟩ := hns; exact ⟨o, es, ep, kp2 _ _ hxL e, r⟩
    refine wpAt_of_wpAny ?_
    cases b with
    | nil => exact (hune (List.length_eq_zero_iff.mp lb.symm)).elim
    | cons f0 b0 =>
      cases us with
      | nil => exact (hune rfl).elim
      | cons v0 us0 =>
        rw [List.map_cons]
        have ef0 : fs[0]? = some f0.1 := by rw [← eb]; rfl
        have m0 : f0.1 ∈ fs := List.mem_of_getElem? ef0
        have l0 := D.loc _ m0
        have fss : fs = f0.1 :: b0.map (·.1) := by rw [← eb]; rfl
        refine wpAny_execs_cons (plainObj_wpAny_Assign_Attribute (ld_loc hn2 (mf 0 _ _ ef0 rfl) D.kind l0.1 l0.2.1 (ld_loc hn2 mself D.kind D.slf (by decide +kernel) ?_)) rfl)
        refine set_plain X2 (ox := excO C t2) (od := none) ⟨e2, rfl, rfl, trivial⟩ T.ox.sa ?_
        refine exc_osa X2 e2 hcl (show refsVE (.ref C :: bm) = true from hbm) rfl (T.noF _ m0) fun h3 tk3 dx k3 dbig dne e3 hns3 => ?_
        have hLd : s.heap.objs.size < dx := Nat.lt_of_lt_of_le hn2.lt dbig
        have hKd : K.lookup dx = none := by
          cases z : K.lookup dx with
          | none => rfl
          | some o => exact absurd (Nat.lt_of_lt_of_le (Heap.lt_size (X2 _ _ z)) dbig) (Nat.lt_irrefl _)
        have e1 : (fun y => if y = f0.1 then some v0 else none) = fun y => ([(f0.1, v0)] : List (Str × Value)).lookup y := by
          have := lookup_snoc (l := []) (f := f0.1) (v := v0) (by simp)
          simpa using this
        rw [e1] at hns3
        refine x_sets T hcl (show refsVE (.ref C :: bm) = true from hbm) rfl (env := ksEnv qual (L2.defScope st) s.heap.objs.size fI (.ref cda) cc) (m := fun y => ((("self" : Str) :: fs).zip (Value.ref x :: v0 :: us0)).reverse.lookup y) D.kind rfl D.slf mself (Nat.ne_of_lt hLd) b0 us0 [(f0.1, v0)] _ ?_ ?_ ?_ (fun c o e => k3 c o (fun z => by rw [z, hKx] at e; cases e) (X2 c o e)) ?_ ⟨t2, e3⟩ hns3 hKd dne fun h4 tk4 k4 hns4 => ?_
        · refine paired_by (P := fun f v => (((("self" : Str)) :: fs).zip (Value.ref x :: v0 :: us0)).reverse.lookup f = some v ∧ (L2.defScope st).names.lookup f = some .local ∧ (f == ("__debug__" : Str)) = false ∧ f ∈ fs) (fun y : Str × Pos × Pos × Pos × Pos => y.1) (by simpa using lb) fun i f v h1 h2 => ?_
          have e1 : fs[i + 1]? = some f := by rw [fss]; simpa using h1
          have lf := D.loc f (List.mem_of_getElem? e1)
          exact ⟨mf (i + 1) f v e1 (by simpa using h2), lf.1, lf.2.1, List.mem_of_getElem? e1⟩
        · have := D.nd
          rw [fss] at this
          simpa using this
        · have : b0.length = us0.length := by simpa using lb
          simp only [List.length_cons, List.length_nil] at hz ⊢
          omega
        · obtain ⟨o, es, ep, e, r⟩ := hn2; exact ⟨o, es, ep, k3 _ _ hxL e, r⟩
        · refine hq h4 tk4 dx ⟨fun c o hc e => ?_, ⟨t2, k4 _ _ (Ne.symm dne) e3⟩, Nat.le_of_lt hLd, dne, ?_⟩
          · exact k4 c o (Nat.ne_of_lt (Nat.lt_trans (Heap.lt_size e) hLd)) (k3 c o hc (k2' c o hc e))
          · rw [fss, List.zip_cons_cons]
            simpa using hns4
end
end BP

set_option maxRecDepth 100000
set_option maxHeartbeats 4000000
/-! BpX2: raise, try. -/
namespace BP
open PySem PySem.Spec PyProof.Rows L2

theorem relO_zip : ∀ (fs : List Str) {vs : List V} {us : List Value} (f : Str), Vals vs us → RelO ((fs.zip vs).lookup f) ((fs.zip us).lookup f)
  | [], _, _, f, _ => by simp [List.zip, List.lookup]; exact True.intro
  | _ :: _, _, _, f, .nil => by simp [List.zip, List.lookup]; exact True.intro
  | g :: fs, _, _, f, .cons r rs => by
    rw [List.zip_cons_cons, List.zip_cons_cons, List.lookup_cons, List.lookup_cons]
    cases f == g with
    | true => exact r
    | false => exact relO_zip fs f rs
theorem rdf_zip {K : PySem.W.Frag} {F : Hp} : ∀ (fs : List Str) {ds : List D} {vs : List V}, RDs K F ds vs → RDf K F (fs.zip ds) (fs.zip vs)
  | [], _, _, _ => .nil
  | _ :: _, _, _, .nil => .nil
  | _ :: fs, _, _, .cons r rs => .cons r (rdf_zip fs rs)
def tMkX (C : Addr) (fs : List Str) (ta : TA) : L2.St → Hp → XK → Prop := fun σ H Q => ta σ H fun vs H1 => vs.length = fs.length ∧ vs.length ≤ 1000 ∧ ∀ d, H1 d = none → Q (.ref C) (some d) (upd H1 d (.xd (fs.zip vs)))
section
variable {X : Cx} {B : Bs} {e : Expr} {es : List Expr} {ta : TA} {wa : WA} {n : String} {C fI : Addr} {fs : List Str} {k : Nat} {p pos pos2 : Pos} {Es : MSt → XQ}
/-- C(e, ..) -/
theorem pmk_x (T : XCls X.prog X.K X.mg n C fI fs) (hr : Room (k + 1) X.A) (ha : PA X (e :: es) ta) (hg : Gl X (Str.ofString n) := by rfl) (hdb : (Str.ofString n == ("__debug__" : Str)) = false := by decide)
    (he : starEach (e :: es) X.env = (false, eval e X.env) :: starEach es X.env := by rfl) (hpl : (backTo pos (starEach es X.env)).any (·.1) = false := by rfl) :
    PMk X (.Call (.Name (Str.ofString n) p) (e :: es) [] pos) (tMkX C fs ta) := by
  intro pins s σ H Q I h
  obtain ⟨nm, q, N, bs, bm, sn, sub, ab, col, dd, k0, k1, k2, k3, k5, hC, hbm⟩ := T.ox.cls
  refine wpAny_Call_Name_kw (ld_glob I hg T.gC ?_ hdb)
  refine PySem.W.callWith_K (h₀ := X.base) I.ok.mod.kin T.ox.kC (thn (ha.run pos pins s σ H _ I h) fun us s1 ⟨vs, H1, I1, r1, hl, hz, q1⟩ => ⟨I1.kIn, ?_⟩) he hpl
  show wpAny _ _ (call (.ref C) us) _ _ _
  have hlim := I1.nolimit
  have hgl := I1.mod.glob.keeps I1.bk
  have hbl : ∃ mb, s1.heap.Ns builtinsNs mb ∧ ∀ x : Str, x ≠ "__name__" → mb x = bootBuiltins x := by
    obtain ⟨mb, e1, e2⟩ := I1.mod.blt
    exact ⟨mb, e1.keeps I1.bk, e2⟩
  obtain ⟨hp, g, dr, tk, os⟩ := s1
  have hlu : us.length = fs.length := by rw [← r1.length]; exact hl
  have hzu : us.length ≤ 1000 := by rw [← r1.length]; exact hz
  have kk : ∀ b o, hp.get? b = some o → ((hp.push (PySem.W.kdv_tup us)).push (PySem.HandSPX.excO C hp.objs.size)).get? b = some o := fun b o e => Heap.get?_push_of_some _ (Heap.get?_push_of_some _ e)
  have hget : ((hp.push (PySem.W.kdv_tup us)).push (PySem.HandSPX.excO C hp.objs.size)).get? (hp.objs.size + 1) = some (PySem.HandSPX.excO C hp.objs.size) := by heap_get
  have hnew : ∀ {b : Addr} {o : Obj}, hp.get? b = some o → b ≠ hp.objs.size + 1 := fun {b o} z => Nat.ne_of_lt (Nat.lt_succ_of_lt (Heap.lt_size z))
  have hKx : X.K.lookup (hp.objs.size + 1) = none := by
    cases z : X.K.lookup (hp.objs.size + 1) with
    | none => rfl
    | some o => exact (hnew (I1.kIn _ _ z) rfl).elim
  have hgx : mainGlobals ≠ hp.objs.size + 1 := by
    obtain ⟨o, es, ep, e1, _⟩ := hgl
    exact hnew e1
  refine wpAny_call (PySem.HandSPX.call_own F.excBase_ValueError (fun Y => PySem.HandSPX.refsVE_contains Y bm hbm) (I1.kIn _ _ hC) (PySem.W.looks_findIn I1.kIn T.iC) (fun self => PySem.W.bind_fn I1.kIn self T.tI) (Nat.le_trans hzu (by decide)) ?_)
  refine x_init T (s := ⟨(hp.push (PySem.W.kdv_tup us)).push (PySem.HandSPX.excO C hp.objs.size), g, dr, tk, os⟩) (I1.kIn.keeps kk) (hlim.keeps kk) (hgl.keeps kk) (by obtain ⟨mb, e1, e2⟩ := hbl; exact ⟨mb, e1.keeps kk, e2⟩) hget hKx hgx (hr.make C us []).depth hlu hzu fun h' tk' d M => ?_
  refine ⟨rfl, ?_⟩
  show MkP X pins σ Q (.ref (hp.objs.size + 1)) ⟨h', g, dr, tk', os⟩
  obtain ⟨t1, hoe⟩ := M.obj
  have hns := M.ns
  have dbig : hp.objs.size ≤ d := Nat.le_trans (by show hp.objs.size ≤ ((hp.push _).push _).objs.size; simp [Heap.push]; omega) M.dbig
  obtain ⟨G', g1, g2⟩ := restrict h' fun b => decide (b ≠ hp.objs.size + 1)
  have gk : ∀ b, b ≠ hp.objs.size + 1 → G'.get? b = h'.get? b := fun b hb => g1 b (decide_eq_true hb)
  have ge : G'.get? (hp.objs.size + 1) = none := g2 _ (by simp)
  have old : ∀ b o, hp.get? b = some o → G'.get? b = some o := fun b o q => (gk b (hnew q)).trans (M.keep b o (hnew q) (kk b o q))
  have ob : ObjOk X.prog X.w (upd H1 d (.xd (fs.zip vs))) G' d (.xd (fs.zip vs)) := ⟨_, hns.at (fun o q => (gk d M.dne).trans q), fun f => relO_zip fs f r1⟩
  have J : Inv X pins σ (upd H1 d (.xd (fs.zip vs))) ⟨G', g, dr, tk', os⟩ := I1.laid (t' := tk') old dbig ob
  refine ⟨_, _, _, ⟨G', g, dr, tk', os⟩, _, .ref C, some d, rfl, J, fun b o q => ?_, ge, hoe, ⟨rfl, rfl⟩, rfl, rfl, ?_, rfl, I1.bare, raises_own T.ox.exC T.ox.tyC, q1 d (I1.hok.fresh dbig)⟩
  · by_cases hb : b = hp.objs.size + 1
    · have q' : G'.get? b = some o := q
      rw [hb, ge] at q'; cases q'
    · exact (gk b hb).symm.trans q
  · rw [upd_ne (Ne.symm M.dne)]
    exact I1.hok.fresh (Nat.le_succ _)
/-- raise C(e, ..) -/
def wRaise (Es : MSt → XQ) (n : String) (fs : List Str) (wa : WA) : WS := fun _ σ h => wa σ h fun ds h1 => ds.length = fs.length ∧ ds.length ≤ 1000 ∧ Es σ n (fs.zip ds) h1
theorem ms_raise (hc : X.calm = true) (T : XCls X.prog X.K X.mg n C fI fs) (hr : Room (k + 1) X.A) (tk : TkM X B Es) (ha : MA X B (e :: es) wa) (hg : Gl X (Str.ofString n) := by rfl) (hdb : (Str.ofString n == ("__debug__" : Str)) = false := by decide)
    (he : starEach (e :: es) X.env = (false, eval e X.env) :: starEach es X.env := by rfl) (hpl : (backTo pos (starEach es X.env)).any (·.1) = false := by rfl) :
    MS X B (.Raise (some (.Call (.Name (Str.ofString n) p) (e :: es) [] pos)) none pos2) (wRaise Es n fs wa) :=
  ps_mono (ps_raise hc tk (pmk_x T hr ha hg hdb he hpl)) fun E σ H ⟨F, h, σd, D', l, s, t, c⟩ => ⟨F, h, σd, _, l, s, t, fun F1 H1 h1 ds vs g1 rs t1 => by
    refine ⟨by rw [← rs.length]; exact t1.1, by rw [← rs.length]; exact t1.2.1, fun d nd => ?_⟩
    have gs := Go.settled (o := .xd (fs.zip vs)) g1.sr nd
    exact ⟨_, h1, σd, n, C, d, fs.zip ds, fs.zip vs, rfl, rfl, T.gC, (s.all.trans g1).trans gs, l.mono (g1.trans gs).ss, upd_same, rdf_zip fs (rs.mono gs.ss), t1.2.2⟩⟩
end
end BP

set_option maxRecDepth 100000
set_option maxHeartbeats 4000000
/-! BpX3: try with several clauses, each with or without a name. -/
namespace BP
open PySem PySem.Spec PyProof.Rows L2

/-- a clause: its class, its name's slot, the reading of its suite -/
abbrev Cl := Value × Option Nat × (Addr → Value → Option Addr → TS)
def putE (o : Option Nat) (a : Addr) (τ : L2.St) : L2.St := match o with
  | some i => τ.set i (some (.ref a))
  | none => τ
def offS (o : Option Nat) (τ : L2.St) : L2.St := match o with
  | some i => τ.set i none
  | none => τ
def offE (o : Option Nat) (D : Ends) : Ends := { nx := fun τ G => D.nx (offS o τ) G, rt := D.rt, bk := fun τ G => D.bk (offS o τ) G, ct := fun τ G => D.ct (offS o τ) G }
def wCl (K : PySem.W.Frag) (W0 : WX) (D : Ends) : List Cl → WX
  | [] => W0
  | k :: r => fun cls d τ G => ∃ yes, PySem.W.exmOne K cls k.1 = some yes ∧ (yes = true → ∀ a, G a = none → k.2.2 a cls d (offE k.2.1 D) (putE k.2.1 a τ) G) ∧ (yes = false → wCl K W0 D r cls d τ G)
/-- the name of a clause -/
def ClName (X : Cx) : Option Str → Option Nat → Prop
  | none, none => True
  | some y, some i => X.N[i]? = some y ∧ X.env.kindOf y = some .local
  | _, _ => False
inductive ClsOk (X : Cx) : List ExceptHandler → List Cl → Prop
  | nil : ClsOk X [] []
  | cons {x : Str} {c : Value} {y : Option Str} {o : Option Nat} {ts : Addr → Value → Option Addr → TS} {st : Stmt} {sts : List Stmt} {p1 p2 : Pos} {hr : List ExceptHandler} {lr : List Cl} (nm : Names X x c) (no : ClName X y o)
      (su : ∀ (a : Addr) (ob : Obj) (cls : Value) (d : Option Addr) (pn : List (Addr × Obj)), Zc cls d ob → (∃ vs, ob.data = .fields vs) → PSs (X.suite a ((a, ob) :: pn)) (st :: sts) (ts a cls d)) (rest : ClsOk X hr lr) :
      ClsOk X (.ExceptHandler (some (.Name x p1)) y (st :: sts) p2 :: hr) ((c, o, ts) :: lr)
section
variable {X : Cx} {pins : List (Addr × Obj)} {G : Hp} {τ : L2.St} {S : Shared} {D : Ends} {W0 : WX}
/-- what a caught error is: it lies out of reach, the state is sound -/
structure Caught (X : Cx) (pins : List (Addr × Obj)) (τ : L2.St) (G : Hp) (B : Heap) (cls : Value) (d : Option Addr) (a : Addr) (S : Shared) : Prop where
  fly : HandSPX.FlyingZ B (X.env :: X.outer) a (Zc cls d) S.heap
  next : ∀ h', HandSPX.FlyingZ B (X.env :: X.outer) a (Zc cls d) h' → S.heap.UpToSlots h' → Inv X pins τ G { S with heap := h' }
  up : ∀ h', HandSPX.HeldZ B (X.env :: X.outer) a (Zc cls d) X.env.locals h' → S.heap.UpToSlots h' → ∀ W : WX, W cls d τ G → XE X W (.ref a) { S with heap := h' }
  free : G a = none
  nL : a ≠ X.env.locals
  nF : a ∉ X.fs
theorem Caught.inv {B : Heap} {cls : Value} {d : Option Addr} {a : Addr} (c : Caught X pins τ G B cls d a S) : Inv X pins τ G S := c.next S.heap c.fly (Heap.UpToSlots.refl _)
/-- no clause is left: on -/
theorem cl_none {B : Heap} {cls : Value} {d : Option Addr} {a : Addr} (hf : X.env.frame = some X.env.locals) (tk : Takes X W0) (c : Caught X pins τ G B cls d a S) (w : W0 cls d τ G) :
    wpAny (model X.prog X.w) X.A (handleBy (.ref a) X.env []) (SP X pins D) X.xe S := by
  refine wpAny_handleBy_nil ?_
  have last : wpAny (model X.prog X.w) X.A (setFlight (.ref a) X.env.frame) (fun _ z => wpAny (model X.prog X.w) X.A (throw (.ref a) : Sem Flow) (SP X pins D) X.xe z) X.xe S := by
    rw [hf]
    exact HandSPX.setFlight_upZ c.fly fun h' hh uu => wpAny_throw (tk _ _ (c.up h' hh uu _ w))
  obtain ⟨_, _, _, ob, vs, T, _, _, g1, _, g2, g3, _⟩ := id c.fly
  unfold PySem.passOn
  refine wpAny_bind (wpAny_field g1 g2 g3 ?_)
  have nz : ¬ ((Value.ref T == Value.none) = true) := by simp
  rw [if_neg nz]
  first
    | exact wpAny_bind (wpAny_pure (wpAny_bind last))
    | exact wpAny_bind last
/-- what a suite ends in, told outside -/
theorem cl_end {a : Addr} {ob : Obj} {o : Option Nat} {f : Flow} (ok : X.Ok) (h : SP (X.suite a ((a, ob) :: (X.pn ++ pins))) [] (offE o D) f S) (ho : o = none) : SP X pins D f S := by
  subst ho
  cases f with
  | next => obtain ⟨t6, G6, J, q⟩ := h; exact ⟨t6, G6, J.unsuite ok, q⟩
  | brk => obtain ⟨t6, G6, J, q⟩ := h; exact ⟨t6, G6, J.unsuite ok, q⟩
  | cont => obtain ⟨t6, G6, J, q⟩ := h; exact ⟨t6, G6, J.unsuite ok, q⟩
  | ret u => obtain ⟨v6, t6, G6, J, r, q⟩ := h; exact ⟨v6, t6, G6, J.unsuite ok, r, q⟩
theorem cl_all (hf : X.env.frame = some X.env.locals) (hN : X.N.Nodup) (tk : Takes X W0) {B : Heap} {cls : Value} {d : Option Addr} {a : Addr} (c : Caught X pins τ G B cls d a S) :
    ∀ {hds : List ExceptHandler} {l : List Cl}, ClsOk X hds l → wCl X.K W0 D l cls d τ G → wpAny (model X.prog X.w) X.A (handleBy (.ref a) X.env hds) (SP X pins D) X.xe S := by
  intro hds l hk
  have ok := c.inv.ok
  induction hk with
  | nil => exact fun w => cl_none hf tk c w
  | @cons x cv y o ts st sts p1 p2 hr lr nm no su rest ih =>
    rintro ⟨yes, ey, w1, w2⟩
    obtain ⟨ob, vs, g1, gz, g2⟩ := c.fly.there
    have inS := c.inv.suite g1 g2 c.free c.nL c.nF
    have ty : PySem.W.Looks (model X.prog X.w) S.heap (typeOf (.ref a)) cls := fun _ _ _ _ k q => wpAny_typeOf_ref (k _ _ g1) (by rw [gz.1]; exact q)
    refine wpAny_handleBy_cons (codeAny_handlers_test ?_) (fun q => nomatch q)
    have ld : ∀ {Q : Value → Shared → Prop} {E : Value → Shared → Prop}, Q cv S → wpAny (model X.prog X.w) (X.A.mark (some (.ref a))) (eval (.Name x p1) X.env) Q E S := fun {Q E} q => by
      rcases nm with ⟨n1, n2, n3 | ⟨n3, n4, n5⟩⟩
      · exact ld_glob (X := X.suite a ((a, ob) :: (X.pn ++ pins))) inS n1 n3 q n2
      · exact ld_blt (X := X.suite a ((a, ob) :: (X.pn ++ pins))) inS n1 n3 n4 q n5 n2
    refine ld ((PySem.W.exm_one (M := model X.prog X.w) c.inv.kIn ty ey).here ?_)
    cases yes with
    | false => exact ih (w2 rfl)
    | true =>
      have w3 := w1 rfl a c.free
      cases o with
      | none =>
        cases y with
        | some _ => exact no.elim
        | none =>
          refine codeAny_handlers_suite (HandSPX.lands_againZ c.fly fun h' f' u' => ?_)
          obtain ⟨ob', vs', e1, ez, e2⟩ := f'.there
          have J := (c.next h' f' u').suite e1 e2 c.free c.nL c.nF
          exact wpAny_mono ((su a ob' cls d (X.pn ++ pins) ez ⟨_, e2⟩).run [] _ _ G _ J w3) (fun f s6 z => cl_end ok z rfl) fun _ _ z => z.elim
      | some i =>
        cases y with
        | none => exact no.elim
        | some n =>
          obtain ⟨hi, hl⟩ := no
          refine codeAny_handlers_suite_as (HandSPX.lands_againZ c.fly fun h' f' u' => ?_)
          obtain ⟨ob', vs', e1, ez, e2⟩ := f'.there
          have J := (c.next h' f' u').suite e1 e2 c.free c.nL c.nF
          refine store_ok (X := X.suite a ((a, ob') :: (X.pn ++ pins))) (v := .ref a) J hN hi (.inl hl) rfl (fun s5 J5 => ?_) (.inr hl)
          refine wpAny_mono ((su a ob' cls d (X.pn ++ pins) ez ⟨_, e2⟩).run [] s5 _ G _ J5 w3) (fun f s6 z => ?_) fun _ _ z => z.elim
          cases f with
          | next => obtain ⟨t6, G6, J6, q⟩ := z; exact gone_ok (J6.unsuite ok) hN hi hl fun s7 J7 => ⟨_, _, J7, q⟩
          | brk => obtain ⟨t6, G6, J6, q⟩ := z; exact gone_ok (J6.unsuite ok) hN hi hl fun s7 J7 => ⟨_, _, J7, q⟩
          | cont => obtain ⟨t6, G6, J6, q⟩ := z; exact gone_ok (J6.unsuite ok) hN hi hl fun s7 J7 => ⟨_, _, J7, q⟩
          | ret u => obtain ⟨v6, t6, G6, J6, r, q⟩ := z; exact gone_ok (J6.unsuite ok) hN hi hl fun s7 J7 => ⟨_, _, _, J7, r, q⟩
theorem ps_tryC {body : List Stmt} {h0 : ExceptHandler} {hds : List ExceptHandler} {l : List Cl} {pos : Pos} {tb : WX → TS} (hs : X.stack = X.env :: X.outer) (hf : X.env.frame = some X.env.locals) (hN : X.N.Nodup) (tk : Takes X W0)
    (hb : ∀ (W : WX) (pn : List (Addr × Obj)) (xe : Value → Shared → Prop), Takes (X.tr pn xe) W → PassesOwn (model X.prog X.w) X.A X.env xe → PSs (X.tr pn xe) body (tb W)) (hh : ClsOk X (h0 :: hds) l) :
    PS X (.Try body (h0 :: hds) [] [] pos) (fun D τ G => tb (wCl X.K W0 D l) D τ G) := by
  refine ⟨fun pins S τ G D I h => wpAny_Try_except ?_⟩
  have ok := I.ok
  have hfr : X.A.frames = some (X.env :: X.outer) := ok.frames.trans (by rw [hs])
  refine wpAny_mono ((hb (wCl X.K W0 D l) (X.pn ++ pins) (fun e z1 => wpAny (model X.prog X.w) X.A (noteFrame e X.env) (fun _ z2 => wpAny (model X.prog X.w) X.A (setFlight e none) (fun _ z3 =>
    wpAny (model X.prog X.w) X.A (handleBy e X.env (h0 :: hds)) (SP X pins D) X.xe z3) X.xe z2) X.xe z1) ?_ PassesOwn.looking).run [] S τ G D (I.toTry _) h) (fun f s1 z => ?_) fun _ _ z => z
  · rintro u S' ⟨a, B, sI, pins', σ', H', cls, d, rfl, J', nb, up, sky, na, os, ag, w⟩
    have J : Inv X pins σ' H' sI := J'.ofTry ok
    have sky' : Sky B (X.env :: X.outer) a (Zc cls d) X.env.locals S'.heap := hs ▸ sky
    refine Sky.land Zc.steady hfr hf sky' fun h3 fl3 up3 => ?_
    obtain ⟨ob, vs, g1, gz, g2⟩ := fl3.there
    have nfr : a ∉ frs (X.env :: X.outer) := fun hm => by
      obtain ⟨_, o', e', hnf⟩ := fl3.2.2.1.mem hm
      rw [g1] at e'
      cases e'
      exact hnf _ g2
    refine cl_all (S := { S' with heap := h3 }) hf hN tk ⟨fl3, fun h' f' u' => J.landed nb f'.1 ((up.trans up3).trans u') os ag, fun h' hh' u' W w' => ?_, na, ?_, ?_⟩ hh w
    · exact ⟨a, B, sI, pins, σ', H', cls, d, rfl, J, nb, (up.trans up3).trans u', .inr (.inr (by rw [hs]; exact hh')), na, os, ag, w'⟩
    · exact fun z => nfr (List.mem_filterMap.mpr ⟨X.env, List.mem_cons_self, hf.trans (by rw [z])⟩)
    · intro hm
      obtain ⟨e, he, q⟩ := List.mem_filterMap.mp hm
      exact nfr (List.mem_filterMap.mpr ⟨e, List.mem_cons_of_mem _ he, q⟩)
  · cases f with
    | next => obtain ⟨t1, G1, J1, q⟩ := z; exact wpAny_execs_nil ⟨t1, G1, J1.ofTry ok, q⟩
    | brk => obtain ⟨t1, G1, J1, q⟩ := z; exact ⟨t1, G1, J1.ofTry ok, q⟩
    | cont => obtain ⟨t1, G1, J1, q⟩ := z; exact ⟨t1, G1, J1.ofTry ok, q⟩
    | ret u => obtain ⟨v1, t1, G1, J1, r, q⟩ := z; exact ⟨v1, t1, G1, J1.ofTry ok, r, q⟩
end
end BP

set_option maxRecDepth 100000
set_option maxHeartbeats 4000000
/-! BpX4: try over plain data; a field of the caught error. -/
namespace BP
open PySem PySem.Spec PyProof.Rows L2

/-- a clause over plain data: its class, its name's slot, which errors it takes, the reading of its suite -/
structure MCl where
  c : Value
  sl : Option Nat
  is : String → Bool
  rd : Addr → Addr → String → WS
def mputE (o : Option Nat) (d : D) (σ : MSt) : MSt := match o with
  | some i => σ.set i (some d)
  | none => σ
def moffS (o : Option Nat) (σ : MSt) : MSt := match o with
  | some i => σ.set i none
  | none => σ
def moffE (o : Option Nat) (E : MEnds) : MEnds := { nx := fun τ g => E.nx (moffS o τ) g, rt := E.rt, bk := fun τ g => E.bk (moffS o τ) g, ct := fun τ g => E.ct (moffS o τ) g }
def wHd (known : String → Bool) (Es : MSt → XQ) (E : MEnds) : List MCl → MSt → XQ
  | [] => Es
  | k :: r => fun σ n fs h => known n = true ∧ if k.is n = true then ∀ a dd, k.rd a dd n (moffE k.sl E) (mputE k.sl (.exc a dd n fs) σ) h else wHd known Es E r σ n fs h
def wTry (known : String → Bool) (Es : MSt → XQ) (tb : (MSt → XQ) → WS) (l : List MCl) : WS := fun E σ h => tb (wHd known Es E l) E σ h
section
variable {X : Cx} {known : String → Bool} {Es : MSt → XQ}
/-- what a clause's suite says, in the hand layer -/
def liftCl (K : PySem.W.Frag) (mg : Str → Option Value) (k : MCl) : Cl := (k.c, k.sl, fun a cls d E τ G => ∃ (B : Bs) (n : String) (dd C : Addr), cls = .ref C ∧ d = some dd ∧ mg (Str.ofString n) = some (.ref C) ∧ liftS K B (k.rd a dd n) E τ G)
inductive MCls (X : Cx) (known : String → Bool) : List ExceptHandler → List MCl → Prop
  | nil : MCls X known [] []
  | cons {x : Str} {c : Value} {y : Option Str} {o : Option Nat} {is : String → Bool} {rd : Addr → Addr → String → WS} {st : Stmt} {sts : List Stmt} {p1 p2 : Pos} {hr : List ExceptHandler} {lr : List MCl} (nm : Names X x c) (no : ClName X y o)
      (ex : ∀ (n : String) (C : Addr), X.mg (Str.ofString n) = some (.ref C) → known n = true → PySem.W.exmOne X.K (.ref C) c = some (is n))
      (su : ∀ (B : Bs) (a dd C : Addr) (n : String) (ob : Obj) (pn : List (Addr × Obj)), Zc (.ref C) (some dd) ob → (∃ vs, ob.data = .fields vs) → X.mg (Str.ofString n) = some (.ref C) → MSs (X.suite a ((a, ob) :: pn)) B (st :: sts) (rd a dd n)) (rest : MCls X known hr lr) :
      MCls X known (.ExceptHandler (some (.Name x p1)) y (st :: sts) p2 :: hr) (⟨c, o, is, rd⟩ :: lr)
theorem MCls.ok {hds : List ExceptHandler} {l : List MCl} (h : MCls X known hds l) : ClsOk X hds (l.map (liftCl X.K X.mg)) := by
  induction h with
  | nil => exact .nil
  | @cons x c y o is rd st sts p1 p2 hr lr nm no ex su rest ih =>
    refine .cons nm no (fun a ob cls d pn z1 z2 => ⟨fun pins s σ H E I ⟨B, n, dd, C, e1, e2, e3, q⟩ => ?_⟩) ih
    subst e1 e2
    exact (su B a dd C n ob pn z1 z2 e3).run pins s σ H E I q
theorem LR.putE {K : PySem.W.Frag} {F : Hp} {σd : MSt} {σ : L2.St} {d : D} {a : Addr} (l : LR K F σd σ) (r : RD K F d (.ref a)) : ∀ o : Option Nat, LR K F (mputE o d σd) (BP.putE o a σ)
  | none => l
  | some i => l.set r i
theorem LR.offS {K : PySem.W.Frag} {F : Hp} {σd : MSt} {σ : L2.St} (l : LR K F σd σ) : ∀ o : Option Nat, LR K F (moffS o σd) (BP.offS o σ)
  | none => l
  | some i => l.unset i
theorem ContE.off {K : PySem.W.Frag} {F H : Hp} {h : MH} {D' : MEnds} {E : Ends} (c : ContE K F H h D' E) (o : Option Nat) : ContE K F H h (moffE o D') (offE o E) :=
  ⟨fun F1 H1 h1 τd τ g l t => c.nx F1 H1 h1 _ _ g (l.offS o) t, c.rt, fun F1 H1 h1 τd τ g l t => c.bk F1 H1 h1 _ _ g (l.offS o) t, fun F1 H1 h1 τd τ g l t => c.ct F1 H1 h1 _ _ g (l.offS o) t⟩
theorem wcl_of {B : Bs} {F H : Hp} {h : MH} {D' : MEnds} {E : Ends} (s : Bd X.K B F H h) (c : ContE X.K F H h D' E) {hds : List ExceptHandler} {l : List MCl} (hk : MCls X known hds l) :
    ∀ cls d τ G, WB X.K X.mg ⟨F, H, h⟩ (wHd known Es D' l) cls d τ G → wCl X.K (WB X.K X.mg B Es) E (l.map (liftCl X.K X.mg)) cls d τ G := by
  induction hk with
  | nil =>
    rintro cls d τ G ⟨F', h', σd, n, C, dd, fs, gs, e1, e2, e3, g, l, hd, rf, z⟩
    exact ⟨F', h', σd, n, C, dd, fs, gs, e1, e2, e3, s.all.trans g, l, hd, rf, z⟩
  | @cons x c0 y o is rd st sts p1 p2 hr lr nm no ex su rest ih =>
    rintro cls d τ G ⟨F', h', σd, n, C, dd, fs, gs, e1, e2, e3, g, l, hd, rf, kn, z⟩
    subst e1 e2
    refine ⟨is n, ex n C e3 kn, fun hy a na => ?_, fun hy => ih _ _ _ _ ⟨F', h', σd, n, C, dd, fs, gs, rfl, rfl, e3, g, l, hd, rf, ?_⟩⟩
    · rw [if_pos hy] at z
      exact ⟨⟨F, H, h⟩, n, dd, C, rfl, rfl, e3, F', h', _, _, l.putE (.exc hd rf) o, ⟨g⟩, z a dd, (c.go g).off o⟩
    · have hy' : ¬ is n = true := fun q => by rw [q] at hy; cases hy
      rw [if_neg hy'] at z
      exact z
theorem ms_try {B : Bs} {body : List Stmt} {h0 : ExceptHandler} {hds : List ExceptHandler} {l : List MCl} {pos : Pos} {tb : (MSt → XQ) → WS} (hN : X.N.Nodup) (tk : TkM X B Es)
    (hb : ∀ (B' : Bs) (Es' : MSt → XQ) (pn : List (Addr × Obj)) (xe : Value → Shared → Prop), TkM (X.tr pn xe) B' Es' → PassesOwn (model X.prog X.w) X.A X.env xe → MSs (X.tr pn xe) B' body (tb Es')) (hh : MCls X known (h0 :: hds) l)
    (hs : X.stack = X.env :: X.outer := by rfl) (hf : X.env.frame = some X.env.locals := by rfl) : MS X B (.Try body (h0 :: hds) [] [] pos) (wTry known Es tb l) := by
  refine ps_mono (ps_tryC (tb := fun W E τ G => ∃ (B' : Bs) (Es' : MSt → XQ), (∀ cls d τ G, WB X.K X.mg B' Es' cls d τ G → W cls d τ G) ∧ liftS X.K B' (tb Es') E τ G) hs hf hN tk (fun W pn xe tW ow => ⟨fun pins s σ H E I ⟨B', Es', im, q⟩ => ?_⟩) hh.ok) fun E σ H ⟨F, h, σd, D', lr, s, t, c⟩ => ?_
  · exact (hb B' Es' pn xe (tW.imp im) ow).run pins s σ H E I q
  · exact ⟨⟨F, H, h⟩, wHd known Es D' l, fun cls d τ G w => wcl_of s c hh cls d τ G w, F, h, σd, D', lr, ⟨Go.refl s.sr⟩, t, c⟩
end
/-- what the written part says of reading a field of such an error -/
structure XGet (K : PySem.W.Frag) (C : Addr) : Prop where
  ga : PySem.W.findIn K (.ref C) "__getattribute__" = some (some (.builtin "BaseException.__getattribute__"))
  gg : PySem.W.findIn K (.ref C) "__getattr__" = some none
  hd : PySem.W.hasDictIn K C = true
section
variable {X : Cx} {B : Bs} {n0 : String} {C0 fI : Addr} {fs0 : List Str} {e : Expr} {te : WE} {a dd C : Addr} {n : String} {ob : Obj} {pn : List (Addr × Obj)} {f : Str} {pos : Pos}
/-- e.f, e the caught error -/
def wXf (n0 : String) (a dd : Addr) (n f : Str) (te : WE) : WE := fun σ h Q => n = Str.ofString n0 ∧ te σ h fun x h1 => match x with
  | .exc a' dd' _ fs => a' = a ∧ dd' = dd ∧ (match fs.lookup f with | some v => Q v h1 | none => False)
  | _ => False
theorem m_xf (T : XCls X.prog X.K X.mg n0 C0 fI fs0) (Gt : XGet X.K C0) (hf : f ∈ fs0) (hz : Zc (.ref C) (some dd) ob) (hd : ∃ vs, ob.data = .fields vs) (hm : X.mg (Str.ofString n) = some (.ref C)) (he : ME (X.suite a ((a, ob) :: pn)) B e te)
    (hb : attributeBase e f X.env (eval e X.env) = eval e X.env := by rfl) : ME (X.suite a ((a, ob) :: pn)) B (.Attribute e f pos) (wXf n0 a dd (Str.ofString n) f te) := by
  refine ⟨fun pins s σ H Q I ⟨F, h, σd, Q', l, s0, ⟨en, t⟩, c⟩ => ?_⟩
  rw [en, T.gC] at hm
  simp only [Option.some.injEq, Value.ref.injEq] at hm
  subst hm
  refine attr_of hb (thn (he.run pins s σ H (fun v H1 => v = .ref a ∧ ∃ gs x, H1 dd = some (.xd gs) ∧ gs.lookup f = some x ∧ Q x H1) I ⟨F, h, σd, _, l, s0, t, fun F1 H1 h1 x v g1 rx t1 => ?_⟩) ?_)
  · split at t1
    · obtain ⟨rfl, rfl, t2⟩ := t1
      cases rx with
      | exc hF rf =>
        split at t2
        · rename_i v' ev
          obtain ⟨u, hu, ru⟩ := rf.look ev
          exact ⟨rfl, _, u, g1.sr.fr _ _ hF, hu, c F1 H1 h1 _ _ g1 ru t2⟩
        · exact t2.elim
    · exact t1.elim
  · rintro u s1 ⟨v, H1, I1, rv, rfl, gs, x, ed, ex, q⟩
    obtain rfl : u = Value.ref a := rv
    obtain ⟨ha, _⟩ := I1.pin (a, ob) (List.mem_append_left _ List.mem_cons_self)
    obtain ⟨vs, hdat⟩ := hd
    obtain ⟨mA, hns, hr⟩ : ∃ mA, s1.heap.Ns1 dd mA ∧ ∀ f, RelO (gs.lookup f) (mA f) := I1.hok dd _ ed
    obtain ⟨od, ho, hl⟩ := lookIn_ns hns
    obtain ⟨u, hu, ru⟩ := RelO.some_of (v := x) (o := mA f) (by rw [← ex]; exact hr f)
    have J : PySem.W.InstAt s1.heap a ob C0 (some od) := ⟨ha, hz.1, by unfold PySem.W.notCls; rw [hdat] <;> rfl, by rw [hz.2]; exact ho⟩
    exact HandSPX.exc_get I1.kIn J Gt.ga Gt.gg T.ox.exC (PySem.W.findObj_own Gt.hd (T.noF _ hf) rfl (by rw [hl, hu])) (handed_of ru) ⟨x, H1, I1.tok _, ru, q⟩
end
end BP

set_option maxRecDepth 100000
set_option maxHeartbeats 4000000
/-! BpY: short words for readings; lists that may change, out of operators. -/
namespace BP
open PySem PySem.Spec PyProof.Rows L2
abbrev wDiv (a b : WE) : WE := wOp (opI2 divOk fun i j => i / j) a b
abbrev wMod (a b : WE) : WE := wOp (opI2 modOk fun i j => i % j) a b
abbrev wPow (a b : WE) : WE := wOp (opI2 powOk fun i j => i ^ j.toNat) a b
abbrev wShl (a b : WE) : WE := wOp (opI2 shlOk fun i j => i * 2 ^ j.toNat) a b
abbrev wShr (a b : WE) : WE := wOp (opI2 shrOk fun i j => i / 2 ^ j.toNat) a b
abbrev wLt (a b : WE) : WE := wOp (opB2 fun i j => decide (i < j)) a b
abbrev wLe (a b : WE) : WE := wOp (opB2 fun i j => decide (i ≤ j)) a b
abbrev wGt (a b : WE) : WE := wOp (opB2 fun i j => decide (j < i)) a b
abbrev wGe (a b : WE) : WE := wOp (opB2 fun i j => decide (j ≤ i)) a b
abbrev wLeLe (a b c : WE) : WE := wChain (opB2 fun i j => decide (i ≤ j)) (opB2 fun i j => decide (i ≤ j)) a b c
abbrev wLeLt (a b c : WE) : WE := wChain (opB2 fun i j => decide (i ≤ j)) (opB2 fun i j => decide (i < j)) a b c
abbrev wIsi (ns : List String) (a : WE) : WE := wUn (fIsi ns) a
abbrev fAll : List D → MH → MQ → Prop := fBools fun bs => bs.all id
abbrev fAny : List D → MH → MQ → Prop := fBools fun bs => bs.any id
section
variable {X : Cx} {B : Bs} {a b : Expr} {ta tb : WE} {pos : Pos}
theorem pe_ty {x : Str} {n : String} (hm : X.mg x = none) (hv : bootBuiltins x = some (.type n)) (hg : Gl X x := by rfl) (hn : x ≠ "__name__" := by decide) (hd : (x == ("__debug__" : Str)) = false := by decide) : PE X (.Name x pos) (tC (.ty n)) :=
  pe_bltn hg hm hv rfl hn hd
def opMulM (x y : D) (h : MH) (Q : MQ) : Prop := match y with
  | .int k => match lsOf h x with
    | some a => (-(2 ^ 63) ≤ k ∧ k < 2 ^ 63 ∧ a.length * k.toNat ≤ sizeLine) ∧ ∀ p, h p = none → Q (.ref p) (mupd h p (.lst (List.replicate k.toNat a).flatten))
    | none => False
  | _ => False
theorem opMulM_d {K : PySem.W.Frag} : OpD K (rMulA K) opMulM := fun F H h x y u v Q' Q s rx ry t c => by
  unfold opMulM at t
  split at t
  · cases ry
    split at t
    · rename_i a ea
      obtain ⟨p, xs, rfl, hp, r⟩ := ls_rd s rx ea
      obtain ⟨⟨h1, h2, h3⟩, t2⟩ := t
      exact .inl (.inr ⟨p, _, xs, rfl, rfl, hp, h1, h2, by rw [← r.length]; exact h3, fun z hz => c.newM s hz (r.rep _) t2⟩)
    · exact t.elim
  · exact t.elim
theorem m_mulM (ha : ME X B a ta) (hb : ME X B b tb) : ME X B (.BinOp a .Mult b pos) (wOp opMulM ta tb) := m_bin op_mulA opMulM_d ha hb
end
end BP

set_option maxRecDepth 100000
set_option maxHeartbeats 4000000
/-! BpZ: a law's end; facts of the error classes. -/
namespace BP
open PySem PySem.Spec PyProof.Rows L2
/-- what is asked of a law over plain data: true for every script -/
def LawOk (n : Nat) (sp : MSp) : Prop := ∀ (ns : List Int) (h : MH), ns.length ≤ n → (∀ z ∈ ns, Builtin.Int.intBits z ≤ 1048576) → sp [.scr ns] h (fun d _ => d = .bl true) (fun _ _ _ => False)
def spW (K : PySem.W.Frag) (n : Nat) : Sp := fun vs H Q _ => ∃ (a : Addr) (ns : List Int), vs = [.ref a] ∧ ns.length ≤ n ∧ (∀ z ∈ ns, Builtin.Int.intBits z ≤ 1048576) ∧ SqL K H a (ns.map V.int) ∧ ∀ H', Q (.bl true) H'
theorem spW_lift {K : PySem.W.Frag} {mg : Str → Option Value} {n : Nat} {sp : MSp} (hsp : LawOk n sp) {vs : List V} {H : Hp} {Q : VK} {E : XK} (h : spW K n vs H Q E) : liftSp K mg sp vs H Q E := by
  obtain ⟨a, ns, rfl, hl, hb, hS, q⟩ := h
  refine ⟨H, fun _ => none, [.scr ns], _, _, .cons (.scr hS) .nil, ⟨Same.refl H, fun _ _ e => nomatch e⟩, hsp ns _ hl hb, fun F' H' h' d v g r e => ?_, fun _ _ _ _ _ _ _ _ _ _ _ _ z => z.elim⟩
  subst e
  cases r
  exact q H'
theorem fnM_w {P : Program} {w : World} {K : PySem.W.Frag} {mg : Str → Option Value} {base : Heap} {k n : Nat} {f : Addr} {fd : FuncData} {ps : List Str} {sp : MSp} (F : FnM P w K mg base k f fd ps sp) (hsp : LawOk n sp) : FnOk P w K mg base (L2.CX P w) k f fd ps (spW K n) :=
  ⟨fun vs H Q E h => F.len vs H Q E (spW_lift hsp h), fun A outer s H args us vs Q E hr he hb hv h => F.run A outer s H args us vs Q E hr he hb hv (spW_lift hsp h)⟩
theorem walk_bp {l : PySem.W.OpenLaw} {n k : Nat} {q : Program} {loose : List Str} {XP : (Str → Option Value) → Heap → Prop} {YP : World → Heap → Prop} {d : DefRec} {K : Params → PySem.W.Frag} {x : Str} {sp : MSp}
    (hn : l.most = some n) (hn2 : n ≤ sizeLine) (hdf : d.params.defaults = []) (hr : Room k callerA) (hY : ∀ (w : World) (h : Heap), YP w h → (K w.params).In h) (hsp : LawOk n sp)
    (F : ∀ (w : World) (mg : Str → Option Value) (fa : Addr) (h : Heap), (K w.params).In h → h.Ns mainGlobals mg → mg d.name = some (.ref fa) →
      ∃ fd : FuncData, (∀ (s : Shared) (u : Value), BindsTo s fd ⟨[u], []⟩ [(x, u)]) ∧ ∀ base : Heap, (K w.params).In base → base.Ns mainGlobals mg → FnM l.prog w (K w.params) mg base k fa fd [x] sp) :
    PySem.W.WalkO q loose XP YP l.row.toRowW d [] (fun f vs => PySem.call f vs) := by
  refine L2.walk_ofB (n := n) (k := k) (x := x) (CX := fun w => L2.CX l.prog w) (sp := fun w => spW (K w.params) n) hn hn2 hdf hr hY (fun w mg fa h KX G hmg => ?_) (fun w H a ns hl hb _ hS => ⟨a, ns, rfl, hl, hb, hS, fun _ => rfl⟩) fun w H s e s' z => ?_
  · obtain ⟨fd, h1, h2⟩ := F w mg fa h KX G hmg
    exact ⟨fd, h1, fun base b1 b2 => fnM_w (h2 base b1 b2) hsp⟩
  · obtain ⟨_, _, _, _, _, _, _, _, _, _, _, _, e⟩ := z
    exact e
theorem exm_of {K : PySem.W.Frag} {C S : Addr} {b : Bool} (h1 : PySem.W.subIn K (.ref S) (.type "BaseException") = some true) (h2 : PySem.W.isClsIn K S = true) (h3 : PySem.W.typeIn K (.ref S) = some (.type "type")) (h4 : PySem.W.subIn K (.ref C) (.ref S) = some b) :
    PySem.W.exmOne K (.ref C) (.ref S) = some b := by
  unfold PySem.W.exmOne PySem.W.kitCls
  have h2' : (PySem.W.clsIn K S).isSome = true := h2
  simp [h1, h2', h3, h4]
def clsBody : Stmt → List Stmt
  | .ClassDef _ _ _ b _ _ _ _ _ _ _ => b
  | _ => []
end BP

set_option maxRecDepth 100000
set_option maxHeartbeats 400000
/-! BpS: readings run by simp; loops by invariants; what the laws' own helpers say. -/
namespace BP
open PySem PySem.Spec PyProof.Rows L2
section
variable {σ : MSt} {h : MH} {Q : MQ} {D0 : MEnds} {ta tb tc : WE} {ua ub : WT} {wa : WA} {t u : WS} {i j : Nat} {d : D} {f g : D → D → MH → MQ → Prop} {v w : Option D}
@[simp] theorem r_seq : wSeq t u D0 σ h = t { D0 with nx := u D0 } σ h := (rfl)
@[simp] theorem r_next : wNext D0 σ h = D0.nx σ h := (rfl)
@[simp] theorem r_ret : wRet ta D0 σ h = ta σ h D0.rt := (rfl)
@[simp] theorem r_retN : wRetN D0 σ h = D0.rt .non h := (rfl)
@[simp] theorem r_brk : wBreak D0 σ h = D0.bk σ h := (rfl)
@[simp] theorem r_cont : wCont D0 σ h = D0.ct σ h := (rfl)
@[simp] theorem r_drop : wDrop ta D0 σ h = ta σ h fun _ h1 => D0.nx σ h1 := (rfl)
@[simp] theorem r_set : wSet i ta D0 σ h = ta σ h fun d h1 => D0.nx (σ.set i (some d)) h1 := (rfl)
@[simp] theorem r_ifS : wIfS ua t u D0 σ h = ua σ h fun b h1 => if b = true then t D0 σ h1 else u D0 σ h1 := (rfl)
@[simp] theorem r_asg {gg : WG} : wAsg ta gg D0 σ h = ta σ h fun d h1 => gg d σ h1 D0.nx := (rfl)
@[simp] theorem r_par : wPar i j wa D0 σ h = wa σ h fun ds h1 => match ds with
  | [d, e] => D0.nx ((σ.set i (some d)).set j (some e)) h1
  | _ => False := (rfl)
@[simp] theorem r_for {wi : WI} {gg : WG} : wFor wi gg t D0 σ h = wi σ h fun ds h1 => wLoop gg t ds D0 σ h1 := (rfl)
@[simp] theorem r_var : wVar i σ h Q = match σ[i]? with
  | some (some d) => Q d h
  | _ => False := (rfl)
@[simp] theorem r_c : wC d σ h Q = Q d h := (rfl)
@[simp] theorem r_op : wOp f ta tb σ h Q = ta σ h fun x h1 => tb σ h1 fun y h2 => f x y h2 Q := (rfl)
@[simp] theorem r_un {k : D → MH → MQ → Prop} : wUn k ta σ h Q = ta σ h fun x h1 => k x h1 Q := (rfl)
@[simp] theorem r_test {P : Bool → MH → Prop} : wTest ta σ h P = ta σ h fun x h1 => match x with
  | .bl b => P b h1
  | _ => False := (rfl)
@[simp] theorem r_truth {P : Bool → MH → Prop} : wTruth ta σ h P = ta σ h fun x h1 => match truth h1 x with
  | some b => P b h1
  | none => False := (rfl)
@[simp] theorem r_and {P : Bool → MH → Prop} : wAnd ua ub σ h P = ua σ h fun b h1 => if b = true then ub σ h1 P else P false h1 := (rfl)
@[simp] theorem r_or {P : Bool → MH → Prop} : wOr ua ub σ h P = ua σ h fun b h1 => if b = true then P true h1 else ub σ h1 P := (rfl)
@[simp] theorem r_not {P : Bool → MH → Prop} : wNot ua σ h P = ua σ h fun b h1 => P (!b) h1 := (rfl)
@[simp] theorem r_andV : wAndV ta tb σ h Q = ta σ h fun x h1 => match truth h1 x with
  | some true => tb σ h1 Q
  | some false => Q x h1
  | none => False := (rfl)
@[simp] theorem r_orV : wOrV ta tb σ h Q = ta σ h fun x h1 => match truth h1 x with
  | some true => Q x h1
  | some false => tb σ h1 Q
  | none => False := (rfl)
@[simp] theorem r_notV : wNotV ta σ h Q = ta σ h fun x h1 => match truth h1 x with
  | some b => Q (.bl (!b)) h1
  | none => False := (rfl)
@[simp] theorem r_if : wIf ua ta tb σ h Q = ua σ h fun k h1 => if k = true then ta σ h1 Q else tb σ h1 Q := (rfl)
@[simp] theorem r_chain : wChain f g ta tb tc σ h Q = ta σ h fun x h1 => tb σ h1 fun y h2 => f x y h2 fun z h3 => match z with
  | .bl true => tc σ h3 fun w h4 => g y w h4 Q
  | .bl false => Q (.bl false) h3
  | _ => False := (rfl)
@[simp] theorem r_nil {P : List D → MH → Prop} : wNil σ h P = P [] h := (rfl)
@[simp] theorem r_cons {P : List D → MH → Prop} : wCons ta wa σ h P = ta σ h fun d h1 => wa σ h1 fun ds h2 => P (d :: ds) h2 := (rfl)
@[simp] theorem r_tup : wTup wa σ h Q = wa σ h fun ds h1 => ds.length ≤ sizeLine ∧ Q (.tup ds) h1 := (rfl)
@[simp] theorem r_lst : wLst wa σ h Q = wa σ h fun ds h1 => ds.length ≤ sizeLine ∧ Q (.lst ds) h1 := (rfl)
@[simp] theorem r_lstM : wLstM wa σ h Q = wa σ h fun ds h1 => ds.length ≤ sizeLine ∧ ∀ p, h1 p = none → Q (.ref p) (mupd h1 p (.lst ds)) := (rfl)
@[simp] theorem r_cb {k : List D → MH → MQ → Prop} : wCB k wa σ h Q = wa σ h fun ds h1 => k ds h1 Q := (rfl)
@[simp] theorem r_call {sp : MSp} {Es : MSt → XQ} : wCall sp Es wa σ h Q = wa σ h fun ds h1 => sp ds h1 Q (Es σ) := (rfl)
@[simp] theorem r_callK {sp : MSp} {Es : MSt → XQ} {n : Nat} {gg : {α : Type} → List α → List α} : wCallK sp Es n gg wa σ h Q = wa σ h fun ds h1 => ds.length = n ∧ sp (gg ds) h1 Q (Es σ) := (rfl)
@[simp] theorem r_mt {k : D → List D → MH → MQ → Prop} : wMt k ta wa σ h Q = ta σ h fun x h1 => (lsOf h1 x).isSome = true ∧ wa σ h1 fun ds h2 => k x ds h2 Q := (rfl)
@[simp] theorem r_sl {tl th : WO} : wSl ta tl th σ h Q = ta σ h fun x h1 => tl σ h1 fun lo h2 => th σ h2 fun hi h3 => opSl x lo hi h3 Q := (rfl)
@[simp] theorem r_no {P : Option Int → MH → Prop} : wNo σ h P = P none h := (rfl)
@[simp] theorem r_part {P : Option Int → MH → Prop} : wPart ta σ h P = ta σ h fun x h1 => match x with
  | .int i => P (some i) h1
  | _ => False := (rfl)
@[simp] theorem r_it {P : List D → MH → Prop} : wIt ta σ h P = ta σ h fun d h1 => match rowF d with
  | some ds => P ds h1
  | none => False := (rfl)
@[simp] theorem r_enum {P : List D → MH → Prop} {k0 : Int} : wEnum k0 ta σ h P = ta σ h fun d h1 => match rowF d with
  | some ds => P (enumD k0 ds) h1
  | none => False := (rfl)
@[simp] theorem r_range1 {P : List D → MH → Prop} : wRange1 ta σ h P = ta σ h fun d h1 => match d with
  | .int j => okR j ∧ P (rangeD 0 j.toNat) h1
  | _ => False := (rfl)
@[simp] theorem r_range2 {P : List D → MH → Prop} : wRange2 ta tb σ h P = ta σ h fun d h1 => tb σ h1 fun e h2 => match d, e with
  | .int i, .int j => okR i ∧ okR j ∧ P (rangeD i (j - i).toNat) h2
  | _, _ => False := (rfl)
@[simp] theorem r_lc {wi : WI} {put : MSt → D → Option MSt} {vs : List Nat} : wLc wi put ua ta vs σ h Q = wi σ h fun ds h1 => wLcGo put ua ta (mwipe σ vs) ds [] h1 fun acc h2 => Q (.lst acc) h2 := (rfl)
@[simp] theorem r_yes {P : Bool → MH → Prop} : wYes σ h P = P true h := (rfl)
@[simp] theorem r_fz : wFz i t D0 σ h = match σ[i]? with
  | some (some (.ref a)) => match h a with
    | some (.lst ds) => t D0 (σ.set i (some (.lst ds))) (mdel h a)
    | _ => False
  | some (some (.lst _)) => t D0 σ h
  | _ => False := (rfl)
@[simp] theorem r_gZ {P : MSt → MH → Prop} : gZ [] σ h P = P σ h := (rfl)
@[simp] theorem r_gC {P : MSt → MH → Prop} {g1 : WG} {gs : WGs} {ds : List D} : gC g1 gs (d :: ds) σ h P = g1 d σ h fun σ1 h1 => gs ds σ1 h1 P := (rfl)
@[simp] theorem r_raise {Es : MSt → XQ} {n : String} {fs : List Str} : wRaise Es n fs wa D0 σ h = wa σ h fun ds h1 => ds.length = fs.length ∧ ds.length ≤ 1000 ∧ Es σ n (fs.zip ds) h1 := (rfl)
@[simp] theorem r_gN {P : MSt → MH → Prop} : gN i d σ h P = P (σ.set i (some d)) h := (rfl)
@[simp] theorem r_gSt {P : MSt → MH → Prop} : gSt ta tb d σ h P = ta σ h fun o h1 => tb σ h1 fun i h2 => match o, i with
  | .ref a, .int k => match h2 a with
    | some (.lst xs) => match ixN xs.length k with
      | some j => P σ (mupd h2 a (.lst (xs.set j d)))
      | none => False
    | _ => False
  | _, _ => False := (rfl)
@[simp] theorem r_gT {P : MSt → MH → Prop} {n : Nat} {gs : WGs} : gT n gs d σ h P = match d with
  | .tup ds => ds.length = n ∧ gs ds σ h P
  | _ => False := (rfl)
@[simp] theorem o_int {C : Int → Int → Prop} {k : Int → Int → Int} {x y : Int} : opI2 C k (.int x) (.int y) h Q = (C x y ∧ Q (.int (k x y)) h) := (rfl)
@[simp] theorem o_cmp {k : Int → Int → Bool} {x y : Int} : opB2 k (.int x) (.int y) h Q = Q (.bl (k x y)) h := (rfl)
@[simp] theorem o_add {x y : Int} : opAdd (.int x) (.int y) h Q = Q (.int (x + y)) h := (rfl)
@[simp] theorem o_sub {x y : Int} : opSub (.int x) (.int y) h Q = Q (.int (x - y)) h := (rfl)
@[simp] theorem o_mul {x y : Int} : opMul (.int x) (.int y) h Q = (mulOk x y ∧ Q (.int (x * y)) h) := (rfl)
@[simp] theorem o_eq {x y : Int} {n : Bool} : opEq n (.int x) (.int y) h Q = Q (.bl (if n then !(x == y) else x == y)) h := (rfl)
@[simp] theorem o_fint {x : Int} : fInt [.int x] h Q = Q (.int x) h := (rfl)
@[simp] theorem o_fintb {x : Bool} : fInt [.bl x] h Q = Q (.int (if x then 1 else 0)) h := (rfl)
@[simp] theorem o_neg {x : Int} : unNeg (.int x) h Q = Q (.int (-x)) h := (rfl)
@[simp] theorem o_isN {x : D} {n : Bool} : opIsN n x .non h Q = Q (.bl (if n then !(match x with | .non => true | _ => false) else (match x with | .non => true | _ => false))) h := by
  cases n <;> cases x <;> rfl
end
@[simp] theorem r_try {known : String → Bool} {Es : MSt → XQ} {tb : (MSt → XQ) → WS} {l : List MCl} {D0 : MEnds} {σ : MSt} {h : MH} : wTry known Es tb l D0 σ h = tb (wHd known Es D0 l) D0 σ h := (rfl)
@[simp] theorem r_xf {n0 : String} {a dd : Addr} {n f : Str} {te : WE} {σ : MSt} {h : MH} {Q : MQ} : wXf n0 a dd n f te σ h Q = (n = Str.ofString n0 ∧ te σ h fun x h1 => match x with
  | .exc a' dd' _ fs => a' = a ∧ dd' = dd ∧ (match fs.lookup f with | some v => Q v h1 | none => False)
  | _ => False) := (rfl)
@[simp] theorem r_hd {known : String → Bool} {Es : MSt → XQ} {D0 : MEnds} {c : Value} {o : Option Nat} {is : String → Bool} {rd : Addr → Addr → String → WS} {r : List MCl} {σ : MSt} {n : String} {fs : List (Str × D)} {h : MH} :
    wHd known Es D0 (⟨c, o, is, rd⟩ :: r) σ n fs h = (known n = true ∧ if is n = true then ∀ a dd, rd a dd n (moffE o D0) (mputE o (.exc a dd n fs) σ) h else wHd known Es D0 r σ n fs h) := (rfl)
@[simp] theorem r_hd0 {known : String → Bool} {Es : MSt → XQ} {D0 : MEnds} {σ : MSt} {n : String} {fs : List (Str × D)} {h : MH} : wHd known Es D0 [] σ n fs h = Es σ n fs h := (rfl)
theorem wLoop_inv {g : WG} {tb : WS} {D0 : MEnds} : ∀ {ds : List D} (I : Nat → MSt → MH → Prop) {σ : MSt} {h : MH}, I 0 σ h →
    (∀ (i : Nat) (d : D) (σ : MSt) (h : MH) (K : MSt → MH → Prop), ds[i]? = some d → I i σ h → (∀ σ' h', I (i + 1) σ' h' → K σ' h') → g d σ h fun σ2 h2 => tb { nx := K, ct := K, bk := D0.nx, rt := D0.rt } σ2 h2) →
    (∀ σ h, I ds.length σ h → D0.nx σ h) → wLoop g tb ds D0 σ h
  | [], I, σ, h, h0, _, hd => hd σ h h0
  | d :: ds, I, σ, h, h0, hs, hd => hs 0 d σ h _ rfl h0 fun σ' h' h1 => wLoop_inv (fun i => I (i + 1)) h1 (fun i d σ h K e => hs (i + 1) d σ h K (by simpa using e)) (fun σ h => hd σ h)
theorem wLcGo_inv {put : MSt → D → Option MSt} {tt : WT} {te : WE} {σ : MSt} {Q : List D → MH → Prop} : ∀ {ds acc : List D} (I : Nat → List D → MH → Prop) {h : MH}, I 0 acc h →
    (∀ (i : Nat) (d : D) (acc : List D) (h : MH) (K : List D → MH → Prop), ds[i]? = some d → I i acc h → (∀ acc' h', I (i + 1) acc' h' → K acc' h') →
      ∃ σ2, put σ d = some σ2 ∧ tt σ2 h fun b h3 => if b = true then te σ2 h3 fun y h4 => acc.length < sizeLine ∧ K (acc ++ [y]) h4 else K acc h3) →
    (∀ acc h, I ds.length acc h → Q acc h) → wLcGo put tt te σ ds acc h Q
  | [], acc, I, h, h0, _, hd => hd acc h h0
  | d :: ds, acc, I, h, h0, hs, hd => by
    obtain ⟨σ2, e, q⟩ := hs 0 d acc h (fun acc' h' => wLcGo put tt te σ ds acc' h' Q) rfl h0 fun acc' h' h1 => wLcGo_inv (fun i => I (i + 1)) h1 (fun i d acc h K e => hs (i + 1) d acc h K (by simpa using e)) (fun acc h => hd acc h)
    unfold wLcGo
    rw [e]
    exact q
/-! ### the laws' source -/
def Src (h : MH) (s : Addr) : Prop := ∃ a b c : Int, h s = some (.lst [.int a, .int b, .int c])
/-- only s has changed -/
structure Fro (h h' : MH) (s : Addr) : Prop where
  src : Src h' s
  oth : ∀ p, p ≠ s → h' p = h p
theorem Fro.trans {h h1 h2 : MH} {s : Addr} (a : Fro h h1 s) (b : Fro h1 h2 s) : Fro h h2 s := ⟨b.src, fun p n => (b.oth p n).trans (a.oth p n)⟩
theorem Fro.refl {h : MH} {s : Addr} (a : Src h s) : Fro h h s := ⟨a, fun _ _ => rfl⟩
theorem Fro.upd {h : MH} {s : Addr} {a b c : Int} : Fro h (mupd h s (.lst [.int a, .int b, .int c])) s := ⟨⟨a, b, c, mupd_same⟩, fun p n => mupd_ne n⟩
theorem small_mul {i j : Int} (h : -(2 ^ 64) < i ∧ i < 2 ^ 64) : mulOk i j := .inl (.inl h)
theorem small_mulR {i j : Int} (h : -(2 ^ 64) < j ∧ j < 2 ^ 64) : mulOk i j := .inl (.inr h)
theorem div_small {i j : Int} (h0 : 0 < j) (h : j < 2 ^ 64) : divOk i j := by
  refine ⟨h0, ?_⟩
  have : j.natAbs < 2 ^ 64 := by omega
  have := (Nat.log2_lt (by omega)).mpr this
  omega
theorem mod_ok {i j : Int} (h : 0 < j) : modOk i j := h
theorem bits_le {i : Int} {n : Nat} (h : i.natAbs < 2 ^ n) : Builtin.Int.intBits i ≤ n := by
  unfold Builtin.Int.intBits
  split
  · omega
  · rename_i z
    have z' : i.natAbs ≠ 0 := by
      intro e
      exact z (by simp; omega)
    have := (Nat.log2_lt z').mpr h
    omega
theorem shl_ok {i j : Int} {n : Nat} (h : i.natAbs < 2 ^ n) (h0 : 0 ≤ j) (h1 : j ≤ 1000) (hn : n ≤ 1000) : shlOk i j := by
  refine ⟨h0, ?_⟩
  have := bits_le h
  omega
section
variable {h : MH} {Q : MQ} {x : D} {i : Int} {a : Addr} {xs ys : List D}
@[simp] theorem o_ix : opIx x (.int i) h Q = match sqOf h x with
  | some xs => match atI xs i with
    | some d => Q d h
    | none => False
  | none => False := (rfl)
@[simp] theorem sq_tup : sqOf h (.tup xs) = some xs := (rfl)
@[simp] theorem sq_lst : sqOf h (.lst xs) = some xs := (rfl)
@[simp] theorem sq_scr {ns : List Int} : sqOf h (.scr ns) = some (ns.map .int) := (rfl)
@[simp] theorem sq_ref : sqOf h (.ref a) = match h a with
  | some (.lst ds) => some ds
  | _ => none := (rfl)
@[simp] theorem ls_lst : lsOf h (.lst xs) = some xs := (rfl)
@[simp] theorem ls_ref : lsOf h (.ref a) = match h a with
  | some (.lst ds) => some ds
  | _ => none := (rfl)
@[simp] theorem row_tup : rowF (.tup xs) = some xs := (rfl)
@[simp] theorem row_lst : rowF (.lst xs) = some xs := (rfl)
@[simp] theorem row_scr {ns : List Int} : rowF (.scr ns) = some (ns.map .int) := (rfl)
@[simp] theorem o_lenT : fLen [.tup xs] h Q = Q (.int xs.length) h := (rfl)
@[simp] theorem o_lenL : fLen [.lst xs] h Q = Q (.int xs.length) h := (rfl)
@[simp] theorem o_lenS {ns : List Int} : fLen [.scr ns] h Q = Q (.int (ns.map D.int).length) h := (rfl)
@[simp] theorem o_tup1 : fTup [x] h Q = match sqOf h x with
  | some xs => Q (.tup xs) h
  | none => False := (rfl)
@[simp] theorem o_list1 : fList [x] h Q = match sqOf h x with
  | some xs => Q (.lst xs) h
  | none => False := (rfl)
@[simp] theorem o_list1M : fListM [x] h Q = match sqOf h x with
  | some xs => ∀ p, h p = none → Q (.ref p) (mupd h p (.lst xs))
  | none => False := (rfl)
@[simp] theorem o_max2 {j : Int} : fMax2 [.int i, .int j] h Q = Q (.int (if j > i then j else i)) h := (rfl)
@[simp] theorem o_min2 {j : Int} : fMin2 [.int i, .int j] h Q = Q (.int (if j < i then j else i)) h := (rfl)
@[simp] theorem o_addL : opAdd (.lst xs) (.lst ys) h Q = (xs.length + ys.length ≤ sizeLine ∧ Q (.lst (xs ++ ys)) h) := (rfl)
@[simp] theorem o_addT : opAdd (.tup xs) (.tup ys) h Q = (xs.length + ys.length ≤ sizeLine ∧ Q (.tup (xs ++ ys)) h) := (rfl)
@[simp] theorem o_mulL {j : Int} : opMul (.lst xs) (.int j) h Q = ((-(2 ^ 63) ≤ j ∧ j < 2 ^ 63 ∧ xs.length * j.toNat ≤ sizeLine) ∧ Q (.lst (List.replicate j.toNat xs).flatten) h) := (rfl)
@[simp] theorem o_mulT {j : Int} : opMul (.tup xs) (.int j) h Q = ((xs ≠ [] ∧ 2 ≤ j ∧ j ≤ 1000 ∧ xs.length ≤ 1000) ∧ Q (.tup (List.replicate j.toNat xs).flatten) h) := (rfl)
@[simp] theorem o_mulS {z : Str} {j : Int} : opMul (.str z) (.int j) h Q = (strRepOk z j ∧ Q (.str (strRep z j)) h) := (rfl)
@[simp] theorem o_mulM {j : Int} : opMulM (.lst xs) (.int j) h Q = ((-(2 ^ 63) ≤ j ∧ j < 2 ^ 63 ∧ xs.length * j.toNat ≤ sizeLine) ∧ ∀ p, h p = none → Q (.ref p) (mupd h p (.lst (List.replicate j.toNat xs).flatten))) := (rfl)
@[simp] theorem o_slL {lo hi : Option Int} : opSl (.lst xs) lo hi h Q = Q (.lst (cut xs lo hi)) h := (rfl)
@[simp] theorem o_slT {lo hi : Option Int} : opSl (.tup xs) lo hi h Q = Q (.tup (cut xs lo hi)) h := (rfl)
@[simp] theorem o_app {d : D} : fAppend (.ref a) [d] h Q = match h a with
  | some (.lst xs) => xs.length < sizeLine ∧ Q .non (mupd h a (.lst (xs ++ [d])))
  | _ => False := (rfl)
@[simp] theorem o_eqT {n : Bool} : opEq n (.tup xs) (.tup ys) h Q = ((fit 64 (.tup xs) = true ∧ fit 64 (.tup ys) = true) ∧ Q (.bl (if n then !eqv (.tup xs) (.tup ys) else eqv (.tup xs) (.tup ys))) h) := (rfl)
@[simp] theorem o_eqL {n : Bool} : opEq n (.lst xs) (.lst ys) h Q = ((fit 64 (.lst xs) = true ∧ fit 64 (.lst ys) = true) ∧ Q (.bl (if n then !eqvs xs ys else eqvs xs ys)) h) := (rfl)
@[simp] theorem o_isi {ns : List String} : fIsi ns x h Q = match clsD h x with
  | some c => Q (.bl (ns.any (subT c))) h
  | none => False := (rfl)
@[simp] theorem t_bl {b : Bool} : truth h (.bl b) = some b := (rfl)
@[simp] theorem t_int : truth h (.int i) = some (i != 0) := (rfl)
@[simp] theorem t_non : truth h .non = some false := (rfl)
@[simp] theorem mupd_eq {c : Cell} : mupd h a c a = some c := mupd_same
@[simp] theorem mupd_mupd {c d : Cell} : mupd (mupd h a c) a d = mupd h a d := mupd_upd
end
theorem atI_of {α : Type} {xs : List α} {i : Nat} (hi : i < xs.length) : atI xs (i : Int) = some xs[i] := by
  unfold atI ixN
  rw [if_pos (by omega), if_pos (by omega)]
  simp [hi]
theorem ixN_of {n i : Nat} (hi : i < n) : ixN n (i : Int) = some i := by
  unfold ixN
  rw [if_pos (by omega), if_pos (by omega)]
  simp
theorem ixN_in {n : Nat} {i : Int} (h0 : 0 ≤ i) (hi : i < n) : ixN n i = some i.toNat := by
  unfold ixN
  rw [if_pos h0, if_pos hi]
theorem atI_in {α : Type} {xs : List α} {i : Int} (h0 : 0 ≤ i) (hi : i < xs.length) : ∃ x, atI xs i = some x ∧ x ∈ xs ∧ xs[i.toNat]? = some x := by
  have hl : i.toNat < xs.length := by omega
  refine ⟨xs[i.toNat], ?_, List.getElem_mem _, List.getElem?_eq_getElem hl⟩
  unfold atI
  rw [ixN_in h0 hi]
  simp [hl]
theorem mdel_mupd {h : MH} {a : Addr} {c : Cell} (n : h a = none) : mdel (mupd h a c) a = h := mdel_upd n
/-- what was there is still there -/
def Ext (h h' : MH) : Prop := ∀ p c, h p = some c → h' p = some c
theorem Ext.refl {h : MH} : Ext h h := fun _ _ e => e
theorem Ext.trans {h h1 h2 : MH} (a : Ext h h1) (b : Ext h1 h2) : Ext h h2 := fun p c e => b p c (a p c e)
theorem Ext.new {h : MH} {p : Addr} {c : Cell} (n : h p = none) : Ext h (mupd h p c) := fun q c e => by rw [mupd_ne (fun z => by rw [z, n] at e; cases e)]; exact e
theorem Ext.src {h h' : MH} {s : Addr} (e : Ext h h') (a : Src h s) : Src h' s := by
  obtain ⟨x, y, z, q⟩ := a
  exact ⟨x, y, z, e _ _ q⟩
theorem Src.some {h : MH} {s : Addr} (a : Src h s) : h s ≠ none := by
  obtain ⟨x, y, z, q⟩ := a
  rw [q]; simp
def spNext : MSp := fun ds h Q _ => ∃ (s : Addr) (m : Int), ds = [.ref s, .int m] ∧ Src h s ∧ 0 < m ∧ divOk 0 m ∧ ∀ (r : Int) (h' : MH), 0 ≤ r → r < m → Fro h h' s → Q (.int r) h'
abbrev rdNext : WS :=
 (wSeq (wIfS (wTest (wGt (wOp opIx (wVar 0) (wC (.int 0))) (wC (.int 0)))) (wSeq (wSet 4 (wMod (wCB fInt (wCons (wOp opIx (wVar 0) (wC (.int 0))) wNil)) (wVar 1)))
 (wSeq (wAsg (wDiv (wOp opIx (wVar 0) (wC (.int 0))) (wVar 1)) (gSt (wVar 0) (wC (.int 0))))
 (wRet (wVar 4)))) wNext)
 (wSeq (wAsg (wOp opAdd (wOp opIx (wVar 0) (wC (.int 2))) (wC (.int 1))) (gSt (wVar 0) (wC (.int 2))))
 (wSeq (wSet 2 (wC (.int 2147483647)))
 (wSeq (wSet 3 (wMod (wCB fInt (wCons (wOp opAdd (wOp opAdd (wOp opIx (wVar 0) (wC (.int 1))) (wOp opMul (wC (.int 104729)) (wOp opIx (wVar 0) (wC (.int 2))))) (wC (.int 7919))) wNil)) (wVar 2)))
 (wSeq (wSet 3 (wMod (wCB fInt (wCons (wOp opMul (wVar 3) (wC (.int 48271))) wNil)) (wVar 2)))
 (wSeq (wSet 3 (wMod (wCB fInt (wCons (wOp opMul (wVar 3) (wOp opAdd (wDiv (wVar 3) (wC (.int 1009))) (wC (.int 69621)))) wNil)) (wVar 2)))
 (wSeq (wSet 3 (wMod (wCB fInt (wCons (wOp opMul (wVar 3) (wOp opAdd (wDiv (wVar 3) (wC (.int 2003))) (wC (.int 40692)))) wNil)) (wC (.int 2147483399))))
 (wRet (wMod (wCB fInt (wCons (wDiv (wVar 3) (wC (.int 7))) wNil)) (wVar 1))))))))))
theorem mstart_eq {N : List Str} {ds : List D} : mstart N ds = ds.map some ++ List.replicate (N.length - ds.length) none := (rfl)
theorem pureNext {N : List Str} (hN : N.length = 5) (ds : List D) (h : MH) (Q' : MQ) (E' : XQ) (sp : spNext ds h Q' E') : rdNext { nx := fun _ h' => Q' .non h', rt := Q' } (mstart N ds) h := by
  obtain ⟨s, m, rfl, ⟨a, b, c, e⟩, hm, hd, q⟩ := sp
  rw [mstart_eq, hN]
  simp [e, atI, ixN, List.replicate]
  split
  · refine ⟨hm, hd, q _ _ (Int.emod_nonneg _ (by omega)) (Int.emod_lt_of_pos _ hm) .upd⟩
  · refine ⟨small_mul (by omega), by simp [modOk], ?_⟩
    generalize (b + 104729 * (c + 1) + 7919) % 2147483647 = x1
    refine ⟨small_mulR (by omega), by simp [modOk], ?_⟩
    have k2 := Int.emod_nonneg (x1 * 48271) (b := 2147483647) (by omega)
    have k3 := Int.emod_lt_of_pos (x1 * 48271) (b := 2147483647) (by omega)
    generalize x1 * 48271 % 2147483647 = x2 at *
    refine ⟨div_small (by omega) (by omega), small_mul (by omega), by simp [modOk], ?_⟩
    generalize x2 * (x2 / 1009 + 69621) = y
    have k4 := Int.emod_nonneg y (b := 2147483647) (by omega)
    have k5 := Int.emod_lt_of_pos y (b := 2147483647) (by omega)
    generalize y % 2147483647 = x3 at *
    refine ⟨div_small (by omega) (by omega), small_mul (by omega), by simp [modOk], div_small (by omega) (by omega), hm, ?_⟩
    exact q _ _ (Int.emod_nonneg _ (by omega)) (Int.emod_lt_of_pos _ hm) .upd
def spOne : MSp := fun ds h Q _ => ∃ (s : Addr) (xs : List D), ds = [.ref s, .lst xs] ∧ Src h s ∧ 0 < xs.length ∧ xs.length ≤ 2 ^ 40 ∧ ∀ (x : D) (h' : MH), x ∈ xs → Fro h h' s → Q x h'
abbrev rdOne : WS := (wRet (wOp opIx (wVar 1) (wCall spNext xF (wCons (wVar 0) (wCons (wCB fLen (wCons (wVar 1) wNil)) wNil)))))
theorem pureOne {N : List Str} (hN : N.length = 2) (ds : List D) (h : MH) (Q' : MQ) (E' : XQ) (sp : spOne ds h Q' E') : rdOne { nx := fun _ h' => Q' .non h', rt := Q' } (mstart N ds) h := by
  obtain ⟨s, xs, rfl, hs, h0, h1, q⟩ := sp
  rw [mstart_eq, hN]
  simp [List.replicate]
  refine ⟨s, _, rfl, hs, by omega, div_small (by omega) (by omega), fun r h' r0 r1 f => ?_⟩
  obtain ⟨x, e1, e2, _⟩ := atI_in (xs := xs) r0 r1
  simp only [o_ix, sq_lst, e1]
  exact q x h' e2 f
def spCell : MSp := fun ds h Q _ => ∃ (ns : List Int) (k : Int), ds = [.scr ns, .int k] ∧ 0 ≤ k ∧ ∀ z : Int, Q (.int z) h
abbrev rdCell : WS := (wSeq (wIfS (wTest (wLt (wVar 1) (wCB fLen (wCons (wVar 0) wNil)))) (wRet (wOp opIx (wVar 0) (wVar 1))) wNext)
 (wRet (wC (.int 0))))
theorem pureCell {N : List Str} (hN : N.length = 2) (ds : List D) (h : MH) (Q' : MQ) (E' : XQ) (sp : spCell ds h Q' E') : rdCell { nx := fun _ h' => Q' .non h', rt := Q' } (mstart N ds) h := by
  obtain ⟨ns, k, rfl, h0, q⟩ := sp
  rw [mstart_eq, hN]
  simp [List.replicate]
  split
  · rename_i hk
    obtain ⟨x, e1, e2, _⟩ := atI_in (xs := ns.map D.int) h0 (by simpa using hk)
    rw [e1]
    obtain ⟨z, _, rfl⟩ := List.mem_map.mp e2
    exact q z
  · exact q 0
def spSrcOf : MSp := fun ds h Q _ => ∃ z : Int, ds = [.int z] ∧ ∀ p a b c, h p = none → Q (.ref p) (mupd h p (.lst [.int a, .int b, .int c]))
abbrev rdSrcOf : WS :=
 (wSeq (wSet 0 (wIf (wTest (wGe (wVar 0) (wC (.int 0)))) (wVar 0) (wOp opSub (wOp opSub (wC (.int 0)) (wOp opMul (wC (.int 3)) (wVar 0))) (wC (.int 1)))))
 (wRet (wLstM (wCons (wOp opMul (wVar 0) (wCB fInt (wCons (wGe (wVar 0) (wPow (wC (.int 10)) (wC (.int 18)))) wNil))) (wCons (wMod (wCB fInt (wCons (wVar 0) wNil)) (wC (.int 2147483647))) (wCons (wC (.int 0)) wNil))))))
theorem pureSrcOf {N : List Str} (hN : N.length = 1) (ds : List D) (h : MH) (Q' : MQ) (E' : XQ) (sp : spSrcOf ds h Q' E') : rdSrcOf { nx := fun _ h' => Q' .non h', rt := Q' } (mstart N ds) h := by
  obtain ⟨z, rfl, q⟩ := sp
  rw [mstart_eq, hN]
  have pw : powOk 10 18 := ⟨by omega, by omega, by decide⟩
  have hz : (3 : Nat) ≤ sizeLine := by decide
  have m1 : ∀ (y : Int) (b : Bool), mulOk y (if b = true then 1 else 0) := fun y b => small_mulR (by split <;> omega)
  have m2 : ∀ y : Int, modOk y 2147483647 := fun y => mod_ok (by omega)
  have m3 : ∀ y : Int, mulOk 3 y := fun y => small_mul (by omega)
  simp [List.replicate, pw, hz, m1, m2, m3]
  split
  · exact ⟨small_mulR (by split <;> omega), fun p hp => q p _ _ _ hp⟩
  · exact ⟨small_mulR (by split <;> omega), fun p hp => q p _ _ _ hp⟩
theorem div_lt {i j : Int} {n : Nat} (h0 : 0 < j) (h : j < 2 ^ n) (hn : n ≤ 9000) : divOk i j := by
  refine ⟨h0, ?_⟩
  have : j.natAbs < 2 ^ n := by
    have e : ((2 ^ n : Nat) : Int) = 2 ^ n := by simp
    omega
  have := (Nat.log2_lt (by omega)).mpr this
  omega
mutual
theorem eqv_self : ∀ (n : Nat) (d : D), fit n d = true → eqv d d = true
  | _, .non, _ => rfl
  | _, .bl b, _ => by simp [eqv]
  | _, .int _, _ => by simp [eqv]
  | _, .str _, _ => by simp [eqv]
  | n + 1, .tup ds, h => by
    simp only [eqv]
    exact eqvs_self n ds (by simpa [fit] using h)
  | n + 1, .lst ds, h => by
    simp only [eqv]
    exact eqvs_self n ds (by simpa [fit] using h)
  | 0, .tup _, h => by simp [fit] at h
  | 0, .lst _, h => by simp [fit] at h
  | 0, .ty _, h => by simp [fit] at h
  | 0, .dct _, h => by simp [fit] at h
  | 0, .scr _, h => by simp [fit] at h
  | 0, .ref _, h => by simp [fit] at h
  | 0, .exc _ _ _ _, h => by simp [fit] at h
  | _ + 1, .ty _, h => by simp [fit] at h
  | _ + 1, .dct _, h => by simp [fit] at h
  | _ + 1, .scr _, h => by simp [fit] at h
  | _ + 1, .ref _, h => by simp [fit] at h
  | _ + 1, .exc _ _ _ _, h => by simp [fit] at h
theorem eqvs_self : ∀ (n : Nat) (ds : List D), (∀ d ∈ ds, fit n d = true) → eqvs ds ds = true
  | _, [], _ => rfl
  | n, d :: ds, h => by
    simp only [eqvs, Bool.and_eq_true]
    exact ⟨eqv_self n d (h d (by simp)), eqvs_self n ds fun x hx => h x (by simp [hx])⟩
end
theorem op_self {neg : Bool} {x : D} {h : MH} {Q : MQ} (hf : fit 64 x = true) (q : Q (.bl (!neg)) h) : opEq neg x x h Q := by
  have e := eqv_self 64 x hf
  have z : (if neg = true then !true else true) = !neg := by cases neg <;> rfl
  cases x with
  | lst xs =>
    simp only [eqv] at e
    refine ⟨⟨hf, hf⟩, ?_⟩
    rw [e, z]; exact q
  | int i => show Q _ h; rw [show (i == i) = true by simp, z]; exact q
  | non => exact ⟨⟨hf, hf⟩, by rw [e, z]; exact q⟩
  | bl b => exact ⟨⟨hf, hf⟩, by rw [e, z]; exact q⟩
  | str b => exact ⟨⟨hf, hf⟩, by rw [e, z]; exact q⟩
  | tup b => exact ⟨⟨hf, hf⟩, by rw [e, z]; exact q⟩
  | _ => simp [fit] at hf
theorem ne_self {x : D} {h : MH} {Q : MQ} (hf : fit 64 x = true) (q : Q (.bl false) h) : opEq true x x h Q := op_self (neg := true) hf q
theorem cut_to {α : Type} {xs : List α} {k : Int} (h0 : 0 ≤ k) (h1 : k ≤ xs.length) : cut xs none (some k) = xs.take k.toNat := by
  unfold cut HT.sIx
  simp
  split
  · omega
  · rename_i z
    congr 1
    omega
theorem cut_from {α : Type} {xs : List α} {k : Int} (h0 : 0 ≤ k) (h1 : k ≤ xs.length) : cut xs (some k) none = xs.drop k.toNat := by
  unfold cut HT.sIx
  simp
  split
  · omega
  · rename_i z
    rw [List.take_of_length_le]
    · congr 1; omega
    · simp
end BP

set_option maxHeartbeats 1000000
namespace K34
open PySem PySem.Spec PyProof.Rows L2 BP
def top (i : Nat) : Stmt := PySem.Challenge.pw_blockpics_k34_what_levels_show.main.body.getD i (.Pass ⟨0, 0, 0, 0⟩)
abbrev s_is_integer : Stmt := top 6
abbrev s_is_between : Stmt := top 7
abbrev s_is_block : Stmt := top 8
abbrev s_cut_off : Stmt := top 11
abbrev s_so_far : Stmt := top 12
abbrev s_law_cell_at : Stmt := top 14
abbrev s_law_source_of : Stmt := top 15
abbrev s_law_next : Stmt := top 16
abbrev s_law_one : Stmt := top 17
abbrev s_law_coefficient : Stmt := top 18
abbrev s_law_block : Stmt := top 19
abbrev s_law_fault : Stmt := top 20
abbrev s_law_due : Stmt := top 21
abbrev s_law : Stmt := top 22
def known (n : String) : Bool := n == "NoBlock" || n == "NoLevels"
def is_PicError (n : String) : Bool := true
def is_NoBlock (n : String) : Bool := n == "NoBlock"
def is_NoLevels (n : String) : Bool := n == "NoLevels"
abbrev k_MOST_LEVEL : D := .int 13
abbrev k_WIDE : D := .int 64
def g_kw_so_far_levels_block : {α : Type} → List α → List α := fun l => match l with | [v0, v1] => [v1, v0] | _ => l
abbrev si_NoBlock : Stmt := (clsBody (top 2)).getD 0 (.Pass ⟨0, 0, 0, 0⟩)
theorem xd_NoBlock : XDef ["number", "index"] si_NoBlock where
  body := ⟨[("number", ⟨7, 25, 7, 31⟩), ("index", ⟨7, 33, 7, 38⟩)], [("number", ⟨8, 8, 8, 12⟩, ⟨8, 8, 8, 19⟩, ⟨8, 22, 8, 28⟩, ⟨8, 8, 8, 28⟩), ("index", ⟨9, 8, 9, 12⟩, ⟨9, 8, 9, 18⟩, ⟨9, 21, 9, 26⟩, ⟨9, 8, 9, 26⟩)], ⟨7, 8, 7, 13⟩, ⟨7, 8, 7, 15⟩, ⟨7, 8, 7, 24⟩, ⟨7, 8, 7, 39⟩, ⟨7, 8, 7, 39⟩, rfl, rfl, rfl, fun env => ⟨⟨_, rfl⟩, fun _ => rfl⟩⟩
  par := ⟨_, rfl, rfl⟩
  kind := rfl
  co := rfl
  gen := rfl
  cells := by decide +kernel
  sup := by decide +kernel
  cls := by decide +kernel
  slf := by decide +kernel
  loc := by decide +kernel
  nd := by decide +kernel
  ne := by decide
  bind := fun _ _ _ _ _ _ _ us hl => match us, hl with | [_, _, _], _ => rfl
abbrev si_NoLevels : Stmt := (clsBody (top 3)).getD 0 (.Pass ⟨0, 0, 0, 0⟩)
theorem xd_NoLevels : XDef ["index"] si_NoLevels where
  body := ⟨[("index", ⟨13, 25, 13, 30⟩)], [("index", ⟨14, 8, 14, 12⟩, ⟨14, 8, 14, 18⟩, ⟨14, 21, 14, 26⟩, ⟨14, 8, 14, 26⟩)], ⟨13, 8, 13, 13⟩, ⟨13, 8, 13, 15⟩, ⟨13, 8, 13, 24⟩, ⟨13, 8, 13, 31⟩, ⟨13, 8, 13, 31⟩, rfl, rfl, rfl, fun env => ⟨⟨_, rfl⟩, fun _ => rfl⟩⟩
  par := ⟨_, rfl, rfl⟩
  kind := rfl
  co := rfl
  gen := rfl
  cells := by decide +kernel
  sup := by decide +kernel
  cls := by decide +kernel
  slf := by decide +kernel
  loc := by decide +kernel
  nd := by decide +kernel
  ne := by decide
  bind := fun _ _ _ _ _ _ _ us hl => match us, hl with | [_, _], _ => rfl

/-! ### what the defs say, over plain data -/
def pl : D → Bool
  | .ref _ => false
  | .exc _ _ _ _ => false
  | .ty _ => false
  | _ => true
def isI : D → Bool
  | .int _ => true
  | _ => false
def intD : D → Int
  | .int i => i
  | _ => 0
def btw (d : D) (lo hi : Int) : Bool := match d with
  | .int i => decide (lo ≤ i) && decide (i ≤ hi)
  | _ => false
def plR (d : D) : Bool := pl d && match rowF d with
  | some xs => xs.all pl
  | none => true
def isBlk (d : D) : Bool := match rowF d with
  | some xs => xs.length == 64 && xs.all isI
  | none => false
def lvOk (d : D) : Bool := match d with
  | .non => true
  | d => btw d 0 13
def cutI (b : Int) (k : Nat) : Int := if 0 < b then b / 2 ^ k else -(-b / 2 ^ k)
def partI (i : Nat) (b : Int) (l : D) : Int := match l with
  | .int k => (if i = 0 then b / 2 ^ k.toNat else cutI b k.toNat) * 2 ^ k.toNat
  | _ => 0
def outL : Nat → List D → List D → List Int
  | i, b :: bs, l :: ls => partI i (intD b) l :: outL (i + 1) bs ls
  | _, _, _ => []
/-- none: no block; some i: no levels, at i -/
inductive Res where
  | noB | noL (i : Int) | out (xs : List Int)
def soFar (b l : D) : Res := if isBlk b = true then
    match rowF l with
    | some ls => if ls.length = 64 then
        match ls.findIdx? (fun d => !lvOk d) with
        | some i => .noL i
        | none => .out (outL 0 ((rowF b).getD []) ls)
      else .noL (-1)
    | none => .noL (-1)
  else .noB
def smallB (d : D) : Prop := ∀ xs, rowF d = some xs → ∀ x ∈ xs, (intD x).natAbs < 2 ^ 100
def sp_is_integer : MSp := fun ds h Q _ => ∃ d, ds = [d] ∧ pl d = true ∧ Q (.bl (isI d)) h
def sp_is_between : MSp := fun ds h Q _ => ∃ d lo hi, ds = [d, .int lo, .int hi] ∧ pl d = true ∧ Q (.bl (btw d lo hi)) h
def sp_is_block : MSp := fun ds h Q _ => ∃ d, ds = [d] ∧ plR d = true ∧ Q (.bl (isBlk d)) h
def sp_cut_off : MSp := fun ds h Q _ => ∃ b k : Int, ds = [.int b, .int k] ∧ 0 ≤ k ∧ Q (.int (cutI b k.toNat)) h
def sp_so_far : MSp := fun ds h Q E => ∃ b l, ds = [b, l] ∧ plR b = true ∧ plR l = true ∧ smallB b ∧ match soFar b l with
  | .noB => ∀ h', Ext h h' → E "NoBlock" [("number", .int 0), ("index", .int (-1))] h'
  | .noL i => ∀ h', Ext h h' → E "NoLevels" [("index", .int i)] h'
  | .out xs => Q (.tup (xs.map .int)) h
def faultD : Res → D
  | .noB => .tup [.str "block", .int 0, .int (-1)]
  | .noL i => .tup [.str "levels", .int i]
  | .out _ => .non
def sp_law_fault : MSp := fun ds h Q _ => ∃ b l, ds = [b, l] ∧ plR b = true ∧ plR l = true ∧ smallB b ∧ ∀ h', Ext h h' → Q (faultD (soFar b l)) h'
def sp_law_due : MSp := fun ds h Q _ => ∃ b l bs ls, ds = [b, l] ∧ rowF b = some bs ∧ rowF l = some ls ∧ bs.length = 64 ∧ ls.length = 64 ∧ (∀ x ∈ bs, isI x = true) ∧ (∀ x ∈ ls, lvOk x = true) ∧ Q (.tup ((outL 0 bs ls).map .int)) h
abbrev sp_law_cell_at : MSp := spCell
abbrev sp_law_source_of : MSp := spSrcOf
abbrev sp_law_next : MSp := spNext
abbrev sp_law_one : MSp := spOne
def sp_law_coefficient : MSp := fun ds h Q _ => ∃ s, ds = [.ref s, .int 10] ∧ Src h s ∧ ∀ (v : Int) h', v.natAbs < 2 ^ 20 → Fro h h' s → Q (.int v) h'
def sp_law_block : MSp := fun ds h Q _ => ∃ s, ds = [.ref s, .int 10] ∧ Src h s ∧ ∀ (d : D) (xs : List Int) h', (d = .lst (xs.map .int) ∨ d = .tup (xs.map .int)) → xs.length = 64 → (∀ x ∈ xs, x.natAbs < 2 ^ 20) → Fro h h' s → Q d h'
def sp_law : MSp := fun ds h Q _ => ∃ ns : List Int, ds = [.scr ns] ∧ ns.length ≤ 63 ∧ ∀ h', Q (.bl true) h'
theorem len_is_integer : ∀ ds h Q E, sp_is_integer ds h Q E → ds.length = ["value"].length := fun _ _ _ _ ⟨_, e, _⟩ => by rw [e]; rfl
theorem len_is_between : ∀ ds h Q E, sp_is_between ds h Q E → ds.length = ["value", "least", "most"].length := fun _ _ _ _ ⟨_, _, _, e, _⟩ => by rw [e]; rfl
theorem len_is_block : ∀ ds h Q E, sp_is_block ds h Q E → ds.length = ["value"].length := fun _ _ _ _ ⟨_, e, _⟩ => by rw [e]; rfl
theorem len_cut_off : ∀ ds h Q E, sp_cut_off ds h Q E → ds.length = ["number", "after"].length := fun _ _ _ _ ⟨_, _, e, _⟩ => by rw [e]; rfl
theorem len_so_far : ∀ ds h Q E, sp_so_far ds h Q E → ds.length = ["block", "levels"].length := fun _ _ _ _ ⟨_, _, e, _⟩ => by rw [e]; rfl
theorem len_law_cell_at : ∀ ds h Q E, sp_law_cell_at ds h Q E → ds.length = ["_law_script", "_law_k"].length := fun _ _ _ _ ⟨_, _, e, _⟩ => by rw [e]; rfl
theorem len_law_source_of : ∀ ds h Q E, sp_law_source_of ds h Q E → ds.length = ["_law_cell"].length := fun _ _ _ _ ⟨_, e, _⟩ => by rw [e]; rfl
theorem len_law_next : ∀ ds h Q E, sp_law_next ds h Q E → ds.length = ["_law_source", "_law_many"].length := fun _ _ _ _ ⟨_, _, e, _⟩ => by rw [e]; rfl
theorem len_law_one : ∀ ds h Q E, sp_law_one ds h Q E → ds.length = ["_law_source", "_law_some"].length := fun _ _ _ _ ⟨_, _, e, _⟩ => by rw [e]; rfl
theorem len_law_coefficient : ∀ ds h Q E, sp_law_coefficient ds h Q E → ds.length = ["_law_source", "_law_most"].length := fun _ _ _ _ ⟨_, e, _⟩ => by rw [e]; rfl
theorem len_law_block : ∀ ds h Q E, sp_law_block ds h Q E → ds.length = ["_law_source", "_law_most"].length := fun _ _ _ _ ⟨_, e, _⟩ => by rw [e]; rfl
theorem len_law_fault : ∀ ds h Q E, sp_law_fault ds h Q E → ds.length = ["_law_square", "_law_marks"].length := fun _ _ _ _ ⟨_, _, e, _⟩ => by rw [e]; rfl
theorem len_law_due : ∀ ds h Q E, sp_law_due ds h Q E → ds.length = ["_law_square", "_law_marks"].length := fun _ _ _ _ ⟨_, _, _, _, e, _⟩ => by rw [e]; rfl
theorem len_law : ∀ ds h Q E, sp_law ds h Q E → ds.length = ["_law_script"].length := fun _ _ _ _ ⟨_, e, _⟩ => by rw [e]; rfl

structure Ad where
  f_is_integer : Addr
  e_is_integer : FuncData
  f_is_between : Addr
  e_is_between : FuncData
  f_is_block : Addr
  e_is_block : FuncData
  f_cut_off : Addr
  e_cut_off : FuncData
  f_so_far : Addr
  e_so_far : FuncData
  f_law_cell_at : Addr
  e_law_cell_at : FuncData
  f_law_source_of : Addr
  e_law_source_of : FuncData
  f_law_next : Addr
  e_law_next : FuncData
  f_law_one : Addr
  e_law_one : FuncData
  f_law_coefficient : Addr
  e_law_coefficient : FuncData
  f_law_block : Addr
  e_law_block : FuncData
  f_law_fault : Addr
  e_law_fault : FuncData
  f_law_due : Addr
  e_law_due : FuncData
  f_law : Addr
  e_law : FuncData
  x_PicError : Addr
  i_PicError : Addr
  x_NoBlock : Addr
  i_NoBlock : Addr
  x_NoLevels : Addr
  i_NoLevels : Addr
  t_MOST_LEVEL : Tok
  t_WIDE : Tok
abbrev N_is_integer : List Str := ["value"]
def rd_is_integer : WS :=
 (wRet (wAndV (wIsi ["int"] (wVar 0)) (wNotV (wIsi ["bool"] (wVar 0)))))

abbrev N_is_between : List Str := ["value", "least", "most"]
def rd_is_between : WS :=
 (wRet (wAndV (wCall sp_is_integer xF (wCons (wVar 0) wNil)) (wLeLe (wVar 1) (wVar 0) (wVar 2))))

abbrev N_is_block : List Str := ["value", "one"]
def rd_is_block : WS :=
 (wRet (wAndV (wIsi ["list", "tuple"] (wVar 0)) (wAndV (wOp (opEq false) (wCB fLen (wCons (wVar 0) wNil)) (wC k_WIDE)) (wCB fAll (wCons (wLc (wIt (wVar 0)) (put1 1) wYes (wCall sp_is_integer xF (wCons (wVar 1) wNil)) [1]) wNil)))))

abbrev N_cut_off : List Str := ["number", "after"]
def rd_cut_off : WS :=
 (wRet (wIf (wTest (wGt (wVar 0) (wC (.int 0)))) (wShr (wVar 0) (wVar 1)) (wUn unNeg (wShr (wUn unNeg (wVar 0)) (wVar 1)))))

def lb_so_far_0 (Es : MSt → XQ) : WS :=
 (wSeq (wIfS (wAnd (wTest (wOp (opIsN true) (wVar 4) (wC .non))) (wNot (wTruth (wCall sp_is_between xF (wCons (wVar 4) (wCons (wC (.int 0)) (wCons (wC k_MOST_LEVEL) wNil))))))) (wRaise Es "NoLevels" ["index"] (wCons (wVar 3) wNil)) wNext)
 (wSeq (wSet 5 (wC (.int 0)))
 (wSeq (wIfS (wTest (wOp (opIsN true) (wVar 4) (wC .non))) (wSeq (wSet 5 (wIf (wTest (wOp (opEq false) (wVar 3) (wC (.int 0)))) (wShr (wOp opIx (wVar 0) (wC (.int 0))) (wVar 4)) (wCall sp_cut_off xF (wCons (wOp opIx (wVar 0) (wVar 3)) (wCons (wVar 4) wNil)))))
 (wSet 5 (wShl (wVar 5) (wVar 4)))) wNext)
 (wDrop (wMt fAppend (wVar 2) (wCons (wVar 5) wNil))))))
abbrev N_so_far : List Str := ["block", "levels", "found", "index", "level", "part"]
def rd_so_far (Es : MSt → XQ) : WS :=
 (wSeq (wIfS (wNot (wTruth (wCall sp_is_block xF (wCons (wVar 0) wNil)))) (wRaise Es "NoBlock" ["number", "index"] (wCons (wC (.int 0)) (wCons (wUn unNeg (wC (.int 1))) wNil))) wNext)
 (wSeq (wIfS (wOr (wNot (wTruth (wIsi ["list", "tuple"] (wVar 1)))) (wTest (wOp (opEq true) (wCB fLen (wCons (wVar 1) wNil)) (wC k_WIDE)))) (wRaise Es "NoLevels" ["index"] (wCons (wUn unNeg (wC (.int 1))) wNil)) wNext)
 (wSeq (wSet 2 (wLstM wNil))
 (wSeq (wFor (wEnum 0 (wVar 1)) (gT 2 (gC (gN 3) (gC (gN 4) gZ))) (lb_so_far_0 Es))
 (wFz 2 (wRet (wCB fTup (wCons (wVar 2) wNil))))))))

abbrev N_law_cell_at : List Str := ["_law_script", "_law_k"]
def rd_law_cell_at : WS :=
 (wSeq (wIfS (wTest (wLt (wVar 1) (wCB fLen (wCons (wVar 0) wNil)))) (wRet (wOp opIx (wVar 0) (wVar 1))) wNext)
 (wRet (wC (.int 0))))

abbrev N_law_source_of : List Str := ["_law_cell"]
def rd_law_source_of : WS :=
 (wSeq (wSet 0 (wIf (wTest (wGe (wVar 0) (wC (.int 0)))) (wVar 0) (wOp opSub (wOp opSub (wC (.int 0)) (wOp opMul (wC (.int 3)) (wVar 0))) (wC (.int 1)))))
 (wRet (wLstM (wCons (wOp opMul (wVar 0) (wCB fInt (wCons (wGe (wVar 0) (wPow (wC (.int 10)) (wC (.int 18)))) wNil))) (wCons (wMod (wCB fInt (wCons (wVar 0) wNil)) (wC (.int 2147483647))) (wCons (wC (.int 0)) wNil))))))

abbrev N_law_next : List Str := ["_law_source", "_law_many", "_law_prime", "_law_mixed", "_law_found"]
def rd_law_next : WS :=
 (wSeq (wIfS (wTest (wGt (wOp opIx (wVar 0) (wC (.int 0))) (wC (.int 0)))) (wSeq (wSet 4 (wMod (wCB fInt (wCons (wOp opIx (wVar 0) (wC (.int 0))) wNil)) (wVar 1)))
 (wSeq (wAsg (wDiv (wOp opIx (wVar 0) (wC (.int 0))) (wVar 1)) (gSt (wVar 0) (wC (.int 0))))
 (wRet (wVar 4)))) wNext)
 (wSeq (wAsg (wOp opAdd (wOp opIx (wVar 0) (wC (.int 2))) (wC (.int 1))) (gSt (wVar 0) (wC (.int 2))))
 (wSeq (wSet 2 (wC (.int 2147483647)))
 (wSeq (wSet 3 (wMod (wCB fInt (wCons (wOp opAdd (wOp opAdd (wOp opIx (wVar 0) (wC (.int 1))) (wOp opMul (wC (.int 104729)) (wOp opIx (wVar 0) (wC (.int 2))))) (wC (.int 7919))) wNil)) (wVar 2)))
 (wSeq (wSet 3 (wMod (wCB fInt (wCons (wOp opMul (wVar 3) (wC (.int 48271))) wNil)) (wVar 2)))
 (wSeq (wSet 3 (wMod (wCB fInt (wCons (wOp opMul (wVar 3) (wOp opAdd (wDiv (wVar 3) (wC (.int 1009))) (wC (.int 69621)))) wNil)) (wVar 2)))
 (wSeq (wSet 3 (wMod (wCB fInt (wCons (wOp opMul (wVar 3) (wOp opAdd (wDiv (wVar 3) (wC (.int 2003))) (wC (.int 40692)))) wNil)) (wC (.int 2147483399))))
 (wRet (wMod (wCB fInt (wCons (wDiv (wVar 3) (wC (.int 7))) wNil)) (wVar 1))))))))))

abbrev N_law_one : List Str := ["_law_source", "_law_some"]
def rd_law_one : WS :=
 (wRet (wOp opIx (wVar 1) (wCall sp_law_next xF (wCons (wVar 0) (wCons (wCB fLen (wCons (wVar 1) wNil)) wNil)))))

abbrev N_law_coefficient : List Str := ["_law_source", "_law_most", "_law_size", "_law_magnitude"]
def rd_law_coefficient : WS :=
 (wSeq (wSet 2 (wOp opAdd (wC (.int 1)) (wCall sp_law_next xF (wCons (wVar 0) (wCons (wIf (wTest (wLt (wCall sp_law_next xF (wCons (wVar 0) (wCons (wC (.int 8)) wNil))) (wC (.int 6)))) (wCB fMin2 (wCons (wC (.int 3)) (wCons (wVar 1) wNil))) (wVar 1)) wNil)))))
 (wSeq (wSet 3 (wOp opAdd (wShl (wC (.int 1)) (wOp opSub (wVar 2) (wC (.int 1)))) (wCall sp_law_next xF (wCons (wVar 0) (wCons (wShl (wC (.int 1)) (wOp opSub (wVar 2) (wC (.int 1)))) wNil)))))
 (wRet (wCall sp_law_one xF (wCons (wVar 0) (wCons (wLst (wCons (wVar 3) (wCons (wOp opSub (wC (.int 0)) (wVar 3)) wNil))) wNil))))))

def lb_law_block_0 : WS :=
 (wSeq (wSet 5 (wCall sp_law_one xF (wCons (wVar 0) (wCons (wOp opAdd (wVar 3) (wLst (wCons (wOp opAdd (wC (.int 1)) (wCall sp_law_next xF (wCons (wVar 0) (wCons (wC (.int 63)) wNil)))) wNil))) wNil))))
 (wAsg (wCall sp_law_coefficient xF (wCons (wVar 0) (wCons (wVar 1) wNil))) (gSt (wVar 2) (wVar 5))))
abbrev N_law_block : List Str := ["_law_source", "_law_most", "_law_found", "_law_spots", "_law_turn", "_law_spot"]
def rd_law_block : WS :=
 (wSeq (wSet 2 (wOp opMulM (wLst (wCons (wC (.int 0)) wNil)) (wC (.int 64))))
 (wSeq (wIfS (wTest (wGt (wCall sp_law_next xF (wCons (wVar 0) (wCons (wC (.int 4)) wNil))) (wC (.int 0)))) (wAsg (wCall sp_law_coefficient xF (wCons (wVar 0) (wCons (wC (.int 10)) wNil))) (gSt (wVar 2) (wC (.int 0)))) wNext)
 (wSeq (wSet 3 (wLst (wCons (wC (.int 1)) (wCons (wC (.int 2)) (wCons (wC (.int 3)) (wCons (wC (.int 16)) (wCons (wC (.int 17)) (wCons (wC (.int 18)) (wCons (wC (.int 33)) (wCons (wC (.int 49)) (wCons (wC (.int 62)) (wCons (wC (.int 63)) wNil))))))))))))
 (wSeq (wFor (wRange1 (wCall sp_law_one xF (wCons (wVar 0) (wCons (wLst (wCons (wC (.int 0)) (wCons (wC (.int 1)) (wCons (wC (.int 2)) (wCons (wC (.int 3)) (wCons (wC (.int 6)) (wCons (wC (.int 40)) wNil))))))) wNil)))) (gN 4) lb_law_block_0)
 (wFz 2 (wRet (wCall sp_law_one xF (wCons (wVar 0) (wCons (wLst (wCons (wVar 2) (wCons (wCB fTup (wCons (wVar 2) wNil)) wNil))) wNil)))))))))

abbrev N_law_fault : List Str := ["_law_square", "_law_marks", "e"]
def rd_law_fault (A : Ad) (Es : MSt → XQ) : WS :=
 (wSeq (wTry known Es (fun Es1 => (wDrop (wCall sp_so_far Es1 (wCons (wVar 0) (wCons (wVar 1) wNil))))) [⟨.ref A.x_NoBlock, (some 2), is_NoBlock, fun a dd n => (wRet (wTup (wCons (wC (.str "block")) (wCons (wXf "NoBlock" a dd (Str.ofString n) "number" (wVar 2)) (wCons (wXf "NoBlock" a dd (Str.ofString n) "index" (wVar 2)) wNil)))))⟩, ⟨.ref A.x_NoLevels, (some 2), is_NoLevels, fun a dd n => (wRet (wTup (wCons (wC (.str "levels")) (wCons (wXf "NoLevels" a dd (Str.ofString n) "index" (wVar 2)) wNil))))⟩, ⟨.ref A.x_PicError, none, is_PicError, fun a dd n => (wRet (wC (.str "other")))⟩])
 (wRet (wC .non)))

def lb_law_due_0 : WS :=
 (wSeq (wPar 5 6 (wCons (wShl (wC (.int 1)) (wOrV (wVar 4) (wC (.int 0)))) (wCons (wOp opIx (wVar 0) (wVar 3)) wNil)))
 (wIfS (wTest (wOp (opIsN false) (wVar 4) (wC .non))) (wDrop (wMt fAppend (wVar 2) (wCons (wC (.int 0)) wNil))) (wIfS (wOr (wTest (wOp (opEq false) (wVar 3) (wC (.int 0)))) (wTest (wGe (wVar 6) (wC (.int 0))))) (wDrop (wMt fAppend (wVar 2) (wCons (wOp opMul (wDiv (wVar 6) (wVar 5)) (wVar 5)) wNil))) (wDrop (wMt fAppend (wVar 2) (wCons (wOp opSub (wC (.int 0)) (wOp opMul (wDiv (wOp opSub (wC (.int 0)) (wVar 6)) (wVar 5)) (wVar 5))) wNil))))))
abbrev N_law_due : List Str := ["_law_square", "_law_marks", "_law_found", "_law_place", "_law_level", "_law_unit", "_law_value"]
def rd_law_due : WS :=
 (wSeq (wSet 2 (wLstM wNil))
 (wSeq (wFor (wEnum 0 (wVar 1)) (gT 2 (gC (gN 3) (gC (gN 4) gZ))) lb_law_due_0)
 (wFz 2 (wRet (wCB fTup (wCons (wVar 2) wNil))))))

def lb_law_0 (Es : MSt → XQ) : WS :=
 (wSeq (wSet 6 (wCB fListM (wCons (wCall sp_law_block xF (wCons (wVar 2) (wCons (wC (.int 10)) wNil))) wNil)))
 (wSeq (wAsg (wOp opMul (wCall sp_law_one xF (wCons (wVar 2) (wCons (wLst (wCons (wC (.int 1)) (wCons (wUn unNeg (wC (.int 1))) wNil))) wNil))) (wCall sp_law_next xF (wCons (wVar 2) (wCons (wPow (wC (.int 10)) (wC (.int 20))) wNil)))) (gSt (wVar 6) (wCall sp_law_next xF (wCons (wVar 2) (wCons (wC (.int 64)) wNil)))))
 (wFz 6 (wSeq (wSet 7 (wLst (wCons (wC .non) (wCons (wC (.int 0)) (wCons (wC (.int 1)) (wCons (wC (.int 2)) (wCons (wC (.int 13)) (wCons (wCall sp_law_next xF (wCons (wVar 2) (wCons (wC (.int 14)) wNil))) wNil))))))))
 (wSeq (wSet 8 (wLc (wRange1 (wC (.int 64))) (put1 11) wYes (wOp opIx (wVar 7) (wCall sp_law_next xF (wCons (wVar 2) (wCons (wC (.int 6)) wNil)))) [11]))
 (wSeq (wSet 9 (wCall sp_so_far Es (wCons (wVar 6) (wCons (wVar 8) wNil))))
 (wSeq (wIfS (wOr (wTest (wOp (opEq true) (wVar 9) (wCall sp_law_due xF (wCons (wVar 6) (wCons (wVar 8) wNil))))) (wTest (wOp (opEq true) (wCallK sp_so_far Es 2 g_kw_so_far_levels_block (wCons (wCB fTup (wCons (wVar 8) wNil)) (wCons (wCB fTup (wCons (wVar 6) wNil)) wNil))) (wVar 9)))) (wRet (wC (.bl false))) wNext)
 (wSeq (wIfS (wTest (wOp (opEq true) (wCall sp_so_far Es (wCons (wVar 9) (wCons (wVar 8) wNil))) (wVar 9))) (wRet (wC (.bl false))) wNext)
 (wSeq (wSet 10 (wLc (wIt (wVar 8)) (put1 12) wYes (wIf (wTest (wOp (opIsN false) (wVar 12) (wC .non))) (wC .non) (wCB fMin2 (wCons (wC (.int 13)) (wCons (wOp opAdd (wVar 12) (wCall sp_law_next xF (wCons (wVar 2) (wCons (wC (.int 3)) wNil)))) wNil)))) [12]))
 (wIfS (wTest (wOp (opEq true) (wCall sp_so_far Es (wCons (wVar 9) (wCons (wVar 10) wNil))) (wCall sp_so_far Es (wCons (wVar 6) (wCons (wVar 10) wNil))))) (wRet (wC (.bl false))) wNext))))))))))
def lb_law_1 : WS :=
 (wIfS (wTest (wOp (opEq true) (wCall sp_law_fault xF (wCons (wVar 4) (wCons (wC .non) wNil))) (wTup (wCons (wC (.str "block")) (wCons (wC (.int 0)) (wCons (wUn unNeg (wC (.int 1))) wNil)))))) (wRet (wC (.bl false))) wNext)
def lb_law_2 : WS :=
 (wIfS (wTest (wOp (opEq true) (wCall sp_law_fault xF (wCons (wVar 6) (wCons (wVar 4) wNil))) (wTup (wCons (wC (.str "levels")) (wCons (wUn unNeg (wC (.int 1))) wNil))))) (wRet (wC (.bl false))) wNext)
def lb_law_3 : WS :=
 (wIfS (wTest (wOp (opEq true) (wCall sp_law_fault xF (wCons (wVar 6) (wCons (wOp opAdd (wOp opAdd (wSl (wVar 8) wNo (wPart (wVar 5))) (wLst (wCons (wVar 4) wNil))) (wOp opMul (wLst (wCons (wC (.str "x")) wNil)) (wOp opSub (wC (.int 63)) (wVar 5)))) wNil))) (wTup (wCons (wC (.str "levels")) (wCons (wVar 5) wNil))))) (wRet (wC (.bl false))) wNext)
def lb_law_4 (Es : MSt → XQ) : WS :=
 (wSeq (wSet 2 (wCall sp_law_source_of xF (wCons (wCall sp_law_cell_at xF (wCons (wVar 0) (wCons (wVar 1) wNil))) wNil)))
 (wSeq (wFor (wRange1 (wC (.int 8))) (gN 3) (lb_law_0 Es))
 (wSeq (wFor (wIt (wTup (wCons (wC .non) (wCons (wC (.int 5)) (wCons (wOp opMul (wLst (wCons (wC (.int 0)) wNil)) (wC (.int 63))) (wCons (wOp opAdd (wSl (wVar 6) wNo (wPart (wC (.int 63)))) (wLst (wCons (wC (.bl true)) wNil))) (wCons (wOp opMul (wC (.str "0")) (wC (.int 64))) (wCons (wC (.dct [])) wNil)))))))) (gN 4) lb_law_1)
 (wSeq (wFor (wIt (wTup (wCons (wC .non) (wCons (wC (.int 5)) (wCons (wSl (wVar 8) wNo (wPart (wC (.int 63)))) (wCons (wOp opAdd (wVar 8) (wLst (wCons (wC (.int 0)) wNil))) (wCons (wC (.dct [])) (wCons (wOp opMul (wC (.str "0")) (wC (.int 64))) wNil)))))))) (gN 4) lb_law_2)
 (wSeq (wSet 5 (wCall sp_law_next xF (wCons (wVar 2) (wCons (wC (.int 64)) wNil))))
 (wFor (wIt (wTup (wCons (wC (.int 14)) (wCons (wUn unNeg (wC (.int 1))) (wCons (wC (.bl true)) (wCons (wC (.str "0")) (wCons (wTup (wCons (wC (.int 0)) wNil)) (wCons (wPow (wC (.int 10)) (wC (.int 20))) wNil)))))))) (gN 4) lb_law_3))))))
abbrev N_law : List Str := ["_law_script", "_law_k", "_law_source", "_law_turn", "_law_odd", "_law_spot", "_law_square", "_law_some", "_law_marks", "_law_came", "_law_more", "_law_place", "_law_level"]
def rd_law (Es : MSt → XQ) : WS :=
 (wSeq (wIfS (wTest (wOp (opEq true) (wCall sp_so_far Es (wCons (wOp opAdd (wTup (wCons (wUn unNeg (wC (.int 3))) (wCons (wUn unNeg (wC (.int 3))) (wCons (wC (.int 5)) wNil)))) (wOp opMul (wTup (wCons (wC (.int 0)) wNil)) (wC (.int 61)))) (wCons (wOp opAdd (wTup (wCons (wC (.int 1)) (wCons (wC (.int 1)) (wCons (wC .non) wNil)))) (wOp opMul (wTup (wCons (wC (.int 0)) wNil)) (wC (.int 61)))) wNil))) (wOp opAdd (wTup (wCons (wUn unNeg (wC (.int 4))) (wCons (wUn unNeg (wC (.int 2))) wNil))) (wOp opMul (wTup (wCons (wC (.int 0)) wNil)) (wC (.int 62)))))) (wRet (wC (.bl false))) wNext)
 (wSeq (wFor (wRange1 (wCB fMax2 (wCons (wC (.int 1)) (wCons (wCB fMin2 (wCons (wC (.int 4)) (wCons (wCB fLen (wCons (wVar 0) wNil)) wNil))) wNil)))) (gN 1) (lb_law_4 Es))
 (wRet (wC (.bl true)))))


section
variable (ds : List D) (h : MH) (Q' : MQ) (E' : XQ)
theorem pure_law_cell_at (s : sp_law_cell_at ds h Q' E') : rd_law_cell_at { nx := fun _ h' => Q' .non h', rt := Q' } (mstart N_law_cell_at ds) h := pureCell rfl ds h Q' E' s
theorem pure_law_source_of (s : sp_law_source_of ds h Q' E') : rd_law_source_of { nx := fun _ h' => Q' .non h', rt := Q' } (mstart N_law_source_of ds) h := pureSrcOf rfl ds h Q' E' s
theorem pure_law_next (s : sp_law_next ds h Q' E') : rd_law_next { nx := fun _ h' => Q' .non h', rt := Q' } (mstart N_law_next ds) h := pureNext rfl ds h Q' E' s
theorem pure_law_one (s : sp_law_one ds h Q' E') : rd_law_one { nx := fun _ h' => Q' .non h', rt := Q' } (mstart N_law_one ds) h := pureOne rfl ds h Q' E' s
theorem pure_is_integer (s : sp_is_integer ds h Q' E') : rd_is_integer { nx := fun _ h' => Q' .non h', rt := Q' } (mstart N_is_integer ds) h := by
  obtain ⟨d, rfl, hp, q⟩ := s
  cases d <;> simp [pl] at hp <;> simp [rd_is_integer, mstart_eq, clsD, subT] <;> exact q
theorem pure_is_between (s : sp_is_between ds h Q' E') : rd_is_between { nx := fun _ h' => Q' .non h', rt := Q' } (mstart N_is_between ds) h := by
  obtain ⟨d, lo, hi, rfl, hp, q⟩ := s
  simp [rd_is_between, mstart_eq]
  refine ⟨d, rfl, hp, ?_⟩
  cases d <;> simp [isI] <;> simp [btw] at q <;> try exact q
  rename_i i
  by_cases hl : lo ≤ i <;> simp [hl] at q ⊢ <;> exact q
theorem pure_cut_off (s : sp_cut_off ds h Q' E') : rd_cut_off { nx := fun _ h' => Q' .non h', rt := Q' } (mstart N_cut_off ds) h := by
  obtain ⟨b, k, rfl, hk, q⟩ := s
  have k' : ∀ y, shrOk y k := fun y => hk
  simp [rd_cut_off, mstart_eq, k']
  unfold cutI at q
  split
  · rename_i z; rw [if_pos z] at q; exact q
  · rename_i z; rw [if_neg z] at q; exact q
theorem bls_map (f : D → Bool) : ∀ xs : List D, bls (xs.map fun d => D.bl (f d)) = some (xs.map f)
  | [] => rfl
  | x :: xs => by simp [bls, bls_map f xs]
theorem take_snoc {α : Type} {l : List α} {i : Nat} {x : α} (e : l[i]? = some x) : l.take (i + 1) = l.take i ++ [x] := by
  rw [List.take_add_one, e]; rfl
theorem szL : (sizeLine : Nat) = 16777216 := by decide
theorem pure_is_block (s : sp_is_block ds h Q' E') : rd_is_block { nx := fun _ h' => Q' .non h', rt := Q' } (mstart N_is_block ds) h := by
  obtain ⟨d, rfl, hp, q⟩ := s
  have go : ∀ xs : List D, rowF d = some xs → xs.length = 64 → wLcGo (put1 1) wYes (wCall sp_is_integer xF (wCons (wVar 1) wNil)) (mwipe [some d, none] [1]) xs [] h (fun acc h2 => fAll [.lst acc] h2 Q') := by
    intro xs hr hl
    have hx : xs.all pl = true := by
      simp only [plR, hr, Bool.and_eq_true] at hp
      exact hp.2
    refine wLcGo_inv (fun i acc h' => h' = h ∧ acc = (xs.take i).map fun d => D.bl (isI d)) ⟨rfl, by simp⟩ ?_ ?_
    · rintro i x acc h' K e ⟨rfl, rfl⟩ hK
      have hi : i < xs.length := (List.getElem?_eq_some_iff.mp e).1
      refine ⟨_, rfl, ?_⟩
      simp [mwipe]
      refine ⟨x, rfl, List.all_eq_true.mp hx x (List.mem_of_getElem? e), ?_, hK _ _ ⟨rfl, ?_⟩⟩
      · have := szL; omega
      · rw [take_snoc e]; simp
    · rintro acc h' ⟨rfl, rfl⟩
      unfold fAll fBools
      simp only [List.take_length, ls_lst, Option.bind_some, bls_map]
      have e : isBlk d = (xs.map isI).all id := by
        simp [isBlk, hr, hl]
      rw [← e]; exact q
  have no : ∀ xs : List D, rowF d = some xs → ¬ xs.length = 64 → Q' (.bl false) h := fun xs hr hl => by
    have e : isBlk d = false := by simp [isBlk, hr, hl]
    rw [← e]; exact q
  cases d <;> simp [plR, pl] at hp <;> simp [rd_is_block, mstart_eq, clsD, subT] <;> try (simp [isBlk, rowF] at q; exact q)
  all_goals
    first
    | (rename_i xs
       by_cases hl : xs.length = 64
       · have hl2 : ((xs.length : Int) == 64) = true := by simp; omega
         simp only [hl2, if_true]
         exact go _ rfl (by simpa using hl)
       · have hl2 : ((xs.length : Int) == 64) = false := by simp; omega
         simp only [hl2]
         exact no _ rfl (by simpa using hl))
theorem abs_div {b : Int} {k n : Nat} (h : b.natAbs < 2 ^ n) : (b / 2 ^ k).natAbs < 2 ^ n := by
  have hp : (0 : Int) < 2 ^ k := Int.pow_pos (by decide)
  have h1 := Int.ediv_mul_le b (b := 2 ^ k) (by omega)
  have h2 := Int.lt_ediv_add_one_mul_self b hp
  by_cases hb : 0 ≤ b
  · have h3 : 0 ≤ b / 2 ^ k := Int.ediv_nonneg hb (by omega)
    have h4 : b / 2 ^ k ≤ b := Int.ediv_le_self _ hb
    omega
  · have h3 : b / 2 ^ k < 0 := Int.ediv_neg_of_neg_of_pos (by omega) hp
    have h4 : b ≤ b / 2 ^ k := by
      rw [Int.le_ediv_iff_mul_le hp]
      have : b * 2 ^ k ≤ b * 1 := Int.mul_le_mul_of_nonpos_left (by omega) (by omega)
      omega
    omega
theorem abs_cut {b : Int} {k n : Nat} (h : b.natAbs < 2 ^ n) : (cutI b k).natAbs < 2 ^ n := by
  unfold cutI
  split
  · exact abs_div h
  · have := abs_div (b := -b) (k := k) (n := n) (by omega)
    omega
theorem isi_row {l : D} (h : MH) (p : pl l = true) : ∃ c, clsD h l = some c ∧ (["list", "tuple"].any (subT c)) = (rowF l).isSome := by
  cases l <;> simp [pl] at p <;> exact ⟨_, rfl, by simp [subT, rowF]⟩
theorem len_row {l : D} {ls : List D} (h : MH) (Q : MQ) (e : rowF l = some ls) : fLen [l] h Q = Q (.int ls.length) h := by
  cases l <;> simp [rowF] at e <;> subst e <;> rfl
theorem sq_row {l : D} {ls : List D} (h : MH) (e : rowF l = some ls) : sqOf h l = some ls := by
  cases l <;> simp [rowF] at e <;> subst e <;> rfl
theorem enum_get {ls : List D} {i : Nat} {d : D} (e : (enumD 0 ls)[i]? = some d) : ∃ x, ls[i]? = some x ∧ d = .tup [.int (i : Nat), x] := by
  unfold enumD at e
  rw [List.getElem?_mapIdx] at e
  cases q : ls[i]? with
  | none => rw [q] at e; cases e
  | some x =>
    rw [q] at e
    simp at e
    exact ⟨x, rfl, e.symm⟩
theorem enum_len {ls : List D} : (enumD 0 ls).length = ls.length := by unfold enumD; simp
theorem outL_get : ∀ {bs ls : List D} {i k : Nat} {b l : D}, bs[i]? = some b → ls[i]? = some l → (outL k bs ls)[i]? = some (partI (k + i) (intD b) l)
  | [], _, _, _, _, _, e, _ => by simp at e
  | _ :: _, [], _, _, _, _, _, e => by simp at e
  | b :: bs, l :: ls, 0, k, _, _, e1, e2 => by simp at e1 e2; subst e1 e2; rfl
  | b :: bs, l :: ls, i + 1, k, _, _, e1, e2 => by
    have := outL_get (bs := bs) (ls := ls) (i := i) (k := k + 1) (by simpa using e1) (by simpa using e2)
    simp only [outL, List.getElem?_cons_succ, this]
    congr 2
    omega
theorem outL_len : ∀ {bs ls : List D} {k : Nat}, bs.length = ls.length → (outL k bs ls).length = ls.length
  | [], [], _, _ => rfl
  | [], _ :: _, _, e => by simp at e
  | _ :: _, [], _, e => by simp at e
  | b :: bs, l :: ls, k, e => by simp [outL, outL_len (bs := bs) (ls := ls) (k := k + 1) (by simpa using e)]
theorem lv_cases {x : D} (h : lvOk x = true) : x = .non ∨ ∃ k : Nat, x = .int k ∧ k ≤ 13 := by
  cases x with
  | non => exact .inl rfl
  | int i =>
    simp [lvOk, btw] at h
    exact .inr ⟨i.toNat, by congr 1; omega, by omega⟩
  | _ => simp [lvOk, btw] at h
theorem blk_row {b : D} (h : isBlk b = true) : ∃ bs, rowF b = some bs ∧ bs.length = 64 ∧ ∀ x ∈ bs, isI x = true := by
  unfold isBlk at h
  split at h
  · rename_i bs e
    simp at h
    exact ⟨bs, e, h.1, h.2⟩
  · cases h
theorem isI_int {x : D} (h : isI x = true) : x = .int (intD x) := by
  cases x <;> simp [isI] at h <;> rfl
theorem bad_at {ls : List D} {i : Nat} {x : D} (h : ∀ (j : Nat) (y : D), j < i → ls[j]? = some y → lvOk y = true) (e : ls[i]? = some x) (n : lvOk x = false) : ls.findIdx? (fun d => !lvOk d) = some i := by
  obtain ⟨hi, e'⟩ := List.getElem?_eq_some_iff.mp e
  refine List.findIdx?_eq_some_iff_getElem.mpr ⟨hi, by rw [e', n]; rfl, fun j hj => ?_⟩
  rw [h j _ hj (List.getElem?_eq_getElem (by omega))]
  simp
theorem pure_so_far (s : sp_so_far ds h Q' E') : rd_so_far (fun _ => E') { nx := fun _ h' => Q' .non h', rt := Q' } (mstart N_so_far ds) h := by
  obtain ⟨b, l, rfl, pb, plr, sm, q⟩ := s
  simp [rd_so_far, mstart_eq]
  refine ⟨b, rfl, pb, ?_⟩
  by_cases hb : isBlk b = true
  · obtain ⟨bs, rb, lb, ib⟩ := blk_row hb
    have pll : pl l = true := by
      simp only [plR, Bool.and_eq_true] at plr
      exact plr.1
    obtain ⟨c, c1, c2⟩ := isi_row h pll
    simp only [soFar, hb, if_true] at q
    cases hl : rowF l with
    | none =>
      rw [hl] at q c2
      simp at c2
      simp [hb, c1, c2]
      exact q h Ext.refl
    | some ls =>
      rw [hl] at q c2
      have c3 : subT c "list" = true ∨ subT c "tuple" = true := by simpa using c2
      simp [hb, c1, c3, len_row h _ hl, hl]
      by_cases h64 : ls.length = 64
      · have h64' : ((ls.length : Int) == 64) = true := by simp; omega
        simp only [if_pos h64] at q
        simp [h64]
        intro p hp
        have hpl : ∀ x ∈ ls, pl x = true := by
          simp only [plR, hl, Bool.and_eq_true] at plr
          exact List.all_eq_true.mp plr.2
        have lo : (outL 0 bs ls).length = 64 := by rw [outL_len (by omega)]; exact h64
        refine wLoop_inv (fun i σ h' => h' = mupd h p (.lst (((outL 0 bs ls).map D.int).take i)) ∧ (∃ v3 v4 v5, σ = [some b, some l, some (.ref p), v3, v4, v5]) ∧ ∀ (j : Nat) (y : D), j < i → ls[j]? = some y → lvOk y = true) ⟨by simp, ⟨_, _, _, rfl⟩, fun j y z => by omega⟩ ?_ ?_
        · rintro i d σ h' K e ⟨rfl, ⟨v3, v4, v5, rfl⟩, iv⟩ hK
          unfold lb_so_far_0
          obtain ⟨x, ex, rfl⟩ := enum_get e
          have hx := hpl x (List.mem_of_getElem? ex)
          have hi : i < ls.length := (List.getElem?_eq_some_iff.mp ex).1
          obtain ⟨y, ey⟩ : ∃ y, bs[i]? = some y := ⟨_, List.getElem?_eq_getElem (by omega)⟩
          have iy := isI_int (ib y (List.mem_of_getElem? ey))
          have sy := sm bs rb y (List.mem_of_getElem? ey)
          have og := outL_get (k := 0) ey ex
          rw [Nat.zero_add] at og
          have ln : (((outL 0 bs ls).map D.int).take i).length < sizeLine := by
            have := szL
            rw [List.length_take, List.length_map]; omega
          have fin : ∀ (v : Int) σ', v = partI i (intD y) x → lvOk x = true → (∃ v3 v4 v5, σ' = [some b, some l, some (.ref p), v3, v4, v5]) → K σ' (mupd h p (.lst (((outL 0 bs ls).map D.int).take i ++ [.int v]))) := fun v σ' ev hv eσ => by
            refine hK _ _ ⟨?_, eσ, fun j z hj ez => ?_⟩
            · rw [take_snoc (x := D.int v) (by rw [List.getElem?_map, og, ev]; rfl)]
            · by_cases hji : j = i
              · subst hji; rw [ex] at ez; cases ez; exact hv
              · exact iv j z (by omega) ez
          by_cases hv : lvOk x = true
          · rcases lv_cases hv with rfl | ⟨k, rfl, hk⟩
            · simp
              exact ⟨by simpa using ln, fin 0 _ rfl hv ⟨_, _, _, rfl⟩⟩
            · simp
              refine ⟨.int k, 0, 13, rfl, rfl, ?_⟩
              have hb' : btw (.int k) 0 13 = true := by simp [btw]; omega
              have hsq : ∀ h', sqOf h' b = some bs := fun h' => sq_row h' rb
              simp [hb', hsq, atI_of (show i < bs.length by omega)]
              have eyi : bs[i] = .int (intD y) := by
                have : bs[i] = y := by
                  have := List.getElem?_eq_getElem (show i < bs.length by omega)
                  rw [ey] at this; exact (Option.some.inj this).symm
                rw [this]; exact iy
              by_cases hi0 : i = 0
              · subst hi0
                have a0 : atI bs 0 = some bs[0] := atI_of (show 0 < bs.length by omega)
                have s1 : ∀ z : Int, shrOk z k := fun z => by show 0 ≤ (k : Int); omega
                simp [a0, eyi, s1]
                refine ⟨shl_ok (n := 100) (abs_div sy) (by omega) (by omega) (by omega), by simpa using ln, ?_⟩
                exact fin _ _ (by simp [partI]) hv ⟨_, _, _, rfl⟩
              · have hi0' : ¬ (i : Int) = 0 := by omega
                simp [hi0', hi0, eyi]
                refine ⟨_, _, rfl, by omega, ?_⟩
                simp
                refine ⟨shl_ok (n := 100) (abs_cut sy) (by omega) (by omega) (by omega), by simpa using ln, ?_⟩
                exact fin _ _ (by simp [partI, hi0]) hv ⟨_, _, _, rfl⟩
          · have hv' : lvOk x = false := by simpa using hv
            have bad := bad_at iv ex hv'
            rw [bad] at q
            have hxn : x ≠ .non := fun z => by rw [z] at hv'; cases hv'
            have hbt : btw x 0 13 = false := by
              unfold lvOk at hv'
              split at hv'
              · cases hv'
              · exact hv'
            have nn : (match x with | D.non => true | x => false) = false := by
              cases x <;> first | rfl | exact (hxn rfl).elim
            simp [nn]
            refine ⟨x, 0, 13, rfl, hx, ?_⟩
            simp [hbt]
            exact q _ (Ext.new hp)
        · rintro σ h' ⟨rfl, ⟨v3, v4, v5, rfl⟩, iv⟩
          have nb : ls.findIdx? (fun d => !lvOk d) = none := by
            rw [List.findIdx?_eq_none_iff]
            intro x hx
            obtain ⟨j, hj, ej⟩ := List.getElem_of_mem hx
            rw [iv j x (by rw [enum_len]; exact hj) (by rw [List.getElem?_eq_getElem hj, ej])]
            rfl
          rw [nb] at q
          rw [enum_len, h64]
          have tk : ((outL 0 bs ls).map D.int).take 64 = (outL 0 bs ls).map D.int := List.take_of_length_le (by simp [lo])
          rw [tk]
          simp [mdel_mupd hp]
          simpa [rb] using q
      · have h64' : ¬ (ls.length : Int) = 64 := by omega
        simp only [if_neg h64] at q
        simp [h64']
        exact q h Ext.refl
  · simp [soFar, hb] at q
    simp [hb]
    exact q h Ext.refl
theorem pure_law_fault (A : Ad) (s : sp_law_fault ds h Q' E') : rd_law_fault A (fun _ => E') { nx := fun _ h' => Q' .non h', rt := Q' } (mstart N_law_fault ds) h := by
  obtain ⟨b, l, rfl, pb, pl, sm, q⟩ := s
  simp [rd_law_fault, mstart_eq]
  refine ⟨b, l, rfl, pb, pl, sm, ?_⟩
  have z2 : (2 : Nat) ≤ sizeLine := by decide
  have z3 : (3 : Nat) ≤ sizeLine := by decide
  have ni : (("index" : Str) == ("number" : Str)) = false := by decide
  cases e : soFar b l with
  | noB =>
    rw [e] at q
    intro h' he
    simp [known, is_NoBlock, mputE, moffE, List.lookup, ni, z3]
    exact q h' he
  | noL i =>
    rw [e] at q
    intro h' he
    simp [known, is_NoBlock, is_NoLevels, mputE, moffE, List.lookup, z2]
    exact q h' he
  | out xs =>
    rw [e] at q
    exact q h Ext.refl
theorem part_due {i : Nat} {v : Int} {k : Nat} (hv : i = 0 ∨ 0 ≤ v) : v / 2 ^ k * 2 ^ k = partI i v (.int k) := by
  simp only [partI, Int.toNat_natCast]
  by_cases hi : i = 0
  · rw [if_pos hi]
  · rw [if_neg hi]
    unfold cutI
    split
    · rfl
    · have : v = 0 := by omega
      subst this
      simp
theorem part_due2 {i : Nat} {v : Int} {k : Nat} (hi : ¬ i = 0) (hv : ¬ 0 ≤ v) : 0 - (0 - v) / 2 ^ k * 2 ^ k = partI i v (.int k) := by
  simp only [partI, Int.toNat_natCast, if_neg hi]
  unfold cutI
  rw [if_neg (by omega), Int.neg_mul, Int.zero_sub, Int.zero_sub]
theorem pure_law_due (s : sp_law_due ds h Q' E') : rd_law_due { nx := fun _ h' => Q' .non h', rt := Q' } (mstart N_law_due ds) h := by
  obtain ⟨b, l, bs, ls, rfl, rb, hl, lb, h64, ib, il, q⟩ := s
  simp [rd_law_due, mstart_eq, hl]
  intro p hp
  have lo : (outL 0 bs ls).length = 64 := by rw [outL_len (by omega)]; exact h64
  refine wLoop_inv (fun i σ h' => h' = mupd h p (.lst (((outL 0 bs ls).map D.int).take i)) ∧ ∃ v3 v4 v5 v6, σ = [some b, some l, some (.ref p), v3, v4, v5, v6]) ⟨by simp, _, _, _, _, rfl⟩ ?_ ?_
  · rintro i d σ h' K e ⟨rfl, ⟨v3, v4, v5, v6, rfl⟩⟩ hK
    unfold lb_law_due_0
    obtain ⟨x, ex, rfl⟩ := enum_get e
    have hv := il x (List.mem_of_getElem? ex)
    have hi : i < ls.length := (List.getElem?_eq_some_iff.mp ex).1
    obtain ⟨y, ey⟩ : ∃ y, bs[i]? = some y := ⟨_, List.getElem?_eq_getElem (by omega)⟩
    have iy := isI_int (ib y (List.mem_of_getElem? ey))
    have og := outL_get (k := 0) ey ex
    rw [Nat.zero_add] at og
    have ln : (((outL 0 bs ls).map D.int).take i).length < sizeLine := by
      have := szL
      rw [List.length_take, List.length_map]; omega
    have fin : ∀ (v : Int) σ', v = partI i (intD y) x → (∃ v3 v4 v5 v6, σ' = [some b, some l, some (.ref p), v3, v4, v5, v6]) → K σ' (mupd h p (.lst (((outL 0 bs ls).map D.int).take i ++ [.int v]))) := fun v σ' ev eσ => by
      refine hK _ _ ⟨?_, eσ⟩
      rw [take_snoc (x := D.int v) (by rw [List.getElem?_map, og, ev]; rfl)]
    have hsq : ∀ h', sqOf h' b = some bs := fun h' => sq_row h' rb
    have eyi : bs[i] = .int (intD y) := by
      have : bs[i] = y := by
        have := List.getElem?_eq_getElem (show i < bs.length by omega)
        rw [ey] at this; exact (Option.some.inj this).symm
      rw [this]; exact iy
    have ai : atI bs (i : Int) = some (.int (intD y)) := by rw [atI_of (show i < bs.length by omega), eyi]
    have sh : ∀ k : Nat, k ≤ 13 → shlOk 1 k := fun k hk => shl_ok (n := 10) (by decide) (by omega) (by omega) (by omega)
    rcases lv_cases hv with rfl | ⟨k, rfl, hk⟩
    · have s0 : shlOk 1 0 := sh 0 (by omega)
      simp [hsq, ai, s0]
      exact ⟨by simpa using ln, fin 0 _ rfl ⟨_, _, _, _, rfl⟩⟩
    · have hpk : (0 : Int) < 2 ^ k := Int.pow_pos (by decide)
      have hpk2 : (2 : Int) ^ k ≤ 2 ^ 13 := by
        have := Nat.pow_le_pow_right (n := 2) (by decide) hk
        have e : ((2 ^ k : Nat) : Int) = 2 ^ k := by simp
        omega
      have dv : ∀ z : Int, divOk z (2 ^ k) := fun z => div_small hpk (by omega)
      have ml : ∀ z : Int, mulOk z (2 ^ k) := fun z => small_mulR (by omega)
      have fin2 : ∀ σ', (∃ v3 v4 v5 v6, σ' = [some b, some l, some (.ref p), v3, v4, v5, v6]) → (if i = 0 ∨ 0 ≤ intD y then K σ' (mupd h p (.lst (((outL 0 bs ls).map D.int).take i ++ [.int (intD y / 2 ^ k * 2 ^ k)]))) else K σ' (mupd h p (.lst (((outL 0 bs ls).map D.int).take i ++ [.int (0 - (0 - intD y) / 2 ^ k * 2 ^ k)])))) := fun σ' eσ => by
        split
        · rename_i z; exact fin _ _ (part_due z) eσ
        · rename_i z; exact fin _ _ (part_due2 (by omega) (by omega)) eσ
      by_cases hk0 : k = 0
      · subst hk0
        have p1 : ∀ (hz : i = 0 ∨ 0 ≤ intD y), intD y = partI i (intD y) (.int (0 : Nat)) := fun hz => by simpa using part_due (k := 0) hz
        have p2 : ∀ (hi : ¬ i = 0) (hv : ¬ 0 ≤ intD y), intD y = partI i (intD y) (.int (0 : Nat)) := fun hi hv => by simpa using part_due2 (k := 0) hi hv
        have d1 : ∀ z : Int, divOk z 1 := fun z => div_small (by omega) (by omega)
        have m1 : ∀ z : Int, mulOk z 1 := fun z => small_mulR (by omega)
        have p0 : intD y = partI i (intD y) (.int (0 : Nat)) := by
          by_cases z1 : i = 0
          · exact p1 (.inl z1)
          · by_cases z2 : 0 ≤ intD y
            · exact p1 (.inr z2)
            · exact p2 z1 z2
        have ln' : min i (outL 0 bs ls).length < sizeLine := by simpa using ln
        have s0 : shlOk 1 0 := sh 0 (by omega)
        have F0 := fun σ' z => fin (intD y) σ' p0 z
        simp [hsq, ai, s0, d1, m1, ln']
        exact F0 _ ⟨_, _, _, _, rfl⟩
      · have hk1 : ((k : Int) != 0) = true := by simp; omega
        simp [hsq, ai]
        simp only [hk1]
        refine ⟨sh k hk, ?_⟩
        split
        · rename_i z; exact ⟨dv _, ml _, by simpa using ln, fin _ _ (part_due (.inl z)) ⟨_, _, _, _, rfl⟩⟩
        · rename_i z
          split
          · rename_i z2; exact ⟨dv _, ml _, by simpa using ln, fin _ _ (part_due (.inr z2)) ⟨_, _, _, _, rfl⟩⟩
          · rename_i z2; exact ⟨dv _, ml _, by simpa using ln, fin _ _ (by simpa using part_due2 z z2) ⟨_, _, _, _, rfl⟩⟩
  · rintro σ h' ⟨rfl, ⟨v3, v4, v5, v6, rfl⟩⟩
    rw [enum_len, h64]
    have tk : ((outL 0 bs ls).map D.int).take 64 = (outL 0 bs ls).map D.int := List.take_of_length_le (by simp [lo])
    rw [tk]
    simp [mdel_mupd hp]
    exact q
theorem pure_law_coefficient (s : sp_law_coefficient ds h Q' E') : rd_law_coefficient { nx := fun _ h' => Q' .non h', rt := Q' } (mstart N_law_coefficient ds) h := by
  obtain ⟨s, rfl, hs, q⟩ := s
  simp [rd_law_coefficient, mstart_eq]
  refine ⟨s, 8, rfl, hs, by omega, div_small (by omega) (by omega), fun r h1 r0 r1 f1 => ?_⟩
  simp
  split <;>
    (first
     | refine ⟨s, 3, rfl, f1.src, by omega, div_small (by omega) (by omega), fun r2 h2 a0 a1 f2 => ?_⟩
     | refine ⟨s, 10, rfl, f1.src, by omega, div_small (by omega) (by omega), fun r2 h2 a0 a1 f2 => ?_⟩) <;>
    (have a2 : r2 < 10 := by omega
     obtain ⟨n, rfl⟩ := Int.eq_ofNat_of_zero_le a0
     have e1 : (1 : Int) + n - 1 = n := by omega
     have hn : n < 10 := by omega
     have hp : (0 : Int) < 2 ^ n := Int.pow_pos (by decide)
     have hp2 : (2 : Int) ^ n ≤ 2 ^ 10 := by
       have := Nat.pow_le_pow_right (n := 2) (by decide) (Nat.le_of_lt hn)
       have e : ((2 ^ n : Nat) : Int) = 2 ^ n := by simp
       omega
     have sh : shlOk 1 n := shl_ok (n := 10) (by decide) (by omega) (by omega) (by omega)
     simp [e1, sh]
     refine ⟨s, _, rfl, f2.src, hp, div_small hp (by omega), fun r3 h3 b0 b1 f3 => ?_⟩
     have z2 : (2 : Nat) ≤ sizeLine := by decide
     simp [z2]
     refine ⟨s, _, rfl, f3.src, by simp, by simp, fun x h4 hx f4 => ?_⟩
     simp at hx
     have ff := ((f1.trans f2).trans f3).trans f4
     rcases hx with rfl | rfl
     · exact q _ _ (by omega) ff
     · exact q _ _ (by omega) ff)
theorem ints_of : ∀ {xs : List Int} {n : Nat}, (List.replicate n (D.int 0)) = (List.replicate n (0 : Int)).map D.int := fun {_ n} => by simp
theorem pure_law_block (s : sp_law_block ds h Q' E') : rd_law_block { nx := fun _ h' => Q' .non h', rt := Q' } (mstart N_law_block ds) h := by
  obtain ⟨s, rfl, hs, q⟩ := s
  have z64 : (64 : Nat) ≤ sizeLine := by decide
  have z1 : (1 : Nat) ≤ sizeLine := by decide
  have z2 : (2 : Nat) ≤ sizeLine := by decide
  have z6 : (6 : Nat) ≤ sizeLine := by decide
  have z10 : (10 : Nat) ≤ sizeLine := by decide
  have z11 : (11 : Nat) ≤ sizeLine := by decide
  rw [show mstart N_law_block [D.ref s, .int 10] = [some (.ref s), some (.int 10), none, none, none, none] from rfl]
  simp [-List.reduceReplicate, rd_law_block, z64, z1, z6, z10]
  intro p hp
  have nps : p ≠ s := fun z => hs.some (by rw [← z]; exact hp)
  have hs0 : Src (mupd h p (.lst (List.replicate 64 (D.int 0)))) s := (Ext.new hp).src hs
  refine ⟨s, 4, rfl, hs0, by omega, div_small (by omega) (by omega), fun r h1 r0 r1 f1 => ?_⟩
  -- the state: p holds 64 small ints, else only s has changed
  let St : MH → Prop := fun h' => ∃ xs : List Int, h' p = some (.lst (xs.map D.int)) ∧ xs.length = 64 ∧ (∀ x ∈ xs, x.natAbs < 2 ^ 20) ∧ Src h' s ∧ ∀ q, q ≠ s → q ≠ p → h' q = h q
  have st1 : St h1 := by
    refine ⟨List.replicate 64 0, ?_, by simp, fun x hx => ?_, f1.src, fun q n1 n2 => ?_⟩
    · rw [f1.oth p nps, mupd_same, List.map_replicate]
    · rw [List.eq_of_mem_replicate hx]; decide
    · rw [f1.oth q n1, mupd_ne n2]
  have st_go : ∀ {h1 h2 : MH}, St h1 → Fro h1 h2 s → St h2 := fun {h1 h2} ⟨xs, e, l, b, sr, o⟩ f => ⟨xs, by rw [f.oth p nps]; exact e, l, b, f.src, fun q n1 n2 => by rw [f.oth q n1]; exact o q n1 n2⟩
  have st_set : ∀ {h1 : MH} {xs : List Int} {v : Int} {j : Nat}, h1 p = some (.lst (xs.map D.int)) → xs.length = 64 → (∀ x ∈ xs, x.natAbs < 2 ^ 20) → Src h1 s → (∀ q, q ≠ s → q ≠ p → h1 q = h q) → v.natAbs < 2 ^ 20 → St (mupd h1 p (.lst ((xs.map D.int).set j (.int v)))) := by
    intro h1 xs v j e l b sr o hv
    refine ⟨xs.set j v, by rw [mupd_same, List.map_set], by simp [l], fun x hx => ?_, ?_, fun q n1 n2 => by rw [mupd_ne n2]; exact o q n1 n2⟩
    · rcases List.mem_or_eq_of_mem_set hx with hx | rfl
      · exact b x hx
      · exact hv
    · obtain ⟨x, y, z, e⟩ := sr
      exact ⟨x, y, z, by rw [mupd_ne (Ne.symm nps)]; exact e⟩
  -- the rest, from a state
  have rest : ∀ h1 : MH, St h1 → spOne [.ref s, .lst [.int 0, .int 1, .int 2, .int 3, .int 6, .int 40]] h1 (fun d h1 => match d with
      | .int j => okR j ∧ wLoop (gN 4) lb_law_block_0 (rangeD 0 j.toNat)
          { nx := wFz 2 (wRet (wCall sp_law_one xF (wCons (wVar 0) (wCons (wLst (wCons (wVar 2) (wCons (wCB fTup (wCons (wVar 2) wNil)) wNil))) wNil)))) { nx := fun _ h' => Q' .non h', rt := Q' }, rt := Q' }
          [some (.ref s), some (.int 10), some (.ref p), some (.lst [.int 1, .int 2, .int 3, .int 16, .int 17, .int 18, .int 33, .int 49, .int 62, .int 63]), none, none] h1
      | _ => False) (fun _ _ _ => False) := by
    intro h1 st
    have sr1 : Src h1 s := by obtain ⟨_, _, _, _, z, _⟩ := st; exact z
    refine ⟨s, _, rfl, sr1, by simp, by simp, fun x h2 hx f2 => ?_⟩
    have st2 := st_go st f2
    obtain ⟨j, rfl, hj⟩ : ∃ j : Int, x = .int j ∧ 0 ≤ j ∧ j ≤ 40 := by
      simp at hx
      rcases hx with rfl | rfl | rfl | rfl | rfl | rfl <;> exact ⟨_, rfl, by omega, by omega⟩
    refine ⟨⟨by omega, by omega⟩, ?_⟩
    refine wLoop_inv (fun i σ h' => St h' ∧ ∃ v4 v5, σ = [some (.ref s), some (.int 10), some (.ref p), some (.lst [.int 1, .int 2, .int 3, .int 16, .int 17, .int 18, .int 33, .int 49, .int 62, .int 63]), v4, v5]) ⟨st2, _, _, rfl⟩ ?_ ?_
    · rintro i d σ h3 K e ⟨st3, v4, v5, rfl⟩ hK
      unfold lb_law_block_0
      have sr3 : Src h3 s := by obtain ⟨_, _, _, _, z, _⟩ := st3; exact z
      simp
      refine ⟨s, 63, rfl, sr3, by omega, div_small (by omega) (by omega), fun r h4 r0 r1 f4 => ?_⟩
      simp [z1, z11]
      refine ⟨s, _, rfl, f4.src, by simp, by simp, fun x h5 hx f5 => ?_⟩
      obtain ⟨t, rfl, ht⟩ : ∃ t : Int, x = .int t ∧ 0 ≤ t ∧ t < 64 := by
        simp at hx
        rcases hx with rfl | rfl | rfl | rfl | rfl | rfl | rfl | rfl | rfl | rfl | rfl <;> exact ⟨_, rfl, by omega, by omega⟩
      simp
      refine ⟨s, rfl, f5.src, fun v h6 hv f6 => ?_⟩
      obtain ⟨xs, e6, l6, b6, s6, o6⟩ := st_go (st_go (st_go st3 f4) f5) f6
      simp [e6, l6, ixN_in ht.1 (show t < (64 : Nat) by omega)]
      exact hK _ _ ⟨st_set e6 l6 b6 s6 o6 hv, _, _, rfl⟩
    · rintro σ h3 ⟨⟨xs, e3, l3, b3, s3, o3⟩, v4, v5, rfl⟩
      simp [e3, z2]
      have sd : Src (mdel h3 p) s := by
        obtain ⟨x, y, z, e⟩ := s3
        exact ⟨x, y, z, by unfold mdel; rw [if_neg (Ne.symm nps)]; exact e⟩
      refine ⟨s, _, rfl, sd, by simp, by simp, fun x h4 hx f4 => ?_⟩
      refine q x xs h4 (by simpa using hx) l3 b3 ⟨f4.src, fun a na => ?_⟩
      rw [f4.oth a na]
      unfold mdel
      split
      · rename_i z; rw [z, hp]
      · rename_i z; exact o3 a na z
  simp
  split
  · refine ⟨s, rfl, f1.src, fun v h2 hv f2 => ?_⟩
    obtain ⟨xs, e2, l2, b2, s2, o2⟩ := st_go st1 f2
    have i0 : ixN 64 0 = some 0 := by decide
    simp [e2, l2, i0, z10, z6]
    exact rest _ (st_set e2 l2 b2 s2 o2 hv)
  · exact rest _ st1
theorem partI_idem {i : Nat} {b : Int} {l l' : D} (h : lvOk l = true) (h' : lvOk l' = true) (hl : l = .non ∧ l' = .non ∨ ∃ j k : Nat, l = .int j ∧ l' = .int k ∧ j ≤ k) : partI i (partI i b l) l' = partI i b l' := by
  rcases hl with ⟨rfl, rfl⟩ | ⟨j, k, rfl, rfl, hjk⟩
  · rfl
  · obtain ⟨m, rfl⟩ : ∃ m, k = j + m := ⟨k - j, by omega⟩
    simp only [partI, Int.toNat_natCast]
    have pj : (0 : Int) < 2 ^ j := Int.pow_pos (by decide)
    have pm : (0 : Int) < 2 ^ m := Int.pow_pos (by decide)
    have e : (2 : Int) ^ (j + m) = 2 ^ j * 2 ^ m := Int.pow_add ..
    have key : ∀ z : Int, z / 2 ^ j * 2 ^ j / 2 ^ (j + m) = z / 2 ^ (j + m) := fun z => by
      rw [e, ← Int.ediv_ediv_of_nonneg (by omega), ← Int.ediv_ediv_of_nonneg (by omega), Int.mul_ediv_cancel _ (by omega)]
    by_cases hi : i = 0
    · simp only [if_pos hi, key]
    · simp only [if_neg hi]
      congr 1
      have nn : ∀ z : Int, 0 < z → 0 ≤ z / 2 ^ j := fun z hz => Int.ediv_nonneg (by omega) (by omega)
      unfold cutI
      by_cases hb : 0 < b
      · simp only [if_pos hb]
        have := nn b hb
        by_cases hz : 0 < b / 2 ^ j
        · have : 0 < b / 2 ^ j * 2 ^ j := Int.mul_pos hz pj
          rw [if_pos this, key]
        · have z0 : b / 2 ^ j = 0 := by omega
          have := key b
          rw [z0] at this ⊢
          simp at this ⊢
          exact this
      · simp only [if_neg hb]
        have hq : ¬ 0 < -(-b / 2 ^ j) * 2 ^ j := by
          have h0 : 0 ≤ -b / 2 ^ j := Int.ediv_nonneg (by omega) (by omega)
          have := Int.mul_nonneg h0 (Int.le_of_lt pj)
          rw [Int.neg_mul]; omega
        rw [if_neg hq, Int.neg_mul, Int.neg_neg, key]
theorem eqvs_ints : ∀ xs : List Int, eqvs (xs.map D.int) (xs.map D.int) = true
  | [] => rfl
  | x :: xs => by simp [eqvs, eqv, eqvs_ints xs]
theorem fit_ints (xs : List Int) : fit 64 (.tup (xs.map D.int)) = true := by
  simp [fit]
theorem abs_part {i : Nat} {b : Int} {l : D} (hl : lvOk l = true) (h : b.natAbs < 2 ^ 70) : (partI i b l).natAbs < 2 ^ 100 := by
  rcases lv_cases hl with rfl | ⟨k, rfl, hk⟩
  · simp [partI]
  · simp only [partI, Int.toNat_natCast]
    have hk2 : (2 : Nat) ^ k ≤ 2 ^ 13 := Nat.pow_le_pow_right (by decide) hk
    have : ((2 : Int) ^ k).natAbs = 2 ^ k := by simp [Int.natAbs_pow]
    have key : ∀ z : Int, z.natAbs < 2 ^ 70 → (z * 2 ^ k).natAbs < 2 ^ 100 := fun z hz => by
      rw [Int.natAbs_mul, this]
      have := Nat.mul_le_mul (Nat.le_of_lt hz) hk2
      omega
    split
    · exact key _ (abs_div h)
    · exact key _ (abs_cut h)
theorem so_far_ok {b l : D} {bs ls : List D} {h : MH} {Q : MQ} {E : XQ} (rb : rowF b = some bs) (hb : bs.length = 64) (ib : ∀ x ∈ bs, isI x = true) (sm : ∀ x ∈ bs, (intD x).natAbs < 2 ^ 100) (rl : rowF l = some ls) (hl : ls.length = 64) (il : ∀ x ∈ ls, lvOk x = true)
    (q : Q (.tup ((outL 0 bs ls).map .int)) h) : sp_so_far [b, l] h Q E := by
  have p1 : plR b = true := by
    have : pl b = true := by cases b <;> simp [rowF] at rb <;> rfl
    simp only [plR, this, rb, Bool.true_and, List.all_eq_true]
    intro x hx
    rw [isI_int (ib x hx)]; rfl
  have p2 : plR l = true := by
    have : pl l = true := by cases l <;> simp [rowF] at rl <;> rfl
    simp only [plR, this, rl, Bool.true_and, List.all_eq_true]
    intro x hx
    rcases lv_cases (il x hx) with rfl | ⟨k, rfl, _⟩ <;> rfl
  refine ⟨b, l, rfl, p1, p2, fun xs e x hx => ?_, ?_⟩
  · rw [rb] at e; cases e; exact sm x hx
  · have e1 : isBlk b = true := by simp only [isBlk, rb, hb]; simpa using ib
    have e2 : ls.findIdx? (fun d => !lvOk d) = none := by
      rw [List.findIdx?_eq_none_iff]
      intro x hx; rw [il x hx]; rfl
    simp only [soFar, e1, if_true, rl, hl, e2, rb, Option.getD_some]
    exact q
/-- one level, then one that is not less -/
def upTo (l l' : D) : Prop := l = .non ∧ l' = .non ∨ ∃ j k : Nat, l = .int j ∧ l' = .int k ∧ j ≤ k
theorem outL_again : ∀ {k : Nat} {bs ls ls' : List D}, bs.length = ls.length → ls'.length = ls.length → (∀ x ∈ ls, lvOk x = true) → (∀ x ∈ ls', lvOk x = true) → (∀ (i : Nat) (l l' : D), ls[i]? = some l → ls'[i]? = some l' → upTo l l') → outL k ((outL k bs ls).map .int) ls' = outL k bs ls'
  | k, [], [], [], _, _, _, _, _ => rfl
  | k, b :: bs, l :: ls, l' :: ls', e1, e2, h1, h2, h3 => by
    simp only [outL, List.map_cons, intD]
    rw [partI_idem (h1 l (by simp)) (h2 l' (by simp)) (h3 0 l l' rfl rfl), outL_again (by simpa using e1) (by simpa using e2) (fun x hx => h1 x (by simp [hx])) (fun x hx => h2 x (by simp [hx])) (fun i x y ex ey => h3 (i + 1) x y (by simpa using ex) (by simpa using ey))]
theorem outL_mem : ∀ {k : Nat} {bs ls : List D} {z : Int}, z ∈ outL k bs ls → ∃ i b l, b ∈ bs ∧ l ∈ ls ∧ z = partI i (intD b) l
  | k, [], _, z, h => by simp [outL] at h
  | k, b :: bs, [], z, h => by simp [outL] at h
  | k, b :: bs, l :: ls, z, h => by
    simp only [outL, List.mem_cons] at h
    rcases h with h | h
    · exact ⟨k, b, l, by simp, by simp, h⟩
    · obtain ⟨i, b', l', h1, h2, h3⟩ := outL_mem h
      exact ⟨i, b', l', by simp [h1], by simp [h2], h3⟩
structure Good (xs : List Int) (ls : List D) : Prop where
  lx : xs.length = 64
  ll : ls.length = 64
  sx : ∀ x ∈ xs, x.natAbs < 2 ^ 70
  ok : ∀ l ∈ ls, lvOk l = true
theorem ints_isI {xs : List Int} : ∀ x ∈ xs.map D.int, isI x = true := fun x hx => by
  obtain ⟨z, _, rfl⟩ := List.mem_map.mp hx; rfl
theorem ints_abs {xs : List Int} {n : Nat} (h : ∀ x ∈ xs, x.natAbs < n) : ∀ x ∈ xs.map D.int, (intD x).natAbs < n := fun x hx => by
  obtain ⟨z, hz, rfl⟩ := List.mem_map.mp hx; exact h z hz
theorem turn0 {h : MH} {E' : XQ} {ns : List Int} {s : Addr} {K bk : MSt → MH → Prop} {rt : MQ} {v1 v3 v4 v5 v6 v7 v8 v9 v10 v11 v12 : Option D} (hs : Src h s)
    (hK : ∀ xs ls h' v3 v7 v9 v10, Good xs ls → Src h' s → K [some (.scr ns), v1, some (.ref s), v3, v4, v5, some (.lst (xs.map .int)), v7, some (.lst ls), v9, v10, v11, v12] h') :
    lb_law_0 (fun _ => E') { nx := K, ct := K, bk := bk, rt := rt } [some (.scr ns), v1, some (.ref s), v3, v4, v5, v6, v7, v8, v9, v10, v11, v12] h := by
  have z1 : (1 : Nat) ≤ sizeLine := by decide
  have z2 : (2 : Nat) ≤ sizeLine := by decide
  have z6 : (6 : Nat) ≤ sizeLine := by decide
  have pw : powOk 10 20 := ⟨by omega, by omega, by decide⟩
  unfold lb_law_0
  simp
  refine ⟨s, rfl, hs, fun d xs h1 hd hl hx f1 => ?_⟩
  have sq : sqOf h1 d = some (xs.map .int) := by rcases hd with rfl | rfl <;> rfl
  simp [sq]
  intro p hp
  have hs1 : Src (mupd h1 p (.lst (xs.map .int))) s := (Ext.new hp).src f1.src
  simp [z2]
  refine ⟨s, _, rfl, hs1, by simp, by simp, fun x h2 hx2 f2 => ?_⟩
  simp [pw]
  refine ⟨s, _, rfl, f2.src, by omega, div_lt (n := 70) (by omega) (by omega) (by omega), fun r h3 r0 r1 f3 => ?_⟩
  have hx3 : x = .int 1 ∨ x = .int (-1) := by simpa using hx2
  obtain ⟨u, rfl, hu⟩ : ∃ u : Int, x = .int u ∧ (u = 1 ∨ u = -1) := by rcases hx3 with rfl | rfl <;> exact ⟨_, rfl, by omega⟩
  simp
  refine ⟨small_mul (by omega), s, 64, rfl, f3.src, by omega, div_small (by omega) (by omega), fun t h4 t0 t1 f4 => ?_⟩
  have nps : p ≠ s := fun z => f1.src.some (by rw [← z]; exact hp)
  have e4 : h4 p = some (.lst (xs.map .int)) := by rw [f4.oth p nps, f3.oth p nps, f2.oth p nps, mupd_same]
  simp [e4, hl, ixN_in t0 (show t < (64 : Nat) by omega)]
  have abs : (u * r).natAbs < 2 ^ 70 := by rcases hu with rfl | rfl <;> omega
  have ms : ((xs.map D.int).set t.toNat (.int (u * r))) = (xs.set t.toNat (u * r)).map .int := by rw [List.map_set]
  rw [ms]
  have hl2 : (xs.set t.toNat (u * r)).length = 64 := by simp [hl]
  have hx2 : ∀ x ∈ xs.set t.toNat (u * r), x.natAbs < 2 ^ 70 := fun x hx' => by
    rcases List.mem_or_eq_of_mem_set hx' with hx' | rfl
    · have := hx x hx'; omega
    · exact abs
  generalize xs.set t.toNat (u * r) = ys at hl2 hx2
  have s4 : Src (mdel (mupd h4 p (.lst (ys.map .int))) p) s := by
    obtain ⟨a, b, c, e⟩ := f4.src
    exact ⟨a, b, c, by unfold mdel; rw [if_neg (Ne.symm nps), mupd_ne (Ne.symm nps)]; exact e⟩
  generalize mdel (mupd h4 p (.lst (ys.map .int))) p = h5 at s4
  refine ⟨s, 14, rfl, s4, by omega, div_small (by omega) (by omega), fun r2 h6 r20 r21 f6 => ?_⟩
  simp [z6]
  refine ⟨⟨by omega, by omega⟩, ?_⟩
  refine wLcGo_inv (fun i acc h' => Src h' s ∧ acc.length = i ∧ ∀ x ∈ acc, lvOk x = true) ⟨f6.src, rfl, by simp⟩ ?_ ?_
  · rintro i d acc h' K e ⟨s', la, lo⟩ hK
    have hi : i < 64 := by
      have := (List.getElem?_eq_some_iff.mp e).1
      simpa [rangeD] using this
    refine ⟨_, rfl, ?_⟩
    simp [mwipe]
    refine ⟨s, 6, rfl, s', by omega, div_small (by omega) (by omega), fun r3 h7 r30 r31 f7 => ?_⟩
    obtain ⟨x, e1, e2, _⟩ := atI_in (xs := [D.non, .int 0, .int 1, .int 2, .int 13, .int r2]) r30 (by simpa using r31)
    simp [e1]
    refine ⟨by have := szL; omega, hK _ _ ⟨f7.src, by simp [la], fun y hy => ?_⟩⟩
    simp only [List.mem_append, List.mem_singleton] at hy
    rcases hy with hy | rfl
    · exact lo y hy
    · simp at e2
      rcases e2 with rfl | rfl | rfl | rfl | rfl | rfl <;> simp [lvOk, btw] <;> omega
  · rintro ls h7 ⟨s7, ll, lo⟩
    have ll : ls.length = 64 := by simpa [rangeD] using ll
    have G : Good ys ls := ⟨hl2, ll, hx2, lo⟩
    have iy : ∀ x ∈ ys.map D.int, isI x = true := ints_isI
    have ly : (ys.map D.int).length = 64 := by simp [hl2]
    have ay : ∀ x ∈ ys.map D.int, (intD x).natAbs < 2 ^ 100 := ints_abs fun x hx => by have := hx2 x hx; omega
    refine so_far_ok rfl ly iy ay rfl ll lo ?_
    have lo64 : (outL 0 (ys.map D.int) ls).length = 64 := by rw [outL_len (by omega)]; exact ll
    have ao : ∀ x ∈ outL 0 (ys.map D.int) ls, x.natAbs < 2 ^ 100 := fun z hz => by
      obtain ⟨i, b, l, hb, hl, rfl⟩ := outL_mem hz
      obtain ⟨y, hy, rfl⟩ := List.mem_map.mp hb
      exact abs_part (lo l hl) (hx2 y hy)
    refine ⟨_, _, _, _, rfl, rfl, rfl, ly, ll, iy, lo, ?_⟩
    refine ne_self (fit_ints _) ?_
    simp [g_kw_so_far_levels_block]
    refine so_far_ok rfl ly iy ay rfl ll lo ?_
    refine ne_self (fit_ints _) ?_
    simp
    refine so_far_ok rfl (by simp [lo64]) ints_isI (ints_abs ao) rfl ll lo ?_
    rw [outL_again (by omega) rfl lo lo fun i l l' e1 e2 => by
      rw [e1] at e2; cases e2
      rcases lv_cases (lo l (List.mem_of_getElem? e1)) with rfl | ⟨k, rfl, _⟩
      · exact .inl ⟨rfl, rfl⟩
      · exact .inr ⟨k, k, rfl, rfl, Nat.le_refl _⟩]
    refine ne_self (fit_ints _) ?_
    simp
    refine wLcGo_inv (fun i acc h' => Src h' s ∧ acc.length = i ∧ (∀ x ∈ acc, lvOk x = true) ∧ ∀ (j : Nat) (l l' : D), ls[j]? = some l → acc[j]? = some l' → upTo l l') ⟨s7, rfl, by simp, by simp⟩ ?_ ?_
    · rintro i d acc h' K e ⟨s', la, lk, up⟩ hK
      have hi : i < 64 := by
        have := (List.getElem?_eq_some_iff.mp e).1
        omega
      have fin : ∀ y h', Src h' s → lvOk y = true → upTo d y → acc.length < sizeLine ∧ K (acc ++ [y]) h' := fun y h' sy hy hu => ⟨by have := szL; omega, hK _ _ ⟨sy, by simp [la], fun x hx => by
          simp only [List.mem_append, List.mem_singleton] at hx
          rcases hx with hx | rfl
          · exact lk x hx
          · exact hy, fun j l l' e1 e2 => by
          rw [List.getElem?_append] at e2
          split at e2
          · exact up j l l' e1 e2
          · rename_i hj
            have : j = i := by
              rcases Nat.lt_or_ge j i with z | z
              · omega
              · have := (List.getElem?_eq_some_iff.mp e2).1
                simp at this; omega
            subst this
            rw [e] at e1; cases e1
            rw [la] at e2; simp at e2; subst e2; exact hu⟩⟩
      refine ⟨_, rfl, ?_⟩
      rcases lv_cases (lo d (List.mem_of_getElem? e)) with rfl | ⟨k, rfl, hk⟩
      · simp [mwipe]
        exact fin _ _ s' rfl (.inl ⟨rfl, rfl⟩)
      · simp [mwipe]
        refine ⟨s, 3, rfl, s', by omega, div_small (by omega) (by omega), fun r3 h8 r30 r31 f8 => ?_⟩
        simp
        obtain ⟨m, rfl⟩ := Int.eq_ofNat_of_zero_le r30
        have e8 : (if (k : Int) + m < 13 then (k : Int) + m else 13) = ((min (k + m) 13 : Nat) : Int) := by split <;> omega
        rw [e8]
        exact fin _ _ f8.src (by simp [lvOk, btw]; omega) (.inr ⟨_, _, rfl, rfl, by omega⟩)
    · rintro ms h8 ⟨s8, lm, lk, up⟩
      have lm : ms.length = 64 := by omega
      refine so_far_ok rfl (by simp [lo64]) ints_isI (ints_abs ao) rfl lm lk ?_
      refine so_far_ok rfl ly iy ay rfl lm lk ?_
      rw [outL_again (by omega) (by omega) lo lk up]
      refine ne_self (fit_ints _) ?_
      simp
      exact hK _ _ _ _ _ _ _ G s8
theorem fault_ok {b l : D} {h : MH} {Q : MQ} {E : XQ} {r : Res} (p1 : plR b = true) (p2 : plR l = true) (sm : smallB b) (e : soFar b l = r) (q : ∀ h', Ext h h' → Q (faultD r) h') : sp_law_fault [b, l] h Q E := ⟨b, l, rfl, p1, p2, sm, by rw [e]; exact q⟩
theorem plR_ints {xs : List Int} : plR (.lst (xs.map .int)) = true := by
  simp [plR, pl]
theorem small_ints {xs : List Int} (h : ∀ x ∈ xs, x.natAbs < 2 ^ 70) : smallB (.lst (xs.map .int)) := fun ys e y hy => by
  cases e
  obtain ⟨z, hz, rfl⟩ := List.mem_map.mp hy
  have := h z hz
  simp only [intD]; omega
theorem blk_ints {xs : List Int} (h : xs.length = 64) : isBlk (.lst (xs.map .int)) = true := by
  simp [isBlk, h, isI]
theorem fault1 {h : MH} {xs : List Int} {ls : List D} {s : Addr} {D0 : MEnds} {v0 v1 v2 v3 v4 v5 v7 v8 v9 v10 v11 v12 : Option D} {v6 : Option D} (G : Good xs ls) (hs : Src h s)
    (hK : ∀ h' v4, Src h' s → D0.nx [v0, v1, v2, v3, v4, v5, v6, v7, v8, v9, v10, v11, v12] h') :
    wLoop (gN 4) lb_law_1 [.non, .int 5, .lst (List.replicate 63 (.int 0)), .lst ((xs.map D.int).take 63 ++ [.bl true]), .str (strRep "0" 64), .dct []] D0 [v0, v1, v2, v3, v4, v5, v6, v7, v8, v9, v10, v11, v12] h := by
  have all : ∀ d ∈ [D.non, .int 5, .lst (List.replicate 63 (.int 0)), .lst ((xs.map D.int).take 63 ++ [.bl true]), .str (strRep "0" 64), .dct []], plR d = true ∧ smallB d ∧ isBlk d = false := by
    intro d hd
    have ns : ∀ d, rowF d = none → pl d = true → plR d = true ∧ smallB d ∧ isBlk d = false := fun d e p => ⟨by simp [plR, e, p], fun xs z => (by rw [e] at z; cases z), by simp [isBlk, e]⟩
    simp only [List.mem_cons, List.not_mem_nil, or_false] at hd
    rcases hd with rfl | rfl | rfl | rfl | rfl | rfl
    · exact ns _ rfl rfl
    · exact ns _ rfl rfl
    · refine ⟨by simp [plR, pl], fun ys e y hy => ?_, by simp [isBlk]⟩
      cases e
      rw [List.eq_of_mem_replicate hy]; simp [intD]
    · refine ⟨?_, fun ys e y hy => ?_, by simp [isBlk, isI]⟩
      · simp only [plR, row_lst, pl, Bool.true_and, List.all_eq_true]
        intro y hy
        simp only [List.mem_append, List.mem_singleton] at hy
        rcases hy with hy | rfl
        · obtain ⟨z, _, rfl⟩ := List.mem_map.mp (List.mem_of_mem_take hy); rfl
        · rfl
      · cases e
        simp only [List.mem_append, List.mem_singleton] at hy
        rcases hy with hy | rfl
        · obtain ⟨z, hz, rfl⟩ := List.mem_map.mp (List.mem_of_mem_take hy)
          have := G.sx z hz
          simp only [intD]; omega
        · simp [intD]
    · exact ns _ rfl rfl
    · exact ns _ rfl rfl
  refine wLoop_inv (fun i σ h' => Src h' s ∧ ∃ v4, σ = [v0, v1, v2, v3, v4, v5, v6, v7, v8, v9, v10, v11, v12]) ⟨hs, _, rfl⟩ ?_ ?_
  · rintro i d σ h' K e ⟨s', v4, rfl⟩ hK
    obtain ⟨a1, a2, a3⟩ := all d (List.mem_of_getElem? e)
    have z3 : (3 : Nat) ≤ sizeLine := by decide
    unfold lb_law_1
    simp
    refine fault_ok (r := .noB) a1 rfl a2 (by simp [soFar, a3]) fun h2 x2 => ?_
    simp [z3]
    refine ne_self (by simp [faultD, fit]; decide +kernel) ?_
    simp
    exact hK _ _ ⟨x2.src s', _, rfl⟩
  · rintro σ h' ⟨s', v4, rfl⟩
    exact hK _ _ s'
theorem fault2 {h : MH} {xs : List Int} {ls : List D} {s : Addr} {D0 : MEnds} {v0 v1 v2 v3 v4 v5 v7 v8 v9 v10 v11 v12 : Option D} (G : Good xs ls) (hs : Src h s)
    (hK : ∀ h' v4, Src h' s → D0.nx [v0, v1, v2, v3, v4, v5, some (.lst (xs.map .int)), v7, v8, v9, v10, v11, v12] h') :
    wLoop (gN 4) lb_law_2 [.non, .int 5, .lst (ls.take 63), .lst (ls ++ [.int 0]), .dct [], .str (strRep "0" 64)] D0 [v0, v1, v2, v3, v4, v5, some (.lst (xs.map .int)), v7, v8, v9, v10, v11, v12] h := by
  have pls : ∀ y ∈ ls, pl y = true := fun y hy => by
    rcases lv_cases (G.ok y hy) with rfl | ⟨k, rfl, _⟩ <;> rfl
  have all : ∀ d ∈ [D.non, .int 5, .lst (ls.take 63), .lst (ls ++ [.int 0]), .dct [], .str (strRep "0" 64)], plR d = true ∧ soFar (.lst (xs.map .int)) d = .noL (-1) := by
    intro d hd
    have ns : ∀ d, rowF d = none → pl d = true → plR d = true ∧ soFar (.lst (xs.map .int)) d = .noL (-1) := fun d e p => ⟨by simp [plR, e, p], by simp [soFar, blk_ints G.lx, e]⟩
    simp only [List.mem_cons, List.not_mem_nil, or_false] at hd
    rcases hd with rfl | rfl | rfl | rfl | rfl | rfl
    · exact ns _ rfl rfl
    · exact ns _ rfl rfl
    · refine ⟨?_, by simp [soFar, blk_ints G.lx, G.ll]⟩
      simp only [plR, row_lst, pl, Bool.true_and, List.all_eq_true]
      exact fun y hy => pls y (List.mem_of_mem_take hy)
    · refine ⟨?_, by simp [soFar, blk_ints G.lx, G.ll]⟩
      simp only [plR, row_lst, pl, Bool.true_and, List.all_eq_true]
      intro y hy
      simp only [List.mem_append, List.mem_singleton] at hy
      rcases hy with hy | rfl
      · exact pls y hy
      · rfl
    · exact ns _ rfl rfl
    · exact ns _ rfl rfl
  refine wLoop_inv (fun i σ h' => Src h' s ∧ ∃ v4, σ = [v0, v1, v2, v3, v4, v5, some (.lst (xs.map .int)), v7, v8, v9, v10, v11, v12]) ⟨hs, _, rfl⟩ ?_ ?_
  · rintro i d σ h' K e ⟨s', v4, rfl⟩ hK
    obtain ⟨a1, a2⟩ := all d (List.mem_of_getElem? e)
    have z2 : (2 : Nat) ≤ sizeLine := by decide
    unfold lb_law_2
    simp
    refine fault_ok (r := .noL (-1)) plR_ints a1 (small_ints G.sx) a2 fun h2 x2 => ?_
    simp [z2]
    refine ne_self (by simp [faultD, fit]; decide +kernel) ?_
    simp
    exact hK _ _ ⟨x2.src s', _, rfl⟩
  · rintro σ h' ⟨s', v4, rfl⟩
    exact hK _ _ s'
theorem fault3 {h : MH} {xs : List Int} {ls : List D} {s : Addr} {t : Int} {D0 : MEnds} {v0 v1 v2 v3 v4 v7 v9 v10 v11 v12 : Option D} (G : Good xs ls) (hs : Src h s) (t0 : 0 ≤ t) (t1 : t < 64)
    (hK : ∀ h' v4, Src h' s → D0.nx [v0, v1, v2, v3, v4, some (.int t), some (.lst (xs.map .int)), v7, some (.lst ls), v9, v10, v11, v12] h') :
    wLoop (gN 4) lb_law_3 [.int 14, .int (-1), .bl true, .str "0", .tup [.int 0], .int 100000000000000000000] D0 [v0, v1, v2, v3, v4, some (.int t), some (.lst (xs.map .int)), v7, some (.lst ls), v9, v10, v11, v12] h := by
  have pls : ∀ y ∈ ls, pl y = true := fun y hy => by
    rcases lv_cases (G.ok y hy) with rfl | ⟨k, rfl, _⟩ <;> rfl
  obtain ⟨n, rfl⟩ := Int.eq_ofNat_of_zero_le t0
  have all : ∀ d ∈ [D.int 14, .int (-1), .bl true, .str "0", .tup [.int 0], .int 100000000000000000000], pl d = true ∧ lvOk d = false := by
    intro d hd
    simp only [List.mem_cons, List.not_mem_nil, or_false] at hd
    rcases hd with rfl | rfl | rfl | rfl | rfl | rfl <;> exact ⟨rfl, rfl⟩
  refine wLoop_inv (fun i σ h' => Src h' s ∧ ∃ v4, σ = [v0, v1, v2, v3, v4, some (.int n), some (.lst (xs.map .int)), v7, some (.lst ls), v9, v10, v11, v12]) ⟨hs, _, rfl⟩ ?_ ?_
  · rintro i d σ h' K e ⟨s', v4, rfl⟩ hK
    obtain ⟨a1, a2⟩ := all d (List.mem_of_getElem? e)
    have z1 : (1 : Nat) ≤ sizeLine := by decide
    have z2 : (2 : Nat) ≤ sizeLine := by decide
    have ll := G.ll
    have szl := szL
    unfold lb_law_3
    simp
    rw [cut_to (by omega) (by omega)]
    have en : (63 - (n : Int)).toNat = 63 - n := by omega
    simp [z1, en]
    refine ⟨by omega, ⟨by omega, by omega, by omega⟩, by omega, ?_⟩
    refine fault_ok (r := .noL n) plR_ints ?_ (small_ints G.sx) ?_ fun h2 x2 => ?_
    · simp only [plR, row_lst, pl, Bool.true_and, List.all_eq_true]
      intro y hy
      simp only [List.mem_append, List.mem_cons, List.mem_replicate] at hy
      rcases hy with hy | rfl | ⟨_, rfl⟩
      · exact pls y (List.mem_of_mem_take hy)
      · exact a1
      · rfl
    · have hlen : (ls.take n ++ d :: List.replicate (63 - n) (D.str "x")).length = 64 := by simp; omega
      have hf : (ls.take n ++ d :: List.replicate (63 - n) (D.str "x")).findIdx? (fun d => !lvOk d) = some n := by
        refine bad_at (fun j y hj ey => ?_) (x := d) ?_ a2
        · rw [List.getElem?_append, if_pos (by simp; omega)] at ey
          exact G.ok y (List.mem_of_mem_take (List.mem_of_getElem? ey))
        · rw [List.getElem?_append, if_neg (by simp; omega)]
          have : n - (ls.take n).length = 0 := by simp; omega
          rw [this]; rfl
      simp only [soFar, blk_ints G.lx, if_true, row_lst, hlen, hf]
    · simp [z2]
      refine ne_self (by simp [faultD, fit]; decide +kernel) ?_
      simp
      exact hK _ _ ⟨x2.src s', _, rfl⟩
  · rintro σ h' ⟨s', v4, rfl⟩
    exact hK _ _ s'
theorem turn4 {h : MH} {E' : XQ} {ns : List Int} {k : Int} {v2 v3 v4 v5 v6 v7 v8 v9 v10 v11 v12 : Option D} {K : MSt → MH → Prop} {bk : MSt → MH → Prop} {rt : MQ} (k0 : 0 ≤ k)
    (hK : ∀ h' v1 v2 v3 v4 v5 v6 v7 v8 v9 v10 v11 v12, K [some (.scr ns), v1, v2, v3, v4, v5, v6, v7, v8, v9, v10, v11, v12] h') :
    lb_law_4 (fun _ => E') { nx := K, ct := K, bk := bk, rt := rt } [some (.scr ns), some (.int k), v2, v3, v4, v5, v6, v7, v8, v9, v10, v11, v12] h := by
  have z1 : (1 : Nat) ≤ sizeLine := by decide
  have z6 : (6 : Nat) ≤ sizeLine := by decide
  have pw : powOk 10 20 := ⟨by omega, by omega, by decide⟩
  have sr : strRepOk "0" 64 := ⟨by omega, by omega, by decide +kernel, by decide +kernel⟩
  unfold lb_law_4
  simp
  refine ⟨ns, k, rfl, k0, fun z => ?_⟩
  refine ⟨z, rfl, fun s a b c hp => ?_⟩
  simp
  refine ⟨⟨by omega, by omega⟩, ?_⟩
  have hs : Src (mupd h s (.lst [.int a, .int b, .int c])) s := ⟨a, b, c, mupd_same⟩
  refine wLoop_inv (fun i σ h' => Src h' s ∧ ∃ v3 v6 v7 v8 v9 v10, σ = [some (.scr ns), some (.int k), some (.ref s), v3, v4, v5, v6, v7, v8, v9, v10, v11, v12] ∧ (i = 0 ∨ ∃ xs ls, Good xs ls ∧ v6 = some (.lst (xs.map .int)) ∧ v8 = some (.lst ls))) ⟨hs, _, _, _, _, _, _, rfl, .inl rfl⟩ ?_ ?_
  · rintro i d σ h' K e ⟨s', v3, v6, v7, v8, v9, v10, rfl, _⟩ hK
    simp
    exact turn0 s' fun xs ls h' v3 v7 v9 v10 G s2 => hK _ _ ⟨s2, _, _, _, _, _, _, rfl, .inr ⟨xs, ls, G, rfl, rfl⟩⟩
  · rintro σ h' ⟨s', v3, v6, v7, v8, v9, v10, rfl, hh⟩
    rcases hh with hh | ⟨xs, ls, G, rfl, rfl⟩
    · simp [rangeD] at hh
    have ll := G.ll
    have lx := G.lx
    have szl := szL
    have c1 : cut (xs.map D.int) none (some 63) = (xs.map D.int).take 63 := cut_to (by omega) (by simp; omega)
    have c2 : cut ls none (some 63) = ls.take 63 := cut_to (by omega) (by omega)
    have er : (List.replicate (Int.toNat 63) [D.int 0]).flatten = List.replicate 63 (D.int 0) := by
      rw [List.flatten_replicate_singleton]; rfl
    simp [-List.reduceReplicate, z1, c1, sr, z6, er]
    refine ⟨by omega, by omega, ?_⟩
    refine fault1 G s' fun h' v4 s' => ?_
    simp [z1, c2, sr, z6]
    refine ⟨by omega, ?_⟩
    refine fault2 G s' fun h' v4 s' => ?_
    simp
    refine ⟨s, 64, rfl, s', by omega, div_small (by omega) (by omega), fun t h2 t0 t1 f2 => ?_⟩
    simp [z1, z6, pw]
    refine fault3 G f2.src t0 t1 fun h' v4 s' => ?_
    exact hK _ _ _ _ _ _ _ _ _ _ _ _ _
theorem pure_law (s : sp_law ds h Q' E') : rd_law (fun _ => E') { nx := fun _ h' => Q' .non h', rt := Q' } (mstart N_law ds) h := by
  obtain ⟨ns, rfl, hn, q⟩ := s
  have z1 : (1 : Nat) ≤ sizeLine := by decide
  have z2 : (2 : Nat) ≤ sizeLine := by decide
  have z3 : (3 : Nat) ≤ sizeLine := by decide
  have z64 : (64 : Nat) ≤ sizeLine := by decide
  rw [show mstart N_law [D.scr ns] = [some (.scr ns), none, none, none, none, none, none, none, none, none, none, none, none] from rfl]
  unfold rd_law
  rw [r_seq]
  simp only [r_ifS, r_test, r_op, r_call, r_cons, r_tup, r_un, r_c, o_neg, r_nil, o_mulT, o_addT]
  have e1 : (List.replicate (Int.toNat 61) [D.int 0]).flatten = List.replicate 61 (D.int 0) := by
    rw [List.flatten_replicate_singleton]; rfl
  have e2 : (List.replicate (Int.toNat 62) [D.int 0]).flatten = List.replicate 62 (D.int 0) := by
    rw [List.flatten_replicate_singleton]; rfl
  rw [e1, e2]
  refine ⟨z3, z1, ⟨by simp, by omega, by omega, by simp⟩, by simp; omega, z3, z1, ⟨by simp, by omega, by omega, by simp⟩, by simp; omega, ?_⟩
  refine so_far_ok rfl (by simp) ?_ ?_ rfl (by simp) ?_ ?_
  · intro x hx; simp at hx; rcases hx with rfl | rfl | rfl <;> rfl
  · intro x hx; simp at hx; rcases hx with rfl | rfl | rfl <;> decide
  · intro x hx; simp at hx; rcases hx with rfl | rfl | rfl <;> rfl
  have eo : (outL 0 ([D.int (-3), D.int (-3), D.int 5] ++ List.replicate 61 (D.int 0)) ([D.int 1, D.int 1, D.non] ++ List.replicate 61 (D.int 0))).map D.int = [D.int (-4), D.int (-2)] ++ List.replicate 62 (D.int 0) := by rfl
  rw [eo]
  refine ⟨z2, z1, ⟨by simp, by omega, by omega, by simp⟩, by simp; omega, ?_⟩
  refine ne_self (by simp [fit]) ?_
  simp
  refine ⟨⟨by split <;> omega, by split <;> omega⟩, ?_⟩
  refine wLoop_inv (fun i σ h' => ∃ v1 v2 v3 v4 v5 v6 v7 v8 v9 v10 v11 v12, σ = [some (.scr ns), v1, v2, v3, v4, v5, v6, v7, v8, v9, v10, v11, v12]) ⟨_, _, _, _, _, _, _, _, _, _, _, _, rfl⟩ ?_ ?_
  · rintro i d σ h' K e ⟨v1, v2, v3, v4, v5, v6, v7, v8, v9, v10, v11, v12, rfl⟩ hK
    obtain ⟨k, rfl, k0⟩ : ∃ k : Int, d = .int k ∧ 0 ≤ k := by
      unfold rangeD at e
      rw [List.getElem?_map] at e
      cases z : (List.range _)[i]? with
      | none => rw [z] at e; cases e
      | some j => rw [z] at e; simp at e; exact ⟨_, e.symm, by omega⟩
    simp
    exact turn4 k0 fun _ _ _ _ _ _ _ _ _ _ _ _ _ => hK _ _ ⟨_, _, _, _, _, _, _, _, _, _, _, _, rfl⟩
  · rintro σ h' ⟨v1, v2, v3, v4, v5, v6, v7, v8, v9, v10, v11, v12, rfl⟩
    simp
    exact q _
theorem law_true : LawOk 63 sp_law := fun ns h hl hb => ⟨ns, rfl, hl, fun _ => rfl⟩
end

structure Txt (P : Program) (K : PySem.W.Frag) (mg : Str → Option Value) (A : Ad) : Prop where
  g_is_integer : mg "is_integer" = some (.ref A.f_is_integer)
  F_is_integer : Fun K "is_integer" "is_integer" s_is_integer A.f_is_integer A.e_is_integer
  g_is_between : mg "is_between" = some (.ref A.f_is_between)
  F_is_between : Fun K "is_between" "is_between" s_is_between A.f_is_between A.e_is_between
  g_is_block : mg "is_block" = some (.ref A.f_is_block)
  F_is_block : Fun K "is_block" "is_block" s_is_block A.f_is_block A.e_is_block
  g_cut_off : mg "cut_off" = some (.ref A.f_cut_off)
  F_cut_off : Fun K "cut_off" "cut_off" s_cut_off A.f_cut_off A.e_cut_off
  g_so_far : mg "so_far" = some (.ref A.f_so_far)
  F_so_far : Fun K "so_far" "so_far" s_so_far A.f_so_far A.e_so_far
  g_law_cell_at : mg "_law_cell_at" = some (.ref A.f_law_cell_at)
  F_law_cell_at : Fun K "_law_cell_at" "_law_cell_at" s_law_cell_at A.f_law_cell_at A.e_law_cell_at
  g_law_source_of : mg "_law_source_of" = some (.ref A.f_law_source_of)
  F_law_source_of : Fun K "_law_source_of" "_law_source_of" s_law_source_of A.f_law_source_of A.e_law_source_of
  g_law_next : mg "_law_next" = some (.ref A.f_law_next)
  F_law_next : Fun K "_law_next" "_law_next" s_law_next A.f_law_next A.e_law_next
  g_law_one : mg "_law_one" = some (.ref A.f_law_one)
  F_law_one : Fun K "_law_one" "_law_one" s_law_one A.f_law_one A.e_law_one
  g_law_coefficient : mg "_law_coefficient" = some (.ref A.f_law_coefficient)
  F_law_coefficient : Fun K "_law_coefficient" "_law_coefficient" s_law_coefficient A.f_law_coefficient A.e_law_coefficient
  g_law_block : mg "_law_block" = some (.ref A.f_law_block)
  F_law_block : Fun K "_law_block" "_law_block" s_law_block A.f_law_block A.e_law_block
  g_law_fault : mg "_law_fault" = some (.ref A.f_law_fault)
  F_law_fault : Fun K "_law_fault" "_law_fault" s_law_fault A.f_law_fault A.e_law_fault
  g_law_due : mg "_law_due" = some (.ref A.f_law_due)
  F_law_due : Fun K "_law_due" "_law_due" s_law_due A.f_law_due A.e_law_due
  g_law : mg "law" = some (.ref A.f_law)
  F_law : Fun K "law" "law" s_law A.f_law A.e_law
  n_all : mg "all" = none
  n_bool : mg "bool" = none
  n_enumerate : mg "enumerate" = none
  n_int : mg "int" = none
  n_isinstance : mg "isinstance" = none
  n_len : mg "len" = none
  n_list : mg "list" = none
  n_max : mg "max" = none
  n_min : mg "min" = none
  n_range : mg "range" = none
  n_tuple : mg "tuple" = none
  c_MOST_LEVEL : mg "MOST_LEVEL" = some (.int 13 A.t_MOST_LEVEL)
  c_WIDE : mg "WIDE" = some (.int 64 A.t_WIDE)
  gx_PicError : mg "PicError" = some (.ref A.x_PicError)
  ex_PicError : ∀ c ∈ [("NoBlock", A.x_NoBlock), ("NoLevels", A.x_NoLevels)], PySem.W.exmOne K (.ref c.2) (.ref A.x_PicError) = some (is_PicError c.1)
  gx_NoBlock : mg "NoBlock" = some (.ref A.x_NoBlock)
  x_NoBlock : XCls P K mg "NoBlock" A.x_NoBlock A.i_NoBlock ["number", "index"]
  y_NoBlock : XGet K A.x_NoBlock
  ex_NoBlock : ∀ c ∈ [("NoBlock", A.x_NoBlock), ("NoLevels", A.x_NoLevels)], PySem.W.exmOne K (.ref c.2) (.ref A.x_NoBlock) = some (is_NoBlock c.1)
  gx_NoLevels : mg "NoLevels" = some (.ref A.x_NoLevels)
  x_NoLevels : XCls P K mg "NoLevels" A.x_NoLevels A.i_NoLevels ["index"]
  y_NoLevels : XGet K A.x_NoLevels
  ex_NoLevels : ∀ c ∈ [("NoBlock", A.x_NoBlock), ("NoLevels", A.x_NoLevels)], PySem.W.exmOne K (.ref c.2) (.ref A.x_NoLevels) = some (is_NoLevels c.1)
section
variable {P : Program} {w : World} {K : PySem.W.Frag} {mg : Str → Option Value} {base : Heap} {A : Ad}
theorem ex_PicError (T : Txt P K mg A) (n : String) (C : Addr) (hm : mg (Str.ofString n) = some (.ref C)) (hk : known n = true) : PySem.W.exmOne K (.ref C) (.ref A.x_PicError) = some (is_PicError n) := by
  simp only [known, Bool.or_eq_true, beq_iff_eq] at hk
  rcases hk with rfl | rfl
  · rw [T.gx_NoBlock] at hm
    cases hm
    exact T.ex_PicError ("NoBlock", A.x_NoBlock) (by simp)
  · rw [T.gx_NoLevels] at hm
    cases hm
    exact T.ex_PicError ("NoLevels", A.x_NoLevels) (by simp)
theorem ex_NoBlock (T : Txt P K mg A) (n : String) (C : Addr) (hm : mg (Str.ofString n) = some (.ref C)) (hk : known n = true) : PySem.W.exmOne K (.ref C) (.ref A.x_NoBlock) = some (is_NoBlock n) := by
  simp only [known, Bool.or_eq_true, beq_iff_eq] at hk
  rcases hk with rfl | rfl
  · rw [T.gx_NoBlock] at hm
    cases hm
    exact T.ex_NoBlock ("NoBlock", A.x_NoBlock) (by simp)
  · rw [T.gx_NoLevels] at hm
    cases hm
    exact T.ex_NoBlock ("NoLevels", A.x_NoLevels) (by simp)
theorem ex_NoLevels (T : Txt P K mg A) (n : String) (C : Addr) (hm : mg (Str.ofString n) = some (.ref C)) (hk : known n = true) : PySem.W.exmOne K (.ref C) (.ref A.x_NoLevels) = some (is_NoLevels n) := by
  simp only [known, Bool.or_eq_true, beq_iff_eq] at hk
  rcases hk with rfl | rfl
  · rw [T.gx_NoBlock] at hm
    cases hm
    exact T.ex_NoLevels ("NoBlock", A.x_NoBlock) (by simp)
  · rw [T.gx_NoLevels] at hm
    cases hm
    exact T.ex_NoLevels ("NoLevels", A.x_NoLevels) (by simp)
theorem sc_is_integer : FnScope N_is_integer ["value"] (defScope s_is_integer) := ⟨rfl, rfl, rfl, by decide +kernel, rfl, by decide +kernel, by decide +kernel⟩
theorem bd_is_integer (T : Txt P K mg A) : Binds K A.e_is_integer ["value"] [] := T.F_is_integer.binds fun _ _ _ _ _ _ us hl => match us, hl with | [_], _ => rfl
theorem ok_is_integer (T : Txt P K mg A) : FnM P w K mg base 2 A.f_is_integer A.e_is_integer ["value"] sp_is_integer :=
  fn_m T.F_is_integer sc_is_integer len_is_integer fun cdv Ar outer s H E B ds h Q' E' hr tk hsp => ⟨rd_is_integer , by
    exact (ms_one (ms_ret (m_and (m_isi T.n_isinstance (by decide) (m_var 0) (pe_ty T.n_int rfl)) (m_one (m_not (m_isi T.n_isinstance (by decide) (m_var 0) (pe_ty T.n_bool rfl))))))), pure_is_integer ds h Q' E' hsp⟩
theorem sc_is_between : FnScope N_is_between ["value", "least", "most"] (defScope s_is_between) := ⟨rfl, rfl, rfl, by decide +kernel, rfl, by decide +kernel, by decide +kernel⟩
theorem bd_is_between (T : Txt P K mg A) : Binds K A.e_is_between ["value", "least", "most"] [] := T.F_is_between.binds fun _ _ _ _ _ _ us hl => match us, hl with | [_, _, _], _ => rfl
theorem ok_is_between (T : Txt P K mg A) : FnM P w K mg base 3 A.f_is_between A.e_is_between ["value", "least", "most"] sp_is_between :=
  fn_m T.F_is_between sc_is_between len_is_between fun cdv Ar outer s H E B ds h Q' E' hr tk hsp => ⟨rd_is_between , by
    exact (ms_one (ms_ret (m_and (m_call (ok_is_integer T) (hr.mono (by decide)) T.g_is_integer T.F_is_integer.kp (bd_is_integer T) tkF (ma_cons (m_var 0) ma_nil)) (m_one (m_lele (m_var 1) (m_var 0) (m_var 2)))))), pure_is_between ds h Q' E' hsp⟩
theorem sc_is_block : FnScope N_is_block ["value"] (defScope s_is_block) := ⟨rfl, rfl, rfl, by decide +kernel, rfl, by decide +kernel, by decide +kernel⟩
theorem bd_is_block (T : Txt P K mg A) : Binds K A.e_is_block ["value"] [] := T.F_is_block.binds fun _ _ _ _ _ _ us hl => match us, hl with | [_], _ => rfl
theorem ok_is_block (T : Txt P K mg A) : FnM P w K mg base 3 A.f_is_block A.e_is_block ["value"] sp_is_block :=
  fn_m T.F_is_block sc_is_block len_is_block fun cdv Ar outer s H E B ds h Q' E' hr tk hsp => ⟨rd_is_block , by
    exact (ms_one (ms_ret (m_and (m_isiT T.n_isinstance (by decide) (by decide) (m_var 0) (pa_tys T.n_list rfl (pa_tys T.n_tuple rfl pa_tys_nil))) (m_and (m_eq hr.units (m_len T.n_len (ma_cons (m_var 0) ma_nil)) (m_glob (v := V.int 64) rfl T.c_WIDE ⟨_, rfl⟩ (fun _ => .int _))) (m_one (m_all rfl T.n_all (ma_cons (m_lc (own := [("one", 1)]) rfl sc_is_block.nd (mi_row (m_var 0)) (show BlkOk N_is_block (defScope s_is_block) _ [("one", 1)] from ⟨rfl, by decide +kernel, by decide +kernel, by decide +kernel, by decide +kernel⟩) put1_ok (fun _ _ _ _ _ => pg_name (i := 1) sc_is_block.nd rfl (by first | exact Or.inl rfl | exact Or.inr rfl)) (fun _ _ _ _ _ => mts_nil) (fun _ _ _ _ _ => (m_call (ok_is_integer T) (hr.mono (by decide)) T.g_is_integer T.F_is_integer.kp (bd_is_integer T) tkF (ma_cons (m_var 1) ma_nil)))) ma_nil))))))), pure_is_block ds h Q' E' hsp⟩
theorem sc_cut_off : FnScope N_cut_off ["number", "after"] (defScope s_cut_off) := ⟨rfl, rfl, rfl, by decide +kernel, rfl, by decide +kernel, by decide +kernel⟩
theorem bd_cut_off (T : Txt P K mg A) : Binds K A.e_cut_off ["number", "after"] [] := T.F_cut_off.binds fun _ _ _ _ _ _ us hl => match us, hl with | [_, _], _ => rfl
theorem ok_cut_off (T : Txt P K mg A) : FnM P w K mg base 2 A.f_cut_off A.e_cut_off ["number", "after"] sp_cut_off :=
  fn_m T.F_cut_off sc_cut_off len_cut_off fun cdv Ar outer s H E B ds h Q' E' hr tk hsp => ⟨rd_cut_off , by
    exact (ms_one (ms_ret (m_if (mt_gt (m_var 0) m_int) (m_shr (m_var 0) (m_var 1)) (m_neg (m_shr (m_neg (m_var 0)) (m_var 1)))))), pure_cut_off ds h Q' E' hsp⟩
theorem sc_so_far : FnScope N_so_far ["block", "levels"] (defScope s_so_far) := ⟨rfl, rfl, rfl, by decide +kernel, rfl, by decide +kernel, by decide +kernel⟩
theorem bd_so_far (T : Txt P K mg A) : Binds K A.e_so_far ["block", "levels"] [] := T.F_so_far.binds fun _ _ _ _ _ _ us hl => match us, hl with | [_, _], _ => rfl
theorem kw_so_far_levels_block (T : Txt P K mg A) : KwB K A.e_so_far ["block", "levels"] ["levels", "block"] g_kw_so_far_levels_block := by
  obtain ⟨oc, od, kV, doc, pm, an, cdv, ct, osl, e, lk, hcd⟩ := T.F_so_far.ex
  rw [e]
  refine ⟨fun s ws _ hl => ?_, fun r => ?_, fun r => ?_⟩
  · match ws, hl with
    | [_, _], _ => exact .of_eq rfl
  · exact match r with
    | .nil => .nil
    | (.cons v0 .nil) => (.cons v0 .nil)
    | (.cons v0 (.cons v1 .nil)) => (.cons v1 (.cons v0 .nil))
    | (.cons v0 (.cons v1 (.cons w r))) => (.cons v0 (.cons v1 (.cons w r)))
  · exact match r with
    | .nil => .nil
    | (.cons v0 .nil) => (.cons v0 .nil)
    | (.cons v0 (.cons v1 .nil)) => (.cons v1 (.cons v0 .nil))
    | (.cons v0 (.cons v1 (.cons w r))) => (.cons v0 (.cons v1 (.cons w r)))
theorem ok_so_far (T : Txt P K mg A) : FnM P w K mg base 4 A.f_so_far A.e_so_far ["block", "levels"] sp_so_far :=
  fn_m T.F_so_far sc_so_far len_so_far fun cdv Ar outer s H E B ds h Q' E' hr tk hsp => ⟨rd_so_far (fun _ => E'), by
    exact (ms_cons (ms_if (mt_not (mt_val (m_call (ok_is_block T) (hr.mono (by decide)) T.g_is_block T.F_is_block.kp (bd_is_block T) tkF (ma_cons (m_var 0) ma_nil)))) (ms_one (ms_raise rfl T.x_NoBlock (hr.mono (by decide) : Room 1 _) tk (ma_cons m_int (ma_cons (m_neg m_int) ma_nil)))) ms_nil)
 (ms_cons (ms_if (mt_w (mw_or (mt_not (mt_val (m_isiT T.n_isinstance (by decide) (by decide) (m_var 1) (pa_tys T.n_list rfl (pa_tys T.n_tuple rfl pa_tys_nil))))) (mw_or1 (mt_ne hr.units (m_len T.n_len (ma_cons (m_var 1) ma_nil)) (m_glob (v := V.int 64) rfl T.c_WIDE ⟨_, rfl⟩ (fun _ => .int _)))))) (ms_one (ms_raise rfl T.x_NoLevels (hr.mono (by decide) : Room 1 _) tk (ma_cons (m_neg m_int) ma_nil))) ms_nil)
 (ms_cons (ms_set 2 sc_so_far.nd (m_lstM ma_nil))
 (ms_cons (ms_for (passes_of rfl) rfl (mi_enum T.n_enumerate (m_var 1)) (mg_tup rfl (mgs_cons (mg_name 3 sc_so_far.nd) (mgs_cons (mg_name 4 sc_so_far.nd) mgs_nil)))
 (ms_cons (ms_if (mt_w (mw_and (mt_isnot (m_var 4) m_non) (mw_and1 (mt_not (mt_val (m_call (ok_is_between T) (hr.mono (by decide)) T.g_is_between T.F_is_between.kp (bd_is_between T) tkF (ma_cons (m_var 4) (ma_cons m_int (ma_cons (m_glob (v := V.int 13) rfl T.c_MOST_LEVEL ⟨_, rfl⟩ (fun _ => .int _)) ma_nil))))))))) (ms_one (ms_raise rfl T.x_NoLevels (hr.mono (by decide) : Room 1 _) tk (ma_cons (m_var 3) ma_nil))) ms_nil)
 (ms_cons (ms_set 5 sc_so_far.nd m_int)
 (ms_cons (ms_if (mt_isnot (m_var 4) m_non) (ms_cons (ms_set 5 sc_so_far.nd (m_if (mt_eq hr.units (m_var 3) m_int) (m_shr (m_ix (m_var 0) m_int) (m_var 4)) (m_call (ok_cut_off T) (hr.mono (by decide)) T.g_cut_off T.F_cut_off.kp (bd_cut_off T) tkF (ma_cons (m_ix (m_var 0) (m_var 3)) (ma_cons (m_var 4) ma_nil)))))
 (ms_one (ms_set 5 sc_so_far.nd (m_shl (m_var 5) (m_var 4))))) ms_nil)
 (ms_one (ms_expr (m_mt PySem.F.slot_list_append PySem.F.type_list_append mt_append fAppend_d (m_var 2) (ma_cons (m_var 5) ma_nil))))))))
 (ms_fz 2 (ms_one (ms_ret (m_tuple T.n_tuple (ma_cons (m_var 2) ma_nil))))))))), pure_so_far ds h Q' E' hsp⟩
theorem sc_law_cell_at : FnScope N_law_cell_at ["_law_script", "_law_k"] (defScope s_law_cell_at) := ⟨rfl, rfl, rfl, by decide +kernel, rfl, by decide +kernel, by decide +kernel⟩
theorem bd_law_cell_at (T : Txt P K mg A) : Binds K A.e_law_cell_at ["_law_script", "_law_k"] [] := T.F_law_cell_at.binds fun _ _ _ _ _ _ us hl => match us, hl with | [_, _], _ => rfl
theorem ok_law_cell_at (T : Txt P K mg A) : FnM P w K mg base 2 A.f_law_cell_at A.e_law_cell_at ["_law_script", "_law_k"] sp_law_cell_at :=
  fn_m T.F_law_cell_at sc_law_cell_at len_law_cell_at fun cdv Ar outer s H E B ds h Q' E' hr tk hsp => ⟨rd_law_cell_at , by
    exact (ms_cons (ms_if (mt_lt (m_var 1) (m_len T.n_len (ma_cons (m_var 0) ma_nil))) (ms_one (ms_ret (m_ix (m_var 0) (m_var 1)))) ms_nil)
 (ms_one (ms_ret m_int))), pure_law_cell_at ds h Q' E' hsp⟩
theorem sc_law_source_of : FnScope N_law_source_of ["_law_cell"] (defScope s_law_source_of) := ⟨rfl, rfl, rfl, by decide +kernel, rfl, by decide +kernel, by decide +kernel⟩
theorem bd_law_source_of (T : Txt P K mg A) : Binds K A.e_law_source_of ["_law_cell"] [] := T.F_law_source_of.binds fun _ _ _ _ _ _ us hl => match us, hl with | [_], _ => rfl
theorem ok_law_source_of (T : Txt P K mg A) : FnM P w K mg base 2 A.f_law_source_of A.e_law_source_of ["_law_cell"] sp_law_source_of :=
  fn_m T.F_law_source_of sc_law_source_of len_law_source_of fun cdv Ar outer s H E B ds h Q' E' hr tk hsp => ⟨rd_law_source_of , by
    exact (ms_cons (ms_set 0 sc_law_source_of.nd (m_if (mt_ge (m_var 0) m_int) (m_var 0) (m_sub (m_sub m_int (m_mul m_int (m_var 0))) m_int)))
 (ms_one (ms_ret (m_lstM (ma_cons (m_mul (m_var 0) (m_intc T.n_int (ma_cons (m_ge (m_var 0) (m_pow m_int m_int)) ma_nil))) (ma_cons (m_mod (m_intc T.n_int (ma_cons (m_var 0) ma_nil)) m_int) (ma_cons m_int ma_nil))))))), pure_law_source_of ds h Q' E' hsp⟩
theorem sc_law_next : FnScope N_law_next ["_law_source", "_law_many"] (defScope s_law_next) := ⟨rfl, rfl, rfl, by decide +kernel, rfl, by decide +kernel, by decide +kernel⟩
theorem bd_law_next (T : Txt P K mg A) : Binds K A.e_law_next ["_law_source", "_law_many"] [] := T.F_law_next.binds fun _ _ _ _ _ _ us hl => match us, hl with | [_, _], _ => rfl
theorem ok_law_next (T : Txt P K mg A) : FnM P w K mg base 2 A.f_law_next A.e_law_next ["_law_source", "_law_many"] sp_law_next :=
  fn_m T.F_law_next sc_law_next len_law_next fun cdv Ar outer s H E B ds h Q' E' hr tk hsp => ⟨rd_law_next , by
    exact (ms_cons (ms_if (mt_gt (m_ix (m_var 0) m_int) m_int) (ms_cons (ms_set 4 sc_law_next.nd (m_mod (m_intc T.n_int (ma_cons (m_ix (m_var 0) m_int) ma_nil)) (m_var 1)))
 (ms_cons (ms_asg (m_fdiv (m_ix (m_var 0) m_int) (m_var 1)) (mg_sub (m_var 0) m_int))
 (ms_one (ms_ret (m_var 4))))) ms_nil)
 (ms_cons (ms_asg (m_add (m_ix (m_var 0) m_int) m_int) (mg_sub (m_var 0) m_int))
 (ms_cons (ms_set 2 sc_law_next.nd m_int)
 (ms_cons (ms_set 3 sc_law_next.nd (m_mod (m_intc T.n_int (ma_cons (m_add (m_add (m_ix (m_var 0) m_int) (m_mul m_int (m_ix (m_var 0) m_int))) m_int) ma_nil)) (m_var 2)))
 (ms_cons (ms_set 3 sc_law_next.nd (m_mod (m_intc T.n_int (ma_cons (m_mul (m_var 3) m_int) ma_nil)) (m_var 2)))
 (ms_cons (ms_set 3 sc_law_next.nd (m_mod (m_intc T.n_int (ma_cons (m_mul (m_var 3) (m_add (m_fdiv (m_var 3) m_int) m_int)) ma_nil)) (m_var 2)))
 (ms_cons (ms_set 3 sc_law_next.nd (m_mod (m_intc T.n_int (ma_cons (m_mul (m_var 3) (m_add (m_fdiv (m_var 3) m_int) m_int)) ma_nil)) m_int))
 (ms_one (ms_ret (m_mod (m_intc T.n_int (ma_cons (m_fdiv (m_var 3) m_int) ma_nil)) (m_var 1))))))))))), pure_law_next ds h Q' E' hsp⟩
theorem sc_law_one : FnScope N_law_one ["_law_source", "_law_some"] (defScope s_law_one) := ⟨rfl, rfl, rfl, by decide +kernel, rfl, by decide +kernel, by decide +kernel⟩
theorem bd_law_one (T : Txt P K mg A) : Binds K A.e_law_one ["_law_source", "_law_some"] [] := T.F_law_one.binds fun _ _ _ _ _ _ us hl => match us, hl with | [_, _], _ => rfl
theorem ok_law_one (T : Txt P K mg A) : FnM P w K mg base 3 A.f_law_one A.e_law_one ["_law_source", "_law_some"] sp_law_one :=
  fn_m T.F_law_one sc_law_one len_law_one fun cdv Ar outer s H E B ds h Q' E' hr tk hsp => ⟨rd_law_one , by
    exact (ms_one (ms_ret (m_ix (m_var 1) (m_call (ok_law_next T) (hr.mono (by decide)) T.g_law_next T.F_law_next.kp (bd_law_next T) tkF (ma_cons (m_var 0) (ma_cons (m_len T.n_len (ma_cons (m_var 1) ma_nil)) ma_nil)))))), pure_law_one ds h Q' E' hsp⟩
theorem sc_law_coefficient : FnScope N_law_coefficient ["_law_source", "_law_most"] (defScope s_law_coefficient) := ⟨rfl, rfl, rfl, by decide +kernel, rfl, by decide +kernel, by decide +kernel⟩
theorem bd_law_coefficient (T : Txt P K mg A) : Binds K A.e_law_coefficient ["_law_source", "_law_most"] [] := T.F_law_coefficient.binds fun _ _ _ _ _ _ us hl => match us, hl with | [_, _], _ => rfl
theorem ok_law_coefficient (T : Txt P K mg A) : FnM P w K mg base 4 A.f_law_coefficient A.e_law_coefficient ["_law_source", "_law_most"] sp_law_coefficient :=
  fn_m T.F_law_coefficient sc_law_coefficient len_law_coefficient fun cdv Ar outer s H E B ds h Q' E' hr tk hsp => ⟨rd_law_coefficient , by
    exact (ms_cons (ms_set 2 sc_law_coefficient.nd (m_add m_int (m_call (ok_law_next T) (hr.mono (by decide)) T.g_law_next T.F_law_next.kp (bd_law_next T) tkF (ma_cons (m_var 0) (ma_cons (m_if (mt_lt (m_call (ok_law_next T) (hr.mono (by decide)) T.g_law_next T.F_law_next.kp (bd_law_next T) tkF (ma_cons (m_var 0) (ma_cons m_int ma_nil))) m_int) (m_min2 rfl T.n_min (ma_cons m_int (ma_cons (m_var 1) ma_nil))) (m_var 1)) ma_nil)))))
 (ms_cons (ms_set 3 sc_law_coefficient.nd (m_add (m_shl m_int (m_sub (m_var 2) m_int)) (m_call (ok_law_next T) (hr.mono (by decide)) T.g_law_next T.F_law_next.kp (bd_law_next T) tkF (ma_cons (m_var 0) (ma_cons (m_shl m_int (m_sub (m_var 2) m_int)) ma_nil)))))
 (ms_one (ms_ret (m_call (ok_law_one T) (hr.mono (by decide)) T.g_law_one T.F_law_one.kp (bd_law_one T) tkF (ma_cons (m_var 0) (ma_cons (m_lst (ma_cons (m_var 3) (ma_cons (m_sub m_int (m_var 3)) ma_nil))) ma_nil))))))), pure_law_coefficient ds h Q' E' hsp⟩
theorem sc_law_block : FnScope N_law_block ["_law_source", "_law_most"] (defScope s_law_block) := ⟨rfl, rfl, rfl, by decide +kernel, rfl, by decide +kernel, by decide +kernel⟩
theorem bd_law_block (T : Txt P K mg A) : Binds K A.e_law_block ["_law_source", "_law_most"] [] := T.F_law_block.binds fun _ _ _ _ _ _ us hl => match us, hl with | [_, _], _ => rfl
theorem ok_law_block (T : Txt P K mg A) : FnM P w K mg base 5 A.f_law_block A.e_law_block ["_law_source", "_law_most"] sp_law_block :=
  fn_m T.F_law_block sc_law_block len_law_block fun cdv Ar outer s H E B ds h Q' E' hr tk hsp => ⟨rd_law_block , by
    exact (ms_cons (ms_set 2 sc_law_block.nd (m_mulM (m_lst (ma_cons m_int ma_nil)) m_int))
 (ms_cons (ms_if (mt_gt (m_call (ok_law_next T) (hr.mono (by decide)) T.g_law_next T.F_law_next.kp (bd_law_next T) tkF (ma_cons (m_var 0) (ma_cons m_int ma_nil))) m_int) (ms_one (ms_asg (m_call (ok_law_coefficient T) (hr.mono (by decide)) T.g_law_coefficient T.F_law_coefficient.kp (bd_law_coefficient T) tkF (ma_cons (m_var 0) (ma_cons m_int ma_nil))) (mg_sub (m_var 2) m_int))) ms_nil)
 (ms_cons (ms_set 3 sc_law_block.nd (m_lst (ma_cons m_int (ma_cons m_int (ma_cons m_int (ma_cons m_int (ma_cons m_int (ma_cons m_int (ma_cons m_int (ma_cons m_int (ma_cons m_int (ma_cons m_int ma_nil))))))))))))
 (ms_cons (ms_for (passes_of rfl) rfl (mi_range1 T.n_range (m_call (ok_law_one T) (hr.mono (by decide)) T.g_law_one T.F_law_one.kp (bd_law_one T) tkF (ma_cons (m_var 0) (ma_cons (m_lst (ma_cons m_int (ma_cons m_int (ma_cons m_int (ma_cons m_int (ma_cons m_int (ma_cons m_int ma_nil))))))) ma_nil)))) (mg_name 4 sc_law_block.nd)
 (ms_cons (ms_set 5 sc_law_block.nd (m_call (ok_law_one T) (hr.mono (by decide)) T.g_law_one T.F_law_one.kp (bd_law_one T) tkF (ma_cons (m_var 0) (ma_cons (m_add (m_var 3) (m_lst (ma_cons (m_add m_int (m_call (ok_law_next T) (hr.mono (by decide)) T.g_law_next T.F_law_next.kp (bd_law_next T) tkF (ma_cons (m_var 0) (ma_cons m_int ma_nil)))) ma_nil))) ma_nil))))
 (ms_one (ms_asg (m_call (ok_law_coefficient T) (hr.mono (by decide)) T.g_law_coefficient T.F_law_coefficient.kp (bd_law_coefficient T) tkF (ma_cons (m_var 0) (ma_cons (m_var 1) ma_nil))) (mg_sub (m_var 2) (m_var 5))))))
 (ms_fz 2 (ms_one (ms_ret (m_call (ok_law_one T) (hr.mono (by decide)) T.g_law_one T.F_law_one.kp (bd_law_one T) tkF (ma_cons (m_var 0) (ma_cons (m_lst (ma_cons (m_var 2) (ma_cons (m_tuple T.n_tuple (ma_cons (m_var 2) ma_nil)) ma_nil))) ma_nil)))))))))), pure_law_block ds h Q' E' hsp⟩
theorem sc_law_fault : FnScope N_law_fault ["_law_square", "_law_marks"] (defScope s_law_fault) := ⟨rfl, rfl, rfl, by decide +kernel, rfl, by decide +kernel, by decide +kernel⟩
theorem bd_law_fault (T : Txt P K mg A) : Binds K A.e_law_fault ["_law_square", "_law_marks"] [] := T.F_law_fault.binds fun _ _ _ _ _ _ us hl => match us, hl with | [_, _], _ => rfl
theorem ok_law_fault (T : Txt P K mg A) : FnM P w K mg base 5 A.f_law_fault A.e_law_fault ["_law_square", "_law_marks"] sp_law_fault :=
  fn_m T.F_law_fault sc_law_fault len_law_fault fun cdv Ar outer s H E B ds h Q' E' hr tk hsp => ⟨rd_law_fault A (fun _ => E'), by
    exact (ms_cons (ms_try (known := known) sc_law_fault.nd tk (fun B1 Es1 pn xe tk1 ow1 => (ms_one (ms_expr (m_call (ok_so_far T) (hr.mono (by decide)) T.g_so_far T.F_so_far.kp (bd_so_far T) tk1 (ma_cons (m_var 0) (ma_cons (m_var 1) ma_nil))))))
 (.cons ⟨rfl, by decide, Or.inl T.gx_NoBlock⟩ ⟨rfl, rfl⟩ (ex_NoBlock T) (fun B a dd C n ob pn hz hd hm => (ms_one (ms_ret (m_tup (ma_cons m_str (ma_cons (m_xf T.x_NoBlock T.y_NoBlock (by decide) hz hd hm (m_var 2)) (ma_cons (m_xf T.x_NoBlock T.y_NoBlock (by decide) hz hd hm (m_var 2)) ma_nil))))))) (.cons ⟨rfl, by decide, Or.inl T.gx_NoLevels⟩ ⟨rfl, rfl⟩ (ex_NoLevels T) (fun B a dd C n ob pn hz hd hm => (ms_one (ms_ret (m_tup (ma_cons m_str (ma_cons (m_xf T.x_NoLevels T.y_NoLevels (by decide) hz hd hm (m_var 2)) ma_nil)))))) (.cons ⟨rfl, by decide, Or.inl T.gx_PicError⟩ trivial (ex_PicError T) (fun B a dd C n ob pn hz hd hm => (ms_one (ms_ret m_str))) .nil))))
 (ms_one (ms_ret m_non))), pure_law_fault ds h Q' E' A hsp⟩
theorem sc_law_due : FnScope N_law_due ["_law_square", "_law_marks"] (defScope s_law_due) := ⟨rfl, rfl, rfl, by decide +kernel, rfl, by decide +kernel, by decide +kernel⟩
theorem bd_law_due (T : Txt P K mg A) : Binds K A.e_law_due ["_law_square", "_law_marks"] [] := T.F_law_due.binds fun _ _ _ _ _ _ us hl => match us, hl with | [_, _], _ => rfl
theorem ok_law_due (T : Txt P K mg A) : FnM P w K mg base 2 A.f_law_due A.e_law_due ["_law_square", "_law_marks"] sp_law_due :=
  fn_m T.F_law_due sc_law_due len_law_due fun cdv Ar outer s H E B ds h Q' E' hr tk hsp => ⟨rd_law_due , by
    exact (ms_cons (ms_set 2 sc_law_due.nd (m_lstM ma_nil))
 (ms_cons (ms_for (passes_of rfl) rfl (mi_enum T.n_enumerate (m_var 1)) (mg_tup rfl (mgs_cons (mg_name 3 sc_law_due.nd) (mgs_cons (mg_name 4 sc_law_due.nd) mgs_nil)))
 (ms_cons (ms_par 5 6 rfl sc_law_due.nd (ma_cons (m_shl m_int (m_or (m_var 4) (m_one m_int))) (ma_cons (m_ix (m_var 0) (m_var 3)) ma_nil)))
 (ms_one (ms_if (mt_is (m_var 4) m_non) (ms_one (ms_expr (m_mt PySem.F.slot_list_append PySem.F.type_list_append mt_append fAppend_d (m_var 2) (ma_cons m_int ma_nil)))) (ms_one (ms_if (mt_w (mw_or (mt_eq hr.units (m_var 3) m_int) (mw_or1 (mt_ge (m_var 6) m_int)))) (ms_one (ms_expr (m_mt PySem.F.slot_list_append PySem.F.type_list_append mt_append fAppend_d (m_var 2) (ma_cons (m_mul (m_fdiv (m_var 6) (m_var 5)) (m_var 5)) ma_nil)))) (ms_one (ms_expr (m_mt PySem.F.slot_list_append PySem.F.type_list_append mt_append fAppend_d (m_var 2) (ma_cons (m_sub m_int (m_mul (m_fdiv (m_sub m_int (m_var 6)) (m_var 5)) (m_var 5))) ma_nil))))))))))
 (ms_fz 2 (ms_one (ms_ret (m_tuple T.n_tuple (ma_cons (m_var 2) ma_nil))))))), pure_law_due ds h Q' E' hsp⟩
theorem sc_law : FnScope N_law ["_law_script"] (defScope s_law) := ⟨rfl, rfl, rfl, by decide +kernel, rfl, by decide +kernel, by decide +kernel⟩
theorem bd_law (T : Txt P K mg A) : Binds K A.e_law ["_law_script"] [] := T.F_law.binds fun _ _ _ _ _ _ us hl => match us, hl with | [_], _ => rfl
theorem ok_law (T : Txt P K mg A) : FnM P w K mg base 6 A.f_law A.e_law ["_law_script"] sp_law :=
  fn_m T.F_law sc_law len_law fun cdv Ar outer s H E B ds h Q' E' hr tk hsp => ⟨rd_law (fun _ => E'), by
    exact (ms_cons (ms_if (mt_ne hr.units (m_call (ok_so_far T) (hr.mono (by decide)) T.g_so_far T.F_so_far.kp (bd_so_far T) tk (ma_cons (m_add (m_tup (ma_cons (m_neg m_int) (ma_cons (m_neg m_int) (ma_cons m_int ma_nil)))) (m_mul (m_tup (ma_cons m_int ma_nil)) m_int)) (ma_cons (m_add (m_tup (ma_cons m_int (ma_cons m_int (ma_cons m_non ma_nil)))) (m_mul (m_tup (ma_cons m_int ma_nil)) m_int)) ma_nil))) (m_add (m_tup (ma_cons (m_neg m_int) (ma_cons (m_neg m_int) ma_nil))) (m_mul (m_tup (ma_cons m_int ma_nil)) m_int))) (ms_one (ms_ret m_bl)) ms_nil)
 (ms_cons (ms_for (passes_of rfl) rfl (mi_range1 T.n_range (m_max2 rfl T.n_max (ma_cons m_int (ma_cons (m_min2 rfl T.n_min (ma_cons m_int (ma_cons (m_len T.n_len (ma_cons (m_var 0) ma_nil)) ma_nil))) ma_nil)))) (mg_name 1 sc_law.nd)
 (ms_cons (ms_set 2 sc_law.nd (m_call (ok_law_source_of T) (hr.mono (by decide)) T.g_law_source_of T.F_law_source_of.kp (bd_law_source_of T) tkF (ma_cons (m_call (ok_law_cell_at T) (hr.mono (by decide)) T.g_law_cell_at T.F_law_cell_at.kp (bd_law_cell_at T) tkF (ma_cons (m_var 0) (ma_cons (m_var 1) ma_nil))) ma_nil)))
 (ms_cons (ms_for (passes_of rfl) rfl (mi_range1 T.n_range m_int) (mg_name 3 sc_law.nd)
 (ms_cons (ms_set 6 sc_law.nd (m_listM T.n_list (ma_cons (m_call (ok_law_block T) (hr.mono (by decide)) T.g_law_block T.F_law_block.kp (bd_law_block T) tkF (ma_cons (m_var 2) (ma_cons m_int ma_nil))) ma_nil)))
 (ms_cons (ms_asg (m_mul (m_call (ok_law_one T) (hr.mono (by decide)) T.g_law_one T.F_law_one.kp (bd_law_one T) tkF (ma_cons (m_var 2) (ma_cons (m_lst (ma_cons m_int (ma_cons (m_neg m_int) ma_nil))) ma_nil))) (m_call (ok_law_next T) (hr.mono (by decide)) T.g_law_next T.F_law_next.kp (bd_law_next T) tkF (ma_cons (m_var 2) (ma_cons (m_pow m_int m_int) ma_nil)))) (mg_sub (m_var 6) (m_call (ok_law_next T) (hr.mono (by decide)) T.g_law_next T.F_law_next.kp (bd_law_next T) tkF (ma_cons (m_var 2) (ma_cons m_int ma_nil)))))
 (ms_fz 6 (ms_cons (ms_set 7 sc_law.nd (m_lst (ma_cons m_non (ma_cons m_int (ma_cons m_int (ma_cons m_int (ma_cons m_int (ma_cons (m_call (ok_law_next T) (hr.mono (by decide)) T.g_law_next T.F_law_next.kp (bd_law_next T) tkF (ma_cons (m_var 2) (ma_cons m_int ma_nil))) ma_nil))))))))
 (ms_cons (ms_setLc 8 (own := [("_law_place", 11)]) rfl sc_law.nd (mi_range1 T.n_range m_int) (show BlkOk N_law (defScope s_law) _ [("_law_place", 11)] from ⟨rfl, by decide +kernel, by decide +kernel, by decide +kernel, by decide +kernel⟩) put1_ok (fun _ _ _ _ _ => pg_name (i := 11) sc_law.nd rfl (by first | exact Or.inl rfl | exact Or.inr rfl)) (fun _ _ _ _ _ => mts_nil) (fun _ _ _ _ _ => (m_ix (m_var 7) (m_call (ok_law_next T) (hr.mono (by decide)) T.g_law_next T.F_law_next.kp (bd_law_next T) tkF (ma_cons (m_var 2) (ma_cons m_int ma_nil))))))
 (ms_cons (ms_set 9 sc_law.nd (m_call (ok_so_far T) (hr.mono (by decide)) T.g_so_far T.F_so_far.kp (bd_so_far T) tk (ma_cons (m_var 6) (ma_cons (m_var 8) ma_nil))))
 (ms_cons (ms_if (mt_w (mw_or (mt_ne hr.units (m_var 9) (m_call (ok_law_due T) (hr.mono (by decide)) T.g_law_due T.F_law_due.kp (bd_law_due T) tkF (ma_cons (m_var 6) (ma_cons (m_var 8) ma_nil)))) (mw_or1 (mt_ne hr.units (m_callK (ok_so_far T) (hr.mono (by decide)) T.g_so_far T.F_so_far.kp (kw_so_far_levels_block T) tk (mk_cons (m_tuple T.n_tuple (ma_cons (m_var 8) ma_nil)) (mk_cons (m_tuple T.n_tuple (ma_cons (m_var 6) ma_nil)) mk_nil))) (m_var 9))))) (ms_one (ms_ret m_bl)) ms_nil)
 (ms_cons (ms_if (mt_ne hr.units (m_call (ok_so_far T) (hr.mono (by decide)) T.g_so_far T.F_so_far.kp (bd_so_far T) tk (ma_cons (m_var 9) (ma_cons (m_var 8) ma_nil))) (m_var 9)) (ms_one (ms_ret m_bl)) ms_nil)
 (ms_cons (ms_setLc 10 (own := [("_law_level", 12)]) rfl sc_law.nd (mi_row (m_var 8)) (show BlkOk N_law (defScope s_law) _ [("_law_level", 12)] from ⟨rfl, by decide +kernel, by decide +kernel, by decide +kernel, by decide +kernel⟩) put1_ok (fun _ _ _ _ _ => pg_name (i := 12) sc_law.nd rfl (by first | exact Or.inl rfl | exact Or.inr rfl)) (fun _ _ _ _ _ => mts_nil) (fun _ _ _ _ _ => (m_if (mt_is (m_var 12) m_non) m_non (m_min2 rfl T.n_min (ma_cons m_int (ma_cons (m_add (m_var 12) (m_call (ok_law_next T) (hr.mono (by decide)) T.g_law_next T.F_law_next.kp (bd_law_next T) tkF (ma_cons (m_var 2) (ma_cons m_int ma_nil)))) ma_nil))))))
 (ms_one (ms_if (mt_ne hr.units (m_call (ok_so_far T) (hr.mono (by decide)) T.g_so_far T.F_so_far.kp (bd_so_far T) tk (ma_cons (m_var 9) (ma_cons (m_var 10) ma_nil))) (m_call (ok_so_far T) (hr.mono (by decide)) T.g_so_far T.F_so_far.kp (bd_so_far T) tk (ma_cons (m_var 6) (ma_cons (m_var 10) ma_nil)))) (ms_one (ms_ret m_bl)) ms_nil))))))))))))
 (ms_cons (ms_for (passes_of rfl) rfl (mi_row (m_tup (ma_cons m_non (ma_cons m_int (ma_cons (m_mul (m_lst (ma_cons m_int ma_nil)) m_int) (ma_cons (m_add (m_sl (m_var 6) mo_none (mo_some m_int)) (m_lst (ma_cons m_bl ma_nil))) (ma_cons (m_mul m_str m_int) (ma_cons m_dct0 ma_nil)))))))) (mg_name 4 sc_law.nd)
 (ms_one (ms_if (mt_ne hr.units (m_call (ok_law_fault T) (hr.mono (by decide)) T.g_law_fault T.F_law_fault.kp (bd_law_fault T) tkF (ma_cons (m_var 4) (ma_cons m_non ma_nil))) (m_tup (ma_cons m_str (ma_cons m_int (ma_cons (m_neg m_int) ma_nil))))) (ms_one (ms_ret m_bl)) ms_nil)))
 (ms_cons (ms_for (passes_of rfl) rfl (mi_row (m_tup (ma_cons m_non (ma_cons m_int (ma_cons (m_sl (m_var 8) mo_none (mo_some m_int)) (ma_cons (m_add (m_var 8) (m_lst (ma_cons m_int ma_nil))) (ma_cons m_dct0 (ma_cons (m_mul m_str m_int) ma_nil)))))))) (mg_name 4 sc_law.nd)
 (ms_one (ms_if (mt_ne hr.units (m_call (ok_law_fault T) (hr.mono (by decide)) T.g_law_fault T.F_law_fault.kp (bd_law_fault T) tkF (ma_cons (m_var 6) (ma_cons (m_var 4) ma_nil))) (m_tup (ma_cons m_str (ma_cons (m_neg m_int) ma_nil)))) (ms_one (ms_ret m_bl)) ms_nil)))
 (ms_cons (ms_set 5 sc_law.nd (m_call (ok_law_next T) (hr.mono (by decide)) T.g_law_next T.F_law_next.kp (bd_law_next T) tkF (ma_cons (m_var 2) (ma_cons m_int ma_nil))))
 (ms_one (ms_for (passes_of rfl) rfl (mi_row (m_tup (ma_cons m_int (ma_cons (m_neg m_int) (ma_cons m_bl (ma_cons m_str (ma_cons (m_tup (ma_cons m_int ma_nil)) (ma_cons (m_pow m_int m_int) ma_nil)))))))) (mg_name 4 sc_law.nd)
 (ms_one (ms_if (mt_ne hr.units (m_call (ok_law_fault T) (hr.mono (by decide)) T.g_law_fault T.F_law_fault.kp (bd_law_fault T) tkF (ma_cons (m_var 6) (ma_cons (m_add (m_add (m_sl (m_var 8) mo_none (mo_some (m_var 5))) (m_lst (ma_cons (m_var 4) ma_nil))) (m_mul (m_lst (ma_cons m_str ma_nil)) (m_sub m_int (m_var 5)))) ma_nil))) (m_tup (ma_cons m_str (ma_cons (m_var 5) ma_nil)))) (ms_one (ms_ret m_bl)) ms_nil))))))))))
 (ms_one (ms_ret m_bl)))), pure_law ds h Q' E' hsp⟩
end
theorem all_mk {w : World} {K : PySem.W.Frag} {h : Heap} {mg : Str → Option Value} {fa : Addr} (X : K.In h) (G : h.Ns mainGlobals mg) (hfa : mg "law" = some (.ref fa))
        {f_is_integer : Addr} {od_is_integer an_is_integer : Option Addr} {sl_is_integer : Array (Option Value)} {oc_is_integer kV_is_integer dc_is_integer pm_is_integer cd_is_integer ct_is_integer : Value}
    {f_is_between : Addr} {od_is_between an_is_between : Option Addr} {sl_is_between : Array (Option Value)} {oc_is_between kV_is_between dc_is_between pm_is_between cd_is_between ct_is_between : Value}
    {f_is_block : Addr} {od_is_block an_is_block : Option Addr} {sl_is_block : Array (Option Value)} {oc_is_block kV_is_block dc_is_block pm_is_block cd_is_block ct_is_block : Value}
    {f_cut_off : Addr} {od_cut_off an_cut_off : Option Addr} {sl_cut_off : Array (Option Value)} {oc_cut_off kV_cut_off dc_cut_off pm_cut_off cd_cut_off ct_cut_off : Value}
    {f_so_far : Addr} {od_so_far an_so_far : Option Addr} {sl_so_far : Array (Option Value)} {oc_so_far kV_so_far dc_so_far pm_so_far cd_so_far ct_so_far : Value}
    {f_law_cell_at : Addr} {od_law_cell_at an_law_cell_at : Option Addr} {sl_law_cell_at : Array (Option Value)} {oc_law_cell_at kV_law_cell_at dc_law_cell_at pm_law_cell_at cd_law_cell_at ct_law_cell_at : Value}
    {f_law_source_of : Addr} {od_law_source_of an_law_source_of : Option Addr} {sl_law_source_of : Array (Option Value)} {oc_law_source_of kV_law_source_of dc_law_source_of pm_law_source_of cd_law_source_of ct_law_source_of : Value}
    {f_law_next : Addr} {od_law_next an_law_next : Option Addr} {sl_law_next : Array (Option Value)} {oc_law_next kV_law_next dc_law_next pm_law_next cd_law_next ct_law_next : Value}
    {f_law_one : Addr} {od_law_one an_law_one : Option Addr} {sl_law_one : Array (Option Value)} {oc_law_one kV_law_one dc_law_one pm_law_one cd_law_one ct_law_one : Value}
    {f_law_coefficient : Addr} {od_law_coefficient an_law_coefficient : Option Addr} {sl_law_coefficient : Array (Option Value)} {oc_law_coefficient kV_law_coefficient dc_law_coefficient pm_law_coefficient cd_law_coefficient ct_law_coefficient : Value}
    {f_law_block : Addr} {od_law_block an_law_block : Option Addr} {sl_law_block : Array (Option Value)} {oc_law_block kV_law_block dc_law_block pm_law_block cd_law_block ct_law_block : Value}
    {f_law_fault : Addr} {od_law_fault an_law_fault : Option Addr} {sl_law_fault : Array (Option Value)} {oc_law_fault kV_law_fault dc_law_fault pm_law_fault cd_law_fault ct_law_fault : Value}
    {f_law_due : Addr} {od_law_due an_law_due : Option Addr} {sl_law_due : Array (Option Value)} {oc_law_due kV_law_due dc_law_due pm_law_due cd_law_due ct_law_due : Value}
    {f_law : Addr} {od_law an_law : Option Addr} {sl_law : Array (Option Value)} {oc_law kV_law dc_law pm_law cd_law ct_law : Value}
    {t_MOST_LEVEL : Tok}
    {t_WIDE : Tok}
    {x_PicError : Addr}
    {x_NoBlock : Addr}
    {x_NoLevels : Addr}
    {i_NoBlock : Addr} {nm_NoBlock q_NoBlock : Str} {N_NoBlock : Addr} {bs_NoBlock : List Value} {sn_NoBlock : List Str} {sub_NoBlock : List Value} {ab_NoBlock : Bool} {col_NoBlock : Option Bool} {dd_NoBlock : Option Addr} {m0_NoBlock m1_NoBlock m2_NoBlock m3_NoBlock m5_NoBlock : Option Value}
    {oc_NoBlock doc_NoBlock pm_NoBlock ct_NoBlock : Value} {od_NoBlock an_NoBlock : Option Addr} {cda_NoBlock cc_NoBlock : Addr} {osl_NoBlock : Array (Option Value)} {vs_NoBlock : Array Value} {ccl_NoBlock : Value} {cdd_NoBlock : Option Addr} {ccs_NoBlock : Array (Option Value)} {cl_NoBlock : Value} {cld_NoBlock : Option Addr} {csl_NoBlock : Array (Option Value)} {tf_NoBlock : Tok}
    {i_NoLevels : Addr} {nm_NoLevels q_NoLevels : Str} {N_NoLevels : Addr} {bs_NoLevels : List Value} {sn_NoLevels : List Str} {sub_NoLevels : List Value} {ab_NoLevels : Bool} {col_NoLevels : Option Bool} {dd_NoLevels : Option Addr} {m0_NoLevels m1_NoLevels m2_NoLevels m3_NoLevels m5_NoLevels : Option Value}
    {oc_NoLevels doc_NoLevels pm_NoLevels ct_NoLevels : Value} {od_NoLevels an_NoLevels : Option Addr} {cda_NoLevels cc_NoLevels : Addr} {osl_NoLevels : Array (Option Value)} {vs_NoLevels : Array Value} {ccl_NoLevels : Value} {cdd_NoLevels : Option Addr} {ccs_NoLevels : Array (Option Value)} {cl_NoLevels : Value} {cld_NoLevels : Option Addr} {csl_NoLevels : Array (Option Value)} {tf_NoLevels : Tok}
    (a_is_integer : PySem.W.nsIn K mainGlobals "is_integer" = some (some (.ref f_is_integer)))
    (l_is_integer : K.lookup f_is_integer = some ⟨oc_is_integer, od_is_integer, .func (PySem.W.fnOf "is_integer" "is_integer" (defArgs s_is_integer) (defBody s_is_integer) (defScope s_is_integer) .none kV_is_integer dc_is_integer pm_is_integer an_is_integer cd_is_integer ct_is_integer), sl_is_integer⟩)
    (c_is_integer : PySem.W.codeIn K cd_is_integer "is_integer" = true)
    (k_is_integer : PySem.W.keepIn K (.ref f_is_integer) = true)
    (a_is_between : PySem.W.nsIn K mainGlobals "is_between" = some (some (.ref f_is_between)))
    (l_is_between : K.lookup f_is_between = some ⟨oc_is_between, od_is_between, .func (PySem.W.fnOf "is_between" "is_between" (defArgs s_is_between) (defBody s_is_between) (defScope s_is_between) .none kV_is_between dc_is_between pm_is_between an_is_between cd_is_between ct_is_between), sl_is_between⟩)
    (c_is_between : PySem.W.codeIn K cd_is_between "is_between" = true)
    (k_is_between : PySem.W.keepIn K (.ref f_is_between) = true)
    (a_is_block : PySem.W.nsIn K mainGlobals "is_block" = some (some (.ref f_is_block)))
    (l_is_block : K.lookup f_is_block = some ⟨oc_is_block, od_is_block, .func (PySem.W.fnOf "is_block" "is_block" (defArgs s_is_block) (defBody s_is_block) (defScope s_is_block) .none kV_is_block dc_is_block pm_is_block an_is_block cd_is_block ct_is_block), sl_is_block⟩)
    (c_is_block : PySem.W.codeIn K cd_is_block "is_block" = true)
    (k_is_block : PySem.W.keepIn K (.ref f_is_block) = true)
    (a_cut_off : PySem.W.nsIn K mainGlobals "cut_off" = some (some (.ref f_cut_off)))
    (l_cut_off : K.lookup f_cut_off = some ⟨oc_cut_off, od_cut_off, .func (PySem.W.fnOf "cut_off" "cut_off" (defArgs s_cut_off) (defBody s_cut_off) (defScope s_cut_off) .none kV_cut_off dc_cut_off pm_cut_off an_cut_off cd_cut_off ct_cut_off), sl_cut_off⟩)
    (c_cut_off : PySem.W.codeIn K cd_cut_off "cut_off" = true)
    (k_cut_off : PySem.W.keepIn K (.ref f_cut_off) = true)
    (a_so_far : PySem.W.nsIn K mainGlobals "so_far" = some (some (.ref f_so_far)))
    (l_so_far : K.lookup f_so_far = some ⟨oc_so_far, od_so_far, .func (PySem.W.fnOf "so_far" "so_far" (defArgs s_so_far) (defBody s_so_far) (defScope s_so_far) .none kV_so_far dc_so_far pm_so_far an_so_far cd_so_far ct_so_far), sl_so_far⟩)
    (c_so_far : PySem.W.codeIn K cd_so_far "so_far" = true)
    (k_so_far : PySem.W.keepIn K (.ref f_so_far) = true)
    (a_law_cell_at : PySem.W.nsIn K mainGlobals "_law_cell_at" = some (some (.ref f_law_cell_at)))
    (l_law_cell_at : K.lookup f_law_cell_at = some ⟨oc_law_cell_at, od_law_cell_at, .func (PySem.W.fnOf "_law_cell_at" "_law_cell_at" (defArgs s_law_cell_at) (defBody s_law_cell_at) (defScope s_law_cell_at) .none kV_law_cell_at dc_law_cell_at pm_law_cell_at an_law_cell_at cd_law_cell_at ct_law_cell_at), sl_law_cell_at⟩)
    (c_law_cell_at : PySem.W.codeIn K cd_law_cell_at "_law_cell_at" = true)
    (k_law_cell_at : PySem.W.keepIn K (.ref f_law_cell_at) = true)
    (a_law_source_of : PySem.W.nsIn K mainGlobals "_law_source_of" = some (some (.ref f_law_source_of)))
    (l_law_source_of : K.lookup f_law_source_of = some ⟨oc_law_source_of, od_law_source_of, .func (PySem.W.fnOf "_law_source_of" "_law_source_of" (defArgs s_law_source_of) (defBody s_law_source_of) (defScope s_law_source_of) .none kV_law_source_of dc_law_source_of pm_law_source_of an_law_source_of cd_law_source_of ct_law_source_of), sl_law_source_of⟩)
    (c_law_source_of : PySem.W.codeIn K cd_law_source_of "_law_source_of" = true)
    (k_law_source_of : PySem.W.keepIn K (.ref f_law_source_of) = true)
    (a_law_next : PySem.W.nsIn K mainGlobals "_law_next" = some (some (.ref f_law_next)))
    (l_law_next : K.lookup f_law_next = some ⟨oc_law_next, od_law_next, .func (PySem.W.fnOf "_law_next" "_law_next" (defArgs s_law_next) (defBody s_law_next) (defScope s_law_next) .none kV_law_next dc_law_next pm_law_next an_law_next cd_law_next ct_law_next), sl_law_next⟩)
    (c_law_next : PySem.W.codeIn K cd_law_next "_law_next" = true)
    (k_law_next : PySem.W.keepIn K (.ref f_law_next) = true)
    (a_law_one : PySem.W.nsIn K mainGlobals "_law_one" = some (some (.ref f_law_one)))
    (l_law_one : K.lookup f_law_one = some ⟨oc_law_one, od_law_one, .func (PySem.W.fnOf "_law_one" "_law_one" (defArgs s_law_one) (defBody s_law_one) (defScope s_law_one) .none kV_law_one dc_law_one pm_law_one an_law_one cd_law_one ct_law_one), sl_law_one⟩)
    (c_law_one : PySem.W.codeIn K cd_law_one "_law_one" = true)
    (k_law_one : PySem.W.keepIn K (.ref f_law_one) = true)
    (a_law_coefficient : PySem.W.nsIn K mainGlobals "_law_coefficient" = some (some (.ref f_law_coefficient)))
    (l_law_coefficient : K.lookup f_law_coefficient = some ⟨oc_law_coefficient, od_law_coefficient, .func (PySem.W.fnOf "_law_coefficient" "_law_coefficient" (defArgs s_law_coefficient) (defBody s_law_coefficient) (defScope s_law_coefficient) .none kV_law_coefficient dc_law_coefficient pm_law_coefficient an_law_coefficient cd_law_coefficient ct_law_coefficient), sl_law_coefficient⟩)
    (c_law_coefficient : PySem.W.codeIn K cd_law_coefficient "_law_coefficient" = true)
    (k_law_coefficient : PySem.W.keepIn K (.ref f_law_coefficient) = true)
    (a_law_block : PySem.W.nsIn K mainGlobals "_law_block" = some (some (.ref f_law_block)))
    (l_law_block : K.lookup f_law_block = some ⟨oc_law_block, od_law_block, .func (PySem.W.fnOf "_law_block" "_law_block" (defArgs s_law_block) (defBody s_law_block) (defScope s_law_block) .none kV_law_block dc_law_block pm_law_block an_law_block cd_law_block ct_law_block), sl_law_block⟩)
    (c_law_block : PySem.W.codeIn K cd_law_block "_law_block" = true)
    (k_law_block : PySem.W.keepIn K (.ref f_law_block) = true)
    (a_law_fault : PySem.W.nsIn K mainGlobals "_law_fault" = some (some (.ref f_law_fault)))
    (l_law_fault : K.lookup f_law_fault = some ⟨oc_law_fault, od_law_fault, .func (PySem.W.fnOf "_law_fault" "_law_fault" (defArgs s_law_fault) (defBody s_law_fault) (defScope s_law_fault) .none kV_law_fault dc_law_fault pm_law_fault an_law_fault cd_law_fault ct_law_fault), sl_law_fault⟩)
    (c_law_fault : PySem.W.codeIn K cd_law_fault "_law_fault" = true)
    (k_law_fault : PySem.W.keepIn K (.ref f_law_fault) = true)
    (a_law_due : PySem.W.nsIn K mainGlobals "_law_due" = some (some (.ref f_law_due)))
    (l_law_due : K.lookup f_law_due = some ⟨oc_law_due, od_law_due, .func (PySem.W.fnOf "_law_due" "_law_due" (defArgs s_law_due) (defBody s_law_due) (defScope s_law_due) .none kV_law_due dc_law_due pm_law_due an_law_due cd_law_due ct_law_due), sl_law_due⟩)
    (c_law_due : PySem.W.codeIn K cd_law_due "_law_due" = true)
    (k_law_due : PySem.W.keepIn K (.ref f_law_due) = true)
    (a_law : PySem.W.nsIn K mainGlobals "law" = some (some (.ref f_law)))
    (l_law : K.lookup f_law = some ⟨oc_law, od_law, .func (PySem.W.fnOf "law" "law" (defArgs s_law) (defBody s_law) (defScope s_law) .none kV_law dc_law pm_law an_law cd_law ct_law), sl_law⟩)
    (c_law : PySem.W.codeIn K cd_law "law" = true)
    (k_law : PySem.W.keepIn K (.ref f_law) = true)
    (b_all : PySem.W.nsIn K mainGlobals "all" = some none)
    (b_bool : PySem.W.nsIn K mainGlobals "bool" = some none)
    (b_enumerate : PySem.W.nsIn K mainGlobals "enumerate" = some none)
    (b_int : PySem.W.nsIn K mainGlobals "int" = some none)
    (b_isinstance : PySem.W.nsIn K mainGlobals "isinstance" = some none)
    (b_len : PySem.W.nsIn K mainGlobals "len" = some none)
    (b_list : PySem.W.nsIn K mainGlobals "list" = some none)
    (b_max : PySem.W.nsIn K mainGlobals "max" = some none)
    (b_min : PySem.W.nsIn K mainGlobals "min" = some none)
    (b_range : PySem.W.nsIn K mainGlobals "range" = some none)
    (b_tuple : PySem.W.nsIn K mainGlobals "tuple" = some none)
    (v_MOST_LEVEL : PySem.W.nsIn K mainGlobals "MOST_LEVEL" = some (some (.int 13 t_MOST_LEVEL)))
    (v_WIDE : PySem.W.nsIn K mainGlobals "WIDE" = some (some (.int 64 t_WIDE)))
    (xa_PicError : PySem.W.nsIn K mainGlobals "PicError" = some (some (.ref x_PicError)))
    (xe_PicError : PySem.W.subIn K (.ref x_PicError) (.type "BaseException") = some true)
    (xt_PicError : PySem.W.typeIn K (.ref x_PicError) = some (.type "type"))
    (xi_PicError : PySem.W.isClsIn K x_PicError = true)
    (xa_NoBlock : PySem.W.nsIn K mainGlobals "NoBlock" = some (some (.ref x_NoBlock)))
    (xe_NoBlock : PySem.W.subIn K (.ref x_NoBlock) (.type "BaseException") = some true)
    (xt_NoBlock : PySem.W.typeIn K (.ref x_NoBlock) = some (.type "type"))
    (xi_NoBlock : PySem.W.isClsIn K x_NoBlock = true)
    (xa_NoLevels : PySem.W.nsIn K mainGlobals "NoLevels" = some (some (.ref x_NoLevels)))
    (xe_NoLevels : PySem.W.subIn K (.ref x_NoLevels) (.type "BaseException") = some true)
    (xt_NoLevels : PySem.W.typeIn K (.ref x_NoLevels) = some (.type "type"))
    (xi_NoLevels : PySem.W.isClsIn K x_NoLevels = true)
    (xop : PySem.W.nsIn K PySem.cStatics "thirdparty.any" = some none)
    (xms : PySem.W.nsIn K mainGlobals "super" = some none)
    (xL_NoBlock : K.lookup x_NoBlock = some (excClassObj nm_NoBlock q_NoBlock x_NoBlock N_NoBlock bs_NoBlock [.ref x_PicError, .type "ValueError", .type "Exception", .type "BaseException", .type "object"] true sn_NoBlock sub_NoBlock ab_NoBlock col_NoBlock dd_NoBlock m0_NoBlock m1_NoBlock m2_NoBlock m3_NoBlock m5_NoBlock "ValueError.__new__"))
    (sa_NoBlock : PySem.W.findIn K (.ref x_NoBlock) "__setattr__" = some (some (.builtin "object.__setattr__")))
    (ga_NoBlock : PySem.W.findIn K (.ref x_NoBlock) "__getattribute__" = some (some (.builtin "BaseException.__getattribute__")))
    (gg_NoBlock : PySem.W.findIn K (.ref x_NoBlock) "__getattr__" = some none)
    (no_NoBlock_number : PySem.W.findIn K (.ref x_NoBlock) "number" = some none)
    (no_NoBlock_index : PySem.W.findIn K (.ref x_NoBlock) "index" = some none)
    (kC_NoBlock : PySem.W.keepIn K (.ref x_NoBlock) = true)
    (hC_NoBlock : PySem.W.hasDictIn K x_NoBlock = true)
    (iC_NoBlock : PySem.W.findIn K (.ref x_NoBlock) "__init__" = some (some (.ref i_NoBlock)))
    (tI_NoBlock : PySem.W.typeIn K (.ref i_NoBlock) = some (.type "function"))
    (lI_NoBlock : K.lookup i_NoBlock = some ⟨oc_NoBlock, od_NoBlock, .func (PySem.W.fnX "__init__" "NoBlock.__init__" (defArgs si_NoBlock) (defBody si_NoBlock) (defScope si_NoBlock) [("__class__", cc_NoBlock)] .none .none doc_NoBlock pm_NoBlock an_NoBlock (.ref cda_NoBlock) ct_NoBlock), osl_NoBlock⟩)
    (cI_NoBlock : PySem.W.codeIn K (.ref cda_NoBlock) "NoBlock.__init__" = true)
    (lc_NoBlock : K.lookup cda_NoBlock = some ⟨ccl_NoBlock, cdd_NoBlock, .fields vs_NoBlock, ccs_NoBlock⟩)
    (vf_NoBlock : vs_NoBlock[2]? = some (.str "/claim/cut.py" tf_NoBlock))
    (lcc_NoBlock : K.lookup cc_NoBlock = some ⟨cl_NoBlock, cld_NoBlock, .cell (some (.ref x_NoBlock)), csl_NoBlock⟩)
    (su_NoBlock : PySem.W.ks_superIn K x_NoBlock x_NoBlock "__init__" = some (some (.builtin "ValueError.__init__")))
    (sv_NoBlock : PySem.W.subIn K (.ref x_NoBlock) (.type "ValueError") = some true)
    (ss_NoBlock : PySem.W.mroIn K x_NoBlock (.ref x_NoBlock) = some true)
    (s_NoBlock_PicError : PySem.W.subIn K (.ref x_NoBlock) (.ref x_PicError) = some true)
    (s_NoBlock_NoBlock : PySem.W.subIn K (.ref x_NoBlock) (.ref x_NoBlock) = some true)
    (s_NoBlock_NoLevels : PySem.W.subIn K (.ref x_NoBlock) (.ref x_NoLevels) = some false)
    (xL_NoLevels : K.lookup x_NoLevels = some (excClassObj nm_NoLevels q_NoLevels x_NoLevels N_NoLevels bs_NoLevels [.ref x_PicError, .type "ValueError", .type "Exception", .type "BaseException", .type "object"] true sn_NoLevels sub_NoLevels ab_NoLevels col_NoLevels dd_NoLevels m0_NoLevels m1_NoLevels m2_NoLevels m3_NoLevels m5_NoLevels "ValueError.__new__"))
    (sa_NoLevels : PySem.W.findIn K (.ref x_NoLevels) "__setattr__" = some (some (.builtin "object.__setattr__")))
    (ga_NoLevels : PySem.W.findIn K (.ref x_NoLevels) "__getattribute__" = some (some (.builtin "BaseException.__getattribute__")))
    (gg_NoLevels : PySem.W.findIn K (.ref x_NoLevels) "__getattr__" = some none)
    (no_NoLevels_index : PySem.W.findIn K (.ref x_NoLevels) "index" = some none)
    (kC_NoLevels : PySem.W.keepIn K (.ref x_NoLevels) = true)
    (hC_NoLevels : PySem.W.hasDictIn K x_NoLevels = true)
    (iC_NoLevels : PySem.W.findIn K (.ref x_NoLevels) "__init__" = some (some (.ref i_NoLevels)))
    (tI_NoLevels : PySem.W.typeIn K (.ref i_NoLevels) = some (.type "function"))
    (lI_NoLevels : K.lookup i_NoLevels = some ⟨oc_NoLevels, od_NoLevels, .func (PySem.W.fnX "__init__" "NoLevels.__init__" (defArgs si_NoLevels) (defBody si_NoLevels) (defScope si_NoLevels) [("__class__", cc_NoLevels)] .none .none doc_NoLevels pm_NoLevels an_NoLevels (.ref cda_NoLevels) ct_NoLevels), osl_NoLevels⟩)
    (cI_NoLevels : PySem.W.codeIn K (.ref cda_NoLevels) "NoLevels.__init__" = true)
    (lc_NoLevels : K.lookup cda_NoLevels = some ⟨ccl_NoLevels, cdd_NoLevels, .fields vs_NoLevels, ccs_NoLevels⟩)
    (vf_NoLevels : vs_NoLevels[2]? = some (.str "/claim/cut.py" tf_NoLevels))
    (lcc_NoLevels : K.lookup cc_NoLevels = some ⟨cl_NoLevels, cld_NoLevels, .cell (some (.ref x_NoLevels)), csl_NoLevels⟩)
    (su_NoLevels : PySem.W.ks_superIn K x_NoLevels x_NoLevels "__init__" = some (some (.builtin "ValueError.__init__")))
    (sv_NoLevels : PySem.W.subIn K (.ref x_NoLevels) (.type "ValueError") = some true)
    (ss_NoLevels : PySem.W.mroIn K x_NoLevels (.ref x_NoLevels) = some true)
    (s_NoLevels_PicError : PySem.W.subIn K (.ref x_NoLevels) (.ref x_PicError) = some true)
    (s_NoLevels_NoBlock : PySem.W.subIn K (.ref x_NoLevels) (.ref x_NoBlock) = some false)
    (s_NoLevels_NoLevels : PySem.W.subIn K (.ref x_NoLevels) (.ref x_NoLevels) = some true) :
    ∃ fd : FuncData, (∀ (s : Shared) (v : Value), BindsTo s fd ⟨[v], []⟩ [("_law_script", v)]) ∧ ∀ base : Heap, K.In base → base.Ns mainGlobals mg → FnM PySem.Challenge.rw_blockpics_k34_what_levels_show.prog w K mg base 6 fa fd ["_law_script"] sp_law := by
  have e : f_law = fa := by
    have z := hfa.symm.trans (PySem.W.mg_of X G a_law)
    cases z
    rfl
  subst e
  have nof_NoBlock : ∀ f ∈ (["number", "index"] : List Str), PySem.W.findIn K (.ref x_NoBlock) f = some none := by
    intro f hf
    simp only [List.mem_cons, List.not_mem_nil, or_false] at hf
    rcases hf with rfl | rfl
    · exact no_NoBlock_number
    · exact no_NoBlock_index
  have nof_NoLevels : ∀ f ∈ (["index"] : List Str), PySem.W.findIn K (.ref x_NoLevels) f = some none := by
    intro f hf
    simp only [List.mem_cons, List.not_mem_nil, or_false] at hf
    subst hf
    · exact no_NoLevels_index
  have T : Txt PySem.Challenge.rw_blockpics_k34_what_levels_show.prog K mg { f_is_integer := f_is_integer, e_is_integer := (PySem.W.fnOf "is_integer" "is_integer" (defArgs s_is_integer) (defBody s_is_integer) (defScope s_is_integer) .none kV_is_integer dc_is_integer pm_is_integer an_is_integer cd_is_integer ct_is_integer), f_is_between := f_is_between, e_is_between := (PySem.W.fnOf "is_between" "is_between" (defArgs s_is_between) (defBody s_is_between) (defScope s_is_between) .none kV_is_between dc_is_between pm_is_between an_is_between cd_is_between ct_is_between), f_is_block := f_is_block, e_is_block := (PySem.W.fnOf "is_block" "is_block" (defArgs s_is_block) (defBody s_is_block) (defScope s_is_block) .none kV_is_block dc_is_block pm_is_block an_is_block cd_is_block ct_is_block), f_cut_off := f_cut_off, e_cut_off := (PySem.W.fnOf "cut_off" "cut_off" (defArgs s_cut_off) (defBody s_cut_off) (defScope s_cut_off) .none kV_cut_off dc_cut_off pm_cut_off an_cut_off cd_cut_off ct_cut_off), f_so_far := f_so_far, e_so_far := (PySem.W.fnOf "so_far" "so_far" (defArgs s_so_far) (defBody s_so_far) (defScope s_so_far) .none kV_so_far dc_so_far pm_so_far an_so_far cd_so_far ct_so_far), f_law_cell_at := f_law_cell_at, e_law_cell_at := (PySem.W.fnOf "_law_cell_at" "_law_cell_at" (defArgs s_law_cell_at) (defBody s_law_cell_at) (defScope s_law_cell_at) .none kV_law_cell_at dc_law_cell_at pm_law_cell_at an_law_cell_at cd_law_cell_at ct_law_cell_at), f_law_source_of := f_law_source_of, e_law_source_of := (PySem.W.fnOf "_law_source_of" "_law_source_of" (defArgs s_law_source_of) (defBody s_law_source_of) (defScope s_law_source_of) .none kV_law_source_of dc_law_source_of pm_law_source_of an_law_source_of cd_law_source_of ct_law_source_of), f_law_next := f_law_next, e_law_next := (PySem.W.fnOf "_law_next" "_law_next" (defArgs s_law_next) (defBody s_law_next) (defScope s_law_next) .none kV_law_next dc_law_next pm_law_next an_law_next cd_law_next ct_law_next), f_law_one := f_law_one, e_law_one := (PySem.W.fnOf "_law_one" "_law_one" (defArgs s_law_one) (defBody s_law_one) (defScope s_law_one) .none kV_law_one dc_law_one pm_law_one an_law_one cd_law_one ct_law_one), f_law_coefficient := f_law_coefficient, e_law_coefficient := (PySem.W.fnOf "_law_coefficient" "_law_coefficient" (defArgs s_law_coefficient) (defBody s_law_coefficient) (defScope s_law_coefficient) .none kV_law_coefficient dc_law_coefficient pm_law_coefficient an_law_coefficient cd_law_coefficient ct_law_coefficient), f_law_block := f_law_block, e_law_block := (PySem.W.fnOf "_law_block" "_law_block" (defArgs s_law_block) (defBody s_law_block) (defScope s_law_block) .none kV_law_block dc_law_block pm_law_block an_law_block cd_law_block ct_law_block), f_law_fault := f_law_fault, e_law_fault := (PySem.W.fnOf "_law_fault" "_law_fault" (defArgs s_law_fault) (defBody s_law_fault) (defScope s_law_fault) .none kV_law_fault dc_law_fault pm_law_fault an_law_fault cd_law_fault ct_law_fault), f_law_due := f_law_due, e_law_due := (PySem.W.fnOf "_law_due" "_law_due" (defArgs s_law_due) (defBody s_law_due) (defScope s_law_due) .none kV_law_due dc_law_due pm_law_due an_law_due cd_law_due ct_law_due), f_law := f_law, e_law := (PySem.W.fnOf "law" "law" (defArgs s_law) (defBody s_law) (defScope s_law) .none kV_law dc_law pm_law an_law cd_law ct_law), t_MOST_LEVEL := t_MOST_LEVEL, t_WIDE := t_WIDE, x_PicError := x_PicError, i_PicError := 0, x_NoBlock := x_NoBlock, i_NoBlock := i_NoBlock, x_NoLevels := x_NoLevels, i_NoLevels := i_NoLevels } := {
    g_is_integer := PySem.W.mg_of X G a_is_integer
    F_is_integer := fun_mk (st := s_is_integer) l_is_integer c_is_integer k_is_integer
    g_is_between := PySem.W.mg_of X G a_is_between
    F_is_between := fun_mk (st := s_is_between) l_is_between c_is_between k_is_between
    g_is_block := PySem.W.mg_of X G a_is_block
    F_is_block := fun_mk (st := s_is_block) l_is_block c_is_block k_is_block
    g_cut_off := PySem.W.mg_of X G a_cut_off
    F_cut_off := fun_mk (st := s_cut_off) l_cut_off c_cut_off k_cut_off
    g_so_far := PySem.W.mg_of X G a_so_far
    F_so_far := fun_mk (st := s_so_far) l_so_far c_so_far k_so_far
    g_law_cell_at := PySem.W.mg_of X G a_law_cell_at
    F_law_cell_at := fun_mk (st := s_law_cell_at) l_law_cell_at c_law_cell_at k_law_cell_at
    g_law_source_of := PySem.W.mg_of X G a_law_source_of
    F_law_source_of := fun_mk (st := s_law_source_of) l_law_source_of c_law_source_of k_law_source_of
    g_law_next := PySem.W.mg_of X G a_law_next
    F_law_next := fun_mk (st := s_law_next) l_law_next c_law_next k_law_next
    g_law_one := PySem.W.mg_of X G a_law_one
    F_law_one := fun_mk (st := s_law_one) l_law_one c_law_one k_law_one
    g_law_coefficient := PySem.W.mg_of X G a_law_coefficient
    F_law_coefficient := fun_mk (st := s_law_coefficient) l_law_coefficient c_law_coefficient k_law_coefficient
    g_law_block := PySem.W.mg_of X G a_law_block
    F_law_block := fun_mk (st := s_law_block) l_law_block c_law_block k_law_block
    g_law_fault := PySem.W.mg_of X G a_law_fault
    F_law_fault := fun_mk (st := s_law_fault) l_law_fault c_law_fault k_law_fault
    g_law_due := PySem.W.mg_of X G a_law_due
    F_law_due := fun_mk (st := s_law_due) l_law_due c_law_due k_law_due
    g_law := PySem.W.mg_of X G a_law
    F_law := fun_mk (st := s_law) l_law c_law k_law
    n_all := PySem.W.mg_none_of X G b_all
    n_bool := PySem.W.mg_none_of X G b_bool
    n_enumerate := PySem.W.mg_none_of X G b_enumerate
    n_int := PySem.W.mg_none_of X G b_int
    n_isinstance := PySem.W.mg_none_of X G b_isinstance
    n_len := PySem.W.mg_none_of X G b_len
    n_list := PySem.W.mg_none_of X G b_list
    n_max := PySem.W.mg_none_of X G b_max
    n_min := PySem.W.mg_none_of X G b_min
    n_range := PySem.W.mg_none_of X G b_range
    n_tuple := PySem.W.mg_none_of X G b_tuple
    c_MOST_LEVEL := PySem.W.mg_of X G v_MOST_LEVEL
    c_WIDE := PySem.W.mg_of X G v_WIDE
    gx_PicError := PySem.W.mg_of X G xa_PicError
    gx_NoBlock := PySem.W.mg_of X G xa_NoBlock
    gx_NoLevels := PySem.W.mg_of X G xa_NoLevels
    x_NoBlock := { gC := PySem.W.mg_of X G xa_NoBlock, ox := ⟨⟨_, _, _, _, _, _, _, _, _, _, _, _, _, _, _, xL_NoBlock, rfl⟩, sa_NoBlock, xe_NoBlock, xt_NoBlock, kC_NoBlock⟩, iC := iC_NoBlock, tI := tI_NoBlock, su := su_NoBlock, sv := sv_NoBlock, ss := ss_NoBlock, op := xop, ms := PySem.W.mg_none_of X G xms, tp := (by decide +kernel), fn := ⟨si_NoBlock, _, _, _, _, _, _, _, _, _, _, _, _, _, _, _, _, _, _, _, xd_NoBlock, lI_NoBlock, cI_NoBlock, lc_NoBlock, vf_NoBlock, (by decide +kernel), lcc_NoBlock⟩, noF := nof_NoBlock }
    y_NoBlock := ⟨ga_NoBlock, gg_NoBlock, hC_NoBlock⟩
    x_NoLevels := { gC := PySem.W.mg_of X G xa_NoLevels, ox := ⟨⟨_, _, _, _, _, _, _, _, _, _, _, _, _, _, _, xL_NoLevels, rfl⟩, sa_NoLevels, xe_NoLevels, xt_NoLevels, kC_NoLevels⟩, iC := iC_NoLevels, tI := tI_NoLevels, su := su_NoLevels, sv := sv_NoLevels, ss := ss_NoLevels, op := xop, ms := PySem.W.mg_none_of X G xms, tp := (by decide +kernel), fn := ⟨si_NoLevels, _, _, _, _, _, _, _, _, _, _, _, _, _, _, _, _, _, _, _, xd_NoLevels, lI_NoLevels, cI_NoLevels, lc_NoLevels, vf_NoLevels, (by decide +kernel), lcc_NoLevels⟩, noF := nof_NoLevels }
    y_NoLevels := ⟨ga_NoLevels, gg_NoLevels, hC_NoLevels⟩
    ex_PicError := fun c hc => by
      simp only [List.mem_cons, List.not_mem_nil, or_false] at hc
      rcases hc with rfl | rfl
      · exact exm_of xe_PicError xi_PicError xt_PicError s_NoBlock_PicError
      · exact exm_of xe_PicError xi_PicError xt_PicError s_NoLevels_PicError
    ex_NoBlock := fun c hc => by
      simp only [List.mem_cons, List.not_mem_nil, or_false] at hc
      rcases hc with rfl | rfl
      · exact exm_of xe_NoBlock xi_NoBlock xt_NoBlock s_NoBlock_NoBlock
      · exact exm_of xe_NoBlock xi_NoBlock xt_NoBlock s_NoLevels_NoBlock
    ex_NoLevels := fun c hc => by
      simp only [List.mem_cons, List.not_mem_nil, or_false] at hc
      rcases hc with rfl | rfl
      · exact exm_of xe_NoLevels xi_NoLevels xt_NoLevels s_NoBlock_NoLevels
      · exact exm_of xe_NoLevels xi_NoLevels xt_NoLevels s_NoLevels_NoLevels }
  exact ⟨_, fun s v => .of_eq rfl, fun base _ _ => ok_law T⟩

end K34
open PySem PySem.W PyProof.Rows in
set_option maxRecDepth 100000 in
set_option maxHeartbeats 0 in
theorem PySem.Challenge.cw_blockpics_k34_what_levels_show_holds : PySem.Challenge.rw_blockpics_k34_what_levels_show.Holds := by
  w_on; o_law; k_head; (case hw => w_witness2)
  k_fill
  refine BP.walk_bp (l := PySem.Challenge.rw_blockpics_k34_what_levels_show) (k := 6) (x := "_law_script") (sp := K34.sp_law) rfl (by decide) rfl ⟨rfl, by decide, by decide⟩ (fun w h Y => PySem.W.kIn_of Y) K34.law_true ?F
  case F =>
    intro w mg fa h KX G hmg
    refine' K34.all_mk KX G hmg ?a_is_integer ?l_is_integer ?c_is_integer ?k_is_integer ?a_is_between ?l_is_between ?c_is_between ?k_is_between ?a_is_block ?l_is_block ?c_is_block ?k_is_block ?a_cut_off ?l_cut_off ?c_cut_off ?k_cut_off ?a_so_far ?l_so_far ?c_so_far ?k_so_far ?a_law_cell_at ?l_law_cell_at ?c_law_cell_at ?k_law_cell_at ?a_law_source_of ?l_law_source_of ?c_law_source_of ?k_law_source_of ?a_law_next ?l_law_next ?c_law_next ?k_law_next ?a_law_one ?l_law_one ?c_law_one ?k_law_one ?a_law_coefficient ?l_law_coefficient ?c_law_coefficient ?k_law_coefficient ?a_law_block ?l_law_block ?c_law_block ?k_law_block ?a_law_fault ?l_law_fault ?c_law_fault ?k_law_fault ?a_law_due ?l_law_due ?c_law_due ?k_law_due ?a_law ?l_law ?c_law ?k_law ?b_all ?b_bool ?b_enumerate ?b_int ?b_isinstance ?b_len ?b_list ?b_max ?b_min ?b_range ?b_tuple ?v_MOST_LEVEL ?v_WIDE ?xa_PicError ?xe_PicError ?xt_PicError ?xi_PicError ?xa_NoBlock ?xe_NoBlock ?xt_NoBlock ?xi_NoBlock ?xa_NoLevels ?xe_NoLevels ?xt_NoLevels ?xi_NoLevels ?xop ?xms ?xL_NoBlock ?sa_NoBlock ?ga_NoBlock ?gg_NoBlock ?no_NoBlock_number ?no_NoBlock_index ?kC_NoBlock ?hC_NoBlock ?iC_NoBlock ?tI_NoBlock ?lI_NoBlock ?cI_NoBlock ?lc_NoBlock ?vf_NoBlock ?lcc_NoBlock ?su_NoBlock ?sv_NoBlock ?ss_NoBlock ?s_NoBlock_PicError ?s_NoBlock_NoBlock ?s_NoBlock_NoLevels ?xL_NoLevels ?sa_NoLevels ?ga_NoLevels ?gg_NoLevels ?no_NoLevels_index ?kC_NoLevels ?hC_NoLevels ?iC_NoLevels ?tI_NoLevels ?lI_NoLevels ?cI_NoLevels ?lc_NoLevels ?vf_NoLevels ?lcc_NoLevels ?su_NoLevels ?sv_NoLevels ?ss_NoLevels ?s_NoLevels_PicError ?s_NoLevels_NoBlock ?s_NoLevels_NoLevels
    (case a_is_integer => k_is)
    (case l_is_integer => k_is)
    (case c_is_integer => k_is)
    (case k_is_integer => k_is)
    (case a_is_between => k_is)
    (case l_is_between => k_is)
    (case c_is_between => k_is)
    (case k_is_between => k_is)
    (case a_is_block => k_is)
    (case l_is_block => k_is)
    (case c_is_block => k_is)
    (case k_is_block => k_is)
    (case a_cut_off => k_is)
    (case l_cut_off => k_is)
    (case c_cut_off => k_is)
    (case k_cut_off => k_is)
    (case a_so_far => k_is)
    (case l_so_far => k_is)
    (case c_so_far => k_is)
    (case k_so_far => k_is)
    (case a_law_cell_at => k_is)
    (case l_law_cell_at => k_is)
    (case c_law_cell_at => k_is)
    (case k_law_cell_at => k_is)
    (case a_law_source_of => k_is)
    (case l_law_source_of => k_is)
    (case c_law_source_of => k_is)
    (case k_law_source_of => k_is)
    (case a_law_next => k_is)
    (case l_law_next => k_is)
    (case c_law_next => k_is)
    (case k_law_next => k_is)
    (case a_law_one => k_is)
    (case l_law_one => k_is)
    (case c_law_one => k_is)
    (case k_law_one => k_is)
    (case a_law_coefficient => k_is)
    (case l_law_coefficient => k_is)
    (case c_law_coefficient => k_is)
    (case k_law_coefficient => k_is)
    (case a_law_block => k_is)
    (case l_law_block => k_is)
    (case c_law_block => k_is)
    (case k_law_block => k_is)
    (case a_law_fault => k_is)
    (case l_law_fault => k_is)
    (case c_law_fault => k_is)
    (case k_law_fault => k_is)
    (case a_law_due => k_is)
    (case l_law_due => k_is)
    (case c_law_due => k_is)
    (case k_law_due => k_is)
    (case a_law => k_is)
    (case l_law => k_is)
    (case c_law => k_is)
    (case k_law => k_is)
    (case b_all => k_is)
    (case b_bool => k_is)
    (case b_enumerate => k_is)
    (case b_int => k_is)
    (case b_isinstance => k_is)
    (case b_len => k_is)
    (case b_list => k_is)
    (case b_max => k_is)
    (case b_min => k_is)
    (case b_range => k_is)
    (case b_tuple => k_is)
    (case v_MOST_LEVEL => k_is)
    (case v_WIDE => k_is)
    (case xa_PicError => k_is)
    (case xe_PicError => k_is)
    (case xt_PicError => k_is)
    (case xi_PicError => k_is)
    (case xa_NoBlock => k_is)
    (case xe_NoBlock => k_is)
    (case xt_NoBlock => k_is)
    (case xi_NoBlock => k_is)
    (case xa_NoLevels => k_is)
    (case xe_NoLevels => k_is)
    (case xt_NoLevels => k_is)
    (case xi_NoLevels => k_is)
    (case xop => k_is)
    (case xms => k_is)
    (case xL_NoBlock => k_is)
    (case sa_NoBlock => k_is)
    (case ga_NoBlock => k_is)
    (case gg_NoBlock => k_is)
    (case no_NoBlock_number => k_is)
    (case no_NoBlock_index => k_is)
    (case kC_NoBlock => k_is)
    (case hC_NoBlock => k_is)
    (case iC_NoBlock => k_is)
    (case tI_NoBlock => k_is)
    (case lI_NoBlock => k_is)
    (case cI_NoBlock => k_is)
    (case lc_NoBlock => k_is)
    (case vf_NoBlock => rfl)
    (case lcc_NoBlock => k_is)
    (case su_NoBlock => ks_is)
    (case sv_NoBlock => k_is)
    (case ss_NoBlock => k_is)
    (case s_NoBlock_PicError => k_is)
    (case s_NoBlock_NoBlock => k_is)
    (case s_NoBlock_NoLevels => k_is)
    (case xL_NoLevels => k_is)
    (case sa_NoLevels => k_is)
    (case ga_NoLevels => k_is)
    (case gg_NoLevels => k_is)
    (case no_NoLevels_index => k_is)
    (case kC_NoLevels => k_is)
    (case hC_NoLevels => k_is)
    (case iC_NoLevels => k_is)
    (case tI_NoLevels => k_is)
    (case lI_NoLevels => k_is)
    (case cI_NoLevels => k_is)
    (case lc_NoLevels => k_is)
    (case vf_NoLevels => rfl)
    (case lcc_NoLevels => k_is)
    (case su_NoLevels => ks_is)
    (case sv_NoLevels => k_is)
    (case ss_NoLevels => k_is)
    (case s_NoLevels_PicError => k_is)
    (case s_NoLevels_NoBlock => k_is)
    (case s_NoLevels_NoLevels => k_is)

