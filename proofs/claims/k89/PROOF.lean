import PyProof.Rows.All
import Wide.All
import OpenK.AllK
import Wide.FinOn
import HandS.ForMost
import HandS.ForExc
import HandS.IsInst
import HandS.Walk
import HandS.Wide
import HandS.EndBits
import HandS.Flow
import HandS.Lambda
import HandS.EndTab
import HandS.TupAny
import HandS.TupMul
import HandS.WideBits
import KE.GoesNew
import KE.GoesEnumKw
import KE.GoesMore
import HandS.Defaults
import HandS.CallSlots
import PyProof.ReprRoads
import HandS.ExcInit
import KE.KExcSuper
import HandS.ExcIs
import KE.RegKSuper
import HandS.Deep
import HandS.Style
import HandS.Zip
import KE.KExcIs
import KE.KDflt
import HandS.SortInts
import HandS.SortRule
import HandS.TupSets
import HandS.Strs
import HandS.More
import HandS.WordsDict
import HandS.Conv
import HandS.SetFor
import HandS.Star
import PyProof.MaxThree
import PyProof.Rows.CallKwBuiltin
import PyProof.Rows.CallKw2
import HandS.ListItems
import HandS.Finally
import PyProof.AutoSeq1
import KE.GoesEnum
import KE.BitLaws
import KE.KMinBuiltin
import HandS.SortKw
import HandS.SetBool
import HandS.TryOnly
import KE.KTupSum
import HandS.DeepEq
import PyProof.NeKinds
import HandS.ExcValue
import HandS.ExcCtx
import HandS.HotCalls
import HandS.SuiteRaise
import HandS.ExcInitHot
import KE.KAsSuite
import HandS.Text
import HandS.FStr
import HandS.Iter
import HandS.DictComp
import PyProof.DictUpdate
import HandS.ReplaceLit
import KE.SortKeyHeap
import KE.DataMinMax
import PyProof.Rows.RowBridgeK
import PyProof.Rows.Range3
import PySem.Challenge.RW_blockpics_k89_blocks_that_have_samples
set_option Elab.async false
set_option linter.all false
set_option maxRecDepth 100000
set_option maxHeartbeats 1000000
set_option maxRecDepth 100000
set_option maxHeartbeats 4000000
namespace BP
open PySem PySem.Spec PyProof.Rows L2

inductive D where
  | non | bl (b : Bool) | int (i : Int) | str (x : Str) | ty (n : String)
  | tup (ds : List D) | lst (ds : List D) | dct (kvs : List (Key × D)) | scr (ns : List Int) | dcl (kvs : List (Key × D))
  | ref (a : Addr) | exc (a dd : Addr) (n : String) (fs : List (Str × D))

inductive Cell where
  | lst (ds : List D) | dct (kvs : List (Key × D)) | ins (C : Addr) (fs : List (Str × D)) | tbl (q : Str)
  | dcT (kvs : List (List Key × D))
  | exv (C : Addr) (n : String) (fs : List (Str × D))

abbrev MH := Addr → Option Cell
def mupd (h : MH) (a : Addr) (c : Cell) : MH := fun b => if b = a then some c else h b
def mdel (h : MH) (a : Addr) : MH := fun b => if b = a then none else h b
theorem mupd_same {h : MH} {a : Addr} {c : Cell} : mupd h a c a = some c := by unfold mupd; rw [if_pos rfl]
theorem mupd_ne {h : MH} {a b : Addr} {c : Cell} (n : b ≠ a) : mupd h a c b = h b := by unfold mupd; rw [if_neg n]
theorem mupd_upd {h : MH} {a : Addr} {c d : Cell} : mupd (mupd h a c) a d = mupd h a d := by
  funext b; unfold mupd; split <;> rfl
theorem mdel_upd {h : MH} {a : Addr} {c : Cell} (n : h a = none) : mdel (mupd h a c) a = h := by
  funext b; unfold mdel mupd
  by_cases e : b = a
  · rw [if_pos e, e, n]
  · rw [if_neg e, if_neg e]

def SqU (K : PySem.W.Frag) (F : Hp) (a : Addr) (xs : List V) : Prop :=
  F a = some (.tup xs) ∨
    ∃ (o : Obj) (its : Array Value) (n : Nat), K.lookup a = some o ∧ o.cls = .type "tuple" ∧ o.data = .seq its n ∧ its.size ≤ sizeLine ∧ Vals xs its.toList
theorem SqU.sqT {K : PySem.W.Frag} {F : Hp} {a : Addr} {xs : List V} (h : SqU K F a xs) : SqT K F a xs := by
  rcases h with h | h
  · exact .inl (.inl h)
  · exact .inr h
theorem SqU.of {K : PySem.W.Frag} {F : Hp} {a : Addr} {xs : List V} (h : F a = some (.tup xs)) : SqU K F a xs := .inl h
mutual
inductive RD (K : PySem.W.Frag) (F : Hp) : D → V → Prop
  | non : RD K F .non .non
  | bl (b : Bool) : RD K F (.bl b) (.bl b)
  | int (i : Int) : RD K F (.int i) (.int i)
  | str (x : Str) : RD K F (.str x) (.str x)
  | ty (n : String) : RD K F (.ty n) (.ty n)
  | ref (a : Addr) : RD K F (.ref a) (.ref a)
  | tup {a : Addr} {xs : List V} {ds : List D} : SqU K F a xs → RDs K F ds xs → RD K F (.tup ds) (.ref a)
  | lst {a : Addr} {xs : List V} {ds : List D} : F a = some (.lst xs) → RDs K F ds xs → RD K F (.lst ds) (.ref a)
  | scr {a : Addr} {ns : List Int} : SqL K F a (ns.map V.int) → RD K F (.scr ns) (.ref a)
  | dct {a : Addr} {xs : List (Key × V)} {ds : List (Key × D)} : F a = some (.dK xs) → RDk K F ds xs → RD K F (.dct ds) (.ref a)
  | dcl {a : Addr} {o : Obj} {xs : List (Key × V)} {ds : List (Key × D)} : F a = some (.frz o (.dK xs)) → RDk K F ds xs → RD K F (.dcl ds) (.ref a)
  | exc {a dd : Addr} {n : String} {gs : List (Str × V)} {fs : List (Str × D)} : F dd = some (.xd gs) → RDf K F fs gs → RD K F (.exc a dd n fs) (.ref a)
inductive RDs (K : PySem.W.Frag) (F : Hp) : List D → List V → Prop
  | nil : RDs K F [] []
  | cons {d : D} {v : V} {ds : List D} {vs : List V} : RD K F d v → RDs K F ds vs → RDs K F (d :: ds) (v :: vs)
inductive RDk (K : PySem.W.Frag) (F : Hp) : List (Key × D) → List (Key × V) → Prop
  | nil : RDk K F [] []
  | cons {k : Key} {d : D} {v : V} {ds : List (Key × D)} {vs : List (Key × V)} : RD K F d v → RDk K F ds vs → RDk K F ((k, d) :: ds) ((k, v) :: vs)
inductive RDf (K : PySem.W.Frag) (F : Hp) : List (Str × D) → List (Str × V) → Prop
  | nil : RDf K F [] []
  | cons {k : Str} {d : D} {v : V} {ds : List (Str × D)} {vs : List (Str × V)} : RD K F d v → RDf K F ds vs → RDf K F ((k, d) :: ds) ((k, v) :: vs)
end

theorem Same.rd {H H' : Hp} {a : Addr} {u : HO} (e : Same H H') (h : Rd H a u) : Rd H' a u := by
  rcases h with h | ⟨o, h⟩
  · exact .inl (e a _ h)
  · exact .inr ⟨o, e a _ h⟩
theorem Same.sqL {K : PySem.W.Frag} {H H' : Hp} {a : Addr} {xs : List V} (e : Same H H') (h : SqL K H a xs) : SqL K H' a xs := by
  rcases h with h | h
  · exact .inl (Same.rd e h)
  · exact .inr h
theorem Same.sqU {K : PySem.W.Frag} {H H' : Hp} {a : Addr} {xs : List V} (e : Same H H') (h : SqU K H a xs) : SqU K H' a xs := by
  rcases h with h | h
  · exact .inl (e a _ h)
  · exact .inr h
theorem Same.sqT {K : PySem.W.Frag} {H H' : Hp} {a : Addr} {xs : List V} (e : Same H H') (h : SqU K H a xs) : SqT K H' a xs := (Same.sqU e h).sqT

section
variable {K : PySem.W.Frag} {F F' : Hp}
mutual
theorem RD.mono (e : Same F F') : ∀ {d : D} {v : V}, RD K F d v → RD K F' d v
  | _, _, .non => .non
  | _, _, .bl b => .bl b
  | _, _, .int i => .int i
  | _, _, .str x => .str x
  | _, _, .ty n => .ty n
  | _, _, .ref a => .ref a
  | _, _, .tup h r => .tup (Same.sqU e h) (RDs.mono e r)
  | _, _, .lst h r => .lst (e _ _ h) (RDs.mono e r)
  | _, _, .scr h => .scr (Same.sqL e h)
  | _, _, .dct h r => .dct (e _ _ h) (RDk.mono e r)
  | _, _, .dcl h r => .dcl (e _ _ h) (RDk.mono e r)
  | _, _, .exc h r => .exc (e _ _ h) (RDf.mono e r)
theorem RDs.mono (e : Same F F') : ∀ {d : List D} {v : List V}, RDs K F d v → RDs K F' d v
  | _, _, .nil => .nil
  | _, _, .cons h r => .cons (RD.mono e h) (RDs.mono e r)
theorem RDk.mono (e : Same F F') : ∀ {d : List (Key × D)} {v : List (Key × V)}, RDk K F d v → RDk K F' d v
  | _, _, .nil => .nil
  | _, _, .cons h r => .cons (RD.mono e h) (RDk.mono e r)
theorem RDf.mono (e : Same F F') : ∀ {d : List (Str × D)} {v : List (Str × V)}, RDf K F d v → RDf K F' d v
  | _, _, .nil => .nil
  | _, _, .cons h r => .cons (RD.mono e h) (RDf.mono e r)
end
theorem RDs.length : ∀ {d : List D} {v : List V}, RDs K F d v → d.length = v.length
  | _, _, .nil => rfl
  | _, _, .cons _ r => by rw [List.length_cons, List.length_cons, RDs.length r]
theorem RDs.get : ∀ {ds : List D} {vs : List V} {i : Nat} {d : D}, RDs K F ds vs → ds[i]? = some d → ∃ v, vs[i]? = some v ∧ RD K F d v
  | _, _, _, _, .nil, e => by simp at e
  | _, _, 0, _, .cons h _, e => by simp at e; subst e; exact ⟨_, rfl, h⟩
  | _, _, i + 1, d, .cons _ r, e => by
    obtain ⟨v, h1, h2⟩ := RDs.get (i := i) (d := d) r (by simpa using e)
    exact ⟨v, by simpa using h1, h2⟩
theorem RDs.append : ∀ {ds es : List D} {vs ws : List V}, RDs K F ds vs → RDs K F es ws → RDs K F (ds ++ es) (vs ++ ws)
  | _, _, _, _, .nil, s => s
  | _, _, _, _, .cons h r, s => .cons h (RDs.append r s)
theorem RDs.take : ∀ {ds : List D} {vs : List V} (n : Nat), RDs K F ds vs → RDs K F (ds.take n) (vs.take n)
  | _, _, 0, _ => .nil
  | _, _, _ + 1, .nil => .nil
  | _, _, n + 1, .cons h r => .cons h (RDs.take n r)
theorem RDs.drop : ∀ {ds : List D} {vs : List V} (n : Nat), RDs K F ds vs → RDs K F (ds.drop n) (vs.drop n)
  | _, _, 0, r => r
  | _, _, _ + 1, .nil => .nil
  | _, _, n + 1, .cons _ r => RDs.drop n r
theorem RDs.set {d : D} {v : V} (h : RD K F d v) : ∀ {ds : List D} {vs : List V} (i : Nat), RDs K F ds vs → RDs K F (ds.set i d) (vs.set i v)
  | _, _, _, .nil => .nil
  | _, _, 0, .cons _ r => .cons h r
  | _, _, i + 1, .cons q r => .cons q (RDs.set h i r)
theorem RDs.rep {ds : List D} {vs : List V} (r : RDs K F ds vs) : ∀ n : Nat, RDs K F (List.replicate n ds).flatten (List.replicate n vs).flatten
  | 0 => by simpa using RDs.nil
  | n + 1 => by
    rw [List.replicate_succ, List.replicate_succ, List.flatten_cons, List.flatten_cons]
    exact r.append (RDs.rep r n)
end

inductive RDt (K : PySem.W.Frag) (F : Hp) : List (List Key × D) → List (List Key × V) → Prop
  | nil : RDt K F [] []
  | cons {k : List Key} {d : D} {v : V} {ds : List (List Key × D)} {vs : List (List Key × V)} : RD K F d v → RDt K F ds vs → RDt K F ((k, d) :: ds) ((k, v) :: vs)
theorem RDt.mono {K : PySem.W.Frag} {F F' : Hp} (e : Same F F') : ∀ {ds : List (List Key × D)} {vs : List (List Key × V)}, RDt K F ds vs → RDt K F' ds vs
  | _, _, .nil => .nil
  | _, _, .cons r t => .cons (r.mono e) (RDt.mono e t)
def ExV (C dd a : Addr) : HO := .ext fun h => ∃ (oe : Obj) (vs : Array Value), h.get? a = some oe ∧ Zc (.ref C) (some dd) oe ∧ oe.data = .fields vs
def CellR (K : PySem.W.Frag) (F H : Hp) (a : Addr) : Cell → Prop
  | .lst ds => ∃ xs, H a = some (.lst xs) ∧ RDs K F ds xs
  | .dct kvs => ∃ xs, H a = some (.dK xs) ∧ RDk K F kvs xs
  | .ins C fs => ∃ dx gs, H a = some (.ins C dx gs) ∧ RDf K F fs gs
  | .tbl q => ∃ ps : Array Value, H a = some (.tbl ps) ∧ TriplesOk ps.toList ∧ ∀ (pos : Pos) (cv : Value), codeAmong pos ps.toList = some cv → ∃ c, cv = .ref c ∧ F c = some (LamX.CodeO c q)
  | .dcT kvs => ∃ xs, H a = some (.dT xs) ∧ RDt K F kvs xs
  | .exv C _ fs => ∃ dd gs, H a = some (ExV C dd a) ∧ F dd = some (.xd gs) ∧ RDf K F fs gs
theorem CellR.mono {K : PySem.W.Frag} {F F' H H' : Hp} {a : Addr} {c : Cell} (x : CellR K F H a c) (e : Same F F') (k : H' a = H a) : CellR K F' H' a c := by
  cases c with
  | lst ds => obtain ⟨xs, h, r⟩ := x; exact ⟨xs, k.trans h, r.mono e⟩
  | dct ds => obtain ⟨xs, h, r⟩ := x; exact ⟨xs, k.trans h, r.mono e⟩
  | dcT ds => obtain ⟨xs, h, r⟩ := x; exact ⟨xs, k.trans h, r.mono e⟩
  | exv C n fs => obtain ⟨dd, gs, h, f, r⟩ := x; exact ⟨dd, gs, k.trans h, e _ _ f, r.mono e⟩
  | ins C fs => obtain ⟨dx, gs, h, r⟩ := x; exact ⟨dx, gs, k.trans h, r.mono e⟩
  | tbl q =>
    obtain ⟨ps, h, t, r⟩ := x
    refine ⟨ps, k.trans h, t, fun pos cv z => ?_⟩
    obtain ⟨c, e1, e2⟩ := r pos cv z
    exact ⟨c, e1, e _ _ e2⟩
theorem CellR.some {K : PySem.W.Frag} {F H : Hp} {a : Addr} {c : Cell} (x : CellR K F H a c) : ∃ o, H a = some o := by
  cases c with
  | lst ds => obtain ⟨xs, h, r⟩ := x; exact ⟨_, h⟩
  | dct ds => obtain ⟨xs, h, r⟩ := x; exact ⟨_, h⟩
  | dcT ds => obtain ⟨xs, h, r⟩ := x; exact ⟨_, h⟩
  | exv C n fs => obtain ⟨dd, gs, h, f, r⟩ := x; exact ⟨_, h⟩
  | ins C fs => obtain ⟨dx, gs, h, r⟩ := x; exact ⟨_, h⟩
  | tbl q => obtain ⟨ps, h, t, r⟩ := x; exact ⟨_, h⟩

structure SR (K : PySem.W.Frag) (F H : Hp) (h : MH) : Prop where
  fr : Same F H
  cell : ∀ a c, h a = some c → F a = none ∧ CellR K F H a c
structure Go (K : PySem.W.Frag) (F H : Hp) (h : MH) (F' H' : Hp) (h' : MH) : Prop where
  ss : Same F F'
  hid : ∀ a o, H a = some o → F a = none → h a = none → F' a = none ∧ h' a = none ∧ H' a = some o
  sr : SR K F' H' h'
theorem Go.refl {K : PySem.W.Frag} {F H : Hp} {h : MH} (s : SR K F H h) : Go K F H h F H h := ⟨Same.refl F, fun _ _ e f m => ⟨f, m, e⟩, s⟩
theorem Go.trans {K : PySem.W.Frag} {F H F1 H1 F2 H2 : Hp} {h h1 h2 : MH} (a : Go K F H h F1 H1 h1) (b : Go K F1 H1 h1 F2 H2 h2) : Go K F H h F2 H2 h2 :=
  ⟨a.ss.trans b.ss, fun p o e f m => by obtain ⟨f1, m1, e1⟩ := a.hid p o e f m; exact b.hid p o e1 f1 m1, b.sr⟩
section
variable {K : PySem.W.Frag} {F H : Hp} {h : MH} {p a : Addr}
theorem SR.freeF (s : SR K F H h) (n : H p = none) : F p = none := s.fr.free n
theorem SR.freeM (s : SR K F H h) (n : H p = none) : h p = none := by
  cases e : h p with
  | none => rfl
  | some c =>
    obtain ⟨o, q⟩ := (s.cell p c e).2.some
    rw [n] at q; cases q
theorem same_upd {H : Hp} {p : Addr} {o : HO} (n : H p = none) : Same H (upd H p o) := fun b x e => by
  rw [upd_ne (ne_of_none e n)]
  exact e
theorem Go.settled {o : HO} (s : SR K F H h) (n : H p = none) : Go K F H h (upd F p o) (upd H p o) h := by
  have nF := s.freeF n
  have nM := s.freeM n
  refine ⟨same_upd nF, fun b x e f m => ?_, ⟨fun b x e => ?_, fun b c e => ?_⟩⟩
  · have hb : b ≠ p := ne_of_none e n
    exact ⟨by rw [upd_ne hb]; exact f, m, by rw [upd_ne hb]; exact e⟩
  · by_cases hb : b = p
    · subst hb; rw [upd_same] at e ⊢; exact e
    · rw [upd_ne hb] at e ⊢; exact s.fr b x e
  · have hb : b ≠ p := fun z => by rw [z, nM] at e; cases e
    obtain ⟨f, r⟩ := s.cell b c e
    exact ⟨by rw [upd_ne hb]; exact f, r.mono (same_upd nF) (upd_ne hb)⟩
theorem Go.fresh {o : HO} {c : Cell} (s : SR K F H h) (n : H p = none) (r : CellR K F (upd H p o) p c) : Go K F H h F (upd H p o) (mupd h p c) := by
  have nF := s.freeF n
  refine ⟨Same.refl F, fun b x e f m => ?_, ⟨fun b x e => ?_, fun b d e => ?_⟩⟩
  · have hb : b ≠ p := ne_of_none e n
    exact ⟨f, by rw [mupd_ne hb]; exact m, by rw [upd_ne hb]; exact e⟩
  · have hb : b ≠ p := fun z => by rw [z, nF] at e; cases e
    rw [upd_ne hb]; exact s.fr b x e
  · by_cases hb : b = p
    · subst hb; rw [mupd_same] at e; cases e; exact ⟨nF, r⟩
    · rw [mupd_ne hb] at e
      obtain ⟨f, q⟩ := s.cell b d e
      exact ⟨f, q.mono (Same.refl F) (upd_ne hb)⟩
theorem Go.write {o : HO} {c c0 : Cell} (s : SR K F H h) (m : h a = some c0) (r : CellR K F (upd H a o) a c) : Go K F H h F (upd H a o) (mupd h a c) := by
  have nF := (s.cell a c0 m).1
  refine ⟨Same.refl F, fun b x e f n => ?_, ⟨fun b x e => ?_, fun b d e => ?_⟩⟩
  · have hb : b ≠ a := fun z => by rw [z, m] at n; cases n
    exact ⟨f, by rw [mupd_ne hb]; exact n, by rw [upd_ne hb]; exact e⟩
  · have hb : b ≠ a := fun z => by rw [z, nF] at e; cases e
    rw [upd_ne hb]; exact s.fr b x e
  · by_cases hb : b = a
    · subst hb; rw [mupd_same] at e; cases e; exact ⟨nF, r⟩
    · rw [mupd_ne hb] at e
      obtain ⟨f, q⟩ := s.cell b d e
      exact ⟨f, q.mono (Same.refl F) (upd_ne hb)⟩
theorem Go.settle {o : HO} {c0 : Cell} (s : SR K F H h) (m : h a = some c0) (e0 : H a = some o) : Go K F H h (upd F a o) H (mdel h a) := by
  have nF := (s.cell a c0 m).1
  refine ⟨same_upd nF, fun b x e f n => ?_, ⟨fun b x e => ?_, fun b d e => ?_⟩⟩
  · have hb : b ≠ a := fun z => by rw [z, m] at n; cases n
    exact ⟨by rw [upd_ne hb]; exact f, by unfold mdel; rw [if_neg hb]; exact n, e⟩
  · by_cases hb : b = a
    · subst hb; rw [upd_same] at e; cases e; exact e0
    · rw [upd_ne hb] at e; exact s.fr b x e
  · have hb : b ≠ a := fun z => by unfold mdel at e; rw [if_pos z] at e; cases e
    unfold mdel at e; rw [if_neg hb] at e
    obtain ⟨f, q⟩ := s.cell b d e
    exact ⟨by rw [upd_ne hb]; exact f, q.mono (same_upd nF) rfl⟩
end

structure Bs where
  F : Hp
  H : Hp
  h : MH
structure Bd (K : PySem.W.Frag) (B : Bs) (F H : Hp) (h : MH) : Prop where
  all : Go K B.F B.H B.h F H h
theorem Bd.sr {K : PySem.W.Frag} {B : Bs} {F H : Hp} {h : MH} (b : Bd K B F H h) : SR K F H h := b.all.sr
theorem Bd.fr {K : PySem.W.Frag} {B : Bs} {F H : Hp} {h : MH} (b : Bd K B F H h) : Same F H := b.all.sr.fr
theorem Bd.cell {K : PySem.W.Frag} {B : Bs} {F H : Hp} {h : MH} (b : Bd K B F H h) : ∀ a c, h a = some c → F a = none ∧ CellR K F H a c := b.all.sr.cell
theorem Bd.go {K : PySem.W.Frag} {B : Bs} {F H F1 H1 : Hp} {h h1 : MH} (b : Bd K B F H h) (g : Go K F H h F1 H1 h1) : Bd K B F1 H1 h1 := ⟨b.all.trans g⟩
instance {K : PySem.W.Frag} {B : Bs} {F H : Hp} {h : MH} : CoeOut (Bd K B F H h) (SR K F H h) := ⟨Bd.sr⟩
abbrev MSt := List (Option D)
abbrev MQ := D → MH → Prop
abbrev WE := MSt → MH → MQ → Prop
abbrev WT := MSt → MH → (Bool → MH → Prop) → Prop
abbrev WA := MSt → MH → (List D → MH → Prop) → Prop
structure MEnds where
  nx : MSt → MH → Prop
  rt : MQ
  bk : MSt → MH → Prop := fun _ _ => False
  ct : MSt → MH → Prop := fun _ _ => False
abbrev WS := MEnds → MSt → MH → Prop

structure LR (K : PySem.W.Frag) (F : Hp) (σd : MSt) (σ : L2.St) : Prop where
  len : σd.length = σ.length
  get : ∀ (i : Nat) (d : D), σd[i]? = some (some d) → ∃ v, σ[i]? = some (some v) ∧ RD K F d v
theorem LR.mono {K : PySem.W.Frag} {F F' : Hp} {σd : MSt} {σ : L2.St} (l : LR K F σd σ) (e : Same F F') : LR K F' σd σ :=
  ⟨l.len, fun i d q => by obtain ⟨v, h, r⟩ := l.get i d q; exact ⟨v, h, r.mono e⟩⟩
theorem LR.set {K : PySem.W.Frag} {F : Hp} {σd : MSt} {σ : L2.St} {d : D} {v : V} (l : LR K F σd σ) (r : RD K F d v) (i : Nat) : LR K F (σd.set i (some d)) (σ.set i (some v)) := by
  refine ⟨by rw [List.length_set, List.length_set, l.len], fun j e q => ?_⟩
  rw [List.getElem?_set] at q
  rw [List.getElem?_set]
  by_cases hij : i = j
  · rw [if_pos hij] at q ⊢
    by_cases hl : i < σd.length
    · rw [if_pos hl] at q
      rw [if_pos (by rw [← l.len]; exact hl)]
      simp only [Option.some.injEq] at q
      subst q
      exact ⟨v, rfl, r⟩
    · rw [if_neg hl] at q; cases q
  · rw [if_neg hij] at q ⊢
    exact l.get j e q

def ContV (K : PySem.W.Frag) (F H : Hp) (h : MH) (Q' : MQ) (Q : VK) : Prop := ∀ F' H' h' d v, Go K F H h F' H' h' → RD K F' d v → Q' d h' → Q v H'
def ContA (K : PySem.W.Frag) (F H : Hp) (h : MH) (Q' : List D → MH → Prop) (Q : List V → Hp → Prop) : Prop := ∀ F' H' h' d v, Go K F H h F' H' h' → RDs K F' d v → Q' d h' → Q v H'
def ContT (K : PySem.W.Frag) (F H : Hp) (h : MH) (Q' : Bool → MH → Prop) (Q : Bool → Hp → Prop) : Prop := ∀ F' H' h' b, Go K F H h F' H' h' → Q' b h' → Q b H'
def ContS (K : PySem.W.Frag) (F H : Hp) (h : MH) (Q' : MSt → MH → Prop) (Q : L2.St → Hp → Prop) : Prop := ∀ F' H' h' σd σ, Go K F H h F' H' h' → LR K F' σd σ → Q' σd h' → Q σ H'
structure ContE (K : PySem.W.Frag) (F H : Hp) (h : MH) (D' : MEnds) (E : Ends) : Prop where
  nx : ContS K F H h D'.nx E.nx
  rt : ContV K F H h D'.rt E.rt
  bk : ContS K F H h D'.bk E.bk
  ct : ContS K F H h D'.ct E.ct
section
variable {K : PySem.W.Frag} {F H F1 H1 : Hp} {h h1 : MH}
theorem ContV.go {Q' : MQ} {Q : VK} (c : ContV K F H h Q' Q) (g : Go K F H h F1 H1 h1) : ContV K F1 H1 h1 Q' Q := fun F' H' h' d v g' r q => c F' H' h' d v (g.trans g') r q
theorem ContA.go {Q' : List D → MH → Prop} {Q : List V → Hp → Prop} (c : ContA K F H h Q' Q) (g : Go K F H h F1 H1 h1) : ContA K F1 H1 h1 Q' Q := fun F' H' h' d v g' r q => c F' H' h' d v (g.trans g') r q
theorem ContT.go {Q' : Bool → MH → Prop} {Q : Bool → Hp → Prop} (c : ContT K F H h Q' Q) (g : Go K F H h F1 H1 h1) : ContT K F1 H1 h1 Q' Q := fun F' H' h' b g' q => c F' H' h' b (g.trans g') q
theorem ContS.go {Q' : MSt → MH → Prop} {Q : L2.St → Hp → Prop} (c : ContS K F H h Q' Q) (g : Go K F H h F1 H1 h1) : ContS K F1 H1 h1 Q' Q := fun F' H' h' d v g' r q => c F' H' h' d v (g.trans g') r q
theorem ContE.go {D' : MEnds} {E : Ends} (c : ContE K F H h D' E) (g : Go K F H h F1 H1 h1) : ContE K F1 H1 h1 D' E := ⟨c.nx.go g, c.rt.go g, c.bk.go g, c.ct.go g⟩
end

def lift (K : PySem.W.Frag) (B : Bs) (t : WE) : TE := fun σ H Q => ∃ F h σd Q', LR K F σd σ ∧ Bd K B F H h ∧ t σd h Q' ∧ ContV K F H h Q' Q
def liftT (K : PySem.W.Frag) (B : Bs) (t : WT) : TT := fun σ H Q => ∃ F h σd Q', LR K F σd σ ∧ Bd K B F H h ∧ t σd h Q' ∧ ContT K F H h Q' Q
def liftA (K : PySem.W.Frag) (B : Bs) (t : WA) : TA := fun σ H Q => ∃ F h σd Q', LR K F σd σ ∧ Bd K B F H h ∧ t σd h Q' ∧ ContA K F H h Q' Q
def liftS (K : PySem.W.Frag) (B : Bs) (t : WS) : TS := fun E σ H => ∃ F h σd D', LR K F σd σ ∧ Bd K B F H h ∧ t D' σd h ∧ ContE K F H h D' E

abbrev ME (X : Cx) (B : Bs) (e : Expr) (t : WE) : Prop := PE X e (lift X.K B t)
abbrev MT (X : Cx) (B : Bs) (e : Expr) (t : WT) : Prop := PT X e (liftT X.K B t)
abbrev MA (X : Cx) (B : Bs) (es : List Expr) (t : WA) : Prop := PA X es (liftA X.K B t)
abbrev MS (X : Cx) (B : Bs) (st : Stmt) (t : WS) : Prop := PS X st (liftS X.K B t)
abbrev MSs (X : Cx) (B : Bs) (st : List Stmt) (t : WS) : Prop := PSs X st (liftS X.K B t)

section
variable {X : Cx} {B : Bs}
theorem pe_mono {e : Expr} {t t' : TE} (h : PE X e t) (m : ∀ σ H Q, t' σ H Q → t σ H Q) : PE X e t' := ⟨fun pins s σ H Q I q => h.run pins s σ H Q I (m σ H Q q)⟩
theorem pt_mono {e : Expr} {t t' : TT} (h : PT X e t) (m : ∀ σ H Q, t' σ H Q → t σ H Q) : PT X e t' := ⟨fun pins s σ H Q I q => h.run pins s σ H Q I (m σ H Q q)⟩
theorem pw_mono {e : Expr} {t t' : TT} (h : PW X e t) (m : ∀ σ H Q, t' σ H Q → t σ H Q) : PW X e t' := ⟨fun wh pins s σ H Q I q => h.run wh pins s σ H Q I (m σ H Q q)⟩
theorem pa_mono {e : List Expr} {t t' : TA} (h : PA X e t) (m : ∀ σ H Q, t' σ H Q → t σ H Q) : PA X e t' := ⟨fun pos pins s σ H Q I q => h.run pos pins s σ H Q I (m σ H Q q)⟩
theorem ps_mono {e : Stmt} {t t' : TS} (h : PS X e t) (m : ∀ σ H Q, t' σ H Q → t σ H Q) : PS X e t' := ⟨fun pins s σ H Q I q => h.run pins s σ H Q I (m Q σ H q)⟩
theorem pss_mono {e : List Stmt} {t t' : TS} (h : PSs X e t) (m : ∀ σ H Q, t' σ H Q → t σ H Q) : PSs X e t' := ⟨fun pins s σ H Q I q => h.run pins s σ H Q I (m Q σ H q)⟩

def wVar (i : Nat) : WE := fun σ h Q => match σ[i]? with
  | some (some d) => Q d h
  | _ => False
def wC (d : D) : WE := fun _ h Q => Q d h
theorem m_var (i : Nat) {x : Str} {pos : Pos} (hN : X.N[i]? = some x := by rfl) (hv : Vis X.env.scope x := by first | exact Or.inl rfl | exact Or.inr (Or.inl rfl) | exact Or.inr (Or.inr rfl)) (hd : (x == ("__debug__" : Str)) = false := by decide)
    (hcd : (x == ("__classdict__" : Str)) = false := by decide) : ME X B (.Name x pos) (wVar i) := by
  refine pe_mono (pe_var hN hv hd hcd) fun σ H Q ⟨F, h, σd, Q', l, s, t, c⟩ => ?_
  unfold wVar at t
  split at t
  · rename_i d e
    obtain ⟨v, hv, r⟩ := l.get i d e
    exact ⟨v, hv, c F H h d v (Go.refl s) r t⟩
  · exact t.elim
theorem m_c {e : Expr} {d : D} {v : V} (h : PE X e (tC v)) (r : ∀ F, RD X.K F d v) : ME X B e (wC d) :=
  pe_mono h fun σ H Q ⟨F, h, σd, Q', l, s, t, c⟩ => c F H h d v (Go.refl s) (r F) t
theorem m_int {i j pos} : ME X B (.Constant (.int i) j pos) (wC (.int i)) := m_c pe_int fun _ => .int i
theorem m_bl {b j pos} : ME X B (.Constant (.bool b) j pos) (wC (.bl b)) := m_c pe_bl fun _ => .bl b
theorem m_non {j pos} : ME X B (.Constant .none j pos) (wC .non) := m_c pe_non fun _ => .non
theorem m_str {x j pos} : ME X B (.Constant (.str x) j pos) (wC (.str x)) := m_c pe_str fun _ => .str x
theorem m_glob {x : Str} {d : D} {v : V} {u : Value} {pos : Pos} (hg : Gl X x) (hm : X.mg x = some u) (r : RelV v u) (rd : ∀ F, RD X.K F d v) (hd : (x == ("__debug__" : Str)) = false := by decide) : ME X B (.Name x pos) (wC d) :=
  m_c (pe_glob hg hm r hd) rd
def OpD (K : PySem.W.Frag) (r : R2) (f : D → D → MH → MQ → Prop) : Prop := ∀ F H h x y u v Q' Q, SR K F H h → RD K F x u → RD K F y v → f x y h Q' → ContV K F H h Q' Q → r u v H Q
def wOp (f : D → D → MH → MQ → Prop) (a b : WE) : WE := fun σ h Q => a σ h fun x h1 => b σ h1 fun y h2 => f x y h2 Q
theorem lift_op {f : D → D → MH → MQ → Prop} {r : R2} {ta tb : WE} (hf : OpD X.K r f) : ∀ σ H Q, lift X.K B (wOp f ta tb) σ H Q → tOp r (lift X.K B ta) (lift X.K B tb) σ H Q := fun σ H Q ⟨F, h, σd, Q', l, s, t, c⟩ =>
  ⟨F, h, σd, _, l, s, t, fun F1 H1 h1 x u g1 rx t1 => ⟨F1, h1, σd, _, l.mono g1.ss, s.go g1, t1, fun F2 H2 h2 y v g2 ry t2 =>
    hf F2 H2 h2 x y u v Q' Q g2.sr (rx.mono g2.ss) ry t2 (c.go (g1.trans g2))⟩⟩
theorem m_bin {a b : Expr} {op : Operator} {pos : Pos} {ta tb : WE} {r : R2} {f : D → D → MH → MQ → Prop} (ho : OpR X (binaryOp op) r) (hf : OpD X.K r f) (ha : ME X B a ta) (hb : ME X B b tb) : ME X B (.BinOp a op b pos) (wOp f ta tb) :=
  pe_mono (pe_op ho ha hb) (lift_op hf)
theorem m_cmp {a b : Expr} {op : CmpOp} {pos : Pos} {ta tb : WE} {r : R2} {f : D → D → MH → MQ → Prop} (ho : OpR X (compareOp op) r) (hf : OpD X.K r f) (ha : ME X B a ta) (hb : ME X B b tb) (hm : behindInMarks op b = false := by first | exact nomark _ | with_unfolding_all rfl) :
    ME X B (.Compare a [op] [b] pos) (wOp f ta tb) := pe_mono (pe_cmpR ho ha hb hm) (lift_op hf)
def wTest (t : WE) : WT := fun σ h Q => t σ h fun x h1 => match x with
  | .bl b => Q b h1
  | _ => False
theorem m_tcmp {a b : Expr} {op : CmpOp} {pos : Pos} {ta tb : WE} {r : R2} {f : D → D → MH → MQ → Prop} (ho : OpR X (compareOp op) r) (hf : OpD X.K r f) (ha : ME X B a ta) (hb : ME X B b tb) (hm : behindInMarks op b = false := by first | exact nomark _ | with_unfolding_all rfl) :
    MT X B (.Compare a [op] [b] pos) (wTest (wOp f ta tb)) :=
  pt_mono (pt_cmpR ho ha hb hm) fun σ H Q ⟨F, h, σd, Q', l, s, t, c⟩ => lift_op hf σ H _ ⟨F, h, σd, _, l, s, t, fun F1 H1 h1 x u g1 rx t1 => by
    cases rx with
    | bl b => exact ⟨b, rfl, c F1 H1 h1 b g1 t1⟩
    | _ => exact t1.elim⟩
def UnD (K : PySem.W.Frag) (r : V → Hp → VK → Prop) (f : D → MH → MQ → Prop) : Prop := ∀ F H h x u Q' Q, SR K F H h → RD K F x u → f x h Q' → ContV K F H h Q' Q → r u H Q
def wUn (f : D → MH → MQ → Prop) (a : WE) : WE := fun σ h Q => a σ h fun x h1 => f x h1 Q
theorem m_un {a : Expr} {op : UnaryOp} {pos : Pos} {ta : WE} {r : V → Hp → VK → Prop} {f : D → MH → MQ → Prop} (ho : UnR X (unaryOp op) r) (hf : UnD X.K r f) (ha : ME X B a ta) : ME X B (.UnaryOp op a pos) (wUn f ta) :=
  pe_mono (pe_un ho ha) fun σ H Q ⟨F, h, σd, Q', l, s, t, c⟩ => ⟨F, h, σd, _, l, s, t, fun F1 H1 h1 x u g1 rx t1 => hf F1 H1 h1 x u Q' Q g1.sr rx t1 (c.go g1)⟩
end
end BP

set_option maxRecDepth 100000
set_option maxHeartbeats 4000000
namespace BP
open PySem PySem.Spec PyProof.Rows L2

mutual
def toP : D → Option PyData
  | .non => some .none
  | .bl b => some (.bool b)
  | .int i => some (.int i)
  | .str x => some (.str x)
  | .tup ds => (toPs ds).map .tuple
  | .lst ds => (toPs ds).map .list
  | _ => none
def toPs : List D → Option (List PyData)
  | [] => some []
  | d :: ds => match toP d, toPs ds with
    | some p, some ps => some (p :: ps)
    | _, _ => none
end
mutual
def eqv : D → D → Bool
  | .non, .non => true
  | .bl a, .bl b => a == b
  | .bl a, .int j => (if a then 1 else 0) == j
  | .int i, .bl b => i == (if b then 1 else 0)
  | .int i, .int j => i == j
  | .str x, .str y => x == y
  | .lst xs, .lst ys => eqvs xs ys
  | .tup xs, .tup ys => eqvs xs ys
  | _, _ => false
def eqvs : List D → List D → Bool
  | [], [] => true
  | x :: xs, y :: ys => eqv x y && eqvs xs ys
  | _, _ => false
end
def fit : Nat → D → Bool
  | _, .non => true
  | _, .bl _ => true
  | _, .int _ => true
  | _, .str x => PyData.strOk x
  | n + 1, .tup ds => ds.all (fit n)
  | n + 1, .lst ds => ds.all (fit n)
  | _, _ => false
theorem toPs_of : ∀ {n : Nat} {ds : List D}, (∀ d ∈ ds, ∃ p, toP d = some p ∧ p.canLay0 = true ∧ p.depth ≤ n) → ∃ ps, toPs ds = some ps ∧ PyData.canLayAll0 ps = true ∧ PyData.depthAll ps ≤ n
  | n, [], _ => ⟨[], rfl, rfl, Nat.zero_le _⟩
  | n, d :: ds, h => by
    obtain ⟨p, e, c, l⟩ := h d List.mem_cons_self
    obtain ⟨ps, e2, c2, l2⟩ := toPs_of (n := n) (ds := ds) fun x hx => h x (List.mem_cons_of_mem _ hx)
    refine ⟨p :: ps, ?_, ?_, ?_⟩
    · simp only [toPs, e, e2]
    · simp only [PyData.canLayAll0, c, c2, Bool.and_self]
    · simp only [PyData.depthAll]; omega
theorem toP_of : ∀ (n : Nat) (d : D), fit n d = true → ∃ p, toP d = some p ∧ p.canLay0 = true ∧ p.depth ≤ n
  | n, .non, _ => ⟨_, rfl, rfl, Nat.zero_le _⟩
  | n, .bl _, _ => ⟨_, rfl, rfl, Nat.zero_le _⟩
  | n, .int _, _ => ⟨_, rfl, rfl, Nat.zero_le _⟩
  | n, .str x, h => ⟨_, rfl, by simpa only [fit, PyData.canLay0] using h, Nat.zero_le _⟩
  | n + 1, .tup ds, h => by
    simp only [fit, List.all_eq_true] at h
    obtain ⟨ps, e, c, l⟩ := toPs_of (n := n) fun d hd => toP_of n d (h d hd)
    exact ⟨.tuple ps, by simp only [toP, e, Option.map_some], by simpa only [PyData.canLay0] using c, by simp only [PyData.depth]; omega⟩
  | n + 1, .lst ds, h => by
    simp only [fit, List.all_eq_true] at h
    obtain ⟨ps, e, c, l⟩ := toPs_of (n := n) fun d hd => toP_of n d (h d hd)
    exact ⟨.list ps, by simp only [toP, e, Option.map_some], by simpa only [PyData.canLay0] using c, by simp only [PyData.depth]; omega⟩
  | 0, .tup _, h => by simp [fit] at h
  | 0, .lst _, h => by simp [fit] at h
  | 0, .ty _, h => by simp [fit] at h
  | 0, .dct _, h => by simp [fit] at h
  | 0, .dcl _, h => by simp [fit] at h
  | 0, .scr _, h => by simp [fit] at h
  | 0, .ref _, h => by simp [fit] at h
  | 0, .exc _ _ _ _, h => by simp [fit] at h
  | _ + 1, .ty _, h => by simp [fit] at h
  | _ + 1, .dct _, h => by simp [fit] at h
  | _ + 1, .dcl _, h => by simp [fit] at h
  | _ + 1, .scr _, h => by simp [fit] at h
  | _ + 1, .ref _, h => by simp [fit] at h
  | _ + 1, .exc _ _ _ _, h => by simp [fit] at h
theorem shaped_of {d : D} (h : fit 64 d = true) : ∃ p, toP d = some p ∧ SeqAt.shaped p = true := by
  obtain ⟨p, e, c, l⟩ := toP_of 64 d h
  exact ⟨p, e, by unfold SeqAt.shaped; rw [c, decide_eq_true l]; rfl⟩
mutual
theorem eqv_toP : ∀ (x y : D) (a b : PyData), toP x = some a → toP y = some b → PyData.eqv a b = eqv x y := by
  intro x y a b hx hy
  cases x with
  | tup xs =>
    simp only [toP, Option.map_eq_some_iff] at hx
    obtain ⟨ps, hp, rfl⟩ := hx
    cases y <;> simp only [toP, Option.some.injEq, Option.map_eq_some_iff, reduceCtorEq] at hy
    all_goals first
      | (obtain ⟨qs, hq, rfl⟩ := hy; simp only [PyData.eqv, eqv, eqvs_toPs _ _ _ _ hp hq])
      | (subst hy; simp only [PyData.eqv, eqv])
  | lst xs =>
    simp only [toP, Option.map_eq_some_iff] at hx
    obtain ⟨ps, hp, rfl⟩ := hx
    cases y <;> simp only [toP, Option.some.injEq, Option.map_eq_some_iff, reduceCtorEq] at hy
    all_goals first
      | (obtain ⟨qs, hq, rfl⟩ := hy; simp only [PyData.eqv, eqv, eqvs_toPs _ _ _ _ hp hq])
      | (subst hy; simp only [PyData.eqv, eqv])
  | _ =>
    simp only [toP, Option.some.injEq, reduceCtorEq] at hx <;> (
      subst hx
      cases y <;> simp only [toP, Option.some.injEq, Option.map_eq_some_iff, reduceCtorEq] at hy
      all_goals first
        | (subst hy; simp only [PyData.eqv, eqv])
        | (obtain ⟨qs, hq, rfl⟩ := hy; simp only [PyData.eqv, eqv]))
theorem eqvs_toPs : ∀ (xs ys : List D) (as bs : List PyData), toPs xs = some as → toPs ys = some bs → PyData.eqvAll as bs = eqvs xs ys := by
  intro xs ys as bs hx hy
  cases xs with
  | nil =>
    simp only [toPs, Option.some.injEq] at hx
    subst hx
    cases ys with
    | nil => simp only [toPs, Option.some.injEq] at hy; subst hy; simp only [PyData.eqvAll, eqvs]
    | cons y ys =>
      simp only [toPs] at hy
      split at hy <;> simp only [Option.some.injEq, reduceCtorEq] at hy
      subst hy; simp only [PyData.eqvAll, eqvs]
  | cons x xs =>
    simp only [toPs] at hx
    split at hx <;> simp only [Option.some.injEq, reduceCtorEq] at hx
    rename_i a as' ea eas
    subst hx
    cases ys with
    | nil => simp only [toPs, Option.some.injEq] at hy; subst hy; simp only [PyData.eqvAll, eqvs]
    | cons y ys =>
      simp only [toPs] at hy
      split at hy <;> simp only [Option.some.injEq, reduceCtorEq] at hy
      rename_i b bs' eb ebs
      subst hy
      simp only [PyData.eqvAll, eqvs, eqv_toP x y a b ea eb, eqvs_toPs xs ys as' bs' eas ebs]
end
mutual
theorem RD.dp {K : PySem.W.Frag} {F H : Hp} (e : Same F H) : ∀ {d : D} {v : V} {p : PyData}, RD K F d v → toP d = some p → Dp K H v p
  | _, _, _, .non, h => by simp only [toP, Option.some.injEq] at h; subst h; exact .non
  | _, _, _, .bl b, h => by simp only [toP, Option.some.injEq] at h; subst h; exact .bl b
  | _, _, _, .int i, h => by simp only [toP, Option.some.injEq] at h; subst h; exact .int i
  | _, _, _, .str x, h => by simp only [toP, Option.some.injEq] at h; subst h; exact .str x
  | _, _, _, .tup q r, h => by
    simp only [toP, Option.map_eq_some_iff] at h
    obtain ⟨ps, hp, rfl⟩ := h
    exact .tup (Same.sqT e q) (RDs.dp e r hp)
  | _, _, _, .lst q r, h => by
    simp only [toP, Option.map_eq_some_iff] at h
    obtain ⟨ps, hp, rfl⟩ := h
    exact .lst (SqL.of (e _ _ q)) (RDs.dp e r hp)
  | _, _, _, .ty _, h => by simp [toP] at h
  | _, _, _, .ref _, h => by simp [toP] at h
  | _, _, _, .scr _, h => by simp [toP] at h
  | _, _, _, .dct _ _, h => by simp [toP] at h
  | _, _, _, .dcl _ _, h => by simp [toP] at h
  | _, _, _, .exc _ _, h => by simp [toP] at h
theorem RDs.dp {K : PySem.W.Frag} {F H : Hp} (e : Same F H) : ∀ {d : List D} {v : List V} {p : List PyData}, RDs K F d v → toPs d = some p → DpAll K H v p
  | _, _, _, .nil, h => by simp only [toPs, Option.some.injEq] at h; subst h; exact .nil
  | _, _, _, .cons q r, h => by
    simp only [toPs] at h
    split at h <;> simp only [Option.some.injEq, reduceCtorEq] at h
    subst h
    rename_i a b ea eb
    exact .cons (RD.dp e q ea) (RDs.dp e r eb)
end

def lsOf (h : MH) : D → Option (List D)
  | .lst ds => some ds
  | .ref a => match h a with
    | some (.lst ds) => some ds
    | _ => none
  | _ => none
def sqOf (h : MH) : D → Option (List D)
  | .tup ds => some ds
  | .scr ns => some (ns.map .int)
  | .lst ds => some ds
  | .ref a => match h a with
    | some (.lst ds) => some ds
    | _ => none
  | _ => none
section
variable {K : PySem.W.Frag} {F H : Hp} {h : MH}
theorem RDs.ints : ∀ ns : List Int, RDs K F (ns.map D.int) (ns.map V.int)
  | [] => .nil
  | n :: ns => .cons (.int n) (RDs.ints ns)
theorem ls_rd (s : SR K F H h) {d : D} {v : V} {ds : List D} (r : RD K F d v) (e : lsOf h d = some ds) : ∃ a xs, v = .ref a ∧ H a = some (.lst xs) ∧ RDs K F ds xs := by
  cases r with
  | lst q r => simp only [lsOf, Option.some.injEq] at e; subst e; exact ⟨_, _, rfl, s.fr _ _ q, r⟩
  | ref a =>
    simp only [lsOf] at e
    split at e <;> simp only [Option.some.injEq, reduceCtorEq] at e
    rename_i ds' em
    subst e
    obtain ⟨_, xs, q, r⟩ := s.cell a _ em
    exact ⟨a, xs, rfl, q, r⟩
  | _ => simp [lsOf] at e
theorem sq_rd (s : SR K F H h) {d : D} {v : V} {ds : List D} (r : RD K F d v) (e : sqOf h d = some ds) : ∃ a xs, v = .ref a ∧ (SqL K H a xs ∨ SqT K H a xs) ∧ RDs K F ds xs := by
  cases r with
  | tup q r => simp only [sqOf, Option.some.injEq] at e; subst e; exact ⟨_, _, rfl, .inr (Same.sqT s.fr q), r⟩
  | scr q => simp only [sqOf, Option.some.injEq] at e; subst e; exact ⟨_, _, rfl, .inl (Same.sqL s.fr q), RDs.ints _⟩
  | lst q r => simp only [sqOf, Option.some.injEq] at e; subst e; exact ⟨_, _, rfl, .inl (SqL.of (s.fr _ _ q)), r⟩
  | ref a =>
    simp only [sqOf] at e
    split at e <;> simp only [Option.some.injEq, reduceCtorEq] at e
    rename_i ds' em
    subst e
    obtain ⟨_, xs, q, r⟩ := s.cell a _ em
    exact ⟨a, xs, rfl, .inl (SqL.of q), r⟩
  | _ => simp [sqOf] at e
end
theorem ContV.same {K : PySem.W.Frag} {F H : Hp} {h : MH} {Q' : MQ} {Q : VK} {d : D} {v : V} (c : ContV K F H h Q' Q) (s : SR K F H h) (r : RD K F d v) (q : Q' d h) : Q v H := c F H h d v (Go.refl s) r q
theorem ContV.tup {K : PySem.W.Frag} {F H : Hp} {h : MH} {Q' : MQ} {Q : VK} {ds : List D} {xs : List V} {p : Addr} (c : ContV K F H h Q' Q) (s : SR K F H h) (n : H p = none) (r : RDs K F ds xs) (q : Q' (.tup ds) h) : Q (.ref p) (upd H p (.tup xs)) :=
  c _ _ h _ _ (Go.settled s n) (.tup (SqU.of upd_same) (r.mono (same_upd (s.freeF n)))) q
theorem ContV.lst {K : PySem.W.Frag} {F H : Hp} {h : MH} {Q' : MQ} {Q : VK} {ds : List D} {xs : List V} {p : Addr} (c : ContV K F H h Q' Q) (s : SR K F H h) (n : H p = none) (r : RDs K F ds xs) (q : Q' (.lst ds) h) : Q (.ref p) (upd H p (.lst xs)) :=
  c _ _ h _ _ (Go.settled s n) (.lst upd_same (r.mono (same_upd (s.freeF n)))) q

def opI2 (C : Int → Int → Prop) (g : Int → Int → Int) (x y : D) (h : MH) (Q : MQ) : Prop := match x, y with
  | .int i, .int j => C i j ∧ Q (.int (g i j)) h
  | _, _ => False
theorem opI2_d {K : PySem.W.Frag} {C : Int → Int → Prop} {g : Int → Int → Int} : OpD K (rI C fun i j => .int (g i j)) (opI2 C g) := fun F H h x y u v Q' Q s rx ry t c => by
  cases rx <;> cases ry <;> first | exact t.elim | skip
  rename_i i j
  exact ⟨i, j, rfl, rfl, t.1, c.same s (.int _) t.2⟩
def opB2 (g : Int → Int → Bool) (x y : D) (h : MH) (Q : MQ) : Prop := match x, y with
  | .int i, .int j => Q (.bl (g i j)) h
  | _, _ => False
theorem opB2_d {K : PySem.W.Frag} {g : Int → Int → Bool} : OpD K (rI0 fun i j => .bl (g i j)) (opB2 g) := fun F H h x y u v Q' Q s rx ry t c => by
  cases rx <;> cases ry <;> first | exact t.elim | skip
  rename_i i j
  exact ⟨i, j, rfl, rfl, c.same s (.bl _) t⟩
def opSub (x y : D) (h : MH) (Q : MQ) : Prop := match x, y with
  | .int i, .int j => Q (.int (i - j)) h
  | _, _ => False
theorem opSub_d {K : PySem.W.Frag} : OpD K (rI0 fun i j => .int (i - j)) opSub := fun F H h x y u v Q' Q s rx ry t c => by
  cases rx <;> cases ry <;> first | exact t.elim | skip
  rename_i i j
  exact ⟨i, j, rfl, rfl, c.same s (.int _) t⟩
def opAnd (x y : D) (h : MH) (Q : MQ) : Prop := match x, y with
  | .int i, .int j => Q (.int (Builtin.bitAnd i j)) h
  | _, _ => False
theorem opAnd_d {K : PySem.W.Frag} : OpD K (rI0 fun i j => .int (Builtin.bitAnd i j)) opAnd := fun F H h x y u v Q' Q s rx ry t c => by
  cases rx <;> cases ry <;> first | exact t.elim | skip
  rename_i i j
  exact ⟨i, j, rfl, rfl, c.same s (.int _) t⟩
def opAdd (x y : D) (h : MH) (Q : MQ) : Prop := match x, y with
  | .int i, .int j => Q (.int (i + j)) h
  | .str a, .str b => a.length + b.length ≤ sizeLine ∧ Q (.str (a ++ b)) h
  | .tup a, .tup b => a.length + b.length ≤ sizeLine ∧ Q (.tup (a ++ b)) h
  | x, y => match lsOf h x, lsOf h y with
    | some a, some b => a.length + b.length ≤ sizeLine ∧ Q (.lst (a ++ b)) h
    | _, _ => False
abbrev rAdd (K : PySem.W.Frag) : R2 := fun x y H Q => (((∃ i j, x = .int i ∧ y = .int j ∧ Q (.int (i + j)) H) ∨ (∃ i j, x = .str i ∧ y = .str j ∧ i.length + j.length ≤ sizeLine ∧ Q (.str (i ++ j)) H)) ∨ rCatA K x y H Q) ∨ rCat x y H Q
theorem op_addA {X : Cx} : OpR X (binaryOp .Add) (rAdd X.K) := ((op_add.or op_add_str).or op_catA).or op_cat
theorem opAdd_d {K : PySem.W.Frag} : OpD K (rAdd K) opAdd := fun F H h x y u v Q' Q s rx ry t c => by
  have key : ∀ a b, lsOf h x = some a → lsOf h y = some b → a.length + b.length ≤ sizeLine → Q' (.lst (a ++ b)) h → rAdd K u v H Q := fun a b ea eb hz q => by
    obtain ⟨p, xs, rfl, hp, r1⟩ := ls_rd s rx ea
    obtain ⟨p2, ys, rfl, hp2, r2⟩ := ls_rd s ry eb
    exact .inr ⟨p, p2, xs, ys, rfl, rfl, hp, hp2, by rw [← r1.length, ← r2.length]; exact hz, fun z hz => c.lst s hz (r1.append r2) q⟩
  unfold opAdd at t
  split at t
  · cases rx; cases ry
    exact .inl (.inl (.inl ⟨_, _, rfl, rfl, c.same s (.int _) t⟩))
  · cases rx; cases ry
    exact .inl (.inl (.inr ⟨_, _, rfl, rfl, t.1, c.same s (.str _) t.2⟩))
  · rename_i a b
    cases rx with
    | tup q1 r1 =>
      cases ry with
      | tup q2 r2 =>
        rename_i p xs p2 ys
        refine .inl (.inr ⟨_, _, _, _, rfl, rfl, Same.sqT s.fr q1, Same.sqT s.fr q2, by rw [← r1.length, ← r2.length]; exact t.1, fun e => ?_, fun n e => ?_, fun n n2 z hz => c.tup s hz (r1.append r2) t.2⟩)
        · subst e; cases r1; exact c.same s (.tup q2 r2) t.2
        · subst e; cases r2
          have t2 := t.2
          rw [List.append_nil] at t2
          exact c.same s (.tup q1 r1) t2
  · split at t
    · rename_i a b ea eb
      exact key a b ea eb t.1 t.2
    · exact t.elim
def mulOk (i j : Int) : Prop := CMul i j ∨ CMulX i j
def strRep (z : Str) (k : Int) : Str := ⟨(List.replicate k.toNat z.cps).foldl (· ++ ·) #[]⟩
def strRepOk (z : Str) (k : Int) : Prop := 2 ≤ k ∧ k ≤ 1000 ∧ 0 < z.length ∧ z.length ≤ 1000
theorem size_rep {α : Type} (a : Array α) : ∀ (n : Nat) (b : Array α), ((List.replicate n a).foldl (· ++ ·) b).size = b.size + n * a.size
  | 0, b => by simp
  | n + 1, b => by
    rw [List.replicate_succ, List.foldl_cons, size_rep a n, Array.size_append, Nat.succ_mul]
    omega
theorem op_repS {X : Cx} : OpR X (binaryOp .Mult) (fun x y H Q => ∃ z k, x = .str z ∧ y = .int k ∧ strRepOk z k ∧ Q (.str (strRep z k)) H) := by
  intro pins s σ H x y v u Q I rx ry h
  obtain ⟨z, k, rfl, rfl, ⟨h1, h2, h3, h4⟩, q⟩ := h
  obtain ⟨t, rfl⟩ := rx
  obtain ⟨t', rfl⟩ := ry
  have a1 : ¬ k < 1 := by omega
  have a2 : (k == 1 || z.length == 0) = false := by
    have : k ≠ 1 := by omega
    have : z.length ≠ 0 := by omega
    simp [*]
  have a3 : z.length * k.toNat ≤ 1000 * 1000 := Nat.mul_le_mul h4 (by omega)
  refine P.mul_str ?_ (fun _ _ => ?_) (fun _ _ => ?_) ?_
  · simp only [Bool.or_eq_false_iff, decide_eq_false_iff_not]
    omega
  · have : (2 ^ 63 - 1) / 1000 ≤ ((2 ^ 63 - 1) / k : Int) := by
      have e := Int.le_ediv_iff_mul_le (a := (2 ^ 63 - 1) / 1000) (b := 2 ^ 63 - 1) (c := k) (by omega)
      rw [e]
      omega
    omega
  · show decide (_ > sizeLine) = false
    have : (sizeLine : Nat) = 16777216 := by decide
    rw [decide_eq_false_iff_not]
    omega
  · rw [if_neg a1, if_neg (by rw [a2]; exact Bool.false_ne_true)]
    refine ⟨?_, .str (strRep z k), H, I.tok _, ⟨_, rfl⟩, q⟩
    have e : (strRep z k).length = z.length * k.toNat := by
      show ((List.replicate k.toNat z.cps).foldl (· ++ ·) #[]).size = z.cps.size * k.toNat
      rw [size_rep, Nat.mul_comm]; simp
    have : (sizeLine : Nat) = 16777216 := by decide
    show (strRep z k).length ≤ sizeLine
    omega
def opMul (x y : D) (h : MH) (Q : MQ) : Prop := match x, y with
  | .int i, .int j => mulOk i j ∧ Q (.int (i * j)) h
  | .tup a, .int k => (a ≠ [] ∧ 2 ≤ k ∧ k ≤ 1000 ∧ a.length ≤ 1000) ∧ Q (.tup (List.replicate k.toNat a).flatten) h
  | .str z, .int k => strRepOk z k ∧ Q (.str (strRep z k)) h
  | x, .int k => match lsOf h x with
    | some a => (-(2 ^ 63) ≤ k ∧ k < 2 ^ 63 ∧ a.length * k.toNat ≤ sizeLine) ∧ Q (.lst (List.replicate k.toNat a).flatten) h
    | none => False
  | _, _ => False
abbrev rMulA (K : PySem.W.Frag) : R2 := fun x y H Q => (((rI CMul (fun i j => .int (i * j)) x y H Q ∨ rI CMulX (fun i j => .int (i * j)) x y H Q) ∨ rRepT K x y H Q) ∨ rRep x y H Q) ∨ ∃ z k, x = .str z ∧ y = .int k ∧ strRepOk z k ∧ Q (.str (strRep z k)) H
theorem op_mulA {X : Cx} : OpR X (binaryOp .Mult) (rMulA X.K) := (((op_mul.or op_mulX).or op_repT).or op_rep).or op_repS
theorem opMul_d {K : PySem.W.Frag} : OpD K (rMulA K) opMul := fun F H h x y u v Q' Q s rx ry t c => by
  unfold opMul at t
  split at t
  · cases rx; cases ry
    rcases t.1 with z | z
    · exact .inl (.inl (.inl (.inl ⟨_, _, rfl, rfl, z, c.same s (.int _) t.2⟩)))
    · exact .inl (.inl (.inl (.inr ⟨_, _, rfl, rfl, z, c.same s (.int _) t.2⟩)))
  · cases ry
    cases rx with
    | tup q r =>
      obtain ⟨⟨h0, h1, h2, h3⟩, t2⟩ := t
      refine .inl (.inl (.inr ⟨_, _, _, rfl, rfl, Same.sqT s.fr q, fun z => h0 ?_, h1, h2, by rw [← r.length]; exact h3, fun z hz => c.tup s hz (r.rep _) t2⟩))
      subst z; cases r; rfl
  · cases rx; cases ry
    exact .inr ⟨_, _, rfl, rfl, t.1, c.same s (.str _) t.2⟩
  · cases ry
    split at t
    · rename_i a ea
      obtain ⟨p, xs, rfl, hp, r⟩ := ls_rd s rx ea
      obtain ⟨⟨h1, h2, h3⟩, t2⟩ := t
      exact .inl (.inr ⟨p, _, xs, rfl, rfl, hp, h1, h2, by rw [← r.length]; exact h3, fun z hz => c.lst s hz (r.rep _) t2⟩)
    · exact t.elim
  · exact t.elim
def divOk (_ j : Int) : Prop := 0 < j ∧ j.natAbs.log2 < 9000
def modOk (_ j : Int) : Prop := 0 < j
def powOk (i j : Int) : Prop := 0 ≤ j ∧ j ≤ 1000000 ∧ i.natAbs < 2 ^ 64
def shlOk (i j : Int) : Prop := 0 ≤ j ∧ (Builtin.Int.intBits i : Int) + j ≤ 2 ^ 27
def shrOk (_ j : Int) : Prop := 0 ≤ j

section
variable {X : Cx} {B : Bs} {a b c : Expr} {ta tb tc : WE} {pos : Pos}
theorem m_add (ha : ME X B a ta) (hb : ME X B b tb) : ME X B (.BinOp a .Add b pos) (wOp opAdd ta tb) := m_bin op_addA opAdd_d ha hb
theorem m_sub (ha : ME X B a ta) (hb : ME X B b tb) : ME X B (.BinOp a .Sub b pos) (wOp opSub ta tb) := m_bin op_sub opSub_d ha hb
theorem m_mul (ha : ME X B a ta) (hb : ME X B b tb) : ME X B (.BinOp a .Mult b pos) (wOp opMul ta tb) := m_bin op_mulA opMul_d ha hb
theorem m_fdiv (ha : ME X B a ta) (hb : ME X B b tb) : ME X B (.BinOp a .FloorDiv b pos) (wOp (opI2 divOk fun i j => i / j) ta tb) := m_bin (op_fdivW (X := X)) (opI2_d (C := divOk)) ha hb
theorem m_mod (ha : ME X B a ta) (hb : ME X B b tb) : ME X B (.BinOp a .Mod b pos) (wOp (opI2 modOk fun i j => i % j) ta tb) := m_bin (op_mod (X := X)) (opI2_d (C := modOk)) ha hb
theorem m_pow (ha : ME X B a ta) (hb : ME X B b tb) : ME X B (.BinOp a .Pow b pos) (wOp (opI2 powOk fun i j => i ^ j.toNat) ta tb) := m_bin (op_pow (X := X)) (opI2_d (C := powOk)) ha hb
theorem m_shl (ha : ME X B a ta) (hb : ME X B b tb) : ME X B (.BinOp a .LShift b pos) (wOp (opI2 shlOk fun i j => i * 2 ^ j.toNat) ta tb) := m_bin (op_shlW (X := X)) (opI2_d (C := shlOk)) ha hb
theorem m_shr (ha : ME X B a ta) (hb : ME X B b tb) : ME X B (.BinOp a .RShift b pos) (wOp (opI2 shrOk fun i j => i / 2 ^ j.toNat) ta tb) := m_bin (op_shr (X := X)) (opI2_d (C := shrOk)) ha hb
theorem m_band (ha : ME X B a ta) (hb : ME X B b tb) : ME X B (.BinOp a .BitAnd b pos) (wOp opAnd ta tb) := m_bin op_and opAnd_d ha hb
def unNeg (x : D) (h : MH) (Q : MQ) : Prop := match x with
  | .int i => Q (.int (-i)) h
  | _ => False
theorem m_neg (ha : ME X B a ta) : ME X B (.UnaryOp .USub a pos) (wUn unNeg ta) := m_un un_neg (fun F H h x u Q' Q s rx t c => by
  cases rx <;> first | exact t.elim | skip
  rename_i i
  exact ⟨i, rfl, c.same s (.int _) t⟩) ha
def opEq (neg : Bool) (x y : D) (h : MH) (Q : MQ) : Prop := match x, y with
  | .int i, .int j => Q (.bl (if neg then !(i == j) else i == j)) h
  | x, y => match lsOf h x, lsOf h y with
    | some a, some b => (fit 64 (.lst a) = true ∧ fit 64 (.lst b) = true) ∧ Q (.bl (if neg then !eqvs a b else eqvs a b)) h
    | some a, none => (fit 64 (.lst a) = true ∧ fit 64 y = true) ∧ Q (.bl neg) h
    | none, some b => (fit 64 x = true ∧ fit 64 (.lst b) = true) ∧ Q (.bl neg) h
    | none, none => (fit 64 x = true ∧ fit 64 y = true) ∧ Q (.bl (if neg then !eqv x y else eqv x y)) h
end
theorem eq_side {K : PySem.W.Frag} {F H : Hp} {h : MH} (s : SR K F H h) {x : D} {u : V} (rx : RD K F x u) :
    (∀ a, lsOf h x = some a → fit 64 (.lst a) = true → ∃ p, toP (.lst a) = some p ∧ SeqAt.shaped p = true ∧ Dp K H u p) ∧ (lsOf h x = none → fit 64 x = true → ∃ p, toP x = some p ∧ SeqAt.shaped p = true ∧ Dp K H u p) := by
  refine ⟨fun a e f => ?_, fun e f => ?_⟩
  · obtain ⟨p, hp, hs⟩ := shaped_of f
    obtain ⟨q, xs, rfl, hq, r⟩ := ls_rd s rx e
    refine ⟨p, hp, hs, ?_⟩
    simp only [toP, Option.map_eq_some_iff] at hp
    obtain ⟨ps, hps, rfl⟩ := hp
    exact .lst (SqL.of hq) (RDs.dp s.fr r hps)
  · obtain ⟨p, hp, hs⟩ := shaped_of f
    exact ⟨p, hp, hs, rx.dp s.fr hp⟩
theorem lsOf_none_eqv {h : MH} {x : D} (e : lsOf h x = none) (f : fit 64 x = true) (a : List D) : eqv (.lst a) x = false ∧ eqv x (.lst a) = false := by
  cases x <;> simp [lsOf, fit] at e f <;> simp [eqv]
theorem opEq_core {K : PySem.W.Frag} {neg : Bool} {F H : Hp} {h : MH} {x y : D} {u v : V} {Q' : MQ} {Q : VK} (s : SR K F H h) (rx : RD K F x u) (ry : RD K F y v) (t : opEq neg x y h Q') (c : ContV K F H h Q' Q) :
    ∃ d e, Dp K H u d ∧ Dp K H v e ∧ SeqAt.shaped d = true ∧ SeqAt.shaped e = true ∧ Q (.bl (if neg then !PyData.eqv d e else PyData.eqv d e)) H := by
  unfold opEq at t
  split at t
  · cases rx; cases ry
    rename_i i j
    refine ⟨.int i, .int j, .int i, .int j, rfl, rfl, ?_⟩
    have := c.same s (.bl _) t
    simpa only [PyData.eqv] using this
  · obtain ⟨xl, xn⟩ := eq_side s rx
    obtain ⟨yl, yn⟩ := eq_side s ry
    split at t
    · rename_i a b ea eb
      obtain ⟨p, hp, sp, dp⟩ := xl a ea t.1.1
      obtain ⟨q, hq, sq, dq⟩ := yl b eb t.1.2
      refine ⟨p, q, dp, dq, sp, sq, ?_⟩
      rw [eqv_toP _ _ _ _ hp hq]
      simp only [eqv]
      exact c.same s (.bl _) t.2
    · rename_i a ea eb
      obtain ⟨p, hp, sp, dp⟩ := xl a ea t.1.1
      obtain ⟨q, hq, sq, dq⟩ := yn eb t.1.2
      refine ⟨p, q, dp, dq, sp, sq, ?_⟩
      rw [eqv_toP _ _ _ _ hp hq, (lsOf_none_eqv eb t.1.2 a).1]
      have z : (if neg = true then !false else false) = neg := by cases neg <;> rfl
      rw [z]
      exact c.same s (.bl _) t.2
    · rename_i b ea eb
      obtain ⟨p, hp, sp, dp⟩ := xn ea t.1.1
      obtain ⟨q, hq, sq, dq⟩ := yl b eb t.1.2
      refine ⟨p, q, dp, dq, sp, sq, ?_⟩
      rw [eqv_toP _ _ _ _ hp hq, (lsOf_none_eqv ea t.1.1 b).2]
      have z : (if neg = true then !false else false) = neg := by cases neg <;> rfl
      rw [z]
      exact c.same s (.bl _) t.2
    · rename_i ea eb
      obtain ⟨p, hp, sp, dp⟩ := xn ea t.1.1
      obtain ⟨q, hq, sq, dq⟩ := yn eb t.1.2
      refine ⟨p, q, dp, dq, sp, sq, ?_⟩
      rw [eqv_toP _ _ _ _ hp hq]
      exact c.same s (.bl _) t.2
theorem opEq_d {K : PySem.W.Frag} : OpD K (rEqD K) (opEq false) := fun F H h x y u v Q' Q s rx ry t c => by
  obtain ⟨d, e, h1, h2, h3, h4, h5⟩ := opEq_core s rx ry t c
  exact ⟨d, e, h1, h2, h3, h4, h5⟩
theorem opNe_d {K : PySem.W.Frag} : OpD K (rNeD K) (opEq true) := fun F H h x y u v Q' Q s rx ry t c => by
  obtain ⟨d, e, h1, h2, h3, h4, h5⟩ := opEq_core s rx ry t c
  exact ⟨d, e, h1, h2, h3, h4, h5⟩
def opIsN (neg : Bool) (x y : D) (h : MH) (Q : MQ) : Prop := match y with
  | .non => Q (.bl (match x with | .non => !neg | _ => neg)) h
  | _ => False
section
variable {X : Cx} {B : Bs} {a b c : Expr} {ta tb tc : WE} {pos : Pos}
theorem opIsN_d {K : PySem.W.Frag} : OpD K (fun x y H Q => y = .non ∧ Q (.bl (decide (x = .non))) H) (opIsN false) := fun F H h x y u v Q' Q s rx ry t c => by
  cases ry <;> first | exact t.elim | skip
  refine ⟨rfl, ?_⟩
  cases rx <;> exact c.same s (.bl _) t
end
end BP

set_option maxRecDepth 100000
set_option maxHeartbeats 4000000
namespace BP
open PySem PySem.Spec PyProof.Rows L2
section
variable {X : Cx} {B : Bs} {a b c : Expr} {ta tb tc : WE} {pos : Pos}
theorem m_eq (hu : X.A.units + 64 < cLine) (ha : ME X B a ta) (hb : ME X B b tb) : ME X B (.Compare a [.Eq] [b] pos) (wOp (opEq false) ta tb) := m_cmp (op_eqD hu) opEq_d ha hb
theorem m_le (ha : ME X B a ta) (hb : ME X B b tb) : ME X B (.Compare a [.LtE] [b] pos) (wOp (opB2 fun i j => decide (i ≤ j)) ta tb) := m_cmp op_le opB2_d ha hb
theorem m_ge (ha : ME X B a ta) (hb : ME X B b tb) : ME X B (.Compare a [.GtE] [b] pos) (wOp (opB2 fun i j => decide (j ≤ i)) ta tb) := m_cmp op_ge opB2_d ha hb
theorem m_is (ha : ME X B a ta) (hb : ME X B b tb) : ME X B (.Compare a [.Is] [b] pos) (wOp (opIsN false) ta tb) := m_cmp op_isN opIsN_d ha hb
theorem mt_eq (hu : X.A.units + 64 < cLine) (ha : ME X B a ta) (hb : ME X B b tb) : MT X B (.Compare a [.Eq] [b] pos) (wTest (wOp (opEq false) ta tb)) := m_tcmp (op_eqD hu) opEq_d ha hb
theorem mt_ne (hu : X.A.units + 64 < cLine) (ha : ME X B a ta) (hb : ME X B b tb) : MT X B (.Compare a [.NotEq] [b] pos) (wTest (wOp (opEq true) ta tb)) := m_tcmp (op_neD hu) opNe_d ha hb
theorem mt_gt (ha : ME X B a ta) (hb : ME X B b tb) : MT X B (.Compare a [.Gt] [b] pos) (wTest (wOp (opB2 fun i j => decide (j < i)) ta tb)) := m_tcmp op_gt opB2_d ha hb
def wChain (f f' : D → D → MH → MQ → Prop) (ta tb tc : WE) : WE := fun σ h Q => ta σ h fun x h1 => tb σ h1 fun y h2 => f x y h2 fun z h3 => match z with
  | .bl true => tc σ h3 fun w h4 => f' y w h4 Q
  | .bl false => Q (.bl false) h3
  | _ => False
theorem lift_chain {f f' : D → D → MH → MQ → Prop} {r r' : R2} (hf : OpD X.K r f) (hf' : OpD X.K r' f') : ∀ σ H Q, lift X.K B (wChain f f' ta tb tc) σ H Q → tChain r r' (lift X.K B ta) (lift X.K B tb) (lift X.K B tc) σ H Q := fun σ H Q ⟨F, h, σd, Q', l, s, t, c⟩ =>
  ⟨F, h, σd, _, l, s, t, fun F1 H1 h1 x u g1 rx t1 => ⟨F1, h1, σd, _, l.mono g1.ss, s.go g1, t1, fun F2 H2 h2 y v g2 ry t2 =>
    hf F2 H2 h2 x y u v _ _ g2.sr (rx.mono g2.ss) ry t2 fun F3 H3 h3 z k g3 rz t3 => by
      cases rz <;> first | exact t3.elim | skip
      rename_i k
      cases k with
      | false => exact ⟨false, rfl, by rw [if_neg Bool.false_ne_true]; exact c F3 H3 h3 _ _ ((g1.trans g2).trans g3) (.bl _) t3⟩
      | true => exact ⟨true, rfl, by
          rw [if_pos rfl]
          exact ⟨F3, h3, σd, _, l.mono ((g1.trans g2).trans g3).ss, s.go ((g1.trans g2).trans g3), t3, fun F4 H4 h4 w z g4 rw' t4 => hf' F4 H4 h4 y w v z Q' Q g4.sr ((ry.mono g3.ss).mono g4.ss) rw' t4 (c.go (((g1.trans g2).trans g3).trans g4))⟩⟩⟩⟩
theorem m_chain {op op' : CmpOp} {f f' : D → D → MH → MQ → Prop} {r r' : R2} (ho : OpR X (compareOp op) r) (hf : OpD X.K r f) (ho' : OpR X (compareOp op') r') (hf' : OpD X.K r' f') (ha : ME X B a ta) (hb : ME X B b tb) (hc : ME X B c tc)
    (hm : lastMarks [op, op'] [b, c] = false := by with_unfolding_all rfl) : ME X B (.Compare a [op, op'] [b, c] pos) (wChain f f' ta tb tc) := pe_mono (pe_chain ho ho' ha hb hc hm) (lift_chain hf hf')
theorem mt_chain {op op' : CmpOp} {f f' : D → D → MH → MQ → Prop} {r r' : R2} (ho : OpR X (compareOp op) r) (hf : OpD X.K r f) (ho' : OpR X (compareOp op') r') (hf' : OpD X.K r' f') (ha : ME X B a ta) (hb : ME X B b tb) (hc : ME X B c tc)
    (hm : lastMarks [op, op'] [b, c] = false := by with_unfolding_all rfl) : MT X B (.Compare a [op, op'] [b, c] pos) (wTest (wChain f f' ta tb tc)) :=
  pt_mono (pt_chain ho ho' ha hb hc hm) fun σ H Q ⟨F, h, σd, Q', l, s, t, c⟩ => lift_chain hf hf' σ H _ ⟨F, h, σd, _, l, s, t, fun F1 H1 h1 x u g1 rx t1 => by
    cases rx with
    | bl b => exact ⟨b, rfl, c F1 H1 h1 b g1 t1⟩
    | _ => exact t1.elim⟩
theorem m_lele (ha : ME X B a ta) (hb : ME X B b tb) (hc : ME X B c tc) (hm : lastMarks [.LtE, .LtE] [b, c] = false := by with_unfolding_all rfl) : ME X B (.Compare a [.LtE, .LtE] [b, c] pos) (wChain (opB2 fun i j => decide (i ≤ j)) (opB2 fun i j => decide (i ≤ j)) ta tb tc) := m_chain op_le opB2_d op_le opB2_d ha hb hc hm
theorem mt_lelt (ha : ME X B a ta) (hb : ME X B b tb) (hc : ME X B c tc) (hm : lastMarks [.LtE, .Lt] [b, c] = false := by with_unfolding_all rfl) : MT X B (.Compare a [.LtE, .Lt] [b, c] pos) (wTest (wChain (opB2 fun i j => decide (i ≤ j)) (opB2 fun i j => decide (i < j)) ta tb tc)) := mt_chain op_le opB2_d op_lt opB2_d ha hb hc hm

def truth (h : MH) : D → Option Bool
  | .non => some false
  | .bl b => some b
  | .int i => some (i != 0)
  | .str x => if x.length ≤ sizeLine then some ((x.length : Int) != 0) else none
  | .dct kvs => some (!kvs.isEmpty)
  | d => (sqOf h d).map fun xs => !xs.isEmpty
theorem rds_empty {K : PySem.W.Frag} {F : Hp} {ds : List D} {xs : List V} (r : RDs K F ds xs) : ds.isEmpty = xs.isEmpty := by cases r <;> rfl
theorem truth_v {K : PySem.W.Frag} {F H : Hp} {h : MH} (s : SR K F H h) {d : D} {v : V} {k : Bool} (r : RD K F d v) (e : truth h d = some k) : TruV K v H k := by
  have key : ∀ {xs}, sqOf h d = some xs → k = !xs.isEmpty → TruV K v H k := fun {xs} q z => by
    obtain ⟨a, ys, rfl, o, r⟩ := sq_rd s r q
    rw [rds_empty r] at z
    rcases o with o | o
    · exact .inl ⟨ys, o, z⟩
    · exact .inr (.inl ⟨ys, o, z⟩)
  cases r with
  | non => simp only [truth, Option.some.injEq] at e; exact e.symm
  | bl b => simp only [truth, Option.some.injEq] at e; exact e.symm
  | int i => simp only [truth, Option.some.injEq] at e; exact e.symm
  | str x =>
    simp only [truth] at e
    split at e
    · rename_i hz; simp only [Option.some.injEq] at e; exact ⟨hz, e.symm⟩
    · cases e
  | dct q r =>
    simp only [truth, Option.some.injEq] at e
    refine .inr (.inr ⟨_, s.fr _ _ q, ?_⟩)
    rw [← e]; cases r <;> rfl
  | tup q r => simp only [truth, Option.map_eq_some_iff] at e; obtain ⟨xs, q, z⟩ := e; exact key q z.symm
  | lst q r => simp only [truth, Option.map_eq_some_iff] at e; obtain ⟨xs, q, z⟩ := e; exact key q z.symm
  | scr q => simp only [truth, Option.map_eq_some_iff] at e; obtain ⟨xs, q, z⟩ := e; exact key q z.symm
  | ref q => simp only [truth, Option.map_eq_some_iff] at e; obtain ⟨xs, q, z⟩ := e; exact key q z.symm
  | ty n => simp [truth, sqOf] at e
  | dcl q r => simp [truth, sqOf] at e
  | exc q r => simp [truth, sqOf] at e
def wTruth (t : WE) : WT := fun σ h Q => t σ h fun x h1 => match truth h1 x with
  | some b => Q b h1
  | none => False
theorem mt_val (ha : ME X B a ta) (he : ∀ whole, isTrue a X.env whole = (do let v ← whole; standAt a.pos; holding [v] (truthy v)) := by intro _; rfl) : MT X B a (wTruth ta) :=
  pt_mono (pt_truth ha he) fun σ H Q ⟨F, h, σd, Q', l, s, t, c⟩ => ⟨F, h, σd, _, l, s, t, fun F1 H1 h1 x u g1 rx t1 => by
    split at t1
    · rename_i b e
      exact ⟨b, truth_v g1.sr rx e, c F1 H1 h1 b g1 t1⟩
    · exact t1.elim⟩
def wAnd (t u : WT) : WT := fun σ h Q => t σ h fun b h1 => if b = true then u σ h1 Q else Q false h1
def wOr (t u : WT) : WT := fun σ h Q => t σ h fun b h1 => if b = true then Q true h1 else u σ h1 Q
def wNot (t : WT) : WT := fun σ h Q => t σ h fun b h1 => Q (!b) h1
abbrev MW (X : Cx) (B : Bs) (e : Expr) (t : WT) : Prop := PW X e (liftT X.K B t)
variable {ua ub : WT} {rest : List Expr}
theorem mw_or1 (ha : MT X B a ua) : MW X B (.BoolOp .Or [a] pos) ua := pw_or1 ha
theorem mw_or (ha : MT X B a ua) (hb : MW X B (.BoolOp .Or (b :: rest) pos) ub) : MW X B (.BoolOp .Or (a :: b :: rest) pos) (wOr ua ub) :=
  pw_mono (pw_or ha hb) fun σ H Q ⟨F, h, σd, Q', l, s, t, c⟩ => ⟨F, h, σd, _, l, s, t, fun F1 H1 h1 k g1 t1 => by
    cases k with
    | false => rw [if_neg Bool.false_ne_true] at t1 ⊢; exact ⟨F1, h1, σd, Q', l.mono g1.ss, s.go g1, t1, c.go g1⟩
    | true => rw [if_pos rfl] at t1 ⊢; exact c F1 H1 h1 true g1 t1⟩
theorem mt_w {e : Expr} (h : MW X B e ua) : MT X B e ua := PW.pt h
theorem mt_not (ha : MT X B a ua) : MT X B (.UnaryOp .Not a pos) (wNot ua) :=
  pt_mono (pt_not ha) fun σ H Q ⟨F, h, σd, Q', l, s, t, c⟩ => ⟨F, h, σd, _, l, s, t, fun F1 H1 h1 k g1 t1 => c F1 H1 h1 (!k) g1 t1⟩
def wAndV (t u : WE) : WE := fun σ h Q => t σ h fun x h1 => match truth h1 x with
  | some true => u σ h1 Q
  | some false => Q x h1
  | none => False
def wOrV (t u : WE) : WE := fun σ h Q => t σ h fun x h1 => match truth h1 x with
  | some true => Q x h1
  | some false => u σ h1 Q
  | none => False
def wNotV (t : WE) : WE := fun σ h Q => t σ h fun x h1 => match truth h1 x with
  | some b => Q (.bl (!b)) h1
  | none => False
end
end BP

set_option maxRecDepth 100000
set_option maxHeartbeats 4000000
namespace BP
open PySem PySem.Spec PyProof.Rows L2
section
variable {X : Cx} {B : Bs} {a b c e : Expr} {ta tb tc : WE} {pos : Pos} {rest es : List Expr} {ua ub : WT}
theorem m_one {op} (ha : ME X B a ta) : ME X B (.BoolOp op [a] pos) ta := pe_one ha
theorem m_and (ha : ME X B a ta) (hb : ME X B (.BoolOp .And (b :: rest) pos) tb) : ME X B (.BoolOp .And (a :: b :: rest) pos) (wAndV ta tb) :=
  pe_mono (pe_andT ha hb) fun σ H Q ⟨F, h, σd, Q', l, s, t, c⟩ => ⟨F, h, σd, _, l, s, t, fun F1 H1 h1 x u g1 rx t1 => by
    split at t1
    · rename_i e; exact ⟨true, truth_v g1.sr rx e, by rw [if_pos rfl]; exact ⟨F1, h1, σd, Q', l.mono g1.ss, s.go g1, t1, c.go g1⟩⟩
    · rename_i e; exact ⟨false, truth_v g1.sr rx e, by rw [if_neg Bool.false_ne_true]; exact c F1 H1 h1 x u g1 rx t1⟩
    · exact t1.elim⟩
theorem m_not (ha : ME X B a ta) : ME X B (.UnaryOp .Not a pos) (wNotV ta) :=
  pe_mono (pe_notT ha) fun σ H Q ⟨F, h, σd, Q', l, s, t, c⟩ => ⟨F, h, σd, _, l, s, t, fun F1 H1 h1 x u g1 rx t1 => by
    split at t1
    · rename_i b e; exact ⟨b, truth_v g1.sr rx e, c F1 H1 h1 _ _ g1 (.bl _) t1⟩
    · exact t1.elim⟩
def wIf (t : WT) (ta tb : WE) : WE := fun σ h Q => t σ h fun k h1 => if k = true then ta σ h1 Q else tb σ h1 Q
theorem m_if (hc : MT X B c ua) (ha : ME X B a ta) (hb : ME X B b tb) : ME X B (.IfExp c a b pos) (wIf ua ta tb) :=
  pe_mono (pe_ifExp hc ha hb) fun σ H Q ⟨F, h, σd, Q', l, s, t, c⟩ => ⟨F, h, σd, _, l, s, t, fun F1 H1 h1 k g1 t1 => by
    cases k with
    | true => rw [if_pos rfl] at t1 ⊢; exact ⟨F1, h1, σd, Q', l.mono g1.ss, s.go g1, t1, c.go g1⟩
    | false => rw [if_neg Bool.false_ne_true] at t1 ⊢; exact ⟨F1, h1, σd, Q', l.mono g1.ss, s.go g1, t1, c.go g1⟩⟩
def wNil : WA := fun _ h Q => Q [] h
def wCons (t : WE) (r : WA) : WA := fun σ h Q => t σ h fun d h1 => r σ h1 fun ds h2 => Q (d :: ds) h2
variable {wa : WA}
theorem ma_nil : MA X B [] wNil := pa_mono pa_nil fun σ H Q ⟨F, h, σd, Q', l, s, t, c⟩ => c F H h [] [] (Go.refl s) .nil t
theorem ma_cons (ha : ME X B e ta) (hr : MA X B es wa) (hs : starEach (e :: es) X.env = (false, eval e X.env) :: starEach es X.env := by rfl) : MA X B (e :: es) (wCons ta wa) :=
  pa_mono (pa_cons ha hr hs) fun σ H Q ⟨F, h, σd, Q', l, s, t, c⟩ => ⟨F, h, σd, _, l, s, t, fun F1 H1 h1 x u g1 rx t1 => ⟨F1, h1, σd, _, l.mono g1.ss, s.go g1, t1, fun F2 H2 h2 ds vs g2 rs t2 =>
    c F2 H2 h2 (x :: ds) (u :: vs) (g1.trans g2) (.cons (rx.mono g2.ss) rs) t2⟩⟩
def wTup (t : WA) : WE := fun σ h Q => t σ h fun ds h1 => ds.length ≤ sizeLine ∧ Q (.tup ds) h1
def wLst (t : WA) : WE := fun σ h Q => t σ h fun ds h1 => ds.length ≤ sizeLine ∧ Q (.lst ds) h1
def wLstM (t : WA) : WE := fun σ h Q => t σ h fun ds h1 => ds.length ≤ sizeLine ∧ ∀ p, h1 p = none → Q (.ref p) (mupd h1 p (.lst ds))
theorem m_tup {x1} (h : MA X B es wa) : ME X B (.Tuple es x1 pos) (wTup wa) :=
  pe_mono (pe_tup h) fun σ H Q ⟨F, h, σd, Q', l, s, t, c⟩ => ⟨F, h, σd, _, l, s, t, fun F1 H1 h1 ds vs g1 rs t1 => ⟨by rw [← rs.length]; exact t1.1, fun p hp => (c.go g1).tup g1.sr hp rs t1.2⟩⟩
theorem m_lst (h : MA X B es wa) : ME X B (.List es pos) (wLst wa) :=
  pe_mono (pe_lst h) fun σ H Q ⟨F, h, σd, Q', l, s, t, c⟩ => ⟨F, h, σd, _, l, s, t, fun F1 H1 h1 ds vs g1 rs t1 => ⟨by rw [← rs.length]; exact t1.1, fun p hp => (c.go g1).lst g1.sr hp rs t1.2⟩⟩
theorem ContV.newM {K : PySem.W.Frag} {F H : Hp} {h : MH} {Q' : MQ} {Q : VK} {ds : List D} {xs : List V} {p : Addr} (c : ContV K F H h Q' Q) (s : SR K F H h) (n : H p = none) (r : RDs K F ds xs) (q : ∀ p, h p = none → Q' (.ref p) (mupd h p (.lst ds))) : Q (.ref p) (upd H p (.lst xs)) :=
  c _ _ _ _ _ (Go.fresh (c := .lst ds) s n ⟨xs, upd_same, r⟩) (.ref p) (q p (s.freeM n))
theorem m_lstM (h : MA X B es wa) : ME X B (.List es pos) (wLstM wa) :=
  pe_mono (pe_lst h) fun σ H Q ⟨F, h, σd, Q', l, s, t, c⟩ => ⟨F, h, σd, _, l, s, t, fun F1 H1 h1 ds vs g1 rs t1 => ⟨by rw [← rs.length]; exact t1.1, fun p hp => (c.go g1).newM g1.sr hp rs t1.2⟩⟩
theorem atI_rd {K : PySem.W.Frag} {F : Hp} {ds : List D} {xs : List V} {i : Int} {d : D} (r : RDs K F ds xs) (e : atI ds i = some d) : ∃ v, atI xs i = some v ∧ RD K F d v := by
  unfold atI at e ⊢
  rw [r.length] at e
  cases q : ixN xs.length i with
  | none => rw [q] at e; cases e
  | some j =>
    rw [q] at e
    exact r.get e
def opIx (x y : D) (h : MH) (Q : MQ) : Prop := match y with
  | .int i => match sqOf h x with
    | some xs => match atI xs i with
      | some d => Q d h
      | none => False
    | none => False
  | _ => False
theorem opIx_d {K : PySem.W.Frag} : OpD K (fun x y H Q => rIxL K x y H Q ∨ rIxT K x y H Q) opIx := fun F H h x y u v Q' Q s rx ry t c => by
  unfold opIx at t
  split at t
  · rename_i i
    cases ry
    split at t
    · rename_i xs ex
      split at t
      · rename_i d ed
        obtain ⟨p, ys, rfl, o, r⟩ := sq_rd s rx ex
        obtain ⟨w, ew, rw'⟩ := atI_rd r ed
        rcases o with o | o
        · exact .inl ⟨p, ys, i, w, rfl, rfl, o, ew, c.same s rw' t⟩
        · exact .inr ⟨p, ys, i, w, rfl, rfl, o, ew, c.same s rw' t⟩
      · exact t.elim
    · exact t.elim
  · exact t.elim
theorem m_ix (ha : ME X B a ta) (hb : ME X B b tb) (hs : PlainIx b := by intro _ _; rfl) : ME X B (.Subscript a b pos) (wOp opIx ta tb) := pe_mono (pe_ix (ix_list.or ix_tup) ha hb hs) (lift_op opIx_d)
abbrev WO := MSt → MH → (Option Int → MH → Prop) → Prop
def ContO (K : PySem.W.Frag) (F H : Hp) (h : MH) (Q' : Option Int → MH → Prop) (Q : Option Int → Hp → Prop) : Prop := ∀ F' H' h' b, Go K F H h F' H' h' → Q' b h' → Q b H'
def liftO (K : PySem.W.Frag) (B : Bs) (t : WO) : TO := fun σ H Q => ∃ F h σd Q', LR K F σd σ ∧ Bd K B F H h ∧ t σd h Q' ∧ ContO K F H h Q' Q
abbrev MO (X : Cx) (B : Bs) (o : Option Expr) (t : WO) : Prop := PO X o (liftO X.K B t)
theorem po_mono {o : Option Expr} {t t' : TO} (h : PO X o t) (m : ∀ σ H Q, t' σ H Q → t σ H Q) : PO X o t' := ⟨fun pins s σ H Q I q => h.run pins s σ H Q I (m σ H Q q)⟩
def wNo : WO := fun _ h Q => Q none h
def wPart (t : WE) : WO := fun σ h Q => t σ h fun x h1 => match x with
  | .int i => Q (some i) h1
  | _ => False
theorem mo_none : MO X B none wNo := po_mono po_none fun σ H Q ⟨F, h, σd, Q', l, s, t, c⟩ => c F H h none (Go.refl s) t
theorem mo_some (h : ME X B a ta) : MO X B (some a) (wPart ta) := po_mono (po_some h) fun σ H Q ⟨F, h, σd, Q', l, s, t, c⟩ => ⟨F, h, σd, _, l, s, t, fun F1 H1 h1 x u g1 rx t1 => by
  cases rx <;> first | exact t1.elim | skip
  rename_i i
  exact ⟨i, rfl, c F1 H1 h1 (some i) g1 t1⟩⟩
def cut {α : Type} (xs : List α) (lo hi : Option Int) : List α := (xs.drop (HT.sIx xs.length 0 lo)).take (HT.sIx xs.length xs.length hi - HT.sIx xs.length 0 lo)
theorem cut_rd {K : PySem.W.Frag} {F : Hp} {ds : List D} {xs : List V} (r : RDs K F ds xs) (lo hi : Option Int) : RDs K F (cut ds lo hi) (cutV xs lo hi) := by
  unfold cut cutV
  rw [r.length]
  exact (r.drop _).take _
theorem cut_whole {α : Type} {xs : List α} {lo hi : Option Int} (e : HT.sIx xs.length 0 lo = 0 ∧ HT.sIx xs.length xs.length hi = xs.length) : cut xs lo hi = xs := by
  unfold cut
  rw [e.1, e.2]
  simp
def opSl (x : D) (lo hi : Option Int) (h : MH) (Q : MQ) : Prop := match x with
  | .tup xs => Q (.tup (cut xs lo hi)) h
  | x => match sqOf h x with
    | some xs => Q (.lst (cut xs lo hi)) h
    | none => False
def wSl (ta : WE) (tl th : WO) : WE := fun σ h Q => ta σ h fun x h1 => tl σ h1 fun lo h2 => th σ h2 fun hi h3 => opSl x lo hi h3 Q
theorem m_sl {lo hi : Option Expr} {tl th : WO} {p2 : Pos} (ha : ME X B a ta) (hl : MO X B lo tl) (hh : MO X B hi th) : ME X B (.Subscript a (.Slice lo hi none p2) pos) (wSl ta tl th) :=
  pe_mono (pe_slice (sl_tupA.or sl_list) ha hl hh) fun σ H Q ⟨F, h, σd, Q', l, s, t, c⟩ => ⟨F, h, σd, _, l, s, t, fun F1 H1 h1 x u g1 rx t1 => ⟨F1, h1, σd, _, l.mono g1.ss, s.go g1, t1, fun F2 H2 h2 lo g2 t2 => ⟨F2, h2, σd, _, l.mono (g1.trans g2).ss, s.go (g1.trans g2), t2, fun F3 H3 h3 hi g3 t3 => by
    have s3 := g3.sr
    have c3 := c.go ((g1.trans g2).trans g3)
    have rx3 := (rx.mono g2.ss).mono g3.ss
    unfold opSl at t3
    split at t3
    · cases rx3 with
      | tup q r =>
        rename_i xs _ ys
        refine .inl ⟨_, ys, rfl, Same.sqT s3.fr q, fun e => ?_, fun _ p hp => c3.tup s3 hp (cut_rd r lo hi) t3⟩
        rw [cut_whole (by rw [r.length]; exact e)] at t3
        exact c3.same s3 (.tup q r) t3
    · split at t3
      · rename_i hn _ ys ey
        cases rx3 with
        | tup q r => exact (hn _ rfl).elim
        | scr q => simp only [sqOf, Option.some.injEq] at ey; subst ey; exact .inr ⟨_, _, rfl, Same.sqL s3.fr q, fun p hp => c3.lst s3 hp (cut_rd (RDs.ints _) lo hi) t3⟩
        | lst q r => simp only [sqOf, Option.some.injEq] at ey; subst ey; exact .inr ⟨_, _, rfl, SqL.of (s3.fr _ _ q), fun p hp => c3.lst s3 hp (cut_rd r lo hi) t3⟩
        | ref a0 =>
          simp only [sqOf] at ey
          split at ey <;> simp only [Option.some.injEq, reduceCtorEq] at ey
          rename_i ds' em
          subst ey
          obtain ⟨_, xs, q, r⟩ := s3.cell _ _ em
          exact .inr ⟨_, xs, rfl, SqL.of q, fun p hp => c3.lst s3 hp (cut_rd r lo hi) t3⟩
        | _ => simp [sqOf] at ey
      · exact t3.elim⟩⟩⟩
def CallD (K : PySem.W.Frag) (r : List V → Hp → VK → Prop) (f : List D → MH → MQ → Prop) : Prop := ∀ F H h ds vs Q' Q, SR K F H h → RDs K F ds vs → f ds h Q' → ContV K F H h Q' Q → r vs H Q
def wCB (f : List D → MH → MQ → Prop) (t : WA) : WE := fun σ h Q => t σ h fun ds h1 => f ds h1 Q
theorem lift_cb {r : List V → Hp → VK → Prop} {f : List D → MH → MQ → Prop} (hf : CallD X.K r f) : ∀ σ H Q, lift X.K B (wCB f wa) σ H Q → tCB r (liftA X.K B wa) σ H Q := fun σ H Q ⟨F, h, σd, Q', l, s, t, c⟩ =>
  ⟨F, h, σd, _, l, s, t, fun F1 H1 h1 ds vs g1 rs t1 => hf F1 H1 h1 ds vs Q' Q g1.sr rs t1 (c.go g1)⟩
theorem m_callB {x : Str} {p : Pos} {id : String} {r : List V → Hp → VK → Prop} {f : List D → MH → MQ → Prop} (hc : CallR X (.builtin id) r) (hf : CallD X.K r f) (hm : X.mg x = none) (hv : bootBuiltins x = some (.builtin id)) (ha : MA X B (e :: es) wa) (hg : Gl X x := by rfl) (hn : x ≠ "__name__" := by decide) (hdb : (x == ("__debug__" : Str)) = false := by decide)
    (he : starEach (e :: es) X.env = (false, eval e X.env) :: starEach es X.env := by rfl) (hpl : (backTo pos (starEach es X.env)).any (·.1) = false := by rfl) : ME X B (.Call (.Name x p) (e :: es) [] pos) (wCB f wa) := pe_mono (pe_callB hc hg hm hv ha hn hdb he hpl) (lift_cb hf)
theorem m_callTy {x : Str} {p : Pos} {T : String} {r : List V → Hp → VK → Prop} {f : List D → MH → MQ → Prop} (hc : CallR X (.type T) r) (hf : CallD X.K r f) (hm : X.mg x = none) (hv : bootBuiltins x = some (.type T)) (ha : MA X B (e :: es) wa) (hg : Gl X x := by rfl) (hn : x ≠ "__name__" := by decide) (hdb : (x == ("__debug__" : Str)) = false := by decide)
    (he : starEach (e :: es) X.env = (false, eval e X.env) :: starEach es X.env := by rfl) (hpl : (backTo pos (starEach es X.env)).any (·.1) = false := by rfl) : ME X B (.Call (.Name x p) (e :: es) [] pos) (wCB f wa) := pe_mono (pe_callTy hc hg hm hv ha hn hdb he hpl) (lift_cb hf)
def fLen (ds : List D) (h : MH) (Q : MQ) : Prop := match ds with
  | [.str z] => z.length ≤ sizeLine ∧ Q (.int z.length) h
  | [d] => match sqOf h d with
    | some xs => Q (.int xs.length) h
    | none => False
  | _ => False
theorem rds_one {K : PySem.W.Frag} {F : Hp} {d : D} {vs : List V} (r : RDs K F [d] vs) : ∃ v, vs = [v] ∧ RD K F d v := by
  cases r with
  | cons q r => cases r; exact ⟨_, rfl, q⟩
theorem rds_two {K : PySem.W.Frag} {F : Hp} {d e : D} {vs : List V} (r : RDs K F [d, e] vs) : ∃ v w, vs = [v, w] ∧ RD K F d v ∧ RD K F e w := by
  cases r with
  | cons q r =>
    obtain ⟨w, rfl, q2⟩ := rds_one r
    exact ⟨_, _, rfl, q, q2⟩
theorem fLen_d {K : PySem.W.Frag} : CallD K (fun xs H Q => (∃ p ys, xs = [.ref p] ∧ (SqL K H p ys ∨ SqT K H p ys) ∧ Q (.int ys.length) H) ∨ ∃ z, xs = [.str z] ∧ z.length ≤ sizeLine ∧ Q (.int z.length) H) fLen := fun F H h ds vs Q' Q s rs t c => by
  unfold fLen at t
  split at t
  · obtain ⟨v, rfl, r⟩ := rds_one rs
    cases r
    exact .inr ⟨_, rfl, t.1, c.same s (.int _) t.2⟩
  · obtain ⟨v, rfl, r⟩ := rds_one rs
    split at t
    · rename_i xs ex
      obtain ⟨p, ys, rfl, o, r2⟩ := sq_rd s r ex
      refine .inl ⟨p, ys, rfl, o, ?_⟩
      rw [← r2.length]
      exact c.same s (.int _) t
    · exact t.elim
  · exact t.elim
theorem m_len {p : Pos} (hm : X.mg "len" = none) (ha : MA X B (e :: es) wa) (hg : Gl X "len" := by rfl) (he : starEach (e :: es) X.env = (false, eval e X.env) :: starEach es X.env := by rfl) (hpl : (backTo pos (starEach es X.env)).any (·.1) = false := by rfl) :
    ME X B (.Call (.Name "len" p) (e :: es) [] pos) (wCB fLen wa) := m_callB (call_len_seq.or call_len_str) fLen_d hm PySem.boot_len ha hg (by decide) (by decide) he hpl
def fInt (ds : List D) (h : MH) (Q : MQ) : Prop := match ds with
  | [.int i] => Q (.int i) h
  | [.bl b] => Q (.int (if b then 1 else 0)) h
  | _ => False
theorem m_intc {p : Pos} (hm : X.mg "int" = none) (ha : MA X B (e :: es) wa) (hg : Gl X "int" := by rfl) (he : starEach (e :: es) X.env = (false, eval e X.env) :: starEach es X.env := by rfl) (hpl : (backTo pos (starEach es X.env)).any (·.1) = false := by rfl) :
    ME X B (.Call (.Name "int" p) (e :: es) [] pos) (wCB fInt wa) := m_callTy call_int1 (fun F H h ds vs Q' Q s rs t c => by
      unfold fInt at t
      split at t
      · obtain ⟨v, rfl, r⟩ := rds_one rs; cases r; exact .inl ⟨_, rfl, c.same s (.int _) t⟩
      · obtain ⟨v, rfl, r⟩ := rds_one rs; cases r; exact .inr ⟨_, rfl, c.same s (.int _) t⟩
      · exact t.elim) hm (by decide +kernel) ha hg (by decide) (by decide) he hpl
def fMax2 (ds : List D) (h : MH) (Q : MQ) : Prop := match ds with
  | [.int i, .int j] => Q (.int (if j > i then j else i)) h
  | _ => False
def fMin2 (ds : List D) (h : MH) (Q : MQ) : Prop := match ds with
  | [.int i, .int j] => Q (.int (if j < i then j else i)) h
  | _ => False
theorem m_max2 {p : Pos} (hc : X.calm = true) (hm : X.mg "max" = none) (ha : MA X B (e :: es) wa) (hg : Gl X "max" := by rfl) (he : starEach (e :: es) X.env = (false, eval e X.env) :: starEach es X.env := by rfl) (hpl : (backTo pos (starEach es X.env)).any (·.1) = false := by rfl) :
    ME X B (.Call (.Name "max" p) (e :: es) [] pos) (wCB fMax2 wa) := m_callB (call_max2 hc) (fun F H h ds vs Q' Q s rs t c => by
      unfold fMax2 at t
      split at t
      · obtain ⟨v, w, rfl, r, r2⟩ := rds_two rs; cases r; cases r2; exact ⟨_, _, rfl, c.same s (.int _) t⟩
      · exact t.elim) hm (by decide +kernel) ha hg (by decide) (by decide) he hpl
theorem m_min2 {p : Pos} (hc : X.calm = true) (hm : X.mg "min" = none) (ha : MA X B (e :: es) wa) (hg : Gl X "min" := by rfl) (he : starEach (e :: es) X.env = (false, eval e X.env) :: starEach es X.env := by rfl) (hpl : (backTo pos (starEach es X.env)).any (·.1) = false := by rfl) :
    ME X B (.Call (.Name "min" p) (e :: es) [] pos) (wCB fMin2 wa) := m_callB (call_min2 hc) (fun F H h ds vs Q' Q s rs t c => by
      unfold fMin2 at t
      split at t
      · obtain ⟨v, w, rfl, r, r2⟩ := rds_two rs; cases r; cases r2; exact ⟨_, _, rfl, c.same s (.int _) t⟩
      · exact t.elim) hm (by decide +kernel) ha hg (by decide) (by decide) he hpl
def fTup (ds : List D) (h : MH) (Q : MQ) : Prop := match ds with
  | [d] => match sqOf h d with
    | some xs => Q (.tup xs) h
    | none => False
  | _ => False
theorem m_tuple {p : Pos} (hm : X.mg "tuple" = none) (ha : MA X B (e :: es) wa) (hg : Gl X "tuple" := by rfl) (he : starEach (e :: es) X.env = (false, eval e X.env) :: starEach es X.env := by rfl) (hpl : (backTo pos (starEach es X.env)).any (·.1) = false := by rfl) :
    ME X B (.Call (.Name "tuple" p) (e :: es) [] pos) (wCB fTup wa) := m_callTy call_tuple_of (fun F H h ds vs Q' Q s rs t c => by
      unfold fTup at t
      split at t
      · obtain ⟨v, rfl, r⟩ := rds_one rs
        split at t
        · rename_i xs ex
          obtain ⟨p, ys, rfl, o, r2⟩ := sq_rd s r ex
          cases r with
          | tup q r => simp only [sqOf, Option.some.injEq] at ex; subst ex; exact ⟨_, _, rfl, .inr ⟨Same.sqT s.fr q, c.same s (.tup q r) t⟩⟩
          | scr q => simp only [sqOf, Option.some.injEq] at ex; subst ex; exact ⟨_, _, rfl, .inl ⟨Same.sqL s.fr q, fun p hp => c.tup s hp (RDs.ints _) t⟩⟩
          | lst q r => simp only [sqOf, Option.some.injEq] at ex; subst ex; exact ⟨_, _, rfl, .inl ⟨SqL.of (s.fr _ _ q), fun p hp => c.tup s hp r t⟩⟩
          | ref a0 =>
            simp only [sqOf] at ex
            split at ex <;> simp only [Option.some.injEq, reduceCtorEq] at ex
            rename_i ds' em
            subst ex
            obtain ⟨_, zs, q, r⟩ := s.cell _ _ em
            exact ⟨_, _, rfl, .inl ⟨SqL.of q, fun p hp => c.tup s hp r t⟩⟩
          | _ => simp [sqOf] at ex
        · exact t.elim
      · exact t.elim) hm (by decide +kernel) ha hg (by decide) (by decide) he hpl
def fList (ds : List D) (h : MH) (Q : MQ) : Prop := match ds with
  | [d] => match sqOf h d with
    | some xs => Q (.lst xs) h
    | none => False
  | _ => False
def fListM (ds : List D) (h : MH) (Q : MQ) : Prop := match ds with
  | [d] => match sqOf h d with
    | some xs => ∀ p, h p = none → Q (.ref p) (mupd h p (.lst xs))
    | none => False
  | _ => False
theorem m_list {p : Pos} (hm : X.mg "list" = none) (ha : MA X B (e :: es) wa) (hg : Gl X "list" := by rfl) (he : starEach (e :: es) X.env = (false, eval e X.env) :: starEach es X.env := by rfl) (hpl : (backTo pos (starEach es X.env)).any (·.1) = false := by rfl) :
    ME X B (.Call (.Name "list" p) (e :: es) [] pos) (wCB fList wa) := m_callTy call_list_of (fun F H h ds vs Q' Q s rs t c => by
      unfold fList at t
      split at t
      · obtain ⟨v, rfl, r⟩ := rds_one rs
        split at t
        · rename_i xs ex
          obtain ⟨p, ys, rfl, o, r2⟩ := sq_rd s r ex
          exact ⟨p, ys, rfl, o, fun p hp => c.lst s hp r2 t⟩
        · exact t.elim
      · exact t.elim) hm (by decide +kernel) ha hg (by decide) (by decide) he hpl
def bls : List D → Option (List Bool)
  | [] => some []
  | .bl b :: ds => (bls ds).map (b :: ·)
  | _ => none
def intsOf : List D → Option (List Int)
  | [] => some []
  | .int i :: ds => (intsOf ds).map (i :: ·)
  | _ => none
theorem bls_rd {K : PySem.W.Frag} {F : Hp} : ∀ {ds : List D} {xs : List V} {bs : List Bool}, RDs K F ds xs → bls ds = some bs → xs = bs.map V.bl
  | _, _, _, .nil, e => by simp only [bls, Option.some.injEq] at e; subst e; rfl
  | _, _, _, .cons (d := d) q r, e => by
    cases q <;> simp only [bls, Option.map_eq_some_iff, reduceCtorEq] at e
    obtain ⟨bs, e, rfl⟩ := e
    rw [bls_rd r e]; rfl
theorem ints_rd {K : PySem.W.Frag} {F : Hp} : ∀ {ds : List D} {xs : List V} {bs : List Int}, RDs K F ds xs → intsOf ds = some bs → xs = bs.map V.int
  | _, _, _, .nil, e => by simp only [intsOf, Option.some.injEq] at e; subst e; rfl
  | _, _, _, .cons (d := d) q r, e => by
    cases q <;> simp only [intsOf, Option.map_eq_some_iff, reduceCtorEq] at e
    obtain ⟨bs, e, rfl⟩ := e
    rw [ints_rd r e]; rfl
def fBools (g : List Bool → Bool) (ds : List D) (h : MH) (Q : MQ) : Prop := match ds with
  | [d] => match (lsOf h d).bind bls with
    | some bs => Q (.bl (g bs)) h
    | none => False
  | _ => False
def fSum (ds : List D) (h : MH) (Q : MQ) : Prop := match ds with
  | [d] => match (lsOf h d).bind intsOf with
    | some bs => Q (.int bs.sum) h
    | none => False
  | _ => False
theorem fBools_d {K : PySem.W.Frag} {g : List Bool → Bool} : CallD K (fun vs H Q => ∃ (a : Addr) (bs : List Bool), vs = [V.ref a] ∧ SqL K H a (bs.map V.bl) ∧ Q (.bl (g bs)) H) (fBools g) := fun F H h ds vs Q' Q s rs t c => by
  unfold fBools at t
  split at t
  · obtain ⟨v, rfl, r⟩ := rds_one rs
    split at t
    · rename_i bs eb
      simp only [Option.bind_eq_some_iff] at eb
      obtain ⟨xs, ex, eb⟩ := eb
      obtain ⟨p, ys, rfl, q, r2⟩ := ls_rd s r ex
      have := bls_rd r2 eb
      subst this
      exact ⟨p, bs, rfl, SqL.of q, c.same s (.bl _) t⟩
    · exact t.elim
  · exact t.elim
theorem m_all {p : Pos} (hc : X.calm = true) (hm : X.mg "all" = none) (ha : MA X B (e :: es) wa) (hg : Gl X "all" := by rfl) (he : starEach (e :: es) X.env = (false, eval e X.env) :: starEach es X.env := by rfl) (hpl : (backTo pos (starEach es X.env)).any (·.1) = false := by rfl) :
    ME X B (.Call (.Name "all" p) (e :: es) [] pos) (wCB (fBools fun bs => bs.all id) wa) := m_callB (cr_all hc) fBools_d hm (by decide +kernel) ha hg (by decide) (by decide) he hpl
theorem m_sum {p : Pos} (hc : X.calm = true) (hm : X.mg "sum" = none) (ha : MA X B (e :: es) wa) (hg : Gl X "sum" := by rfl) (he : starEach (e :: es) X.env = (false, eval e X.env) :: starEach es X.env := by rfl) (hpl : (backTo pos (starEach es X.env)).any (·.1) = false := by rfl) :
    ME X B (.Call (.Name "sum" p) (e :: es) [] pos) (wCB fSum wa) := m_callB (cr_sum hc) (fun F H h ds vs Q' Q s rs t c => by
      unfold fSum at t
      split at t
      · obtain ⟨v, rfl, r⟩ := rds_one rs
        split at t
        · rename_i bs eb
          simp only [Option.bind_eq_some_iff] at eb
          obtain ⟨xs, ex, eb⟩ := eb
          obtain ⟨p, ys, rfl, q, r2⟩ := ls_rd s r ex
          have := ints_rd r2 eb
          subst this
          exact ⟨p, bs, rfl, SqL.of q, c.same s (.int _) t⟩
        · exact t.elim
      · exact t.elim) hm (by decide +kernel) ha hg (by decide) (by decide) he hpl
end
end BP

set_option maxRecDepth 100000
set_option maxHeartbeats 4000000
namespace BP
open PySem PySem.Spec PyProof.Rows L2
def clsD (h : MH) : D → Option String
  | .non => some "NoneType"
  | .bl _ => some "bool"
  | .int _ => some "int"
  | .str _ => some "str"
  | .tup _ => some "tuple"
  | .lst _ => some "list"
  | .scr _ => some "list"
  | .dct _ => some "dict"
  | .dcl _ => some "dict"
  | .ref a => match h a with
    | some (.lst _) => some "list"
    | some (.dct _) => some "dict"
    | _ => none
  | _ => none
def subT (a b : String) : Bool := a == b || (a == "bool" && b == "int")
theorem ty_rd {K : PySem.W.Frag} {F H : Hp} {h : MH} (s : SR K F H h) {d : D} {v : V} {n : String} (r : RD K F d v) (e : clsD h d = some n) : TyX K H v (.type n) ∧ n ∈ ["NoneType", "bool", "int", "str", "tuple", "list", "dict"] := by
  cases r with
  | non => simp only [clsD, Option.some.injEq] at e; subst e; exact ⟨.base .non, by decide⟩
  | bl b => simp only [clsD, Option.some.injEq] at e; subst e; exact ⟨.base (.bl b), by decide⟩
  | int i => simp only [clsD, Option.some.injEq] at e; subst e; exact ⟨.base (.int i), by decide⟩
  | str x => simp only [clsD, Option.some.injEq] at e; subst e; exact ⟨.base (.str x), by decide⟩
  | tup q r =>
    simp only [clsD, Option.some.injEq] at e; subst e
    refine ⟨?_, by decide⟩
    rcases Same.sqT s.fr q with (q | ⟨o, q⟩) | ⟨o, its, n, hk, hc, _⟩
    · exact .base (.tup q)
    · exact .fTuple q
    · exact .kTuple hk hc
  | lst q r => simp only [clsD, Option.some.injEq] at e; subst e; exact ⟨.base (.lst (s.fr _ _ q)), by decide⟩
  | scr q =>
    simp only [clsD, Option.some.injEq] at e; subst e
    refine ⟨?_, by decide⟩
    rcases Same.sqL s.fr q with (q | ⟨o, q⟩) | ⟨o, its, n, hk, hc, _⟩
    · exact .base (.lst q)
    · exact .base (.frz q)
    · exact .kList hk hc
  | dct q r => simp only [clsD, Option.some.injEq] at e; subst e; exact ⟨.base (.dK (s.fr _ _ q)), by decide⟩
  | dcl q r => simp only [clsD, Option.some.injEq] at e; subst e; exact ⟨.fDict (s.fr _ _ q), by decide⟩
  | ref a =>
    simp only [clsD] at e
    split at e <;> simp only [Option.some.injEq, reduceCtorEq] at e
    · rename_i em; subst e; obtain ⟨_, xs, q, r⟩ := s.cell _ _ em; exact ⟨.base (.lst q), by decide⟩
    · rename_i em; subst e; obtain ⟨_, xs, q, r⟩ := s.cell _ _ em; exact ⟨.base (.dK q), by decide⟩
  | _ => simp [clsD] at e
def okT (n : String) : Bool := ["bool", "int", "str", "tuple", "list", "dict"].contains n
theorem kit_sub {K : PySem.W.Frag} {a b : String} (ha : a ∈ ["NoneType", "bool", "int", "str", "tuple", "list", "dict"]) (hb : okT b = true) : PySem.W.kitOne K (.type a) (.type b) = some (subT a b) := by
  have hb' : b ∈ ["bool", "int", "str", "tuple", "list", "dict"] := by unfold okT at hb; simpa using hb
  refine kit_ty ?_
  have all : ∀ a ∈ ["NoneType", "bool", "int", "str", "tuple", "list", "dict"], ∀ b ∈ ["bool", "int", "str", "tuple", "list", "dict"], kitB a b = some (subT a b) := by decide +kernel
  exact all a ha b hb'
theorem kit_any {K : PySem.W.Frag} {a : String} (ha : a ∈ ["NoneType", "bool", "int", "str", "tuple", "list", "dict"]) : ∀ {ns : List String}, ns.all okT = true → PySem.W.kitAny K (.type a) (ns.map Value.type) = some (ns.any (subT a))
  | [], _ => kitAny_nil
  | n :: ns, h => by
    simp only [List.all_cons, Bool.and_eq_true] at h
    refine kitAny_cons (kit_sub ha h.1) (fun e => ?_) (fun e => ?_)
    · rw [List.any_cons, e, Bool.false_or]; exact kit_any ha h.2
    · rw [List.any_cons, e, Bool.true_or]
def fIsi (ns : List String) (d : D) (h : MH) (Q : MQ) : Prop := match clsD h d with
  | some a => Q (.bl (ns.any (subT a))) h
  | none => False
theorem clsV_tys : ∀ ns : List String, Paired ClsV (ns.map V.ty) (ns.map Value.type)
  | [] => .nil
  | n :: ns => .cons (.ty n) (clsV_tys ns)
section
variable {X : Cx} {B : Bs} {a b c e o : Expr} {ta tb tc to : WE} {pos p p2 : Pos} {es : List Expr} {wa : WA} {ua : WT}
theorem m_isi {n : String} (hm : X.mg "isinstance" = none) (hn : okT n = true) (ha : ME X B a ta) (hb : PE X b (tC (.ty n))) (hg : Gl X "isinstance" := by rfl) (hs : starEach [a, b] X.env = (false, eval a X.env) :: starEach [b] X.env := by rfl) (hs2 : starEach [b] X.env = (false, eval b X.env) :: starEach [] X.env := by rfl)
    (hpl : (backTo pos (starEach [b] X.env)).any (·.1) = false := by rfl) : ME X B (.Call (.Name "isinstance" p) [a, b] [] pos) (wUn (fIsi [n]) ta) :=
  pe_mono (pe_callB call_isi hg hm (by decide +kernel) (pa_cons ha (pa_cons hb pa_nil hs2) hs) (by decide) (by decide) hs hpl) fun σ H Q ⟨F, h, σd, Q', l, s, t, c⟩ => ⟨F, h, σd, _, l, s, t, fun F1 H1 h1 x u g1 rx t1 => by
    unfold fIsi at t1
    split at t1
    · rename_i m em
      obtain ⟨ty, hm⟩ := ty_rd g1.sr rx em
      refine ⟨u, .ty n, .type m, .type n, subT m n, rfl, .ty n, ty, kit_sub hm hn, ?_⟩
      simp only [List.any_cons, List.any_nil, Bool.or_false] at t1
      exact c F1 H1 h1 _ _ g1 (.bl _) t1
    · exact t1.elim⟩
theorem m_isiT {ns : List String} {cs : List Expr} {k : Nat} (hm : X.mg "isinstance" = none) (hn : ns.all okT = true) (hz : ns.length ≤ 100) (ha : ME X B a ta) (hb : PA X cs (fun _ H Q => Q (ns.map V.ty) H)) (hg : Gl X "isinstance" := by rfl) (hs : starEach [a, .Tuple cs k p2] X.env = (false, eval a X.env) :: starEach [.Tuple cs k p2] X.env := by rfl)
    (hs2 : starEach [.Tuple cs k p2] X.env = (false, eval (.Tuple cs k p2) X.env) :: starEach [] X.env := by rfl) (hpl : (backTo pos (starEach [.Tuple cs k p2] X.env)).any (·.1) = false := by rfl) : ME X B (.Call (.Name "isinstance" p) [a, .Tuple cs k p2] [] pos) (wUn (fIsi ns) ta) :=
  pe_mono (pe_callB call_isiT hg hm (by decide +kernel) (pa_cons ha (pa_cons (pe_tup hb) pa_nil hs2) hs) (by decide) (by decide) hs hpl) fun σ H Q ⟨F, h, σd, Q', l, s, t, c⟩ => ⟨F, h, σd, _, l, s, t, fun F1 H1 h1 x u g1 rx t1 => by
    unfold fIsi at t1
    split at t1
    · rename_i m em
      obtain ⟨ty, hm⟩ := ty_rd g1.sr rx em
      refine ⟨by rw [List.length_map]; exact Nat.le_trans hz (by decide), fun q hq => ?_⟩
      have g2 := Go.settled (o := .tup (ns.map V.ty)) g1.sr hq
      refine ⟨u, q, ns.map V.ty, .type m, ns.map Value.type, _, rfl, upd_same, clsV_tys ns, (ty_rd g2.sr (rx.mono g2.ss) em).1, kit_any hm hn, ?_⟩
      exact c _ _ h1 _ _ (g1.trans g2) (.bl _) t1
    · exact t1.elim⟩
theorem pa_tys_nil : PA X [] (fun _ H Q => Q (([] : List String).map V.ty) H) := pa_mono pa_nil fun _ _ _ q => q
theorem pa_tys {x : Str} {n : String} {ns : List String} {cs : List Expr} {pos : Pos} (hm : X.mg x = none) (hv : bootBuiltins x = some (.type n)) (hr : PA X cs (fun _ H Q => Q (ns.map V.ty) H)) (hg : Gl X x := by rfl) (hn : x ≠ "__name__" := by decide) (hd : (x == ("__debug__" : Str)) = false := by decide)
    (hs : starEach (.Name x pos :: cs) X.env = (false, eval (.Name x pos) X.env) :: starEach cs X.env := by rfl) : PA X (.Name x pos :: cs) (fun _ H Q => Q ((n :: ns).map V.ty) H) := pa_mono (pa_cons (pe_bltn (v := .ty n) hg hm hv rfl hn hd) hr hs) fun _ _ _ q => q
def MtD (K : PySem.W.Frag) (r : V → List V → Hp → VK → Prop) (f : D → List D → MH → MQ → Prop) : Prop := ∀ F H h x u ds vs Q' Q, SR K F H h → RD K F x u → RDs K F ds vs → f x ds h Q' → ContV K F H h Q' Q → r u vs H Q
def wMt (f : D → List D → MH → MQ → Prop) (to : WE) (t : WA) : WE := fun σ h Q => to σ h fun x h1 => (lsOf h1 x).isSome = true ∧ t σ h1 fun ds h2 => f x ds h2 Q
theorem lift_mt {r : V → List V → Hp → VK → Prop} {f : D → List D → MH → MQ → Prop} (hf : MtD X.K r f) : ∀ σ H Q, lift X.K B (wMt f to wa) σ H Q → tBM X.K "list" r (lift X.K B to) (liftA X.K B wa) σ H Q := fun σ H Q ⟨F, h, σd, Q', l, s, t, c⟩ =>
  ⟨F, h, σd, _, l, s, t, fun F1 H1 h1 x u g1 rx ⟨t0, t1⟩ => by
    obtain ⟨xs, ex⟩ := Option.isSome_iff_exists.mp t0
    obtain ⟨p, ys, rfl, q, r⟩ := ls_rd g1.sr rx ex
    exact ⟨.inl ⟨rfl, ys, SqL.of q⟩, F1, h1, σd, _, l.mono g1.ss, s.go g1, t1, fun F2 H2 h2 ds vs g2 rs t2 => hf F2 H2 h2 x _ ds vs Q' Q g2.sr (rx.mono g2.ss) rs t2 (c.go (g1.trans g2))⟩⟩
def fAppend (x : D) (ds : List D) (h : MH) (Q : MQ) : Prop := match x, ds with
  | .ref a, [d] => match h a with
    | some (.lst xs) => xs.length < sizeLine ∧ Q .non (mupd h a (.lst (xs ++ [d])))
    | _ => False
  | _, _ => False
theorem fAppend_d {K : PySem.W.Frag} : MtD K rAppend fAppend := fun F H h x u ds vs Q' Q s rx rs t c => by
  unfold fAppend at t
  split at t
  · rename_i a d
    cases rx
    obtain ⟨v, rfl, r⟩ := rds_one rs
    split at t
    · rename_i xs em
      obtain ⟨_, ys, q, r2⟩ := s.cell _ _ em
      exact ⟨a, ys, v, rfl, rfl, q, by rw [← r2.length]; exact t.1, c _ _ _ _ _ (Go.write (c := .lst (xs ++ [d])) s em ⟨_, upd_same, r2.append (.cons r .nil)⟩) .non t.2⟩
    · exact t.elim
  · exact t.elim
def fExtend (x : D) (ds : List D) (h : MH) (Q : MQ) : Prop := match x, ds with
  | .ref a, [d] => match h a, lsOf h d with
    | some (.lst xs), some zs => xs.length + zs.length ≤ sizeLine ∧ Q .non (mupd h a (.lst (xs ++ zs)))
    | _, _ => False
  | _, _ => False
theorem fExtend_d {K : PySem.W.Frag} : MtD K rExtend fExtend := fun F H h x u ds vs Q' Q s rx rs t c => by
  unfold fExtend at t
  split at t
  · rename_i a d
    cases rx
    obtain ⟨v, rfl, r⟩ := rds_one rs
    split at t
    · rename_i xs zs em ez
      obtain ⟨_, ys, q, r2⟩ := s.cell _ _ em
      obtain ⟨b, ws, rfl, q3, r3⟩ := ls_rd s r ez
      exact ⟨a, b, ys, ws, rfl, rfl, q, q3, by rw [← r2.length, ← r3.length]; exact t.1, c _ _ _ _ _ (Go.write (c := .lst (xs ++ zs)) s em ⟨_, upd_same, r2.append r3⟩) .non t.2⟩
    · exact t.elim
  · exact t.elim
theorem m_mt {name : Str} {id : String} {apos : Pos} {r : V → List V → Hp → VK → Prop} {f : D → List D → MH → MQ → Prop} (slot : Slot "list" name id) (hty : typeOf (.builtin id) = pure (.type "method_descriptor")) (hm : MtR X id r) (hf : MtD X.K r f) (ho : ME X B o to) (ha : MA X B (e :: es) wa)
    (hbase : attributeBase o name X.env (eval o X.env) = eval o X.env := by rfl)
    (hfew : ((backTo pos (starEach (e :: es) X.env)).all (fun x => !x.1) && (backToKw pos (keywordEach [] X.env)).all (fun x => x.1.isSome)
      && decide ((e :: es).length + ([] : List Keyword).length + (if ([] : List Keyword).isEmpty then 0 else 1) < 30)) = true := by rfl)
    (hline : (apos.endLine == pos.line) = true := by rfl) (hs : starEach (e :: es) X.env = (false, eval e X.env) :: starEach es X.env := by rfl) (hplain : (backTo pos (starEach es X.env)).any (·.1) = false := by rfl) :
    ME X B (.Call (.Attribute o name apos) (e :: es) [] pos) (wMt f to wa) := pe_mono (pe_bm PySem.F.plainAttrs_list slot hty hm ho ha hbase hfew hline hs hplain) (lift_mt hf)
abbrev WG := D → MSt → MH → (MSt → MH → Prop) → Prop
abbrev WGs := List D → MSt → MH → (MSt → MH → Prop) → Prop
def liftG (K : PySem.W.Frag) (B : Bs) (g : WG) : TG := fun v σ H Q => ∃ F h σd d Q', LR K F σd σ ∧ Bd K B F H h ∧ RD K F d v ∧ g d σd h Q' ∧ ContS K F H h Q' Q
def liftGs (K : PySem.W.Frag) (B : Bs) (g : WGs) : TGs := fun vs σ H Q => ∃ F h σd ds Q', LR K F σd σ ∧ Bd K B F H h ∧ RDs K F ds vs ∧ g ds σd h Q' ∧ ContS K F H h Q' Q
abbrev MG (X : Cx) (B : Bs) (tg : Expr) (g : WG) : Prop := PG X tg (liftG X.K B g)
abbrev MGs (X : Cx) (B : Bs) (tgs : List Expr) (g : WGs) : Prop := PGs X tgs (liftGs X.K B g)
theorem pg_mono {tg : Expr} {t t' : TG} (h : PG X tg t) (m : ∀ v σ H Q, t' v σ H Q → t v σ H Q) : PG X tg t' := ⟨fun pins s σ H v u Q I r q => h.run pins s σ H v u Q I r (m v σ H Q q)⟩
theorem pgs_mono {tg : List Expr} {t t' : TGs} (h : PGs X tg t) (m : ∀ v σ H Q, t' v σ H Q → t v σ H Q) : PGs X tg t' := ⟨fun pins s σ H v u Q I r q => h.run pins s σ H v u Q I r (m v σ H Q q)⟩
def gN (i : Nat) : WG := fun d σ h Q => Q (σ.set i (some d)) h
theorem mg_name (i : Nat) {x : Str} (hN : X.N.Nodup) (hi : X.N[i]? = some x := by rfl) (hx : Loc X.env.scope x := by first | exact Or.inl rfl | exact Or.inr rfl) (hf : X.fn x = true ∨ X.env.scope.names.lookup x = some .local := by first | exact .inl rfl | exact .inr rfl | assumption) : MG X B (.Name x pos) (gN i) :=
  pg_mono (pg_name hN hi hx hf) fun v σ H Q ⟨F, h, σd, d, Q', l, s, r, t, c⟩ => c F H h _ _ (Go.refl s) (l.set r i) t
def gZ : WGs := fun ds σ h Q => match ds with
  | [] => Q σ h
  | _ => False
def gC (g : WG) (gs : WGs) : WGs := fun ds σ h Q => match ds with
  | d :: r => g d σ h fun σ1 h1 => gs r σ1 h1 Q
  | [] => False
theorem mgs_nil : MGs X B [] gZ := pgs_mono pgs_nil fun v σ H Q ⟨F, h, σd, d, Q', l, s, r, t, c⟩ => by
  cases r with
  | nil => exact ⟨rfl, c F H h _ _ (Go.refl s) l t⟩
  | cons _ _ => exact t.elim
theorem mgs_cons {g : WG} {gs : WGs} (h1 : MG X B e g) (h2 : MGs X B es gs) (hs : (assignEach (e :: es) X.env).map (·.2) = assign e X.env :: (assignEach es X.env).map (·.2) := by rfl) : MGs X B (e :: es) (gC g gs) :=
  pgs_mono (pgs_cons h1 h2 hs) fun v σ H Q ⟨F, h, σd, d, Q', l, s, r, t, c⟩ => by
    cases r with
    | nil => exact t.elim
    | cons q r =>
      exact ⟨_, _, rfl, F, h, σd, _, _, l, s, q, t, fun F1 H1 h1 σ1 τ1 g1 l1 t1 => ⟨F1, h1, σ1, _, Q', l1, s.go g1, r.mono g1.ss, t1, c.go g1⟩⟩
def gT (n : Nat) (gs : WGs) : WG := fun d σ h Q => match d with
  | .tup ds => ds.length = n ∧ gs ds σ h Q
  | _ => False
theorem mg_tup {k n : Nat} {gs : WGs} (hc : X.calm = true) (h : MGs X B es gs) (hn : (assignEach es X.env).length = n := by rfl) (hst : (assignEach es X.env).findIdx? (·.1) = none := by rfl) : MG X B (.Tuple es k pos) (gT n gs) :=
  pg_mono (pg_tup hc h hn hst) fun v σ H Q ⟨F, h, σd, d, Q', l, s, r, t, c⟩ => by
    cases r with
    | tup q r => exact ⟨_, _, rfl, Same.sqT s.fr q, by rw [← r.length]; exact t.1, F, h, σd, _, Q', l, s, r, t.2, c⟩
    | _ => exact t.elim
def gSt (to ti : WE) : WG := fun d σ h Q => to σ h fun o h1 => ti σ h1 fun i h2 => match o, i with
  | .ref a, .int k => match h2 a with
    | some (.lst xs) => match ixN xs.length k with
      | some j => Q σ (mupd h2 a (.lst (xs.set j d)))
      | none => False
    | _ => False
  | _, _ => False
theorem mg_sub {i : Expr} {ti : WE} (ho : ME X B o to) (hi : ME X B i ti)
    (ha : ∀ v, assign (.Subscript o i pos) X.env v = (do
      let ov ← holding [v] (eval o X.env)
      let iv ← holding [v, ov] (eval i X.env)
      standAt pos
      holding [v, ov, iv] (setItem ov iv v)
      release [v, ov, iv] []) := by intro _; rfl) : MG X B (.Subscript o i pos) (gSt to ti) :=
  pg_mono (pg_sub ho hi set_list ha) fun v σ H Q ⟨F, h, σd, d, Q', l, s, r, t, c⟩ => ⟨F, h, σd, _, l, s, t, fun F1 H1 h1 x u g1 rx t1 => ⟨F1, h1, σd, _, l.mono g1.ss, s.go g1, t1, fun F2 H2 h2 y w g2 ry t2 => by
    split at t2
    · cases rx; cases ry
      split at t2
      · rename_i a k _ xs em
        split at t2
        · rename_i j ej
          obtain ⟨_, ys, q, r2⟩ := g2.sr.cell _ _ em
          refine ⟨a, ys, k, j, rfl, rfl, q, by rw [← r2.length]; exact ej, ?_⟩
          have rd : RD X.K F2 d v := (r.mono g1.ss).mono g2.ss
          exact c _ _ _ _ _ ((g1.trans g2).trans (Go.write (c := .lst (xs.set j d)) g2.sr em ⟨_, upd_same, r2.set rd j⟩)) (l.mono (g1.trans g2).ss) t2
        · exact t2.elim
      · exact t2.elim
    · exact t2.elim⟩⟩
variable {st : Stmt} {sts : List Stmt} {t u : WS}
def wNext : WS := fun D σ h => D.nx σ h
def wSeq (t u : WS) : WS := fun D σ h => t { D with nx := u D } σ h
theorem ms_nil : MSs X B [] wNext := pss_mono pss_nil fun E σ H ⟨F, h, σd, D', l, s, t, c⟩ => c.nx F H h _ _ (Go.refl s) l t
theorem ms_cons (h1 : MS X B st t) (h2 : MSs X B sts u) : MSs X B (st :: sts) (wSeq t u) :=
  pss_mono (pss_cons h1 h2) fun E σ H ⟨F, h, σd, D', l, s, t, c⟩ => ⟨F, h, σd, _, l, s, t, ⟨fun F1 H1 h1 σ1 τ1 g1 l1 t1 => ⟨F1, h1, σ1, D', l1, s.go g1, t1, c.go g1⟩, c.rt, c.bk, c.ct⟩⟩
theorem ms_one (h1 : MS X B st t) : MSs X B [st] t := pss_one h1
def wBreak : WS := fun D σ h => D.bk σ h
def wCont : WS := fun D σ h => D.ct σ h
def wDrop (t : WE) : WS := fun D σ h => t σ h fun _ h1 => D.nx σ h1
theorem ms_expr (he : ME X B e ta) (hs : swapsWith e none pos.line X.env = pure false := by rfl) : MS X B (.Expr e pos) (wDrop ta) :=
  ps_mono (ps_expr he hs) fun E σ H ⟨F, h, σd, D', l, s, t, c⟩ => ⟨F, h, σd, _, l, s, t, fun F1 H1 h1 x u g1 rx t1 => c.nx F1 H1 h1 _ _ g1 (l.mono g1.ss) t1⟩
def wRet (t : WE) : WS := fun D σ h => t σ h D.rt
theorem ms_ret (he : ME X B e ta) : MS X B (.Return (some e) pos) (wRet ta) :=
  ps_mono (ps_ret he) fun E σ H ⟨F, h, σd, D', l, s, t, c⟩ => ⟨F, h, σd, _, l, s, t, c.rt⟩
def wRetN : WS := fun D _ h => D.rt .non h
def wIfS (c : WT) (t u : WS) : WS := fun D σ h => c σ h fun b h1 => if b = true then t D σ h1 else u D σ h1
theorem ms_if {c : Expr} {ss rs : List Stmt} (hc : MT X B c ua) (ha : MSs X B ss t) (hb : MSs X B rs u) : MS X B (.If c ss rs pos) (wIfS ua t u) :=
  ps_mono (ps_if hc ha hb) fun E σ H ⟨F, h, σd, D', l, s, t, c⟩ => ⟨F, h, σd, _, l, s, t, fun F1 H1 h1 k g1 t1 => by
    cases k with
    | true => rw [if_pos rfl] at t1 ⊢; exact ⟨F1, h1, σd, D', l.mono g1.ss, s.go g1, t1, c.go g1⟩
    | false => rw [if_neg Bool.false_ne_true] at t1 ⊢; exact ⟨F1, h1, σd, D', l.mono g1.ss, s.go g1, t1, c.go g1⟩⟩
def wSet (i : Nat) (t : WE) : WS := fun D σ h => t σ h fun d h1 => D.nx (σ.set i (some d)) h1
theorem lift_set {i : Nat} : ∀ E σ H, liftS X.K B (wSet i ta) E σ H → tAsg (lift X.K B ta) (gName i) E σ H := fun E σ H ⟨F, h, σd, D', l, s, t, c⟩ =>
  ⟨F, h, σd, _, l, s, t, fun F1 H1 h1 x u g1 rx t1 => c.nx F1 H1 h1 _ _ g1 ((l.mono g1.ss).set rx i) t1⟩
theorem ms_set (i : Nat) {x : Str} {pos' : Pos} (hN : X.N.Nodup) (he : ME X B e ta) (hi : X.N[i]? = some x := by rfl) (hx : Loc X.env.scope x := by first | exact Or.inl rfl | exact Or.inr rfl) (hs : swapsWith e (some (.Name x pos')) pos.line X.env = pure false := by rfl)
    (hf : X.fn x = true ∨ X.env.scope.names.lookup x = some .local := by first | exact .inl rfl | exact .inr rfl | assumption) : MS X B (.Assign [.Name x pos'] e pos) (wSet i ta) := ps_mono (ps_set hN hi hx he hs hf) lift_set
def wAsg (t : WE) (g : WG) : WS := fun D σ h => t σ h fun d h1 => g d σ h1 D.nx
theorem ms_asg {tg : Expr} {g : WG} (he : ME X B e ta) (hg : MG X B tg g) (hs : swapsWithSole [tg] e pos.line X.env = pure false := by rfl) (hw : swappedStores [tg] e X.env = pure none := by rfl)
    (h1 : (assignEach [tg] X.env).map (·.2) = [assign tg X.env] := by rfl) : MS X B (.Assign [tg] e pos) (wAsg ta g) :=
  ps_mono (ps_asg he hg hs hw h1) fun E σ H ⟨F, h, σd, D', l, s, t, c⟩ => ⟨F, h, σd, _, l, s, t, fun F1 H1 h1 x u g1 rx t1 => ⟨F1, h1, σd, x, _, l.mono g1.ss, s.go g1, rx, t1, fun F2 H2 h2 σ2 τ2 g2 l2 t2 => c.nx F2 H2 h2 _ _ (g1.trans g2) l2 t2⟩⟩
def wPar (i j : Nat) (t : WA) : WS := fun D σ h => t σ h fun ds h1 => match ds with
  | [d, e] => D.nx ((σ.set i (some d)).set j (some e)) h1
  | _ => False
theorem ms_par (i j : Nat) {x y : Str} {a b : Expr} {px py pt : Pos} {kt k2 pt2} (hc : X.calm = true) (hN : X.N.Nodup) (ha : MA X B [a, b] wa) (hi : X.N[i]? = some x := by rfl) (hj : X.N[j]? = some y := by rfl) (hij : i ≠ j := by decide)
    (hx : X.env.scope.names.lookup x = some .local := by rfl) (hy : X.env.scope.names.lookup y = some .local := by rfl)
    (hw : swappedStores [.Tuple [.Name x px, .Name y py] kt pt] (.Tuple [a, b] k2 pt2) X.env = pure (some [x, y]) := by rfl)
    (hs : swapsWithSole [.Tuple [.Name x px, .Name y py] kt pt] (.Tuple [a, b] k2 pt2) pos.line X.env = pure false := by rfl) :
    MS X B (.Assign [.Tuple [.Name x px, .Name y py] kt pt] (.Tuple [a, b] k2 pt2) pos) (wPar i j wa) :=
  ps_mono (ps_par hc hN hi hj hij hx hy ha hw hs) fun E σ H ⟨F, h, σd, D', l, s, t, c⟩ => ⟨F, h, σd, _, l, s, t, fun F1 H1 h1 ds vs g1 rs t1 => by
    split at t1
    · obtain ⟨v, w, rfl, r1, r2⟩ := rds_two rs
      exact ⟨v, w, rfl, c.nx F1 H1 h1 _ _ g1 (((l.mono g1.ss).set r1 i).set r2 j) t1⟩
    · exact t1.elim⟩
def wAug (i : Nat) (t : WE) (g : Int → Int → Int) : WS := fun D σ h => match σ[i]? with
  | some (some (.int x)) => t σ h fun d h1 => match d with
    | .int y => D.nx (σ.set i (some (.int (g x y)))) h1
    | _ => False
  | _ => False
def wFz (i : Nat) (t : WS) : WS := fun D σ h => match σ[i]? with
  | some (some (.ref a)) => match h a with
    | some (.lst ds) => t D (σ.set i (some (.lst ds))) (mdel h a)
    | _ => False
  | some (some (.lst _)) => t D σ h
  | _ => False
theorem LR.setD {K : PySem.W.Frag} {F : Hp} {σd : MSt} {σ : L2.St} {d : D} {v : V} {i : Nat} (l : LR K F σd σ) (r : RD K F d v) (e : σ[i]? = some (some v)) : LR K F (σd.set i (some d)) σ := by
  have h := l.set r i
  have z : σ.set i (some v) = σ := by
    apply List.ext_getElem?
    intro j
    rw [List.getElem?_set]
    split
    · rename_i hij; subst hij
      split
      · exact e.symm
      · rename_i hl; rw [List.getElem?_eq_none_iff.mpr (by omega)] at e; cases e
    · rfl
  rw [z] at h
  exact h
theorem ms_fz (i : Nat) (h : MSs X B sts t) : MSs X B sts (wFz i t) := pss_mono h fun E σ H ⟨F, h, σd, D', l, s, t, c⟩ => by
  unfold wFz at t
  split at t
  · rename_i a ea
    split at t
    · rename_i ds em
      obtain ⟨v, ev, rv⟩ := l.get _ _ ea
      cases rv
      obtain ⟨_, xs, q, r⟩ := s.cell _ _ em
      have g := Go.settle s.sr em q
      exact ⟨_, _, _, D', (l.mono g.ss).setD (.lst upd_same (r.mono g.ss)) ev, s.go g, t, c.go g⟩
    · exact t.elim
  · exact ⟨F, h, σd, D', l, s, t, c⟩
  · exact t.elim
end
end BP

set_option maxRecDepth 100000
set_option maxHeartbeats 4000000
namespace BP
open PySem PySem.Spec PyProof.Rows L2

set_option maxHeartbeats 4000000 in
theorem meets_enum1 {v : Value} {o : Obj} {H : Heap → Prop} (B : Begins v o H) :
    Meets (Builtin.«enumerate.__new__» ⟨[.type "enumerate", v], []⟩) (fun _ R s => H s.heap ∧
      R (.ok (.ret (.ref (s.heap.push o).objs.size))) { s with heap := (s.heap.push o).push { cls := .type "enumerate", data := .fields #[.none, .bool false, .ref s.heap.objs.size, rawInt 0, .none, .none] } }) :=
  .of_wp fun prog w A R s h => by
    obtain ⟨hp, g, d, tk, os⟩ := s; obtain ⟨h1, h⟩ := h
    have hsub := sub_enumerate
    have q1 : ∀ {A' : Around} {E : Value → Shared → Prop} {Q : Value → Shared → Prop}, Q (.ref hp.objs.size) ⟨hp.push o, g, d, tk, os⟩ → wpAny (model prog w) A' (pyIter v) Q E ⟨hp, g, d, tk, os⟩ :=
      fun q => B.iter prog w _ _ ⟨hp, g, d, tk, os⟩ _ h1 q
    wp_walk using q1
    refine wpAny_stack_any fun st => wpAny_pure ?_
    split
    · rename_i c _ _ _ _ _
      cases (c == Value.type "enumerate")
      · wp_walk using q1
        exact ⟨_, rfl, h⟩
      · wp_walk using q1
        exact ⟨_, rfl, h⟩
    · wp_walk using q1
      exact ⟨_, rfl, h⟩
theorem enum_begins1 {prog : Program} {w : World} {A : Around} {E : Value → Shared → Prop} {s : Shared} {v : Value} {o : Obj} {H : Heap → Prop} {Q : Value → Shared → Prop} (B : Begins v o H) (h1 : H s.heap)
    (h : ∀ h', IsEnum h' (s.heap.objs.size + 1) s.heap.objs.size 0 .none → h'.get? s.heap.objs.size = some o → h'.objs.size = s.heap.objs.size + 2 →
      (∀ b o, s.heap.get? b = some o → h'.get? b = some o) → Q (.ref (s.heap.objs.size + 1)) { s with heap := h' }) :
    wpAny (model prog w) A (call (.type "enumerate") [v]) Q E s := by
  refine callType_new F.called_enumerate (by decide) (F.typeCall_enumerate_1 _) (F.newCall_enumerate_1 _) (fun obj => F.args_object_init_2 obj _) F.entry_enumerate_new
    (meets_enum1 B) ⟨h1, ?_⟩
  have hz : (s.heap.push o).objs.size = s.heap.objs.size + 1 := Heap.size_push ..
  show _ ∧ _
  rw [hz]
  have he : IsEnum ((s.heap.push o).push { cls := .type "enumerate", data := .fields #[.none, .bool false, .ref s.heap.objs.size, rawInt 0, .none, .none] }) (s.heap.objs.size + 1) s.heap.objs.size 0 .none := by
    have := Heap.get?_push_size (s.heap.push o) (o := { cls := .type "enumerate", data := .fields #[.none, .bool false, .ref s.heap.objs.size, rawInt 0, .none, .none] }) rfl
    rw [hz] at this; exact this
  refine ⟨⟨_, he, rfl⟩, h _ he (Heap.get?_push_of_some _ (Heap.get?_push_size _ B.free)) (by rw [Heap.size_push, hz]) fun b o x => Heap.get?_push_of_some _ (Heap.get?_push_of_some _ x)⟩

def SqF (K : PySem.W.Frag) (k : Bool) (F : Hp) (a : Addr) (xs : List V) : Prop := if k = true then SqL K F a xs else SqU K F a xs
def Sq (K : PySem.W.Frag) (k : Bool) (H : Hp) (a : Addr) (xs : List V) : Prop := if k = true then SqL K H a xs else SqT K H a xs
def IsSq (k : Bool) (h : Heap) (a : Addr) (its : Array Value) : Prop := if k = true then h.IsList a its else h.IsTuple a its
def IsItr (k : Bool) (h : Heap) (it a : Addr) (i : Nat) : Prop := if k = true then h.IsListIter it a i else h.IsTupleIter it a i
theorem Inv.sq {X : Cx} {pins : List (Addr × Obj)} {σ : L2.St} {H : Hp} {s : Shared} {k : Bool} {a : Addr} {xs : List V} (I : Inv X pins σ H s) (h : Sq X.K k H a xs) : ∃ its : List Value, Vals xs its ∧ IsSq k s.heap a its.toArray ∧ xs.length ≤ sizeLine := by
  cases k with
  | true => obtain ⟨its, r, p, z⟩ := I.list h; exact ⟨its, r, p.isList, z⟩
  | false => obtain ⟨its, r, p, z⟩ := I.tuple h; exact ⟨its, r, p, z⟩
theorem Inv.sq_inj {X : Cx} {pins : List (Addr × Obj)} {σ : L2.St} {H : Hp} {s : Shared} {k : Bool} {a : Addr} {xs ys : List V} (I : Inv X pins σ H s) (h : Sq X.K k H a xs) (h' : Sq X.K k H a ys) : xs = ys := by
  cases k with
  | true => exact I.list_inj h h'
  | false => exact I.tuple_inj h h'
theorem IsItr.obj {k : Bool} {h : Heap} {it a : Addr} {i : Nat} (x : IsItr k h it a i) : ∃ o, h.get? it = some o ∧ ∀ v, o.data ≠ .cell v := by
  cases k with
  | true => obtain ⟨o, e, c, d⟩ := (show h.IsListIter it a i from x); exact ⟨o, e, fun v z => by rw [d] at z; cases z⟩
  | false => obtain ⟨o, e, c, d⟩ := (show h.IsTupleIter it a i from x); exact ⟨o, e, fun v z => by rw [d] at z; cases z⟩
theorem IsItr.at {k : Bool} {h h' : Heap} {it a : Addr} {i : Nat} (x : IsItr k h it a i) (q : ∀ o, h.get? it = some o → h'.get? it = some o) : IsItr k h' it a i := by
  cases k with
  | true => exact Heap.IsListIter.at (show h.IsListIter it a i from x) q
  | false => exact Heap.IsTupleIter.at (show h.IsTupleIter it a i from x) q
theorem draws_of {prog : Program} {w : World} {A : Around} (hh : A.handled = none) (k : Bool) (it a : Addr) (hne : a ≠ it) (its : Array Value) : Draws prog w A it [it, a] its.size (fun i v => its[i]? = some v) (fun i h => IsItr k h it a i ∧ IsSq k h a its) := by
  cases k with
  | true => exact Draws.list hh it a hne its
  | false => exact Draws.tuple hh it a hne its
def ItE (K : PySem.W.Frag) (k : Bool) (a : Addr) (k0 : Int) : It :=
  ⟨fun i H => ∃ (xs : List V) (x : V), Sq K k H a xs ∧ xs[i]? = some x, fun i H v H' => ∃ T x, v = .ref T ∧ H T = none ∧ H' = upd H T (.tup [.int (k0 + (i : Nat)), x]) ∧ ∀ xs, Sq K k H a xs → xs[i]? = some x, fun i H => ∃ xs : List V, Sq K k H a xs ∧ xs.length = i⟩
theorem turn_enumA {P : Program} {w : World} {K : PySem.W.Frag} {elts : List Expr} {kk : Nat} {tpos : Pos} (k : Bool) (k0 : Int) (a e it : Addr) :
    Turn P w K (.Tuple elts kk tpos) (ItE K k a k0) [e, it] e (fun i h => (∃ old, IsEnum h e it (k0 + ((i : Nat) : Int)) old) ∧ IsItr k h it a i ∧ e ≠ it ∧ a ≠ it ∧ a ≠ e) where
  mem := by simp
  obj := fun i h st b hb => by
    obtain ⟨⟨old, he⟩, hi, _⟩ := st
    have e' : b = e ∨ b = it := by simpa using hb
    rcases e' with z | z
    · rw [z]; exact ⟨_, he, fun v q => nomatch q⟩
    · rw [z]; exact hi.obj
  keep := fun i h h' st kp => let ⟨⟨old, he⟩, hi, hne⟩ := st; ⟨⟨old, kp e (by simp) _ he⟩, hi.at fun o q => kp it (by simp) o q, hne⟩
  item := by
    intro X hP hw hK hc i pins s σ H E I hf st hg
    subst hP hw hK
    obtain ⟨⟨old, he⟩, hit, hne, ha1, ha2⟩ := st
    obtain ⟨xs, x, hq, hx⟩ := hg
    obtain ⟨its, rv, p, hz⟩ := Inv.sq I hq
    obtain ⟨u, hu, ru⟩ := rv.get hx
    have hi : i < its.toArray.size := by rw [List.size_toArray]; exact (List.getElem?_eq_some_iff.mp hu).1
    have hin : ∀ b ∈ [e, it], b < s.heap.objs.size := fun b hb => by
      have e' : b = e ∨ b = it := by simpa using hb
      rcases e' with z | z
      · rw [z]; exact Heap.lt_size he
      · rw [z]; obtain ⟨o, q, _⟩ := hit.obj; exact Heap.lt_size q
    have D := draws_of (prog := X.prog) (w := X.w) (A := X.A.in1) (I.ok.hd hc) k it a ha1 its.toArray
    have G := GoesN.enumFrom (A := X.A) (elts := elts) (x1 := kk) (pos := tpos) k0 D e hne (by simp [hne, Ne.symm ha2]) (by simp)
    refine thn (G.goes i s (fun v s2 => ∃ y H', Inv X pins σ H' s2 ∧ RelV y v ∧ (ItE X.K k a k0).yld i H y H' ∧ ((∃ old, IsEnum s2.heap e it (k0 + (((i + 1 : Nat)) : Int)) old) ∧ IsItr k s2.heap it a (i + 1) ∧ e ≠ it ∧ a ≠ it ∧ a ≠ e) ∧ ∀ b ∈ [e, it], H' b = none) E hi ⟨⟨old, he⟩, hit, p⟩ fun v h' tk hY st' hk htk => ?_) fun r s1 ⟨v, hr, hw⟩ => ⟨v, hr, hw⟩
    obtain ⟨T, t, y, rfl, hT, hy, hTup⟩ := hY
    obtain ⟨he', hit', _⟩ := st'
    have ey : y = u := by
      have : its.toArray[i]? = some u := by simpa using hu
      rw [this] at hy; exact (Option.some.inj hy).symm
    subst ey
    have new : ObjOk X.prog X.w (upd H T (.tup [.int (k0 + (i : Nat)), x])) h' T (.tup [.int (k0 + (i : Nat)), x]) :=
      ⟨by show 2 ≤ sizeLine; decide, [.int (k0 + (i : Int)) t, y], .cons ⟨_, rfl⟩ (.cons ru .nil), hTup⟩
    have I1 : Inv X pins σ (upd H T (.tup [.int (k0 + (i : Nat)), x])) { s with heap := h', toks := tk } := I.turnedNew (ch := [e, it]) (fun b ob hb q => hk b ob hb q) hf hT new
    refine ⟨.ref T, _, I1, rfl, ⟨T, x, rfl, I.hok.fresh hT, rfl, fun ys hys => by rw [Inv.sq_inj I hys hq]; exact hx⟩, ⟨he', hit', hne, ha1, ha2⟩, fun b hb => ?_⟩
    rw [upd_ne (Nat.ne_of_lt (Nat.lt_of_lt_of_le (hin b hb) hT))]
    exact (hf b hb).1
  done := by
    intro X hP hw hK hc i pins s σ H E I hf st hg
    subst hP hw hK
    obtain ⟨⟨old, he⟩, hit, hne, ha1, ha2⟩ := st
    obtain ⟨xs, hq, hx⟩ := hg
    obtain ⟨its, rv, p, hz⟩ := Inv.sq I hq
    have D := draws_of (prog := X.prog) (w := X.w) (A := X.A.in1) (I.ok.hd hc) k it a ha1 its.toArray
    have G := GoesN.enumFrom (A := X.A) (elts := elts) (x1 := kk) (pos := tpos) k0 D e hne (by simp [hne, Ne.symm ha2]) (by simp)
    have hn : its.toArray.size = i := by rw [List.size_toArray, ← rv.length, hx]
    rw [hn] at G
    exact G.stops s (fun s1 => Inv X pins σ H s1) E ⟨⟨old, he⟩, hit, p⟩ fun h' tk hk htk => I.turnedL (ch := [e, it]) hk hf
  self := fun A i s Q E st h => let ⟨⟨_, he⟩, _⟩ := st; wpAny_pyIter_enum he h
def iEnumA (K : PySem.W.Frag) (ta : TA) : TI := fun σ H R => ta σ H fun vs H1 => ∃ k a xs, vs = [.ref a] ∧ Sq K k H1 a xs ∧ R (ItE K k a 0) H1
theorem IsSq.lt {k : Bool} {h : Heap} {a : Addr} {its : Array Value} (x : IsSq k h a its) : a < h.objs.size := by
  cases k with
  | true => obtain ⟨o, e, _⟩ := (show h.IsList a its from x); exact Heap.lt_size e
  | false => obtain ⟨o, e, _⟩ := (show h.IsTuple a its from x); exact Heap.lt_size e
def itObj (k : Bool) (a : Addr) : Obj := if k = true then { cls := .type "list_iterator", data := .fields #[.ref a, .int 0 0] } else { cls := .type "tuple_iterator", data := .fields #[.ref a, .int 0 0] }
theorem begins_of (k : Bool) (a : Addr) (its : Array Value) : Begins (.ref a) (itObj k a) fun h => IsSq k h a its := by
  cases k with
  | true => exact begins_list a its
  | false => exact begins_tuple a its
theorem itObj_is {k : Bool} {h : Heap} {it a : Addr} (e : h.get? it = some (itObj k a)) : IsItr k h it a 0 := by
  cases k with
  | true => exact ⟨_, e, rfl, rfl⟩
  | false => exact ⟨_, e, rfl, rfl⟩
theorem enum_pie {X : Cx} {pins : List (Addr × Obj)} {σ : L2.St} {H : Hp} {s : Shared} {R : It → Hp → Prop} {E : Value → Shared → Prop} {elts : List Expr} {kk : Nat} {tpos : Pos} {k : Bool} {a : Addr} {k0 : Int} {its : Array Value} {h' : Heap} (I : Inv X pins σ H s) (hs : IsSq k s.heap a its)
    (he : IsEnum h' (s.heap.objs.size + 1) s.heap.objs.size k0 .none) (hit : h'.get? s.heap.objs.size = some (itObj k a)) (hk : ∀ b o, s.heap.get? b = some o → h'.get? b = some o) (q : R (ItE X.K k a k0) H) :
    wpAny (model X.prog X.w) X.A (pyIter (.ref (s.heap.objs.size + 1))) (PIE X pins σ (.Tuple elts kk tpos) R) E { s with heap := h' } := by
  refine wpAny_pyIter_enum he ?_
  have hl := hs.lt
  have I2 : Inv X pins σ H { s with heap := h' } := I.kept (t' := s.toks) hk
  refine ⟨s.heap.objs.size + 1, [s.heap.objs.size + 1, s.heap.objs.size], _, _, H, rfl, I2, turn_enumA k k0 a (s.heap.objs.size + 1) s.heap.objs.size, ⟨⟨.none, ?_⟩, itObj_is hit, Nat.succ_ne_self _, Nat.ne_of_lt hl, Nat.ne_of_lt (Nat.lt_succ_of_lt hl)⟩, fun b hb => ?_, q⟩
  · have z : k0 + ((0 : Nat) : Int) = k0 := by omega
    rw [z]; exact he
  · have e' : b = s.heap.objs.size + 1 ∨ b = s.heap.objs.size := by simpa using hb
    have hle : s.heap.objs.size ≤ b := by
      rcases e' with z | z
      · rw [z]; exact Nat.le_add_right _ _
      · rw [z]; exact Nat.le_refl _
    exact I.fpOk hle (I.hok.fresh hle)
theorem pi_enumA {X : Cx} {e : Expr} {ta : TA} {p pos tpos : Pos} {elts : List Expr} {kk : Nat} (hg : Gl X "enumerate") (hm : X.mg "enumerate" = none) (ha : PA X [e] ta) (hs : starEach [e] X.env = [(false, eval e X.env)] := by rfl) :
    PI X (.Tuple elts kk tpos) (.Call (.Name "enumerate" p) [e] [] pos) (iEnumA X.K ta) := by
  refine ⟨fun pins s σ H R I h => ?_⟩
  refine Call_ (ld_blt I hg hm boot_enumerate (PyProof.Rows.callWith_type1 (thn (ha.run pos pins s σ H _ I h) fun us s1 ⟨vs, H1, I1, r1, q1⟩ => ?_) hs rfl))
  obtain ⟨k, a, xs, ex, hq, q⟩ := q1
  subst ex
  cases r1 with
  | cons r rr =>
    cases rr
    cases r
    obtain ⟨its, rv, p', hz⟩ := Inv.sq I1 hq
    exact enum_begins1 (begins_of k a its.toArray) p' fun h' he hit hsz hk => enum_pie I1 p' he hit hk q

structure WalkD (K : PySem.W.Frag) (J : It) (F : Hp) (ds : List D) : Prop where
  goes : ∀ i H, i < ds.length → Same F H → J.go i H
  stops : ∀ H, Same F H → J.stop ds.length H
  yields : ∀ (i : Nat) (d : D) (H : Hp) (x : V) (H' : Hp), ds[i]? = some d → Same F H → J.yld i H x H' → ∀ F1 h, Same F F1 → SR K F1 H h → ∃ F2, Go K F1 H h F2 H' h ∧ RD K F2 d x
abbrev WI := MSt → MH → (List D → MH → Prop) → Prop
def liftI (K : PySem.W.Frag) (B : Bs) (t : WI) : TI := fun σ H R => ∃ F h σd Q', LR K F σd σ ∧ Bd K B F H h ∧ t σd h Q' ∧ ∀ F' H' h' ds J, Go K F H h F' H' h' → WalkD K J F' ds → Q' ds h' → R J H'
abbrev MI (X : Cx) (B : Bs) (tg iter : Expr) (t : WI) : Prop := PI X tg iter (liftI X.K B t)
section
variable {X : Cx} {B : Bs} {tg iter a b c e : Expr} {ta tb tc : WE} {pos p : Pos} {wa : WA}
theorem pi_mono {t t' : TI} (h : PI X tg iter t) (m : ∀ σ H R, t' σ H R → t σ H R) : PI X tg iter t' := ⟨fun pins s σ H R I q => h.run pins s σ H R I (m σ H R q)⟩
theorem pi_row {l : Expr} {tl : TE} (hl : PE X l tl) : PI X tg l (fun σ H R => tl σ H fun x H1 => (∃ a, x = .ref a ∧ (∃ xs, SqL X.K H1 a xs) ∧ R (Itl X.K a) H1) ∨ (∃ a, x = .ref a ∧ (∃ xs, SqT X.K H1 a xs) ∧ R (Itt X.K a) H1)) := by
  refine ⟨fun pins s σ H R I h => ?_⟩
  refine thn (hl.run pins s σ H _ I h) fun v s1 ⟨x, H1, I1, r1, q1⟩ => ?_
  rcases q1 with ⟨a, e, ⟨xs, hq⟩, q⟩ | ⟨a, e, ⟨xs, hq⟩, q⟩
  · subst e
    cases r1
    obtain ⟨its, rv, p, hz⟩ := I1.list hq
    refine wpAny_pyIter_list p.isList ?_
    refine ⟨s1.heap.objs.size, [s1.heap.objs.size], _, _, H1, rfl, I1.kept (t' := s1.toks) fun b o e => Heap.get?_push_of_some _ e, turn_list a _, ⟨_, Heap.get?_push_size _ rfl, rfl, rfl⟩, fun b hb => ?_, q⟩
    have e : b = s1.heap.objs.size := by simpa using hb
    subst e
    exact I1.fpOk (Nat.le_refl _) (I1.hok.fresh (Nat.le_refl _))
  · subst e
    cases r1
    obtain ⟨its, rv, p, hz⟩ := I1.tuple hq
    refine wpAny_pyIter_tuple (show s1.heap.IsTuple a its.toArray from p) ?_
    refine ⟨s1.heap.objs.size, [s1.heap.objs.size], _, _, H1, rfl, I1.kept (t' := s1.toks) fun b o e => Heap.get?_push_of_some _ e, turn_tuple a _, ⟨_, Heap.get?_push_size _ rfl, rfl, rfl⟩, fun b hb => ?_, q⟩
    have e : b = s1.heap.objs.size := by simpa using hb
    subst e
    exact I1.fpOk (Nat.le_refl _) (I1.hok.fresh (Nat.le_refl _))
theorem walkD_list {K : PySem.W.Frag} {F : Hp} {a : Addr} {xs : List V} {ds : List D} (q : SqL K F a xs) (r : RDs K F ds xs) : WalkD K (Itl K a) F ds where
  goes := fun i H hi sm => ⟨xs, xs[i]'(by rw [← r.length]; exact hi), Same.sqL sm q, by simp⟩
  stops := fun H sm => ⟨xs, Same.sqL sm q, by rw [r.length]; exact Nat.le_refl _⟩
  yields := fun i d H x H' hd sm ⟨e, y⟩ F1 h s1 sr => by
    subst e
    obtain ⟨v, hv, rd⟩ := r.get hd
    have := y xs (Same.sqL sm q)
    rw [hv] at this; cases this
    exact ⟨F1, Go.refl sr, rd.mono s1⟩
theorem walkD_tup {K : PySem.W.Frag} {F : Hp} {a : Addr} {xs : List V} {ds : List D} (q : SqU K F a xs) (r : RDs K F ds xs) : WalkD K (Itt K a) F ds where
  goes := fun i H hi sm => ⟨xs, xs[i]'(by rw [← r.length]; exact hi), Same.sqT sm q, by simp⟩
  stops := fun H sm => ⟨xs, Same.sqT sm q, by rw [r.length]; exact Nat.le_refl _⟩
  yields := fun i d H x H' hd sm ⟨e, y⟩ F1 h s1 sr => by
    subst e
    obtain ⟨v, hv, rd⟩ := r.get hd
    have := y xs (Same.sqT sm q)
    rw [hv] at this; cases this
    exact ⟨F1, Go.refl sr, rd.mono s1⟩
def rowF : D → Option (List D)
  | .tup ds => some ds
  | .lst ds => some ds
  | .scr ns => some (ns.map .int)
  | _ => none
theorem rowF_rd {K : PySem.W.Frag} {F : Hp} {d : D} {v : V} {ds : List D} (r : RD K F d v) (e : rowF d = some ds) : ∃ k a xs, v = .ref a ∧ SqF K k F a xs ∧ RDs K F ds xs := by
  cases r with
  | tup q r => simp only [rowF, Option.some.injEq] at e; subst e; exact ⟨false, _, _, rfl, q, r⟩
  | lst q r => simp only [rowF, Option.some.injEq] at e; subst e; exact ⟨true, _, _, rfl, SqL.of q, r⟩
  | scr q => simp only [rowF, Option.some.injEq] at e; subst e; exact ⟨true, _, _, rfl, q, RDs.ints _⟩
  | _ => simp [rowF] at e
def wIt (t : WE) : WI := fun σ h Q => t σ h fun d h1 => match rowF d with
  | some ds => Q ds h1
  | none => False
theorem mi_row (hl : ME X B iter ta) : MI X B tg iter (wIt ta) := pi_mono (pi_row hl) fun σ H R ⟨F, h, σd, Q', l, s, t, c⟩ => ⟨F, h, σd, _, l, s, t, fun F1 H1 h1 x u g1 rx t1 => by
  split at t1
  · rename_i ds ed
    obtain ⟨k, a, xs, rfl, q, r⟩ := rowF_rd rx ed
    cases k with
    | true => exact .inl ⟨a, rfl, ⟨xs, Same.sqL g1.sr.fr q⟩, c F1 H1 h1 ds _ g1 (walkD_list q r) t1⟩
    | false => exact .inr ⟨a, rfl, ⟨xs, Same.sqT g1.sr.fr q⟩, c F1 H1 h1 ds _ g1 (walkD_tup q r) t1⟩
  · exact t1.elim⟩
def enumD (k0 : Int) (ds : List D) : List D := ds.mapIdx fun i d => .tup [.int (k0 + (i : Nat)), d]
theorem walkD_enum {K : PySem.W.Frag} {F : Hp} {k : Bool} {a : Addr} {k0 : Int} {xs : List V} {ds : List D} (q : SqF K k F a xs) (r : RDs K F ds xs) : WalkD K (ItE K k a k0) F (enumD k0 ds) := by
  have sq : ∀ {H}, Same F H → Sq K k H a xs := fun {H} sm => by
    cases k with
    | true => exact Same.sqL sm q
    | false => exact Same.sqT sm q
  have hl : (enumD k0 ds).length = xs.length := by unfold enumD; rw [List.length_mapIdx, r.length]
  refine ⟨fun i H hi sm => ⟨xs, xs[i]'(by rw [← hl]; exact hi), sq sm, by simp⟩, fun H sm => ⟨xs, sq sm, hl.symm⟩, fun i d H x H' hd sm y F1 h s1 sr => ?_⟩
  obtain ⟨T, z, rfl, nT, rfl, hz⟩ := y
  unfold enumD at hd
  rw [List.getElem?_mapIdx] at hd
  cases e : ds[i]? with
  | none => rw [e] at hd; cases hd
  | some d0 =>
    rw [e] at hd
    simp only [Option.map_some, Option.some.injEq] at hd
    subst hd
    obtain ⟨v, hv, rd⟩ := r.get e
    have := hz xs (sq sm)
    rw [hv] at this; cases this
    have nF := sr.freeF nT
    exact ⟨_, Go.settled sr nT, .tup (SqU.of upd_same) (.cons (.int _) (.cons ((rd.mono s1).mono (same_upd nF)) .nil))⟩
def wEnum (k0 : Int) (t : WE) : WI := fun σ h Q => t σ h fun d h1 => match rowF d with
  | some ds => Q (enumD k0 ds) h1
  | none => False
theorem mi_enum {elts : List Expr} {kk : Nat} {tpos : Pos} (hm : X.mg "enumerate" = none) (ha : ME X B e ta) (hg : Gl X "enumerate" := by rfl) (hs : starEach [e] X.env = [(false, eval e X.env)] := by rfl) :
    MI X B (.Tuple elts kk tpos) (.Call (.Name "enumerate" p) [e] [] pos) (wEnum 0 ta) := pi_mono (pi_enumA hg hm (pa_cons ha pa_nil hs) hs) fun σ H R ⟨F, h, σd, Q', l, s, t, c⟩ => ⟨F, h, σd, _, l, s, t, fun F1 H1 h1 x u g1 rx t1 => by
  split at t1
  · rename_i ds ed
    obtain ⟨k, a, xs, rfl, q, r⟩ := rowF_rd rx ed
    refine ⟨k, a, xs, rfl, ?_, c F1 H1 h1 _ _ g1 (walkD_enum q r) t1⟩
    cases k with
    | true => exact Same.sqL g1.sr.fr q
    | false => exact Same.sqT g1.sr.fr q
  · exact t1.elim⟩
def rangeD (lo : Int) (n : Nat) : List D := (List.range n).map fun i => .int (lo + (i : Nat))
theorem walkD_range {K : PySem.W.Frag} {F : Hp} {lo : Int} {n : Nat} : WalkD K (Itr lo n) F (rangeD lo n) where
  goes := fun i H hi sm => by unfold rangeD at hi; rw [List.length_map, List.length_range] at hi; exact hi
  stops := fun H sm => by unfold rangeD; rw [List.length_map, List.length_range]; exact Nat.le_refl _
  yields := fun i d H x H' hd sm ⟨e, y⟩ F1 h s1 sr => by
    subst e y
    unfold rangeD at hd
    rw [List.getElem?_map] at hd
    have hi : i < n := by
      cases q : (List.range n)[i]? with
      | none => rw [q] at hd; cases hd
      | some j => simpa using (List.getElem?_eq_some_iff.mp q).1
    rw [List.getElem?_range hi] at hd
    simp only [Option.map_some, Option.some.injEq] at hd
    subst hd
    exact ⟨F1, Go.refl sr, .int _⟩
def okR (i : Int) : Prop := -(2 ^ 62) ≤ i ∧ i < 2 ^ 62
def wRange1 (t : WE) : WI := fun σ h Q => t σ h fun d h1 => match d with
  | .int j => okR j ∧ Q (rangeD 0 j.toNat) h1
  | _ => False
def wRange2 (t u : WE) : WI := fun σ h Q => t σ h fun d h1 => u σ h1 fun e h2 => match d, e with
  | .int i, .int j => okR i ∧ okR j ∧ Q (rangeD i (j - i).toNat) h2
  | _, _ => False
theorem mi_range1 (hm : X.mg "range" = none) (ha : ME X B a ta) (hg : Gl X "range" := by rfl) (hs : starEach [a] X.env = [(false, eval a X.env)] := by rfl) : MI X B tg (.Call (.Name "range" p) [a] [] pos) (wRange1 ta) :=
  pi_mono (pi_range1 hg hm (pa_cons ha pa_nil hs) hs) fun σ H R ⟨F, h, σd, Q', l, s, t, c⟩ => ⟨F, h, σd, _, l, s, t, fun F1 H1 h1 x u g1 rx t1 => by
    split at t1
    · cases rx
      exact ⟨_, rfl, t1.1.1, t1.1.2, c F1 H1 h1 _ _ g1 walkD_range t1.2⟩
    · exact t1.elim⟩
def wLoop (g : WG) (tb : WS) : List D → WS
  | [], D, σ, h => D.nx σ h
  | d :: ds, D, σ, h => g d σ h fun σ2 h2 => tb { nx := wLoop g tb ds D, ct := wLoop g tb ds D, bk := D.nx, rt := D.rt } σ2 h2
def wFor (wi : WI) (g : WG) (tb : WS) : WS := fun D σ h => wi σ h fun ds h1 => wLoop g tb ds D σ h1
theorem drop_of_get {α : Type} {l : List α} {i : Nat} {x : α} (e : l[i]? = some x) : l.drop i = x :: l.drop (i + 1) := by
  obtain ⟨hi, e⟩ := List.getElem?_eq_some_iff.mp e
  rw [List.drop_eq_getElem_cons hi, e]
theorem ms_for {wi : WI} {g : WG} {tb : WS} {body : List Stmt} (hp : PassesOwn (model X.prog X.w) X.A X.env X.xe) (hc : X.calm = true) (hi : MI X B tg iter wi) (hg : MG X B tg g) (hb : MSs X B body tb) (hs : ∀ x, foldedSetIterable iter X.env x = pure x := by intro _; rfl) :
    MS X B (.For tg iter body [] pos) (wFor wi g tb) := ps_mono (ps_for hp hc hi hg hb hs) fun E σ H ⟨F, h, σd, D', l, s, t, c⟩ => ⟨F, h, σd, _, l, s, t, fun F1 H1 h1 ds J g1 W t1 => by
    refine ⟨fun i m σ2 H2 => ∃ F2 h2 σd2, Go X.K F1 H1 h1 F2 H2 h2 ∧ LR X.K F2 σd2 σ2 ∧ i ≤ ds.length ∧ m = ds.length - i ∧ wLoop g tb (ds.drop i) D' σd2 h2, ⟨ds.length, F1, h1, σd, Go.refl g1.sr, l.mono g1.ss, Nat.zero_le _, rfl, t1⟩, ?_⟩
    rintro i m σ2 H2 ⟨F2, h2, σd2, g2, l2, hi, rfl, t2⟩
    by_cases hlt : i < ds.length
    · have ed : ds[i]? = some ds[i] := List.getElem?_eq_getElem hlt
      rw [drop_of_get ed] at t2
      refine .inr ⟨W.goes i H2 hlt (g2.ss.trans g2.sr.fr), fun σ3 H3 => ∃ F3 h3 σd3, Go X.K F1 H1 h1 F3 H3 h3 ∧ LR X.K F3 σd3 σ3 ∧ wLoop g tb (ds.drop (i + 1)) D' σd3 h3, fun σ3 H3 ⟨F3, h3, σd3, g3, l3, t3⟩ => ⟨ds.length - (i + 1), by omega, F3, h3, σd3, g3, l3, hlt, rfl, t3⟩, fun x H3 y => ?_⟩
      obtain ⟨F3, g3, rx⟩ := W.yields i _ H2 x H3 ed (g2.ss.trans g2.sr.fr) y F2 h2 g2.ss g2.sr
      refine ⟨F3, h2, σd2, _, _, l2.mono g3.ss, (s.go g1).go (g2.trans g3), rx, t2, fun F4 H4 h4 σd4 σ4 g4 l4 t4 => ⟨F4, h4, σd4, _, l4, (s.go g1).go ((g2.trans g3).trans g4), t4, ?_⟩⟩
      have g04 := (g2.trans g3).trans g4
      exact ⟨fun F5 H5 h5 σd5 σ5 g5 l5 t5 => ⟨F5, h5, σd5, g04.trans g5, l5, t5⟩, (c.rt.go g1).go g04, (c.nx.go g1).go g04, fun F5 H5 h5 σd5 σ5 g5 l5 t5 => ⟨F5, h5, σd5, g04.trans g5, l5, t5⟩⟩
    · have e : i = ds.length := by omega
      subst e
      refine .inl ⟨W.stops H2 (g2.ss.trans g2.sr.fr), ?_⟩
      rw [List.drop_length] at t2
      exact c.nx F2 H2 h2 _ _ (g1.trans g2) l2 t2⟩
end
end BP

set_option maxRecDepth 100000
set_option maxHeartbeats 4000000
namespace BP
open PySem PySem.Spec PyProof.Rows L2

def mwipe (σ : MSt) : List Nat → MSt
  | [] => σ
  | v :: vs => (mwipe σ vs).set v none
theorem LR.unset {K : PySem.W.Frag} {F : Hp} {σd : MSt} {σ : L2.St} (l : LR K F σd σ) (i : Nat) : LR K F (σd.set i none) (σ.set i none) := by
  refine ⟨by rw [List.length_set, List.length_set, l.len], fun j e q => ?_⟩
  rw [List.getElem?_set] at q
  rw [List.getElem?_set]
  by_cases hij : i = j
  · rw [if_pos hij] at q
    by_cases hl : i < σd.length
    · rw [if_pos hl] at q; cases q
    · rw [if_neg hl] at q; cases q
  · rw [if_neg hij] at q ⊢
    exact l.get j e q
theorem LR.wipe {K : PySem.W.Frag} {F : Hp} {σd : MSt} {σ : L2.St} (l : LR K F σd σ) : ∀ vs : List Nat, LR K F (mwipe σd vs) (L2.wipe σ vs)
  | [] => l
  | v :: vs => (LR.wipe l vs).unset v
def gNames : List Nat → TGs
  | [] => gNil
  | i :: is => gCons (gName i) (gNames is)
def setAll (σ : L2.St) : List Nat → List V → L2.St
  | i :: is, v :: vs => setAll (σ.set i (some v)) is vs
  | _, _ => σ
def msetAll (σ : MSt) : List Nat → List D → MSt
  | i :: is, d :: ds => msetAll (σ.set i (some d)) is ds
  | _, _ => σ
theorem gNames_of {Q : L2.St → Hp → Prop} {H : Hp} : ∀ {is : List Nat} {vs : List V} {σ : L2.St}, vs.length = is.length → Q (setAll σ is vs) H → gNames is vs σ H Q
  | [], [], σ, _, q => ⟨rfl, q⟩
  | i :: is, v :: vs, σ, h, q => ⟨v, vs, rfl, gNames_of (by simpa using h) q⟩
  | [], _ :: _, _, h, _ => by simp at h
  | _ :: _, [], _, h, _ => by simp at h
theorem wipe_set {σ : L2.St} {i : Nat} {o : Option V} : ∀ {vs : List Nat}, i ∈ vs → L2.wipe (σ.set i o) vs = L2.wipe σ vs
  | [], h => by cases h
  | v :: vs, h => by
    show (L2.wipe (σ.set i o) vs).set v none = (L2.wipe σ vs).set v none
    by_cases hv : i ∈ vs
    · rw [wipe_set hv]
    · have e : i = v := by
        rcases List.mem_cons.mp h with e | e
        · exact e
        · exact absurd e hv
      subst e
      have key : ∀ ws : List Nat, i ∉ ws → L2.wipe (σ.set i o) ws = (L2.wipe σ ws).set i o := by
        intro ws
        induction ws with
        | nil => intro _; rfl
        | cons w ws ih =>
          intro hw
          show (L2.wipe (σ.set i o) ws).set w none = ((L2.wipe σ ws).set w none).set i o
          rw [ih fun z => hw (List.mem_cons_of_mem _ z), List.set_comm _ _ (fun z => hw (by rw [z]; exact List.mem_cons_self))]
      rw [key vs hv, List.set_set]
theorem wipe_setAll {is : List Nat} : ∀ {js : List Nat} {vs : List V} {σ : L2.St}, (∀ j ∈ js, j ∈ is) → L2.wipe (setAll σ js vs) is = L2.wipe σ is
  | [], _, _, _ => rfl
  | _ :: _, [], _, _ => rfl
  | j :: js, v :: vs, σ, h => by
    show L2.wipe (setAll (σ.set j (some v)) js vs) is = _
    rw [wipe_setAll fun x hx => h x (List.mem_cons_of_mem _ hx), wipe_set (h j List.mem_cons_self)]
theorem wipe_wipe (σ : L2.St) (vs : List Nat) : L2.wipe (L2.wipe σ vs) vs = L2.wipe σ vs := by
  have key : ∀ (ws : List Nat) (τ : L2.St), (∀ w ∈ ws, w ∈ vs) → L2.wipe (L2.wipe τ ws) vs = L2.wipe τ vs := by
    intro ws
    induction ws with
    | nil => intro τ _; rfl
    | cons w ws ih =>
      intro τ h
      show L2.wipe ((L2.wipe τ ws).set w none) vs = _
      rw [wipe_set (h w List.mem_cons_self)]
      exact ih τ fun x hx => h x (List.mem_cons_of_mem _ hx)
  exact key vs σ fun _ h => h
theorem LR.setAll {K : PySem.W.Frag} {F : Hp} : ∀ {is : List Nat} {ds : List D} {vs : List V} {σd : MSt} {σ : L2.St}, LR K F σd σ → RDs K F ds vs → LR K F (msetAll σd is ds) (setAll σ is vs)
  | [], _, _, _, _, l, _ => l
  | _ :: _, _, _, _, _, l, .nil => l
  | i :: is, _, _, _, _, l, .cons r rs => LR.setAll (is := is) (l.set r i) rs
def wLcGo (put : MSt → D → Option MSt) (tt : WT) (te : WE) (σ : MSt) : List D → List D → MH → (List D → MH → Prop) → Prop
  | [], acc, h, Q => Q acc h
  | d :: ds, acc, h, Q => match put σ d with
    | some σ2 => tt σ2 h fun b h3 => if b = true then te σ2 h3 fun y h4 => acc.length < sizeLine ∧ wLcGo put tt te σ ds (acc ++ [y]) h4 Q else wLcGo put tt te σ ds acc h3 Q
    | none => False
def wLc (wi : WI) (put : MSt → D → Option MSt) (tt : WT) (te : WE) (vs : List Nat) : WE := fun σ h Q => wi σ h fun ds h1 => wLcGo put tt te (mwipe σ vs) ds [] h1 fun acc h2 => Q (.lst acc) h2
def put1 (i : Nat) : MSt → D → Option MSt := fun σ d => some (σ.set i (some d))
def putT (is : List Nat) : MSt → D → Option MSt := fun σ d => match d with
  | .tup ds => if ds.length = is.length then some (msetAll σ is ds) else none
  | _ => none
def wYes : WT := fun _ h Q => Q true h
theorem Go.hidden {K : PySem.W.Frag} {F H F1 H1 : Hp} {h h1 : MH} {D : Addr} {o : HO} (g : Go K F H h F1 H1 h1) (n : H D = none) (nF : F1 D = none) (nh : h1 D = none) : Go K F H h F1 (upd H1 D o) h1 := by
  refine ⟨g.ss, fun a x e f m => ?_, ⟨fun a x e => ?_, fun a c e => ?_⟩⟩
  · obtain ⟨f1, m1, e1⟩ := g.hid a x e f m
    exact ⟨f1, m1, by rw [upd_ne (ne_of_none e n)]; exact e1⟩
  · rw [upd_ne (fun z => by rw [z, nF] at e; cases e)]; exact g.sr.fr a x e
  · obtain ⟨f, q⟩ := g.sr.cell a c e
    exact ⟨f, q.mono (Same.refl _) (upd_ne (fun z => by rw [z, nh] at e; cases e))⟩
theorem Go.hiddenF {K : PySem.W.Frag} {F H F1 H1 : Hp} {h h1 : MH} {D : Addr} {o : HO} (g : Go K F H h F1 H1 h1) (n : H D = none) (nF : F1 D = none) (nh : h1 D = none) (e0 : H1 D = some o) : Go K F H h (upd F1 D o) H1 h1 := by
  refine ⟨g.ss.trans (same_upd nF), fun a x e f m => ?_, ⟨fun a x e => ?_, fun a c e => ?_⟩⟩
  · obtain ⟨f1, m1, e1⟩ := g.hid a x e f m
    exact ⟨by rw [upd_ne (ne_of_none e n)]; exact f1, m1, e1⟩
  · by_cases hb : a = D
    · subst hb; rw [upd_same] at e; cases e; exact e0
    · rw [upd_ne hb] at e; exact g.sr.fr a x e
  · obtain ⟨f, q⟩ := g.sr.cell a c e
    have hb : a ≠ D := fun z => by rw [z, nh] at e; cases e
    exact ⟨by rw [upd_ne hb]; exact f, q.mono (same_upd nF) rfl⟩
section
variable {X : Cx} {B : Bs} {a b c e : Expr} {ta tb tc : WE} {pos p : Pos} {wa : WA}
def PutOk (K : PySem.W.Frag) (g : TG) (put : MSt → D → Option MSt) (vs : List Nat) : Prop := ∀ F H h σd σ d v σd2 (Q : L2.St → Hp → Prop), LR K F σd σ → SR K F H h → RD K F d v → put σd d = some σd2 → (∀ σ2, LR K F σd2 σ2 → L2.wipe σ2 vs = L2.wipe σ vs → Q σ2 H) → g v σ H Q
theorem put1_ok {K : PySem.W.Frag} {i : Nat} : PutOk K (gName i) (put1 i) [i] := fun F H h σd σ d v σd2 Q l s r e q => by
  simp only [put1, Option.some.injEq] at e
  subst e
  exact q _ (l.set r i) (wipe_set List.mem_cons_self)
theorem putT_ok {K : PySem.W.Frag} {is : List Nat} {n : Nat} (hn : is.length = n) : PutOk K (gTup K n (gNames is)) (putT is) is := fun F H h σd σ d v σd2 Q l s r e q => by
  unfold putT at e
  split at e
  · split at e
    · rename_i hl
      simp only [Option.some.injEq] at e
      subst e
      cases r with
      | tup sq rs => exact ⟨_, _, rfl, Same.sqT s.fr sq, by rw [← rs.length, hl, hn], gNames_of (by rw [← rs.length, hl]) (q _ (l.setAll rs) (wipe_setAll fun _ h => h))⟩
    · cases e
  · cases e
theorem lift_lc {wi : WI} {g : TG} {put : MSt → D → Option MSt} {tt : WT} {te : WE} {vs : List Nat} (hp : PutOk X.K g put vs) : ∀ σ H Q, lift X.K B (wLc wi put tt te vs) σ H Q → tLc (liftI X.K B wi) g (liftT X.K B tt) (lift X.K B te) vs σ H Q := fun σ H Q ⟨F, h, σd, Q', l, s, t, c⟩ =>
  ⟨F, h, σd, _, l, s, t, fun F1 H1 h1 ds J g1 W t1 D nD => by
    have w1 : ∀ {F2}, Same F1 F2 → LR X.K F2 (mwipe σd vs) (L2.wipe σ vs) := fun e => ((l.mono g1.ss).mono e).wipe vs
    refine ⟨fun i m H2 => ∃ F2 h2 acc accV, Go X.K F1 H1 h1 F2 H2 h2 ∧ H2 D = some (.lst accV) ∧ F2 D = none ∧ h2 D = none ∧ RDs X.K F2 acc accV ∧ i ≤ ds.length ∧ m = ds.length - i ∧ wLcGo put tt te (mwipe σd vs) (ds.drop i) acc h2 fun acc h2 => Q' (.lst acc) h2,
      ⟨ds.length, F1, h1, [], [], (Go.refl g1.sr).hidden nD (g1.sr.freeF nD) (g1.sr.freeM nD), upd_same, g1.sr.freeF nD, g1.sr.freeM nD, .nil, Nat.zero_le _, rfl, t1⟩, ?_⟩
    rintro i m H2 ⟨F2, h2, acc, accV, g2, eD, fD, mD, ra, hi, rfl, t2⟩
    by_cases hlt : i < ds.length
    · have ed : ds[i]? = some ds[i] := List.getElem?_eq_getElem hlt
      rw [drop_of_get ed] at t2
      unfold wLcGo at t2
      split at t2
      · rename_i σ3 e3
        refine .inr ⟨W.goes i H2 hlt (g2.ss.trans g2.sr.fr), fun H3 => ∃ F3 h3 acc accV, Go X.K F1 H1 h1 F3 H3 h3 ∧ H3 D = some (.lst accV) ∧ F3 D = none ∧ h3 D = none ∧ RDs X.K F3 acc accV ∧ wLcGo put tt te (mwipe σd vs) (ds.drop (i + 1)) acc h3 fun acc h2 => Q' (.lst acc) h2,
          fun H3 ⟨F3, h3, acc, accV, g3, k1, k2, k3, k4, t3⟩ => ⟨ds.length - (i + 1), by omega, F3, h3, acc, accV, g3, k1, k2, k3, k4, hlt, rfl, t3⟩, fun x H3 y => ?_⟩
        obtain ⟨F3, g3, rx⟩ := W.yields i _ H2 x H3 ed (g2.ss.trans g2.sr.fr) y F2 h2 g2.ss g2.sr
        refine hp F3 H3 h2 _ _ _ _ _ _ (w1 (g2.ss.trans g3.ss)) g3.sr rx e3 fun σ4 l4 hw => ⟨hw.trans (wipe_wipe σ vs), F3, h2, σ3, _, l4, (s.go g1).go (g2.trans g3), t2, fun F5 H5 h5 b g5 t5 => ?_⟩
        obtain ⟨fD5, mD5, eD5⟩ := (g3.trans g5).hid D _ eD fD mD
        have g05 := (g2.trans g3).trans g5
        cases b with
        | false =>
          rw [if_neg Bool.false_ne_true] at t5
          exact iteF ⟨F5, h5, acc, accV, g05, eD5, fD5, mD5, ra.mono (g3.trans g5).ss, t5⟩
        | true =>
          rw [if_pos rfl] at t5
          refine iteT ⟨F5, h5, σ3, _, l4.mono g5.ss, (s.go g1).go g05, t5, fun F6 H6 h6 y6 v6 g6 r6 t6 => ?_⟩
          obtain ⟨fD6, mD6, eD6⟩ := g6.hid D _ eD5 fD5 mD5
          refine ⟨accV, eD6, by rw [← ra.length]; exact t6.1, F6, h6, acc ++ [y6], accV ++ [v6], (g05.trans g6).hidden nD fD6 mD6, upd_same, fD6, mD6, ?_, t6.2⟩
          exact (ra.mono ((g3.trans g5).trans g6).ss).append (.cons r6 .nil)
      · exact t2.elim
    · have e : i = ds.length := by omega
      subst e
      refine .inl ⟨W.stops H2 (g2.ss.trans g2.sr.fr), ?_⟩
      rw [List.drop_length] at t2
      have gF := g2.hiddenF nD fD mD eD
      exact c _ _ _ _ _ (g1.trans gF) (.lst upd_same (ra.mono (same_upd fD))) t2⟩
abbrev MTs (X : Cx) (B : Bs) (ifs : List Expr) (t : WT) : Prop := PTs X ifs (liftT X.K B t)
theorem mts_nil : MTs X B [] wYes := ⟨fun pins s σ H Q I ⟨F, h, σd, Q', l, s0, t, c⟩ => pts_nil.run pins s σ H Q I (c F H h true (Go.refl s0.sr) t)⟩
theorem mts_one {ua : WT} (h : MT X B c ua) : MTs X B [c] ua := pts_one h
theorem m_lc {elt tg iter : Expr} {ifs : List Expr} {scope : Scope} {own : List (Str × Nat)} {wi : WI} {g : TG} {put : MSt → D → Option MSt} {tt : WT} {te : WE} (hc : X.calm = true) (hN : X.N.Nodup) (hi : MI X B tg iter wi) (ok : BlkOk X.N X.env.scope scope own) (hp : PutOk X.K g put (own.map (·.2)))
    (hg : ∀ (s : Shared) (H : Hp) (C : Addr) (cl : List (Str × Addr)) (fp : List Addr), PG (X.blk s H scope (compEnvC scope cl C X.env) fp) tg g) (ht : ∀ (s : Shared) (H : Hp) (C : Addr) (cl : List (Str × Addr)) (fp : List Addr), MTs (X.blk s H scope (compEnvC scope cl C X.env) fp) B ifs tt)
    (he : ∀ (s : Shared) (H : Hp) (C : Addr) (cl : List (Str × Addr)) (fp : List Addr), ME (X.blk s H scope (compEnvC scope cl C X.env) fp) B elt te) (hs : ∀ x, foldedSetIterable iter X.env x = pure x := by intro _; rfl) :
    ME X B (.ListComp elt [⟨tg, iter, ifs, 0⟩] scope pos) (wLc wi put tt te (own.map (·.2))) := pe_mono (pe_lc hc hN hi ok hg ht he hs) (lift_lc hp)
theorem ms_setLc (i : Nat) {y : Str} {py spos : Pos} {elt tg iter : Expr} {ifs : List Expr} {scope : Scope} {own : List (Str × Nat)} {wi : WI} {g : TG} {put : MSt → D → Option MSt} {tt : WT} {te : WE} (hc : X.calm = true) (hN : X.N.Nodup) (hi : MI X B tg iter wi) (ok : BlkOk X.N X.env.scope scope own) (hp : PutOk X.K g put (own.map (·.2)))
    (hg : ∀ (s : Shared) (H : Hp) (C : Addr) (cl : List (Str × Addr)) (fp : List Addr), PG (X.blk s H scope (compEnvC scope cl C X.env) fp) tg g) (ht : ∀ (s : Shared) (H : Hp) (C : Addr) (cl : List (Str × Addr)) (fp : List Addr), MTs (X.blk s H scope (compEnvC scope cl C X.env) fp) B ifs tt)
    (he : ∀ (s : Shared) (H : Hp) (C : Addr) (cl : List (Str × Addr)) (fp : List Addr), ME (X.blk s H scope (compEnvC scope cl C X.env) fp) B elt te) (hy : X.N[i]? = some y := by rfl) (hyl : X.env.scope.names.lookup y = some .local := by rfl)
    (hsw : swapsWith (.ListComp elt [⟨tg, iter, ifs, 0⟩] scope pos) (some (.Name y py)) spos.line X.env = pure true := by exact sw_true rfl rfl rfl (by decide +kernel)) (hs : ∀ x, foldedSetIterable iter X.env x = pure x := by intro _; rfl) :
    MS X B (.Assign [.Name y py] (.ListComp elt [⟨tg, iter, ifs, 0⟩] scope pos) spos) (wSet i (wLc wi put tt te (own.map (·.2)))) :=
  ps_mono (ps_setLc hc hN hy hyl hsw hi ok hg ht he hs) fun E σ H ⟨F, h, σd, D', l, s, t, c⟩ =>
    lift_lc hp σ H _ ⟨F, h, σd, _, l, s, t, fun F1 H1 h1 x u g1 rx t1 => c.nx F1 H1 h1 _ _ g1 ((l.mono g1.ss).set rx i) t1⟩
end

abbrev XQ := String → List (Str × D) → MH → Prop
abbrev MSp := List D → MH → MQ → XQ → Prop
def ContX (K : PySem.W.Frag) (mg : Str → Option Value) (F H : Hp) (h : MH) (E' : XQ) (E : XK) : Prop :=
  ∀ F' H' h' n C dd fs gs, Go K F H h F' H' h' → mg (Str.ofString n) = some (.ref C) → F' dd = some (.xd gs) → RDf K F' fs gs → E' n fs h' → E (.ref C) (some dd) H'
def liftSp (K : PySem.W.Frag) (mg : Str → Option Value) (sp : MSp) : Sp := fun vs H Q E => ∃ F h ds Q' E', RDs K F ds vs ∧ SR K F H h ∧ sp ds h Q' E' ∧ ContV K F H h Q' Q ∧ ContX K mg F H h E' E
structure Rm (k : Nat) (A : Around) : Prop where
  r : Room k A
  g : A.guards = some []
theorem Rm.mono {j k : Nat} {A : Around} (x : Rm k A) (h : j ≤ k) : Rm j A := ⟨x.r.mono h, x.g⟩
theorem Rm.deeper {k : Nat} {A : Around} (x : Rm (k + 1) A) (env : Env) : Rm k (A.deeper env) := ⟨x.r.deeper env, x.g⟩
theorem Rm.units {k : Nat} {A : Around} (x : Rm k A) : A.units + 64 < cLine := x.r.units
theorem Rm.more {k : Nat} {A : Around} (x : Rm k A) : A.units + 100 < cLine := by have := x.r.un; omega
structure FnM (P : Program) (w : World) (K : PySem.W.Frag) (mg : Str → Option Value) (base : Heap) (k : Nat) (f : Addr) (fd : FuncData) (ps : List Str) (sp : MSp) : Prop where
  len : ∀ ds h Q E, sp ds h Q E → ds.length = ps.length
  run : ∀ (A : Around) (outer : List Env) (s : Shared) (H : Hp) (args : Args) (us : List Value) (vs : List V) (Q : VK) (E : XK), Rm k A → Env0 P w K mg base A outer s H → BindsTo s fd args (ps.zip us) → Vals vs us → liftSp K mg sp vs H Q E →
    codeAny (model P w) A (.call (.ref f) args) (CR (L2.CX P w) outer P w H s Q E) s
theorem FnM.lenV {P : Program} {w : World} {K : PySem.W.Frag} {mg : Str → Option Value} {base : Heap} {k : Nat} {f : Addr} {fd : FuncData} {ps : List Str} {sp : MSp} (G : FnM P w K mg base k f fd ps sp) {vs : List V} {H : Hp} {Q : VK} {E : XK} (h : liftSp K mg sp vs H Q E) : vs.length = ps.length := by
  obtain ⟨F, h, ds, Q', E', r, s, q, _, _⟩ := h
  rw [← r.length]; exact G.len ds h Q' E' q
def WB (K : PySem.W.Frag) (mg : Str → Option Value) (B : Bs) (Es : MSt → XQ) : WX := fun cls d σ H' => ∃ F' h' σd n C dd fs gs, cls = .ref C ∧ d = some dd ∧ mg (Str.ofString n) = some (.ref C) ∧ Go K B.F B.H B.h F' H' h' ∧ LR K F' σd σ ∧ F' dd = some (.xd gs) ∧ RDf K F' fs gs ∧ Es σd n fs h'
abbrev TkM (X : Cx) (B : Bs) (Es : MSt → XQ) : Prop := Takes X (WB X.K X.mg B Es)
abbrev xF : MSt → XQ := fun _ _ _ _ => False
theorem tkF {X : Cx} {B : Bs} : TkM X B xF := takes0.imp fun c d σ H ⟨_, _, _, _, _, _, _, _, _, _, _, _, _, _, _, z⟩ => z
def mstart (N : List Str) (ds : List D) : MSt := ds.map some ++ List.replicate (N.length - ds.length) none
theorem lr_start {K : PySem.W.Frag} {F : Hp} {N : List Str} {ds : List D} {vs : List V} (r : RDs K F ds vs) : LR K F (mstart N ds) (L2.start N vs) := by
  have hl := r.length
  refine ⟨by unfold mstart L2.start; rw [List.length_append, List.length_append, List.length_map, List.length_map, List.length_replicate, List.length_replicate, hl], fun i d e => ?_⟩
  unfold mstart at e
  unfold L2.start
  by_cases hi : i < ds.length
  · rw [List.getElem?_append_left (by rw [List.length_map]; exact hi), List.getElem?_map] at e
    cases q : ds[i]? with
    | none => rw [q] at e; cases e
    | some d0 =>
      rw [q] at e
      simp only [Option.map_some, Option.some.injEq] at e
      subst e
      obtain ⟨v, hv, rv⟩ := r.get q
      refine ⟨v, ?_, rv⟩
      rw [List.getElem?_append_left (by rw [List.length_map, ← hl]; exact hi), List.getElem?_map, hv]
      rfl
  · rw [List.getElem?_append_right (by rw [List.length_map]; omega), List.getElem?_replicate] at e
    split at e <;> simp at e
theorem fn_m {P : Program} {w : World} {K : PySem.W.Frag} {mg : Str → Option Value} {base : Heap} {x qual : Str} {st : Stmt} {f : Addr} {fd : FuncData} {N ps : List Str} {k : Nat} {sp : MSp} (F : Fun K x qual st f fd) (S : FnScope N ps (defScope st)) (len : ∀ ds h Q E, sp ds h Q E → ds.length = ps.length)
    (hbody : ∀ (cdv : Value) (A : Around) (outer : List Env) (s : Shared) (H : Hp) (E : XK) (B : Bs) (ds : List D) (h : MH) (Q' : MQ) (E' : XQ), fd.code = cdv → Rm k (A.deeper (envOfC qual (defScope st) s.heap.objs.size f cdv)) →
      TkM (cxOf (L2.CX P w) P w K mg base N qual (defScope st) f cdv A outer s H E) B (fun _ => E') → sp ds h Q' E' →
      ∃ t, MSs (cxOf (L2.CX P w) P w K mg base N qual (defScope st) f cdv A outer s H E) B (defBody st) t ∧ t { nx := fun _ h' => Q' .non h', rt := Q' } (mstart N ds) h) : FnM P w K mg base (k + 1) f fd ps sp := by
  refine ⟨len, fun A outer s H args us vs Q E hr e0 hb r hsp => ?_⟩
  obtain ⟨oc, od, kV, doc, pm, an, cdv, ct, osl, rfl, lk, hcd⟩ := F.ex
  obtain ⟨F, h, ds, Q', E', rd, sr, q, cv, cx⟩ := hsp
  refine LamX.run_ofS (k := k) (N := N) (ps := ps) lk hcd S hr.r e0 hb r (by rw [← rd.length]; exact len ds h Q' E' q) fun _ => ?_
  have tk : TkM (cxOf (L2.CX P w) P w K mg base N qual (defScope st) f cdv A outer s H E) ⟨F, H, h⟩ (fun _ => E') := by
    refine (takes_of (E := E) rfl rfl rfl rfl).imp fun c d σ H' ⟨F', h', σd, n, C, dd, fs, gs, e1, e2, e3, g, l, hd, rf, z⟩ => ?_
    subst e1 e2
    exact cx F' H' h' n C dd fs gs g e3 hd rf z
  obtain ⟨t, ht, hq⟩ := hbody cdv A outer s H E ⟨F, H, h⟩ ds h Q' E' rfl (hr.deeper _) tk q
  exact ⟨_, ht, F, h, mstart N ds, _, lr_start rd, ⟨Go.refl sr⟩, hq, ⟨fun F1 H1 h1 σd σ g l t1 => cv F1 H1 h1 _ _ g .non t1, cv, fun _ _ _ _ _ _ _ z => z.elim, fun _ _ _ _ _ _ _ z => z.elim⟩⟩
section
variable {X : Cx} {B : Bs} {e : Expr} {es : List Expr} {wa : WA} {pos p : Pos} {k : Nat} {f : Addr} {fd : FuncData} {ps : List Str} {sp : MSp} {x : Str} {Es : MSt → XQ}
def wCall (sp : MSp) (Es : MSt → XQ) (t : WA) : WE := fun σ h Q => t σ h fun ds h1 => sp ds h1 Q (Es σ)
theorem sp_at {vs : List V} {ds : List D} {F H F1 H1 : Hp} {h h1 : MH} {σd : MSt} {σ : L2.St} {Q' : MQ} {Q : VK} (s : Bd X.K B F H h) (l : LR X.K F σd σ) (c : ContV X.K F H h Q' Q) (g1 : Go X.K F H h F1 H1 h1) (rs : RDs X.K F1 ds vs) (t1 : sp ds h1 Q' (Es σd)) :
    liftSp X.K X.mg sp vs H1 Q fun cls d H' => WB X.K X.mg B Es cls d σ H' :=
  ⟨F1, h1, ds, Q', Es σd, rs, g1.sr, t1, c.go g1, fun F' H' h' n C dd fs gs g e3 hd rf z => ⟨F', h', σd, n, C, dd, fs, gs, rfl, rfl, e3, (s.all.trans g1).trans g, l.mono (g1.trans g).ss, hd, rf, z⟩⟩
theorem run_m {pins : List (Addr × Obj)} {σ : L2.St} {H : Hp} {s : Shared} {Q : VK} {us : List Value} {vs : List V} (G : FnM X.prog X.w X.K X.mg X.base k f fd ps sp) (hr : Rm k X.A) (hb : Binds X.K fd ps []) (tk : TkM X B Es) (I : Inv X pins σ H s) (r : Vals vs us)
    (q : liftSp X.K X.mg sp vs H Q fun cls d H' => WB X.K X.mg B Es cls d σ H') : wpAny (model X.prog X.w) X.A (call (.ref f) us) (EP X pins σ Q) X.xe s := by
  have hl := G.lenV q
  have b := hb s us I.kIn (by rw [List.append_nil, ← r.length]; exact hl)
  rw [List.append_nil] at b
  refine wpAny_call (codeAny_mono (G.run X.A X.stack s H ⟨us, []⟩ us vs Q _ hr I.env0 b r q) fun x s' hq => ?_)
  cases x with
  | error e => exact passAt tk σ pins H s e s' I hq
  | ok fl =>
    cases fl with
    | ret u => exact I.after hq
    | _ => exact False.elim hq
theorem m_call (G : FnM X.prog X.w X.K X.mg X.base k f fd ps sp) (hr : Rm k X.A) (hm : X.mg x = some (.ref f)) (hk : PySem.W.keepIn X.K (.ref f) = true) (hb : Binds X.K fd ps []) (tk : TkM X B Es) (ha : MA X B (e :: es) wa) (hg : Gl X x := by rfl) (hdb : (x == ("__debug__" : Str)) = false := by decide)
    (he : starEach (e :: es) X.env = (false, eval e X.env) :: starEach es X.env := by rfl) (hpl : (backTo pos (starEach es X.env)).any (·.1) = false := by rfl) : ME X B (.Call (.Name x p) (e :: es) [] pos) (wCall sp Es wa) := by
  refine ⟨fun pins s σ H Q I ⟨F, h, σd, Q', l, s0, t, c⟩ => ?_⟩
  refine wpAny_Call_Name_kw (ld_glob I hg hm ?_ hdb)
  refine PySem.W.callWith_K (h₀ := X.base) I.ok.mod.kin hk (thn (ha.run pos pins s σ H (fun vs H1 => liftSp X.K X.mg sp vs H1 Q fun cls d H' => WB X.K X.mg B Es cls d σ H') I ⟨F, h, σd, _, l, s0, t, fun F1 H1 h1 ds vs g1 rs t1 => sp_at s0 l c g1 rs t1⟩) fun us s1 ⟨vs, H1, I1, r, q⟩ => ⟨I1.kIn, ?_⟩) he hpl
  exact run_m G hr hb tk I1 r q
theorem m_call0 (G : FnM X.prog X.w X.K X.mg X.base k f fd ps sp) (hr : Rm k X.A) (hm : X.mg x = some (.ref f)) (hk : PySem.W.keepIn X.K (.ref f) = true) (hb : Binds X.K fd ps []) (tk : TkM X B Es) (hg : Gl X x := by rfl) (hdb : (x == ("__debug__" : Str)) = false := by decide) :
    ME X B (.Call (.Name x p) [] [] pos) (wCall sp Es wNil) := by
  refine ⟨fun pins s σ H Q I ⟨F, h, σd, Q', l, s0, t, c⟩ => ?_⟩
  refine wpAny_Call_Name_kw (ld_glob I hg hm ?_ hdb)
  exact PySem.W.callWith_K0 I.kIn hk (run_m (us := []) (vs := []) G hr hb tk I .nil (sp_at s0 l c (Go.refl s0.sr) .nil t))
structure KwB (K : PySem.W.Frag) (fd : FuncData) (ps ks : List Str) (g : {α : Type} → List α → List α) : Prop where
  to : ∀ (s : Shared) (ws : List Value), K.In s.heap → ws.length = ks.length → BindsTo s fd ⟨[], ks.zip ws⟩ (ps.zip (g ws))
  rel : ∀ {zs : List V} {ws : List Value}, Vals zs ws → Vals (g zs) (g ws)
  relD : ∀ {K : PySem.W.Frag} {F : Hp} {ds : List D} {zs : List V}, RDs K F ds zs → RDs K F (g ds) (g zs)
variable {ks : List Str} {g : {α : Type} → List α → List α} {kws : List Keyword}
abbrev MK (X : Cx) (B : Bs) (kws : List Keyword) (t : WA) : Prop := PK X kws (liftA X.K B t)
theorem pk_mono {t t' : TA} (h : PK X kws t) (m : ∀ σ H Q, t' σ H Q → t σ H Q) : PK X kws t' := ⟨fun pos pins s σ H Q I q => h.run pos pins s σ H Q I (m σ H Q q)⟩
theorem mk_nil : MK X B [] wNil := pk_mono pk_nil fun σ H Q ⟨F, h, σd, Q', l, s, t, c⟩ => c F H h [] [] (Go.refl s.sr) .nil t
theorem mk_cons {ta : WE} {nm : Option Str} {kpos : Pos} (ha : ME X B e ta) (hr : MK X B kws wa) : MK X B (⟨nm, e, kpos⟩ :: kws) (wCons ta wa) :=
  pk_mono (pk_cons ha hr) fun σ H Q ⟨F, h, σd, Q', l, s, t, c⟩ => ⟨F, h, σd, _, l, s, t, fun F1 H1 h1 x u g1 rx t1 => ⟨F1, h1, σd, _, l.mono g1.ss, s.go g1, t1, fun F2 H2 h2 ds vs g2 rs t2 =>
    c F2 H2 h2 (x :: ds) (u :: vs) (g1.trans g2) (.cons (rx.mono g2.ss) rs) t2⟩⟩
def wCallK (sp : MSp) (Es : MSt → XQ) (n : Nat) (g : {α : Type} → List α → List α) (t : WA) : WE := fun σ h Q => t σ h fun ds h1 => ds.length = n ∧ sp (g ds) h1 Q (Es σ)
theorem m_callK (G : FnM X.prog X.w X.K X.mg X.base k f fd ps sp) (hr : Rm k X.A) (hm : X.mg x = some (.ref f)) (hk : PySem.W.keepIn X.K (.ref f) = true) (hb : KwB X.K fd ps ks g) (tk : TkM X B Es) (ha : MK X B kws wa) (hg : Gl X x := by rfl) (hdb : (x == ("__debug__" : Str)) = false := by decide)
    (hall : (backToKw pos (keywordEach kws X.env)).all (·.1.isSome) = true := by rfl) (hks : (backToKw pos (keywordEach kws X.env)).filterMap (·.1) = ks := by rfl)
    (hpl : ((backTo pos (starEach [] X.env)).any (·.1) || (backToKw pos (keywordEach kws X.env)).any (·.1.isNone)) = false := by rfl) : ME X B (.Call (.Name x p) [] kws pos) (wCallK sp Es ks.length g wa) := by
  refine ⟨fun pins s σ H Q I ⟨F, h, σd, Q', l, s0, t, c⟩ => ?_⟩
  refine wpAny_Call_Name_kw (ld_glob I hg hm ?_ hdb)
  refine PySem.W.callWith_KW0 (h₀ := X.base) I.ok.mod.kin hk hall (thn (ha.run pos pins s σ H (fun vs H1 => vs.length = ks.length ∧ liftSp X.K X.mg sp (g vs) H1 Q fun cls d H' => WB X.K X.mg B Es cls d σ H') I ⟨F, h, σd, _, l, s0, t, fun F1 H1 h1 ds vs g1 rs t1 => ?_⟩) fun ws s2 ⟨zs, H2, I2, rz, l2, q2⟩ => ⟨I2.kIn, ?_⟩) hpl
  · exact ⟨by rw [← rs.length]; exact t1.1, sp_at s0 l c g1 (hb.relD rs) t1.2⟩
  · rw [hks]
    have r2 := hb.rel rz
    show wpAny _ _ (call (.ref f) [] (ks.zip ws)) _ _ _
    refine wpAny_call (codeAny_mono (G.run X.A X.stack s2 H2 ⟨[], ks.zip ws⟩ (g ws) (g zs) Q _ hr I2.env0 (hb.to s2 ws I2.kIn (by rw [← rz.length]; exact l2)) r2 q2) fun r s' hq => ?_)
    cases r with
    | error e => exact passAt tk σ pins H2 s2 e s' I2 hq
    | ok fl =>
      cases fl with
      | ret u => exact I2.after hq
      | next => exact False.elim hq
      | brk => exact False.elim hq
      | cont => exact False.elim hq
end
end BP

set_option maxRecDepth 100000
set_option maxHeartbeats 4000000
namespace BP
open PySem PySem.W PySem.Calls PyProof.Rows PySem.HandSPX

def supExpr (fs : List (Str × Pos)) (p0 p1 p2 p3 : Pos) : PySem.Expr := .Call (.Attribute (.Call (.Name "super" p0) [] [] p1) "__init__" p2) (fs.map fun f => .Name f.1 f.2) [] p3
def supCall (fs : List (Str × Pos)) (p0 p1 p2 p3 p4 : Pos) : Stmt := .Expr (supExpr fs p0 p1 p2 p3) p4
def SupGoes (fs : List (Str × Pos)) (p0 p1 p2 p3 : Pos) : Prop := ∀ env : Env, (∃ pl : Sem Bool, eval (supExpr fs p0 p1 p2 p3) env = (do
  let ov ← attributeBase (.Call (.Name "super" p0) [] [] p1) "__init__" env (eval (.Call (.Name "super" p0) [] [] p1) env)
  standAt p2.atName
  let (f, first) ← holding [ov] (getMethod ov "__init__" pl)
  callWith p3 f first (backTo p3 (starEach (fs.map fun f => .Name f.1 f.2) env)) [])) ∧ ∀ l, swapsWith (supExpr fs p0 p1 p2 p3) none l env = pure false
def selfSet (f : Str × Pos × Pos × Pos × Pos) : Stmt := .Assign [.Attribute (.Name "self" f.2.1) f.1 f.2.2.1] (.Name f.1 f.2.2.2.1) f.2.2.2.2
structure XDef (fs : List Str) (st : Stmt) : Prop where
  body : ∃ (a : List (Str × Pos)) (b : List (Str × Pos × Pos × Pos × Pos)) (p0 p1 p2 p3 p4 : Pos), a.map (·.1) = fs ∧ b.map (·.1) = fs ∧ L2.defBody st = supCall a p0 p1 p2 p3 p4 :: b.map selfSet ∧ SupGoes a p0 p1 p2 p3
  par : ∃ ar, ((L2.defArgs st).posonlyargs ++ (L2.defArgs st).args).head? = some ar ∧ ar.arg = "self"
  kind : (L2.defScope st).kind = .function
  co : (L2.defScope st).isCoroutine = false
  gen : (L2.defScope st).isGenerator = false
  cells : ∀ x ∈ (L2.defScope st).names, x.2 ≠ .cell
  sup : (L2.defScope st).names.lookup ("super" : Str) = some .globalImplicit
  cls : (L2.defScope st).names.lookup ("__class__" : Str) = some .free
  slf : (L2.defScope st).names.lookup ("self" : Str) = some .local
  loc : ∀ f ∈ fs, (L2.defScope st).names.lookup f = some .local ∧ (f == ("__debug__" : Str)) = false ∧ f ≠ "self"
  nd : fs.Nodup
  ne : fs ≠ []
  bind : ∀ (qual : Str) (doc pm : Value) (an : Option Addr) (cdv ct : Value) (cc : Addr) (us : List Value), us.length = fs.length + 1 →
    bindArgs (fnX "__init__" qual (L2.defArgs st) (L2.defBody st) (L2.defScope st) [("__class__", cc)] .none .none doc pm an cdv ct) ⟨us, []⟩ = pure (((("self" : Str)) :: fs).zip us)
structure XCls (prog : Program) (K : Frag) (mg : Str → Option Value) (n : String) (C fI : Addr) (fs : List Str) : Prop where
  gC : mg (Str.ofString n) = some (.ref C)
  ox : L2.OexC K C
  noF : ∀ f ∈ fs, findIn K (.ref C) f = some none
  iC : findIn K (.ref C) "__init__" = some (some (.ref fI))
  tI : typeIn K (.ref fI) = some (.type "function")
  fn : ∃ (st : Stmt) (oc : Value) (od : Option Addr) (qual : Str) (doc pm : Value) (an : Option Addr) (cda : Addr) (ct : Value) (osl : Array (Option Value)) (cc : Addr) (vs : Array Value) (file : Str) (tf : Tok) (ccl : Value) (cdd : Option Addr) (ccs : Array (Option Value)) (cl : Value) (cld : Option Addr) (csl : Array (Option Value)),
    XDef fs st ∧ K.lookup fI = some ⟨oc, od, .func (fnX "__init__" qual (L2.defArgs st) (L2.defBody st) (L2.defScope st) [("__class__", cc)] .none .none doc pm an (.ref cda) ct), osl⟩ ∧ codeIn K (.ref cda) qual = true ∧
    K.lookup cda = some ⟨ccl, cdd, .fields vs, ccs⟩ ∧ vs[2]? = some (.str file tf) ∧ ((prog.main.file : Str) == file) = true ∧ K.lookup cc = some ⟨cl, cld, .cell (some (.ref C)), csl⟩
  su : ks_superIn K C C "__init__" = some (some (.builtin "ValueError.__init__"))
  sv : subIn K (.ref C) (.type "ValueError") = some true
  ss : mroIn K C (.ref C) = some true
  op : nsIn K cStatics "thirdparty.any" = some none
  ms : mg "super" = none
  tp : (prog.main.scope.names.lookup ("super" : Str)).isSome = false

section
variable {prog : Program} {w : World} {M : Model} {A : Around} {E : Value → Shared → Prop} {s : Shared} {env : Env}
theorem ld_loc {m : Str → Option Value} {x : Str} {pos : Pos} {v : Value} {Q : Value → Shared → Prop} (hn : s.heap.Ns env.locals m) (hv : m x = some v) (hk : env.scope.kind = .function) (hl : env.kindOf x = some .local) (hd : (x == ("__debug__" : Str)) = false) (h : Q v s) :
    wpAny M A (eval (.Name x pos) env) Q E s := wpAny_Name (wpAny_loadName_local hk hl hn hv h) hd
theorem back_cons {pos : Pos} {t : Sem Value} {r : List (Bool × Sem Value)} : backTo pos ((false, t) :: r) = (false, t) :: backTo pos r := rfl
theorem star_name {x : Str} {p : Pos} {es : List PySem.Expr} : starEach (.Name x p :: es) env = (false, eval (.Name x p) env) :: starEach es env := rfl
theorem spl_names {m : Str → Option Value} {pos : Pos} (hn : s.heap.Ns env.locals m) (hk : env.scope.kind = .function) : ∀ (fs : List (Str × Pos)) (vs : List Value) {Q : List Value → Shared → Prop}, Paired (fun f v => m f.1 = some v ∧ env.kindOf f.1 = some .local ∧ (f.1 == ("__debug__" : Str)) = false) fs vs → Q vs s →
    wpAny M A (spliced (backTo pos (starEach (fs.map fun f => PySem.Expr.Name f.1 f.2) env))) Q E s
  | [], _, Q, .nil, q => spliced_nil q
  | f :: fs, _, Q, .cons (b := v) ⟨h1, h2, h3⟩ r, q => by
    rw [List.map_cons, star_name, back_cons]
    exact spliced_cons (ld_loc hn h1 hk h2 h3 (spl_names hn hk fs _ r q))
theorem plain_names {pos : Pos} : ∀ fs : List (Str × Pos), (backTo pos (starEach (fs.map fun f => PySem.Expr.Name f.1 f.2) env)).any (·.1) = false
  | [] => rfl
  | f :: fs => by
    rw [List.map_cons, star_name, back_cons]
    show (false || (backTo pos (starEach (fs.map fun f => PySem.Expr.Name f.1 f.2) env)).any (·.1)) = false
    rw [plain_names fs]; rfl
end
section
variable {prog : Program} {w : World} {A : Around} {E : Value → Shared → Prop} {K : Frag} {mg : Str → Option Value} {n : String} {C fI : Addr} {fs : List Str}
theorem call_wrapped {h : Heap} {g : Array GenState} {d : Drawn} {t : Nat} {os : OsState} {nm q : Str} {N : Addr} {bs bm : List Value} {hdct : Bool} {sn : List Str} {sub : List Value} {ab : Bool} {col : Option Bool} {dd : Option Addr} {k0 k1 k2 k3 k5 : Option Value} {u x t0 : Addr} {rest : List Value} {Q : Value → Shared → Prop}
    (hC : h.get? C = some (excClassObj nm q C N bs bm hdct sn sub ab col dd k0 k1 k2 k3 k5 "ValueError.__new__")) (hx : h.get? x = some (excO C t0)) (hu : h.get? u = some (kxs_mw "ValueError.__init__" x)) (hz : rest.length ≤ sizeLine)
    (hq : ∀ h' t1, (∀ b o, b ≠ x → h.get? b = some o → h'.get? b = some o) → h'.get? x = some (excO C t1) → Q .none ⟨h', g, d, t, os⟩) : wpAny (model prog w) A (call (.ref u) rest) Q E ⟨h, g, d, t, os⟩ := by
  have FB := F.excBase_ValueError
  refine wpAny_call (codeAny_of_tree ?_)
  show wpAny _ A.in1 (callAny (.ref u) ⟨rest, []⟩) _ _ _
  simp only [callAny]
  refine wpAny_bind (wpAny_load hu ?_)
  have e1 : (Value.type "method-wrapper" == Value.type "method" || Value.type "method-wrapper" == Value.type "builtin_function_or_method" || Value.type "method-wrapper" == Value.type "method-wrapper") = true := by decide
  simp only [kxs_mw, e1, if_true]
  refine KFB.if_so (by decide) (wpAny_bind (check_bound_init FB.toExcCallFacts hC hx rfl (wpAny_bind (wpAny_pure (wpAny_pure ?_)))))
  exact ⟨plainId_quiet FB.init.plain _, codeAny_builtin FB.initEntry (exc_init_tree (cls := .ref C) (t0 := t0) (dv := none) (c2 := .none) (c3 := .none) (b4 := .bool false) hx hz fun h' k e' _ => hq h' _ k e')⟩
theorem x_super (T : XCls prog K mg n C fI fs) {st : Stmt} {qual : Str} {doc pm : Value} {an : Option Addr} {cda cc L x t0 : Addr} {ct : Value} {vs : Array Value} {file : Str} {tf : Tok} {oc ccl cl : Value} {od cdd cld : Option Addr} {osl ccs csl : Array (Option Value)} {m : Str → Option Value} {a : List (Str × Pos)} {p0 p1 p2 p3 p4 : Pos} {us : List Value} {body : List Stmt} {Q : Flow → Shared → Prop} {s : Shared}
    (D : XDef fs st) (sg : SupGoes a p0 p1 p2 p3) (ho : K.lookup fI = some ⟨oc, od, .func (fnX "__init__" qual (L2.defArgs st) (L2.defBody st) (L2.defScope st) [("__class__", cc)] .none .none doc pm an (.ref cda) ct), osl⟩)
    (hcode : K.lookup cda = some ⟨ccl, cdd, .fields vs, ccs⟩) (hvs : vs[2]? = some (.str file tf)) (hfile : ((prog.main.file : Str) == file) = true) (hcell : K.lookup cc = some ⟨cl, cld, .cell (some (.ref C)), csl⟩)
    (X : K.In s.heap) (G : s.heap.Ns mainGlobals mg) (Bt : ∃ mb, s.heap.Ns builtinsNs mb ∧ ∀ x : Str, x ≠ "__name__" → mb x = bootBuiltins x) (hx : s.heap.get? x = some (excO C t0)) (hn : s.heap.Ns L m) (hs : m "self" = some (.ref x))
    (ha : Paired (fun f v => m f.1 = some v ∧ (L2.defScope st).names.lookup f.1 = some .local ∧ (f.1 == ("__debug__" : Str)) = false) a us) (hne : us ≠ []) (hz : us.length ≤ sizeLine)
    (hq : ∀ h' t1 tk, (∀ b o, b ≠ x → s.heap.get? b = some o → h'.get? b = some o) → h'.get? x = some (excO C t1) → Q .next { s with heap := h', toks := tk }) :
    _root_.PySem.wpAt (model prog w) A (.func body (ksEnv qual (L2.defScope st) L fI (.ref cda) cc)) (exec (supCall a p0 p1 p2 p3 p4) (ksEnv qual (L2.defScope st) L fI (.ref cda) cc)) Q E s := by
  obtain ⟨nm, q, N, bs, bm, sn, sub, ab, col, dd, k0, k1, k2, k3, k5, hC, hbm⟩ := T.ox.cls
  obtain ⟨ar, har, hsf⟩ := D.par
  obtain ⟨mb, hmb, hbt⟩ := Bt
  have hcl : clsIn K C = some { name := nm, bases := bs, mro := .ref C :: bm, ns := N, qualname := q, hasDict := true, slotNames := sn, subclasses := sub, abstract := ab, collection := col, hasDel := false } := by unfold clsIn; rw [hC] <;> rfl
  have I0 : InstAt s.heap x (excO C t0) C none := ⟨hx, rfl, rfl, trivial⟩
  have hxC : x ≠ C := ks_ne X I0 hcl
  obtain ⟨hp, g, d, t, os⟩ := s
  have hi : interactive (ksEnv qual (L2.defScope st) L fI (.ref cda) cc) = false := by
    unfold interactive
    rw [show (ksEnv qual (L2.defScope st) L fI (.ref cda) cc).scope.kind = .function from D.kind]
    rfl
  obtain ⟨⟨pl, hev⟩, hsw⟩ := sg (ksEnv qual (L2.defScope st) L fI (.ref cda) cc)
  refine ks_wpAt_Expr_any ?_ hi (hsw _)
  refine ks_wpAt_MethodCall (pl := pl) ?_ hev
  have hk : (ksEnv qual (L2.defScope st) L fI (.ref cda) cc).scope.kind = .function := D.kind
  refine ks_wpAt_super_base (env := ksEnv qual (L2.defScope st) L fI (.ref cda) cc) D.sup D.cls (by decide +kernel) rfl (X _ _ ho) rfl har rfl (X _ _ hcode) rfl hvs hfile T.tp ?_
  refine ks_loadName_global hk D.sup (loadGlobal_builtin (env := ksEnv qual (L2.defScope st) L fI (.ref cda) cc) G T.ms hmb ((hbt "super" (by decide +kernel)).trans (by decide +kernel)) ⟨rfl, ?_⟩)
  refine wpAny_loadName_free hk D.cls rfl ⟨_, X _ _ hcell, rfl⟩ ?_
  rw [hsf]
  refine wpAny_loadName_local hk D.slf hn hs ?_
  refine ks_wpAny_isType_cls (X _ _ hC) rfl ⟨rfl, ?_⟩
  refine ks_wpAny_call_super (X _ _ hC) rfl hx rfl (fun c e => nomatch e) (looks_mroIn X T.ss) (fun h1 e1 kp1 => ?_)
  have X1 : K.In h1 := X.keeps kp1
  have hx1 := kp1 _ _ hx
  have I1 : InstAt h1 x (excO C t0) C none := ⟨hx1, rfl, rfl, trivial⟩
  have su := T.su
  unfold ks_superIn at su
  rw [hcl] at su
  refine kxs_getMethod kxs_ValueError e1 (looks_opaque X1 T.op) (l₀ := .ref C :: bm) (fun A Q E s k q => wpAny_bind ((looks_clsIn X1 hcl) A _ E s k (wpAny_pure q))) rfl X1 su (I1.type.andThen (looks_subIn X1 T.sv)) hxC (by decide +kernel) ?_
  have kp2 : ∀ b o, h1.get? b = some o → (h1.push (kxs_mw "ValueError.__init__" x)).get? b = some o := fun b o e => Heap.get?_push_of_some _ e
  have hmw : (h1.push (kxs_mw "ValueError.__init__" x)).get? h1.objs.size = some (kxs_mw "ValueError.__init__" x) := Heap.get?_push_at rfl rfl
  refine kxs_callWith (i := "ValueError.__init__") (x := x) (plain_names a) ?_
  have hn2 : (h1.push (kxs_mw "ValueError.__init__" x)).Ns L m := (hn.keeps kp1).keeps kp2
  have ev : ∀ {Q' : Args → Shared → Prop}, Q' ⟨us, []⟩ ⟨h1.push (kxs_mw "ValueError.__init__" x), g, d, t + 1, os⟩ → wpAny (model prog w) A (evalArgs (.ref h1.objs.size) true (backTo p3 (starEach (a.map fun f => PySem.Expr.Name f.1 f.2) (ksEnv qual (L2.defScope st) L fI (.ref cda) cc))) []) Q' E ⟨h1.push (kxs_mw "ValueError.__init__" x), g, d, t + 1, os⟩ := fun {Q'} q' => by
    cases ha with
    | nil => exact (hne rfl).elim
    | cons r rs =>
      have sp := spl_names (M := model prog w) (A := A) (E := E) (pos := p3) (env := ksEnv qual (L2.defScope st) L fI (.ref cda) cc) (s := ⟨h1.push (kxs_mw "ValueError.__init__" x), g, d, t + 1, os⟩) hn2 hk _ _ (Q := fun vs s' => Q' ⟨vs, []⟩ s') (Paired.cons r rs) q'
      rw [List.map_cons, star_name, back_cons] at sp ⊢
      exact evalArgs_plain sp
  refine ev ⟨hmw, ?_⟩
  show wpAny _ _ (call (.ref h1.objs.size) us) _ _ _
  exact call_wrapped (kp2 _ _ (X1 _ _ hC)) (kp2 _ _ hx1) hmw hz fun h' t1 k e' => hq h' t1 _ (fun b o hb e => k b o hb (kp2 _ _ (kp1 _ _ e))) e'
structure XEnd (h h' : Heap) (x C dx : Addr) (l : List (Str × Value)) : Prop where
  keep : ∀ b o, b ≠ x → h.get? b = some o → h'.get? b = some o
  obj : ∃ t1 : Addr, h'.get? x = some { cls := .ref C, dict := some dx, data := .fields #[.ref t1, .none, .none, .none, .bool false, .none] }
  dbig : h.objs.size ≤ dx
  dne : dx ≠ x
  ns : h'.Ns1 dx (fun y => l.lookup y)
theorem lookup_snoc {l : List (Str × Value)} {f : Str} {v : Value} (h : f ∉ l.map (·.1)) : (fun y => if y = f then some v else l.lookup y) = fun y => (l ++ [(f, v)]).lookup y := by
  funext y
  induction l with
  | nil =>
    by_cases e : y = f
    · subst e; simp [List.lookup]
    · have : (y == f) = false := by simpa using e
      simp [List.lookup, e, this]
  | cons p r ih =>
    obtain ⟨k, u⟩ := p
    simp only [List.map_cons, List.mem_cons, not_or] at h
    have ih := ih h.2
    rw [List.cons_append, List.lookup_cons, List.lookup_cons]
    by_cases e : y == k
    · have ek : y = k := by simpa using e
      rw [e]
      have : y ≠ f := fun z => h.1 (by rw [← z, ek])
      rw [if_neg this]
    · have e' : (y == k) = false := by simpa using e
      rw [e']
      exact ih
theorem within_lookup (l : List (Str × Value)) : Within (fun y => l.lookup y) (l.map (·.1)) := by
  intro y hy
  have hy' : (l.lookup y).isSome = true := by
    cases e : l.lookup y with
    | none => exact absurd e hy
    | some _ => rfl
  obtain ⟨v, e⟩ := Option.isSome_iff_exists.mp hy'
  exact List.mem_map_of_mem (f := (·.1)) (PySem.mem_of_lookup e)
theorem x_sets (T : XCls prog K mg n C fI fs) {cd : ClassData} (hcl : clsIn K C = some cd) (hm : refsVE cd.mro = true) (hh : cd.hasDict = true) {env : Env} {L x dx : Addr} {m : Str → Option Value} (hk : env.scope.kind = .function) (hL : env.locals = L) (hsl : env.kindOf "self" = some .local) (hs : m "self" = some (.ref x)) (hLd : L ≠ dx) :
    ∀ (b : List (Str × Pos × Pos × Pos × Pos)) (us : List Value) (l : List (Str × Value)) (s : Shared) {Q : Flow → Shared → Prop}, Paired (fun f v => m f.1 = some v ∧ env.kindOf f.1 = some .local ∧ (f.1 == ("__debug__" : Str)) = false ∧ f.1 ∈ fs) b us → ((l.map (·.1)) ++ b.map (·.1)).Nodup → l.length + b.length ≤ 1000 →
      K.In s.heap → s.heap.Ns L m → (∃ t1 : Addr, s.heap.get? x = some { cls := .ref C, dict := some dx, data := .fields #[.ref t1, .none, .none, .none, .bool false, .none] }) → s.heap.Ns1 dx (fun y => l.lookup y) → K.lookup dx = none → dx ≠ x →
      (∀ h' tk, (∀ b o, b ≠ dx → s.heap.get? b = some o → h'.get? b = some o) → h'.Ns1 dx (fun y => (l ++ (b.map (·.1)).zip us).lookup y) → Q .next { s with heap := h', toks := tk }) →
      wpAny (model prog w) A (execs (b.map selfSet) env) Q E s
  | [], _, l, s, Q, .nil, _, _, _, _, _, hns, _, _, hq => wpAny_execs_nil (by
      have := hq s.heap s.toks (fun _ _ _ e => e) (by simpa using hns)
      exact this)
  | f :: b, _, l, s, Q, .cons (b := v) ⟨h1, h2, h3, h4⟩ r, nd, hz, X, hn, ⟨t1, hx⟩, hns, hKd, hdx, hq => by
    rw [List.map_cons]
    have hn' : s.heap.Ns env.locals m := by rw [hL]; exact hn
    refine wpAny_execs_cons (plainObj_wpAny_Assign_Attribute (ld_loc hn' h1 hk h2 h3 (ld_loc hn' hs hk hsl (by decide +kernel) ?_)) rfl)
    obtain ⟨oD, esD, epD, hoD, hdD, _⟩ := hns.count (within_lookup l)
    refine set_plain X (ox := { cls := .ref C, dict := some dx, data := .fields #[.ref t1, .none, .none, .none, .bool false, .none] }) (od := some oD) ⟨hx, rfl, rfl, hoD⟩ T.ox.sa ?_
    refine OEX.osa_old (nl := l.map (·.1)) X hx hns (within_lookup l) (by rw [List.length_map]; simp only [List.length_cons] at hz; omega) hcl hm hh (T.noF _ h4) fun h' tk' k hns' => ?_
    have nf : f.1 ∉ l.map (·.1) := fun hm => by
      rw [List.map_cons, List.nodup_append] at nd
      exact nd.2.2 _ hm _ List.mem_cons_self rfl
    rw [lookup_snoc nf] at hns'
    have KX : K.In h' := fun a o e => k a o (fun z => by rw [z, hKd] at e; cases e) (X a o e)
    refine x_sets T hcl hm hh hk hL hsl hs hLd b _ (l ++ [(f.1, v)]) { s with heap := h', toks := tk' } r ?_ ?_ KX ?_ ⟨t1, k _ _ (Ne.symm hdx) hx⟩ hns' hKd hdx fun h2 tk2 k2 hns2 => ?_
    · rw [List.map_append, List.append_assoc]; simpa using nd
    · rw [List.length_append]; simp only [List.length_cons, List.length_nil] at hz ⊢; omega
    · obtain ⟨o, es, ep, e, r⟩ := hn; exact ⟨o, es, ep, k _ _ hLd e, r⟩
    · refine hq h2 tk2 (fun b o hb e => k2 b o hb (k b o hb e)) ?_
      rw [List.append_assoc] at hns2
      exact hns2
theorem lookup_rev {y : Str} : ∀ {l : List (Str × Value)}, (l.map (·.1)).Nodup → l.reverse.lookup y = l.lookup y
  | [], _ => rfl
  | (k, u) :: r, nd => by
    rw [List.map_cons, List.nodup_cons] at nd
    rw [List.reverse_cons]
    have key : ∀ (l : List (Str × Value)) (k : Str) (u : Value), k ∉ l.map (·.1) → (l ++ [(k, u)]).lookup y = if y = k then some u else l.lookup y := fun l k u h => (congrFun (lookup_snoc (v := u) h) y).symm
    rw [key r.reverse k u (by rw [List.map_reverse]; simpa using nd.1), lookup_rev nd.2, List.lookup_cons]
    by_cases e : y = k
    · subst e; simp
    · have : (y == k) = false := by simpa using e
      rw [if_neg e, this]
theorem lookup_zip : ∀ {fs : List Str} {us : List Value} {i : Nat} {f : Str} {v : Value}, fs.Nodup → fs[i]? = some f → us[i]? = some v → (fs.zip us).lookup f = some v
  | [], _, _, _, _, _, h, _ => by simp at h
  | _ :: _, [], _, _, _, _, _, h => by simp at h
  | g :: fs, u :: us, 0, f, v, _, h1, h2 => by
    simp at h1 h2; subst h1; subst h2
    simp [List.zip_cons_cons, List.lookup]
  | g :: fs, u :: us, i + 1, f, v, nd, h1, h2 => by
    rw [List.nodup_cons] at nd
    have hf : f ∈ fs := List.mem_of_getElem? (by simpa using h1)
    have : (f == g) = false := by simpa using fun z : f = g => nd.1 (z ▸ hf)
    rw [List.zip_cons_cons, List.lookup_cons, this]
    exact lookup_zip (i := i) nd.2 (by simpa using h1) (by simpa using h2)
theorem paired_by {α : Type} {P : Str → Value → Prop} (nm : α → Str) : ∀ {c : List α} {us : List Value}, c.length = us.length → (∀ (i : Nat) (f : Str) (v : Value), (c.map nm)[i]? = some f → us[i]? = some v → P f v) → Paired (fun x v => P (nm x) v) c us
  | [], [], _, _ => .nil
  | [], _ :: _, h, _ => by simp at h
  | _ :: _, [], h, _ => by simp at h
  | x :: c, v :: us, h, q => .cons (q 0 _ _ rfl rfl) (paired_by nm (by simpa using h) fun i f v h1 h2 => q (i + 1) f v (by simpa using h1) (by simpa using h2))
theorem x_initA (T : XCls prog K mg n C fI fs) {s : Shared} {R : Result → Shared → Prop} {x t0 : Addr} {us : List Value} {ar : Args} (hbA : ∀ (fd : FuncData) (oc : Value) (od : Option Addr) (osl : Array (Option Value)), K.lookup fI = some ⟨oc, od, .func fd, osl⟩ → bindArgs fd ar = pure ((("self" : Str) :: fs).zip (.ref x :: us))) (X : K.In s.heap) (hlim : s.heap.NoLimit) (G : s.heap.Ns mainGlobals mg) (Bt : ∃ mb, s.heap.Ns builtinsNs mb ∧ ∀ x : Str, x ≠ "__name__" → mb x = bootBuiltins x)
    (hx : s.heap.get? x = some (excO C t0)) (hKx : K.lookup x = none) (hgx : mainGlobals ≠ x) (hroom : A.depth < recursionLimit) (hl : us.length = fs.length) (hz : us.length ≤ 1000)
    (hq : ∀ h' tk dx, XEnd s.heap h' x C dx (fs.zip us) → R (.ok (.ret .none)) { s with heap := h', toks := tk }) : codeAny (model prog w) A (.call (.ref fI) ar) R s := by
  obtain ⟨st, oc, od, qual, doc, pm, an, cda, ct, osl, cc, vs, file, tf, ccl, cdd, ccs, cl, cld, csl, D, ho, hcd, hcode, hvs, hfile, hcell⟩ := T.fn
  obtain ⟨a, b, p0, p1, p2, p3, p4, ea, eb, hbody, sg⟩ := D.body
  obtain ⟨nm, q, N, bs, bm, sn, sub, ab, col, dd, k0, k1, k2, k3, k5, hC, hbm⟩ := T.ox.cls
  have hcl : clsIn K C = some { name := nm, bases := bs, mro := .ref C :: bm, ns := N, qualname := q, hasDict := true, slotNames := sn, subclasses := sub, abstract := ab, collection := col, hasDel := false } := by unfold clsIn; rw [hC] <;> rfl
  have hb := hbA _ _ _ _ ho
  refine ks_codeAny_call_defAt (fd := fnX "__init__" qual (L2.defArgs st) (L2.defBody st) (L2.defScope st) [("__class__", cc)] .none .none doc pm an (.ref cda) ct) (body := L2.defBody st) (binds := ((("self" : Str)) :: fs).zip (.ref x :: us)) hroom (X _ _ ho) rfl hlim (codeRec_of X hcd) rfl (.of_eq hb) D.cells (fun y hy => ?_) (fun h1 hns hk1 => ?_) D.co D.gen D.kind
  · have := (List.of_mem_zip hy).1
    rcases List.mem_cons.mp this with e | e
    · rw [e]; exact D.slf
    · exact (D.loc _ e).1
  · have ndS : ((("self" : Str)) :: fs).Nodup := List.nodup_cons.mpr ⟨fun h => (D.loc _ h).2.2 rfl, D.nd⟩
    have mz : (((("self" : Str)) :: fs).zip (Value.ref x :: us)).map (·.1) = ("self" : Str) :: fs := by
      rw [List.map_fst_zip (by simp [hl])]
    have mk : ∀ y, (((("self" : Str)) :: fs).zip (Value.ref x :: us)).reverse.lookup y = (((("self" : Str)) :: fs).zip (Value.ref x :: us)).lookup y := fun y => lookup_rev (by rw [mz]; exact ndS)
    have mself : (((("self" : Str)) :: fs).zip (Value.ref x :: us)).reverse.lookup ("self" : Str) = some (.ref x) := by
      rw [mk]; exact lookup_zip (i := 0) ndS rfl rfl
    have mf : ∀ (i : Nat) (f : Str) (v : Value), fs[i]? = some f → us[i]? = some v → (((("self" : Str)) :: fs).zip (Value.ref x :: us)).reverse.lookup f = some v := fun i f v h1 h2 => by
      rw [mk]; exact lookup_zip (i := i + 1) ndS (by simpa using h1) (by simpa using h2)
    have la : a.length = us.length := by rw [hl, ← ea, List.length_map]
    have lb : b.length = us.length := by rw [hl, ← eb, List.length_map]
    have hune : us ≠ [] := fun z => D.ne (List.length_eq_zero_iff.mp (by rw [← hl, z]; rfl))
    have hxL : s.heap.objs.size ≠ x := Nat.ne_of_gt (Heap.lt_size hx)
    have hsz : us.length ≤ sizeLine := Nat.le_trans hz (by decide)
    rw [hbody]
    refine ks_wpAt_execs_cons ?_
    refine x_super T (st := st) (L := s.heap.objs.size) (us := us) (s := { s with heap := h1, toks := s.toks + (((("self" : Str)) :: fs).zip (Value.ref x :: us)).length }) D sg ho hcode hvs hfile hcell (X.keeps hk1) (G.keeps hk1) (by obtain ⟨mb, e1, e2⟩ := Bt; exact ⟨mb, e1.keeps hk1, e2⟩) (hk1 _ _ hx) hns mself
      (paired_by (P := fun f v => (((("self" : Str)) :: fs).zip (Value.ref x :: us)).reverse.lookup f = some v ∧ (L2.defScope st).names.lookup f = some .local ∧ (f == ("__debug__" : Str)) = false) (·.1) la fun i f v e1 e2 => by
        rw [ea] at e1
        exact ⟨mf i f v e1 e2, (D.loc f (List.mem_of_getElem? e1)).1, (D.loc f (List.mem_of_getElem? e1)).2.1⟩) hune hsz fun h2 t2 tk2 kp2 e2 => ?_
    have k2' : ∀ c o, c ≠ x → s.heap.get? c = some o → h2.get? c = some o := fun c o hc e => kp2 c o hc (hk1 c o e)
    have X2 : K.In h2 := fun c o e => k2' c o (fun z => by rw [z, hKx] at e; cases e) (X c o e)
    have hn2 : h2.Ns s.heap.objs.size (fun y => (((("self" : Str)) :: fs).zip (Value.ref x :: us)).reverse.lookup y) := by
      obtain ⟨o, es, ep, e, r⟩ := hns; exact ⟨o, es, ep, kp2 _ _ hxL e, r⟩
    refine wpAt_of_wpAny ?_
    cases b with
    | nil => exact (hune (List.length_eq_zero_iff.mp lb.symm)).elim
    | cons f0 b0 =>
      cases us with
      | nil => exact (hune rfl).elim
      | cons v0 us0 =>
        rw [List.map_cons]
        have ef0 : fs[0]? = some f0.1 := by rw [← eb]; rfl
        have m0 : f0.1 ∈ fs := List.mem_of_getElem? ef0
        have l0 := D.loc _ m0
        have fss : fs = f0.1 :: b0.map (·.1) := by rw [← eb]; rfl
        refine wpAny_execs_cons (plainObj_wpAny_Assign_Attribute (ld_loc hn2 (mf 0 _ _ ef0 rfl) D.kind l0.1 l0.2.1 (ld_loc hn2 mself D.kind D.slf (by decide +kernel) ?_)) rfl)
        refine set_plain X2 (ox := excO C t2) (od := none) ⟨e2, rfl, rfl, trivial⟩ T.ox.sa ?_
        refine exc_osa X2 e2 hcl (show refsVE (.ref C :: bm) = true from hbm) rfl (T.noF _ m0) fun h3 tk3 dx k3 dbig dne e3 hns3 => ?_
        have hLd : s.heap.objs.size < dx := Nat.lt_of_lt_of_le hn2.lt dbig
        have hKd : K.lookup dx = none := by
          cases z : K.lookup dx with
          | none => rfl
          | some o => exact absurd (Nat.lt_of_lt_of_le (Heap.lt_size (X2 _ _ z)) dbig) (Nat.lt_irrefl _)
        have e1 : (fun y => if y = f0.1 then some v0 else none) = fun y => ([(f0.1, v0)] : List (Str × Value)).lookup y := by
          have := lookup_snoc (l := []) (f := f0.1) (v := v0) (by simp)
          simpa using this
        rw [e1] at hns3
        refine x_sets T hcl (show refsVE (.ref C :: bm) = true from hbm) rfl (env := ksEnv qual (L2.defScope st) s.heap.objs.size fI (.ref cda) cc) (m := fun y => ((("self" : Str) :: fs).zip (Value.ref x :: v0 :: us0)).reverse.lookup y) D.kind rfl D.slf mself (Nat.ne_of_lt hLd) b0 us0 [(f0.1, v0)] _ ?_ ?_ ?_ (fun c o e => k3 c o (fun z => by rw [z, hKx] at e; cases e) (X2 c o e)) ?_ ⟨t2, e3⟩ hns3 hKd dne fun h4 tk4 k4 hns4 => ?_
        · refine paired_by (P := fun f v => (((("self" : Str)) :: fs).zip (Value.ref x :: v0 :: us0)).reverse.lookup f = some v ∧ (L2.defScope st).names.lookup f = some .local ∧ (f == ("__debug__" : Str)) = false ∧ f ∈ fs) (fun y : Str × Pos × Pos × Pos × Pos => y.1) (by simpa using lb) fun i f v h1 h2 => ?_
          have e1 : fs[i + 1]? = some f := by rw [fss]; simpa using h1
          have lf := D.loc f (List.mem_of_getElem? e1)
          exact ⟨mf (i + 1) f v e1 (by simpa using h2), lf.1, lf.2.1, List.mem_of_getElem? e1⟩
        · have := D.nd
          rw [fss] at this
          simpa using this
        · have : b0.length = us0.length := by simpa using lb
          simp only [List.length_cons, List.length_nil] at hz ⊢
          omega
        · obtain ⟨o, es, ep, e, r⟩ := hn2; exact ⟨o, es, ep, k3 _ _ hxL e, r⟩
        · refine hq h4 tk4 dx ⟨fun c o hc e => ?_, ⟨t2, k4 _ _ (Ne.symm dne) e3⟩, Nat.le_of_lt hLd, dne, ?_⟩
          · exact k4 c o (Nat.ne_of_lt (Nat.lt_trans (Heap.lt_size e) hLd)) (k3 c o hc (k2' c o hc e))
          · rw [fss, List.zip_cons_cons]
            simpa using hns4
theorem x_init (T : XCls prog K mg n C fI fs) {s : Shared} {R : Result → Shared → Prop} {x t0 : Addr} {us : List Value} (X : K.In s.heap) (hlim : s.heap.NoLimit) (G : s.heap.Ns mainGlobals mg) (Bt : ∃ mb, s.heap.Ns builtinsNs mb ∧ ∀ x : Str, x ≠ "__name__" → mb x = bootBuiltins x)
    (hx : s.heap.get? x = some (excO C t0)) (hKx : K.lookup x = none) (hgx : mainGlobals ≠ x) (hroom : A.depth < recursionLimit) (hl : us.length = fs.length) (hz : us.length ≤ 1000)
    (hq : ∀ h' tk dx, XEnd s.heap h' x C dx (fs.zip us) → R (.ok (.ret .none)) { s with heap := h', toks := tk }) : codeAny (model prog w) A (.call (.ref fI) ⟨.ref x :: us, []⟩) R s := by
  refine x_initA T (fun fd oc od osl e => ?_) X hlim G Bt hx hKx hgx hroom hl hz hq
  obtain ⟨st, oc', od', qual, doc, pm, an, cda, ct, osl', cc, vs, file, tf, ccl, cdd, ccs, cl, cld, csl, D, ho, _⟩ := T.fn
  rw [ho] at e
  cases e
  exact D.bind qual doc pm an (.ref cda) ct cc (.ref x :: us) (by rw [List.length_cons, hl])
end
end BP

set_option maxRecDepth 100000
set_option maxHeartbeats 4000000
namespace BP
open PySem PySem.Spec PyProof.Rows L2

theorem relO_zip : ∀ (fs : List Str) {vs : List V} {us : List Value} (f : Str), Vals vs us → RelO ((fs.zip vs).lookup f) ((fs.zip us).lookup f)
  | [], _, _, f, _ => by simp [List.zip, List.lookup]; exact True.intro
  | _ :: _, _, _, f, .nil => by simp [List.zip, List.lookup]; exact True.intro
  | g :: fs, _, _, f, .cons r rs => by
    rw [List.zip_cons_cons, List.zip_cons_cons, List.lookup_cons, List.lookup_cons]
    cases f == g with
    | true => exact r
    | false => exact relO_zip fs f rs
theorem rdf_zip {K : PySem.W.Frag} {F : Hp} : ∀ (fs : List Str) {ds : List D} {vs : List V}, RDs K F ds vs → RDf K F (fs.zip ds) (fs.zip vs)
  | [], _, _, _ => .nil
  | _ :: _, _, _, .nil => .nil
  | _ :: fs, _, _, .cons r rs => .cons r (rdf_zip fs rs)
def tMkX (C : Addr) (fs : List Str) (ta : TA) : L2.St → Hp → XK → Prop := fun σ H Q => ta σ H fun vs H1 => vs.length = fs.length ∧ vs.length ≤ 1000 ∧ ∀ d, H1 d = none → Q (.ref C) (some d) (upd H1 d (.xd (fs.zip vs)))
section
variable {X : Cx} {B : Bs} {e : Expr} {es : List Expr} {ta : TA} {wa : WA} {n : String} {C fI : Addr} {fs : List Str} {k : Nat} {p pos pos2 : Pos} {Es : MSt → XQ}
theorem pmk_x (T : XCls X.prog X.K X.mg n C fI fs) (hr : Room (k + 1) X.A) (ha : PA X (e :: es) ta) (hg : Gl X (Str.ofString n) := by rfl) (hdb : (Str.ofString n == ("__debug__" : Str)) = false := by decide)
    (he : starEach (e :: es) X.env = (false, eval e X.env) :: starEach es X.env := by rfl) (hpl : (backTo pos (starEach es X.env)).any (·.1) = false := by rfl) :
    PMk X (.Call (.Name (Str.ofString n) p) (e :: es) [] pos) (tMkX C fs ta) := by
  intro pins s σ H Q I h
  obtain ⟨nm, q, N, bs, bm, sn, sub, ab, col, dd, k0, k1, k2, k3, k5, hC, hbm⟩ := T.ox.cls
  refine wpAny_Call_Name_kw (ld_glob I hg T.gC ?_ hdb)
  refine PySem.W.callWith_K (h₀ := X.base) I.ok.mod.kin T.ox.kC (thn (ha.run pos pins s σ H _ I h) fun us s1 ⟨vs, H1, I1, r1, hl, hz, q1⟩ => ⟨I1.kIn, ?_⟩) he hpl
  show wpAny _ _ (call (.ref C) us) _ _ _
  have hlim := I1.nolimit
  have hgl := I1.mod.glob.keeps I1.bk
  have hbl : ∃ mb, s1.heap.Ns builtinsNs mb ∧ ∀ x : Str, x ≠ "__name__" → mb x = bootBuiltins x := by
    obtain ⟨mb, e1, e2⟩ := I1.mod.blt
    exact ⟨mb, e1.keeps I1.bk, e2⟩
  obtain ⟨hp, g, dr, tk, os⟩ := s1
  have hlu : us.length = fs.length := by rw [← r1.length]; exact hl
  have hzu : us.length ≤ 1000 := by rw [← r1.length]; exact hz
  have kk : ∀ b o, hp.get? b = some o → ((hp.push (PySem.W.kdv_tup us)).push (PySem.HandSPX.excO C hp.objs.size)).get? b = some o := fun b o e => Heap.get?_push_of_some _ (Heap.get?_push_of_some _ e)
  have hget : ((hp.push (PySem.W.kdv_tup us)).push (PySem.HandSPX.excO C hp.objs.size)).get? (hp.objs.size + 1) = some (PySem.HandSPX.excO C hp.objs.size) := by heap_get
  have hnew : ∀ {b : Addr} {o : Obj}, hp.get? b = some o → b ≠ hp.objs.size + 1 := fun {b o} z => Nat.ne_of_lt (Nat.lt_succ_of_lt (Heap.lt_size z))
  have hKx : X.K.lookup (hp.objs.size + 1) = none := by
    cases z : X.K.lookup (hp.objs.size + 1) with
    | none => rfl
    | some o => exact (hnew (I1.kIn _ _ z) rfl).elim
  have hgx : mainGlobals ≠ hp.objs.size + 1 := by
    obtain ⟨o, es, ep, e1, _⟩ := hgl
    exact hnew e1
  refine wpAny_call (PySem.HandSPX.call_own F.excBase_ValueError (fun Y => PySem.HandSPX.refsVE_contains Y bm hbm) (I1.kIn _ _ hC) (PySem.W.looks_findIn I1.kIn T.iC) (fun self => PySem.W.bind_fn I1.kIn self T.tI) (Nat.le_trans hzu (by decide)) ?_)
  refine x_init T (s := ⟨(hp.push (PySem.W.kdv_tup us)).push (PySem.HandSPX.excO C hp.objs.size), g, dr, tk, os⟩) (I1.kIn.keeps kk) (hlim.keeps kk) (hgl.keeps kk) (by obtain ⟨mb, e1, e2⟩ := hbl; exact ⟨mb, e1.keeps kk, e2⟩) hget hKx hgx (hr.make C us []).depth hlu hzu fun h' tk' d M => ?_
  refine ⟨rfl, ?_⟩
  show MkP X pins σ Q (.ref (hp.objs.size + 1)) ⟨h', g, dr, tk', os⟩
  obtain ⟨t1, hoe⟩ := M.obj
  have hns := M.ns
  have dbig : hp.objs.size ≤ d := Nat.le_trans (by show hp.objs.size ≤ ((hp.push _).push _).objs.size; simp [Heap.push]; omega) M.dbig
  obtain ⟨G', g1, g2⟩ := restrict h' fun b => decide (b ≠ hp.objs.size + 1)
  have gk : ∀ b, b ≠ hp.objs.size + 1 → G'.get? b = h'.get? b := fun b hb => g1 b (decide_eq_true hb)
  have ge : G'.get? (hp.objs.size + 1) = none := g2 _ (by simp)
  have old : ∀ b o, hp.get? b = some o → G'.get? b = some o := fun b o q => (gk b (hnew q)).trans (M.keep b o (hnew q) (kk b o q))
  have ob : ObjOk X.prog X.w (upd H1 d (.xd (fs.zip vs))) G' d (.xd (fs.zip vs)) := ⟨_, hns.at (fun o q => (gk d M.dne).trans q), fun f => relO_zip fs f r1⟩
  have J : Inv X pins σ (upd H1 d (.xd (fs.zip vs))) ⟨G', g, dr, tk', os⟩ := I1.laid (t' := tk') old dbig ob
  refine ⟨_, _, _, ⟨G', g, dr, tk', os⟩, _, .ref C, some d, rfl, J, fun b o q => ?_, ge, hoe, ⟨rfl, rfl⟩, rfl, rfl, ?_, rfl, I1.bare, raises_own T.ox.exC T.ox.tyC, q1 d (I1.hok.fresh dbig)⟩
  · by_cases hb : b = hp.objs.size + 1
    · have q' : G'.get? b = some o := q
      rw [hb, ge] at q'; cases q'
    · exact (gk b hb).symm.trans q
  · rw [upd_ne (Ne.symm M.dne)]
    exact I1.hok.fresh (Nat.le_succ _)
def wRaise (Es : MSt → XQ) (n : String) (fs : List Str) (wa : WA) : WS := fun _ σ h => wa σ h fun ds h1 => ds.length = fs.length ∧ ds.length ≤ 1000 ∧ Es σ n (fs.zip ds) h1
theorem ms_raise (hc : X.calm = true) (T : XCls X.prog X.K X.mg n C fI fs) (hr : Room (k + 1) X.A) (tk : TkM X B Es) (ha : MA X B (e :: es) wa) (hg : Gl X (Str.ofString n) := by rfl) (hdb : (Str.ofString n == ("__debug__" : Str)) = false := by decide)
    (he : starEach (e :: es) X.env = (false, eval e X.env) :: starEach es X.env := by rfl) (hpl : (backTo pos (starEach es X.env)).any (·.1) = false := by rfl) :
    MS X B (.Raise (some (.Call (.Name (Str.ofString n) p) (e :: es) [] pos)) none pos2) (wRaise Es n fs wa) :=
  ps_mono (ps_raise hc tk (pmk_x T hr ha hg hdb he hpl)) fun E σ H ⟨F, h, σd, D', l, s, t, c⟩ => ⟨F, h, σd, _, l, s, t, fun F1 H1 h1 ds vs g1 rs t1 => by
    refine ⟨by rw [← rs.length]; exact t1.1, by rw [← rs.length]; exact t1.2.1, fun d nd => ?_⟩
    have gs := Go.settled (o := .xd (fs.zip vs)) g1.sr nd
    exact ⟨_, h1, σd, n, C, d, fs.zip ds, fs.zip vs, rfl, rfl, T.gC, (s.all.trans g1).trans gs, l.mono (g1.trans gs).ss, upd_same, rdf_zip fs (rs.mono gs.ss), t1.2.2⟩⟩
end
end BP

set_option maxRecDepth 100000
set_option maxHeartbeats 4000000
namespace BP
open PySem PySem.Spec PyProof.Rows L2

abbrev Cl := Value × Option Nat × (Addr → Value → Option Addr → TS)
def ClName (X : Cx) : Option Str → Option Nat → Prop
  | none, none => True
  | some y, some i => X.N[i]? = some y ∧ X.env.kindOf y = some .local
  | _, _ => False
inductive ClsOk (X : Cx) : List ExceptHandler → List Cl → Prop
  | nil : ClsOk X [] []
  | cons {x : Str} {c : Value} {y : Option Str} {o : Option Nat} {ts : Addr → Value → Option Addr → TS} {st : Stmt} {sts : List Stmt} {p1 p2 : Pos} {hr : List ExceptHandler} {lr : List Cl} (nm : Names X x c) (no : ClName X y o)
      (su : ∀ (a : Addr) (ob : Obj) (cls : Value) (d : Option Addr) (pn : List (Addr × Obj)), Zc cls d ob → (∃ vs, ob.data = .fields vs) → PSs (X.suite a ((a, ob) :: pn)) (st :: sts) (ts a cls d)) (rest : ClsOk X hr lr) :
      ClsOk X (.ExceptHandler (some (.Name x p1)) y (st :: sts) p2 :: hr) ((c, o, ts) :: lr)
section
variable {X : Cx} {pins : List (Addr × Obj)} {G : Hp} {τ : L2.St} {S : Shared} {D : Ends} {W0 : WX}
structure Caught (X : Cx) (pins : List (Addr × Obj)) (τ : L2.St) (G : Hp) (B : Heap) (cls : Value) (d : Option Addr) (a : Addr) (S : Shared) : Prop where
  fly : HandSPX.FlyingZ B (X.env :: X.outer) a (Zc cls d) S.heap
  next : ∀ h', HandSPX.FlyingZ B (X.env :: X.outer) a (Zc cls d) h' → S.heap.UpToSlots h' → Inv X pins τ G { S with heap := h' }
  up : ∀ h', HandSPX.HeldZ B (X.env :: X.outer) a (Zc cls d) X.env.locals h' → S.heap.UpToSlots h' → ∀ W : WX, W cls d τ G → XE X W (.ref a) { S with heap := h' }
  free : G a = none
  nL : a ≠ X.env.locals
  nF : a ∉ X.fs
end
end BP

set_option maxRecDepth 100000
set_option maxHeartbeats 4000000
namespace BP
open PySem PySem.Spec PyProof.Rows L2

structure MCl where
  c : Value
  sl : Option Nat
  is : String → Bool
  rd : Addr → Addr → String → WS
def mputE (o : Option Nat) (d : D) (σ : MSt) : MSt := match o with
  | some i => σ.set i (some d)
  | none => σ
def moffS (o : Option Nat) (σ : MSt) : MSt := match o with
  | some i => σ.set i none
  | none => σ
def moffE (o : Option Nat) (E : MEnds) : MEnds := { nx := fun τ g => E.nx (moffS o τ) g, rt := E.rt, bk := fun τ g => E.bk (moffS o τ) g, ct := fun τ g => E.ct (moffS o τ) g }
def wHd (known : String → Bool) (Es : MSt → XQ) (E : MEnds) : List MCl → MSt → XQ
  | [] => Es
  | k :: r => fun σ n fs h => known n = true ∧ if k.is n = true then ∀ a dd, k.rd a dd n (moffE k.sl E) (mputE k.sl (.exc a dd n fs) σ) h else wHd known Es E r σ n fs h
def wTry (known : String → Bool) (Es : MSt → XQ) (tb : (MSt → XQ) → WS) (l : List MCl) : WS := fun E σ h => tb (wHd known Es E l) E σ h
section
variable {X : Cx} {known : String → Bool} {Es : MSt → XQ}
def liftCl (K : PySem.W.Frag) (mg : Str → Option Value) (k : MCl) : Cl := (k.c, k.sl, fun a cls d E τ G => ∃ (B : Bs) (n : String) (dd C : Addr), cls = .ref C ∧ d = some dd ∧ mg (Str.ofString n) = some (.ref C) ∧ liftS K B (k.rd a dd n) E τ G)
inductive MCls (X : Cx) (known : String → Bool) : List ExceptHandler → List MCl → Prop
  | nil : MCls X known [] []
  | cons {x : Str} {c : Value} {y : Option Str} {o : Option Nat} {is : String → Bool} {rd : Addr → Addr → String → WS} {st : Stmt} {sts : List Stmt} {p1 p2 : Pos} {hr : List ExceptHandler} {lr : List MCl} (nm : Names X x c) (no : ClName X y o)
      (ex : ∀ (n : String) (C : Addr), X.mg (Str.ofString n) = some (.ref C) → known n = true → PySem.W.exmOne X.K (.ref C) c = some (is n))
      (su : ∀ (B : Bs) (a dd C : Addr) (n : String) (ob : Obj) (pn : List (Addr × Obj)), Zc (.ref C) (some dd) ob → (∃ vs, ob.data = .fields vs) → X.mg (Str.ofString n) = some (.ref C) → MSs (X.suite a ((a, ob) :: pn)) B (st :: sts) (rd a dd n)) (rest : MCls X known hr lr) :
      MCls X known (.ExceptHandler (some (.Name x p1)) y (st :: sts) p2 :: hr) (⟨c, o, is, rd⟩ :: lr)
theorem MCls.ok {hds : List ExceptHandler} {l : List MCl} (h : MCls X known hds l) : ClsOk X hds (l.map (liftCl X.K X.mg)) := by
  induction h with
  | nil => exact .nil
  | @cons x c y o is rd st sts p1 p2 hr lr nm no ex su rest ih =>
    refine .cons nm no (fun a ob cls d pn z1 z2 => ⟨fun pins s σ H E I ⟨B, n, dd, C, e1, e2, e3, q⟩ => ?_⟩) ih
    subst e1 e2
    exact (su B a dd C n ob pn z1 z2 e3).run pins s σ H E I q
end
structure XGet (K : PySem.W.Frag) (C : Addr) : Prop where
  ga : PySem.W.findIn K (.ref C) "__getattribute__" = some (some (.builtin "BaseException.__getattribute__"))
  gg : PySem.W.findIn K (.ref C) "__getattr__" = some none
  hd : PySem.W.hasDictIn K C = true
section
variable {X : Cx} {B : Bs} {n0 : String} {C0 fI : Addr} {fs0 : List Str} {e : Expr} {te : WE} {a dd C : Addr} {n : String} {ob : Obj} {pn : List (Addr × Obj)} {f : Str} {pos : Pos}
def wXf (n0 : String) (a dd : Addr) (n f : Str) (te : WE) : WE := fun σ h Q => n = Str.ofString n0 ∧ te σ h fun x h1 => match x with
  | .exc a' dd' _ fs => a' = a ∧ dd' = dd ∧ (match fs.lookup f with | some v => Q v h1 | none => False)
  | _ => False
end
end BP

set_option maxRecDepth 100000
set_option maxHeartbeats 4000000
namespace BP
open PySem PySem.Spec PyProof.Rows L2
abbrev wDiv (a b : WE) : WE := wOp (opI2 divOk fun i j => i / j) a b
abbrev wMod (a b : WE) : WE := wOp (opI2 modOk fun i j => i % j) a b
abbrev wPow (a b : WE) : WE := wOp (opI2 powOk fun i j => i ^ j.toNat) a b
abbrev wShl (a b : WE) : WE := wOp (opI2 shlOk fun i j => i * 2 ^ j.toNat) a b
abbrev wShr (a b : WE) : WE := wOp (opI2 shrOk fun i j => i / 2 ^ j.toNat) a b
abbrev wLe (a b : WE) : WE := wOp (opB2 fun i j => decide (i ≤ j)) a b
abbrev wGt (a b : WE) : WE := wOp (opB2 fun i j => decide (j < i)) a b
abbrev wGe (a b : WE) : WE := wOp (opB2 fun i j => decide (j ≤ i)) a b
abbrev wLeLe (a b c : WE) : WE := wChain (opB2 fun i j => decide (i ≤ j)) (opB2 fun i j => decide (i ≤ j)) a b c
abbrev wLeLt (a b c : WE) : WE := wChain (opB2 fun i j => decide (i ≤ j)) (opB2 fun i j => decide (i < j)) a b c
abbrev wIsi (ns : List String) (a : WE) : WE := wUn (fIsi ns) a
abbrev fAll : List D → MH → MQ → Prop := fBools fun bs => bs.all id
section
variable {X : Cx} {B : Bs} {a b : Expr} {ta tb : WE} {pos : Pos}
theorem pe_ty {x : Str} {n : String} (hm : X.mg x = none) (hv : bootBuiltins x = some (.type n)) (hg : Gl X x := by rfl) (hn : x ≠ "__name__" := by decide) (hd : (x == ("__debug__" : Str)) = false := by decide) : PE X (.Name x pos) (tC (.ty n)) :=
  pe_bltn hg hm hv rfl hn hd
def opMulM (x y : D) (h : MH) (Q : MQ) : Prop := match y with
  | .int k => match lsOf h x with
    | some a => (-(2 ^ 63) ≤ k ∧ k < 2 ^ 63 ∧ a.length * k.toNat ≤ sizeLine) ∧ ∀ p, h p = none → Q (.ref p) (mupd h p (.lst (List.replicate k.toNat a).flatten))
    | none => False
  | _ => False
theorem opMulM_d {K : PySem.W.Frag} : OpD K (rMulA K) opMulM := fun F H h x y u v Q' Q s rx ry t c => by
  unfold opMulM at t
  split at t
  · cases ry
    split at t
    · rename_i a ea
      obtain ⟨p, xs, rfl, hp, r⟩ := ls_rd s rx ea
      obtain ⟨⟨h1, h2, h3⟩, t2⟩ := t
      exact .inl (.inr ⟨p, _, xs, rfl, rfl, hp, h1, h2, by rw [← r.length]; exact h3, fun z hz => c.newM s hz (r.rep _) t2⟩)
    · exact t.elim
  · exact t.elim
theorem m_mulM (ha : ME X B a ta) (hb : ME X B b tb) : ME X B (.BinOp a .Mult b pos) (wOp opMulM ta tb) := m_bin op_mulA opMulM_d ha hb
end
end BP

set_option maxRecDepth 100000
set_option maxHeartbeats 4000000
namespace BP
open PySem PySem.Spec PyProof.Rows L2
theorem exm_of {K : PySem.W.Frag} {C S : Addr} {b : Bool} (h1 : PySem.W.subIn K (.ref S) (.type "BaseException") = some true) (h2 : PySem.W.isClsIn K S = true) (h3 : PySem.W.typeIn K (.ref S) = some (.type "type")) (h4 : PySem.W.subIn K (.ref C) (.ref S) = some b) :
    PySem.W.exmOne K (.ref C) (.ref S) = some b := by
  unfold PySem.W.exmOne PySem.W.kitCls
  have h2' : (PySem.W.clsIn K S).isSome = true := h2
  simp [h1, h2', h3, h4]
def clsBody : Stmt → List Stmt
  | .ClassDef _ _ _ b _ _ _ _ _ _ _ => b
  | _ => []
end BP

set_option maxRecDepth 100000
set_option maxHeartbeats 4000000
namespace BP
open PySem PySem.Spec PyProof.Rows L2 LamX
def LamH (q : Str) (P : Addr) (ps : Array Value) (c' : Addr) (H H1 : Hp) : Prop := (H1 = H ∧ ∃ z : Pos, codeAmong z ps.toList = some (.ref c')) ∨ ∃ more : Array Value, H c' = none ∧ TriplesOk (ps ++ more).toList ∧ (∀ (z : Pos) (cv : Value), codeAmong z (ps ++ more).toList = some cv → codeAmong z ps.toList = some cv ∨ cv = .ref c') ∧
  H1 = upd (upd H P (.tbl (ps ++ more))) c' (CodeO c' q)
section
variable {X : Cx} {pins : List (Addr × Obj)} {σ : L2.St} {H : Hp} {s : Shared}
end
theorem LamH.go {K : PySem.W.Frag} {F H H1 : Hp} {h : MH} {P c' : Addr} {q : Str} {ps : Array Value} (s : SR K F H h) (m : h P = some (.tbl q)) (eP : H P = some (.tbl ps)) (al : ∀ (z : Pos) (cv : Value), codeAmong z ps.toList = some cv → ∃ c, cv = .ref c ∧ F c = some (CodeO c q))
    (x : LamH q P ps c' H H1) : ∃ F1, Go K F H h F1 H1 h ∧ F1 c' = some (CodeO c' q) := by
  rcases x with ⟨rfl, z, hz⟩ | ⟨more, nC, tr, am, rfl⟩
  · obtain ⟨c, e1, e2⟩ := al z _ hz
    cases e1
    exact ⟨F, Go.refl s, e2⟩
  · have nF := s.freeF nC
    have nM := s.freeM nC
    have nP : F P = none := (s.cell P _ m).1
    have hPc : P ≠ c' := ne_of_none eP nC
    refine ⟨upd F c' (CodeO c' q), ⟨same_upd nF, fun a o e f n => ?_, ⟨fun a o e => ?_, fun a c e => ?_⟩⟩, upd_same⟩
    · have ac : a ≠ c' := ne_of_none e nC
      have aP : a ≠ P := fun z => by rw [z, m] at n; cases n
      exact ⟨by rw [upd_ne ac]; exact f, n, by rw [upd_ne ac, upd_ne aP]; exact e⟩
    · by_cases ac : a = c'
      · subst ac; rw [upd_same] at e ⊢; exact e
      · rw [upd_ne ac] at e ⊢
        have aP : a ≠ P := fun z => by rw [z, nP] at e; cases e
        rw [upd_ne aP]; exact s.fr a o e
    · have ac : a ≠ c' := fun z => by rw [z, nM] at e; cases e
      obtain ⟨f, r⟩ := s.cell a c e
      refine ⟨by rw [upd_ne ac]; exact f, ?_⟩
      by_cases aP : a = P
      · subst aP
        rw [m] at e; cases e
        refine ⟨ps ++ more, by rw [upd_ne hPc, upd_same], tr, fun z cv ez => ?_⟩
        rcases am z cv ez with ez | rfl
        · obtain ⟨c, e1, e2⟩ := al z cv ez
          exact ⟨c, e1, by rw [upd_ne (ne_of_none e2 nF)]; exact e2⟩
        · exact ⟨c', rfl, upd_same⟩
      · exact r.mono (same_upd nF) (by rw [upd_ne ac, upd_ne aP])
abbrev LTl := MH → MQ → XQ → Prop
abbrev LSp := LTl → MH → MQ → XQ → Prop
def wAct (i n : Nat) (f : Addr) (tl : LTl) (Es : MSt → XQ) : WE := fun σ h Q => σ[i]? = some (some (.ref f)) ∧ tl h Q (Es (List.replicate n none))
def wLam (P : Addr) (q : Str) (sp : LSp) (Es : MSt → XQ) (t : (MSt → XQ) → WE) : WE := fun σ h Q => h P = some (.tbl q) ∧ sp (fun h' Q' E' => t (fun _ => E') σ h' Q') h Q (Es σ)
section
variable {X : Cx} {B : Bs} {Es : MSt → XQ}
end

structure Tb where
  x : Str
  c : Addr
  P : Addr
  q : Str
def LawOkT (n : Nat) (ts : List Tb) (sp : MSp) : Prop := ∀ (ns : List Int) (h : MH), ns.length ≤ n → (∀ z ∈ ns, Builtin.Int.intBits z ≤ 1048576) → (∀ t ∈ ts, h t.P = some (.tbl t.q)) → sp [.scr ns] h (fun d _ => d = .bl true) (fun _ _ _ => False)
def tbH (ts : List Tb) : MH := fun b => (ts.find? fun t => t.P == b).map fun t => .tbl t.q
theorem tbH_of {ts : List Tb} (nd : (ts.map (·.P)).Nodup) : ∀ t ∈ ts, tbH ts t.P = some (.tbl t.q) := by
  induction ts with
  | nil => intro t h; cases h
  | cons u us ih =>
    intro t h
    rw [List.map_cons, List.nodup_cons] at nd
    rcases List.mem_cons.mp h with rfl | h
    · simp [tbH]
    · have ne : (u.P == t.P) = false := by
        rw [beq_eq_false_iff_ne]
        exact fun z => nd.1 (by rw [z]; exact List.mem_map.mpr ⟨t, h, rfl⟩)
      have := ih nd.2 t h
      unfold tbH at this ⊢
      rw [List.find?_cons, ne]
      exact this
theorem tbH_some {ts : List Tb} {b : Addr} {c : Cell} (e : tbH ts b = some c) : ∃ t ∈ ts, t.P = b ∧ c = .tbl t.q := by
  unfold tbH at e
  rw [Option.map_eq_some_iff] at e
  obtain ⟨t, h1, h2⟩ := e
  exact ⟨t, List.mem_of_find?_eq_some h1, by simpa using List.find?_some h1, h2.symm⟩
def spWT (K : PySem.W.Frag) (n : Nat) (ts : List Tb) : Sp := fun vs H Q _ => ∃ (a : Addr) (ns : List Int), vs = [.ref a] ∧ ns.length ≤ n ∧ (∀ z ∈ ns, Builtin.Int.intBits z ≤ 1048576) ∧ (∀ t ∈ ts, H t.P = some (.tbl #[])) ∧ SqL K H a (ns.map V.int) ∧ ∀ H', Q (.bl true) H'
theorem spWT_lift {K : PySem.W.Frag} {mg : Str → Option Value} {n : Nat} {ts : List Tb} {sp : MSp} (nd : (ts.map (·.P)).Nodup) (hsp : LawOkT n ts sp) {vs : List V} {H : Hp} {Q : VK} {E : XK} (h : spWT K n ts vs H Q E) : liftSp K mg sp vs H Q E := by
  obtain ⟨a, ns, rfl, hl, hb, hT, hS, q⟩ := h
  have nt : ∀ {b : Addr} {c : Cell}, tbH ts b = some c → H b = some (.tbl #[]) := fun {b c} e => by
    obtain ⟨t, h1, rfl, _⟩ := tbH_some e
    exact hT t h1
  refine ⟨fun b => if (tbH ts b).isSome then none else H b, tbH ts, [.scr ns], _, _, .cons (.scr ?_) .nil, ⟨fun b o e => ?_, fun b c e => ⟨by simp [e], ?_⟩⟩, hsp ns _ hl hb (tbH_of nd), fun F' H' h' d v g r e => ?_, fun _ _ _ _ _ _ _ _ _ _ _ _ z => z.elim⟩
  · rcases hS with hS | hS
    · refine .inl ?_
      have ha : ∀ o, H a = some o → (∀ z, o ≠ .tbl z) → (if (tbH ts a).isSome then none else H a) = some o := fun o e n => by
        cases z : tbH ts a with
        | none => simpa using e
        | some c => rw [nt z] at e; cases e; exact (n _ rfl).elim
      rcases hS with hS | ⟨o, hS⟩
      · exact .inl (ha _ hS fun _ z => nomatch z)
      · exact .inr ⟨o, ha _ hS fun _ z => nomatch z⟩
    · exact .inr hS
  · split at e
    · cases e
    · exact e
  · obtain ⟨t, h1, rfl, rfl⟩ := tbH_some e
    exact ⟨#[], hT t h1, trivial, fun pos cv z => by simp [codeAmong] at z⟩
  · subst e
    cases r
    exact q H'
theorem law_run {P : Program} {w : World} {K : PySem.W.Frag} {mg mb : Str → Option Value} {k n : Nat} {fa a : Addr} {ts : List Tb} {fd : FuncData} {x : Str} {sp : MSp} {S : Shared} {vs : List Value} {ns : List Int}
    (KX : K.In S.heap) (nsG : S.heap.Ns mainGlobals mg) (nsB : S.heap.Ns builtinsNs mb) (bb : ∀ x : Str, x ≠ "__name__" → mb x = bootBuiltins x) (lim : S.heap.NoLimit) (gens : S.gens = #[]) (nd : (ts.map (·.P)).Nodup)
    (tab : ∀ t ∈ ts, PySem.W.CodeHd S.heap t.c t.P ∧ S.heap.get? t.P = some { cls := .none, data := .fields #[] } ∧ K.lookup t.P = none)
    (bm : ∃ (bm : Addr) (ob : Obj), mg "__builtins__" = some (.ref bm) ∧ bm ≠ builtinsNs ∧ S.heap.get? bm = some ob ∧ ob.cls = .type "module" ∧ ob.dict = some builtinsNs ∧ ob.data = .plain)
    (oa : S.heap.get? a = some { cls := .type "list", data := .seq vs.toArray }) (hi : IntsAre vs ns) (hl : ns.length ≤ n) (hz : n ≤ sizeLine) (hbits : ∀ z ∈ ns, Builtin.Int.intBits z ≤ 1048576) (hr : Room k callerA)
    (F : ∀ base : Heap, K.In base → base.Ns mainGlobals mg → (∀ t ∈ ts, TabB base mg t.c t.P) → FnM P w K mg base k fa fd [x] sp) (bnd : ∀ (s : Shared) (u : Value), BindsTo s fd ⟨[u], []⟩ [(x, u)]) (law : LawOkT n ts sp) :
    codeAny (model P w) callerA (.call (.ref fa) ⟨[.ref a], []⟩) (fun r s' => r = .ok (.ret (.bool true)) ∧ OldK S.heap s'.heap ∧ s'.os = S.os ∧ AllBare s'.gens) S := by
  have rv := vals_ints hi
  have lv := hi.length
  have isP : ∀ b, b ∈ ts.map (·.P) → ∃ t ∈ ts, t.P = b := fun b hb => by obtain ⟨t, h1, h2⟩ := List.mem_map.mp hb; exact ⟨t, h1, h2⟩
  have atP : ∀ b, b ∈ ts.map (·.P) → S.heap.get? b = some { cls := .none, data := .fields #[] } := fun b hb => by obtain ⟨t, h1, rfl⟩ := isP b hb; exact (tab t h1).2.1
  have naP : a ∉ ts.map (·.P) := fun z => by
    have q := atP a z
    rw [oa] at q
    cases congrArg Obj.cls (Option.some.inj q)
  -- the abstract heap
  generalize eH : (fun b => if b ∈ ts.map (·.P) then some (HO.tbl #[]) else if b = a ∧ K.lookup a = none then some (HO.frz { cls := .type "list", data := .seq vs.toArray } (.lst (ns.map V.int))) else none : Hp) = H
  have H1 : ∀ b, b ∈ ts.map (·.P) → H b = some (.tbl #[]) := fun b hb => by rw [← eH]; exact if_pos hb
  have H2 : K.lookup a = none → H a = some (.frz { cls := .type "list", data := .seq vs.toArray } (.lst (ns.map V.int))) := fun hk => by rw [← eH]; show (if _ then _ else _) = _; rw [if_neg naP, if_pos ⟨rfl, hk⟩]
  have H3 : ∀ b u, H b = some u → (b ∈ ts.map (·.P) ∧ u = .tbl #[]) ∨ (b = a ∧ K.lookup a = none ∧ u = .frz { cls := .type "list", data := .seq vs.toArray } (.lst (ns.map V.int))) := fun b u e => by
    rw [← eH] at e
    change (if _ then _ else _) = _ at e
    by_cases hb : b ∈ ts.map (·.P)
    · rw [if_pos hb] at e; cases e; exact .inl ⟨hb, rfl⟩
    · rw [if_neg hb] at e
      by_cases ha : b = a ∧ K.lookup a = none
      · rw [if_pos ha] at e; cases e; exact .inr ⟨ha.1, ha.2, rfl⟩
      · rw [if_neg ha] at e; cases e
  have hok : HOk P w H S.heap := fun b u e => by
    rcases H3 b u e with ⟨h1, rfl⟩ | ⟨rfl, _, rfl⟩
    · exact atP b h1
    · exact ⟨oa, by rw [List.length_map]; exact Nat.le_trans hl hz, vs, _, rv, oa⟩
  have sq : SqL K H a (ns.map V.int) := by
    cases hk : K.lookup a with
    | none => exact .inl (.inr ⟨_, H2 hk⟩)
    | some o =>
      have e := KX a o hk
      rw [oa] at e; cases e
      exact .inr ⟨_, vs.toArray, _, hk, rfl, rfl, rfl, by rw [List.size_toArray, lv]; exact Nat.le_trans hl hz, by simpa using rv⟩
  -- what is not told stands in the ground
  have gr : ∀ {b : Addr} {o : Obj}, S.heap.get? b = some o → H b = none → (hidT S.heap H).get? b = some o := fun e m => hidT_get e m
  have out : ∀ {b : Addr} {o : Obj}, S.heap.get? b = some o → (∀ vs m, o.data ≠ .seq vs m) → o.data ≠ .fields #[] → H b = none := fun {b o} e h1 h2 => by
    cases q : H b with
    | none => rfl
    | some u =>
      rcases H3 b u q with ⟨z, _⟩ | ⟨rfl, _, _⟩
      · rw [atP b z] at e; cases e; exact (h2 rfl).elim
      · rw [oa] at e; cases e; exact (h1 _ _ rfl).elim
  have nsD : ∀ {b : Addr} {m : Str → Option Value}, S.heap.Ns b m → (hidT S.heap H).Ns b m := fun {b m} ⟨o, es, ep, e, d, r⟩ => ⟨o, es, ep, gr e (out e (fun _ _ z => by rw [d] at z; cases z) fun z => by rw [d] at z; cases z), d, r⟩
  have kin : K.In (hidT S.heap H) := fun b o e => gr (KX b o e) (by
    cases q : H b with
    | none => rfl
    | some u =>
      rcases H3 b u q with ⟨z, _⟩ | ⟨rfl, z, _⟩
      · obtain ⟨t, h1, rfl⟩ := isP b z
        rw [(tab t h1).2.2] at e; cases e
      · rw [z] at e; cases e)
  have md : L2.Mod K mg (hidT S.heap H) := ⟨kin, nsD nsG, ⟨mb, nsD nsB, bb⟩, by obtain ⟨mc, h1, h2⟩ := lim; exact ⟨mc, nsD h1, h2⟩⟩
  have TB : ∀ t ∈ ts, TabB (hidT S.heap H) mg t.c t.P := fun t ht => by
    obtain ⟨C, oP, nK⟩ := tab t ht
    refine ⟨?_, ?_, fun z => ?_⟩
    · obtain ⟨o, us, file, tf, flags, tg, inF, text, tt, e1, r1, r2, r3, r⟩ := C
      exact ⟨o, us, file, tf, flags, tg, inF, text, tt, gr e1 (out e1 (fun _ _ z => by rw [r2] at z; cases z) fun z => by rw [r2] at z; cases z; simp at r3), r1, r2, r3, r⟩
    · obtain ⟨bm, ob, b1, b2, b3, b4, b5, b6⟩ := bm
      refine ⟨bm, ob, b1, b2, fun q => ?_, fun q => ?_, gr b3 (out b3 (fun _ _ z => by rw [b6] at z; cases z) fun z => by rw [b6] at z; cases z), b4, b5, b6⟩
      · obtain ⟨o, es, ep, e, hd, _⟩ := nsG
        rw [q, e] at b3; cases b3
        rw [hd] at b6; cases b6
      · rw [q, oP] at b3; cases b3; cases b6
    · obtain ⟨o, es, ep, e, hd, _⟩ := nsG
      rw [z, oP] at e; cases e; cases hd
  have e0 : Env0 P w K mg (hidT S.heap H) callerA [] S H := ⟨rfl, md, fun b o e => of_hidT e, Nat.le_of_eq (hidT_size _ _), trivial, fun b hb => absurd (show b ∈ ([] : List Addr) from hb) (by simp), hok, .of_eq gens⟩
  have want : spWT K n ts [.ref a] H (fun v _ => v = .bl true) (fun _ _ _ => False) := ⟨a, ns, rfl, hl, hbits, fun t ht => H1 _ (List.mem_map.mpr ⟨t, ht, rfl⟩), sq, fun _ => rfl⟩
  refine codeAny_mono ((F _ kin (nsD nsG) TB).run callerA [] S H ⟨[.ref a], []⟩ [.ref a] [.ref a] _ _ ⟨hr, rfl⟩ e0 (bnd S (.ref a)) (.cons rfl .nil) (spWT_lift nd law want)) fun r s' res => ?_
  cases r with
  | error e =>
    obtain ⟨_, _, _, _, _, _, _, _, _, _, _, _, z⟩ := (show L2.CX P w [] H S (fun _ _ _ => False) e s' from res)
    exact z.elim
  | ok fl =>
    cases fl with
    | ret u =>
      obtain ⟨v, H', os, bare, un, hok', rl, rfl⟩ := res
      obtain rfl : u = Value.bool true := rl
      have stay : ∀ b o, b ∉ ts.map (·.P) → S.heap.get? b = some o → s'.heap.get? b = some o := fun b o nb e => by
        cases q : H b with
        | none => exact un.keep b o e q (fun z => absurd (show b ∈ ([] : List Addr) from z) (by simp)) (by simp)
        | some u =>
          rcases H3 b u q with ⟨z, _⟩ | ⟨rfl, _, rfl⟩
          · exact (nb z).elim
          · obtain ⟨e2, _⟩ := hok' b _ (un.frzs b _ _ q)
            rw [oa] at e; cases e; exact e2
      have grow : ∀ b, b ∈ ts.map (·.P) → ∃ more : Array Value, s'.heap.get? b = some { cls := .none, data := .fields more } := fun b hb => by
        obtain ⟨more, z⟩ := un.tbls b #[] (H1 b hb)
        exact ⟨_, hok' b _ z⟩
      refine ⟨rfl, ⟨fun b o e => ?_, fun b o e => ?_⟩, os, bare⟩
      · by_cases hb : b ∈ ts.map (·.P)
        · obtain ⟨t, h1, rfl⟩ := isP b hb
          obtain ⟨more, hm⟩ := grow _ hb
          rw [(tab t h1).2.1] at e; cases e
          exact .inr (.inl ⟨((tab t h1).1.tab (tab t h1).2.1).isCodeTable, rfl, #[], more, rfl, by rw [Array.empty_append]; exact hm⟩)
        · exact .inl (stay b o hb e)
      · by_cases hb : b ∈ ts.map (·.P)
        · obtain ⟨more, hm⟩ := grow b hb
          exact ⟨_, hm⟩
        · exact ⟨o, stay b o hb e⟩
    | _ => exact False.elim res
theorem walk_bp {l : PySem.W.OpenLaw} {n k : Nat} {q : Program} {loose : List Str} {XP : (Str → Option Value) → Heap → Prop} {YP : World → Heap → Prop} {d : DefRec} {K : Params → PySem.W.Frag} {x : Str}
    (hn : l.most = some n) (hn2 : n ≤ sizeLine) (hdf : d.params.defaults = []) (hr : Room k callerA) (hY : ∀ (w : World) (h : Heap), YP w h → (K w.params).In h)
    (F : ∀ (w : World) (mg : Str → Option Value) (fa : Addr) (h : Heap), (K w.params).In h → h.Ns mainGlobals mg → mg d.name = some (.ref fa) →
      ∃ (fd : FuncData) (ts : List Tb) (sp : MSp), (ts.map (·.P)).Nodup ∧ (∀ t ∈ ts, PySem.W.tabIn (K w.params) t.x = some (t.c, t.P) ∧ (K w.params).lookup t.P = none ∧ (recsOf q).any (fun e => e.name == t.x) = true) ∧ LawOkT n ts sp ∧
        (∀ (s : Shared) (u : Value), BindsTo s fd ⟨[u], []⟩ [(x, u)]) ∧ ∀ base : Heap, (K w.params).In base → base.Ns mainGlobals mg → (∀ t ∈ ts, TabB base mg t.c t.P) → FnM l.prog w (K w.params) mg base k fa fd [x] sp) :
    PySem.W.WalkO q loose XP YP l.row.toRowW d [] (fun f vs => PySem.call f vs) := by
  refine Att.attach_callB hn hdf fun w s₀ s₁ mg mb fa o pm cd doc a vs ns G Y ho hd hcd hmg hobj hints hlen hbits hg => ?_
  have KX := hY w _ Y
  obtain ⟨fd, ts, sp, nd, ht, hsp, hb, hF⟩ := F w mg fa _ KX G.T.g hmg
  refine law_run KX G.T.g G.T.b G.T.builtins G.T.nolimit hg nd (fun t h => ?_) G.T.bmain hobj hints hlen hn2 hbits hr hF hb hsp
  obtain ⟨h1, h2, h3⟩ := ht t h
  cases e : (recsOf q).find? (fun e => e.name == t.x) with
  | none =>
    rw [List.find?_eq_none] at e
    rw [List.any_eq_true] at h3
    obtain ⟨r, r1, r2⟩ := h3
    exact (e r r1 r2).elim
  | some r =>
    obtain ⟨g1, g2⟩ := PySem.W.tab_of G.T KX e h1
    exact ⟨g1, g2, h2⟩
end BP

set_option maxRecDepth 100000
set_option maxHeartbeats 4000000
namespace BP
open PySem PySem.Spec PyProof.Rows L2
section
variable {X : Cx} {B : Bs} {a b c e o : Expr} {ta tb tc to : WE} {pos p : Pos} {wa : WA} {es : List Expr}
def toPx (h : MH) (d : D) : Option PyData := match d with
  | .dct [] => some (.dict [])
  | d => match lsOf h d with
    | some a => toP (.lst a)
    | none => toP d
theorem cr_repr (hg : X.A.guards = some []) (hu : X.A.units + 100 < cLine) : CallR X (.builtin "repr") (fun vs H Q => ∃ v p, vs = [v] ∧ (Dp X.K H v p ∨ (p = .dict [] ∧ ∃ a, v = .ref a ∧ H a = some (.dK []))) ∧ p.showable = true ∧ p.shown.length ≤ sizeLine ∧ p.depth ≤ 64 ∧ Q (.str p.shown) H) := by
  intro pins s σ H xs us Q I r h
  obtain ⟨v, p, rfl, hv, sh, sz, dp, q⟩ := h
  obtain ⟨u, rfl, ru⟩ := vals1 r
  have big : ∀ {a : Addr} {as : List Addr}, Reads s.heap (.ref a) p as → (p.hasDict = true → sysModules ∉ as) → wpAny (model X.prog X.w) X.A (call (.builtin "repr") [.ref a]) (EP X pins σ Q) X.xe s := fun {a as} rd nd =>
    repr_of_reads' rd sh nd hg (by omega) (fun _ _ e => e) (fun h' u tk kp => ⟨.str _, H, I.kept kp, ⟨u, rfl⟩, q⟩) sz
  rcases hv with hv | ⟨rfl, a, rfl, ha⟩
  · have rd := Dp.reads I p v u hv ru
    cases hv with
    | non =>
      obtain rfl : u = Value.none := ru
      exact PySem.P.repr_of_none ⟨.str _, H, I.tok _, ⟨_, rfl⟩, q⟩
    | bl b =>
      obtain rfl : u = Value.bool b := ru
      exact PySem.P.repr_of_bool ⟨.str _, H, I.tok _, ⟨_, rfl⟩, by cases b <;> exact q⟩
    | int i =>
      obtain ⟨t, rfl⟩ := ru
      exact PySem.P.repr_of_int (by simpa [PyData.showable] using sh) ⟨.str _, H, I.tok _, ⟨_, rfl⟩, q⟩
    | str x =>
      obtain ⟨t, rfl⟩ := ru
      exact PySem.P.repr_of_str ⟨.str _, H, I.tok _, ⟨_, rfl⟩, q⟩ sz
    | lst h1 h2 =>
      cases ru
      obtain ⟨as, rd⟩ := rd
      have nd : ∀ {v : V} {p : PyData}, Dp X.K H v p → p.hasDict = false := by
        intro v p hp
        refine Dp.rec (motive_1 := fun _ p _ => p.hasDict = false) (motive_2 := fun _ ps _ => PyData.hasDictAll ps = false) ?_ ?_ ?_ ?_ ?_ ?_ ?_ ?_ hp
        all_goals intros
        all_goals simp_all [PyData.hasDict, PyData.hasDictAll]
      exact big rd fun z => by rw [nd (.lst h1 h2)] at z; cases z
    | tup h1 h2 =>
      cases ru
      obtain ⟨as, rd⟩ := rd
      have nd : ∀ {v : V} {p : PyData}, Dp X.K H v p → p.hasDict = false := by
        intro v p hp
        refine Dp.rec (motive_1 := fun _ p _ => p.hasDict = false) (motive_2 := fun _ ps _ => PyData.hasDictAll ps = false) ?_ ?_ ?_ ?_ ?_ ?_ ?_ ?_ hp
        all_goals intros
        all_goals simp_all [PyData.hasDict, PyData.hasDictAll]
      exact big rd fun z => by rw [nd (.tup h1 h2)] at z; cases z
  · cases ru
    obtain ⟨_, hs, vs, kv, o, es, ep, e1, e2, e3, e4, e5, e6⟩ := dk_of I.hok ha
    cases kv
    have ee : es.toList = [] := by
      cases q : es.toList with
      | nil => rfl
      | cons x xs => rw [q] at e5; cases e5
    have rd : Reads s.heap (.ref a) (.dict []) (a :: [] ++ []) := .dict e1 e2.1 e3 (by rw [ee]; exact .nil) (by rw [ee]; exact .nil)
    exact big rd fun _ z => by
      have : sysModules = a := by simpa using z
      rw [← this] at hs
      simp at hs
def fRepr (ds : List D) (h : MH) (Q : MQ) : Prop := match ds with
  | [d] => match toPx h d with
    | some p => (p.showable = true ∧ p.shown.length ≤ sizeLine ∧ p.depth ≤ 64) ∧ Q (.str p.shown) h
    | none => False
  | _ => False
def fAbs (ds : List D) (h : MH) (Q : MQ) : Prop := match ds with
  | [.int i] => Q (.int (if i < 0 then -i else i)) h
  | _ => False
theorem m_abs (hm : X.mg "abs" = none) (ha : MA X B (e :: es) wa) (hg : Gl X "abs" := by rfl) (he : starEach (e :: es) X.env = (false, eval e X.env) :: starEach es X.env := by rfl) (hpl : (backTo pos (starEach es X.env)).any (·.1) = false := by rfl) :
    ME X B (.Call (.Name "abs" p) (e :: es) [] pos) (wCB fAbs wa) := m_callB call_abs (fun F H h ds vs Q' Q s rs t c => by
      unfold fAbs at t
      split at t
      · obtain ⟨v, rfl, r⟩ := rds_one rs; cases r; exact ⟨_, rfl, c.same s (.int _) t⟩
      · exact t.elim) hm (by decide +kernel) ha hg (by decide) (by decide) he hpl
def unBits (x : D) (h : MH) (Q : MQ) : Prop := match x with
  | .int i => Q (.int (Builtin.Int.intBits i : Nat)) h
  | _ => False
def stepD (lo c : Int) (n : Nat) : List D := (List.range n).map fun i => .int (lo + (i : Nat) * c)
def wRange3 (t : WA) : WI := fun σ h Q => t σ h fun ds h1 => match ds with
  | [.int i, .int j, .int c] => ∃ n, RgC i j c n ∧ Q (stepD i c n) h1
  | _ => False
def flatD : D → Bool
  | .non => true
  | .bl _ => true
  | .int _ => true
  | .str _ => true
  | _ => false
def opIn (neg : Bool) (x y : D) (h : MH) (Q : MQ) : Prop := match sqOf h y with
  | some xs => ((flatD x = true ∧ xs.all flatD = true) ∨ (lsOf h x = none ∧ lsOf h y = some xs ∧ fit 64 x = true ∧ fit 64 (.lst xs) = true)) ∧ Q (.bl (if neg then !xs.any (fun z => eqv z x) else xs.any (fun z => eqv z x))) h
  | none => False
def unRev (x : D) (h : MH) (Q : MQ) : Prop := match lsOf h x with
  | some xs => Q (.lst xs.reverse) h
  | none => False
theorem RDs.rev {K : PySem.W.Frag} {F : Hp} : ∀ {ds : List D} {vs : List V}, RDs K F ds vs → RDs K F ds.reverse vs.reverse
  | _, _, .nil => .nil
  | _, _, .cons q r => by rw [List.reverse_cons, List.reverse_cons]; exact (RDs.rev r).append (.cons q .nil)
theorem m_rev {k : Nat} {p1 p2 p3 : Pos} (he : ME X B e ta) : ME X B (.Subscript e (.Slice none none (some (.UnaryOp .USub (.Constant (.int 1) k p1) p2)) p3) pos) (wUn unRev ta) :=
  pe_mono (pe_revL he) fun σ H Q ⟨F, h, σd, Q', l, s, t, c⟩ => ⟨F, h, σd, _, l, s, t, fun F1 H1 h1 x u g1 rx t1 => by
    unfold unRev at t1
    split at t1
    · rename_i xs ex
      obtain ⟨q, ys, rfl, hq, r2⟩ := ls_rd g1.sr rx ex
      exact ⟨q, ys, rfl, SqL.of hq, fun p hp => (c.go g1).lst g1.sr hp r2.rev t1⟩
    · exact t1.elim⟩
def zipD (xs ys : List D) : List D := (xs.zip ys).map fun z => .tup [z.1, z.2]
theorem zipD_get {xs ys : List D} {i : Nat} {d : D} (e : (zipD xs ys)[i]? = some d) : ∃ x y, xs[i]? = some x ∧ ys[i]? = some y ∧ d = .tup [x, y] := by
  unfold zipD at e
  rw [List.getElem?_map] at e
  cases q : (xs.zip ys)[i]? with
  | none => rw [q] at e; cases e
  | some z =>
    rw [q] at e
    simp only [Option.map_some, Option.some.injEq] at e
    rw [List.getElem?_zip_eq_some] at q
    exact ⟨_, _, q.1, q.2, e.symm⟩
theorem zipD_len {xs ys : List D} : (zipD xs ys).length = min xs.length ys.length := by unfold zipD; simp
theorem walkD_zip {K : PySem.W.Frag} {F : Hp} {a b : Addr} {xs ys : List V} {ds es : List D} (qa : SqL K F a xs) (qb : SqL K F b ys) (ra : RDs K F ds xs) (rb : RDs K F es ys) : WalkD K (Itz K a b) F (zipD ds es) := by
  have la := ra.length
  have lb := rb.length
  refine ⟨fun i H hi sm => ?_, fun H sm => ⟨xs, ys, Same.sqL sm qa, Same.sqL sm qb, ?_⟩, fun i d H x H' hd sm y F1 h s1 sr => ?_⟩
  · rw [zipD_len] at hi
    exact ⟨xs, ys, xs[i]'(by omega), ys[i]'(by omega), Same.sqL sm qa, Same.sqL sm qb, by simp, by simp⟩
  · rw [zipD_len]; omega
  · obtain ⟨T, u, v, rfl, nT, rfl, hu, hv⟩ := y
    obtain ⟨x0, y0, e1, e2, rfl⟩ := zipD_get hd
    obtain ⟨u', h1, r1⟩ := ra.get e1
    obtain ⟨v', h2, r2⟩ := rb.get e2
    have e3 := hu xs (Same.sqL sm qa)
    have e4 := hv ys (Same.sqL sm qb)
    rw [h1] at e3; cases e3
    rw [h2] at e4; cases e4
    have nF := sr.freeF nT
    exact ⟨_, Go.settled sr nT, .tup (SqU.of upd_same) (.cons ((r1.mono s1).mono (same_upd nF)) (.cons ((r2.mono s1).mono (same_upd nF)) .nil))⟩
theorem walkD_zipT {K : PySem.W.Frag} {F : Hp} {a b : Addr} {xs ys : List V} {ds es : List D} (qa : SqU K F a xs) (qb : SqU K F b ys) (ra : RDs K F ds xs) (rb : RDs K F es ys) : WalkD K (RZ.ItzT K a b) F (zipD ds es) := by
  have la := ra.length
  have lb := rb.length
  refine ⟨fun i H hi sm => ?_, fun H sm => ⟨xs, ys, Same.sqT sm qa, Same.sqT sm qb, ?_⟩, fun i d H x H' hd sm y F1 h s1 sr => ?_⟩
  · rw [zipD_len] at hi
    exact ⟨xs, ys, xs[i]'(by omega), ys[i]'(by omega), Same.sqT sm qa, Same.sqT sm qb, by simp, by simp⟩
  · rw [zipD_len]; omega
  · obtain ⟨T, u, v, rfl, nT, rfl, hu, hv⟩ := y
    obtain ⟨x0, y0, e1, e2, rfl⟩ := zipD_get hd
    obtain ⟨u', h1, r1⟩ := ra.get e1
    obtain ⟨v', h2, r2⟩ := rb.get e2
    have e3 := hu xs (Same.sqT sm qa)
    have e4 := hv ys (Same.sqT sm qb)
    rw [h1] at e3; cases e3
    rw [h2] at e4; cases e4
    have nF := sr.freeF nT
    exact ⟨_, Go.settled sr nT, .tup (SqU.of upd_same) (.cons ((r1.mono s1).mono (same_upd nF)) (.cons ((r2.mono s1).mono (same_upd nF)) .nil))⟩
def wZip (t : WA) : WI := fun σ h Q => t σ h fun ds h1 => match ds with
  | [.tup xs, .tup ys] => Q (zipD xs ys) h1
  | [.lst xs, .lst ys] => Q (zipD xs ys) h1
  | _ => False
theorem mi_zip {elts : List Expr} {kk : Nat} {tpos : Pos} (hm : X.mg "zip" = none) (ha : MA X B [a, b] wa) (hg : Gl X "zip" := by rfl) (hs : starEach [a, b] X.env = (false, eval a X.env) :: starEach [b] X.env := by rfl) (hs2 : (backTo pos (starEach [b] X.env)).any (·.1) = false := by rfl) :
    MI X B (.Tuple elts kk tpos) (.Call (.Name "zip" p) [a, b] [] pos) (wZip wa) := pi_mono (RZ.pi_zipA hg hm ha hs hs2) fun σ H R ⟨F, h, σd, Q', l, s, t, c⟩ => ⟨F, h, σd, _, l, s, t, fun F1 H1 h1 ds vs g1 rs t1 => by
  split at t1
  · obtain ⟨v, w, rfl, r1, r2⟩ := rds_two rs
    cases r1 with
    | tup q1 s1 => cases r2 with
      | tup q2 s2 => exact ⟨_, _, _, _, rfl, .inr ⟨Same.sqT g1.sr.fr q1, Same.sqT g1.sr.fr q2, c F1 H1 h1 _ _ g1 (walkD_zipT q1 q2 s1 s2) t1⟩⟩
  · obtain ⟨v, w, rfl, r1, r2⟩ := rds_two rs
    cases r1 with
    | lst q1 s1 => cases r2 with
      | lst q2 s2 => exact ⟨_, _, _, _, rfl, .inl ⟨SqL.of (g1.sr.fr _ _ q1), SqL.of (g1.sr.fr _ _ q2), c F1 H1 h1 _ _ g1 (walkD_zip (SqL.of q1) (SqL.of q2) s1 s2) t1⟩⟩
  · exact t1.elim⟩
structure XIs (K : PySem.W.Frag) (C : Addr) : Prop where
  ha : PySem.W.findIn K (.ref C) "__class__" = some (some (.builtin "object.__class__"))
  hn : PySem.W.specialIn K (.builtin "object.__class__") "__get__" = some (some (.builtin "getset_descriptor.__get__"))
  ht : PySem.W.takesIn K (.builtin "object.__class__") = some true
  hm : PySem.W.mroIn K C (.type "object") = some true
def wXis (n0 : String) (a dd : Addr) (n : Str) (r : Bool) (te : WE) : WE := fun σ h Q => n = Str.ofString n0 ∧ te σ h fun x h1 => match x with
  | .exc a' dd' _ _ => a' = a ∧ dd' = dd ∧ Q (.bl r) h1
  | _ => False
end
def valD : Value → Option (V × D)
  | .int i _ => some (.int i, .int i)
  | .str x _ => some (.str x, .str x)
  | .bool b => some (.bl b, .bl b)
  | .none => some (.non, .non)
  | _ => none
def valDs : List Value → Option (List D)
  | [] => some []
  | v :: vs => match valD v, valDs vs with
    | some (_, d), some ds => some (d :: ds)
    | _, _ => none
theorem valDs_rd {K : PySem.W.Frag} : ∀ {vs : List Value} {ds : List D}, valDs vs = some ds → ∃ xs, Vals xs vs ∧ ∀ F, RDs K F ds xs
  | [], _, h => by simp only [valDs, Option.some.injEq] at h; subst h; exact ⟨[], .nil, fun _ => .nil⟩
  | v :: vs, _, h => by
    simp only [valDs] at h
    split at h
    · rename_i x d ds e1 e2
      simp only [Option.some.injEq] at h
      subst h
      obtain ⟨xs, h1, h2⟩ := valDs_rd (K := K) e2
      have : RelV x v ∧ ∀ F, RD K F d x := by
        unfold valD at e1
        split at e1 <;> simp only [Option.some.injEq, Prod.mk.injEq, reduceCtorEq] at e1
        · obtain ⟨rfl, rfl⟩ := e1; exact ⟨⟨_, rfl⟩, fun _ => .int _⟩
        · obtain ⟨rfl, rfl⟩ := e1; exact ⟨⟨_, rfl⟩, fun _ => .str _⟩
        · obtain ⟨rfl, rfl⟩ := e1; exact ⟨rfl, fun _ => .bl _⟩
        · obtain ⟨rfl, rfl⟩ := e1; exact ⟨rfl, fun _ => .non⟩
      exact ⟨x :: xs, .cons this.1 h1, fun F => .cons (this.2 F) (h2 F)⟩
    · cases h
theorem constT {K : PySem.W.Frag} {a : Addr} {od : Option Addr} {its : Array Value} {n : Nat} {sl : Array (Option Value)} {ds : List D} (lk : K.lookup a = some ⟨.type "tuple", od, .seq its n, sl⟩) (h : valDs its.toList = some ds) (hz : its.size ≤ sizeLine) : ∀ F, RD K F (.tup ds) (.ref a) := by
  obtain ⟨xs, h1, h2⟩ := valDs_rd (K := K) h
  exact fun F => .tup (.inr ⟨_, its, n, lk, rfl, rfl, hz, h1⟩) (h2 F)
section
variable {X : Cx} {B : Bs} {a b : Expr} {pos : Pos}
end
end BP

set_option maxRecDepth 100000
set_option maxHeartbeats 400000
namespace BP
open PySem PySem.Spec PyProof.Rows L2
section
variable {σ : MSt} {h : MH} {Q : MQ} {D0 : MEnds} {ta tb tc : WE} {ua ub : WT} {wa : WA} {t u : WS} {i j : Nat} {d : D} {f g : D → D → MH → MQ → Prop} {v w : Option D}
@[simp] theorem r_seq : wSeq t u D0 σ h = t { D0 with nx := u D0 } σ h := (rfl)
@[simp] theorem r_next : wNext D0 σ h = D0.nx σ h := (rfl)
@[simp] theorem r_ret : wRet ta D0 σ h = ta σ h D0.rt := (rfl)
@[simp] theorem r_retN : wRetN D0 σ h = D0.rt .non h := (rfl)
@[simp] theorem r_brk : wBreak D0 σ h = D0.bk σ h := (rfl)
@[simp] theorem r_cont : wCont D0 σ h = D0.ct σ h := (rfl)
@[simp] theorem r_drop : wDrop ta D0 σ h = ta σ h fun _ h1 => D0.nx σ h1 := (rfl)
@[simp] theorem r_set : wSet i ta D0 σ h = ta σ h fun d h1 => D0.nx (σ.set i (some d)) h1 := (rfl)
@[simp] theorem r_ifS : wIfS ua t u D0 σ h = ua σ h fun b h1 => if b = true then t D0 σ h1 else u D0 σ h1 := (rfl)
@[simp] theorem r_asg {gg : WG} : wAsg ta gg D0 σ h = ta σ h fun d h1 => gg d σ h1 D0.nx := (rfl)
@[simp] theorem r_par : wPar i j wa D0 σ h = wa σ h fun ds h1 => match ds with
  | [d, e] => D0.nx ((σ.set i (some d)).set j (some e)) h1
  | _ => False := (rfl)
@[simp] theorem r_for {wi : WI} {gg : WG} : wFor wi gg t D0 σ h = wi σ h fun ds h1 => wLoop gg t ds D0 σ h1 := (rfl)
@[simp] theorem r_var : wVar i σ h Q = match σ[i]? with
  | some (some d) => Q d h
  | _ => False := (rfl)
@[simp] theorem r_c : wC d σ h Q = Q d h := (rfl)
@[simp] theorem r_op : wOp f ta tb σ h Q = ta σ h fun x h1 => tb σ h1 fun y h2 => f x y h2 Q := (rfl)
@[simp] theorem r_un {k : D → MH → MQ → Prop} : wUn k ta σ h Q = ta σ h fun x h1 => k x h1 Q := (rfl)
@[simp] theorem r_test {P : Bool → MH → Prop} : wTest ta σ h P = ta σ h fun x h1 => match x with
  | .bl b => P b h1
  | _ => False := (rfl)
@[simp] theorem r_truth {P : Bool → MH → Prop} : wTruth ta σ h P = ta σ h fun x h1 => match truth h1 x with
  | some b => P b h1
  | none => False := (rfl)
@[simp] theorem r_and {P : Bool → MH → Prop} : wAnd ua ub σ h P = ua σ h fun b h1 => if b = true then ub σ h1 P else P false h1 := (rfl)
@[simp] theorem r_or {P : Bool → MH → Prop} : wOr ua ub σ h P = ua σ h fun b h1 => if b = true then P true h1 else ub σ h1 P := (rfl)
@[simp] theorem r_not {P : Bool → MH → Prop} : wNot ua σ h P = ua σ h fun b h1 => P (!b) h1 := (rfl)
@[simp] theorem r_andV : wAndV ta tb σ h Q = ta σ h fun x h1 => match truth h1 x with
  | some true => tb σ h1 Q
  | some false => Q x h1
  | none => False := (rfl)
@[simp] theorem r_orV : wOrV ta tb σ h Q = ta σ h fun x h1 => match truth h1 x with
  | some true => Q x h1
  | some false => tb σ h1 Q
  | none => False := (rfl)
@[simp] theorem r_notV : wNotV ta σ h Q = ta σ h fun x h1 => match truth h1 x with
  | some b => Q (.bl (!b)) h1
  | none => False := (rfl)
@[simp] theorem r_if : wIf ua ta tb σ h Q = ua σ h fun k h1 => if k = true then ta σ h1 Q else tb σ h1 Q := (rfl)
@[simp] theorem r_chain : wChain f g ta tb tc σ h Q = ta σ h fun x h1 => tb σ h1 fun y h2 => f x y h2 fun z h3 => match z with
  | .bl true => tc σ h3 fun w h4 => g y w h4 Q
  | .bl false => Q (.bl false) h3
  | _ => False := (rfl)
@[simp] theorem r_nil {P : List D → MH → Prop} : wNil σ h P = P [] h := (rfl)
@[simp] theorem r_cons {P : List D → MH → Prop} : wCons ta wa σ h P = ta σ h fun d h1 => wa σ h1 fun ds h2 => P (d :: ds) h2 := (rfl)
@[simp] theorem r_tup : wTup wa σ h Q = wa σ h fun ds h1 => ds.length ≤ sizeLine ∧ Q (.tup ds) h1 := (rfl)
@[simp] theorem r_lst : wLst wa σ h Q = wa σ h fun ds h1 => ds.length ≤ sizeLine ∧ Q (.lst ds) h1 := (rfl)
@[simp] theorem r_lstM : wLstM wa σ h Q = wa σ h fun ds h1 => ds.length ≤ sizeLine ∧ ∀ p, h1 p = none → Q (.ref p) (mupd h1 p (.lst ds)) := (rfl)
@[simp] theorem r_cb {k : List D → MH → MQ → Prop} : wCB k wa σ h Q = wa σ h fun ds h1 => k ds h1 Q := (rfl)
@[simp] theorem r_call {sp : MSp} {Es : MSt → XQ} : wCall sp Es wa σ h Q = wa σ h fun ds h1 => sp ds h1 Q (Es σ) := (rfl)
@[simp] theorem r_callK {sp : MSp} {Es : MSt → XQ} {n : Nat} {gg : {α : Type} → List α → List α} : wCallK sp Es n gg wa σ h Q = wa σ h fun ds h1 => ds.length = n ∧ sp (gg ds) h1 Q (Es σ) := (rfl)
@[simp] theorem r_mt {k : D → List D → MH → MQ → Prop} : wMt k ta wa σ h Q = ta σ h fun x h1 => (lsOf h1 x).isSome = true ∧ wa σ h1 fun ds h2 => k x ds h2 Q := (rfl)
@[simp] theorem r_sl {tl th : WO} : wSl ta tl th σ h Q = ta σ h fun x h1 => tl σ h1 fun lo h2 => th σ h2 fun hi h3 => opSl x lo hi h3 Q := (rfl)
@[simp] theorem r_no {P : Option Int → MH → Prop} : wNo σ h P = P none h := (rfl)
@[simp] theorem r_part {P : Option Int → MH → Prop} : wPart ta σ h P = ta σ h fun x h1 => match x with
  | .int i => P (some i) h1
  | _ => False := (rfl)
@[simp] theorem r_it {P : List D → MH → Prop} : wIt ta σ h P = ta σ h fun d h1 => match rowF d with
  | some ds => P ds h1
  | none => False := (rfl)
@[simp] theorem r_enum {P : List D → MH → Prop} {k0 : Int} : wEnum k0 ta σ h P = ta σ h fun d h1 => match rowF d with
  | some ds => P (enumD k0 ds) h1
  | none => False := (rfl)
@[simp] theorem r_range1 {P : List D → MH → Prop} : wRange1 ta σ h P = ta σ h fun d h1 => match d with
  | .int j => okR j ∧ P (rangeD 0 j.toNat) h1
  | _ => False := (rfl)
@[simp] theorem r_range2 {P : List D → MH → Prop} : wRange2 ta tb σ h P = ta σ h fun d h1 => tb σ h1 fun e h2 => match d, e with
  | .int i, .int j => okR i ∧ okR j ∧ P (rangeD i (j - i).toNat) h2
  | _, _ => False := (rfl)
@[simp] theorem r_lc {wi : WI} {put : MSt → D → Option MSt} {vs : List Nat} : wLc wi put ua ta vs σ h Q = wi σ h fun ds h1 => wLcGo put ua ta (mwipe σ vs) ds [] h1 fun acc h2 => Q (.lst acc) h2 := (rfl)
@[simp] theorem r_yes {P : Bool → MH → Prop} : wYes σ h P = P true h := (rfl)
@[simp] theorem r_fz : wFz i t D0 σ h = match σ[i]? with
  | some (some (.ref a)) => match h a with
    | some (.lst ds) => t D0 (σ.set i (some (.lst ds))) (mdel h a)
    | _ => False
  | some (some (.lst _)) => t D0 σ h
  | _ => False := (rfl)
@[simp] theorem r_gZ {P : MSt → MH → Prop} : gZ [] σ h P = P σ h := (rfl)
@[simp] theorem r_gC {P : MSt → MH → Prop} {g1 : WG} {gs : WGs} {ds : List D} : gC g1 gs (d :: ds) σ h P = g1 d σ h fun σ1 h1 => gs ds σ1 h1 P := (rfl)
@[simp] theorem r_raise {Es : MSt → XQ} {n : String} {fs : List Str} : wRaise Es n fs wa D0 σ h = wa σ h fun ds h1 => ds.length = fs.length ∧ ds.length ≤ 1000 ∧ Es σ n (fs.zip ds) h1 := (rfl)
@[simp] theorem r_gN {P : MSt → MH → Prop} : gN i d σ h P = P (σ.set i (some d)) h := (rfl)
@[simp] theorem r_gSt {P : MSt → MH → Prop} : gSt ta tb d σ h P = ta σ h fun o h1 => tb σ h1 fun i h2 => match o, i with
  | .ref a, .int k => match h2 a with
    | some (.lst xs) => match ixN xs.length k with
      | some j => P σ (mupd h2 a (.lst (xs.set j d)))
      | none => False
    | _ => False
  | _, _ => False := (rfl)
@[simp] theorem r_gT {P : MSt → MH → Prop} {n : Nat} {gs : WGs} : gT n gs d σ h P = match d with
  | .tup ds => ds.length = n ∧ gs ds σ h P
  | _ => False := (rfl)
@[simp] theorem o_int {C : Int → Int → Prop} {k : Int → Int → Int} {x y : Int} : opI2 C k (.int x) (.int y) h Q = (C x y ∧ Q (.int (k x y)) h) := (rfl)
@[simp] theorem o_cmp {k : Int → Int → Bool} {x y : Int} : opB2 k (.int x) (.int y) h Q = Q (.bl (k x y)) h := (rfl)
@[simp] theorem o_add {x y : Int} : opAdd (.int x) (.int y) h Q = Q (.int (x + y)) h := (rfl)
@[simp] theorem o_sub {x y : Int} : opSub (.int x) (.int y) h Q = Q (.int (x - y)) h := (rfl)
@[simp] theorem o_mul {x y : Int} : opMul (.int x) (.int y) h Q = (mulOk x y ∧ Q (.int (x * y)) h) := (rfl)
@[simp] theorem o_eq {x y : Int} {n : Bool} : opEq n (.int x) (.int y) h Q = Q (.bl (if n then !(x == y) else x == y)) h := (rfl)
@[simp] theorem o_fint {x : Int} : fInt [.int x] h Q = Q (.int x) h := (rfl)
@[simp] theorem o_fintb {x : Bool} : fInt [.bl x] h Q = Q (.int (if x then 1 else 0)) h := (rfl)
@[simp] theorem o_neg {x : Int} : unNeg (.int x) h Q = Q (.int (-x)) h := (rfl)
@[simp] theorem o_isN {x : D} {n : Bool} : opIsN n x .non h Q = Q (.bl (if n then !(match x with | .non => true | _ => false) else (match x with | .non => true | _ => false))) h := by
  cases n <;> cases x <;> rfl
end
@[simp] theorem r_try {known : String → Bool} {Es : MSt → XQ} {tb : (MSt → XQ) → WS} {l : List MCl} {D0 : MEnds} {σ : MSt} {h : MH} : wTry known Es tb l D0 σ h = tb (wHd known Es D0 l) D0 σ h := (rfl)
@[simp] theorem r_xf {n0 : String} {a dd : Addr} {n f : Str} {te : WE} {σ : MSt} {h : MH} {Q : MQ} : wXf n0 a dd n f te σ h Q = (n = Str.ofString n0 ∧ te σ h fun x h1 => match x with
  | .exc a' dd' _ fs => a' = a ∧ dd' = dd ∧ (match fs.lookup f with | some v => Q v h1 | none => False)
  | _ => False) := (rfl)
@[simp] theorem r_hd {known : String → Bool} {Es : MSt → XQ} {D0 : MEnds} {c : Value} {o : Option Nat} {is : String → Bool} {rd : Addr → Addr → String → WS} {r : List MCl} {σ : MSt} {n : String} {fs : List (Str × D)} {h : MH} :
    wHd known Es D0 (⟨c, o, is, rd⟩ :: r) σ n fs h = (known n = true ∧ if is n = true then ∀ a dd, rd a dd n (moffE o D0) (mputE o (.exc a dd n fs) σ) h else wHd known Es D0 r σ n fs h) := (rfl)
@[simp] theorem r_hd0 {known : String → Bool} {Es : MSt → XQ} {D0 : MEnds} {σ : MSt} {n : String} {fs : List (Str × D)} {h : MH} : wHd known Es D0 [] σ n fs h = Es σ n fs h := (rfl)
theorem wLoop_inv {g : WG} {tb : WS} {D0 : MEnds} : ∀ {ds : List D} (I : Nat → MSt → MH → Prop) {σ : MSt} {h : MH}, I 0 σ h →
    (∀ (i : Nat) (d : D) (σ : MSt) (h : MH) (K : MSt → MH → Prop), ds[i]? = some d → I i σ h → (∀ σ' h', I (i + 1) σ' h' → K σ' h') → g d σ h fun σ2 h2 => tb { nx := K, ct := K, bk := D0.nx, rt := D0.rt } σ2 h2) →
    (∀ σ h, I ds.length σ h → D0.nx σ h) → wLoop g tb ds D0 σ h
  | [], I, σ, h, h0, _, hd => hd σ h h0
  | d :: ds, I, σ, h, h0, hs, hd => hs 0 d σ h _ rfl h0 fun σ' h' h1 => wLoop_inv (fun i => I (i + 1)) h1 (fun i d σ h K e => hs (i + 1) d σ h K (by simpa using e)) (fun σ h => hd σ h)
theorem wLcGo_inv {put : MSt → D → Option MSt} {tt : WT} {te : WE} {σ : MSt} {Q : List D → MH → Prop} : ∀ {ds acc : List D} (I : Nat → List D → MH → Prop) {h : MH}, I 0 acc h →
    (∀ (i : Nat) (d : D) (acc : List D) (h : MH) (K : List D → MH → Prop), ds[i]? = some d → I i acc h → (∀ acc' h', I (i + 1) acc' h' → K acc' h') →
      ∃ σ2, put σ d = some σ2 ∧ tt σ2 h fun b h3 => if b = true then te σ2 h3 fun y h4 => acc.length < sizeLine ∧ K (acc ++ [y]) h4 else K acc h3) →
    (∀ acc h, I ds.length acc h → Q acc h) → wLcGo put tt te σ ds acc h Q
  | [], acc, I, h, h0, _, hd => hd acc h h0
  | d :: ds, acc, I, h, h0, hs, hd => by
    obtain ⟨σ2, e, q⟩ := hs 0 d acc h (fun acc' h' => wLcGo put tt te σ ds acc' h' Q) rfl h0 fun acc' h' h1 => wLcGo_inv (fun i => I (i + 1)) h1 (fun i d acc h K e => hs (i + 1) d acc h K (by simpa using e)) (fun acc h => hd acc h)
    unfold wLcGo
    rw [e]
    exact q
def Src (h : MH) (s : Addr) : Prop := ∃ a b c : Int, h s = some (.lst [.int a, .int b, .int c])
structure Fro (h h' : MH) (s : Addr) : Prop where
  src : Src h' s
  oth : ∀ p, p ≠ s → h' p = h p
theorem Fro.trans {h h1 h2 : MH} {s : Addr} (a : Fro h h1 s) (b : Fro h1 h2 s) : Fro h h2 s := ⟨b.src, fun p n => (b.oth p n).trans (a.oth p n)⟩
theorem Fro.refl {h : MH} {s : Addr} (a : Src h s) : Fro h h s := ⟨a, fun _ _ => rfl⟩
theorem Fro.upd {h : MH} {s : Addr} {a b c : Int} : Fro h (mupd h s (.lst [.int a, .int b, .int c])) s := ⟨⟨a, b, c, mupd_same⟩, fun p n => mupd_ne n⟩
theorem small_mul {i j : Int} (h : -(2 ^ 64) < i ∧ i < 2 ^ 64) : mulOk i j := .inl (.inl h)
theorem small_mulR {i j : Int} (h : -(2 ^ 64) < j ∧ j < 2 ^ 64) : mulOk i j := .inl (.inr h)
theorem div_small {i j : Int} (h0 : 0 < j) (h : j < 2 ^ 64) : divOk i j := by
  refine ⟨h0, ?_⟩
  have : j.natAbs < 2 ^ 64 := by omega
  have := (Nat.log2_lt (by omega)).mpr this
  omega
theorem bits_le {i : Int} {n : Nat} (h : i.natAbs < 2 ^ n) : Builtin.Int.intBits i ≤ n := by
  unfold Builtin.Int.intBits
  split
  · omega
  · rename_i z
    have z' : i.natAbs ≠ 0 := by
      intro e
      exact z (by simp; omega)
    have := (Nat.log2_lt z').mpr h
    omega
theorem shl_ok {i j : Int} {n : Nat} (h : i.natAbs < 2 ^ n) (h0 : 0 ≤ j) (h1 : j ≤ 1000) (hn : n ≤ 1000) : shlOk i j := by
  refine ⟨h0, ?_⟩
  have := bits_le h
  omega
section
variable {h : MH} {Q : MQ} {x : D} {i : Int} {a : Addr} {xs ys : List D}
@[simp] theorem o_ix : opIx x (.int i) h Q = match sqOf h x with
  | some xs => match atI xs i with
    | some d => Q d h
    | none => False
  | none => False := (rfl)
@[simp] theorem sq_tup : sqOf h (.tup xs) = some xs := (rfl)
@[simp] theorem sq_lst : sqOf h (.lst xs) = some xs := (rfl)
@[simp] theorem sq_scr {ns : List Int} : sqOf h (.scr ns) = some (ns.map .int) := (rfl)
@[simp] theorem sq_ref : sqOf h (.ref a) = match h a with
  | some (.lst ds) => some ds
  | _ => none := (rfl)
@[simp] theorem ls_lst : lsOf h (.lst xs) = some xs := (rfl)
@[simp] theorem ls_ref : lsOf h (.ref a) = match h a with
  | some (.lst ds) => some ds
  | _ => none := (rfl)
@[simp] theorem row_tup : rowF (.tup xs) = some xs := (rfl)
@[simp] theorem row_lst : rowF (.lst xs) = some xs := (rfl)
@[simp] theorem row_scr {ns : List Int} : rowF (.scr ns) = some (ns.map .int) := (rfl)
@[simp] theorem o_lenT : fLen [.tup xs] h Q = Q (.int xs.length) h := (rfl)
@[simp] theorem o_lenL : fLen [.lst xs] h Q = Q (.int xs.length) h := (rfl)
@[simp] theorem o_lenS {ns : List Int} : fLen [.scr ns] h Q = Q (.int (ns.map D.int).length) h := (rfl)
@[simp] theorem o_tup1 : fTup [x] h Q = match sqOf h x with
  | some xs => Q (.tup xs) h
  | none => False := (rfl)
@[simp] theorem o_list1 : fList [x] h Q = match sqOf h x with
  | some xs => Q (.lst xs) h
  | none => False := (rfl)
@[simp] theorem o_list1M : fListM [x] h Q = match sqOf h x with
  | some xs => ∀ p, h p = none → Q (.ref p) (mupd h p (.lst xs))
  | none => False := (rfl)
@[simp] theorem o_max2 {j : Int} : fMax2 [.int i, .int j] h Q = Q (.int (if j > i then j else i)) h := (rfl)
@[simp] theorem o_min2 {j : Int} : fMin2 [.int i, .int j] h Q = Q (.int (if j < i then j else i)) h := (rfl)
@[simp] theorem o_addL : opAdd (.lst xs) (.lst ys) h Q = (xs.length + ys.length ≤ sizeLine ∧ Q (.lst (xs ++ ys)) h) := (rfl)
@[simp] theorem o_addT : opAdd (.tup xs) (.tup ys) h Q = (xs.length + ys.length ≤ sizeLine ∧ Q (.tup (xs ++ ys)) h) := (rfl)
@[simp] theorem o_mulL {j : Int} : opMul (.lst xs) (.int j) h Q = ((-(2 ^ 63) ≤ j ∧ j < 2 ^ 63 ∧ xs.length * j.toNat ≤ sizeLine) ∧ Q (.lst (List.replicate j.toNat xs).flatten) h) := (rfl)
@[simp] theorem o_mulT {j : Int} : opMul (.tup xs) (.int j) h Q = ((xs ≠ [] ∧ 2 ≤ j ∧ j ≤ 1000 ∧ xs.length ≤ 1000) ∧ Q (.tup (List.replicate j.toNat xs).flatten) h) := (rfl)
@[simp] theorem o_mulS {z : Str} {j : Int} : opMul (.str z) (.int j) h Q = (strRepOk z j ∧ Q (.str (strRep z j)) h) := (rfl)
@[simp] theorem o_mulM {j : Int} : opMulM (.lst xs) (.int j) h Q = ((-(2 ^ 63) ≤ j ∧ j < 2 ^ 63 ∧ xs.length * j.toNat ≤ sizeLine) ∧ ∀ p, h p = none → Q (.ref p) (mupd h p (.lst (List.replicate j.toNat xs).flatten))) := (rfl)
@[simp] theorem o_slL {lo hi : Option Int} : opSl (.lst xs) lo hi h Q = Q (.lst (cut xs lo hi)) h := (rfl)
@[simp] theorem o_slT {lo hi : Option Int} : opSl (.tup xs) lo hi h Q = Q (.tup (cut xs lo hi)) h := (rfl)
@[simp] theorem o_app {d : D} : fAppend (.ref a) [d] h Q = match h a with
  | some (.lst xs) => xs.length < sizeLine ∧ Q .non (mupd h a (.lst (xs ++ [d])))
  | _ => False := (rfl)
theorem o_eqT {n : Bool} : opEq n (.tup xs) (.tup ys) h Q = ((fit 64 (.tup xs) = true ∧ fit 64 (.tup ys) = true) ∧ Q (.bl (if n then !eqv (.tup xs) (.tup ys) else eqv (.tup xs) (.tup ys))) h) := (rfl)
theorem o_eqL {n : Bool} : opEq n (.lst xs) (.lst ys) h Q = ((fit 64 (.lst xs) = true ∧ fit 64 (.lst ys) = true) ∧ Q (.bl (if n then !eqvs xs ys else eqvs xs ys)) h) := (rfl)
@[simp] theorem o_isi {ns : List String} : fIsi ns x h Q = match clsD h x with
  | some c => Q (.bl (ns.any (subT c))) h
  | none => False := (rfl)
@[simp] theorem t_bl {b : Bool} : truth h (.bl b) = some b := (rfl)
@[simp] theorem t_int : truth h (.int i) = some (i != 0) := (rfl)
@[simp] theorem t_non : truth h .non = some false := (rfl)
@[simp] theorem mupd_eq {c : Cell} : mupd h a c a = some c := mupd_same
@[simp] theorem mupd_mupd {c d : Cell} : mupd (mupd h a c) a d = mupd h a d := mupd_upd
end
theorem atI_of {α : Type} {xs : List α} {i : Nat} (hi : i < xs.length) : atI xs (i : Int) = some xs[i] := by
  unfold atI ixN
  rw [if_pos (by omega), if_pos (by omega)]
  simp [hi]
theorem ixN_of {n i : Nat} (hi : i < n) : ixN n (i : Int) = some i := by
  unfold ixN
  rw [if_pos (by omega), if_pos (by omega)]
  simp
theorem ixN_in {n : Nat} {i : Int} (h0 : 0 ≤ i) (hi : i < n) : ixN n i = some i.toNat := by
  unfold ixN
  rw [if_pos h0, if_pos hi]
theorem atI_in {α : Type} {xs : List α} {i : Int} (h0 : 0 ≤ i) (hi : i < xs.length) : ∃ x, atI xs i = some x ∧ x ∈ xs ∧ xs[i.toNat]? = some x := by
  have hl : i.toNat < xs.length := by omega
  refine ⟨xs[i.toNat], ?_, List.getElem_mem _, List.getElem?_eq_getElem hl⟩
  unfold atI
  rw [ixN_in h0 hi]
  simp [hl]
theorem mdel_mupd {h : MH} {a : Addr} {c : Cell} (n : h a = none) : mdel (mupd h a c) a = h := mdel_upd n
def Ext (h h' : MH) : Prop := ∀ p c, h p = some c → h' p = some c
theorem Ext.refl {h : MH} : Ext h h := fun _ _ e => e
theorem Ext.trans {h h1 h2 : MH} (a : Ext h h1) (b : Ext h1 h2) : Ext h h2 := fun p c e => b p c (a p c e)
theorem Ext.new {h : MH} {p : Addr} {c : Cell} (n : h p = none) : Ext h (mupd h p c) := fun q c e => by rw [mupd_ne (fun z => by rw [z, n] at e; cases e)]; exact e
theorem Ext.src {h h' : MH} {s : Addr} (e : Ext h h') (a : Src h s) : Src h' s := by
  obtain ⟨x, y, z, q⟩ := a
  exact ⟨x, y, z, e _ _ q⟩
theorem Src.some {h : MH} {s : Addr} (a : Src h s) : h s ≠ none := by
  obtain ⟨x, y, z, q⟩ := a
  rw [q]; simp
theorem mstart_eq {N : List Str} {ds : List D} : mstart N ds = ds.map some ++ List.replicate (N.length - ds.length) none := (rfl)
mutual
theorem eqv_self : ∀ (n : Nat) (d : D), fit n d = true → eqv d d = true
  | _, .non, _ => rfl
  | _, .bl b, _ => by simp [eqv]
  | _, .int _, _ => by simp [eqv]
  | _, .str _, _ => by simp [eqv]
  | n + 1, .tup ds, h => by
    simp only [eqv]
    exact eqvs_self n ds (by simpa [fit] using h)
  | n + 1, .lst ds, h => by
    simp only [eqv]
    exact eqvs_self n ds (by simpa [fit] using h)
  | 0, .tup _, h => by simp [fit] at h
  | 0, .lst _, h => by simp [fit] at h
  | 0, .ty _, h => by simp [fit] at h
  | 0, .dct _, h => by simp [fit] at h
  | 0, .dcl _, h => by simp [fit] at h
  | 0, .scr _, h => by simp [fit] at h
  | 0, .ref _, h => by simp [fit] at h
  | 0, .exc _ _ _ _, h => by simp [fit] at h
  | _ + 1, .ty _, h => by simp [fit] at h
  | _ + 1, .dct _, h => by simp [fit] at h
  | _ + 1, .dcl _, h => by simp [fit] at h
  | _ + 1, .scr _, h => by simp [fit] at h
  | _ + 1, .ref _, h => by simp [fit] at h
  | _ + 1, .exc _ _ _ _, h => by simp [fit] at h
theorem eqvs_self : ∀ (n : Nat) (ds : List D), (∀ d ∈ ds, fit n d = true) → eqvs ds ds = true
  | _, [], _ => rfl
  | n, d :: ds, h => by
    simp only [eqvs, Bool.and_eq_true]
    exact ⟨eqv_self n d (h d (by simp)), eqvs_self n ds fun x hx => h x (by simp [hx])⟩
end
theorem op_self {neg : Bool} {x : D} {h : MH} {Q : MQ} (hf : fit 64 x = true) (q : Q (.bl (!neg)) h) : opEq neg x x h Q := by
  have e := eqv_self 64 x hf
  have z : (if neg = true then !true else true) = !neg := by cases neg <;> rfl
  cases x with
  | lst xs =>
    simp only [eqv] at e
    refine ⟨⟨hf, hf⟩, ?_⟩
    rw [e, z]; exact q
  | int i => show Q _ h; rw [show (i == i) = true by simp, z]; exact q
  | non => exact ⟨⟨hf, hf⟩, by rw [e, z]; exact q⟩
  | bl b => exact ⟨⟨hf, hf⟩, by rw [e, z]; exact q⟩
  | str b => exact ⟨⟨hf, hf⟩, by rw [e, z]; exact q⟩
  | tup b => exact ⟨⟨hf, hf⟩, by rw [e, z]; exact q⟩
  | _ => simp [fit] at hf
theorem ne_self {x : D} {h : MH} {Q : MQ} (hf : fit 64 x = true) (q : Q (.bl false) h) : opEq true x x h Q := op_self (neg := true) hf q
theorem cut_to {α : Type} {xs : List α} {k : Int} (h0 : 0 ≤ k) (h1 : k ≤ xs.length) : cut xs none (some k) = xs.take k.toNat := by
  unfold cut HT.sIx
  simp
  split
  · omega
  · rename_i z
    congr 1
    omega
end BP

set_option maxRecDepth 100000
set_option maxHeartbeats 400000
namespace BP
open PySem PySem.Spec PyProof.Rows L2
def pl : D → Bool
  | .ref _ => false
  | .exc _ _ _ _ => false
  | .ty _ => false
  | _ => true
def isI : D → Bool
  | .int _ => true
  | _ => false
def dInt : D → Int
  | .int i => i
  | _ => 0
def btw (d : D) (lo hi : Int) : Bool := match d with
  | .int i => decide (lo ≤ i) && decide (i ≤ hi)
  | _ => false
theorem szL : (sizeLine : Nat) = 16777216 := by decide
theorem btw_int {d : D} {lo hi : Int} (h : btw d lo hi = true) : ∃ i, d = .int i ∧ lo ≤ i ∧ i ≤ hi := by
  cases d with
  | int i => simp [btw] at h; exact ⟨i, rfl, h⟩
  | _ => simp [btw] at h
theorem bls_map {α : Type} (f : α → Bool) : ∀ xs : List α, bls (xs.map fun d => D.bl (f d)) = some (xs.map f)
  | [] => rfl
  | x :: xs => by simp [bls, bls_map f xs]
theorem take_snoc {α : Type} {l : List α} {i : Nat} {x : α} (e : l[i]? = some x) : l.take (i + 1) = l.take i ++ [x] := by
  rw [List.take_add_one, e]; rfl
theorem enum_get {ls : List D} {i : Nat} {d : D} (e : (enumD 0 ls)[i]? = some d) : ∃ x, ls[i]? = some x ∧ d = .tup [.int (i : Nat), x] := by
  unfold enumD at e
  rw [List.getElem?_mapIdx] at e
  cases q : ls[i]? with
  | none => rw [q] at e; cases e
  | some x =>
    rw [q] at e
    simp at e
    exact ⟨x, rfl, e.symm⟩
theorem enum_len {ls : List D} : (enumD 0 ls).length = ls.length := by unfold enumD; simp
theorem range_get {n i : Nat} {lo : Int} {d : D} (e : (rangeD lo n)[i]? = some d) : i < n ∧ d = .int (lo + i) := by
  unfold rangeD at e
  rw [List.getElem?_map] at e
  cases z : (List.range n)[i]? with
  | none => rw [z] at e; cases e
  | some j =>
    rw [z] at e
    obtain ⟨h1, h2⟩ := List.getElem?_eq_some_iff.mp z
    simp at h1 h2 e
    subst h2
    exact ⟨h1, e.symm⟩
theorem range_len {lo : Int} {n : Nat} : (rangeD lo n).length = n := by unfold rangeD; simp
theorem len_row {l : D} {ls : List D} (h : MH) (Q : MQ) (e : rowF l = some ls) : fLen [l] h Q = Q (.int ls.length) h := by
  cases l <;> simp [rowF] at e <;> subst e <;> rfl
theorem sq_row {l : D} {ls : List D} (h : MH) (e : rowF l = some ls) : sqOf h l = some ls := by
  cases l <;> simp [rowF] at e <;> subst e <;> rfl
@[simp] theorem o_repr {d : D} {h : MH} {Q : MQ} : fRepr [d] h Q = match toPx h d with
  | some p => (p.showable = true ∧ p.shown.length ≤ sizeLine ∧ p.depth ≤ 64) ∧ Q (.str p.shown) h
  | none => False := (rfl)
@[simp] theorem o_abs {i : Int} {h : MH} {Q : MQ} : fAbs [.int i] h Q = Q (.int (if i < 0 then -i else i)) h := (rfl)
@[simp] theorem o_bits {i : Int} {h : MH} {Q : MQ} : unBits (.int i) h Q = Q (.int (Builtin.Int.intBits i : Nat)) h := (rfl)
@[simp] theorem r_range3 {wa : WA} {σ : MSt} {h : MH} {P : List D → MH → Prop} : wRange3 wa σ h P = wa σ h fun ds h1 => match ds with
  | [.int i, .int j, .int c] => ∃ n, RgC i j c n ∧ P (stepD i c n) h1
  | _ => False := (rfl)
@[simp] theorem r_zip {wa : WA} {σ : MSt} {h : MH} {P : List D → MH → Prop} : wZip wa σ h P = wa σ h fun ds h1 => match ds with
  | [.tup xs, .tup ys] => P (zipD xs ys) h1
  | [.lst xs, .lst ys] => P (zipD xs ys) h1
  | _ => False := (rfl)
@[simp] theorem o_rev {x : D} {h : MH} {Q : MQ} : unRev x h Q = match lsOf h x with
  | some xs => Q (.lst xs.reverse) h
  | none => False := (rfl)
@[simp] theorem r_xis {n0 : String} {a dd : Addr} {n : Str} {r : Bool} {te : WE} {σ : MSt} {h : MH} {Q : MQ} : wXis n0 a dd n r te σ h Q = (n = Str.ofString n0 ∧ te σ h fun x h1 => match x with
  | .exc a' dd' _ _ => a' = a ∧ dd' = dd ∧ Q (.bl r) h1
  | _ => False) := (rfl)
@[simp] theorem r_act {i n : Nat} {f : Addr} {tl : LTl} {Es : MSt → XQ} {σ : MSt} {h : MH} {Q : MQ} : wAct i n f tl Es σ h Q = (σ[i]? = some (some (.ref f)) ∧ tl h Q (Es (List.replicate n none))) := (rfl)
@[simp] theorem r_lam {P : Addr} {q : Str} {sp : LSp} {Es : MSt → XQ} {t : (MSt → XQ) → WE} {σ : MSt} {h : MH} {Q : MQ} : wLam P q sp Es t σ h Q = (h P = some (.tbl q) ∧ sp (fun h' Q' E' => t (fun _ => E') σ h' Q') h Q (Es σ)) := (rfl)
@[simp] theorem r_aug {i : Nat} {t : WE} {g : Int → Int → Int} {D0 : MEnds} {σ : MSt} {h : MH} : wAug i t g D0 σ h = match σ[i]? with
  | some (some (.int x)) => t σ h fun d h1 => match d with
    | .int y => D0.nx (σ.set i (some (.int (g x y)))) h1
    | _ => False
  | _ => False := (rfl)
@[simp] theorem o_and {x y : Int} {h : MH} {Q : MQ} : opAnd (.int x) (.int y) h Q = Q (.int (Builtin.bitAnd x y)) h := (rfl)
end BP

set_option maxRecDepth 100000
set_option maxHeartbeats 4000000
namespace BP
open PySem PySem.Spec PyProof.Rows L2 LamX
structure LamG (N : List Str) (sc scope : Scope) : Prop where
  kind : scope.kind = .function
  co : scope.isCoroutine = false
  gen : scope.isGenerator = false
  own : ∀ y ∈ scope.names, y.2 ≠ .cell ∧ (y.2 = .local → y.1 ∉ N)
  free : ∀ y ∈ scope.names, y.2 = .free → sc.names.lookup y.1 = some .cell ∨ sc.names.lookup y.1 = some .free
section
variable {X : Cx} {pins : List (Addr × Obj)} {σ : L2.St} {H G : Hp} {s s1 : Shared}
end
section
variable {X : Cx} {B : Bs} {Es : MSt → XQ}
end
end BP

set_option maxRecDepth 100000
set_option maxHeartbeats 400000
namespace BP
open PySem PySem.Spec PyProof.Rows L2
section
variable (ds : List D) (h : MH) (Q' : MQ) (E' : XQ)
end
end BP

set_option maxRecDepth 100000
set_option maxHeartbeats 4000000
namespace BP
open PySem PySem.Spec PyProof.Rows L2
section
variable {X : Cx} {B : Bs} {a b c e o : Expr} {ta tb tc to : WE} {pos p : Pos} {wa : WA} {es : List Expr}
def wMt0 (f : D → List D → MH → MQ → Prop) (to : WE) : WE := fun σ h Q => to σ h fun x h1 => (lsOf h1 x).isSome = true ∧ f x [] h1 Q
def fClear (x : D) (ds : List D) (h : MH) (Q : MQ) : Prop := match x, ds with
  | .ref a, [] => match h a with
    | some (.lst xs) => Q .non (mupd h a (.lst []))
    | _ => False
  | _, _ => False
def opAddM (x y : D) (h : MH) (Q : MQ) : Prop := match lsOf h x, lsOf h y with
  | some a, some b => a.length + b.length ≤ sizeLine ∧ ∀ p, h p = none → Q (.ref p) (mupd h p (.lst (a ++ b)))
  | _, _ => False
end
section
variable {ta : WE} {σ : MSt} {h : MH} {Q : MQ} {a : Addr} {xs ys : List D} {i : Nat} {D0 : MEnds} {d : D}
@[simp] theorem o_addM {x y : D} : opAddM x y h Q = match lsOf h x, lsOf h y with
  | some a, some b => a.length + b.length ≤ sizeLine ∧ ∀ p, h p = none → Q (.ref p) (mupd h p (.lst (a ++ b)))
  | _, _ => False := (rfl)
@[simp] theorem o_extend : fExtend (.ref a) [d] h Q = match h a, lsOf h d with
  | some (.lst xs), some zs => xs.length + zs.length ≤ sizeLine ∧ Q .non (mupd h a (.lst (xs ++ zs)))
  | _, _ => False := (rfl)
@[simp] theorem r_mt0 {k : D → List D → MH → MQ → Prop} : wMt0 k ta σ h Q = ta σ h fun x h1 => (lsOf h1 x).isSome = true ∧ k x [] h1 Q := (rfl)
@[simp] theorem o_clear : fClear (.ref a) [] h Q = match h a with
    | some (.lst xs) => Q .non (mupd h a (.lst []))
    | _ => False := (rfl)
end
end BP

set_option maxRecDepth 100000
set_option maxHeartbeats 4000000
namespace BP
open PySem PySem.Spec PyProof.Rows L2
def EqI (K : PySem.W.Frag) (H : Hp) : Nat → V → V → Prop
  | 0 => fun _ _ => False
  | n + 1 => fun x y => (∃ d, Dp K H x d ∧ Dp K H y d ∧ d.canLay0 = true ∧ d.depth ≤ 50 ∧ PyData.eqv d d = true) ∨ (∃ a, x = .ref a ∧ y = .ref a) ∨ ∃ a b xs ys, x = .ref a ∧ y = .ref b ∧ SqL K H a xs ∧ SqL K H b ys ∧ Paired (EqI K H n) xs ys
section
variable {X : Cx} {pins : List (Addr × Obj)} {σ : L2.St} {H : Hp} {s : Shared}
end
section
variable {X : Cx}
end
def fitR : Nat → D → Bool
  | _, .ref _ => true
  | n + 1, .lst ds => ds.all (fitR n)
  | _, x => fit 50 x
theorem eqvP_self {d : D} {p : PyData} (e : toP d = some p) (f : fit 50 d = true) : PyData.eqv p p = true := by
  rw [eqv_toP _ _ _ _ e e]
  exact eqv_self 50 d f
mutual
theorem eqI_of {K : PySem.W.Frag} {F H : Hp} {h : MH} (s : SR K F H h) : ∀ (n : Nat) (d : D) (u v : V), fitR n d = true → RD K F d u → RD K F d v → EqI K H (n + 1) u v
  | n, .ref a, u, v, _, r1, r2 => by cases r1; cases r2; exact .inr (.inl ⟨a, rfl, rfl⟩)
  | n + 1, .lst ds, u, v, f, r1, r2 => by
    cases r1 with
    | lst q1 t1 =>
      cases r2 with
      | lst q2 t2 =>
        refine .inr (.inr ⟨_, _, _, _, rfl, rfl, SqL.of (s.fr _ _ q1), SqL.of (s.fr _ _ q2), ?_⟩)
        exact eqIs_of s n ds _ _ (by simpa only [fitR, List.all_eq_true] using f) t1 t2
  | 0, .lst ds, u, v, f, r1, r2 => by
    obtain ⟨p, e, c, l⟩ := toP_of 50 _ (by simpa only [fitR] using f)
    exact .inl ⟨p, r1.dp s.fr e, r2.dp s.fr e, c, l, eqvP_self e (by simpa only [fitR] using f)⟩
  | n, .non, u, v, f, r1, r2 => by
    obtain ⟨p, e, c, l⟩ := toP_of 50 .non rfl
    exact .inl ⟨p, r1.dp s.fr e, r2.dp s.fr e, c, l, eqvP_self e rfl⟩
  | n, .bl b, u, v, f, r1, r2 => by
    obtain ⟨p, e, c, l⟩ := toP_of 50 (.bl b) rfl
    exact .inl ⟨p, r1.dp s.fr e, r2.dp s.fr e, c, l, eqvP_self e rfl⟩
  | n, .int b, u, v, f, r1, r2 => by
    obtain ⟨p, e, c, l⟩ := toP_of 50 (.int b) rfl
    exact .inl ⟨p, r1.dp s.fr e, r2.dp s.fr e, c, l, eqvP_self e rfl⟩
  | n, .str b, u, v, f, r1, r2 => by
    have f' : fit 50 (.str b) = true := by cases n <;> simpa only [fitR] using f
    obtain ⟨p, e, c, l⟩ := toP_of 50 _ f'
    exact .inl ⟨p, r1.dp s.fr e, r2.dp s.fr e, c, l, eqvP_self e f'⟩
  | n, .tup b, u, v, f, r1, r2 => by
    have f' : fit 50 (.tup b) = true := by cases n <;> simpa only [fitR] using f
    obtain ⟨p, e, c, l⟩ := toP_of 50 _ f'
    exact .inl ⟨p, r1.dp s.fr e, r2.dp s.fr e, c, l, eqvP_self e f'⟩
  | n, .ty _, u, v, f, r1, r2 => by cases n <;> simp [fitR, fit] at f
  | n, .dct _, u, v, f, r1, r2 => by cases n <;> simp [fitR, fit] at f
  | n, .dcl _, u, v, f, r1, r2 => by cases n <;> simp [fitR, fit] at f
  | n, .scr _, u, v, f, r1, r2 => by cases n <;> simp [fitR, fit] at f
  | n, .exc _ _ _ _, u, v, f, r1, r2 => by cases n <;> simp [fitR, fit] at f
theorem eqIs_of {K : PySem.W.Frag} {F H : Hp} {h : MH} (s : SR K F H h) : ∀ (n : Nat) (ds : List D) (us vs : List V), (∀ d ∈ ds, fitR n d = true) → RDs K F ds us → RDs K F ds vs → Paired (EqI K H (n + 1)) us vs
  | n, [], _, _, _, r1, r2 => by cases r1; cases r2; exact .nil
  | n, d :: ds, _, _, f, r1, r2 => by
    cases r1 with
    | cons a1 b1 =>
      cases r2 with
      | cons a2 b2 => exact .cons (eqI_of s n d _ _ (f d (by simp)) a1 a2) (eqIs_of s n ds _ _ (fun x hx => f x (by simp [hx])) b1 b2)
end
section
variable {X : Cx} {B : Bs} {a b : Expr} {ta tb : WE} {pos : Pos}
def wDctM : WE := fun _ h Q => ∀ p, h p = none → Q (.ref p) (mupd h p (.dct []))
@[simp] theorem r_dctM {σ : MSt} {h : MH} {Q : MQ} : wDctM σ h Q = ∀ p, h p = none → Q (.ref p) (mupd h p (.dct [])) := (rfl)
end
end BP

set_option maxRecDepth 100000
set_option maxHeartbeats 4000000
namespace BP
open PySem PySem.Spec PyProof.Rows L2
section
variable {prog : Program} {w : World} {A : Around} {E : Value → Shared → Prop} {s : Shared} {l : Addr} {xs : Array (Int × Tok)}
end
section
variable {X : Cx} {B : Bs} {e : Expr} {es : List Expr} {wa : WA} {pos : Pos}
def fSumA (ds : List D) (h : MH) (Q : MQ) : Prop := match ds with
  | [.tup xs] => match intsOf xs with
    | some ns => Q (.int ns.sum) h
    | none => False
  | ds => fSum ds h Q
end
section
variable {h : MH} {Q : MQ} {xs : List D}
@[simp] theorem o_sumT : fSumA [.tup xs] h Q = match intsOf xs with
    | some ns => Q (.int ns.sum) h
    | none => False := (rfl)
@[simp] theorem o_sumL : fSumA [.lst xs] h Q = fSum [.lst xs] h Q := (rfl)
end
end BP

set_option maxRecDepth 100000
set_option maxHeartbeats 400000
namespace BP
open PySem PySem.Spec PyProof.Rows L2
theorem lc_over {α : Type} {put : MSt → D → Option MSt} {te : WE} {σ : MSt} {h : MH} {Q : List D → MH → Prop} (e g : α → D) (xs : List α) (hl : xs.length ≤ 16000000)
    (hs : ∀ x ∈ xs, ∀ K : MQ, K (g x) h → ∃ σ2, put σ (e x) = some σ2 ∧ te σ2 h K) (q : Q (xs.map g) h) : wLcGo put wYes te σ (xs.map e) [] h Q := by
  refine wLcGo_inv (fun i acc h' => h' = h ∧ acc = (xs.map g).take i) ⟨rfl, by simp⟩ ?_ ?_
  · rintro i d acc h' K ed ⟨rfl, rfl⟩ hK
    rw [List.getElem?_map] at ed
    cases ex : xs[i]? with
    | none => rw [ex] at ed; cases ed
    | some x =>
      rw [ex] at ed
      simp at ed
      subst ed
      have ln : ((xs.map g).take i).length < sizeLine := by
        have := szL
        have := (List.getElem?_eq_some_iff.mp ex).1
        simp; omega
      have nx : K ((xs.map g).take i ++ [g x]) h' := hK _ _ ⟨rfl, by
        rw [take_snoc (x := g x)]
        rw [List.getElem?_map, ex]; rfl⟩
      obtain ⟨σ2, e1, e2⟩ := hs x (List.mem_of_getElem? ex) (fun y h4 => ((xs.map g).take i).length < sizeLine ∧ K ((xs.map g).take i ++ [y]) h4) ⟨ln, nx⟩
      exact ⟨σ2, e1, by simpa using e2⟩
  · rintro acc h' ⟨rfl, rfl⟩
    rw [List.take_of_length_le (by simp)]
    exact q
theorem lc_rangeD {put : MSt → D → Option MSt} {te : WE} {σ : MSt} {h : MH} {Q : List D → MH → Prop} {lo : Int} (n : Nat) (g : Nat → D) (hl : n ≤ 16000000)
    (hs : ∀ i, i < n → ∀ K : MQ, K (g i) h → ∃ σ2, put σ (.int (lo + (i : Nat))) = some σ2 ∧ te σ2 h K) (q : Q ((List.range n).map g) h) : wLcGo put wYes te σ (rangeD lo n) [] h Q :=
  lc_over (fun i : Nat => D.int (lo + (i : Nat))) g (List.range n) (by simpa using hl) (fun i hi K k => hs i (by simpa using hi) K k) q
theorem lc_filter {α : Type} {put : MSt → D → Option MSt} {tt : WT} {te : WE} {σ : MSt} {h : MH} {Q : List D → MH → Prop} (e g : α → D) (p : α → Bool) (xs : List α) (hl : xs.length ≤ 16000000)
    (hs : ∀ x ∈ xs, ∃ σ2, put σ (e x) = some σ2 ∧ ∀ K : Bool → MH → Prop, K (p x) h → tt σ2 h K)
    (he : ∀ x ∈ xs, p x = true → ∀ σ2, put σ (e x) = some σ2 → ∀ K : MQ, K (g x) h → te σ2 h K) (q : Q ((xs.filter p).map g) h) : wLcGo put tt te σ (xs.map e) [] h Q := by
  refine wLcGo_inv (fun i acc h' => h' = h ∧ acc = ((xs.take i).filter p).map g ∧ acc.length ≤ i) ⟨rfl, by simp, by simp⟩ ?_ ?_
  · rintro i d acc h' K ed ⟨rfl, rfl, la⟩ hK
    rw [List.getElem?_map] at ed
    cases ex : xs[i]? with
    | none => rw [ex] at ed; cases ed
    | some x =>
      rw [ex] at ed
      simp at ed
      subst ed
      have hi := (List.getElem?_eq_some_iff.mp ex).1
      have := szL
      have mx := List.mem_of_getElem? ex
      obtain ⟨σ2, e1, e2⟩ := hs x mx
      refine ⟨σ2, e1, e2 _ ?_⟩
      cases hp : p x with
      | true =>
        rw [if_pos rfl]
        refine he x mx hp σ2 e1 _ ⟨by omega, hK _ _ ⟨rfl, ?_, ?_⟩⟩
        · rw [take_snoc ex, List.filter_append, List.map_append]; simp [hp]
        · simp at la ⊢; omega
      | false =>
        rw [if_neg Bool.false_ne_true]
        refine hK _ _ ⟨rfl, ?_, by omega⟩
        rw [take_snoc ex, List.filter_append, List.map_append]; simp [hp]
  · rintro acc h' ⟨rfl, rfl, la⟩
    rw [List.take_of_length_le (by simp)]
    exact q
theorem map_get {α : Type} {e : α → D} {xs : List α} {i : Nat} {d : D} (h : (xs.map e)[i]? = some d) : ∃ x, xs[i]? = some x ∧ d = e x := by
  rw [List.getElem?_map] at h
  cases ex : xs[i]? with
  | none => rw [ex] at h; cases h
  | some x => rw [ex] at h; simp at h; exact ⟨x, rfl, h.symm⟩
theorem at_nat {ns : List Int} {a : Nat} (ha : a < ns.length) : atI (ns.map D.int) (a : Int) = some (.int (ns.getD a 0)) := by
  rw [atI_of (by simpa using ha)]
  simp [List.getD, ha]
theorem bit_and1 {t : Nat} : Builtin.bitAnd (t : Int) 1 = ((t % 2 : Nat) : Int) := by
  have : Builtin.bitAnd (t : Int) 1 = ((t &&& 1 : Nat) : Int) := by rfl
  rw [this, Nat.and_one_is_mod]

@[simp] theorem szLs : (sizeLine : Nat) = 16777216 := szL
@[simp] theorem okR_is {i : Int} : okR i = (-4611686018427387904 ≤ i ∧ i < 4611686018427387904) := by
  unfold okR
  apply propext
  omega
@[simp] theorem modOk_is {i j : Int} : modOk i j = (0 < j) := (rfl)
@[simp] theorem shrOk_is {i j : Int} : shrOk i j = (0 ≤ j) := (rfl)
@[simp] theorem mulOk_l {i j : Int} (h1 : -18446744073709551616 < i) (h2 : i < 18446744073709551616) : mulOk i j = True := eq_true (small_mul (by omega))
@[simp] theorem mulOk_r {i j : Int} (h1 : -18446744073709551616 < j) (h2 : j < 18446744073709551616) : mulOk i j = True := eq_true (small_mulR (by omega))
@[simp] theorem divOk_r {i j : Int} (h1 : 0 < j) (h2 : j < 18446744073709551616) : divOk i j = True := eq_true (div_small h1 (by omega))
theorem powOk_of {i j : Int} (h0 : 0 ≤ j) (h1 : j ≤ 1000000) (h2 : i.natAbs < 18446744073709551616) : powOk i j := ⟨h0, h1, h2⟩
@[simp] theorem powOk_r {i j : Int} (h0 : 0 ≤ j) (h1 : j ≤ 1000000) (h2 : i.natAbs < 18446744073709551616) : powOk i j = True := eq_true ⟨h0, h1, h2⟩
@[simp] theorem shlOk_1 {j : Int} (h0 : 0 ≤ j) (h1 : j ≤ 100000) : shlOk 1 j = True := by
  refine eq_true ⟨h0, ?_⟩
  have : Builtin.Int.intBits 1 = 1 := by decide
  omega
theorem o_inF {neg : Bool} {x y : D} {xs : List D} {h : MH} {Q : MQ} (e : sqOf h y = some xs) (f1 : flatD x = true) (f2 : xs.all flatD = true) : opIn neg x y h Q = Q (.bl (if neg then !xs.any (fun z => eqv z x) else xs.any (fun z => eqv z x))) h := by
  unfold opIn
  rw [e]
  apply propext
  exact ⟨fun q => q.2, fun q => ⟨.inl ⟨f1, f2⟩, q⟩⟩
@[simp] theorem o_inT {neg : Bool} {x : D} {xs : List D} {h : MH} {Q : MQ} (f1 : flatD x = true) (f2 : xs.all flatD = true) : opIn neg x (.tup xs) h Q = Q (.bl (if neg then !xs.any (fun z => eqv z x) else xs.any (fun z => eqv z x))) h := o_inF rfl f1 f2
@[simp] theorem o_inL {neg : Bool} {x : D} {xs : List D} {h : MH} {Q : MQ} (f1 : flatD x = true) (f2 : xs.all flatD = true) : opIn neg x (.lst xs) h Q = Q (.bl (if neg then !xs.any (fun z => eqv z x) else xs.any (fun z => eqv z x))) h := o_inF rfl f1 f2
@[simp] theorem eqv_int {i j : Int} : eqv (.int i) (.int j) = (i == j) := by simp [eqv]
@[simp] theorem flat_int {i : Int} : flatD (.int i) = true := (rfl)
end BP

set_option maxRecDepth 100000
set_option maxHeartbeats 400000
namespace BP
open PySem PySem.Spec PyProof.Rows L2
def dz (h : MH) : List D → Option (List D × MH)
  | [] => some ([], h)
  | .ref a :: ds => match h a with
    | some (.lst xs) => (dz (mdel h a) ds).map fun r => (.lst xs :: r.1, r.2)
    | _ => none
  | d :: ds => (dz h ds).map fun r => (d :: r.1, r.2)
theorem dz_rd {K : PySem.W.Frag} {H : Hp} : ∀ {ds : List D} {xs : List V} {F : Hp} {h h' : MH} {es : List D}, SR K F H h → RDs K F ds xs → dz h ds = some (es, h') → ∃ F', Go K F H h F' H h' ∧ RDs K F' es xs
  | [], _, F, h, h', es, s, .nil, e => by
    simp only [dz, Option.some.injEq, Prod.mk.injEq] at e
    obtain ⟨rfl, rfl⟩ := e
    exact ⟨F, Go.refl s, .nil⟩
  | d :: ds, _, F, h, h', es, s, .cons r rs, e => by
    have other : ∀ e' : (dz h ds).map (fun r => (d :: r.1, r.2)) = some (es, h'), ∃ F', Go K F H h F' H h' ∧ RDs K F' es _ := fun e' => by
      simp only [Option.map_eq_some_iff] at e'
      obtain ⟨⟨es', h2⟩, e1, e2⟩ := e'
      simp only [Prod.mk.injEq] at e2
      obtain ⟨rfl, rfl⟩ := e2
      obtain ⟨F', g, rr⟩ := dz_rd s rs e1
      exact ⟨F', g, .cons (r.mono g.ss) rr⟩
    cases d with
    | ref a =>
      simp only [dz] at e
      split at e
      · rename_i ys em
        simp only [Option.map_eq_some_iff] at e
        obtain ⟨⟨es', h2⟩, e1, e2⟩ := e
        simp only [Prod.mk.injEq] at e2
        obtain ⟨rfl, rfl⟩ := e2
        cases r
        obtain ⟨_, zs, q, r2⟩ := s.cell _ _ em
        have g := Go.settle s em q
        obtain ⟨F', g', rr⟩ := dz_rd g.sr (rs.mono g.ss) e1
        exact ⟨F', g.trans g', .cons ((RD.lst upd_same (r2.mono g.ss)).mono g'.ss) rr⟩
      · cases e
    | _ => exact other e
def wDz (i : Nat) (t : WS) : WS := fun D σ h => match σ[i]? with
  | some (some (.lst ds)) => match dz h ds with
    | some r => t D (σ.set i (some (.lst r.1))) r.2
    | none => False
  | _ => False
theorem ms_dz {X : Cx} {B : Bs} {sts : List Stmt} {t : WS} (i : Nat) (h : MSs X B sts t) : MSs X B sts (wDz i t) := pss_mono h fun E σ H ⟨F, h, σd, D', l, s, t, c⟩ => by
  unfold wDz at t
  split at t
  · rename_i ds ea
    split at t
    · rename_i r em
      obtain ⟨es, h'⟩ := r
      obtain ⟨v, ev, rv⟩ := l.get _ _ ea
      cases rv with
      | lst q rs =>
        obtain ⟨F', g, rr⟩ := dz_rd s.sr rs em
        exact ⟨F', _, _, D', (l.mono g.ss).setD (.lst (g.ss _ _ q) rr) ev, s.go g, t, c.go g⟩
    · exact t.elim
  · exact t.elim
@[simp] theorem r_dz {i : Nat} {t : WS} {D0 : MEnds} {σ : MSt} {h : MH} : wDz i t D0 σ h = match σ[i]? with
  | some (some (.lst ds)) => match dz h ds with
    | some r => t D0 (σ.set i (some (.lst r.1))) r.2
    | none => False
  | _ => False := (rfl)
def cells (h : MH) (ps : List Addr) (f : Nat → List D) : MH := fun b => match ps.idxOf? b with
  | some i => some (.lst (f i))
  | none => h b
theorem idxOf_get {ps : List Addr} {i : Nat} {p : Addr} (nd : ps.Nodup) (e : ps[i]? = some p) : ps.idxOf? p = some i := by
  obtain ⟨hi, rfl⟩ := List.getElem?_eq_some_iff.mp e
  rw [List.idxOf?_eq_some_iff]
  refine ⟨hi, by simp, fun j hj => ?_⟩
  intro z
  have z : ps[j] = ps[i] := by simpa using z
  exact List.pairwise_iff_getElem.mp nd j i (by omega) hi hj z
theorem cells_at {h : MH} {ps : List Addr} {f : Nat → List D} {i : Nat} {p : Addr} (nd : ps.Nodup) (e : ps[i]? = some p) : cells h ps f p = some (.lst (f i)) := by
  unfold cells
  rw [idxOf_get nd e]
theorem cells_off {h : MH} {ps : List Addr} {f : Nat → List D} {p : Addr} (e : p ∉ ps) : cells h ps f p = h p := by
  unfold cells
  rw [List.idxOf?_eq_none_iff.mpr e]
theorem cells_nil {h : MH} {f : Nat → List D} : cells h [] f = h := by funext b; simp [cells]
theorem cells_set {h : MH} {ps : List Addr} {f : Nat → List D} {i : Nat} {p : Addr} {xs : List D} (nd : ps.Nodup) (e : ps[i]? = some p) : mupd (cells h ps f) p (.lst xs) = cells h ps (fun j => if j = i then xs else f j) := by
  funext b
  unfold mupd
  by_cases hb : b = p
  · subst hb
    rw [if_pos rfl, cells_at nd e, if_pos rfl]
  · rw [if_neg hb]
    unfold cells
    cases q : ps.idxOf? b with
    | none => rfl
    | some j =>
      have hj : j ≠ i := by
        rintro rfl
        rw [List.idxOf?_eq_some_iff] at q
        obtain ⟨h1, h2, _⟩ := q
        obtain ⟨h3, h4⟩ := List.getElem?_eq_some_iff.mp e
        have h2 : ps[j] = b := by simpa using h2
        exact hb (by rw [← h2, h4])
      simp [hj]
theorem cells_snoc {h : MH} {ps : List Addr} {f : Nat → List D} {p : Addr} {xs : List D} (np : p ∉ ps) (e : xs = f ps.length) : mupd (cells h ps f) p (.lst xs) = cells h (ps ++ [p]) f := by
  funext b
  unfold mupd
  by_cases hb : b = p
  · subst hb
    rw [if_pos rfl]
    unfold cells
    have : (ps ++ [b]).idxOf? b = some ps.length := by
      rw [List.idxOf?_eq_some_iff]
      refine ⟨by simp, by simp, fun j hj => ?_⟩
      rw [List.getElem_append_left hj]
      intro z
      have z : ps[j] = b := by simpa using z
      exact np (by rw [← z]; exact List.getElem_mem _)
    rw [this, e]
  · rw [if_neg hb]
    unfold cells
    have : (ps ++ [p]).idxOf? b = ps.idxOf? b := by
      cases q : ps.idxOf? b with
      | none =>
        rw [List.idxOf?_eq_none_iff] at q ⊢
        simp [q, hb]
      | some j =>
        rw [List.idxOf?_eq_some_iff] at q ⊢
        obtain ⟨h1, h2, h3⟩ := q
        refine ⟨by simp; omega, by rw [List.getElem_append_left h1]; exact h2, fun k hk => ?_⟩
        rw [List.getElem_append_left (by omega)]
        exact h3 k hk
    rw [this]
theorem dz_cells {f : Nat → List D} : ∀ {ps : List Addr} {h : MH}, ps.Nodup → (∀ p ∈ ps, h p = none) → dz (cells h ps f) (ps.map .ref) = some ((List.range ps.length).map (fun i => .lst (f i)), h) := by
  have key : ∀ (ps : List Addr) (h : MH) (f : Nat → List D), ps.Nodup → (∀ p ∈ ps, h p = none) → dz (cells h ps f) (ps.map .ref) = some ((List.range ps.length).map (fun i => .lst (f i)), h) := by
    intro ps
    induction ps with
    | nil => intro h f _ _; rw [cells_nil]; rfl
    | cons p ps ih =>
      intro h f nd hn
      have np : p ∉ ps := (List.nodup_cons.mp nd).1
      have e1 : cells h (p :: ps) f p = some (.lst (f 0)) := cells_at nd rfl
      have e2 : mdel (cells h (p :: ps) f) p = cells h ps (fun i => f (i + 1)) := by
        funext b
        unfold mdel
        by_cases hb : b = p
        · subst hb
          rw [if_pos rfl, cells_off np, hn b List.mem_cons_self]
        · rw [if_neg hb]
          unfold cells
          have : (p :: ps).idxOf? b = (ps.idxOf? b).map (· + 1) := by
            rw [List.idxOf?_cons, if_neg (by simpa using fun z => hb z.symm)]
          rw [this]
          cases ps.idxOf? b <;> rfl
      simp only [List.map_cons, dz, e1, e2]
      rw [ih h (fun i => f (i + 1)) (List.nodup_cons.mp nd).2 fun q hq => hn q (List.mem_cons_of_mem _ hq)]
      simp [List.range_succ_eq_map]
  intro ps h nd hn
  exact key ps h f nd hn
theorem lookup_relab {b : Str → Bool} : ∀ {names : List (Str × NameKind)} {x : Str} {k : NameKind}, names.lookup x = some k → (k = .cell ∨ k = .free) →
    (names.map fun (n, k) => if (k == NameKind.free && b n) = true then (n, NameKind.cell) else (n, k)).lookup x = some .cell ∨ (names.map fun (n, k) => if (k == NameKind.free && b n) = true then (n, NameKind.cell) else (n, k)).lookup x = some .free
  | [], _, _, h, _ => by simp at h
  | (n, k0) :: r, x, k, h, hk => by
    show List.lookup x ((if (k0 == NameKind.free && b n) = true then (n, NameKind.cell) else (n, k0)) :: _) = _ ∨ List.lookup x ((if (k0 == NameKind.free && b n) = true then (n, NameKind.cell) else (n, k0)) :: _) = _
    cases hx : x == n with
    | true =>
      simp only [List.lookup_cons, hx, Option.some.injEq] at h
      subst h
      by_cases hc : (k0 == NameKind.free && b n) = true
      · rw [if_pos hc]; left; simp [List.lookup_cons, hx]
      · rw [if_neg hc]
        rcases hk with rfl | rfl
        · left; simp [List.lookup_cons, hx]
        · right; simp [List.lookup_cons, hx]
    | false =>
      simp only [List.lookup_cons, hx] at h
      have ih := lookup_relab (b := b) h hk
      by_cases hc : (k0 == NameKind.free && b n) = true
      · rw [if_pos hc]; simp only [List.lookup_cons, hx]; exact ih
      · rw [if_neg hc]; simp only [List.lookup_cons, hx]; exact ih
theorem blkN {X : Cx} {N : List Str} {sc inner : Scope} {own : List (Str × Nat)} {s : Shared} {H : Hp} {cl : List (Str × Addr)} {C : Addr} {fp : List Addr} (hN : X.N = N) (h : BlkOk N sc inner own) :
    BlkOk (X.blk s H sc (compEnvC sc cl C X.env) fp).N (X.blk s H sc (compEnvC sc cl C X.env) fp).env.scope inner own := by
  subst hN
  show BlkOk X.N (compEnvC sc cl C X.env).scope inner own
  refine ⟨h.kind, h.uniq, h.ix, fun y hy e => ?_, h.own⟩
  have key : ∀ k, sc.names.lookup y.1 = some k → (k = .cell ∨ k = .free) → (relabel sc X.env).names.lookup y.1 = some .cell ∨ (relabel sc X.env).names.lookup y.1 = some .free := by
    intro k q hk
    have := lookup_relab (b := fun n => X.env.scope.kind == .function && X.env.kindOf n == some .cell) q hk
    simpa only [relabel, Bool.and_assoc] using this
  rcases h.free y hy e with q | q
  · exact key _ q (.inl rfl)
  · exact key _ q (.inr rfl)
def okE (h : MH) (d : D) : Bool := (clsD h d).isSome
def okRow (h : MH) (d : D) : Bool := match d with
  | .ref a => match h a with
    | some (.dct _) => true
    | _ => false
  | d => (clsD h d).isSome && match rowF d with
    | some xs => decide (xs.length ≤ 1000000) && xs.all (okE h)
    | none => true
theorem okRow_row {h : MH} {d : D} {xs : List D} (o : okRow h d = true) (e : rowF d = some xs) : xs.length ≤ 1000000 ∧ ∀ x ∈ xs, okE h x = true := by
  cases d <;> simp [rowF] at e <;> subst e <;> simp [okRow, rowF] at o
  · exact ⟨o.2.1, o.2.2⟩
  · exact ⟨o.2.1, o.2.2⟩
  · refine ⟨by simpa using o.2.1, fun x hx => ?_⟩
    obtain ⟨n, _, rfl⟩ := List.mem_map.mp hx
    rfl
theorem cls_ok {h : MH} {d : D} (o : okE h d = true) : ∃ c, clsD h d = some c := Option.isSome_iff_exists.mp o
theorem isi_okRow {h : MH} {d : D} (o : okRow h d = true) : ∃ c, clsD h d = some c ∧ (["list", "tuple"].any (subT c)) = (rowF d).isSome := by
  cases d with
  | ref a =>
    simp only [okRow] at o
    split at o
    · rename_i e; exact ⟨"dict", by simp [clsD, e], by simp [subT, rowF]⟩
    · cases o
  | _ => simp [okRow, clsD] at o <;> exact ⟨_, rfl, by simp [subT, rowF]⟩
theorem isI_run {h : MH} {d : D} {Q : MQ} (o : okE h d = true) (q : Q (.bl (isI d)) h) : (wAndV (wIsi ["int"] (wVar 0)) (wNotV (wIsi ["bool"] (wVar 0)))) [some d] h Q := by
  obtain ⟨c, e⟩ := cls_ok o
  simp [e]
  cases d with
  | ref a =>
    simp only [clsD] at e
    split at e
    · cases e; simpa [subT, isI] using q
    · cases e; simpa [subT, isI] using q
    · cases e
  | _ => simp [clsD] at e <;> subst e <;> simpa [subT, isI] using q
theorem isiR {h : MH} {d : D} {Q : MQ} (o : okRow h d = true) : fIsi ["list", "tuple"] d h Q = Q (.bl (rowF d).isSome) h := by
  obtain ⟨c, c1, c2⟩ := isi_okRow o
  rw [o_isi, c1]
  simp only [c2]
theorem lc_list {put : MSt → D → Option MSt} {te : WE} {σ : MSt} {h : MH} {Q : List D → MH → Prop} (g : D → D) (xs : List D) (hl : xs.length ≤ 16000000)
    (hs : ∀ x ∈ xs, ∀ K : MQ, K (g x) h → ∃ σ2, put σ x = some σ2 ∧ te σ2 h K) (q : Q (xs.map g) h) : wLcGo put wYes te σ xs [] h Q := by
  have := lc_over (put := put) (te := te) (σ := σ) (h := h) (Q := Q) id g xs hl hs q
  simpa using this
theorem all_list {put : MSt → D → Option MSt} {te : WE} {σ : MSt} {h : MH} {Q : MQ} (p : D → Bool) (xs : List D) (hl : xs.length ≤ 16000000)
    (hs : ∀ x ∈ xs, ∀ K : MQ, K (.bl (p x)) h → ∃ σ2, put σ x = some σ2 ∧ te σ2 h K) (q : Q (.bl (xs.all p)) h) : wLcGo put wYes te σ xs [] h fun acc h2 => fAll [.lst acc] h2 Q := by
  refine lc_list (fun x => .bl (p x)) xs hl hs ?_
  show (match (lsOf h (.lst _)).bind bls with | some bs => Q (.bl (bs.all id)) h | none => False)
  simp only [ls_lst, Option.bind_some, bls_map]
  rw [List.all_map]
  exact q
theorem btw_isI {d : D} {lo hi : Int} : btw d lo hi = (isI d && (decide (lo ≤ dInt d) && decide (dInt d ≤ hi))) := by
  cases d <;> rfl
end BP

set_option maxRecDepth 100000
set_option maxHeartbeats 1000000
namespace BP
open PySem PySem.Spec PyProof.Rows L2
def lexL : List Int → List Int → Bool
  | [], [] => false
  | [], _ :: _ => true
  | _ :: _, [] => false
  | x :: xs, y :: ys => if x = y then lexL xs ys else decide (x < y)
section
variable {prog : Program} {w : World} {A : Around} {E : Value → Shared → Prop} {s : Shared}
end
def leI (a b : Int) : Bool := decide (a ≤ b)
def leL (a b : List Int) : Bool := !lexL b a
def sortI (ns : List Int) : List Int := ns.mergeSort leI
def sortL (ns : List (List Int)) : List (List Int) := ns.mergeSort leL
def RT (K : PySem.W.Frag) (H : Hp) (n : List Int) (x : V) : Prop := ∃ t, x = V.ref t ∧ SqT K H t (n.map V.int)
def RTU (K : PySem.W.Frag) (F : Hp) (n : List Int) (x : V) : Prop := ∃ t, x = V.ref t ∧ SqU K F t (n.map V.int)
section
variable {X : Cx}
end
def tupInts : D → Option (List Int)
  | .tup ds => intsOf ds
  | _ => none
def tupsOf : List D → Option (List (List Int))
  | [] => some []
  | d :: ds => match tupInts d, tupsOf ds with
    | some n, some ns => some (n :: ns)
    | _, _ => none
def dTup (ns : List Int) : D := .tup (ns.map .int)
def fSorted (ds : List D) (h : MH) (Q : MQ) : Prop := match ds with
  | [d] => match lsOf h d with
    | some xs => match intsOf xs with
      | some ns => Q (.lst ((sortI ns).map .int)) h
      | none => match tupsOf xs with
        | some ts => (2 ≤ ts.length → ∀ t ∈ ts, t ≠ []) ∧ Q (.lst ((sortL ts).map dTup)) h
        | none => False
    | none => False
  | _ => False
theorem intsOf_ints : ∀ ns : List Int, intsOf (ns.map D.int) = some ns
  | [] => rfl
  | n :: ns => by simp [intsOf, intsOf_ints ns]
theorem RT.mono {K : PySem.W.Frag} {F F' : Hp} (e : Same F F') {ts : List (List Int)} {ys : List V} (h : Paired (RTU K F) ts ys) : Paired (RTU K F') ts ys := by
  induction h with
  | nil => exact .nil
  | cons r _ ih =>
    obtain ⟨t, e1, q⟩ := r
    exact .cons ⟨t, e1, Same.sqU e q⟩ ih
section
variable {X : Cx} {B : Bs} {e : Expr} {es : List Expr} {wa : WA} {pos : Pos}
end
@[simp] theorem o_sortedI {ns : List Int} {h : MH} {Q : MQ} : fSorted [.lst (ns.map .int)] h Q = Q (.lst ((sortI ns).map .int)) h := by
  simp only [fSorted, ls_lst, intsOf_ints]
end BP

set_option maxRecDepth 100000
set_option maxHeartbeats 1000000
namespace BP
open PySem PySem.Spec PyProof.Rows L2 HT
section
variable {prog : Program} {w : World} {A : Around} {E : Value → Shared → Prop} {s : Shared}
theorem fm_map {α β : Type} {f : α → Option β} {g : α → β} : ∀ {l : List α}, (∀ m ∈ l, f m = some (g m)) → l.filterMap f = l.map g
  | [], _ => rfl
  | a :: l, h => by
    rw [List.filterMap_cons, h a (by simp), List.map_cons, fm_map fun m hm => h m (by simp [hm])]
theorem pick_rev (xs : Array Value) : ((List.range xs.size).filterMap fun (m : Nat) => xs[(((xs.size : Int) - 1) + (m : Int) * (-1)).toNat]?).toArray = xs.toList.reverse.toArray := by
  congr 1
  have e : ((List.range xs.size).filterMap fun (m : Nat) => xs[(((xs.size : Int) - 1) + (m : Int) * (-1)).toNat]?) = (List.range xs.size).map fun m => xs.toList.reverse.getD m .none := by
    apply fm_map
    intro m hm
    simp at hm
    have h1 : (((xs.size : Int) - 1) + (m : Int) * (-1)).toNat = xs.size - 1 - m := by omega
    have h2 : m < xs.toList.reverse.length := by simpa using hm
    rw [h1]
    simp [List.getD, h2, Array.getElem?_eq_getElem (show xs.size - 1 - m < xs.size by omega), hm]
  rw [e]
  apply List.ext_getElem
  · simp
  · intro i h1 h2
    simp at h1
    simp [List.getD, h1]
theorem sliceApplied_rev {sl : Addr} {vl vu vs : Value} {n : Nat} {Q : Int × Int × Nat → Shared → Prop} (hs : s.heap.IsSliceOf sl vl vu vs) (pl : IsPart vl none) (pu : IsPart vu none) (ps : IsPart vs (some (-1)))
    (h : Q ((n : Int) - 1, -1, n) s) : wpAny (model prog w) A (Builtin.Slice.sliceApplied (.ref sl) (pure (n : Int))) Q E s := by
  obtain ⟨os, hos, hcs, hds⟩ := id hs
  unfold Builtin.Slice.sliceApplied Builtin.Slice.sliceFields
  refine wpAny_bind (wpAny_bind (wpAny_field hos hds (x := vl) rfl (wpAny_bind (wpAny_field hos hds (x := vu) rfl (wpAny_bind (wpAny_field hos hds (x := vs) rfl (wpAny_pure ?_)))))))
  refine wpAny_bind (slicePart_ ps ?_)
  show wpAny _ _ (if ((-1 : Int) == 0) = true then _ else _) _ _ s
  rw [if_neg (by decide)]
  refine wpAny_bind (slicePart_ pl (wpAny_bind (slicePart_ pu (wpAny_bind (wpAny_pure ?_)))))
  show wpAny _ _ (match Builtin.Slice.sliceAdjust none none (-1) (n : Int) with | (lo, hi) => pure (lo, (-1 : Int), Builtin.Slice.slicePlaces lo hi (-1))) _ _ s
  have e1 : Builtin.Slice.sliceAdjust none none (-1) (n : Int) = ((n : Int) - 1, -1) := by
    unfold Builtin.Slice.sliceAdjust
    simp
  rw [e1]
  have e2 : Builtin.Slice.slicePlaces ((n : Int) - 1) (-1) (-1) = n := by
    unfold Builtin.Slice.slicePlaces
    simp
    omega
  show wpAny _ _ (pure ((n : Int) - 1, (-1 : Int), Builtin.Slice.slicePlaces ((n : Int) - 1) (-1) (-1))) _ _ s
  rw [e2]
  exact wpAny_pure h
theorem getItem_tuple_rev {t sl : Addr} {items : Array Value} {vl vu vs : Value} {Q : Value → Shared → Prop} (ht : IsTup s.heap t items) (hs : s.heap.IsSliceOf sl vl vu vs) (pl : IsPart vl none) (pu : IsPart vu none) (ps : IsPart vs (some (-1)))
    (h : Q (.ref s.heap.objs.size) { s with heap := s.heap.push { cls := .type "tuple", data := .seq items.toList.reverse.toArray } })
    (hsz : items.size ≤ sizeLine) : wpAny (model prog w) A (getItem (.ref t) (.ref sl)) Q E s := by
  have htake : sizeOk (.seq items.toList.reverse.toArray) := by
    show items.toList.reverse.toArray.size ≤ sizeLine
    rw [List.size_toArray, List.length_reverse, Array.length_toList]
    exact hsz
  obtain ⟨os, hos, hcs, hds⟩ := id hs
  have hTs : s.TypeIs (.ref sl) "slice" := ⟨os, hos, hcs⟩
  unfold getItem
  try with_reducible refine wpAny_holding ?_
  first | refine wpAny_bind (wpAny_pure ?_) | skip
  refine wpAny_bind (wpAny_sequenceKey ht.typeIs (by decide) ?_)
  refine wpAny_bind (wpAny_callSpecial?_slot (name := Str.ofString "__getitem__") ht.typeIs PyProof.Rows.slot_tuple_getitem
    (wpAny_call_entry PyProof.Rows.slot_tuple_getitem ht.typeIs entry_tuple_getitem ?_ (args_tuple_getitem _ _)))
  show wpAny _ _ (Builtin.Tuple.tupleItemsOf (.ref t) >>= _) _ _ s
  refine wpAny_bind (tupleItemsOf_ ht ?_)
  refine wpAny_bind (wpAny_typeOf hTs ?_)
  rw [if_pos (by decide)]
  refine wpAny_bind (sliceApplied_rev hs pl pu ps ?_)
  have hno : ¬ ((((items.size : Int) - 1) == 0 && (-1 : Int) == 1 && items.size == items.size) = true) := by
    intro q
    rw [Bool.and_eq_true, Bool.and_eq_true] at q
    exact absurd (eq_of_beq q.1.2) (by decide)
  show wpAny _ _ (if ((((items.size : Int) - 1) == 0 && (-1 : Int) == 1 && items.size == items.size) = true) then _ else _) _ _ s
  rw [if_neg hno, pick_rev]
  first
    | exact wpAny_bind (m := Builtin.Tuple.tupleExact _) (wpAny_newObj_type (wpAny_pure ⟨_, rfl, wpAny_pure h⟩) htake)
    | exact wpAny_bind (m := Builtin.Tuple.tupleExact _) (wpAny_newObj_type (wpAny_bind (wpAny_pure (wpAny_pure ⟨_, rfl, wpAny_pure h⟩))) htake)
    | exact wpAny_bind (wpAny_bind (m := Builtin.Tuple.tupleExact _) (wpAny_newObj_type (wpAny_pure (wpAny_pure ⟨_, rfl, wpAny_pure h⟩)) htake))
    | exact wpAny_bind (wpAny_bind (m := Builtin.Tuple.tupleExact _) (wpAny_newObj_type (wpAny_pure ⟨_, rfl, wpAny_pure h⟩) htake))
end
section
variable {X : Cx}
def tRevA (K : PySem.W.Frag) (te : TE) : TE := fun σ H Q => te σ H fun x H1 => (∃ a xs, x = .ref a ∧ SqL K H1 a xs ∧ ∀ p, H1 p = none → Q (.ref p) (upd H1 p (.lst xs.reverse))) ∨ (∃ a xs, x = .ref a ∧ SqT K H1 a xs ∧ ∀ p, H1 p = none → Q (.ref p) (upd H1 p (.tup xs.reverse)))
theorem pe_revA {e : Expr} {te : TE} {k : Nat} {p1 p2 p3 pos : Pos} (he : PE X e te) : PE X (.Subscript e (.Slice none none (some (.UnaryOp .USub (.Constant (.int 1) k p1) p2)) p3) pos) (tRevA X.K te) := by
  refine ⟨fun pins s σ H Q I h => ?_⟩
  refine Subscript_ (thn (he.run pins s σ H _ I h) fun v s1 ⟨x, H1, I1, r1, q1⟩ => ?_)
  have hst : PO X (some (.UnaryOp .USub (.Constant (.int 1) k p1) p2)) (tPart (tUn (rU fun i => .int (-i)) (tC (.int 1)))) := po_some (pe_un un_neg pe_int)
  refine wpAny_Slice (thn (po_none.run pins s1 σ H1 (fun o H2 => o = none ∧ H2 = H1) I1 ⟨rfl, rfl⟩) fun vl s2 ⟨l, H2, I2, pl, el, e2⟩ => ?_)
  subst el e2
  refine thn (po_none.run pins s2 σ H2 (fun o H3 => o = none ∧ H3 = H2) I2 ⟨rfl, rfl⟩) fun vu s3 ⟨u, H3, I3, pu, eu, e3⟩ => ?_
  subst eu e3
  refine thn (hst.run pins s3 σ H3 (fun o H4 => o = some (-1) ∧ H4 = H3) I3 ⟨1, rfl, -1, rfl, rfl, rfl⟩) fun vs s4 ⟨o, H4, I4, ps, eo, e4⟩ => ?_
  subst eo e4
  have I5 : Inv X pins σ H4 { s4 with heap := s4.heap.push { cls := .type "slice", data := .fields #[vl, vu, vs] } } := I4.kept (t' := s4.toks) fun b ob q => Heap.get?_push_of_some _ q
  rcases q1 with ⟨a, xs, ex, hx, q⟩ | ⟨a, xs, ex, hx, q⟩
  · subst ex
    cases r1
    obtain ⟨its, r, ht, hz⟩ := I5.list hx
    have hlen := r.length
    show wpAny (model X.prog X.w) X.A (subscriptTail e (.Slice none none (some (.UnaryOp .USub (.Constant (.int 1) k p1) p2)) p3) (.ref a) (.ref s4.heap.objs.size)) (EP X pins σ Q) X.xe { s4 with heap := s4.heap.push { cls := .type "slice", data := .fields #[vl, vu, vs] } }
    refine tail_any (ops := [.ref a, .ref s4.heap.objs.size]) ht.isList.typeIs (PySem.slot_list_getitem.lookup) ?_ (by with_unfolding_all rfl)
    refine wpAny_getItem_list_slice ht.isList (Heap.IsSliceOf.new _ vl vu vs) pl pu ps (by decide) ?_ (by rw [List.size_toArray]; omega)
    rw [PySem.W.krv_pick]
    refine ⟨.ref _, _, I5.laid (t' := s4.toks) (o := .lst xs.reverse) (fun b ob q => Heap.get?_push_of_some _ q) (Nat.le_refl _) ?_, rfl, q _ (I5.hok.fresh (Nat.le_refl _))⟩
    exact ⟨by rw [List.length_reverse]; exact hz, _, 0, r.reverse, Heap.get?_push_size _ rfl⟩
  · subst ex
    cases r1
    obtain ⟨its, r, ht, hz⟩ := I5.tuple hx
    have hlen := r.length
    show wpAny (model X.prog X.w) X.A (subscriptTail e (.Slice none none (some (.UnaryOp .USub (.Constant (.int 1) k p1) p2)) p3) (.ref a) (.ref s4.heap.objs.size)) (EP X pins σ Q) X.xe { s4 with heap := s4.heap.push { cls := .type "slice", data := .fields #[vl, vu, vs] } }
    refine tail_any (ops := [.ref a, .ref s4.heap.objs.size]) ht.typeIs (PyProof.Rows.slot_tuple_getitem.lookup) ?_ (by with_unfolding_all rfl)
    refine getItem_tuple_rev ht (Heap.IsSliceOf.new _ vl vu vs) pl pu ps ?_ (by rw [List.size_toArray]; omega)
    refine ⟨.ref _, _, I5.laid (t' := s4.toks) (o := .tup xs.reverse) (fun b ob q => Heap.get?_push_of_some _ q) (Nat.le_refl _) ?_, rfl, q _ (I5.hok.fresh (Nat.le_refl _))⟩
    exact ⟨by rw [List.length_reverse]; exact hz, _, r.reverse, IsTup.new _ _⟩
variable {B : Bs} {e : Expr} {ta : WE} {pos : Pos}
def unRevA (x : D) (h : MH) (Q : MQ) : Prop := match x with
  | .tup xs => Q (.tup xs.reverse) h
  | x => match lsOf h x with
    | some xs => Q (.lst xs.reverse) h
    | none => False
theorem m_revA {k : Nat} {p1 p2 p3 : Pos} (he : ME X B e ta) : ME X B (.Subscript e (.Slice none none (some (.UnaryOp .USub (.Constant (.int 1) k p1) p2)) p3) pos) (wUn unRevA ta) :=
  pe_mono (pe_revA he) fun σ H Q ⟨F, h, σd, Q', l, s, t, c⟩ => ⟨F, h, σd, _, l, s, t, fun F1 H1 h1 x u g1 rx t1 => by
    unfold unRevA at t1
    split at t1
    · cases rx with
      | tup q r => exact .inr ⟨_, _, rfl, Same.sqT g1.sr.fr q, fun p hp => (c.go g1).tup g1.sr hp r.rev t1⟩
    · split at t1
      · rename_i xs ex
        obtain ⟨q, ys, rfl, hq, r2⟩ := ls_rd g1.sr rx ex
        exact .inl ⟨q, ys, rfl, SqL.of hq, fun p hp => (c.go g1).lst g1.sr hp r2.rev t1⟩
      · exact t1.elim⟩
@[simp] theorem o_revT {xs : List D} {h : MH} {Q : MQ} : unRevA (.tup xs) h Q = Q (.tup xs.reverse) h := (rfl)
@[simp] theorem o_revL {xs : List D} {h : MH} {Q : MQ} : unRevA (.lst xs) h Q = Q (.lst xs.reverse) h := (rfl)
end
end BP

set_option maxRecDepth 100000
set_option maxHeartbeats 1000000
namespace BP
open PySem PySem.Spec PyProof.Rows L2
section
variable {X : Cx} {B : Bs} {a b : Expr} {ta tb : WE} {pos : Pos} {d : Addr} {tab : List (Str × D)}
def fInK (neg : Bool) (tab : List (Str × D)) (x : D) (h : MH) (Q : MQ) : Prop := match x with
  | .str z => Q (.bl (if neg then !(tab.lookup z).isSome else (tab.lookup z).isSome)) h
  | _ => False
def fGetK (tab : List (Str × D)) (x : D) (h : MH) (Q : MQ) : Prop := match x with
  | .str z => match tab.lookup z with
    | some dd => Q dd h
    | none => False
  | _ => False
@[simp] theorem o_inK {neg : Bool} {z : Str} {h : MH} {Q : MQ} : fInK neg tab (.str z) h Q = Q (.bl (if neg then !(tab.lookup z).isSome else (tab.lookup z).isSome)) h := (rfl)
@[simp] theorem o_getK {z : Str} {h : MH} {Q : MQ} : fGetK tab (.str z) h Q = match tab.lookup z with
    | some dd => Q dd h
    | none => False := (rfl)
end
section
variable {X : Cx} {B : Bs} {pos : Pos} {wa : WA}
def wPar3 (i j k : Nat) (t : WA) : WS := fun D σ h => t σ h fun ds h1 => match ds with
  | [d, e, f] => D.nx (((σ.set i (some d)).set j (some e)).set k (some f)) h1
  | _ => False
@[simp] theorem r_par3 {D0 : MEnds} {σ : MSt} {h : MH} {i j k : Nat} : wPar3 i j k wa D0 σ h = wa σ h fun ds h1 => match ds with
  | [d, e, f] => D0.nx (((σ.set i (some d)).set j (some e)).set k (some f)) h1
  | _ => False := (rfl)
end
end BP

set_option maxRecDepth 100000
set_option maxHeartbeats 1000000
namespace BP
open PySem PySem.Spec PyProof.Rows L2
def keyD : D → Option Key
  | .int i => some (.inl i)
  | .str x => some (.inr x)
  | _ => none
def kD : Key → D
  | .inl i => .int i
  | .inr x => .str x
def dcOf (h : MH) : D → Option (List (Key × D))
  | .dct kvs => some kvs
  | .ref a => match h a with
    | some (.dct kvs) => some kvs
    | _ => none
  | _ => none
def atD (kvs : List (Key × D)) (k : Key) : Option D := (kvs.find? fun kv => decide (kv.1 = k)).map (·.2)
def putD (kvs : List (Key × D)) (k : Key) (v : D) : List (Key × D) :=
  if (kvs.any fun kv => decide (kv.1 = k)) = true then kvs.map (fun kv => if kv.1 = k then (kv.1, v) else kv) else kvs ++ [(k, v)]
section
variable {K : PySem.W.Frag} {F H : Hp} {h : MH}
def dcR (h : MH) : D → Option (List (Key × D))
  | .dcl kvs => some kvs
  | d => dcOf h d
end
section
variable {X : Cx} {B : Bs} {a b e o i v : Expr} {ta tb te to ti tv : WE} {pos pos' : Pos} {es : List Expr} {wa : WA}
def opInDc (neg : Bool) (x y : D) (h : MH) (Q : MQ) : Prop := match keyD x, dcR h y with
  | some k, some kvs => Q (.bl (if neg then !(atD kvs k).isSome else (atD kvs k).isSome)) h
  | _, _ => False
def opGetDc (x y : D) (h : MH) (Q : MQ) : Prop := match dcR h x, keyD y with
  | some kvs, some k => match atD kvs k with
    | some d => Q d h
    | none => False
  | _, _ => False
def wPutDc (to ti tv : WE) : WS := fun D σ h => tv σ h fun d h1 => to σ h1 fun x h2 => ti σ h2 fun y h3 => match x, keyD y with
  | .ref a, some k => match h3 a with
    | some (.dct kvs) => kvs.length < sizeLine ∧ D.nx σ (mupd h3 a (.dct (putD kvs k d)))
    | _ => False
  | _, _ => False
def wFzD (i : Nat) (t : WS) : WS := fun D σ h => match σ[i]? with
  | some (some (.ref a)) => match h a with
    | some (.dct kvs) => t D (σ.set i (some (.dct kvs))) (mdel h a)
    | _ => False
  | some (some (.dct _)) => t D σ h
  | _ => False
end
section
variable {h : MH} {Q : MQ} {x y : D} {a : Addr} {kvs : List (Key × D)} {k : Key} {i : Int} {neg : Bool} {D0 : MEnds} {σ : MSt}
@[simp] theorem k_int : keyD (.int i) = some (.inl i) := (rfl)
@[simp] theorem k_str {z : Str} : keyD (.str z) = some (.inr z) := (rfl)
@[simp] theorem dc_dct : dcOf h (.dct kvs) = some kvs := (rfl)
@[simp] theorem dc_ref : dcOf h (.ref a) = match h a with
  | some (.dct kvs) => some kvs
  | _ => none := (rfl)
@[simp] theorem o_inDc : opInDc neg x y h Q = match keyD x, dcR h y with
  | some k, some kvs => Q (.bl (if neg then !(atD kvs k).isSome else (atD kvs k).isSome)) h
  | _, _ => False := (rfl)
@[simp] theorem o_getDc : opGetDc x y h Q = match dcR h x, keyD y with
  | some kvs, some k => match atD kvs k with
    | some d => Q d h
    | none => False
  | _, _ => False := (rfl)
@[simp] theorem r_putDc {to ti tv : WE} : wPutDc to ti tv D0 σ h = tv σ h fun d h1 => to σ h1 fun x h2 => ti σ h2 fun y h3 => match x, keyD y with
  | .ref a, some k => match h3 a with
    | some (.dct kvs) => kvs.length < sizeLine ∧ D0.nx σ (mupd h3 a (.dct (putD kvs k d)))
    | _ => False
  | _, _ => False := (rfl)
@[simp] theorem r_fzD {i : Nat} {t : WS} : wFzD i t D0 σ h = match σ[i]? with
  | some (some (.ref a)) => match h a with
    | some (.dct kvs) => t D0 (σ.set i (some (.dct kvs))) (mdel h a)
    | _ => False
  | some (some (.dct _)) => t D0 σ h
  | _ => False := (rfl)
end
end BP

set_option maxRecDepth 100000
set_option maxHeartbeats 1000000
namespace BP
open PySem PySem.Spec PyProof.Rows L2
section
variable {M : Model} {A : Around} {E : Value → Shared → Prop} {s : Shared} {env : Env}
end
section
variable {X : Cx} {B : Bs} {a b c e o : Expr} {ta tb tc to : WE} {pos p p2 q : Pos} {es : List Expr} {wa : WA}
abbrev WR := MSt → MH → (Int → Int → MH → Prop) → Prop
def wRg1 (t : WE) : WR := fun σ h Q => t σ h fun x h1 => match x with
  | .int n => Q 0 n h1
  | _ => False
def wRg2 (t u : WE) : WR := fun σ h Q => t σ h fun x h1 => u σ h1 fun y h2 => match x, y with
  | .int i, .int j => Q i j h2
  | _, _ => False
def rgD (i j : Int) : List D := (List.range (j - i).toNat).map fun k => .int (i + (k : Nat))
def rgOk (i j : Int) : Prop := -1000000000 ≤ i ∧ i ≤ 1000000000 ∧ -1000000000 ≤ j ∧ j ≤ 1000000000 ∧ j - i ≤ 16000000
def wLstRg (t : WR) : WE := fun σ h Q => t σ h fun i j h1 => rgOk i j ∧ Q (.lst (rgD i j)) h1
def wLstRgM (t : WR) : WE := fun σ h Q => t σ h fun i j h1 => rgOk i j ∧ ∀ p, h1 p = none → Q (.ref p) (mupd h1 p (.lst (rgD i j)))
def wTupRg (t : WR) : WE := fun σ h Q => t σ h fun i j h1 => rgOk i j ∧ Q (.tup (rgD i j)) h1
variable {wr : WR}
def fPopAt (x : D) (ds : List D) (h : MH) (Q : MQ) : Prop := match x, ds with
  | .ref a, [.int i] => match h a with
    | some (.lst xs) => match xs[i.toNat]? with
      | some d => 0 ≤ i ∧ i < 1000000000 ∧ Q d (mupd h a (.lst (xs.eraseIdx i.toNat)))
      | none => False
    | _ => False
  | _, _ => False
end
section
variable {prog : Program} {w : World} {A : Around} {E : Value → Shared → Prop} {s : Shared}
end
section
variable {X : Cx} {B : Bs} {a b c e o : Expr} {ta tb tc to : WE} {pos p p2 q : Pos} {es : List Expr} {wa : WA}
def fMin4 (ds : List D) (h : MH) (Q : MQ) : Prop := match ds with
  | [.int i, .int j, .int k, .int l] => ∀ m, m ≤ i → m ≤ j → m ≤ k → m ≤ l → (m = i ∨ m = j ∨ m = k ∨ m = l) → Q (.int m) h
  | _ => False
@[simp] theorem o_min4 {i j k l : Int} {h : MH} {Q : MQ} : fMin4 [.int i, .int j, .int k, .int l] h Q = ∀ m, m ≤ i → m ≤ j → m ≤ k → m ≤ l → (m = i ∨ m = j ∨ m = k ∨ m = l) → Q (.int m) h := (rfl)
def fLenSet (x : D) (h : MH) (Q : MQ) : Prop := match x with
  | .tup xs => match intsOf xs with
    | some ns => ns.length ≤ 4090 ∧ ∀ c : Nat, c ≤ ns.length → (c = ns.length ↔ ns.Nodup) → Q (.int (c : Nat)) h
    | none => False
  | _ => False
@[simp] theorem o_lenSet {ns : List Int} {h : MH} {Q : MQ} : fLenSet (.tup (ns.map .int)) h Q = (ns.length ≤ 4090 ∧ ∀ c : Nat, c ≤ ns.length → (c = ns.length ↔ ns.Nodup) → Q (.int (c : Nat)) h) := by
  simp only [fLenSet, intsOf_ints]
def wStar (t : WE) (r : WA) : WA := fun σ h Q => t σ h fun d h1 => match rowF d with
  | some xs => r σ h1 fun ds h2 => Q (xs ++ ds) h2
  | none => False
@[simp] theorem r_star {σ : MSt} {h : MH} {P : List D → MH → Prop} : wStar ta wa σ h P = ta σ h fun d h1 => match rowF d with
  | some xs => wa σ h1 fun ds h2 => P (xs ++ ds) h2
  | none => False := (rfl)
@[simp] theorem o_pop {h : MH} {Q : MQ} {a : Addr} {i : Int} : fPopAt (.ref a) [.int i] h Q = match h a with
    | some (.lst xs) => match xs[i.toNat]? with
      | some d => 0 ≤ i ∧ i < 1000000000 ∧ Q d (mupd h a (.lst (xs.eraseIdx i.toNat)))
      | none => False
    | _ => False := (rfl)
@[simp] theorem r_rg1 {σ : MSt} {h : MH} {P : Int → Int → MH → Prop} : wRg1 ta σ h P = ta σ h fun x h1 => match x with
  | .int n => P 0 n h1
  | _ => False := (rfl)
@[simp] theorem r_rg2 {σ : MSt} {h : MH} {P : Int → Int → MH → Prop} : wRg2 ta tb σ h P = ta σ h fun x h1 => tb σ h1 fun y h2 => match x, y with
  | .int i, .int j => P i j h2
  | _, _ => False := (rfl)
@[simp] theorem r_lstRg {wr : WR} {σ : MSt} {h : MH} {Q : MQ} : wLstRg wr σ h Q = wr σ h fun i j h1 => rgOk i j ∧ Q (.lst (rgD i j)) h1 := (rfl)
@[simp] theorem r_lstRgM {wr : WR} {σ : MSt} {h : MH} {Q : MQ} : wLstRgM wr σ h Q = wr σ h fun i j h1 => rgOk i j ∧ ∀ p, h1 p = none → Q (.ref p) (mupd h1 p (.lst (rgD i j))) := (rfl)
@[simp] theorem r_tupRg {wr : WR} {σ : MSt} {h : MH} {Q : MQ} : wTupRg wr σ h Q = wr σ h fun i j h1 => rgOk i j ∧ Q (.tup (rgD i j)) h1 := (rfl)
end
end BP

set_option maxRecDepth 100000
set_option maxHeartbeats 1000000
namespace BP
open PySem PySem.Spec PyProof.Rows L2
section
variable {X : Cx}
end
def opMulT (x y : D) (h : MH) (Q : MQ) : Prop := match x, y with
  | .tup a, .int k => (a ≠ [] ∧ 0 ≤ k ∧ k ≤ 1000 ∧ a.length ≤ 1000) ∧ Q (.tup (List.replicate k.toNat a).flatten) h
  | _, _ => False
@[simp] theorem o_mulTT {a : List D} {k : Int} {h : MH} {Q : MQ} : opMulT (.tup a) (.int k) h Q = ((a ≠ [] ∧ 0 ≤ k ∧ k ≤ 1000 ∧ a.length ≤ 1000) ∧ Q (.tup (List.replicate k.toNat a).flatten) h) := (rfl)
section
variable {X : Cx}
end
def opIsB (neg : Bool) (x y : D) (h : MH) (Q : MQ) : Prop := match x, y with
  | .bl c, .bl b => Q (.bl (if neg then !(c == b) else c == b)) h
  | _, _ => False
section
variable {X : Cx} {B : Bs} {a b : Expr} {ta tb : WE} {pos : Pos}
end
@[simp] theorem o_isB {neg c b : Bool} {h : MH} {Q : MQ} : opIsB neg (.bl c) (.bl b) h Q = Q (.bl (if neg then !(c == b) else c == b)) h := (rfl)
end BP

set_option maxRecDepth 100000
set_option maxHeartbeats 1000000
namespace BP
open PySem PySem.Spec PyProof.Rows L2
def isTp : D → Bool
  | .tup _ => true
  | _ => false
def wMtT (f : D → List D → MH → MQ → Prop) (to : WE) (t : WA) : WE := fun σ h Q => to σ h fun x h1 => isTp x = true ∧ t σ h1 fun ds h2 => f x ds h2 Q
section
variable {X : Cx} {B : Bs} {o e : Expr} {es : List Expr} {to : WE} {wa : WA} {pos : Pos}
def strsOf : List D → Option (List Str)
  | [] => some []
  | .str z :: ds => (strsOf ds).map (z :: ·)
  | _ => none
def fIndexT (x : D) (ds : List D) (h : MH) (Q : MQ) : Prop := match x, ds with
  | .tup xs, [.str z] => match strsOf xs with
    | some ys => ∃ j : Nat, ys[j]? = some z ∧ (∀ m, m < j → ys[m]? ≠ some z) ∧ Q (.int (j : Nat)) h
    | none => False
  | _, _ => False
@[simp] theorem r_mtT {f : D → List D → MH → MQ → Prop} {σ : MSt} {h : MH} {Q : MQ} : wMtT f to wa σ h Q = to σ h fun x h1 => isTp x = true ∧ wa σ h1 fun ds h2 => f x ds h2 Q := (rfl)
@[simp] theorem o_idxT {xs : List D} {z : Str} {h : MH} {Q : MQ} : fIndexT (.tup xs) [.str z] h Q = match strsOf xs with
    | some ys => ∃ j : Nat, ys[j]? = some z ∧ (∀ m, m < j → ys[m]? ≠ some z) ∧ Q (.int (j : Nat)) h
    | none => False := (rfl)
@[simp] theorem tp_tup {xs : List D} : isTp (.tup xs) = true := (rfl)
end
end BP

set_option maxRecDepth 100000
set_option maxHeartbeats 400000
namespace BP
open PySem PySem.Spec PyProof.Rows L2
def Sub (h' h : MH) : Prop := ∀ a c, h' a = some c → h a = some c
theorem Go.sub {K : PySem.W.Frag} {F H : Hp} {h h' : MH} (s : SR K F H h) (e : Sub h' h) : Go K F H h F H h' :=
  ⟨Same.refl F, fun a o x f m => ⟨f, (by
    cases z : h' a with
    | none => rfl
    | some c => rw [e a c z] at m; cases m), x⟩, ⟨s.fr, fun a c z => s.cell a c (e a c z)⟩⟩
def wSub (t : WS) : WS := fun D σ h => ∃ h', Sub h' h ∧ t D σ h'
@[simp] theorem r_sub {t : WS} {D0 : MEnds} {σ : MSt} {h : MH} : wSub t D0 σ h = ∃ h', Sub h' h ∧ t D0 σ h' := (rfl)
theorem Sub.refl {h : MH} : Sub h h := fun _ _ e => e

def fzC (c : Option Cell) (p : Addr) (h : MH) (Q : MQ) : Prop := match c with
  | some (.lst ds) => Q (.lst ds) (mdel h p)
  | some (.dct ds) => Q (.dct ds) (mdel h p)
  | _ => False
def fzW (d : D) (h : MH) (Q : MQ) : Prop := match d with
  | .ref p => fzC (h p) p h Q
  | d => Q d h
def wFzV (t : WE) : WE := fun σ h Q => t σ h fun d h1 => fzW d h1 Q
section
variable {h : MH} {Q : MQ} {p : Addr}
@[simp] theorem r_fzV {t : WE} {σ : MSt} : wFzV t σ h Q = t σ h fun d h1 => fzW d h1 Q := (rfl)
@[simp] theorem fz_ref : fzW (.ref p) h Q = fzC (h p) p h Q := (rfl)
@[simp] theorem fz_cl {ds : List D} : fzC (some (.lst ds)) p h Q = Q (.lst ds) (mdel h p) := (rfl)
@[simp] theorem fz_cd {ds : List (Key × D)} : fzC (some (.dct ds)) p h Q = Q (.dct ds) (mdel h p) := (rfl)
@[simp] theorem fz_int {i : Int} : fzW (.int i) h Q = Q (.int i) h := (rfl)
@[simp] theorem fz_bl {i : Bool} : fzW (.bl i) h Q = Q (.bl i) h := (rfl)
@[simp] theorem fz_str {i : Str} : fzW (.str i) h Q = Q (.str i) h := (rfl)
@[simp] theorem fz_non : fzW .non h Q = Q .non h := (rfl)
@[simp] theorem fz_tup {i : List D} : fzW (.tup i) h Q = Q (.tup i) h := (rfl)
@[simp] theorem fz_lst {i : List D} : fzW (.lst i) h Q = Q (.lst i) h := (rfl)
@[simp] theorem fz_dcl {i : List (Key × D)} : fzW (.dcl i) h Q = Q (.dcl i) h := (rfl)
@[simp] theorem fz_dct {i : List (Key × D)} : fzW (.dct i) h Q = Q (.dct i) h := (rfl)
end

def frzC (p : Addr) : Option Cell → D
  | some (.lst xs) => .lst xs
  | some (.dct xs) => .dct xs
  | _ => .ref p
def frzD (h : MH) : D → D
  | .ref p => frzC p (h p)
  | d => d
mutual
def plainD : D → Bool
  | .non => true
  | .bl _ => true
  | .int _ => true
  | .str _ => true
  | .ty _ => true
  | .tup ds => plainDs ds
  | _ => false
def plainDs : List D → Bool
  | [] => true
  | d :: ds => plainD d && plainDs ds
end
def isLent : Option Cell → Bool
  | some (.lst _) => true
  | some (.dct _) => true
  | _ => false
def lend (F H : Hp) (h : MH) : Hp := fun a => if isLent (h a) = true then H a else F a
def unlend (F : Hp) (h : MH) : Hp := fun a => if isLent (h a) = true then none else F a
section
variable {K : PySem.W.Frag} {F H F' H' : Hp} {h h' : MH}
theorem lend_at {a : Addr} {o : HO} (s : SR K F H h) (e : lend F H h a = some o) : H a = some o := by
  unfold lend at e
  split at e
  · exact e
  · exact s.fr a o e
theorem lend_same (s : SR K F H h) : Same F (lend F H h) := fun a o e => by
  unfold lend
  split
  · exact s.fr a o e
  · exact e
theorem lend_sr (s : SR K F H h) : SR K (lend F H h) H (fun _ => none) := ⟨fun a o e => lend_at s e, fun a c e => by cases e⟩
theorem lend_cell {a : Addr} (e : isLent (h a) = true) : lend F H h a = H a := by unfold lend; rw [if_pos e]
theorem lend_none {a : Addr} (s : SR K F H h) (e : isLent (h a) = false) (f : F a = none) : lend F H h a = none := by unfold lend; rw [if_neg (by simp [e])]; exact f
theorem lent_obj {a : Addr} (s : SR K F H h) (e : isLent (h a) = true) : (∃ xs, H a = some (.lst xs)) ∨ ∃ xs, H a = some (.dK xs) := by
  cases z : h a with
  | none => rw [z] at e; cases e
  | some c =>
    obtain ⟨f, r⟩ := s.cell a c z
    cases c with
    | lst ds => obtain ⟨xs, q, _⟩ := r; exact .inl ⟨xs, q⟩
    | dct ds => obtain ⟨xs, q, _⟩ := r; exact .inr ⟨xs, q⟩
    | ins C fs => rw [z] at e; cases e
    | tbl q => rw [z] at e; cases e
    | dcT q => rw [z] at e; cases e
    | exv _ _ _ => rw [z] at e; cases e
theorem lent_F {a : Addr} (s : SR K F H h) (e : isLent (h a) = true) : F a = none := by
  cases z : h a with
  | none => rw [z] at e; cases e
  | some c => exact (s.cell a c z).1
theorem unlend_sqT {a : Addr} {xs : List V} (s : SR K F H h) (g : Go K (lend F H h) H (fun _ => none) F' H' h') (q : SqU K F' a xs) : SqU K (unlend F' h) a xs := by
  have ne : ∀ o, F' a = some o → (∀ ys, o ≠ .lst ys) → (∀ ys, o ≠ .dK ys) → unlend F' h a = some o := by
    intro o e n1 n2
    unfold unlend
    split
    · rename_i z
      have e1 : lend F H h a = H a := lend_cell z
      rcases lent_obj s z with ⟨ys, y⟩ | ⟨ys, y⟩
      · have := g.ss a _ (e1.trans y)
        rw [e] at this; cases this
        exact absurd rfl (n1 ys)
      · have := g.ss a _ (e1.trans y)
        rw [e] at this; cases this
        exact absurd rfl (n2 ys)
    · exact e
  rcases q with q | q
  · exact .inl (ne _ q (fun _ z => by cases z) (fun _ z => by cases z))
  · exact .inr q
mutual
theorem unlend_rd (s : SR K F H h) (g : Go K (lend F H h) H (fun _ => none) F' H' h') : ∀ {d : D} {v : V}, plainD d = true → RD K F' d v → RD K (unlend F' h) d v
  | _, _, _, .non => .non
  | _, _, _, .bl b => .bl b
  | _, _, _, .int i => .int i
  | _, _, _, .str x => .str x
  | _, _, _, .ty n => .ty n
  | .ref _, _, p, _ => by simp [plainD] at p
  | _, _, p, .tup a b => .tup (unlend_sqT s g a) (unlend_rds s g (by simpa [plainD] using p) b)
  | _, _, p, .lst a b => by simp [plainD] at p
  | _, _, p, .scr a => by simp [plainD] at p
  | _, _, p, .dct a b => by simp [plainD] at p
  | _, _, p, .dcl a b => by simp [plainD] at p
  | _, _, p, .exc a b => by simp [plainD] at p
theorem unlend_rds (s : SR K F H h) (g : Go K (lend F H h) H (fun _ => none) F' H' h') : ∀ {ds : List D} {vs : List V}, plainDs ds = true → RDs K F' ds vs → RDs K (unlend F' h) ds vs
  | _, _, _, .nil => .nil
  | _, _, p, .cons a b => by
    simp only [plainDs, Bool.and_eq_true] at p
    exact .cons (unlend_rd s g p.1 a) (unlend_rds s g p.2 b)
end
theorem unlend_rdf (s : SR K F H h) (g : Go K (lend F H h) H (fun _ => none) F' H' h') : ∀ {fs : List (Str × D)} {gs : List (Str × V)}, fs.all (fun z => plainD z.2) = true → RDf K F' fs gs → RDf K (unlend F' h) fs gs
  | _, _, _, .nil => .nil
  | _, _, p, .cons a b => by
    simp only [List.all_cons, Bool.and_eq_true] at p
    exact .cons (unlend_rd s g p.1 a) (unlend_rdf s g p.2 b)
theorem unlend_go (s : SR K F H h) (g : Go K (lend F H h) H (fun _ => none) F' H' h') : Go K F H h (unlend F' h) H' h := by
  have hH : ∀ a o, H a = some o → F a = none → H' a = some o ∧ (isLent (h a) = false → F' a = none) := by
    intro a o e f
    cases z : isLent (h a) with
    | true =>
      have e1 : lend F H h a = some o := (lend_cell z).trans e
      exact ⟨g.sr.fr a o (g.ss a o e1), fun w => by cases w⟩
    | false =>
      obtain ⟨x, _, y⟩ := g.hid a o e (lend_none s z f) rfl
      exact ⟨y, fun _ => x⟩
  have sm : Same F (unlend F' h) := fun a o e => by
    unfold unlend
    split
    · rename_i z
      rw [lent_F s z] at e; cases e
    · exact g.ss a o (lend_same s a o e)
  refine ⟨sm, fun a o e f m => ?_, ⟨fun a o e => ?_, fun a c z => ?_⟩⟩
  · have hz : isLent (h a) = false := by rw [m]; rfl
    obtain ⟨x, y⟩ := hH a o e f
    exact ⟨by unfold unlend; rw [if_neg (by simp [hz])]; exact y hz, m, x⟩
  · unfold unlend at e
    split at e
    · cases e
    · exact g.sr.fr a o e
  · obtain ⟨f, r⟩ := s.cell a c z
    obtain ⟨o, q⟩ := r.some
    obtain ⟨x, y⟩ := hH a o q f
    refine ⟨?_, r.mono sm (x.trans q.symm)⟩
    unfold unlend
    split
    · rfl
    · rename_i w
      exact y (by simpa using w)
end
def lentQ (Q : MQ) (h : MH) : MQ := fun d _ => plainD d = true ∧ Q d h
def lentE (E : XQ) (h : MH) : XQ := fun n fs _ => fs.all (fun z => plainD z.2) = true ∧ E n fs h
def spL (sp : MSp) : MSp := fun ds h Q E => sp (ds.map (frzD h)) (fun _ => none) (lentQ Q h) (lentE E h)
@[simp] theorem s_lent {sp : MSp} {ds : List D} {h : MH} {Q : MQ} {E : XQ} : spL sp ds h Q E = sp (ds.map (frzD h)) (fun _ => none) (lentQ Q h) (lentE E h) := (rfl)
@[simp] theorem s_lentQ {Q : MQ} {h h' : MH} {d : D} : lentQ Q h d h' = (plainD d = true ∧ Q d h) := (rfl)
@[simp] theorem s_lentE {E : XQ} {h h' : MH} {n : String} {fs : List (Str × D)} : lentE E h n fs h' = (fs.all (fun z => plainD z.2) = true ∧ E n fs h) := (rfl)

structure KwD (K : PySem.W.Frag) (fd : FuncData) (ps : List Str) (n : Nat) (ks : List Str) (dds : List D) (g : {α : Type} → List α → List α → List α → List α) : Prop where
  ex : ∃ (its : List Value) (dvs : List V), Vals dvs its ∧ (∀ F, RDs K F dds dvs) ∧ ∀ (s : Shared) (us ws : List Value), K.In s.heap → us.length = n → ws.length = ks.length → BindsTo s fd ⟨us, ks.zip ws⟩ (ps.zip (g us its ws))
  rel : ∀ {vs ds zs : List V} {us its ws : List Value}, vs.length = n → ds.length = dds.length → zs.length = ks.length → Vals vs us → Vals ds its → Vals zs ws → Vals (g vs ds zs) (g us its ws)
  relD : ∀ {K : PySem.W.Frag} {F : Hp} {vs ds zs : List V} {us its ws : List D}, us.length = n → its.length = dds.length → ws.length = ks.length → RDs K F us vs → RDs K F its ds → RDs K F ws zs → RDs K F (g us its ws) (g vs ds zs)
section
variable {X : Cx} {B : Bs} {e : Expr} {es : List Expr} {wa wk : WA} {pos p : Pos} {k n : Nat} {f : Addr} {fd : FuncData} {ps ks : List Str} {sp : MSp} {x : Str} {Es : MSt → XQ} {dds : List D} {g : {α : Type} → List α → List α → List α → List α} {kws : List Keyword}
def wCallG (sp : MSp) (Es : MSt → XQ) (n m : Nat) (dds : List D) (g : {α : Type} → List α → List α → List α → List α) (t tk : WA) : WE := fun σ h Q => t σ h fun ds h1 => ds.length = n ∧ tk σ h1 fun es h2 => es.length = m ∧ sp (g ds dds es) h2 Q (Es σ)
@[simp] theorem r_callG {m : Nat} {σ : MSt} {h : MH} {Q : MQ} : wCallG sp Es n m dds g wa wk σ h Q = wa σ h fun ds h1 => ds.length = n ∧ wk σ h1 fun es h2 => es.length = m ∧ sp (g ds dds es) h2 Q (Es σ) := (rfl)
end
theorem src_upd {h : MH} {s p : Addr} {c : Cell} (hs : Src h s) (n : p ≠ s) : Src (mupd h p c) s := by
  obtain ⟨x, y, z, e⟩ := hs
  exact ⟨x, y, z, by rw [mupd_ne (Ne.symm n)]; exact e⟩
theorem src_del {h : MH} {s p : Addr} (hs : Src h s) (n : p ≠ s) : Src (mdel h p) s := by
  obtain ⟨x, y, z, e⟩ := hs
  exact ⟨x, y, z, by unfold mdel; rw [if_neg (Ne.symm n)]; exact e⟩
structure Kept (h h' : MH) (s : Addr) : Prop where
  src : Src h' s
  oth : ∀ a c, a ≠ s → h a = some c → h' a = some c
theorem Kept.refl {h : MH} {s : Addr} (a : Src h s) : Kept h h s := ⟨a, fun _ _ _ e => e⟩
theorem Kept.trans {h h1 h2 : MH} {s : Addr} (a : Kept h h1 s) (b : Kept h1 h2 s) : Kept h h2 s := ⟨b.src, fun x c n e => b.oth x c n (a.oth x c n e)⟩
theorem Fro.kept {h h' : MH} {s : Addr} (f : Fro h h' s) : Kept h h' s := ⟨f.src, fun a c n e => by rw [f.oth a n]; exact e⟩
theorem Ext.kept {h h' : MH} {s : Addr} (e : Ext h h') (a : Src h s) : Kept h h' s := ⟨e.src a, fun x c _ q => e x c q⟩
theorem Kept.ext {h h1 h2 : MH} {s : Addr} (a : Kept h h1 s) (b : Ext h1 h2) : Kept h h2 s := a.trans (b.kept a.src)
theorem Kept.ne {h h1 : MH} {s p : Addr} (a : Kept h h1 s) (hp : h1 p = none) : p ≠ s := by rintro rfl; exact a.src.some hp
theorem Kept.free {h h1 : MH} {s p : Addr} (a : Kept h h1 s) (hp : h1 p = none) : h p = none := by
  cases e : h p with
  | none => rfl
  | some c => rw [a.oth p c (a.ne hp) e] at hp; cases hp
theorem Kept.new {h h1 : MH} {s p : Addr} {c : Cell} (a : Kept h h1 s) (hp : h1 p = none) : Kept h (mupd h1 p c) s := a.ext (Ext.new hp)
structure Wk (h h' : MH) (s p : Addr) (xs : List D) : Prop where
  kp : Kept h h' s
  at_ : h' p = some (.lst xs)
  ps : p ≠ s
  new : h p = none
theorem Wk.src {h h' : MH} {s p : Addr} {xs : List D} (w : Wk h h' s p xs) : Src h' s := w.kp.src
theorem Kept.put {h h1 : MH} {s p : Addr} {ys : List D} (k : Kept h h1 s) (hp : h1 p = none) : Wk h (mupd h1 p (.lst ys)) s p ys := ⟨k.new hp, mupd_same, k.ne hp, k.free hp⟩
theorem Wk.put {h h1 : MH} {s p : Addr} {xs ys : List D} (b : Wk h h1 s p xs) : Wk h (mupd h1 p (.lst ys)) s p ys :=
  ⟨⟨src_upd b.src b.ps, fun a c h1 h2 => by rw [mupd_ne (by rintro rfl; rw [b.new] at h2; cases h2)]; exact b.kp.oth a c h1 h2⟩, mupd_same, b.ps, b.new⟩
theorem Wk.del {h h1 : MH} {s p : Addr} {xs : List D} (b : Wk h h1 s p xs) : Kept h (mdel h1 p) s :=
  ⟨src_del b.src b.ps, fun a c h1 h2 => by
    unfold mdel
    rw [if_neg (by rintro rfl; rw [b.new] at h2; cases h2)]; exact b.kp.oth a c h1 h2⟩
theorem Wk.step {h h1 h2 : MH} {s p : Addr} {xs : List D} (b : Wk h h1 s p xs) (k : Kept h1 h2 s) : Wk h h2 s p xs := ⟨b.kp.trans k, k.oth p _ b.ps b.at_, b.ps, b.new⟩
theorem Wk.ext {h h1 h2 : MH} {s p : Addr} {xs : List D} (b : Wk h h1 s p xs) (k : Ext h1 h2) : Wk h h2 s p xs := b.step (k.kept b.src)
theorem Ext.del {h h1 : MH} {p : Addr} (e : Ext h h1) (hp : h p = none) : Ext h (mdel h1 p) := fun a c q => by
  unfold mdel
  rw [if_neg (by rintro rfl; rw [hp] at q; cases q)]; exact e a c q
theorem Ext.free {h h1 : MH} {p : Addr} (e : Ext h h1) (hp : h1 p = none) : h p = none := by
  cases q : h p with
  | none => rfl
  | some c => rw [e p c q] at hp; cases hp
theorem Ext.put {h h1 : MH} {p : Addr} {c : Cell} (e : Ext h h1) (hp : h p = none) : Ext h (mupd h1 p c) := fun a d q => by
  rw [mupd_ne (by rintro rfl; rw [hp] at q; cases q)]; exact e a d q
end BP

set_option maxRecDepth 100000
set_option maxHeartbeats 400000
namespace BP
open PySem PySem.Spec PyProof.Rows L2
def itemD (z : Key × D) : D := .tup [kD z.1, z.2]
def itemsOf (o : Option (List (Key × D))) (h : MH) (Q : MQ) : Prop := match o with
  | some kvs => Q (.lst (kvs.map itemD)) h
  | none => False
def wItems (t : WE) : WE := fun σ h Q => t σ h fun d h1 => itemsOf (dcOf h1 d) h1 Q
section
variable {K : PySem.W.Frag} {F H H' : Hp} {h : MH}
end
@[simp] theorem r_items {t : WE} {σ : MSt} {h : MH} {Q : MQ} : wItems t σ h Q = t σ h fun d h1 => itemsOf (dcOf h1 d) h1 Q := (rfl)
@[simp] theorem items_some {kvs : List (Key × D)} {h : MH} {Q : MQ} : itemsOf (some kvs) h Q = Q (.lst (kvs.map itemD)) h := (rfl)
def clearD (c : Option Cell) (a : Addr) (h : MH) (Q : MQ) : Prop := match c with
  | some (.dct _) => Q .non (mupd h a (.dct []))
  | _ => False
def fClearD (x : D) (h : MH) (Q : MQ) : Prop := match x with
  | .ref a => clearD (h a) a h Q
  | _ => False
def wClearD (t : WE) : WE := fun σ h Q => t σ h fun d h1 => fClearD d h1 Q
@[simp] theorem r_clearD {t : WE} {σ : MSt} {h : MH} {Q : MQ} : wClearD t σ h Q = t σ h fun d h1 => fClearD d h1 Q := (rfl)
@[simp] theorem o_clearD {a : Addr} {h : MH} {Q : MQ} : fClearD (.ref a) h Q = clearD (h a) a h Q := (rfl)
@[simp] theorem o_clearC {ds : List (Key × D)} {a : Addr} {h : MH} {Q : MQ} : clearD (some (.dct ds)) a h Q = Q .non (mupd h a (.dct [])) := (rfl)
end BP

set_option maxRecDepth 100000
set_option maxHeartbeats 1000000
namespace BP
open PySem PySem.Spec PyProof.Rows L2
section
open PySem.AutoSeq1
end
def fExtendT (x : D) (ds : List D) (h : MH) (Q : MQ) : Prop := match x, ds with
  | .ref a, [.tup zs] => match h a with
    | some (.lst xs) => xs.length + zs.length ≤ sizeLine ∧ Q .non (mupd h a (.lst (xs ++ zs)))
    | _ => False
  | x, ds => fExtend x ds h Q
section
variable {h : MH} {Q : MQ} {a : Addr} {zs xs : List D}
@[simp] theorem o_extT : fExtendT (.ref a) [.tup zs] h Q = match h a with
    | some (.lst xs) => xs.length + zs.length ≤ sizeLine ∧ Q .non (mupd h a (.lst (xs ++ zs)))
    | _ => False := (rfl)
@[simp] theorem o_extL : fExtendT (.ref a) [.lst zs] h Q = fExtend (.ref a) [.lst zs] h Q := (rfl)
end
end BP

set_option maxRecDepth 100000
set_option maxHeartbeats 4000000
namespace BP
open PySem PySem.Spec PyProof.Rows L2
section
variable {P : Program} {w : World} {A : Around} {E : Value → Shared → Prop} {s : Shared}
end
section
variable {X : Cx} {B : Bs} {a e : Expr} {ta : WE} {p p2 q pos : Pos}
def ddI : List Int → List Int
  | [] => []
  | x :: xs => if x ∈ ddI xs then ddI xs else x :: ddI xs
def setI (ns : List Int) : List Int := sortI (ddI ns)
def fSrtSet (x : D) (h : MH) (Q : MQ) : Prop := match x with
  | .lst xs => match intsOf xs with
    | some ns => ns.length ≤ 4090 ∧ Q (.lst ((setI ns).map .int)) h
    | none => False
  | _ => False
@[simp] theorem o_srtSet {ns : List Int} {h : MH} {Q : MQ} : fSrtSet (.lst (ns.map .int)) h Q = (ns.length ≤ 4090 ∧ Q (.lst ((setI ns).map .int)) h) := by
  simp only [fSrtSet, intsOf_ints]
end
end BP

set_option maxRecDepth 100000
set_option maxHeartbeats 4000000
namespace BP
open PySem PySem.Spec PyProof.Rows L2
section
variable {X : Cx} {B : Bs} {a b c e : Expr} {pos p : Pos}
def wLcM (wi : WI) (put : MSt → D → Option MSt) (tt : WT) (te : WE) (vs : List Nat) : WE := fun σ h Q => wi σ h fun ds h1 => wLcGo put tt te (mwipe σ vs) ds [] h1 fun acc h2 => ∀ p, h2 p = none → Q (.ref p) (mupd h2 p (.lst acc))
theorem lift_lcM {wi : WI} {g : TG} {put : MSt → D → Option MSt} {tt : WT} {te : WE} {vs : List Nat} (hp : PutOk X.K g put vs) : ∀ σ H Q, lift X.K B (wLcM wi put tt te vs) σ H Q → tLc (liftI X.K B wi) g (liftT X.K B tt) (lift X.K B te) vs σ H Q := fun σ H Q ⟨F, h, σd, Q', l, s, t, c⟩ =>
  ⟨F, h, σd, _, l, s, t, fun F1 H1 h1 ds J g1 W t1 D nD => by
    have w1 : ∀ {F2}, Same F1 F2 → LR X.K F2 (mwipe σd vs) (L2.wipe σ vs) := fun e => ((l.mono g1.ss).mono e).wipe vs
    refine ⟨fun i m H2 => ∃ F2 h2 acc accV, Go X.K F1 H1 h1 F2 H2 h2 ∧ H2 D = some (.lst accV) ∧ F2 D = none ∧ h2 D = none ∧ RDs X.K F2 acc accV ∧ i ≤ ds.length ∧ m = ds.length - i ∧ wLcGo put tt te (mwipe σd vs) (ds.drop i) acc h2 fun acc h2 => ∀ p, h2 p = none → Q' (.ref p) (mupd h2 p (.lst acc)),
      ⟨ds.length, F1, h1, [], [], (Go.refl g1.sr).hidden nD (g1.sr.freeF nD) (g1.sr.freeM nD), upd_same, g1.sr.freeF nD, g1.sr.freeM nD, .nil, Nat.zero_le _, rfl, t1⟩, ?_⟩
    rintro i m H2 ⟨F2, h2, acc, accV, g2, eD, fD, mD, ra, hi, rfl, t2⟩
    by_cases hlt : i < ds.length
    · have ed : ds[i]? = some ds[i] := List.getElem?_eq_getElem hlt
      rw [drop_of_get ed] at t2
      unfold wLcGo at t2
      split at t2
      · rename_i σ3 e3
        refine .inr ⟨W.goes i H2 hlt (g2.ss.trans g2.sr.fr), fun H3 => ∃ F3 h3 acc accV, Go X.K F1 H1 h1 F3 H3 h3 ∧ H3 D = some (.lst accV) ∧ F3 D = none ∧ h3 D = none ∧ RDs X.K F3 acc accV ∧ wLcGo put tt te (mwipe σd vs) (ds.drop (i + 1)) acc h3 fun acc h2 => ∀ p, h2 p = none → Q' (.ref p) (mupd h2 p (.lst acc)),
          fun H3 ⟨F3, h3, acc, accV, g3, k1, k2, k3, k4, t3⟩ => ⟨ds.length - (i + 1), by omega, F3, h3, acc, accV, g3, k1, k2, k3, k4, hlt, rfl, t3⟩, fun x H3 y => ?_⟩
        obtain ⟨F3, g3, rx⟩ := W.yields i _ H2 x H3 ed (g2.ss.trans g2.sr.fr) y F2 h2 g2.ss g2.sr
        refine hp F3 H3 h2 _ _ _ _ _ _ (w1 (g2.ss.trans g3.ss)) g3.sr rx e3 fun σ4 l4 hw => ⟨hw.trans (wipe_wipe σ vs), F3, h2, σ3, _, l4, (s.go g1).go (g2.trans g3), t2, fun F5 H5 h5 b g5 t5 => ?_⟩
        obtain ⟨fD5, mD5, eD5⟩ := (g3.trans g5).hid D _ eD fD mD
        have g05 := (g2.trans g3).trans g5
        cases b with
        | false =>
          rw [if_neg Bool.false_ne_true] at t5
          exact iteF ⟨F5, h5, acc, accV, g05, eD5, fD5, mD5, ra.mono (g3.trans g5).ss, t5⟩
        | true =>
          rw [if_pos rfl] at t5
          refine iteT ⟨F5, h5, σ3, _, l4.mono g5.ss, (s.go g1).go g05, t5, fun F6 H6 h6 y6 v6 g6 r6 t6 => ?_⟩
          obtain ⟨fD6, mD6, eD6⟩ := g6.hid D _ eD5 fD5 mD5
          refine ⟨accV, eD6, by rw [← ra.length]; exact t6.1, F6, h6, acc ++ [y6], accV ++ [v6], (g05.trans g6).hidden nD fD6 mD6, upd_same, fD6, mD6, ?_, t6.2⟩
          exact (ra.mono ((g3.trans g5).trans g6).ss).append (.cons r6 .nil)
      · exact t2.elim
    · have e : i = ds.length := by omega
      subst e
      refine .inl ⟨W.stops H2 (g2.ss.trans g2.sr.fr), ?_⟩
      rw [List.drop_length] at t2
      have gM : Go X.K F1 H1 h1 F2 H2 (mupd h2 D (.lst acc)) := by
        refine ⟨g2.ss, fun b o eb f m => ?_, ⟨g2.sr.fr, fun b c eb => ?_⟩⟩
        · have hb : b ≠ D := fun z => by rw [z, nD] at eb; cases eb
          obtain ⟨x1, x2, x3⟩ := g2.hid b o eb f m
          exact ⟨x1, by rw [mupd_ne hb]; exact x2, x3⟩
        · by_cases hb : b = D
          · subst hb
            rw [mupd_same] at eb; cases eb
            exact ⟨fD, accV, eD, ra⟩
          · rw [mupd_ne hb] at eb
            exact g2.sr.cell b c eb
      exact c _ _ _ _ _ (g1.trans gM) (.ref D) (t2 D mD)⟩
theorem m_lcM {elt tg iter : Expr} {ifs : List Expr} {scope : Scope} {own : List (Str × Nat)} {wi : WI} {g : TG} {put : MSt → D → Option MSt} {tt : WT} {te : WE} (hc : X.calm = true) (hN : X.N.Nodup) (hi : MI X B tg iter wi) (ok : BlkOk X.N X.env.scope scope own) (hp : PutOk X.K g put (own.map (·.2)))
    (hg : ∀ (s : Shared) (H : Hp) (C : Addr) (cl : List (Str × Addr)) (fp : List Addr), PG (X.blk s H scope (compEnvC scope cl C X.env) fp) tg g) (ht : ∀ (s : Shared) (H : Hp) (C : Addr) (cl : List (Str × Addr)) (fp : List Addr), MTs (X.blk s H scope (compEnvC scope cl C X.env) fp) B ifs tt)
    (he : ∀ (s : Shared) (H : Hp) (C : Addr) (cl : List (Str × Addr)) (fp : List Addr), ME (X.blk s H scope (compEnvC scope cl C X.env) fp) B elt te) (hs : ∀ x, foldedSetIterable iter X.env x = pure x := by intro _; rfl) :
    ME X B (.ListComp elt [⟨tg, iter, ifs, 0⟩] scope pos) (wLcM wi put tt te (own.map (·.2))) := pe_mono (pe_lc hc hN hi ok hg ht he hs) (lift_lcM hp)
@[simp] theorem r_lcM {wi : WI} {put : MSt → D → Option MSt} {vs : List Nat} {ua : WT} {ta : WE} {σ : MSt} {h : MH} {Q : MQ} : wLcM wi put ua ta vs σ h Q = wi σ h fun ds h1 => wLcGo put ua ta (mwipe σ vs) ds [] h1 fun acc h2 => ∀ p, h2 p = none → Q (.ref p) (mupd h2 p (.lst acc)) := (rfl)
end
end BP

set_option maxRecDepth 100000
set_option maxHeartbeats 4000000
namespace BP
open PySem PySem.Spec PyProof.Rows L2
structure Own where
  x_Body : Addr
  x_Segment : Addr
  x_Interval : Addr
  x_Walker : Addr
  x_Picture : Addr
  x_Stream : Addr
  x_Rows : Addr
  x_Cut : Addr
  x_Source : Addr
  x_Refining : Addr
  x_Scan : Addr
  x_Reading : Addr
  x_Writing : Addr
  xc : String → Addr := fun _ => 0
theorem ofString_inj {a b : String} : Str.ofString a = Str.ofString b ↔ a = b := by
  constructor
  · intro h
    rw [Str.ofString_eq_toList, Str.ofString_eq_toList] at h
    have h := congrArg (fun s : Str => s.cps.toList) h
    simp only [List.toList_toArray] at h
    have inj : ∀ l m : List Char, l.map Char.toNat = m.map Char.toNat → l = m := by
      intro l
      induction l with
      | nil => intro m e; cases m with | nil => rfl | cons => cases e
      | cons x l ih =>
        intro m e
        cases m with
        | nil => cases e
        | cons y m =>
          simp only [List.map_cons, List.cons.injEq] at e
          rw [ih m e.2]
          have : x = y := Char.ext (UInt32.toNat_inj.mp e.1)
          rw [this]
    exact String.toList_inj.mp (inj _ _ h)
  · rintro rfl; rfl
@[simp] theorem ofString_eq {a b : String} : (Str.ofString a = Str.ofString b) = (a = b) := propext ofString_inj
@[simp] theorem ofString_beq {a b : String} : (Str.ofString a == Str.ofString b) = decide (a = b) := by
  by_cases h : a = b
  · subst h; simp
  · have : Str.ofString a ≠ Str.ofString b := fun e => h (ofString_inj.mp e)
    simp [h]
def putFd (f : Str) (d : D) : List (Str × D) → List (Str × D)
  | [] => [(f, d)]
  | (g, x) :: r => if g = f then (g, d) :: r else (g, x) :: putFd f d r
theorem RDf.put {K : PySem.W.Frag} {F : Hp} {f : Str} {d : D} {v : V} (r : RD K F d v) : ∀ {fs : List (Str × D)} {gs : List (Str × V)}, RDf K F fs gs → RDf K F (putFd f d fs) (L2.putF f v gs)
  | _, _, .nil => .cons r .nil
  | _, _, .cons (k := k) h t => by
    unfold putFd L2.putF
    by_cases e : k = f
    · rw [if_pos e, if_pos e]; exact .cons r t
    · rw [if_neg e, if_neg e]; exact .cons h (RDf.put r t)
theorem RDf.len {K : PySem.W.Frag} {F : Hp} : ∀ {fs : List (Str × D)} {gs : List (Str × V)}, RDf K F fs gs → fs.length = gs.length
  | _, _, .nil => rfl
  | _, _, .cons h t => by rw [List.length_cons, List.length_cons, RDf.len t]
theorem RDf.none {K : PySem.W.Frag} {F : Hp} {f : Str} : ∀ {fs : List (Str × D)} {gs : List (Str × V)}, RDf K F fs gs → fs.lookup f = none → gs.lookup f = none
  | _, _, .nil, _ => rfl
  | _, _, .cons (k := k) h t, e => by
    rw [List.lookup_cons] at e ⊢
    cases hk : f == k with
    | true => rw [hk] at e; cases e
    | false => rw [hk] at e; exact RDf.none t e
def insOf (C : Addr) (h : MH) (x : D) : Option (Addr × List (Str × D)) := match x with
  | .ref a => match h a with
    | some (.ins C' fs) => if C' = C then some (a, fs) else none
    | _ => none
  | _ => none
section
variable {X : Cx} {B : Bs} {e o value : Expr} {es : List Expr} {ta to tv : WE} {wa : WA} {pos pos' apos tpos p : Pos} {C f : Addr} {n m x : Str} {k : Nat} {fd : FuncData} {ps : List Str} {sp : MSp} {Es : MSt → XQ}
end
end BP

set_option maxRecDepth 100000
set_option maxHeartbeats 4000000
namespace BP
open PySem PySem.Spec PyProof.Rows L2
def zip3D (xs ys zs : List D) : List D := ((xs.zip ys).zip zs).map fun p => .tup [p.1.1, p.1.2, p.2]
theorem zip3D_get {xs ys zs : List D} {i : Nat} {d : D} (e : (zip3D xs ys zs)[i]? = some d) : ∃ x y z, xs[i]? = some x ∧ ys[i]? = some y ∧ zs[i]? = some z ∧ d = .tup [x, y, z] := by
  unfold zip3D at e
  rw [List.getElem?_map] at e
  cases q : ((xs.zip ys).zip zs)[i]? with
  | none => rw [q] at e; cases e
  | some z =>
    rw [q] at e
    simp only [Option.map_some, Option.some.injEq] at e
    rw [List.getElem?_zip_eq_some, List.getElem?_zip_eq_some] at q
    exact ⟨_, _, _, q.1.1, q.1.2, q.2, e.symm⟩
theorem zip3D_len {xs ys zs : List D} : (zip3D xs ys zs).length = min (min xs.length ys.length) zs.length := by unfold zip3D; simp
def wZip3 (t : WA) : WI := fun σ h Q => t σ h fun ds h1 => match ds with
  | [.lst xs, .lst ys, .lst zs] => Q (zip3D xs ys zs) h1
  | _ => False
section
variable {X : Cx} {B : Bs} {a b c : Expr} {wa : WA} {p pos : Pos}
end
section
variable {wa : WA} {σ : MSt} {h : MH}
@[simp] theorem r_zip3 {P : List D → MH → Prop} : wZip3 wa σ h P = wa σ h fun ds h1 => match ds with
  | [.lst xs, .lst ys, .lst zs] => P (zip3D xs ys zs) h1
  | _ => False := (rfl)
end
end BP

set_option maxRecDepth 100000
set_option maxHeartbeats 4000000
namespace BP
open PySem PySem.Spec PyProof.Rows L2
theorem same_sq {K : PySem.W.Frag} {F H : Hp} {k : Bool} {a : Addr} {xs : List V} (sm : Same F H) (q : SqF K k F a xs) : Sq K k H a xs := by
  cases k with
  | true => exact Same.sqL sm q
  | false => exact Same.sqT sm q
def ItzR2 (K : PySem.W.Frag) (k1 k2 : Bool) (a b : Addr) : It :=
  ⟨fun i H => ∃ (xs ys : List V) (x y : V), Sq K k1 H a xs ∧ Sq K k2 H b ys ∧ xs[i]? = some x ∧ ys[i]? = some y,
    fun i H v H' => ∃ T x y, v = .ref T ∧ H T = none ∧ H' = upd H T (.tup [x, y]) ∧ (∀ xs, Sq K k1 H a xs → xs[i]? = some x) ∧ (∀ ys, Sq K k2 H b ys → ys[i]? = some y),
    fun i H => ∃ xs ys : List V, Sq K k1 H a xs ∧ Sq K k2 H b ys ∧ (xs.length ≤ i ∨ ys.length ≤ i) ∧ i ≤ xs.length ∧ i ≤ ys.length⟩
theorem turn_zipR2 {P : Program} {w : World} {K : PySem.W.Frag} {elts : List Expr} {kk : Nat} {tpos : Pos} (k1 k2 : Bool) {a b z TI TO i1 i2 : Addr} (S : ZipSep2 z TI TO i1 i2 [i1, a] [i2, b]) (n1 : a ≠ i1) (n2 : b ≠ i2) :
    Turn P w K (.Tuple elts kk tpos) (ItzR2 K k1 k2 a b) [z, TI, TO, i1, i2] z (fun i h => IsZip h z TI TO .none ∧ IsTupOf2 h TI (.ref i1) (.ref i2) ∧ (∃ x y, IsTupOf2 h TO x y) ∧ IsItr k1 h i1 a i ∧ IsItr k2 h i2 b i) where
  mem := by simp
  obj := fun i h st c hc => by
    obtain ⟨hz, hTI, ⟨x0, y0, hTO⟩, h1, h2⟩ := st
    have e' : c = z ∨ c = TI ∨ c = TO ∨ c = i1 ∨ c = i2 := by simpa using hc
    rcases e' with q | q | q | q | q
    · rw [q]; exact ⟨_, hz, fun v q => nomatch q⟩
    · rw [q]; exact ⟨_, hTI, fun v q => nomatch q⟩
    · rw [q]; exact ⟨_, hTO, fun v q => nomatch q⟩
    · rw [q]; exact h1.obj
    · rw [q]; exact h2.obj
  keep := fun i h h' st k => by
    obtain ⟨hz, hTI, ⟨x0, y0, hTO⟩, h1, h2⟩ := st
    exact ⟨k z (by simp) _ hz, k TI (by simp) _ hTI, ⟨x0, y0, k TO (by simp) _ hTO⟩, h1.at fun o q => k i1 (by simp) o q, h2.at fun o q => k i2 (by simp) o q⟩
  item := by
    intro X hP hw hK hc i pins s σ H E I hf st hg
    subst hP hw hK
    obtain ⟨hz, hTI, ⟨x0, y0, hTO⟩, h1, h2⟩ := st
    obtain ⟨xs, ys, x, y, hqx, hqy, hx, hy⟩ := hg
    obtain ⟨its, rv, p, _⟩ := Inv.sq I hqx
    obtain ⟨its2, rv2, p2, _⟩ := Inv.sq I hqy
    obtain ⟨m1, hm1, rm1⟩ := rv.get hx
    obtain ⟨m2, hm2, rm2⟩ := rv2.get hy
    have hzl : z < s.heap.objs.size := Heap.lt_size hz
    have hh : X.A.in1.handled = none := I.ok.hd hc
    have l1 : i < its.toArray.size := by have := (List.getElem?_eq_some_iff.mp hm1).1; simpa using this
    have l2 : i < its2.toArray.size := by have := (List.getElem?_eq_some_iff.mp hm2).1; simpa using this
    refine wpAny_pyNext_zipD2_item S (draws_of hh k1 i1 a n1 its.toArray) (draws_of hh k2 i2 b n2 its2.toArray) hz hTI hTO ⟨h1, p⟩ ⟨h2, p2⟩ l1 l2 fun x1 x2 h' tk e1 e2 z' TO' st1 st2 hT hsz hk => ?_
    have e1 : x1 = m1 := by have : its[i]? = some x1 := by simpa using e1
                            rw [hm1] at this; exact (Option.some.inj this).symm
    have e2 : x2 = m2 := by have : its2[i]? = some x2 := by simpa using e2
                            rw [hm2] at this; exact (Option.some.inj this).symm
    subst e1 e2
    refine ⟨_, rfl, wpAny_letOwnedTupleGo_zip (s := { s with heap := h', toks := tk }) z' fun h'' z'' sb => ?_⟩
    have hT2 : h''.get? s.heap.objs.size = some { cls := .type "tuple", data := .seq #[x1, x2] } := (sb.2 _ (Nat.ne_of_gt hzl)).trans hT
    have new : ObjOk X.prog X.w (upd H s.heap.objs.size (.tup [x, y])) h'' s.heap.objs.size (.tup [x, y]) :=
      ⟨by show 2 ≤ sizeLine; decide, [x1, x2], .cons rm1 (.cons rm2 (.nil)), ⟨_, hT2, rfl, _, rfl⟩⟩
    have I1 : Inv X pins σ (upd H s.heap.objs.size (.tup [x, y])) { s with heap := h'', toks := tk } :=
      I.turnedNew (t' := tk) (ch := [z, TI, TO, i1, i2]) (fun c o hb q => (sb.2 c (fun q' => hb (by simp [q']))).trans (hk c o (fun q' => hb (by simp [q'])) (fun q' => hb (by simp [q'])) (fun q' => hb (by simp [q'])) (fun q' => hb (by simp [q'])) q)) hf (Nat.le_refl _) new
    refine ⟨.ref s.heap.objs.size, _, I1, rfl, ⟨_, x, y, rfl, I.hok.fresh (Nat.le_refl _), rfl, fun l hl => by rw [Inv.sq_inj I hl hqx]; exact hx, fun l hl => by rw [Inv.sq_inj I hl hqy]; exact hy⟩, ⟨z'', ?_, ⟨x1, x2, ?_⟩, ?_, ?_⟩, fun c hcm => ?_⟩
    · exact (sb.2 _ S.TIz).trans (hk _ _ S.TIz S.TITO S.TIi1 S.TIi2 hTI)
    · exact (sb.2 _ S.TOz).trans TO'
    · exact st1.1.at fun o q => (sb.2 _ S.zi1.symm).trans q
    · exact st2.1.at fun o q => (sb.2 _ S.zi2.symm).trans q
    · have hlt : c < s.heap.objs.size := by
        have e' : c = z ∨ c = TI ∨ c = TO ∨ c = i1 ∨ c = i2 := by simpa using hcm
        rcases e' with q | q | q | q | q
        · rw [q]; exact hzl
        · rw [q]; exact Heap.lt_size hTI
        · rw [q]; exact Heap.lt_size hTO
        · rw [q]; obtain ⟨_, e1, _⟩ := h1.obj; exact Heap.lt_size e1
        · rw [q]; obtain ⟨_, e1, _⟩ := h2.obj; exact Heap.lt_size e1
      rw [upd_ne (Nat.ne_of_lt hlt)]
      exact (hf c hcm).1
  done := by
    intro X hP hw hK hc i pins s σ H E I hf st hg
    subst hP hw hK
    obtain ⟨hz, hTI, ⟨x0, y0, hTO⟩, h1, h2⟩ := st
    obtain ⟨xs, ys, hqx, hqy, hend, b1, b2⟩ := hg
    obtain ⟨its, rv, p, _⟩ := Inv.sq I hqx
    obtain ⟨its2, rv2, p2, _⟩ := Inv.sq I hqy
    have l1 := rv.length
    have l2 := rv2.length
    have hh : X.A.in1.handled = none := I.ok.hd hc
    exact wpAny_pyNext_zipD2_end S (draws_of hh k1 i1 a n1 its.toArray) (draws_of hh k2 i2 b n2 its2.toArray) hz hTI hTO ⟨h1, p⟩ ⟨h2, p2⟩ (by simp; omega) (by simp; omega) (by simp; omega)
      fun h' tk hk => ⟨rfl, I.turnedL (t' := tk) (ch := [z, TI, TO, i1, i2]) (fun c o hb q =>
      hk c o (fun q' => hb (by simp [q'])) (fun q' => hb (by simp [q'])) (fun q' => hb (by simp [q'])) (fun q' => hb (by simp [q'])) q) hf⟩
  self := fun A i s Q E st h => wpAny_pyIter_zip st.1 h
def iZipR2 (K : PySem.W.Frag) (ta : TA) : TI := fun σ H R => ta σ H fun vs H1 => ∃ k1 k2 a b xs ys, vs = [.ref a, .ref b] ∧ Sq K k1 H1 a xs ∧ Sq K k2 H1 b ys ∧ R (ItzR2 K k1 k2 a b) H1
theorem pi_zipR2 {X : Cx} {e e2 : Expr} {ta : TA} {p pos tpos : Pos} {elts : List Expr} {kk : Nat} (hg : Gl X "zip") (hm : X.mg "zip" = none) (ha : PA X [e, e2] ta)
    (hs : starEach [e, e2] X.env = (false, eval e X.env) :: starEach [e2] X.env := by rfl) (hpl : (backTo pos (starEach [e2] X.env)).any (·.1) = false := by rfl) :
    PI X (.Tuple elts kk tpos) (.Call (.Name "zip" p) [e, e2] [] pos) (iZipR2 X.K ta) := by
  refine ⟨fun pins s σ H R I h => ?_⟩
  refine Call_ (ld_blt I hg hm PyProof.Rows.boot_zip (PyProof.Rows.callWith_type1 (thn (ha.run pos pins s σ H _ I h) fun us s1 ⟨vs, H1, I1, r1, q1⟩ => ?_) hs hpl))
  obtain ⟨k1, k2, a, b, xs, ys, ex, hqx, hqy, q⟩ := q1
  subst ex
  cases r1 with
  | cons r1 rr =>
    cases rr with
    | cons r2 rr =>
      cases rr
      cases r1
      cases r2
      obtain ⟨its, rv, p, _⟩ := Inv.sq I1 hqx
      obtain ⟨its2, rv2, p2, _⟩ := Inv.sq I1 hqy
      have la : a < s1.heap.objs.size := p.lt
      have lb : b < s1.heap.objs.size := p2.lt
      refine zip_begins2 (begins_of k1 a its.toArray) (begins_of k2 b its2.toArray) p p2 fun h' hz hTI hTO h1 h2 hsz hk => wpAny_pyIter_zip hz ?_
      have I2 : Inv X pins σ H1 { s1 with heap := h' } := I1.kept (t' := s1.toks) hk
      have sep := zip_sep2 (N := s1.heap.objs.size) (fp1 := [a]) (fp2 := [b]) (by simpa using la) (by simpa using lb)
      refine ⟨s1.heap.objs.size + 4, [s1.heap.objs.size + 4, s1.heap.objs.size + 2, s1.heap.objs.size + 3, s1.heap.objs.size, s1.heap.objs.size + 1], _, _, H1, rfl, I2, turn_zipR2 k1 k2 sep (Nat.ne_of_lt la) (Nat.ne_of_lt (Nat.lt_succ_of_lt lb)), ⟨hz, hTI, ⟨_, _, hTO⟩, itObj_is h1, itObj_is h2⟩, fun d hcm => ?_, q⟩
      have e' : d = s1.heap.objs.size + 4 ∨ d = s1.heap.objs.size + 2 ∨ d = s1.heap.objs.size + 3 ∨ d = s1.heap.objs.size ∨ d = s1.heap.objs.size + 1 := by simpa using hcm
      have hle : s1.heap.objs.size ≤ d := by
        rcases e' with z | z | z | z | z <;> rw [z] <;> first | exact Nat.le_add_right _ _ | exact Nat.le_refl _
      exact I1.fpOk hle (I1.hok.fresh hle)
theorem walkD_zipR2 {K : PySem.W.Frag} {F : Hp} {k1 k2 : Bool} {a b : Addr} {xs ys : List V} {ds es : List D} (qa : SqF K k1 F a xs) (qb : SqF K k2 F b ys) (ra : RDs K F ds xs) (rb : RDs K F es ys) : WalkD K (ItzR2 K k1 k2 a b) F (zipD ds es) := by
  have la := ra.length
  have lb := rb.length
  refine ⟨fun i H hi sm => ?_, fun H sm => ⟨xs, ys, same_sq sm qa, same_sq sm qb, ?_, ?_, ?_⟩, fun i d H x H' hd sm y F1 h s1' sr => ?_⟩
  · rw [zipD_len] at hi
    exact ⟨xs, ys, xs[i]'(by omega), ys[i]'(by omega), same_sq sm qa, same_sq sm qb, by simp, by simp⟩
  · rw [zipD_len]; omega
  · rw [zipD_len]; omega
  · rw [zipD_len]; omega
  · obtain ⟨T, u1, u2, rfl, nT, rfl, gu1, gu2⟩ := y
    obtain ⟨x0, x1, e0, e1, rfl⟩ := zipD_get hd
    obtain ⟨v0, t0, s0⟩ := ra.get e0
    obtain ⟨v1, t1, s1⟩ := rb.get e1
    have w0 := gu1 xs (same_sq sm qa)
    rw [t0] at w0; cases w0
    have w1 := gu2 ys (same_sq sm qb)
    rw [t1] at w1; cases w1
    have nF := sr.freeF nT
    exact ⟨_, Go.settled sr nT, .tup (SqU.of upd_same) (.cons ((s0.mono s1').mono (same_upd nF)) (.cons ((s1.mono s1').mono (same_upd nF)) .nil))⟩
def wZipR (t : WA) : WI := fun σ h Q => t σ h fun ds h1 => match ds with
  | [d0, d1] => match rowF d0, rowF d1 with
    | some ds, some es => Q (zipD ds es) h1
    | _, _ => False
  | _ => False
section
variable {X : Cx} {B : Bs} {a b c : Expr} {wa : WA} {p pos : Pos}
theorem mi_zipR {elts : List Expr} {kk : Nat} {tpos : Pos} (hm : X.mg "zip" = none) (ha : MA X B [a, b] wa) (hg : Gl X "zip" := by rfl) (hs : starEach [a, b] X.env = (false, eval a X.env) :: starEach [b] X.env := by rfl) (hs2 : (backTo pos (starEach [b] X.env)).any (·.1) = false := by rfl) :
    MI X B (.Tuple elts kk tpos) (.Call (.Name "zip" p) [a, b] [] pos) (wZipR wa) := pi_mono (pi_zipR2 hg hm ha hs hs2) fun σ H R ⟨F, h, σd, Q', l, s, t, c⟩ => ⟨F, h, σd, _, l, s, t, fun F1 H1 h1 ds vs g1 rs t1 => by
  split at t1
  · split at t1
    · rename_i E0 E1
      cases rs with
      | cons r0 rs => cases rs with
        | cons r1 rs =>
          
            cases rs
            obtain ⟨k0, a0, xs0, rfl, q0, y0⟩ := rowF_rd r0 E0
            obtain ⟨k1, a1, xs1, rfl, q1, y1⟩ := rowF_rd r1 E1
            exact ⟨k0, k1, a0, a1, _, _, rfl, same_sq g1.sr.fr q0, same_sq g1.sr.fr q1, c F1 H1 h1 _ _ g1 (walkD_zipR2 q0 q1 y0 y1) t1⟩
    · exact t1.elim
  · exact t1.elim⟩
end
section
variable {wa : WA} {σ : MSt} {h : MH}
@[simp] theorem r_zipR {P : List D → MH → Prop} : wZipR wa σ h P = wa σ h fun ds h1 => match ds with
  | [d0, d1] => match rowF d0, rowF d1 with
    | some ds, some es => P (zipD ds es) h1
    | _, _ => False
  | _ => False := (rfl)
end
def ItzR3 (K : PySem.W.Frag) (k1 k2 k3 : Bool) (a b c : Addr) : It :=
  ⟨fun i H => ∃ (xs ys zs : List V) (x y u : V), Sq K k1 H a xs ∧ Sq K k2 H b ys ∧ Sq K k3 H c zs ∧ xs[i]? = some x ∧ ys[i]? = some y ∧ zs[i]? = some u,
    fun i H v H' => ∃ T x y u, v = .ref T ∧ H T = none ∧ H' = upd H T (.tup [x, y, u]) ∧ (∀ xs, Sq K k1 H a xs → xs[i]? = some x) ∧ (∀ ys, Sq K k2 H b ys → ys[i]? = some y) ∧ (∀ zs, Sq K k3 H c zs → zs[i]? = some u),
    fun i H => ∃ xs ys zs : List V, Sq K k1 H a xs ∧ Sq K k2 H b ys ∧ Sq K k3 H c zs ∧ (xs.length ≤ i ∨ ys.length ≤ i ∨ zs.length ≤ i) ∧ i ≤ xs.length ∧ i ≤ ys.length ∧ i ≤ zs.length⟩
theorem turn_zipR3 {P : Program} {w : World} {K : PySem.W.Frag} {elts : List Expr} {kk : Nat} {tpos : Pos} (k1 k2 k3 : Bool) {a b c z TI TO i1 i2 i3 : Addr} (S : ZipSep3 z TI TO i1 i2 i3 [i1, a] [i2, b] [i3, c]) (n1 : a ≠ i1) (n2 : b ≠ i2) (n3 : c ≠ i3) :
    Turn P w K (.Tuple elts kk tpos) (ItzR3 K k1 k2 k3 a b c) [z, TI, TO, i1, i2, i3] z (fun i h => IsZip h z TI TO .none ∧ IsTupOf3 h TI (.ref i1) (.ref i2) (.ref i3) ∧ (∃ x y u, IsTupOf3 h TO x y u) ∧ IsItr k1 h i1 a i ∧ IsItr k2 h i2 b i ∧ IsItr k3 h i3 c i) where
  mem := by simp
  obj := fun i h st c hc => by
    obtain ⟨hz, hTI, ⟨x0, y0, u0, hTO⟩, h1, h2, h3⟩ := st
    have e' : c = z ∨ c = TI ∨ c = TO ∨ c = i1 ∨ c = i2 ∨ c = i3 := by simpa using hc
    rcases e' with q | q | q | q | q | q
    · rw [q]; exact ⟨_, hz, fun v q => nomatch q⟩
    · rw [q]; exact ⟨_, hTI, fun v q => nomatch q⟩
    · rw [q]; exact ⟨_, hTO, fun v q => nomatch q⟩
    · rw [q]; exact h1.obj
    · rw [q]; exact h2.obj
    · rw [q]; exact h3.obj
  keep := fun i h h' st k => by
    obtain ⟨hz, hTI, ⟨x0, y0, u0, hTO⟩, h1, h2, h3⟩ := st
    exact ⟨k z (by simp) _ hz, k TI (by simp) _ hTI, ⟨x0, y0, u0, k TO (by simp) _ hTO⟩, h1.at fun o q => k i1 (by simp) o q, h2.at fun o q => k i2 (by simp) o q, h3.at fun o q => k i3 (by simp) o q⟩
  item := by
    intro X hP hw hK hc i pins s σ H E I hf st hg
    subst hP hw hK
    obtain ⟨hz, hTI, ⟨x0, y0, u0, hTO⟩, h1, h2, h3⟩ := st
    obtain ⟨xs, ys, zs, x, y, u, hqx, hqy, hqz, hx, hy, hu⟩ := hg
    obtain ⟨its, rv, p, _⟩ := Inv.sq I hqx
    obtain ⟨its2, rv2, p2, _⟩ := Inv.sq I hqy
    obtain ⟨its3, rv3, p3, _⟩ := Inv.sq I hqz
    obtain ⟨m1, hm1, rm1⟩ := rv.get hx
    obtain ⟨m2, hm2, rm2⟩ := rv2.get hy
    obtain ⟨m3, hm3, rm3⟩ := rv3.get hu
    have hzl : z < s.heap.objs.size := Heap.lt_size hz
    have hh : X.A.in1.handled = none := I.ok.hd hc
    have l1 : i < its.toArray.size := by have := (List.getElem?_eq_some_iff.mp hm1).1; simpa using this
    have l2 : i < its2.toArray.size := by have := (List.getElem?_eq_some_iff.mp hm2).1; simpa using this
    have l3 : i < its3.toArray.size := by have := (List.getElem?_eq_some_iff.mp hm3).1; simpa using this
    refine wpAny_pyNext_zipD3_item S (draws_of hh k1 i1 a n1 its.toArray) (draws_of hh k2 i2 b n2 its2.toArray) (draws_of hh k3 i3 c n3 its3.toArray) hz hTI hTO ⟨h1, p⟩ ⟨h2, p2⟩ ⟨h3, p3⟩ l1 l2 l3 fun x1 x2 x3 h' tk e1 e2 e3 z' TO' st1 st2 st3 hT hsz hk => ?_
    have e1 : x1 = m1 := by have : its[i]? = some x1 := by simpa using e1
                            rw [hm1] at this; exact (Option.some.inj this).symm
    have e2 : x2 = m2 := by have : its2[i]? = some x2 := by simpa using e2
                            rw [hm2] at this; exact (Option.some.inj this).symm
    have e3 : x3 = m3 := by have : its3[i]? = some x3 := by simpa using e3
                            rw [hm3] at this; exact (Option.some.inj this).symm
    subst e1 e2 e3
    refine ⟨_, rfl, wpAny_letOwnedTupleGo_zip (s := { s with heap := h', toks := tk }) z' fun h'' z'' sb => ?_⟩
    have hT2 : h''.get? s.heap.objs.size = some { cls := .type "tuple", data := .seq #[x1, x2, x3] } := (sb.2 _ (Nat.ne_of_gt hzl)).trans hT
    have new : ObjOk X.prog X.w (upd H s.heap.objs.size (.tup [x, y, u])) h'' s.heap.objs.size (.tup [x, y, u]) :=
      ⟨by show 3 ≤ sizeLine; decide, [x1, x2, x3], .cons rm1 (.cons rm2 (.cons rm3 (.nil))), ⟨_, hT2, rfl, _, rfl⟩⟩
    have I1 : Inv X pins σ (upd H s.heap.objs.size (.tup [x, y, u])) { s with heap := h'', toks := tk } :=
      I.turnedNew (t' := tk) (ch := [z, TI, TO, i1, i2, i3]) (fun c o hb q => (sb.2 c (fun q' => hb (by simp [q']))).trans (hk c o (fun q' => hb (by simp [q'])) (fun q' => hb (by simp [q'])) (fun q' => hb (by simp [q'])) (fun q' => hb (by simp [q'])) (fun q' => hb (by simp [q'])) q)) hf (Nat.le_refl _) new
    refine ⟨.ref s.heap.objs.size, _, I1, rfl, ⟨_, x, y, u, rfl, I.hok.fresh (Nat.le_refl _), rfl, fun l hl => by rw [Inv.sq_inj I hl hqx]; exact hx, fun l hl => by rw [Inv.sq_inj I hl hqy]; exact hy, fun l hl => by rw [Inv.sq_inj I hl hqz]; exact hu⟩, ⟨z'', ?_, ⟨x1, x2, x3, ?_⟩, ?_, ?_, ?_⟩, fun c hcm => ?_⟩
    · exact (sb.2 _ S.TIz).trans (hk _ _ S.TIz S.TITO S.TIi1 S.TIi2 S.TIi3 hTI)
    · exact (sb.2 _ S.TOz).trans TO'
    · exact st1.1.at fun o q => (sb.2 _ S.zi1.symm).trans q
    · exact st2.1.at fun o q => (sb.2 _ S.zi2.symm).trans q
    · exact st3.1.at fun o q => (sb.2 _ S.zi3.symm).trans q
    · have hlt : c < s.heap.objs.size := by
        have e' : c = z ∨ c = TI ∨ c = TO ∨ c = i1 ∨ c = i2 ∨ c = i3 := by simpa using hcm
        rcases e' with q | q | q | q | q | q
        · rw [q]; exact hzl
        · rw [q]; exact Heap.lt_size hTI
        · rw [q]; exact Heap.lt_size hTO
        · rw [q]; obtain ⟨_, e1, _⟩ := h1.obj; exact Heap.lt_size e1
        · rw [q]; obtain ⟨_, e1, _⟩ := h2.obj; exact Heap.lt_size e1
        · rw [q]; obtain ⟨_, e1, _⟩ := h3.obj; exact Heap.lt_size e1
      rw [upd_ne (Nat.ne_of_lt hlt)]
      exact (hf c hcm).1
  done := by
    intro X hP hw hK hc i pins s σ H E I hf st hg
    subst hP hw hK
    obtain ⟨hz, hTI, ⟨x0, y0, u0, hTO⟩, h1, h2, h3⟩ := st
    obtain ⟨xs, ys, zs, hqx, hqy, hqz, hend, b1, b2, b3⟩ := hg
    obtain ⟨its, rv, p, _⟩ := Inv.sq I hqx
    obtain ⟨its2, rv2, p2, _⟩ := Inv.sq I hqy
    obtain ⟨its3, rv3, p3, _⟩ := Inv.sq I hqz
    have l1 := rv.length
    have l2 := rv2.length
    have l3 := rv3.length
    have hh : X.A.in1.handled = none := I.ok.hd hc
    exact wpAny_pyNext_zipD3_end S (draws_of hh k1 i1 a n1 its.toArray) (draws_of hh k2 i2 b n2 its2.toArray) (draws_of hh k3 i3 c n3 its3.toArray) hz hTI hTO ⟨h1, p⟩ ⟨h2, p2⟩ ⟨h3, p3⟩ (by simp; omega) (by simp; omega) (by simp; omega) (by simp; omega)
      fun h' tk hk => ⟨rfl, I.turnedL (t' := tk) (ch := [z, TI, TO, i1, i2, i3]) (fun c o hb q =>
      hk c o (fun q' => hb (by simp [q'])) (fun q' => hb (by simp [q'])) (fun q' => hb (by simp [q'])) (fun q' => hb (by simp [q'])) (fun q' => hb (by simp [q'])) q) hf⟩
  self := fun A i s Q E st h => wpAny_pyIter_zip st.1 h
def iZipR3 (K : PySem.W.Frag) (ta : TA) : TI := fun σ H R => ta σ H fun vs H1 => ∃ k1 k2 k3 a b c xs ys zs, vs = [.ref a, .ref b, .ref c] ∧ Sq K k1 H1 a xs ∧ Sq K k2 H1 b ys ∧ Sq K k3 H1 c zs ∧ R (ItzR3 K k1 k2 k3 a b c) H1
theorem pi_zipR3 {X : Cx} {e e2 e3 : Expr} {ta : TA} {p pos tpos : Pos} {elts : List Expr} {kk : Nat} (hg : Gl X "zip") (hm : X.mg "zip" = none) (ha : PA X [e, e2, e3] ta)
    (hs : starEach [e, e2, e3] X.env = (false, eval e X.env) :: starEach [e2, e3] X.env := by rfl) (hpl : (backTo pos (starEach [e2, e3] X.env)).any (·.1) = false := by rfl) :
    PI X (.Tuple elts kk tpos) (.Call (.Name "zip" p) [e, e2, e3] [] pos) (iZipR3 X.K ta) := by
  refine ⟨fun pins s σ H R I h => ?_⟩
  refine Call_ (ld_blt I hg hm PyProof.Rows.boot_zip (PyProof.Rows.callWith_type1 (thn (ha.run pos pins s σ H _ I h) fun us s1 ⟨vs, H1, I1, r1, q1⟩ => ?_) hs hpl))
  obtain ⟨k1, k2, k3, a, b, c, xs, ys, zs, ex, hqx, hqy, hqz, q⟩ := q1
  subst ex
  cases r1 with
  | cons r1 rr =>
    cases rr with
    | cons r2 rr =>
      cases rr with
      | cons r3 rr =>
        cases rr
        cases r1
        cases r2
        cases r3
        obtain ⟨its, rv, p, _⟩ := Inv.sq I1 hqx
        obtain ⟨its2, rv2, p2, _⟩ := Inv.sq I1 hqy
        obtain ⟨its3, rv3, p3, _⟩ := Inv.sq I1 hqz
        have la : a < s1.heap.objs.size := p.lt
        have lb : b < s1.heap.objs.size := p2.lt
        have lc : c < s1.heap.objs.size := p3.lt
        refine zip_begins3 (begins_of k1 a its.toArray) (begins_of k2 b its2.toArray) (begins_of k3 c its3.toArray) p p2 p3 fun h' hz hTI hTO h1 h2 h3 hsz hk => wpAny_pyIter_zip hz ?_
        have I2 : Inv X pins σ H1 { s1 with heap := h' } := I1.kept (t' := s1.toks) hk
        have sep := zip_sep3 (N := s1.heap.objs.size) (fp1 := [a]) (fp2 := [b]) (fp3 := [c]) (by simpa using la) (by simpa using lb) (by simpa using lc)
        refine ⟨s1.heap.objs.size + 5, [s1.heap.objs.size + 5, s1.heap.objs.size + 3, s1.heap.objs.size + 4, s1.heap.objs.size, s1.heap.objs.size + 1, s1.heap.objs.size + 2], _, _, H1, rfl, I2, turn_zipR3 k1 k2 k3 sep (Nat.ne_of_lt la) (Nat.ne_of_lt (Nat.lt_succ_of_lt lb)) (Nat.ne_of_lt (Nat.lt_succ_of_lt (Nat.lt_succ_of_lt lc))), ⟨hz, hTI, ⟨_, _, _, hTO⟩, itObj_is h1, itObj_is h2, itObj_is h3⟩, fun d hcm => ?_, q⟩
        have e' : d = s1.heap.objs.size + 5 ∨ d = s1.heap.objs.size + 3 ∨ d = s1.heap.objs.size + 4 ∨ d = s1.heap.objs.size ∨ d = s1.heap.objs.size + 1 ∨ d = s1.heap.objs.size + 2 := by simpa using hcm
        have hle : s1.heap.objs.size ≤ d := by
          rcases e' with z | z | z | z | z | z <;> rw [z] <;> first | exact Nat.le_add_right _ _ | exact Nat.le_refl _
        exact I1.fpOk hle (I1.hok.fresh hle)
theorem walkD_zipR3 {K : PySem.W.Frag} {F : Hp} {k1 k2 k3 : Bool} {a b c : Addr} {xs ys zs : List V} {ds es fs : List D} (qa : SqF K k1 F a xs) (qb : SqF K k2 F b ys) (qc : SqF K k3 F c zs) (ra : RDs K F ds xs) (rb : RDs K F es ys) (rc : RDs K F fs zs) : WalkD K (ItzR3 K k1 k2 k3 a b c) F (zip3D ds es fs) := by
  have la := ra.length
  have lb := rb.length
  have lc := rc.length
  refine ⟨fun i H hi sm => ?_, fun H sm => ⟨xs, ys, zs, same_sq sm qa, same_sq sm qb, same_sq sm qc, ?_, ?_, ?_, ?_⟩, fun i d H x H' hd sm y F1 h s1' sr => ?_⟩
  · rw [zip3D_len] at hi
    exact ⟨xs, ys, zs, xs[i]'(by omega), ys[i]'(by omega), zs[i]'(by omega), same_sq sm qa, same_sq sm qb, same_sq sm qc, by simp, by simp, by simp⟩
  · rw [zip3D_len]; omega
  · rw [zip3D_len]; omega
  · rw [zip3D_len]; omega
  · rw [zip3D_len]; omega
  · obtain ⟨T, u1, u2, u3, rfl, nT, rfl, gu1, gu2, gu3⟩ := y
    obtain ⟨x0, x1, x2, e0, e1, e2, rfl⟩ := zip3D_get hd
    obtain ⟨v0, t0, s0⟩ := ra.get e0
    obtain ⟨v1, t1, s1⟩ := rb.get e1
    obtain ⟨v2, t2, s2⟩ := rc.get e2
    have w0 := gu1 xs (same_sq sm qa)
    rw [t0] at w0; cases w0
    have w1 := gu2 ys (same_sq sm qb)
    rw [t1] at w1; cases w1
    have w2 := gu3 zs (same_sq sm qc)
    rw [t2] at w2; cases w2
    have nF := sr.freeF nT
    exact ⟨_, Go.settled sr nT, .tup (SqU.of upd_same) (.cons ((s0.mono s1').mono (same_upd nF)) (.cons ((s1.mono s1').mono (same_upd nF)) (.cons ((s2.mono s1').mono (same_upd nF)) .nil)))⟩
def wZipR3 (t : WA) : WI := fun σ h Q => t σ h fun ds h1 => match ds with
  | [d0, d1, d2] => match rowF d0, rowF d1, rowF d2 with
    | some ds, some es, some fs => Q (zip3D ds es fs) h1
    | _, _, _ => False
  | _ => False
section
variable {X : Cx} {B : Bs} {a b c : Expr} {wa : WA} {p pos : Pos}
theorem mi_zipR3 {elts : List Expr} {kk : Nat} {tpos : Pos} (hm : X.mg "zip" = none) (ha : MA X B [a, b, c] wa) (hg : Gl X "zip" := by rfl) (hs : starEach [a, b, c] X.env = (false, eval a X.env) :: starEach [b, c] X.env := by rfl) (hs2 : (backTo pos (starEach [b, c] X.env)).any (·.1) = false := by rfl) :
    MI X B (.Tuple elts kk tpos) (.Call (.Name "zip" p) [a, b, c] [] pos) (wZipR3 wa) := pi_mono (pi_zipR3 hg hm ha hs hs2) fun σ H R ⟨F, h, σd, Q', l, s, t, c⟩ => ⟨F, h, σd, _, l, s, t, fun F1 H1 h1 ds vs g1 rs t1 => by
  split at t1
  · split at t1
    · rename_i E0 E1 E2
      cases rs with
      | cons r0 rs => cases rs with
        | cons r1 rs => cases rs with
          | cons r2 rs =>
            cases rs
            obtain ⟨k0, a0, xs0, rfl, q0, y0⟩ := rowF_rd r0 E0
            obtain ⟨k1, a1, xs1, rfl, q1, y1⟩ := rowF_rd r1 E1
            obtain ⟨k2, a2, xs2, rfl, q2, y2⟩ := rowF_rd r2 E2
            exact ⟨k0, k1, k2, a0, a1, a2, _, _, _, rfl, same_sq g1.sr.fr q0, same_sq g1.sr.fr q1, same_sq g1.sr.fr q2, c F1 H1 h1 _ _ g1 (walkD_zipR3 q0 q1 q2 y0 y1 y2) t1⟩
    · exact t1.elim
  · exact t1.elim⟩
end
section
variable {wa : WA} {σ : MSt} {h : MH}
@[simp] theorem r_zipR3 {P : List D → MH → Prop} : wZipR3 wa σ h P = wa σ h fun ds h1 => match ds with
  | [d0, d1, d2] => match rowF d0, rowF d1, rowF d2 with
    | some ds, some es, some fs => P (zip3D ds es fs) h1
    | _, _, _ => False
  | _ => False := (rfl)
end
end BP

set_option maxRecDepth 100000
set_option maxHeartbeats 4000000
namespace BP
open PySem PySem.Spec PyProof.Rows L2
section
variable {X : Cx} {pins : List (Addr × Obj)} {σ : L2.St} {H : Hp} {s : Shared} {h' : Heap}
end
def lenD (x : D) : Nat := match rowF x with
  | some ys => ys.length
  | none => 0
def minL : List D → D
  | [] => .non
  | x :: xs => xs.foldl (fun b y => if lenD y < lenD b then y else b) x
def fMinLen (ds : List D) (h : MH) (Q : MQ) : Prop := match ds with
  | [d] => match lsOf h d with
    | some xs => (xs ≠ [] ∧ xs.all (fun y => (rowF y).isSome) = true) ∧ Q (minL xs) h
    | none => False
  | _ => False
section
variable {X : Cx} {B : Bs} {e : Expr} {wa : WA} {p p2 p3 pos : Pos}
end
@[simp] theorem o_minLen {xs : List D} {h : MH} {Q : MQ} : fMinLen [.lst xs] h Q = ((xs ≠ [] ∧ xs.all (fun y => (rowF y).isSome) = true) ∧ Q (minL xs) h) := (rfl)
end BP

set_option maxRecDepth 100000
set_option maxHeartbeats 4000000
namespace BP
open PySem PySem.Spec PyProof.Rows L2
section
variable {X : Cx} {pins : List (Addr × Obj)} {σ : L2.St} {H : Hp} {s : Shared}
end
def wScGo (put : MSt → D → Option MSt) (te : WE) (σ : MSt) : List D → List Int → MH → (List Int → MH → Prop) → Prop
  | [], acc, h, Q => Q acc h
  | d :: ds, acc, h, Q => match put σ d with
    | some σ2 => te σ2 h fun y h2 => match y with
      | .int c => acc.length < 4090 ∧ wScGo put te σ ds (acc ++ [c]) h2 Q
      | _ => False
    | none => False
def wLenSc (wi : WI) (put : MSt → D → Option MSt) (te : WE) (vs : List Nat) : WE := fun σ h Q => wi σ h fun ds h1 => wScGo put te (mwipe σ vs) ds [] h1 fun ns h2 => ∀ c : Nat, c ≤ ns.length → (c = ns.length ↔ ns.Nodup) → Q (.int (c : Nat)) h2
section
variable {X : Cx} {B : Bs} {p p2 pos : Pos}
variable {wi : WI} {put : MSt → D → Option MSt} {te : WE} {vs : List Nat} {σ : MSt} {h : MH} {Q : MQ}
@[simp] theorem r_lenSc : wLenSc wi put te vs σ h Q = wi σ h fun ds h1 => wScGo put te (mwipe σ vs) ds [] h1 fun ns h2 => ∀ c : Nat, c ≤ ns.length → (c = ns.length ↔ ns.Nodup) → Q (.int (c : Nat)) h2 := (rfl)
end
end BP

set_option maxRecDepth 100000
set_option maxHeartbeats 4000000
namespace BP
open PySem PySem.Spec PyProof.Rows L2
def wLcGoR (p : Addr) (all : List D) (put : MSt → D → Option MSt) (tt : WT) (te : WE) (σ : MSt) : List D → List D → MH → (List D → MH → Prop) → Prop
  | [], acc, h, Q => h p = some (.lst all) ∧ Q acc h
  | d :: ds, acc, h, Q => h p = some (.lst all) ∧ match put σ d with
    | some σ2 => tt σ2 h fun b h3 => if b = true then te σ2 h3 fun y h4 => acc.length < sizeLine ∧ wLcGoR p all put tt te σ ds (acc ++ [y]) h4 Q else wLcGoR p all put tt te σ ds acc h3 Q
    | none => False
def wLcR (ta : WE) (put : MSt → D → Option MSt) (tt : WT) (te : WE) (vs : List Nat) : WE := fun σ h Q => ta σ h fun d h1 => match d with
  | .ref p => match h1 p with
    | some (.lst ds) => wLcGoR p ds put tt te (mwipe σ vs) ds [] h1 fun acc h2 => Q (.lst acc) h2
    | _ => False
  | _ => False
section
variable {X : Cx} {B : Bs} {pos : Pos}
theorem m_lcR {elt tg iter : Expr} {ifs : List Expr} {scope : Scope} {own : List (Str × Nat)} {ta : WE} {g : TG} {put : MSt → D → Option MSt} {tt : WT} {te : WE} (hc : X.calm = true) (hN : X.N.Nodup) (hi : ME X B iter ta) (ok : BlkOk X.N X.env.scope scope own) (hp : PutOk X.K g put (own.map (·.2)))
    (hg : ∀ (s : Shared) (H : Hp) (C : Addr) (cl : List (Str × Addr)) (fp : List Addr), PG (X.blk s H scope (compEnvC scope cl C X.env) fp) tg g) (ht : ∀ (s : Shared) (H : Hp) (C : Addr) (cl : List (Str × Addr)) (fp : List Addr), MTs (X.blk s H scope (compEnvC scope cl C X.env) fp) B ifs tt)
    (he : ∀ (s : Shared) (H : Hp) (C : Addr) (cl : List (Str × Addr)) (fp : List Addr), ME (X.blk s H scope (compEnvC scope cl C X.env) fp) B elt te) (hs : ∀ x, foldedSetIterable iter X.env x = pure x := by intro _; rfl) :
    ME X B (.ListComp elt [⟨tg, iter, ifs, 0⟩] scope pos) (wLcR ta put tt te (own.map (·.2))) := pe_mono (pe_lc (tt := liftT X.K B tt) (te := lift X.K B te) hc hN (pi_row hi) ok hg ht he hs) fun σ H Q ⟨F, h, σd, Q', l, s, t, c⟩ =>
  ⟨F, h, σd, _, l, s, t, fun F1 H1 h1 x u g1 rx t1 => by
    split at t1
    · rename_i p
      split at t1
      · rename_i ds hds
        cases rx
        obtain ⟨_, xs0, hx0, _⟩ := g1.sr.cell _ _ hds
        refine .inl ⟨p, rfl, ⟨xs0, SqL.of hx0⟩, fun D nD => ?_⟩
        have slots : ∀ {F2}, Same F1 F2 → LR X.K F2 (mwipe σd (own.map (·.2))) (L2.wipe σ (own.map (·.2))) := fun e => ((l.mono g1.ss).mono e).wipe _
        let fin : List BP.D → MH → Prop := fun acc h2 => Q' (.lst acc) h2
        let P : Nat → Hp → Prop := fun i H2 => ∃ F2 h2 acc accV, Go X.K F1 H1 h1 F2 H2 h2 ∧ H2 D = some (.lst accV) ∧ F2 D = none ∧ h2 D = none ∧ RDs X.K F2 acc accV ∧ i ≤ ds.length ∧ wLcGoR p ds put tt te (mwipe σd (own.map (·.2))) (ds.drop i) acc h2 fin
        refine ⟨fun i m H2 => m = ds.length - i ∧ P i H2, ⟨ds.length, rfl, F1, h1, [], [], (Go.refl g1.sr).hidden nD (g1.sr.freeF nD) (g1.sr.freeM nD), upd_same, g1.sr.freeF nD, g1.sr.freeM nD, .nil, Nat.zero_le _, t1⟩, ?_⟩
        rintro i m H2 ⟨rfl, F2, h2, acc, accV, g2, eD, fD, mD, ra, hi, t2⟩
        by_cases hlt : i < ds.length
        · have ed : ds[i]? = some ds[i] := List.getElem?_eq_getElem hlt
          rw [drop_of_get ed] at t2
          unfold wLcGoR at t2
          obtain ⟨hpl, t2⟩ := t2
          obtain ⟨_, xs2, hx2, rx2⟩ := g2.sr.cell _ _ hpl
          obtain ⟨v, ev, rv⟩ := rx2.get ed
          split at t2
          · rename_i σ3 e3
            refine .inr ⟨⟨xs2, v, SqL.of hx2, ev⟩, P (i + 1), fun H3 k => ⟨ds.length - (i + 1), by omega, rfl, k⟩, fun x H3 y => ?_⟩
            obtain ⟨rfl, yv⟩ := y
            have := yv xs2 (SqL.of hx2)
            rw [ev] at this; cases this
            refine hp F2 H3 h2 _ _ _ _ _ _ (slots g2.ss) g2.sr rv e3 fun σ4 l4 hw => ⟨hw.trans (wipe_wipe σ _), F2, h2, σ3, _, l4, (s.go g1).go g2, t2, fun F5 H5 h5 b g5 t5 => ?_⟩
            obtain ⟨fD5, mD5, eD5⟩ := g5.hid D _ eD fD mD
            cases b with
            | false =>
              rw [if_neg Bool.false_ne_true] at t5
              exact iteF ⟨F5, h5, acc, accV, g2.trans g5, eD5, fD5, mD5, ra.mono g5.ss, hlt, t5⟩
            | true =>
              rw [if_pos rfl] at t5
              refine iteT ⟨F5, h5, σ3, _, l4.mono g5.ss, (s.go g1).go (g2.trans g5), t5, fun F6 H6 h6 y6 v6 g6 r6 t6 => ?_⟩
              obtain ⟨fD6, mD6, eD6⟩ := g6.hid D _ eD5 fD5 mD5
              exact ⟨accV, eD6, by rw [← ra.length]; exact t6.1, F6, h6, acc ++ [y6], accV ++ [v6], ((g2.trans g5).trans g6).hidden nD fD6 mD6, upd_same, fD6, mD6, (ra.mono (g5.trans g6).ss).append (.cons r6 .nil), hlt, t6.2⟩
          · exact t2.elim
        · have e : i = ds.length := by omega
          subst e
          rw [List.drop_length] at t2
          obtain ⟨hpl, t2⟩ := (show h2 p = some (.lst ds) ∧ fin acc h2 from t2)
          obtain ⟨_, xs2, hx2, rx2⟩ := g2.sr.cell _ _ hpl
          refine .inl ⟨⟨xs2, SqL.of hx2, by rw [← rx2.length]; exact Nat.le_refl _⟩, ?_⟩
          exact c _ _ _ _ _ (g1.trans (g2.hiddenF nD fD mD eD)) (.lst upd_same (ra.mono (same_upd fD))) t2
      · exact t1.elim
    · exact t1.elim⟩
end
section
variable {ta : WE} {put : MSt → D → Option MSt} {tt : WT} {te : WE} {vs : List Nat} {σ : MSt} {h : MH} {Q : MQ}
@[simp] theorem r_lcR : wLcR ta put tt te vs σ h Q = ta σ h fun d h1 => match d with
  | .ref p => match h1 p with
    | some (.lst ds) => wLcGoR p ds put tt te (mwipe σ vs) ds [] h1 fun acc h2 => Q (.lst acc) h2
    | _ => False
  | _ => False := (rfl)
end
theorem lcR_over {α : Type} {p : Addr} {all : List D} {put : MSt → D → Option MSt} {te : WE} {σ : MSt} {h : MH} {Q : List D → MH → Prop} (e g : α → D) (hp : h p = some (.lst all)) : ∀ (xs : List α) (acc : List D), acc.length + xs.length ≤ 16000000 →
    (∀ x ∈ xs, ∀ K : MQ, K (g x) h → ∃ σ2, put σ (e x) = some σ2 ∧ te σ2 h K) → Q (acc ++ xs.map g) h → wLcGoR p all put wYes te σ (xs.map e) acc h Q
  | [], acc, _, _, q => ⟨hp, by simpa using q⟩
  | x :: xs, acc, hl, hs, q => by
    have szl := szL
    simp only [List.length_cons] at hl
    obtain ⟨σ2, e1, e2⟩ := hs x List.mem_cons_self (fun y h4 => acc.length < sizeLine ∧ wLcGoR p all put wYes te σ (xs.map e) (acc ++ [y]) h4 Q) ⟨by omega, lcR_over e g hp xs (acc ++ [g x]) (by rw [List.length_append]; simp; omega) (fun z hz => hs z (List.mem_cons_of_mem _ hz)) (by simpa using q)⟩
    rw [List.map_cons]
    unfold wLcGoR
    refine ⟨hp, ?_⟩
    rw [e1]
    simpa using e2
def gR (n : Nat) (gs : WGs) : WG := fun d σ h Q => match rowF d with
  | some ds => ds.length = n ∧ gs ds σ h Q
  | none => False
section
variable {X : Cx} {B : Bs} {es : List Expr} {pos : Pos}
@[simp] theorem r_gR {n : Nat} {gs : WGs} {d : D} {σ : MSt} {h : MH} {P : MSt → MH → Prop} : gR n gs d σ h P = match rowF d with
  | some ds => ds.length = n ∧ gs ds σ h P
  | none => False := (rfl)
end
end BP

set_option maxRecDepth 100000
set_option maxHeartbeats 4000000
namespace BP
open PySem PySem.Spec PyProof.Rows L2
section
variable {P : Program} {w : World} {A : Around} {E : Value → Shared → Prop} {s : Shared}
end
section
variable {X : Cx} {B : Bs} {a e : Expr} {ta : WE} {p p2 q pos : Pos}
end
end BP

set_option maxRecDepth 100000
set_option maxHeartbeats 4000000
namespace BP
open PySem PySem.Spec PyProof.Rows L2
section
variable {prog : Program} {w : World} {A : Around} {E : Value → Shared → Prop} {s : Shared}
end
section
variable {X : Cx} {B : Bs} {pos p2 : Pos}
def putSl (d o : D) (lo hi : Option Int) (h : MH) (P : MH → Prop) : Prop := match o with
  | .ref p => match h p, lsOf h d with
    | some (.lst xs), some ys => (d ≠ .ref p ∧ HT.sIx xs.length 0 lo ≤ HT.sIx xs.length xs.length hi ∧ xs.length + ys.length ≤ sizeLine) ∧ P (mupd h p (.lst (xs.take (HT.sIx xs.length 0 lo) ++ ys ++ xs.drop (HT.sIx xs.length xs.length hi))))
    | _, _ => False
  | _ => False
def gSl (to : WE) (tl th : WO) : WG := fun d σ h Q => to σ h fun o h1 => tl σ h1 fun lo h2 => th σ h2 fun hi h3 => putSl d o lo hi h3 (Q σ)
end
@[simp] theorem r_gSl {to : WE} {tl th : WO} {d : D} {σ : MSt} {h : MH} {P : MSt → MH → Prop} : gSl to tl th d σ h P = to σ h fun o h1 => tl σ h1 fun lo h2 => th σ h2 fun hi h3 => putSl d o lo hi h3 (P σ) := (rfl)
end BP

set_option maxRecDepth 100000
set_option maxHeartbeats 4000000
namespace BP
open PySem PySem.Spec PyProof.Rows L2
def wLc2Go (put : MSt → D → Option MSt) (tt : WT) (wi1 : WI) (put' : MSt → D → Option MSt) (tt1 : WT) (te : WE) (vs1 : List Nat) (σ : MSt) : List D → List D → MH → (List D → MH → Prop) → Prop
  | [], acc, h, Q => Q acc h
  | d :: ds, acc, h, Q => match put σ d with
    | some σ2 => tt σ2 h fun b h3 => if b = true then wi1 σ2 h3 fun ds1 h4 => wLcGo put' tt1 te (mwipe σ2 vs1) ds1 acc h4 fun acc' h5 => wLc2Go put tt wi1 put' tt1 te vs1 σ ds acc' h5 Q
      else wLc2Go put tt wi1 put' tt1 te vs1 σ ds acc h3 Q
    | none => False
def wLc2 (wi : WI) (put : MSt → D → Option MSt) (tt : WT) (wi1 : WI) (put' : MSt → D → Option MSt) (tt1 : WT) (te : WE) (vs vs1 : List Nat) : WE := fun σ h Q => wi σ h fun ds h1 => wLc2Go put tt wi1 put' tt1 te vs1 (mwipe σ vs) ds [] h1 fun acc h2 => Q (.lst acc) h2
section
variable {X : Cx} {B : Bs} {pos : Pos}
end
@[simp] theorem r_lc2 {wi wi1 : WI} {put put' : MSt → D → Option MSt} {tt tt1 : WT} {te : WE} {vs vs1 : List Nat} {σ : MSt} {h : MH} {Q : MQ} : wLc2 wi put tt wi1 put' tt1 te vs vs1 σ h Q = wi σ h fun ds h1 => wLc2Go put tt wi1 put' tt1 te vs1 (mwipe σ vs) ds [] h1 fun acc h2 => Q (.lst acc) h2 := (rfl)
end BP

set_option maxRecDepth 100000
set_option maxHeartbeats 4000000
namespace BP
open PySem PySem.Spec PyProof.Rows L2 LamX
section
variable {X : Cx} {pins : List (Addr × Obj)} {σ : L2.St} {H : Hp} {s : Shared}
end
section
def wActS (i : Nat) (f : Addr) (tl : LTl) (Es : MSt → XQ) : WE := fun σ h Q => σ[i]? = some (some (.ref f)) ∧ tl h Q (Es σ)
end
abbrev LSp2 := LTl → D → MH → MQ → XQ → Prop
def wLam2 (P : Addr) (q : Str) (sp : LSp2) (Es : MSt → XQ) (t : (MSt → XQ) → WE) (te : WE) : WE := fun σ h Q => h P = some (.tbl q) ∧ te σ h fun d h1 => sp (fun h' Q' E' => t (fun _ => E') σ h' Q') d h1 Q (Es σ)
section
variable {X : Cx} {B : Bs} {Es : MSt → XQ}
end
@[simp] theorem r_lam2 {P : Addr} {q : Str} {sp : LSp2} {Es : MSt → XQ} {t : (MSt → XQ) → WE} {te : WE} {σ : MSt} {h : MH} {Q : MQ} : wLam2 P q sp Es t te σ h Q = (h P = some (.tbl q) ∧ te σ h fun d h1 => sp (fun h' Q' E' => t (fun _ => E') σ h' Q') d h1 Q (Es σ)) := (rfl)
def wLc2M (wi : WI) (put : MSt → D → Option MSt) (tt : WT) (wi1 : WI) (put' : MSt → D → Option MSt) (tt1 : WT) (te : WE) (vs vs1 : List Nat) : WE := fun σ h Q => wi σ h fun ds h1 => wLc2Go put tt wi1 put' tt1 te vs1 (mwipe σ vs) ds [] h1 fun acc h2 => ∀ p, h2 p = none → Q (.ref p) (mupd h2 p (.lst acc))
@[simp] theorem r_lc2M {wi wi1 : WI} {put put' : MSt → D → Option MSt} {tt tt1 : WT} {te : WE} {vs vs1 : List Nat} {σ : MSt} {h : MH} {Q : MQ} : wLc2M wi put tt wi1 put' tt1 te vs vs1 σ h Q = wi σ h fun ds h1 => wLc2Go put tt wi1 put' tt1 te vs1 (mwipe σ vs) ds [] h1 fun acc h2 => ∀ p, h2 p = none → Q (.ref p) (mupd h2 p (.lst acc)) := (rfl)
section
variable {X : Cx} {B : Bs} {pos : Pos}
end
@[simp] theorem r_actS {i : Nat} {f : Addr} {tl : LTl} {Es : MSt → XQ} {σ : MSt} {h : MH} {Q : MQ} : wActS i f tl Es σ h Q = (σ[i]? = some (some (.ref f)) ∧ tl h Q (Es σ)) := (rfl)
end BP

set_option maxRecDepth 100000
set_option maxHeartbeats 4000000
namespace BP
open PySem PySem.Spec PyProof.Rows L2
structure IsC (K : PySem.W.Frag) (C : Addr) : Prop where
  cl : Cls K C
  ha : PySem.W.findIn K (.ref C) "__class__" = some (some (.builtin "object.__class__"))
  hn : PySem.W.specialIn K (.builtin "object.__class__") "__get__" = some (some (.builtin "getset_descriptor.__get__"))
  htk : PySem.W.takesIn K (.builtin "object.__class__") = some true
  hm : PySem.W.mroIn K C (.type "object") = some true
  is : PySem.W.isClsIn K C = true
  ty : PySem.W.typeIn K (.ref C) = some (.type "type")
theorem IsC.no {K : PySem.W.Frag} {C : Addr} (i : IsC K C) {n : String} (h : n ∈ ["NoneType", "bool", "int", "str", "tuple", "list", "dict"]) : PySem.W.kitOne K (.type n) (.ref C) = some false := by
  have h2 : (PySem.W.clsIn K C).isSome = true := i.is
  unfold PySem.W.kitOne PySem.W.kitCls
  rw [if_neg (by simp)]
  simp only [h2, i.ty, beq_self_eq_true, Bool.and_self, if_true, PySem.W.subIn]
  simp only [List.mem_cons, List.not_mem_nil, or_false] at h
  rcases h with rfl | rfl | rfl | rfl | rfl | rfl | rfl <;> rfl
section
variable {X : Cx} {B : Bs} {a b e : Expr} {ta tb : WE} {pos p : Pos}
end
structure OwnCmp (K : PySem.W.Frag) (C f : Addr) : Prop where
  eq : PySem.W.findIn K (.ref C) "__eq__" = some (some (.ref f))
  fn : PySem.W.isFn K (.ref f) = true
  ne : PySem.W.findIn K (.ref C) "__ne__" = some (some (.builtin "object.__ne__"))
  mo : PySem.W.mroIn K C (.type "object") = some true
section
open PySem.W Builtin
variable {prog : Program} {w : World} {A : Around} {E : Value → Shared → Prop} {s : Shared} {K : Frag} {x C L f : Addr} {h₀ : Heap} {m : Str → Option Value} {ox : Obj} {od : Option Obj} {name : Str} {b tb : Value}
end
def opOwn (C : Addr) (sp : MSp) (neg : Bool) (x y : D) (h : MH) (Q : MQ) : Prop := (insOf C h x).isSome = true ∧ (insOf C h y).isSome = true ∧ sp [x, y] h (fun d h' => match d with
  | .bl c => Q (.bl (if neg = true then !c else c)) h'
  | _ => False) fun _ _ _ => False
section
variable {X : Cx} {B : Bs} {a b : Expr} {ta tb : WE} {pos : Pos} {C f : Addr} {fd : FuncData} {ps : List Str} {sp : MSp} {k : Nat}
end
def fGetKI (tab : List (Int × D)) (x : D) (h : MH) (Q : MQ) : Prop := match x with
  | .int z => match tab.lookup z with
    | some dd => Q dd h
    | none => False
  | _ => False
section
variable {X : Cx} {B : Bs} {a b : Expr} {ta tb : WE} {pos : Pos} {d : Addr} {tab : List (Int × D)}
end
@[simp] theorem o_getKI {tab : List (Int × D)} {z : Int} {h : MH} {Q : MQ} : fGetKI tab (.int z) h Q = match tab.lookup z with
    | some dd => Q dd h
    | none => False := (rfl)
@[simp] theorem o_own {C : Addr} {sp : MSp} {neg : Bool} {x y : D} {h : MH} {Q : MQ} : opOwn C sp neg x y h Q = ((insOf C h x).isSome = true ∧ (insOf C h y).isSome = true ∧ sp [x, y] h (fun d h' => match d with
  | .bl c => Q (.bl (if neg = true then !c else c)) h'
  | _ => False) fun _ _ _ => False) := (rfl)
end BP

set_option maxRecDepth 100000
set_option maxHeartbeats 4000000
namespace BP
open PySem PySem.Spec PyProof.Rows L2
section
variable {X : Cx} {B : Bs} {a b : Expr} {ta tb : WE} {pos : Pos} {C f : Addr} {fd : FuncData} {ps : List Str} {sp : MSp} {k : Nat}
end
end BP

set_option maxRecDepth 100000
set_option maxHeartbeats 4000000
namespace BP
open PySem PySem.Spec PyProof.Rows L2
def keysD : List D → Option (List Key)
  | [] => some []
  | d :: ds => match keyD d, keysD ds with
    | some k, some ks => some (k :: ks)
    | _, _ => none
def atTk (kvs : List (List Key × D)) (k : List Key) : Option D := (kvs.find? fun kv => decide (kv.1 = k)).map (·.2)
def putTk (kvs : List (List Key × D)) (k : List Key) (v : D) : List (List Key × D) :=
  if (kvs.any fun kv => decide (kv.1 = k)) = true then kvs.map (fun kv => if kv.1 = k then (kv.1, v) else kv) else kvs ++ [(k, v)]
section
variable {K : PySem.W.Frag} {F H : Hp} {h : MH}
end
section
variable {X : Cx} {B : Bs} {a b e o i v : Expr} {ta tb te to ti tv : WE} {pos pos' : Pos} {es : List Expr} {wa : WA}
def wDctT : WE := fun _ h Q => ∀ p, h p = none → Q (.ref p) (mupd h p (.dcT []))
def opGetDt (x : D) (ks : List D) (h : MH) (Q : MQ) : Prop := match x, keysD ks with
  | .ref a, some k => match h a with
    | some (.dcT kvs) => match atTk kvs k with
      | some d => Q d h
      | none => False
    | _ => False
  | _, _ => False
def wGetDt (ta : WE) (wa : WA) : WE := fun σ h Q => ta σ h fun x h1 => wa σ h1 fun ks h2 => ks.length ≤ sizeLine ∧ opGetDt x ks h2 Q
def wPutDt (to : WE) (wa : WA) (tv : WE) : WS := fun D σ h => tv σ h fun d h1 => to σ h1 fun x h2 => wa σ h2 fun ks h3 => ks.length ≤ sizeLine ∧ match x, keysD ks with
  | .ref a, some k => match h3 a with
    | some (.dcT kvs) => kvs.length < sizeLine ∧ D.nx σ (mupd h3 a (.dcT (putTk kvs k d)))
    | _ => False
  | _, _ => False
end
section
variable {h : MH} {Q : MQ} {x y : D} {a : Addr} {kvs : List (List Key × D)} {k : List Key} {D0 : MEnds} {σ : MSt}
@[simp] theorem kt_2 {i j : Int} : keysD [.int i, .int j] = some [.inl i, .inl j] := (rfl)
@[simp] theorem r_dctT : wDctT σ h Q = ∀ p, h p = none → Q (.ref p) (mupd h p (.dcT [])) := (rfl)
@[simp] theorem r_getDt {ta : WE} {wa : WA} : wGetDt ta wa σ h Q = ta σ h fun x h1 => wa σ h1 fun ks h2 => ks.length ≤ sizeLine ∧ opGetDt x ks h2 Q := (rfl)
@[simp] theorem o_getDt {ks : List D} : opGetDt (.ref a) ks h Q = match keysD ks with
  | some k => match h a with
    | some (.dcT kvs) => match atTk kvs k with
      | some d => Q d h
      | none => False
    | _ => False
  | none => False := by unfold opGetDt; cases keysD ks <;> rfl
@[simp] theorem r_putDt {to tv : WE} {wa : WA} : wPutDt to wa tv D0 σ h = tv σ h fun d h1 => to σ h1 fun x h2 => wa σ h2 fun ks h3 => ks.length ≤ sizeLine ∧ match x, keysD ks with
  | .ref a, some k => match h3 a with
    | some (.dcT kvs) => kvs.length < sizeLine ∧ D0.nx σ (mupd h3 a (.dcT (putTk kvs k d)))
    | _ => False
  | _, _ => False := (rfl)
end
end BP

set_option maxRecDepth 100000
set_option maxHeartbeats 4000000
namespace BP
open PySem PySem.Spec PyProof.Rows L2
section
variable {prog : Program} {w : World} {A : Around} {E : Value → Shared → Prop} {s : Shared} {l : Addr} {xs : Array (Int × Tok)} {its : List Value} {ns : List Int} {Q : Value → Shared → Prop}
theorem tup_bnd {o : Obj} (hlt : l < s.heap.objs.size) : ∀ b ∈ [s.heap.objs.size, l], b < (s.heap.push o).objs.size := fun b hb => by
  rw [Heap.size_push]
  rcases List.mem_cons.mp hb with rfl | hb
  · exact Nat.lt_succ_self _
  · rcases List.mem_cons.mp hb with rfl | hb
    · exact Nat.lt_succ_of_lt hlt
    · cases hb
theorem tup_old {h' : Heap} {x : Obj} (hk : ∀ b o, b ∉ [s.heap.objs.size] → (s.heap.push x).get? b = some o → h'.get? b = some o) : ∀ b o, s.heap.get? b = some o → h'.get? b = some o := fun b o e => by
  refine hk b o (fun hm => ?_) (Heap.get?_push_of_some _ e)
  rcases List.mem_cons.mp hm with e1 | hm
  · exact absurd (e1 ▸ Heap.lt_size e) (Nat.lt_irrefl _)
  · cases hm
theorem max_intTup (hh : A.handled = none) (hl : s.heap.IsTuple l (intItems xs)) (hne : 0 < xs.size)
    (h : ∀ v h' tk, (intItems xs)[argBest (fun i j => decide (numAt xs i > numAt xs j)) (xs.size - 1)]? = some v → (∀ b o, s.heap.get? b = some o → h'.get? b = some o) → Q v { s with heap := h', toks := tk }) :
    wpAny (model prog w) A (call (.builtin "max") [.ref l]) Q E s := by
  have hlt : l < s.heap.objs.size := by obtain ⟨_, e, _⟩ := hl; exact Heap.lt_size e
  refine call_max_walk (wpAny_pyIter_tuple hl ?_)
  refine ⟨_, [_, l], [_], _, _, _, _, rfl, Walks.tuple (A := A.in1) hh _ l (Nat.ne_of_lt hlt) (intItems xs), ⟨⟨_, Heap.get?_push_size _ rfl, rfl, rfl⟩, hl.push _⟩, tup_bnd hlt, by simpa [intItems] using hne, CmpOf.ints_gt (numAt xs) (fun _ _ => intItems_at), fun v h' tk hP hk => ?_⟩
  exact h v h' tk (by simpa [intItems] using hP) (tup_old hk)
theorem min_intTup (hh : A.handled = none) (hl : s.heap.IsTuple l (intItems xs)) (hne : 0 < xs.size)
    (h : ∀ v h' tk, (intItems xs)[argBest (fun i j => decide (numAt xs i < numAt xs j)) (xs.size - 1)]? = some v → (∀ b o, s.heap.get? b = some o → h'.get? b = some o) → Q v { s with heap := h', toks := tk }) :
    wpAny (model prog w) A (call (.builtin "min") [.ref l]) Q E s := by
  have hlt : l < s.heap.objs.size := by obtain ⟨_, e, _⟩ := hl; exact Heap.lt_size e
  refine call_min_walk (wpAny_pyIter_tuple hl ?_)
  refine ⟨_, [_, l], [_], _, _, _, _, rfl, Walks.tuple (A := A.in1) hh _ l (Nat.ne_of_lt hlt) (intItems xs), ⟨⟨_, Heap.get?_push_size _ rfl, rfl, rfl⟩, hl.push _⟩, tup_bnd hlt, by simpa [intItems] using hne, CmpOf.ints_lt (numAt xs) (fun _ _ => intItems_at), fun v h' tk hP hk => ?_⟩
  exact h v h' tk (by simpa [intItems] using hP) (tup_old hk)
theorem max_rawT (hh : A.handled = none) (hl : s.heap.IsTuple l its.toArray) (hi : IntsAre its ns) (hne : 0 < ns.length)
    (h : ∀ h' tk M t', (∀ b o, s.heap.get? b = some o → h'.get? b = some o) → M ∈ ns → (∀ a, a ∈ ns → a ≤ M) → Q (.int M t') { s with heap := h', toks := tk }) : wpAny (model prog w) A (call (.builtin "max") [.ref l]) Q E s := by
  obtain ⟨xs, e⟩ := hi.allInts.items
  have hn : numsOf (intItems xs).toList = ns := by rw [← e]; exact hi.numsOf
  rw [nums_intItems] at hn
  subst hn
  rw [e] at hl
  have hsz : 0 < xs.size := by simpa using hne
  refine max_intTup hh hl hsz fun v h' tk hv hk => ?_
  obtain ⟨t, rfl⟩ := intItems_at hv
  obtain ⟨h1, h2⟩ := argBest_gt (numAt xs) (xs.size - 1)
  refine h h' tk _ t hk ?_ fun a ha => ?_
  · rw [numAt_eq]; exact PySem.getD_mem (by rw [List.length_map, Array.length_toList]; omega)
  · obtain ⟨j, hj, rfl⟩ := mem_getD ha
    rw [List.length_map, Array.length_toList] at hj
    rw [← numAt_eq]; exact h2 j (by omega)
theorem min_rawT (hh : A.handled = none) (hl : s.heap.IsTuple l its.toArray) (hi : IntsAre its ns) (hne : 0 < ns.length)
    (h : ∀ h' tk M t', (∀ b o, s.heap.get? b = some o → h'.get? b = some o) → M ∈ ns → (∀ a, a ∈ ns → M ≤ a) → Q (.int M t') { s with heap := h', toks := tk }) : wpAny (model prog w) A (call (.builtin "min") [.ref l]) Q E s := by
  obtain ⟨xs, e⟩ := hi.allInts.items
  have hn : numsOf (intItems xs).toList = ns := by rw [← e]; exact hi.numsOf
  rw [nums_intItems] at hn
  subst hn
  rw [e] at hl
  have hsz : 0 < xs.size := by simpa using hne
  refine min_intTup hh hl hsz fun v h' tk hv hk => ?_
  obtain ⟨t, rfl⟩ := intItems_at hv
  obtain ⟨h1, h2⟩ := argBest_lt (numAt xs) (xs.size - 1)
  refine h h' tk _ t hk ?_ fun a ha => ?_
  · rw [numAt_eq]; exact PySem.getD_mem (by rw [List.length_map, Array.length_toList]; omega)
  · obtain ⟨j, hj, rfl⟩ := mem_getD ha
    rw [List.length_map, Array.length_toList] at hj
    rw [← numAt_eq]; exact h2 j (by omega)
end
section
variable {X : Cx} {B : Bs} {e : Expr} {es : List Expr} {wa : WA} {pos : Pos}
def rMaxR (K : PySem.W.Frag) : List V → Hp → VK → Prop := fun vs H Q => ∃ (a : Addr) (ns : List Int), vs = [V.ref a] ∧ (SqL K H a (ns.map V.int) ∨ SqT K H a (ns.map V.int)) ∧ 0 < ns.length ∧ ∀ m, m ∈ ns → (∀ y, y ∈ ns → y ≤ m) → Q (.int m) H
def rMinR (K : PySem.W.Frag) : List V → Hp → VK → Prop := fun vs H Q => ∃ (a : Addr) (ns : List Int), vs = [V.ref a] ∧ (SqL K H a (ns.map V.int) ∨ SqT K H a (ns.map V.int)) ∧ 0 < ns.length ∧ ∀ m, m ∈ ns → (∀ y, y ∈ ns → m ≤ y) → Q (.int m) H
theorem cr_maxR (hc : X.calm = true) : CallR X (.builtin "max") (rMaxR X.K) := by
  intro pins s σ H vs us Q I r h
  obtain ⟨a, ns, rfl, hs, hne, q⟩ := h
  rcases hs with hs | hs
  · exact cr_max hc pins s σ H _ us Q I r ⟨a, ns, rfl, hs, hne, q⟩
  · obtain ⟨its, rv, ⟨o, eo, ec, n, ed⟩, _⟩ := I.tuple hs
    rw [Vals.ref1 r]
    exact max_rawT (I.ok.hd hc) ⟨o, eo, ec, n, ed⟩ rv.ints hne fun h' tk m t' hk h1 h2 => ⟨.int _, H, I.kept hk, ⟨_, rfl⟩, q m h1 h2⟩
theorem cr_minR (hc : X.calm = true) : CallR X (.builtin "min") (rMinR X.K) := by
  intro pins s σ H vs us Q I r h
  obtain ⟨a, ns, rfl, hs, hne, q⟩ := h
  rcases hs with hs | hs
  · exact cr_min hc pins s σ H _ us Q I r ⟨a, ns, rfl, hs, hne, q⟩
  · obtain ⟨its, rv, ⟨o, eo, ec, n, ed⟩, _⟩ := I.tuple hs
    rw [Vals.ref1 r]
    exact min_rawT (I.ok.hd hc) ⟨o, eo, ec, n, ed⟩ rv.ints hne fun h' tk m t' hk h1 h2 => ⟨.int _, H, I.kept hk, ⟨_, rfl⟩, q m h1 h2⟩
def fMinR (ds : List D) (h : MH) (Q : MQ) : Prop := match ds with
  | [d] => match (sqOf h d).bind intsOf with
    | some ns => 0 < ns.length ∧ ∀ m, m ∈ ns → (∀ y, y ∈ ns → m ≤ y) → Q (.int m) h
    | none => False
  | _ => False
def fMaxR (ds : List D) (h : MH) (Q : MQ) : Prop := match ds with
  | [d] => match (sqOf h d).bind intsOf with
    | some ns => 0 < ns.length ∧ ∀ m, m ∈ ns → (∀ y, y ∈ ns → y ≤ m) → Q (.int m) h
    | none => False
  | _ => False
theorem m_minR {p : Pos} (hc : X.calm = true) (hm : X.mg "min" = none) (ha : MA X B (e :: es) wa) (hg : Gl X "min" := by rfl) (he : starEach (e :: es) X.env = (false, eval e X.env) :: starEach es X.env := by rfl) (hpl : (backTo pos (starEach es X.env)).any (·.1) = false := by rfl) :
    ME X B (.Call (.Name "min" p) (e :: es) [] pos) (wCB fMinR wa) := m_callB (cr_minR hc) (fun F H h ds vs Q' Q s rs t c => by
      unfold fMinR at t
      split at t
      · obtain ⟨v, rfl, r⟩ := rds_one rs
        split at t
        · rename_i bs eb
          simp only [Option.bind_eq_some_iff] at eb
          obtain ⟨xs, ex, eb⟩ := eb
          obtain ⟨p, ys, rfl, q, r2⟩ := sq_rd s r ex
          have := ints_rd r2 eb
          subst this
          exact ⟨p, bs, rfl, q, t.1, fun m m1 m2 => c.same s (.int _) (t.2 m m1 m2)⟩
        · exact t.elim
      · exact t.elim) hm (by decide +kernel) ha hg (by decide) (by decide) he hpl
theorem m_maxR {p : Pos} (hc : X.calm = true) (hm : X.mg "max" = none) (ha : MA X B (e :: es) wa) (hg : Gl X "max" := by rfl) (he : starEach (e :: es) X.env = (false, eval e X.env) :: starEach es X.env := by rfl) (hpl : (backTo pos (starEach es X.env)).any (·.1) = false := by rfl) :
    ME X B (.Call (.Name "max" p) (e :: es) [] pos) (wCB fMaxR wa) := m_callB (cr_maxR hc) (fun F H h ds vs Q' Q s rs t c => by
      unfold fMaxR at t
      split at t
      · obtain ⟨v, rfl, r⟩ := rds_one rs
        split at t
        · rename_i bs eb
          simp only [Option.bind_eq_some_iff] at eb
          obtain ⟨xs, ex, eb⟩ := eb
          obtain ⟨p, ys, rfl, q, r2⟩ := sq_rd s r ex
          have := ints_rd r2 eb
          subst this
          exact ⟨p, bs, rfl, q, t.1, fun m m1 m2 => c.same s (.int _) (t.2 m m1 m2)⟩
        · exact t.elim
      · exact t.elim) hm (by decide +kernel) ha hg (by decide) (by decide) he hpl
end
theorem minR_ok {d : D} {ns : List Int} {h : MH} {Q : MQ} (e : sqOf h d = some (ns.map .int)) (ne : 0 < ns.length) (q : ∀ m, m ∈ ns → (∀ y, y ∈ ns → m ≤ y) → Q (.int m) h) : fMinR [d] h Q := by
  unfold fMinR
  simp only [e, Option.bind_some, intsOf_ints]
  exact ⟨ne, q⟩
theorem maxR_ok {d : D} {ns : List Int} {h : MH} {Q : MQ} (e : sqOf h d = some (ns.map .int)) (ne : 0 < ns.length) (q : ∀ m, m ∈ ns → (∀ y, y ∈ ns → y ≤ m) → Q (.int m) h) : fMaxR [d] h Q := by
  unfold fMaxR
  simp only [e, Option.bind_some, intsOf_ints]
  exact ⟨ne, q⟩
end BP

set_option maxRecDepth 100000
set_option maxHeartbeats 4000000
namespace BP
open PySem PySem.Spec PyProof.Rows L2
section
variable {X : Cx} {B : Bs} {o value : Expr} {to tv : WE} {pos tpos : Pos} {C : Addr} {n : Str}
def wAugFS (C : Addr) (n : Str) (to tv : WE) : WS := fun D σ h => to σ h fun x h1 => match insOf C h1 x with
  | some (a, fs) => match fs.lookup n with
    | some (.int i) => tv σ h1 fun y h2 => match y with
      | .int j => match insOf C h2 (.ref a) with
        | some (a', fs') => fs'.length < 1000 ∧ D.nx σ (mupd h2 a' (.ins C (putFd n (.int (i - j)) fs')))
        | none => False
      | _ => False
    | _ => False
  | none => False
def gFl (C : Addr) (n : Str) (to : WE) : WG := fun d σ h Q => to σ h fun x h1 => match insOf C h1 x with
  | some (a, fs) => fs.length < 1000 ∧ Q σ (mupd h1 a (.ins C (putFd n d fs)))
  | none => False
end
section
variable {h : MH} {D0 : MEnds} {σ : MSt} {C : Addr} {n : Str} {to tv : WE} {d : D} {P : MSt → MH → Prop}
@[simp] theorem r_augFS : wAugFS C n to tv D0 σ h = to σ h fun x h1 => match insOf C h1 x with
  | some (a, fs) => match fs.lookup n with
    | some (.int i) => tv σ h1 fun y h2 => match y with
      | .int j => match insOf C h2 (.ref a) with
        | some (a', fs') => fs'.length < 1000 ∧ D0.nx σ (mupd h2 a' (.ins C (putFd n (.int (i - j)) fs')))
        | none => False
      | _ => False
    | _ => False
  | none => False := (rfl)
@[simp] theorem r_gFl : gFl C n to d σ h P = to σ h fun x h1 => match insOf C h1 x with
  | some (a, fs) => fs.length < 1000 ∧ P σ (mupd h1 a (.ins C (putFd n d fs)))
  | none => False := (rfl)
end
end BP

set_option maxRecDepth 100000
set_option maxHeartbeats 1000000
namespace BP
open PySem PySem.Spec PyProof.Rows L2
def opGet2 (x y z : D) (h : MH) (Q : MQ) : Prop := match dcOf h x, keyD y with
  | some kvs, some k => Q ((atD kvs k).getD z) h
  | _, _ => False
def wGet2 (to ti tv : WE) : WE := fun σ h Q => to σ h fun x h1 => (dcOf h1 x).isSome = true ∧ ti σ h1 fun y h2 => tv σ h2 fun z h3 => opGet2 x y z h3 Q
section
variable {X : Cx} {B : Bs} {o i v : Expr} {to ti tv : WE} {apos cpos : Pos}
@[simp] theorem r_get2 {σ : MSt} {h : MH} {Q : MQ} : wGet2 to ti tv σ h Q = to σ h fun x h1 => (dcOf h1 x).isSome = true ∧ ti σ h1 fun y h2 => tv σ h2 fun z h3 => opGet2 x y z h3 Q := (rfl)
@[simp] theorem o_get2 {x y z : D} {h : MH} {Q : MQ} : opGet2 x y z h Q = match dcOf h x, keyD y with
  | some kvs, some k => Q ((atD kvs k).getD z) h
  | _, _ => False := (rfl)
end
end BP
namespace PySem.SeqAt
open AutoSeq1 (wpAny_loadPart')
open MeetsSeq MeetsSeq2 MeetsSeq3 SeqRoads2
end PySem.SeqAt
namespace BP
open PySem PySem.Spec PyProof.Rows L2
def SameDc (h : MH) (x y : D) : Prop := ∃ kvs, dcOf h x = some kvs ∧ dcOf h y = some kvs ∧ (kvs.map (·.1)).Nodup ∧ ∀ kv ∈ kvs, ∃ i : Int, kv.2 = .int i
def opNeTD (x y : D) (h : MH) (Q : MQ) : Prop := match x, y with
  | .tup as, .tup bs => Paired (SameDc h) as bs ∧ Q (.bl false) h
  | _, _ => False
section
variable {X : Cx} {B : Bs} {a b : Expr} {ta tb : WE} {pos : Pos}
@[simp] theorem o_neTD {as bs : List D} {h : MH} {Q : MQ} : opNeTD (.tup as) (.tup bs) h Q = (Paired (SameDc h) as bs ∧ Q (.bl false) h) := (rfl)
end
end BP
namespace BP
open PySem PySem.Spec PyProof.Rows L2
def fPop0 (x : D) (ds : List D) (h : MH) (Q : MQ) : Prop := match x, ds with
  | .ref a, [] => match h a with
    | some (.lst xs) => match xs[xs.length - 1]? with
      | some y => Q y (mupd h a (.lst xs.dropLast))
      | none => False
    | _ => False
  | _, _ => False
theorem RDs.dropLast {K : PySem.W.Frag} {F : Hp} {ds : List D} {vs : List V} (r : RDs K F ds vs) : RDs K F ds.dropLast vs.dropLast := by
  rw [List.dropLast_eq_take, List.dropLast_eq_take, r.length]
  exact RDs.take _ r
@[simp] theorem o_pop0 {a : Addr} {h : MH} {Q : MQ} : fPop0 (.ref a) [] h Q = match h a with
    | some (.lst xs) => match xs[xs.length - 1]? with
      | some y => Q y (mupd h a (.lst xs.dropLast))
      | none => False
    | _ => False := (rfl)
def wItemsL (t : WE) : WI := fun σ h Q => t σ h fun d h1 => match d with
  | .ref a => (match h1 a with
    | some (.dct kvs) => Q (kvs.map itemD) (mdel h1 a)
    | _ => False)
  | _ => False
@[simp] theorem r_itemsL {t : WE} {σ : MSt} {h : MH} {Q : List D → MH → Prop} : wItemsL t σ h Q = t σ h fun d h1 => match d with
  | .ref a => (match h1 a with
    | some (.dct kvs) => Q (kvs.map itemD) (mdel h1 a)
    | _ => False)
  | _ => False := (rfl)
end BP

namespace BP
open PySem PySem.Spec PyProof.Rows L2
def frzN (h : MH) : Nat → D → D
  | 0, d => d
  | n + 1, .ref p => (match h p with
    | some (.lst xs) => .lst (xs.map (frzN h n))
    | some (.dct xs) => .dct xs
    | _ => .ref p)
  | n + 1, .tup ds => .tup (ds.map (frzN h n))
  | n + 1, .lst ds => .lst (ds.map (frzN h n))
  | _ + 1, d => d
section
variable {K : PySem.W.Frag} {F H : Hp} {h : MH}
theorem rds_map {F' : Hp} {f : D → D} (ih : ∀ {d : D} {v : V}, RD K F d v → RD K F' (f d) v) : ∀ {ds : List D} {vs : List V}, RDs K F ds vs → RDs K F' (ds.map f) vs
  | _, _, .nil => .nil
  | _, _, .cons a b => .cons (ih a) (rds_map ih b)
theorem frzN_rd (s : SR K F H h) : ∀ (n : Nat) {d : D} {v : V}, RD K F d v → RD K (lend F H h) (frzN h n d) v
  | 0, _, _, r => r.mono (lend_same s)
  | n + 1, d, v, r => by
    have ih := fun {d : D} {v : V} (r : RD K F d v) => frzN_rd s n r
    have m := r.mono (lend_same s)
    cases r with
    | ref p =>
      show RD K (lend F H h) (match h p with
        | some (.lst xs) => .lst (xs.map (frzN h n))
        | some (.dct xs) => .dct xs
        | _ => .ref p) _
      cases z : h p with
      | none => exact m
      | some k =>
        cases k with
        | lst xs =>
          obtain ⟨_, vs, q, rs⟩ := s.cell p _ z
          exact .lst (by rw [lend_cell (by rw [z]; rfl)]; exact q) (rds_map ih rs)
        | dct xs =>
          obtain ⟨_, vs, q, rs⟩ := s.cell p _ z
          exact .dct (by rw [lend_cell (by rw [z]; rfl)]; exact q) (rs.mono (lend_same s))
        | ins C fs => exact m
        | tbl q => exact m
        | dcT q => exact m
        | exv _ _ _ => exact m
    | tup a b => exact .tup (Same.sqU (lend_same s) a) (rds_map ih b)
    | lst a b => exact .lst (lend_same s _ _ a) (rds_map ih b)
    | non => exact m
    | bl b => exact m
    | int i => exact m
    | str x => exact m
    | ty n => exact m
    | scr a => exact m
    | dct a b => exact m
    | dcl a b => exact m
    | exc a b => exact m
theorem frzN_rds (s : SR K F H h) (n : Nat) {ds : List D} {vs : List V} (r : RDs K F ds vs) : RDs K (lend F H h) (ds.map (frzN h n)) vs := rds_map (frzN_rd s n) r
end
def spN (sp : MSp) : MSp := fun ds h Q E => sp (ds.map (frzN h 4)) (fun _ => none) (lentQ Q h) (lentE E h)
theorem spN_lift {K : PySem.W.Frag} {mg : Str → Option Value} {sp : MSp} {vs : List V} {H : Hp} {Q : VK} {E : XK} (l : liftSp K mg (spN sp) vs H Q E) : liftSp K mg sp vs H Q E := by
  obtain ⟨F, h, ds, Q', E', r, s, t, cv, cx⟩ := l
  refine ⟨lend F H h, fun _ => none, ds.map (frzN h 4), _, _, frzN_rds s 4 r, lend_sr s, t, fun F1 H1 h1 d v g rd q => ?_, fun F1 H1 h1 n C dd fs gs g e3 hd rf q => ?_⟩
  · exact cv _ H1 h d v (unlend_go s g) (unlend_rd s g q.1 rd) q.2
  · refine cx _ H1 h n C dd fs gs (unlend_go s g) e3 ?_ (unlend_rdf s g q.1 rf) q.2
    unfold unlend
    split
    · rename_i z
      rcases lent_obj s z with ⟨ys, y⟩ | ⟨ys, y⟩
      · have := g.ss dd _ ((lend_cell z).trans y)
        rw [hd] at this; cases this
      · have := g.ss dd _ ((lend_cell z).trans y)
        rw [hd] at this; cases this
    · exact hd
theorem FnM.lentN {P : Program} {w : World} {K : PySem.W.Frag} {mg : Str → Option Value} {base : Heap} {k : Nat} {f : Addr} {fd : FuncData} {ps : List Str} {sp : MSp} (G : FnM P w K mg base k f fd ps sp) : FnM P w K mg base k f fd ps (spN sp) :=
  ⟨fun ds h Q E s => by have := G.len _ _ _ _ s; rw [List.length_map] at this; exact this, fun A outer s H args us vs Q E hr e0 hb r l => G.run A outer s H args us vs Q E hr e0 hb r (spN_lift l)⟩
@[simp] theorem s_lentN {sp : MSp} {ds : List D} {h : MH} {Q : MQ} {E : XQ} : spN sp ds h Q E = sp (ds.map (frzN h 4)) (fun _ => none) (lentQ Q h) (lentE E h) := (rfl)
end BP

set_option maxRecDepth 100000
set_option maxHeartbeats 4000000
namespace BP
open PySem PySem.Spec
section
variable {M : Model} {A : Around} {E : Value → Shared → Prop} {h : Heap} {g : Array GenState} {d : Drawn} {t : Nat} {os : OsState}
variable {nm q : Str} {C N : Addr} {bs bm bmB : List Value} {hdct : Bool} {sn : List Str} {sub : List Value} {ab : Bool} {col : Option Bool} {dd : Option Addr} {k0 k1 k2 k3 k5 : Option Value} {B newId initId : String}
end
section
variable {prog : Program} {w : World} {A : Around} {E : Value → Shared → Prop} {R : Result → Shared → Prop} {h : Heap} {g : Array GenState} {d : Drawn} {t : Nat} {os : OsState}
variable {nm q : Str} {C N : Addr} {bs bm bmB : List Value} {hdct : Bool} {sn : List Str} {sub : List Value} {ab : Bool} {col : Option Bool} {dd : Option Addr} {k0 k1 k2 k3 k5 : Option Value} {B newId initId : String}
end
end BP
namespace BP
open PySem PySem.Spec PyProof.Rows L2
structure XKw (K : PySem.W.Frag) (fI : Addr) (fs : List Str) : Prop where
  b : ∀ (fd : FuncData) (oc : Value) (od : Option Addr) (osl : Array (Option Value)), K.lookup fI = some ⟨oc, od, .func fd, osl⟩ → ∀ (x : Value) (us : List Value), us.length = fs.length → bindArgs fd ⟨[x], (fs.zip us).reverse⟩ = pure (((("self" : Str)) :: fs).zip (x :: us))
structure XAll (K : PySem.W.Frag) (C : Addr) : Prop where
  ex : PySem.W.subIn K (.ref C) (.type "BaseException") = some true
  gt : XGet K C
  is : XIs K C
section
variable {X : Cx} {B : Bs} {e c : Expr} {es : List Expr} {kws : List Keyword} {te : WE} {wa wk : WA} {n : String} {C fI : Addr} {fs ks : List Str} {k : Nat} {p pos : Pos} {xc : String → Addr} {known : String → Bool} {pins : List (Addr × Obj)} {σ : L2.St} {H1 : Hp}
def wExV (xc : String → Addr) (n : String) (fs : List Str) (wa : WA) : WE := fun σ h Q => wa σ h fun ds h1 => ds.length = fs.length ∧ ds.length ≤ 1000 ∧ ∀ p, h1 p = none → Q (.ref p) (mupd h1 p (.exv (xc n) n (fs.zip ds)))
def wExVr (xc : String → Addr) (n : String) (fs : List Str) (wa : WA) : WE := fun σ h Q => wa σ h fun ds h1 => ds.length = fs.length ∧ ds.length ≤ 1000 ∧ ∀ p, h1 p = none → Q (.ref p) (mupd h1 p (.exv (xc n) n (fs.zip ds.reverse)))
def wIsV (xc : String → Addr) (known r : String → Bool) (te : WE) : WE := fun σ h Q => te σ h fun x h1 => match x with
  | .ref p => match h1 p with
    | some (.exv C n _) => C = xc n ∧ known n = true ∧ Q (.bl (r n)) h1
    | _ => False
  | _ => False
def wFlV (xc : String → Addr) (hasF : String → Bool) (f : Str) (te : WE) : WE := fun σ h Q => te σ h fun x h1 => match x with
  | .ref p => match h1 p with
    | some (.exv C n fs) => C = xc n ∧ hasF n = true ∧ (match fs.lookup f with | some v => Q v h1 | none => False)
    | _ => False
  | _ => False
end
def fCntB (x : D) (ds : List D) (h : MH) (Q : MQ) : Prop := match lsOf h x, ds with
  | some xs, [.bl k] => match bls xs with
    | some bs => Q (.int (bs.count k : Nat)) h
    | none => False
  | _, _ => False
@[simp] theorem o_cntB {k : Bool} {xs : List D} {h : MH} {Q : MQ} : fCntB (.lst xs) [.bl k] h Q = match bls xs with
    | some bs => Q (.int (bs.count k : Nat)) h
    | none => False := (rfl)
def NewAt (h : MH) (p : Addr) (c : Cell) (h' : MH) : Prop := h p = none ∧ h' = mupd h p c
theorem newAt_all {h : MH} {c : Cell} {K : Addr → MH → Prop} : (∀ p, h p = none → K p (mupd h p c)) = ∀ p h', NewAt h p c h' → K p h' := propext ⟨fun k p h' ⟨a, b⟩ => b ▸ k p a, fun k p a => k p _ ⟨a, rfl⟩⟩
@[simp] theorem r_exV {xc : String → Addr} {n : String} {fs : List Str} {wa : WA} {σ : MSt} {h : MH} {Q : MQ} : wExV xc n fs wa σ h Q = wa σ h fun ds h1 => ds.length = fs.length ∧ ds.length ≤ 1000 ∧ ∀ p h', NewAt h1 p (.exv (xc n) n (fs.zip ds)) h' → Q (.ref p) h' := by
  unfold wExV
  simp only [newAt_all (K := fun p h' => Q (.ref p) h')]
@[simp] theorem r_exVr {xc : String → Addr} {n : String} {fs : List Str} {wa : WA} {σ : MSt} {h : MH} {Q : MQ} : wExVr xc n fs wa σ h Q = wa σ h fun ds h1 => ds.length = fs.length ∧ ds.length ≤ 1000 ∧ ∀ p h', NewAt h1 p (.exv (xc n) n (fs.zip ds.reverse)) h' → Q (.ref p) h' := by
  unfold wExVr
  simp only [newAt_all (K := fun p h' => Q (.ref p) h')]
def isV (xc : String → Addr) (known r : String → Bool) (x : D) (h : MH) (Q : MQ) : Prop := match x with
  | .ref p => match h p with
    | some (.exv C n _) => C = xc n ∧ known n = true ∧ Q (.bl (r n)) h
    | _ => False
  | _ => False
@[simp] theorem r_isV {xc : String → Addr} {known r : String → Bool} {te : WE} {σ : MSt} {h : MH} {Q : MQ} : wIsV xc known r te σ h Q = te σ h fun x h1 => isV xc known r x h1 Q := (rfl)
def flV (xc : String → Addr) (hasF : String → Bool) (f : Str) (x : D) (h : MH) (Q : MQ) : Prop := match x with
  | .ref p => match h p with
    | some (.exv C n fs) => C = xc n ∧ hasF n = true ∧ (match fs.lookup f with | some v => Q v h | none => False)
    | _ => False
  | _ => False
@[simp] theorem r_flV {xc : String → Addr} {hasF : String → Bool} {f : Str} {te : WE} {σ : MSt} {h : MH} {Q : MQ} : wFlV xc hasF f te σ h Q = te σ h fun x h1 => flV xc hasF f x h1 Q := (rfl)
end BP

set_option maxRecDepth 100000
set_option maxHeartbeats 4000000
namespace BP
open PySem PySem.Spec PyProof.Rows L2 LamX
section
variable {K : PySem.W.Frag} {F H : Hp} {c : Addr} {φ : Heap → Prop}
theorem rd_del {a : Addr} {u : HO} (e : F c = some (.ext φ)) (nu : ∀ ψ, u ≠ .ext ψ) (h : Rd F a u) : Rd (delH F c) a u := by
  rcases h with h | ⟨o, h⟩
  · left
    rw [delH_ne (by rintro rfl; rw [e] at h; cases h; exact nu _ rfl)]
    exact h
  · right
    refine ⟨o, ?_⟩
    rw [delH_ne (by rintro rfl; rw [e] at h; cases h)]
    exact h
theorem sqL_del {a : Addr} {xs : List V} (e : F c = some (.ext φ)) (h : SqL K F a xs) : SqL K (delH F c) a xs := by
  rcases h with h | h
  · exact .inl (rd_del e (fun _ z => nomatch z) h)
  · exact .inr h
theorem at_del {a : Addr} {u : HO} (e : F c = some (.ext φ)) (nu : ∀ ψ, u ≠ .ext ψ) (h : F a = some u) : delH F c a = some u := by
  rw [delH_ne (by rintro rfl; rw [e] at h; cases h; exact nu _ rfl)]
  exact h
theorem sqT_del {a : Addr} {xs : List V} (e : F c = some (.ext φ)) (h : SqU K F a xs) : SqU K (delH F c) a xs := by
  rcases h with h | h
  · exact .inl (at_del e (fun _ z => nomatch z) h)
  · exact .inr h
theorem ne_lst (xs : List V) (ψ : Heap → Prop) : HO.lst xs ≠ .ext ψ := fun z => nomatch z
theorem ne_dK (xs : List (Key × V)) (ψ : Heap → Prop) : HO.dK xs ≠ .ext ψ := fun z => nomatch z
theorem ne_frz (o : Obj) (u : HO) (ψ : Heap → Prop) : HO.frz o u ≠ .ext ψ := fun z => nomatch z
theorem ne_xd (xs : List (Str × V)) (ψ : Heap → Prop) : HO.xd xs ≠ .ext ψ := fun z => nomatch z
end
section
variable {K : PySem.W.Frag} {F : Hp} {c : Addr} {φ : Heap → Prop}
mutual
theorem RD.del (e : F c = some (.ext φ)) : ∀ {d : D} {v : V}, RD K F d v → RD K (delH F c) d v
  | _, _, .non => .non
  | _, _, .bl b => .bl b
  | _, _, .int i => .int i
  | _, _, .str x => .str x
  | _, _, .ty n => .ty n
  | _, _, .ref a => .ref a
  | _, _, .tup h r => .tup (sqT_del e h) (RDs.del e r)
  | _, _, .lst h r => .lst (at_del e (ne_lst _) h) (RDs.del e r)
  | _, _, .scr h => .scr (sqL_del e h)
  | _, _, .dct h r => .dct (at_del e (ne_dK _) h) (RDk.del e r)
  | _, _, .dcl h r => .dcl (at_del e (ne_frz _ _) h) (RDk.del e r)
  | _, _, .exc h r => .exc (at_del e (ne_xd _) h) (RDf.del e r)
theorem RDs.del (e : F c = some (.ext φ)) : ∀ {d : List D} {v : List V}, RDs K F d v → RDs K (delH F c) d v
  | _, _, .nil => .nil
  | _, _, .cons h r => .cons (RD.del e h) (RDs.del e r)
theorem RDk.del (e : F c = some (.ext φ)) : ∀ {d : List (Key × D)} {v : List (Key × V)}, RDk K F d v → RDk K (delH F c) d v
  | _, _, .nil => .nil
  | _, _, .cons h r => .cons (RD.del e h) (RDk.del e r)
theorem RDf.del (e : F c = some (.ext φ)) : ∀ {d : List (Str × D)} {v : List (Str × V)}, RDf K F d v → RDf K (delH F c) d v
  | _, _, .nil => .nil
  | _, _, .cons h r => .cons (RD.del e h) (RDf.del e r)
end
end
section
variable {K : PySem.W.Frag} {F H : Hp} {c : Addr} {φ : Heap → Prop}
theorem RDt.del (e : F c = some (.ext φ)) : ∀ {d : List (List Key × D)} {v : List (List Key × V)}, RDt K F d v → RDt K (delH F c) d v
  | _, _, .nil => .nil
  | _, _, .cons h r => .cons (h.del e) (RDt.del e r)
theorem cellR_del {a : Addr} {k : Cell} (eF : F c = some (.ext φ)) (ac : a ≠ c) (nc : ∀ q, HO.ext φ ≠ CodeO c q) (x : CellR K F H a k) : CellR K (delH F c) (delH H c) a k := by
  have t : ∀ {u}, H a = some u → delH H c a = some u := fun {u} h => by rw [delH_ne ac]; exact h
  cases k with
  | lst ds => obtain ⟨xs, h, r⟩ := x; exact ⟨xs, t h, r.del eF⟩
  | dct ds => obtain ⟨xs, h, r⟩ := x; exact ⟨xs, t h, r.del eF⟩
  | dcT ds => obtain ⟨xs, h, r⟩ := x; exact ⟨xs, t h, r.del eF⟩
  | ins C fs => obtain ⟨dx, gs, h, r⟩ := x; exact ⟨dx, gs, t h, r.del eF⟩
  | exv C n fs => obtain ⟨dd, gs, h, f, r⟩ := x; exact ⟨dd, gs, t h, at_del eF (fun _ z => nomatch z) f, r.del eF⟩
  | tbl q =>
    obtain ⟨ps, h, tr, r⟩ := x
    refine ⟨ps, t h, tr, fun pos cv z => ?_⟩
    obtain ⟨c0, e1, e2⟩ := r pos cv z
    refine ⟨c0, e1, ?_⟩
    rw [delH_ne (by rintro rfl; rw [eF] at e2; exact nc q (Option.some.inj e2))]
    exact e2
theorem SR.del {h : MH} (s : SR K F H h) (eF : F c = some (.ext φ)) (nc : ∀ q, HO.ext φ ≠ CodeO c q) : SR K (delH F c) (delH H c) h := by
  refine ⟨fun a o e => ?_, fun a k e => ?_⟩
  · have ac : a ≠ c := by rintro rfl; rw [delH_same] at e; cases e
    rw [delH_ne ac] at e ⊢
    exact s.fr a o e
  · obtain ⟨f, r⟩ := s.cell a k e
    have ac : a ≠ c := by rintro rfl; rw [eF] at f; cases f
    exact ⟨by rw [delH_ne ac]; exact f, cellR_del eF ac nc r⟩
theorem SR.pin {h : MH} {o : HO} (s : SR K F H h) (nH : H c = none) : SR K (upd F c o) (upd H c o) h := (Go.settled s nH).sr
theorem Go.del {h h3 : MH} {F3 H3 : Hp} (nF : F c = none) (nH : H c = none) (nc : ∀ q, HO.ext φ ≠ CodeO c q) (g : Go K (upd F c (.ext φ)) (upd H c (.ext φ)) h F3 H3 h3) : Go K F H h (delH F3 c) (delH H3 c) h3 := by
  refine ⟨fun a o e => ?_, fun a o e f m => ?_, g.sr.del (g.ss _ _ upd_same) nc⟩
  · have ac : a ≠ c := by rintro rfl; rw [nF] at e; cases e
    rw [delH_ne ac]
    exact g.ss a o (by rw [upd_ne ac]; exact e)
  · have ac : a ≠ c := by rintro rfl; rw [nH] at e; cases e
    obtain ⟨x, y, z⟩ := g.hid a o (by rw [upd_ne ac]; exact e) (by rw [upd_ne ac]; exact f) m
    exact ⟨by rw [delH_ne ac]; exact x, y, by rw [delH_ne ac]; exact z⟩
theorem Go.again {h h3 : MH} {F3 H3 : Hp} (eF : F c = some (.ext φ)) (n3 : H3 c = none) (g : Go K (delH F c) (delH H c) h F3 H3 h3) : Go K F H h (upd F3 c (.ext φ)) (upd H3 c (.ext φ)) h3 := by
  refine ⟨fun a o e => ?_, fun a o e f m => ?_, g.sr.pin n3⟩
  · by_cases ac : a = c
    · rw [ac] at e ⊢
      rw [eF] at e
      rw [upd_same]; exact e
    · rw [upd_ne ac]
      exact g.ss a o (by rw [delH_ne ac]; exact e)
  · have ac : a ≠ c := by rintro rfl; rw [eF] at f; cases f
    obtain ⟨x, y, z⟩ := g.hid a o (by rw [delH_ne ac]; exact e) (by rw [delH_ne ac]; exact f) m
    exact ⟨by rw [upd_ne ac]; exact x, y, by rw [upd_ne ac]; exact z⟩
end
section
variable {P : Program} {w : World} {K : PySem.W.Frag} {mg : Str → Option Value} {base : Heap} {A : Around} {outer : List Env} {s : Shared} {H : Hp} {a : Addr}
end
section
variable {X : Cx} {pins : List (Addr × Obj)} {σ : L2.St} {H G : Hp} {s s1 : Shared}
end
abbrev LTlA := D → D → MH → MQ → Prop
abbrev LSpA := LTlA → D → MH → MQ → XQ → Prop
def wActA (i : Nat) (f : Addr) (tl : LTlA) (wa : WA) : WE := fun σ h Q => σ[i]? = some (some (.ref f)) ∧ wa σ h fun ds h1 => match ds with
  | [x, y] => tl x y h1 Q
  | _ => False
def wLamA (P : Addr) (q : Str) (sp : LSpA) (te t : WE) : WE := fun σ h Q => te σ h fun d h1 => h1 P = some (.tbl q) ∧ sp (fun x y h' Q' => t (σ ++ [some x, some y]) h' Q') d h1 Q (fun _ _ _ => False)
section
variable {X : Cx} {pins : List (Addr × Obj)} {σ : L2.St} {H : Hp} {s : Shared}
end
section
variable {X : Cx} {B : Bs} {Es : MSt → XQ}
end
section
variable {X : Cx} {B : Bs} {e : Expr} {es : List Expr} {wa : WA} {pos p : Pos} {C f : Addr} {x : Str} {k n : Nat} {fd : FuncData} {ps : List Str} {sp : MSp} {Es : MSt → XQ} {dds : List D} {g : {α : Type} → List α → List α → List α → List α}
def wMakeG (C : Addr) (sp : MSp) (Es : MSt → XQ) (n : Nat) (dds : List D) (g : {α : Type} → List α → List α → List α → List α) (wa : WA) : WE := fun σ h Q => wa σ h fun ds h1 => ds.length + 1 = n ∧ ∀ a, h1 a = none → sp (g (.ref a :: ds) dds []) (mupd h1 a (.ins C [])) (fun v h2 => v = .non ∧ Q (.ref a) h2) (Es σ)
@[simp] theorem r_makeG {σ : MSt} {h : MH} {Q : MQ} : wMakeG C sp Es n dds g wa σ h Q = wa σ h fun ds h1 => ds.length + 1 = n ∧ ∀ a, h1 a = none → sp (g (.ref a :: ds) dds []) (mupd h1 a (.ins C [])) (fun v h2 => v = .non ∧ Q (.ref a) h2) (Es σ) := (rfl)
end
@[simp] theorem r_actA {i : Nat} {f : Addr} {tl : LTlA} {wa : WA} {σ : MSt} {h : MH} {Q : MQ} : wActA i f tl wa σ h Q = (σ[i]? = some (some (.ref f)) ∧ wa σ h fun ds h1 => match ds with
  | [x, y] => tl x y h1 Q
  | _ => False) := (rfl)
@[simp] theorem r_lamA {P : Addr} {q : Str} {sp : LSpA} {te t : WE} {σ : MSt} {h : MH} {Q : MQ} : wLamA P q sp te t σ h Q = te σ h fun d h1 => h1 P = some (.tbl q) ∧ sp (fun x y h' Q' => t (σ ++ [some x, some y]) h' Q') d h1 Q (fun _ _ _ => False) := (rfl)
end BP

set_option maxRecDepth 100000
set_option maxHeartbeats 4000000
namespace BP
open PySem PySem.Spec PyProof.Rows L2
structure FnN (P : Program) (w : World) (K : PySem.W.Frag) (mg : Str → Option Value) (base : Heap) (k : Nat) (f : Addr) (fd : FuncData) (ps : List Str) (sp : MSp) : Prop where
  len : ∀ ds h Q E, sp ds h Q E → ds.length = ps.length
  goes : ∀ (A : Around) (outer : List Env) (s : Shared) (H : Hp) (args : Args) (us : List Value) (vs : List V) (Q : VK) (E : XK), Rm k A → Env0 P w K mg base A outer s H → BindsTo s fd args (ps.zip us) → Vals vs us → liftSp K mg sp vs H Q E →
    codeAny (model P w) A (.call (.ref f) args) (CR (L2N.CX P w) outer P w H s Q E) s
section
variable {X : Cx} {B : Bs} {e o : Expr} {es : List Expr} {to : WE} {wa : WA} {pos p apos : Pos} {k : Nat} {C f : Addr} {fd : FuncData} {ps : List Str} {sp : MSp} {x m : Str} {Es : MSt → XQ}
end
section
variable {X : Cx} {B : Bs} {e : Expr} {es : List Expr} {ta : TA} {wa : WA} {n : String} {C fI : Addr} {fs : List Str} {k : Nat} {p pos pos2 : Pos} {Es : MSt → XQ}
end
section
variable {X : Cx} {B : Bs} {a : Addr} {pn : List (Addr × Obj)} {xe : Value → Shared → Prop} {e : Expr} {es : List Expr} {te : WE} {wa : WA}
end
section
variable {X : Cx} {pins : List (Addr × Obj)} {σ : L2.St} {H : Hp} {s : Shared}
end
section
variable {M : Model} {A A' : Around} {E E1 : Value → Shared → Prop} {s : Shared} {Z : Obj → Prop} {base : Heap} {env : Env} {outer : List Env} {L a : Addr}
end
section
variable {X : Cx} {W0 : WX} {n : Str} {i : Nat} {p2 : Pos} {a : Addr} {ob : Obj} {pins : List (Addr × Obj)}
end
section
variable {X : Cx} {known : String → Bool}
end
end BP

set_option maxRecDepth 100000
set_option maxHeartbeats 4000000
namespace BP
open PySem PySem.Spec PyProof.Rows L2
section
variable {X : Cx} {B : Bs} {a b e o : Expr} {es : List Expr} {ta tb te to : WE} {wa : WA} {pos p apos : Pos}
def fStrI (ds : List D) (h : MH) (Q : MQ) : Prop := match ds with
  | [.int i] => i.natAbs.log2 < 1920 ∧ Q (.str (toString i)) h
  | _ => False
def fIntS (ds : List D) (h : MH) (Q : MQ) : Prop := match ds with
  | [.str x] => match PySem.intText? x with
    | some n => x.length ≤ 640 ∧ Q (.int n) h
    | none => False
  | _ => False
def wM1 (f : Str → D → MH → MQ → Prop) (to te : WE) : WE := fun σ h Q => to σ h fun x h1 => match x with
  | .str a => te σ h1 fun y h2 => f a y h2 Q
  | _ => False
def fSplit (a : Str) (y : D) (h : MH) (Q : MQ) : Prop := match y with
  | .str b => ((b.length == 0) = false ∧ a.length + 2 ≤ sizeLine) ∧ Q (.lst ((Txt.split a b).map .str)) h
  | _ => False
def wFmt (t : WE) : WE := fun σ h Q => t σ h fun d h1 => match d with
  | .str y => y.length ≤ sizeLine ∧ Q (.str y) h1
  | .int i => i.natAbs.log2 < 1920 ∧ Q (.str (toString i)) h1
  | _ => False
def wJs : List WE → Str → MSt → MH → (Str → MH → Prop) → Prop
  | [], acc, _, h, Q => Q acc h
  | t :: ts, acc, σ, h, Q => t σ h fun x h1 => match x with
    | .str y => (acc ++ y).length ≤ sizeLine ∧ wJs ts (acc ++ y) σ h1 Q
    | _ => False
def wFs (ts : List WE) : WE := fun σ h Q => wJs ts Str.empty σ h fun out h1 => Q (.str out) h1
inductive MJ (X : Cx) (B : Bs) : List Expr → List WE → Prop where
  | nil : MJ X B [] []
  | cons {e : Expr} {t : WE} {es : List Expr} {ts : List WE} (h : ME X B e t) (r : MJ X B es ts) : MJ X B (e :: es) (t :: ts)
def opInS (neg : Bool) (x y : D) (h : MH) (Q : MQ) : Prop := match x, y with
  | .str a, .str z => ∃ c, a.cps.toList = [c] ∧ Q (.bl (if neg then !decide (c ∈ z.cps.toList) else decide (c ∈ z.cps.toList))) h
  | _, _ => False
def sgn (c : Nat) : D := .str ⟨#[c]⟩
def wItS (t : WE) : WI := fun σ h Q => t σ h fun d h1 => match d with
  | .str x => Q (x.cps.toList.map sgn) h1
  | _ => False
def opIxS (x y : D) (h : MH) (Q : MQ) : Prop := match x, y with
  | .str z, .int i => match atI z.cps.toList i with
    | some c => z.length ≤ sizeLine ∧ Q (sgn c) h
    | none => False
  | _, _ => False
def wAugS (i : Nat) (t : WE) : WS := fun D σ h => match σ[i]? with
  | some (some (.str x)) => t σ h fun d h1 => match d with
    | .str y => x.length + y.length ≤ sizeLine ∧ D.nx (σ.set i (some (.str (x ++ y)))) h1
    | _ => False
  | _ => False
variable {σ : MSt} {h : MH} {Q : MQ} {ts : List WE} {acc : Str} {R : Str → MH → Prop} {i : Nat} {D0 : MEnds}
@[simp] theorem r_m1 {f : Str → D → MH → MQ → Prop} : wM1 f to te σ h Q = to σ h fun x h1 => match x with
  | .str a => te σ h1 fun y h2 => f a y h2 Q
  | _ => False := (rfl)
@[simp] theorem o_strI {i : Int} : fStrI [.int i] h Q = (i.natAbs.log2 < 1920 ∧ Q (.str (toString i)) h) := (rfl)
@[simp] theorem o_intS {x : Str} : fIntS [.str x] h Q = match PySem.intText? x with
    | some n => x.length ≤ 640 ∧ Q (.int n) h
    | none => False := (rfl)
@[simp] theorem o_split {a b : Str} : fSplit a (.str b) h Q = (((b.length == 0) = false ∧ a.length + 2 ≤ sizeLine) ∧ Q (.lst ((Txt.split a b).map .str)) h) := (rfl)
@[simp] theorem r_fmt : wFmt te σ h Q = te σ h fun d h1 => match d with
  | .str y => y.length ≤ sizeLine ∧ Q (.str y) h1
  | .int i => i.natAbs.log2 < 1920 ∧ Q (.str (toString i)) h1
  | _ => False := (rfl)
@[simp] theorem r_fs : wFs ts σ h Q = wJs ts Str.empty σ h fun out h1 => Q (.str out) h1 := (rfl)
@[simp] theorem r_js0 : wJs [] acc σ h R = R acc h := (rfl)
@[simp] theorem r_js1 : wJs (te :: ts) acc σ h R = te σ h fun x h1 => match x with
    | .str y => (acc ++ y).length ≤ sizeLine ∧ wJs ts (acc ++ y) σ h1 R
    | _ => False := (rfl)
@[simp] theorem o_inS {n : Bool} {a z : Str} : opInS n (.str a) (.str z) h Q = ∃ c, a.cps.toList = [c] ∧ Q (.bl (if n then !decide (c ∈ z.cps.toList) else decide (c ∈ z.cps.toList))) h := (rfl)
@[simp] theorem r_itS {R : List D → MH → Prop} : wItS te σ h R = te σ h fun d h1 => match d with
  | .str x => R (x.cps.toList.map sgn) h1
  | _ => False := (rfl)
@[simp] theorem o_ixS {z : Str} {i : Int} : opIxS (.str z) (.int i) h Q = match atI z.cps.toList i with
    | some c => z.length ≤ sizeLine ∧ Q (sgn c) h
    | none => False := (rfl)
@[simp] theorem r_augS : wAugS i te D0 σ h = match σ[i]? with
  | some (some (.str x)) => te σ h fun d h1 => match d with
    | .str y => x.length + y.length ≤ sizeLine ∧ D0.nx (σ.set i (some (.str (x ++ y)))) h1
    | _ => False
  | _ => False := (rfl)
end
end BP

set_option maxRecDepth 100000
set_option maxHeartbeats 4000000
namespace BP
open PySem PySem.Spec PyProof.Rows L2
section
variable {X : Cx} {B : Bs} {a b e o : Expr} {es : List Expr} {ta tb te to : WE} {wa : WA} {pos p apos cpos : Pos}
def mergeD (kvs more : List (Key × D)) : List (Key × D) := more.foldl (fun acc kv => putD acc kv.1 kv.2) kvs
def fUpdD (x : D) (ds : List D) (h : MH) (Q : MQ) : Prop := match x, ds with
  | .ref a, [.dct more] => match h a with
    | some (.dct kvs) => kvs.length + more.length ≤ sizeLine ∧ Q .non (mupd h a (.dct (mergeD kvs more)))
    | _ => False
  | _, _ => False
def wUpdD (to : WE) (wa : WA) : WE := fun σ h Q => to σ h fun x h1 => (∃ a kvs, x = .ref a ∧ h1 a = some (.dct kvs)) ∧ wa σ h1 fun ds h2 => fUpdD x ds h2 Q
def wPairs : List (WE × WE) → MSt → MH → List (Key × D) → (List (Key × D) → MH → Prop) → Prop
  | [], _, h, acc, Q => Q acc h
  | (tk, tv) :: r, σ, h, acc, Q => tk σ h fun x h1 => tv σ h1 fun y h2 => match keyD x with
    | some k => wPairs r σ h2 (acc ++ [(k, y)]) Q
    | none => False
def wDisp (ts : List (WE × WE)) : WE := fun σ h Q => wPairs ts σ h [] fun kvs h1 => kvs.length ≤ 15 ∧ ∀ p, h1 p = none → Q (.ref p) (mupd h1 p (.dct (mergeD [] kvs)))
inductive MPs (X : Cx) (B : Bs) (pos : Pos) : List (Option Expr) → List Expr → List (WE × WE) → Prop where
  | nil : MPs X B pos [] [] []
  | cons {k v : Expr} {ks : List (Option Expr)} {vs : List Expr} {tk tv : WE} {ts : List (WE × WE)} (hk : ME X B k tk) (hv : ME X B v tv) (r : MPs X B pos ks vs ts) : MPs X B pos (some k :: ks) (v :: vs) ((tk, tv) :: ts)
def wDcGo (put : MSt → D → Option MSt) (tt : WT) (tk tv : WE) (σ : MSt) : List D → List (Key × D) → MH → (List (Key × D) → MH → Prop) → Prop
  | [], acc, h, Q => Q acc h
  | d :: ds, acc, h, Q => match put σ d with
    | some σ2 => tt σ2 h fun b h3 => if b = true then tk σ2 h3 fun y h4 => tv σ2 h4 fun z h5 => match keyD y with
        | some k => acc.length < sizeLine ∧ wDcGo put tt tk tv σ ds (putD acc k z) h5 Q
        | none => False
      else wDcGo put tt tk tv σ ds acc h3 Q
    | none => False
def wDc (wi : WI) (put : MSt → D → Option MSt) (tt : WT) (tk tv : WE) (vs : List Nat) : WE := fun σ h Q => wi σ h fun ds h1 => wDcGo put tt tk tv (mwipe σ vs) ds [] h1 fun acc h2 => Q (.dct acc) h2
def evens {α : Type} (xs : List α) : List α := (sliceRange 0 xs.length 2).filterMap (xs[·]?)
def unEv (x : D) (h : MH) (Q : MQ) : Prop := match lsOf h x with
  | some xs => Q (.lst (evens xs)) h
  | none => False
def opSlM (x : D) (lo hi : Option Int) (h : MH) (Q : MQ) : Prop := match lsOf h x with
  | some xs => ∀ p, h p = none → Q (.ref p) (mupd h p (.lst (cut xs lo hi)))
  | none => False
def wSlM (ta : WE) (tl th : WO) : WE := fun σ h Q => ta σ h fun x h1 => tl σ h1 fun lo h2 => th σ h2 fun hi h3 => opSlM x lo hi h3 Q
variable {σ : MSt} {h : MH} {Q : MQ} {i : Nat} {D0 : MEnds} {tl th : WO} {ts : List (WE × WE)} {acc : List (Key × D)} {R : List (Key × D) → MH → Prop}
@[simp] theorem r_updD : wUpdD to wa σ h Q = to σ h fun x h1 => (∃ a kvs, x = .ref a ∧ h1 a = some (.dct kvs)) ∧ wa σ h1 fun ds h2 => fUpdD x ds h2 Q := (rfl)
@[simp] theorem o_updD {a : Addr} {more : List (Key × D)} : fUpdD (.ref a) [.dct more] h Q = match h a with
    | some (.dct kvs) => kvs.length + more.length ≤ sizeLine ∧ Q .non (mupd h a (.dct (mergeD kvs more)))
    | _ => False := (rfl)
@[simp] theorem r_disp : wDisp ts σ h Q = wPairs ts σ h [] fun kvs h1 => kvs.length ≤ 15 ∧ ∀ p, h1 p = none → Q (.ref p) (mupd h1 p (.dct (mergeD [] kvs))) := (rfl)
@[simp] theorem r_pairs0 : wPairs [] σ h acc R = R acc h := (rfl)
@[simp] theorem r_pairs1 {tk tv : WE} : wPairs ((tk, tv) :: ts) σ h acc R = tk σ h fun x h1 => tv σ h1 fun y h2 => match keyD x with
    | some k => wPairs ts σ h2 (acc ++ [(k, y)]) R
    | none => False := (rfl)
@[simp] theorem r_dc {wi : WI} {put : MSt → D → Option MSt} {tt : WT} {tk tv : WE} {vs : List Nat} : wDc wi put tt tk tv vs σ h Q = wi σ h fun ds h1 => wDcGo put tt tk tv (mwipe σ vs) ds [] h1 fun acc h2 => Q (.dct acc) h2 := (rfl)
@[simp] theorem o_ev {xs : List D} : unEv (.lst xs) h Q = Q (.lst (evens xs)) h := (rfl)
@[simp] theorem r_slM : wSlM ta tl th σ h Q = ta σ h fun x h1 => tl σ h1 fun lo h2 => th σ h2 fun hi h3 => opSlM x lo hi h3 Q := (rfl)
@[simp] theorem o_slM {xs : List D} {lo hi : Option Int} : opSlM (.lst xs) lo hi h Q = ∀ p, h p = none → Q (.ref p) (mupd h p (.lst (cut xs lo hi))) := (rfl)
end
end BP

set_option maxRecDepth 100000
set_option maxHeartbeats 4000000
namespace BP
open PySem PySem.Spec PyProof.Rows L2
section
variable {X : Cx} {B : Bs} {a b e o : Expr} {ta tb te to : WE} {pos p apos : Pos}
def wM0 (f : Str → MH → MQ → Prop) (to : WE) : WE := fun σ h Q => to σ h fun x h1 => match x with
  | .str a => f a h1 Q
  | _ => False
def fDig (a : Str) (h : MH) (Q : MQ) : Prop := Q (.bl (Txt.isdigit a)) h
def fLow (a : Str) (h : MH) (Q : MQ) : Prop := a.length ≤ 5592405 ∧ Q (.str (Txt.lower a)) h
end
section
variable {to : WE} {σ : MSt} {h : MH} {Q : MQ}
@[simp] theorem r_m0 {f : Str → MH → MQ → Prop} : wM0 f to σ h Q = to σ h fun x h1 => match x with
  | .str a => f a h1 Q
  | _ => False := (rfl)
@[simp] theorem o_dig {a : Str} : fDig a h Q = Q (.bl (Txt.isdigit a)) h := (rfl)
@[simp] theorem o_low {a : Str} : fLow a h Q = (a.length ≤ 5592405 ∧ Q (.str (Txt.lower a)) h) := (rfl)
end
end BP

set_option maxRecDepth 100000
set_option maxHeartbeats 1000000
namespace BP
open PySem PySem.Spec PyProof.Rows L2
section
variable {X : Cx}
end
def opMulL (x y : D) (h : MH) (Q : MQ) : Prop := match x, y with
  | .tup a, .int k => (a ≠ [] ∧ 2 ≤ k ∧ a.length * k.toNat ≤ 1000000) ∧ Q (.tup (List.replicate k.toNat a).flatten) h
  | _, _ => False
@[simp] theorem o_mulLT {a : List D} {k : Int} {h : MH} {Q : MQ} : opMulL (.tup a) (.int k) h Q = ((a ≠ [] ∧ 2 ≤ k ∧ a.length * k.toNat ≤ 1000000) ∧ Q (.tup (List.replicate k.toNat a).flatten) h) := (rfl)
end BP

set_option maxRecDepth 100000
set_option maxHeartbeats 1000000
namespace BP
open PySem PySem.Spec PyProof.Rows L2
section
variable {X : Cx} {B : Bs} {e : Expr} {te : TE} {sep y z : Str} {j0 j k : Nat} {c0 c1 c2 apos pos apos2 pos2 : Pos}
def wJoinR (sep y z : Str) (te : WE) : WE := fun σ h Q => te σ h fun d h1 => match sqOf h1 d with
  | some ds => match strsOf ds with
    | some ys => (ys.map (·.length)).sum + ys.length * sep.length ≤ 16777216 ∧ (Txt.join sep ys).length + ((Txt.join sep ys).length + 1) * z.length ≤ 16777216 ∧ Q (.str (Txt.replace (Txt.join sep ys) y z)) h1
    | none => False
  | none => False
@[simp] theorem r_joinR {te : WE} {σ : MSt} {h : MH} {Q : MQ} : wJoinR sep y z te σ h Q = te σ h fun d h1 => match sqOf h1 d with
  | some ds => match strsOf ds with
    | some ys => (ys.map (·.length)).sum + ys.length * sep.length ≤ 16777216 ∧ (Txt.join sep ys).length + ((Txt.join sep ys).length + 1) * z.length ≤ 16777216 ∧ Q (.str (Txt.replace (Txt.join sep ys) y z)) h1
    | none => False
  | none => False := (rfl)
def opSlS (x : D) (lo hi : Option Int) (h : MH) (Q : MQ) : Prop := match x with
  | .str z => z.length ≤ sizeLine ∧ Q (.str (cutS z lo hi)) h
  | _ => False
def wSlS (ta : WE) (tl th : WO) : WE := fun σ h Q => ta σ h fun x h1 => tl σ h1 fun lo h2 => th σ h2 fun hi h3 => opSlS x lo hi h3 Q
@[simp] theorem r_slS {ta : WE} {tl th : WO} {σ : MSt} {h : MH} {Q : MQ} : wSlS ta tl th σ h Q = ta σ h fun x h1 => tl σ h1 fun lo h2 => th σ h2 fun hi h3 => opSlS x lo hi h3 Q := (rfl)
@[simp] theorem o_slS {z : Str} {lo hi : Option Int} {h : MH} {Q : MQ} : opSlS (.str z) lo hi h Q = (z.length ≤ sizeLine ∧ Q (.str (cutS z lo hi)) h) := (rfl)
end
end BP

set_option maxRecDepth 100000
set_option maxHeartbeats 1000000
namespace BP
open PySem PySem.Spec PyProof.Rows L2
section
variable {K : PySem.W.Frag} {F : Hp}
end
def isFF : List Key → Bool
  | .inl 255 :: _ => true
  | _ => false
section
variable {X : Cx} {B : Bs} {o i v : Expr} {to ti tv : WE} {apos cpos pos pos' : Pos}
def opGetN (x y z : D) (h : MH) (Q : MQ) : Prop := match x, y with
  | .ref a, .tup ds => match keysD ds, h a with
    | some ks, some (.dcT kvs) => isFF ks = true ∧ Q ((atTk kvs ks).getD z) h
    | _, _ => False
  | _, _ => False
def isDt (h : MH) (x : D) : Prop := match x with
  | .ref a => match h a with
    | some (.dcT _) => True
    | _ => False
  | _ => False
def wGetN (to ti tv : WE) : WE := fun σ h Q => to σ h fun x h1 => isDt h1 x ∧ ti σ h1 fun y h2 => tv σ h2 fun z h3 => opGetN x y z h3 Q
def wPutN (to ti tv : WE) : WS := fun D σ h => tv σ h fun d h1 => to σ h1 fun x h2 => ti σ h2 fun y h3 => match x, y with
  | .ref a, .tup ds => match keysD ds, h3 a with
    | some ks, some (.dcT kvs) => (isFF ks = true ∧ kvs.length < sizeLine) ∧ D.nx σ (mupd h3 a (.dcT (putTk kvs ks d)))
    | _, _ => False
  | _, _ => False
end
section
variable {to ti tv : WE} {σ : MSt} {h : MH} {Q : MQ} {D0 : MEnds} {a : Addr} {ds : List D} {z : D}
@[simp] theorem r_getN : wGetN to ti tv σ h Q = to σ h fun x h1 => isDt h1 x ∧ ti σ h1 fun y h2 => tv σ h2 fun z h3 => opGetN x y z h3 Q := (rfl)
@[simp] theorem o_getN : opGetN (.ref a) (.tup ds) z h Q = match keysD ds, h a with
  | some ks, some (.dcT kvs) => isFF ks = true ∧ Q ((atTk kvs ks).getD z) h
  | _, _ => False := (rfl)
@[simp] theorem r_putN : wPutN to ti tv D0 σ h = tv σ h fun d h1 => to σ h1 fun x h2 => ti σ h2 fun y h3 => match x, y with
  | .ref a, .tup ds => match keysD ds, h3 a with
    | some ks, some (.dcT kvs) => (isFF ks = true ∧ kvs.length < sizeLine) ∧ D0.nx σ (mupd h3 a (.dcT (putTk kvs ks d)))
    | _, _ => False
  | _, _ => False := (rfl)
end
end BP

set_option maxRecDepth 100000
set_option maxHeartbeats 4000000
namespace BP
open PySem PySem.Spec PyProof.Rows L2 LamX
theorem Rm.in1 {k : Nat} {A : Around} (x : Rm (k + 1) A) : Rm k A.in1 := ⟨x.r.in1, x.g⟩
def pyD : D → Option PyData
  | .int i => some (.int i)
  | .str x => some (.str x)
  | .tup ds => (intsOf ds).map fun ns => .tuple (ns.map .int)
  | _ => none
section
variable {X : Cx} {pins : List (Addr × Obj)} {σ : L2.St} {H : Hp} {s : Shared}
end
def dcS : D → Option (List (Key × D))
  | .dct kvs => some kvs
  | .dcl kvs => some kvs
  | _ => none
def keysD' (kvs : List (Key × D)) : List D := kvs.map fun z => kD z.1
def wSortK (P : Addr) (q : Str) (ta : WA) (tk : WE) : WE := fun σ h Q => ta σ h fun ds h1 => match ds with
  | [d] => match dcS d with
    | some kvs => h1 P = some (.tbl q) ∧ ∃ (g : D → D) (kp : D → PyData), (kvs.length ≤ 1000000 ∧ (∀ x ∈ keysD' kvs, pyD (g x) = some (kp x) ∧ (kp x).depth ≤ 30) ∧ PySem.W.AllAlike ((keysD' kvs).map kp) ∧ PySem.W.Sortable ((keysD' kvs).map kp)) ∧
    (∀ x ∈ keysD' kvs, tk (σ ++ [some x]) h1 fun k h2 => k = g x ∧ h2 = h1) ∧ Q (.lst ((keysD' kvs).mergeSort (PySem.W.dataLe false kp))) h1
    | none => False
  | _ => False
section
variable {X : Cx} {B : Bs}
@[simp] theorem r_sortK {P : Addr} {q : Str} {ta : WA} {tk : WE} {σ : MSt} {h : MH} {Q : MQ} : wSortK P q ta tk σ h Q = ta σ h fun ds h1 => match ds with
  | [d] => match dcS d with
    | some kvs => h1 P = some (.tbl q) ∧ ∃ (g : D → D) (kp : D → PyData), (kvs.length ≤ 1000000 ∧ (∀ x ∈ keysD' kvs, pyD (g x) = some (kp x) ∧ (kp x).depth ≤ 30) ∧ PySem.W.AllAlike ((keysD' kvs).map kp) ∧ PySem.W.Sortable ((keysD' kvs).map kp)) ∧
    (∀ x ∈ keysD' kvs, tk (σ ++ [some x]) h1 fun k h2 => k = g x ∧ h2 = h1) ∧ Q (.lst ((keysD' kvs).mergeSort (PySem.W.dataLe false kp))) h1
    | none => False
  | _ => False := (rfl)
end
section
variable {X : Cx} {B : Bs}
def wFzL (i : Nat) (t : WS) : WS := fun D σ h => match σ[i]? with
  | some (some (.ref a)) => match h a with
    | some (.dct kvs) => t D (σ.set i (some (.dcl kvs))) (mdel h a)
    | _ => False
  | some (some (.dcl _)) => t D σ h
  | _ => False
def wFzVL (t : WE) : WE := fun σ h Q => t σ h fun d h1 => match d with
  | .ref a => match h1 a with
    | some (.dct kvs) => Q (.dcl kvs) (mdel h1 a)
    | _ => False
  | .dcl kvs => Q (.dcl kvs) h1
  | _ => False
def wItK (t : WE) : WI := fun σ h Q => t σ h fun d h1 => match d with
  | .dcl kvs => Q (keysD' kvs) h1
  | _ => False
def fSortDc (ds : List D) (h : MH) (Q : MQ) : Prop := match ds with
  | [d] => match dcS d with
    | some kvs => match intsOf (keysD' kvs) with
      | some ns => kvs.length ≤ 1000000 ∧ Q (.lst ((sortI ns).map .int)) h
      | none => False
    | none => False
  | _ => False
def fLenDs (ds : List D) (h : MH) (Q : MQ) : Prop := match ds with
  | [d] => match dcR h d with
    | some kvs => Q (.int kvs.length) h
    | none => False
  | _ => False
@[simp] theorem dcR_dcl {kvs : List (Key × D)} {h : MH} : dcR h (.dcl kvs) = some kvs := (rfl)
@[simp] theorem dcR_dct {kvs : List (Key × D)} {h : MH} : dcR h (.dct kvs) = some kvs := (rfl)
@[simp] theorem dcR_ref {a : Addr} {h : MH} : dcR h (.ref a) = match h a with
  | some (.dct kvs) => some kvs
  | _ => none := (rfl)
@[simp] theorem dcS_dcl {kvs : List (Key × D)} : dcS (.dcl kvs) = some kvs := (rfl)
@[simp] theorem o_sortDc {kvs : List (Key × D)} {h : MH} {Q : MQ} : fSortDc [.dcl kvs] h Q = match intsOf (keysD' kvs) with
  | some ns => kvs.length ≤ 1000000 ∧ Q (.lst ((sortI ns).map .int)) h
  | none => False := (rfl)
@[simp] theorem o_lenDs {kvs : List (Key × D)} {h : MH} {Q : MQ} : fLenDs [.dcl kvs] h Q = Q (.int kvs.length) h := (rfl)
@[simp] theorem r_itK {t : WE} {σ : MSt} {h : MH} {Q : List D → MH → Prop} : wItK t σ h Q = t σ h fun d h1 => match d with
  | .dcl kvs => Q (keysD' kvs) h1
  | _ => False := (rfl)
@[simp] theorem r_fzVL {t : WE} {σ : MSt} {h : MH} {Q : MQ} : wFzVL t σ h Q = t σ h fun d h1 => match d with
  | .ref a => match h1 a with
    | some (.dct kvs) => Q (.dcl kvs) (mdel h1 a)
    | _ => False
  | .dcl kvs => Q (.dcl kvs) h1
  | _ => False := (rfl)
@[simp] theorem r_fzL {i : Nat} {t : WS} {D0 : MEnds} {σ : MSt} {h : MH} : wFzL i t D0 σ h = match σ[i]? with
  | some (some (.ref a)) => match h a with
    | some (.dct kvs) => t D0 (σ.set i (some (.dcl kvs))) (mdel h a)
    | _ => False
  | some (some (.dcl _)) => t D0 σ h
  | _ => False := (rfl)
end
section
variable {X : Cx} {B : Bs}
def wNotInRg (ta : WE) (tr : WR) : WE := fun σ h Q => ta σ h fun x h1 => tr σ h1 fun lo hi h2 => match x with
  | .int i => Q (.bl (!decide (lo ≤ i ∧ i < hi))) h2
  | _ => False
@[simp] theorem r_notInRg {ta : WE} {tr : WR} {σ : MSt} {h : MH} {Q : MQ} : wNotInRg ta tr σ h Q = ta σ h fun x h1 => tr σ h1 fun lo hi h2 => match x with
  | .int i => Q (.bl (!decide (lo ≤ i ∧ i < hi))) h2
  | _ => False := (rfl)
end
end BP

set_option maxRecDepth 100000
set_option maxHeartbeats 4000000
namespace BP
open PySem PySem.Spec PyProof.Rows L2 LamX
def CodeT (K : PySem.W.Frag) (c P : Addr) : Prop := ∃ o vs file tf flags tg inF text tt, K.lookup c = some o ∧ o.cls = .type "code" ∧ o.data = .fields vs ∧ vs[11]? = some (.ref P) ∧ vs.getD 11 .none = .ref P ∧ vs.getD 18 .none = .str file tf ∧
    vs.getD 7 .none = .int flags tg ∧ vs.getD 9 .none = .bool inF ∧ vs.getD 10 .none = .int text tt ∧ c ≠ P ∧ K.lookup P = some { cls := .none, data := .fields #[] }
theorem CodeT.at {K : PySem.W.Frag} {h : Heap} {c P : Addr} (X : K.In h) (x : CodeT K c P) : PySem.W.CodeHd h c P ∧ h.get? P = some { cls := .none, data := .fields #[] } := by
  obtain ⟨o, vs, file, tf, flags, tg, inF, text, tt, e, r1, r2, r3, r4, r5, r6, r7, r8, r9, e2⟩ := x
  exact ⟨⟨o, vs, file, tf, flags, tg, inF, text, tt, X _ _ e, r1, r2, r3, r4, r5, r6, r7, r8, r9⟩, X _ _ e2⟩
end BP

set_option maxRecDepth 100000
set_option maxHeartbeats 4000000
namespace BP
open PySem PySem.Spec PyProof.Rows L2 LamX
def dPr (z : Int × List Int) : D := .tup [.int z.1, .lst (z.2.map .int)]
section
variable {X : Cx}
end
def fSortP (ds : List D) (h : MH) (Q : MQ) : Prop := match ds with
  | [d] => ∃ ps : List (Int × List Int), lsOf h d = some (ps.map dPr) ∧ ∀ ys : List (Int × List Int), ys.length = ps.length → (∀ y ∈ ys, y ∈ ps) → Q (.lst (ys.map dPr)) h
  | _ => False
def fMinP (ds : List D) (h : MH) (Q : MQ) : Prop := match ds with
  | [d] => ∃ ps : List (Int × List Int), lsOf h d = some (ps.map dPr) ∧ ps ≠ [] ∧ ∀ z ∈ ps, (∀ y ∈ ps, z.1 ≤ y.1) → Q (dPr z) h
  | _ => False
section
variable {X : Cx} {B : Bs} {e : Expr} {es : List Expr} {wa : WA} {pos : Pos}
end
@[simp] theorem o_sortP {d : D} {h : MH} {Q : MQ} : fSortP [d] h Q = ∃ ps : List (Int × List Int), lsOf h d = some (ps.map dPr) ∧ ∀ ys : List (Int × List Int), ys.length = ps.length → (∀ y ∈ ys, y ∈ ps) → Q (.lst (ys.map dPr)) h := (rfl)
@[simp] theorem o_minP {d : D} {h : MH} {Q : MQ} : fMinP [d] h Q = ∃ ps : List (Int × List Int), lsOf h d = some (ps.map dPr) ∧ ps ≠ [] ∧ ∀ z ∈ ps, (∀ y ∈ ps, z.1 ≤ y.1) → Q (dPr z) h := (rfl)
section
variable {X : Cx}
end
def fSortTu (ds : List D) (h : MH) (Q : MQ) : Prop := match ds with
  | [.tup xs] => match intsOf xs with
    | some ns => Q (.lst ((sortI ns).map .int)) h
    | none => False
  | _ => False
section
variable {X : Cx} {B : Bs} {e : Expr} {es : List Expr} {wa : WA} {pos : Pos}
end
@[simp] theorem o_sortTu {xs : List D} {h : MH} {Q : MQ} : fSortTu [.tup xs] h Q = match intsOf xs with
    | some ns => Q (.lst ((sortI ns).map .int)) h
    | none => False := (rfl)
end BP

set_option maxRecDepth 100000
set_option maxHeartbeats 4000000
namespace BP
open PySem PySem.Spec PyProof.Rows L2
section
variable {X : Cx}
end
end BP

set_option maxRecDepth 100000
set_option maxHeartbeats 4000000
namespace BP
open PySem PySem.Spec PyProof.Rows L2
section
variable {X : Cx} {B : Bs} {o : Expr} {p pos apos mpos : Pos} {td : TE}
def wMaxV (td : WE) : WE := fun σ h Q => td σ h fun d h1 => match d with
  | .dct kvs => ∃ is : List Int, kvs.map (·.2) = is.map D.int ∧ is ≠ [] ∧ ∀ m, m ∈ is → (∀ j ∈ is, j ≤ m) → Q (.int m) h1
  | _ => False
@[simp] theorem r_maxV {td : WE} {σ : MSt} {h : MH} {Q : MQ} : wMaxV td σ h Q = td σ h fun d h1 => match d with
  | .dct kvs => ∃ is : List Int, kvs.map (·.2) = is.map D.int ∧ is ≠ [] ∧ ∀ m, m ∈ is → (∀ j ∈ is, j ≤ m) → Q (.int m) h1
  | _ => False := (rfl)
end
section
variable {X : Cx} {B : Bs} {e : Expr} {es : List Expr} {wa : WA} {pos : Pos}
def fDictM (ds : List D) (h : MH) (Q : MQ) : Prop := match ds with
  | [d] => match dcR h d with
    | some kvs => ∀ p, h p = none → Q (.ref p) (mupd h p (.dct kvs))
    | none => False
  | _ => False
@[simp] theorem o_dictM {d : D} {h : MH} {Q : MQ} : fDictM [d] h Q = match dcR h d with
    | some kvs => ∀ p, h p = none → Q (.ref p) (mupd h p (.dct kvs))
    | none => False := (rfl)
end
section
variable {X : Cx} {B : Bs} {o e : Expr} {apos cpos : Pos} {to ti : WE}
def dropD (kvs : List (Key × D)) (k : Key) : List (Key × D) := kvs.filter fun kv => decide (kv.1 ≠ k)
def wPopDc (to ti : WE) : WE := fun σ h Q => to σ h fun x h1 => match x with
  | .ref a => (∃ kvs, h1 a = some (.dct kvs)) ∧ ti σ h1 fun y h2 => match h2 a, keyD y with
    | some (.dct kvs), some k => match atD kvs k with
      | some d => Q d (mupd h2 a (.dct (dropD kvs k)))
      | none => False
    | _, _ => False
  | _ => False
@[simp] theorem r_popDc {σ : MSt} {h : MH} {Q : MQ} : wPopDc to ti σ h Q = to σ h fun x h1 => match x with
  | .ref a => (∃ kvs, h1 a = some (.dct kvs)) ∧ ti σ h1 fun y h2 => match h2 a, keyD y with
    | some (.dct kvs), some k => match atD kvs k with
      | some d => Q d (mupd h2 a (.dct (dropD kvs k)))
      | none => False
    | _, _ => False
  | _ => False := (rfl)
end
end BP

set_option maxRecDepth 100000
set_option maxHeartbeats 1000000
namespace BP
open PySem PySem.Spec PyProof.Rows L2
section
variable {X : Cx} {a b c e : Expr} {ta : TA}
variable {te : L2.St → Hp → (Int → Int → Nat → Hp → Prop) → Prop}
end
section
variable {X : Cx} {B : Bs} {a b c e : Expr} {wa : WA} {p p2 pos pos2 : Pos}
abbrev WR3 := MSt → MH → (Int → Int → Nat → MH → Prop) → Prop
def wRg3 (wa : WA) : WR3 := fun σ h Q => wa σ h fun ds h1 => match ds with
  | [.int i, .int j, .int c] => ∃ n, RgC i j c n ∧ Q i c n h1
  | _ => False
def wLstRg3 (t : WR3) : WE := fun σ h Q => t σ h fun i c n h1 => n ≤ 16000000 ∧ Q (.lst (stepD i c n)) h1
def wTupRg3 (t : WR3) : WE := fun σ h Q => t σ h fun i c n h1 => n ≤ 16000000 ∧ Q (.tup (stepD i c n)) h1
variable {wr : WR3}
@[simp] theorem r_rg3 {σ : MSt} {h : MH} {P : Int → Int → Nat → MH → Prop} : wRg3 wa σ h P = wa σ h fun ds h1 => match ds with
  | [.int i, .int j, .int c] => ∃ n, RgC i j c n ∧ P i c n h1
  | _ => False := (rfl)
@[simp] theorem r_lstRg3 {σ : MSt} {h : MH} {Q : MQ} : wLstRg3 wr σ h Q = wr σ h fun i c n h1 => n ≤ 16000000 ∧ Q (.lst (stepD i c n)) h1 := (rfl)
@[simp] theorem r_tupRg3 {σ : MSt} {h : MH} {Q : MQ} : wTupRg3 wr σ h Q = wr σ h fun i c n h1 => n ≤ 16000000 ∧ Q (.tup (stepD i c n)) h1 := (rfl)
end
def turnT {α : Type} (xs : List α) : List α := (sliceRange (sliceBounds none (some 0) (some (-1)) xs.length).1 (sliceBounds none (some 0) (some (-1)) xs.length).2.1 (sliceBounds none (some 0) (some (-1)) xs.length).2.2).filterMap (xs[·]?)
section
variable {X : Cx} {B : Bs} {e : Expr} {ta : WE} {pos : Pos}
def unTurn (x : D) (h : MH) (Q : MQ) : Prop := match lsOf h x with
  | some xs => Q (.lst (turnT xs)) h
  | none => False
@[simp] theorem o_turn {x : D} {h : MH} {Q : MQ} : unTurn x h Q = match lsOf h x with
  | some xs => Q (.lst (turnT xs)) h
  | none => False := (rfl)
end
section
variable {X : Cx} {B : Bs} {e : Expr} {es : List Expr} {wa : WA} {pos p : Pos}
def fReprN (ds : List D) (h : MH) (Q : MQ) : Prop := match ds with
  | [d] => match toP (frzN h 4 d) with
    | some p => (p.showable = true ∧ p.shown.length ≤ sizeLine ∧ p.depth ≤ 64) ∧ Q (.str p.shown) h
    | none => False
  | _ => False
theorem m_reprN (hgd : X.A.guards = some []) (hu : X.A.units + 100 < cLine) (hm : X.mg "repr" = none) (ha : MA X B (e :: es) wa) (hg : Gl X "repr" := by rfl) (he : starEach (e :: es) X.env = (false, eval e X.env) :: starEach es X.env := by rfl) (hpl : (backTo pos (starEach es X.env)).any (·.1) = false := by rfl) :
    ME X B (.Call (.Name "repr" p) (e :: es) [] pos) (wCB fReprN wa) := m_callB (cr_repr hgd hu) (fun F H h ds vs Q' Q s rs t c => by
      unfold fReprN at t
      split at t
      · rename_i d
        obtain ⟨v, rfl, r⟩ := rds_one rs
        split at t
        · rename_i p ep
          obtain ⟨⟨h1, h2, h3⟩, q⟩ := t
          exact ⟨v, p, rfl, .inl ((frzN_rd s 4 r).dp (lend_sr s).fr ep), h1, h2, h3, c.same s (.str _) q⟩
        · exact t.elim
      · exact t.elim) hm (by decide +kernel) ha hg (by decide) (by decide) he hpl
@[simp] theorem o_reprN {d : D} {h : MH} {Q : MQ} : fReprN [d] h Q = match toP (frzN h 4 d) with
    | some p => (p.showable = true ∧ p.shown.length ≤ sizeLine ∧ p.depth ≤ 64) ∧ Q (.str p.shown) h
    | none => False := (rfl)
end
section
def wDzV (t : WE) : WE := fun σ h Q => t σ h fun d h1 => match d with
  | .ref p => match h1 p with
    | some (.lst ds) => match dz (mdel h1 p) ds with
      | some r => Q (.lst r.1) r.2
      | none => False
    | _ => False
  | _ => False
theorem m_dzV {X : Cx} {B : Bs} {e : Expr} {t : WE} (h : ME X B e t) : ME X B e (wDzV t) :=
  pe_mono h fun σ H Q ⟨F, h0, σd, Q', l, s, t0, c⟩ => ⟨F, h0, σd, _, l, s, t0, fun F1 H1 h1 d v g rd q => by
    split at q
    · rename_i p
      split at q
      · rename_i ds z
        split at q
        · rename_i r em
          cases rd
          obtain ⟨_, xs, e1, e2⟩ := g.sr.cell p _ z
          have g2 := Go.settle g.sr z e1
          obtain ⟨F', g3, rr⟩ := dz_rd g2.sr (e2.mono g2.ss) em
          exact c _ H1 _ _ _ ((g.trans g2).trans g3) (.lst (g3.ss _ _ upd_same) rr) q
        · exact q.elim
      · exact q.elim
    · exact q.elim⟩
@[simp] theorem r_dzV {t : WE} {σ : MSt} {h : MH} {Q : MQ} : wDzV t σ h Q = t σ h fun d h1 => match d with
  | .ref p => match h1 p with
    | some (.lst ds) => match dz (mdel h1 p) ds with
      | some r => Q (.lst r.1) r.2
      | none => False
    | _ => False
  | _ => False := (rfl)
end
end BP

set_option maxHeartbeats 1000000
namespace TB
open PySem PySem.Spec PyProof.Rows L2 BP
abbrev k_SIDE : D := .int 8
def rowsOf (t : Nat) : List Nat := (List.range 8).filter fun r => decide (r ≤ t) && decide (t < r + 8)
def diag (t : Nat) : List D := (if t % 2 = 1 then rowsOf t else (rowsOf t).reverse).map fun r => .tup [.int (r : Nat), .int ((t : Int) - (r : Nat))]
def zzTo : Nat → List D
  | 0 => []
  | n + 1 => zzTo n ++ diag n
def zzD : List D := zzTo 15
theorem rows_lc {te : WE} {g : Nat → D} {σ : MSt} {t : Nat} {h : MH} {Q : List D → MH → Prop} (e1 : ∀ d, (σ.set 3 (some d))[1]? = some (some (.int (t : Int)))) (e3 : ∀ d, (σ.set 3 (some d))[3]? = some (some d))
    (ht : ∀ (r : Nat) (K : MQ), K (g r) h → te (σ.set 3 (some (.int (r : Int)))) h K) (q : Q ((rowsOf t).map g) h) :
    wLcGo (put1 3) (wTest (wLeLt (wC (.int 0)) (wOp opSub (wVar 1) (wVar 3)) (wC (.int 8)))) te σ (rangeD 0 8) [] h Q := by
  have szl := szL
  refine wLcGo_inv (fun i acc h' => h' = h ∧ acc = (((List.range i).filter fun r => decide (r ≤ t) && decide (t < r + 8))).map g ∧ acc.length ≤ i) ⟨rfl, rfl, by simp⟩ ?_ ?_
  · rintro i x acc h' K e ⟨rfl, rfl, la⟩ hK
    obtain ⟨hi, rfl⟩ := range_get e
    have z : (0 : Int) + (i : Nat) = (i : Nat) := by omega
    rw [z]
    refine ⟨_, rfl, ?_⟩
    simp only [r_test, r_chain, r_c, r_op, r_var, e1, e3, o_sub, o_cmp]
    by_cases h1 : i ≤ t
    · have h1' : decide ((0 : Int) ≤ (t : Int) - (i : Nat)) = true := by rw [decide_eq_true_eq]; omega
      simp only [h1']
      by_cases h2 : t < i + 8
      · have h2' : decide ((t : Int) - (i : Nat) < 8) = true := by rw [decide_eq_true_eq]; omega
        simp only [h2', if_true]
        refine ht i _ ⟨by omega, hK _ _ ⟨rfl, ?_, ?_⟩⟩
        · rw [List.range_succ, List.filter_append, List.map_append]
          simp [h1, h2]
        · simp at la ⊢; omega
      · have h2' : decide ((t : Int) - (i : Nat) < 8) = false := by rw [decide_eq_false_iff_not]; omega
        simp only [h2', Bool.false_eq_true, if_false]
        refine hK _ _ ⟨rfl, ?_, by omega⟩
        rw [List.range_succ, List.filter_append, List.map_append]
        simp [h1, h2]
    · have h1' : decide ((0 : Int) ≤ (t : Int) - (i : Nat)) = false := by rw [decide_eq_false_iff_not]; omega
      simp only [h1', Bool.false_eq_true, if_false]
      refine hK _ _ ⟨rfl, ?_, by omega⟩
      rw [List.range_succ, List.filter_append, List.map_append]
      simp [h1]
  · rintro acc h' ⟨rfl, rfl, la⟩
    rw [range_len]
    exact q
theorem zz_len : ∀ i, (zzTo i).length ≤ 8 * i
  | 0 => by simp [zzTo]
  | i + 1 => by
    have := zz_len i
    have : (diag i).length ≤ 8 := by
      unfold diag
      rw [List.length_map]
      have l : (rowsOf i).length ≤ 8 := by
        unfold rowsOf
        refine Nat.le_trans (List.length_filter_le _ _) (by simp)
      split
      · exact l
      · simpa using l
    simp [zzTo]; omega
theorem zz64 : zzD.length = 64 := by decide +kernel
theorem range_getD (xs : List D) : (List.range xs.length).map (fun i => xs.getD i .non) = xs := by
  apply List.ext_getElem
  · simp
  · intro i h1 h2
    simp at h1
    simp [List.getD, h1]
def nD (n : Nat) : D := .int (n : Int)
def roomT (cs : List Nat) : Nat := (cs.mapIdx fun i n => n * 2 ^ (15 - i)).sum
def natsOf (ds : List D) : List Nat := ds.map fun d => (dInt d).toNat
def countsOk (cs : List D) : Bool := decide (cs.length = 16) && (cs.all (fun d => btw d 0 255) && decide (roomT (natsOf cs) < 65536))
def symsOk (ss : List D) (many : Int) : Bool := decide ((ss.length : Int) = many) && (ss.all (fun d => btw d 0 255) && decide ((ss.map dInt).Nodup))
def tabFault (v : D) : Str := match v with
  | .tup [.tup cs, .tup ss] => if countsOk cs = true then (if symsOk ss (cs.map dInt).sum = true then "" else "symbols") else "counts"
  | _ => "table"
def okPart (h : MH) (x : D) : Bool := okE h x && match x with
  | .tup ys => decide (ys.length ≤ 1000000) && ys.all (okE h)
  | _ => true
def okTab (h : MH) (v : D) : Bool := okE h v && match v with
  | .tup xs => decide (xs.length ≤ 1000000) && xs.all (okPart h)
  | _ => true
structure IsTab (v : D) (cs ss : List Nat) : Prop where
  eq : v = .tup [.tup (cs.map nD), .tup (ss.map nD)]
  l16 : cs.length = 16
  cb : ∀ c ∈ cs, c ≤ 255
  room : roomT cs < 65536
  sl : ss.length = cs.sum
  sb : ∀ x ∈ ss, x ≤ 255
  nd : ss.Nodup
def sp_is_integer : MSp := fun ds h Q _ => match ds with
  | [d, .int lo, .int hi] => okE h d = true ∧ Q (.bl (btw d lo hi)) h
  | _ => False
@[simp] theorem s_is_integer {d : D} {lo hi : Int} {h : MH} {Q : MQ} {E : XQ} : sp_is_integer [d, .int lo, .int hi] h Q E = (okE h d = true ∧ Q (.bl (btw d lo hi)) h) := (rfl)
def sp_zigzag_places : MSp := fun ds h Q _ => ds = [] ∧ Q (.lst zzD) h
@[simp] theorem s_zigzag_places {h : MH} {Q : MQ} {E : XQ} : sp_zigzag_places [] h Q E = Q (.lst zzD) h := by simp [sp_zigzag_places]
def sp_is_row : MSp := fun ds h Q _ => match ds with
  | [d] => okRow h d = true ∧ Q (.bl (rowF d).isSome) h
  | _ => False
@[simp] theorem s_is_row {d : D} {h : MH} {Q : MQ} {E : XQ} : sp_is_row [d] h Q E = (okRow h d = true ∧ Q (.bl (rowF d).isSome) h) := (rfl)
def rowBad (d : D) (lo hi : Int) : Option Int := match rowF d with
  | none => some (-1)
  | some xs => (xs.findIdx? fun d => !btw d lo hi).map fun i => ((i : Nat) : Int)
def sp_check_bytes : MSp := fun ds h Q E => match ds with
  | [d] => okRow h d = true ∧ match rowBad d 0 255 with
    | some i => E "NoBytes" [("index", .int i)] h
    | none => Q .non h
  | _ => False
@[simp] theorem s_check_bytes {d : D} {h : MH} {Q : MQ} {E : XQ} : sp_check_bytes [d] h Q E = (okRow h d = true ∧ match rowBad d 0 255 with
    | some i => E "NoBytes" [("index", .int i)] h
    | none => Q .non h) := (rfl)
def sp_are_counts : MSp := fun ds h Q _ => match ds with
  | [.tup cs] => okPart h (.tup cs) = true ∧ Q (.bl (countsOk cs)) h
  | _ => False
@[simp] theorem s_are_counts {cs : List D} {h : MH} {Q : MQ} {E : XQ} : sp_are_counts [.tup cs] h Q E = (okPart h (.tup cs) = true ∧ Q (.bl (countsOk cs)) h) := (rfl)
def sp_are_symbols : MSp := fun ds h Q _ => match ds with
  | [.tup ss, .int m] => okPart h (.tup ss) = true ∧ m ≤ 4080 ∧ Q (.bl (symsOk ss m)) h
  | _ => False
@[simp] theorem s_are_symbols {ss : List D} {m : Int} {h : MH} {Q : MQ} {E : XQ} : sp_are_symbols [.tup ss, .int m] h Q E = (okPart h (.tup ss) = true ∧ m ≤ 4080 ∧ Q (.bl (symsOk ss m)) h) := (rfl)
def sp_table_fault : MSp := fun ds h Q _ => match ds with
  | [v] => okTab h v = true ∧ Q (.str (tabFault v)) h
  | _ => False
@[simp] theorem s_table_fault {v : D} {h : MH} {Q : MQ} {E : XQ} : sp_table_fault [v] h Q E = (okTab h v = true ∧ Q (.str (tabFault v)) h) := (rfl)
def sp_is_table : MSp := fun ds h Q _ => match ds with
  | [v] => okTab h v = true ∧ Q (.bl (tabFault v == "")) h
  | _ => False
@[simp] theorem s_is_table {v : D} {h : MH} {Q : MQ} {E : XQ} : sp_is_table [v] h Q E = (okTab h v = true ∧ Q (.bl (tabFault v == "")) h) := (rfl)
def sp_check_table : MSp := fun ds h Q E => match ds with
  | [v] => okTab h v = true ∧ if tabFault v = "" then Q .non h else E "NoTable" [("part", .str (tabFault v))] h
  | _ => False
@[simp] theorem s_check_table {v : D} {h : MH} {Q : MQ} {E : XQ} : sp_check_table [v] h Q E = (okTab h v = true ∧ if tabFault v = "" then Q .non h else E "NoTable" [("part", .str (tabFault v))] h) := (rfl)
abbrev N_is_integer : List Str := ["value", "low", "high"]
def rd_is_integer : WS :=
 (wRet (wAndV (wIsi ["int"] (wVar 0)) (wAndV (wNotV (wIsi ["bool"] (wVar 0))) (wLeLe (wVar 1) (wVar 0) (wVar 2)))))

def lb_zigzag_places_0 : WS :=
 (wSeq (wSet 2 (wLc (wRange1 (wC k_SIDE)) (put1 3) (wTest (wLeLt (wC (.int 0)) (wOp opSub (wVar 1) (wVar 3)) (wC k_SIDE))) (wVar 3) [3]))
 (wDrop (wMt fExtend (wVar 0) (wCons (wLc (wIt (wIf (wTruth (wOp opAnd (wVar 1) (wC (.int 1)))) (wVar 2) (wUn unRev (wVar 2)))) (put1 3) wYes (wTup (wCons (wVar 3) (wCons (wOp opSub (wVar 1) (wVar 3)) wNil))) [3]) wNil))))
abbrev N_zigzag_places : List Str := ["found", "total", "rows", "row"]
def rd_zigzag_places : WS :=
 (wSeq (wSet 0 (wLstM wNil))
 (wSeq (wFor (wRange1 (wOp opSub (wOp opMul (wC (.int 2)) (wC k_SIDE)) (wC (.int 1)))) (gN 1) lb_zigzag_places_0)
 (wFz 0 (wRet (wVar 0)))))

section
variable (ds : List D) (h : MH) (Q' : MQ) (E' : XQ)
theorem pure_is_integer (s : sp_is_integer ds h Q' E') : rd_is_integer { nx := fun _ h' => Q' .non h', rt := Q' } (mstart N_is_integer ds) h := by
  unfold sp_is_integer at s
  split at s
  · rename_i d lo hi
    obtain ⟨o, q⟩ := s
    obtain ⟨c, e⟩ := cls_ok o
    simp [rd_is_integer, mstart_eq, e]
    cases d with
    | ref a =>
      simp only [clsD] at e
      split at e
      · cases e; simpa [subT, btw] using q
      · cases e; simpa [subT, btw] using q
      · cases e
    | int i =>
      simp [clsD] at e
      subst e
      simp [subT]
      simp [btw] at q
      by_cases hl : lo ≤ i <;> simp [hl] at q ⊢ <;> exact q
    | _ => simp [clsD] at e <;> subst e <;> simpa [subT, btw] using q
  · exact s.elim
theorem pure_zigzag_places (s : sp_zigzag_places ds h Q' E') : rd_zigzag_places { nx := fun _ h' => Q' .non h', rt := Q' } (mstart N_zigzag_places ds) h := by
  obtain ⟨rfl, q⟩ := s
  have szl := szL
  have m28 : mulOk 2 8 := small_mul (by omega)
  have z0 : (0 : Nat) ≤ sizeLine := by decide
  have z2 : (2 : Nat) ≤ sizeLine := by decide
  simp [rd_zigzag_places, mstart_eq, m28, List.replicate, okR]
  intro p hp
  refine wLoop_inv (fun i σ h' => h' = mupd h p (.lst (zzTo i)) ∧ ∃ v1 v2 v3, σ = [some (.ref p), v1, v2, v3]) ⟨rfl, _, _, _, rfl⟩ ?_ ?_
  · rintro i d σ h' K e ⟨rfl, v1, v2, v3, rfl⟩ hK
    obtain ⟨hi, rfl⟩ := range_get e
    have z : (0 : Int) + (i : Nat) = (i : Nat) := by omega
    rw [z]
    unfold lb_zigzag_places_0
    simp [okR, mwipe]
    refine rows_lc (t := i) (g := fun r => .int (r : Nat)) (fun d => by simp) (fun d => by simp) (fun r K k => by simpa using k) ?_
    simp [bit_and1]
    have tl := zz_len i
    have rl : (rowsOf i).length ≤ 8 := by
      unfold rowsOf
      exact Nat.le_trans (List.length_filter_le _ _) (by simp)
    have el : ∀ x : Nat, ∀ K : MQ, K (.tup [.int (x : Nat), .int ((i : Int) - (x : Nat))]) (mupd h p (.lst (zzTo i))) → ∃ σ2, put1 3 [some (D.ref p), some (D.int i), some (D.lst (List.map (fun r => D.int (r : Nat)) (rowsOf i))), none] (.int (x : Nat)) = some σ2 ∧
        (wTup (wCons (wVar 3) (wCons (wOp opSub (wVar 1) (wVar 3)) wNil))) σ2 (mupd h p (.lst (zzTo i))) K := fun x K k => ⟨_, rfl, by simpa [z2] using k⟩
    by_cases hm : (i : Int) % 2 = 0
    · rw [if_pos hm, ← List.map_reverse]
      refine lc_over (fun r : Nat => D.int (r : Nat)) (fun r : Nat => .tup [.int (r : Nat), .int ((i : Int) - (r : Nat))]) _ (by simp; omega) (fun x _ K k => el x K k) ?_
      simp
      refine ⟨by omega, hK _ _ ⟨?_, _, _, _, rfl⟩⟩
      have : ¬ i % 2 = 1 := by omega
      simp [zzTo, diag, this]
    · rw [if_neg hm]
      refine lc_over (fun r : Nat => D.int (r : Nat)) (fun r : Nat => .tup [.int (r : Nat), .int ((i : Int) - (r : Nat))]) _ (by omega) (fun x _ K k => el x K k) ?_
      simp
      refine ⟨by omega, hK _ _ ⟨?_, _, _, _, rfl⟩⟩
      have : i % 2 = 1 := by omega
      simp [zzTo, diag, this]
  · rintro σ h' ⟨rfl, v1, v2, v3, rfl⟩
    simp [mdel_mupd hp]
    exact q


theorem ints_map {α : Type} (f : α → Int) : ∀ xs : List α, intsOf (xs.map fun x => D.int (f x)) = some (xs.map f)
  | [] => rfl
  | x :: xs => by simp [intsOf, ints_map f xs]
end

end TB
namespace SM
open PySem PySem.Spec PyProof.Rows L2 BP
abbrev k_FLAT : D := .int 2896
abbrev k_WAVES : D := .tup [.int 4096, .int 4017, .int 3784, .int 3406, .int 2896, .int 2276, .int 1567, .int 799, .int 0]

def wavesL : List Int := [4096, 4017, 3784, 3406, 2896, 2276, 1567, 799, 0]
def waveF (t : Nat) : Int :=
  let u := t % 32
  let v := if u > 16 then 32 - u else u
  if v > 8 then 0 - wavesL.getD (16 - v) 0 else wavesL.getD v 0
def weightF (x u : Nat) : Int := if u = 0 then 2896 else waveF ((2 * x + 1) * u)
def zi (r c : Nat) : Nat := (TB.zzD.findIdx? fun z => eqv z (.tup [.int r, .int c])).getD 64
def stepF (ts bs : List Int) (r c : Nat) : Int := ts.getD (zi r c) 0 * bs.getD (zi r c) 0
def lineF (ts bs : List Int) (v x : Nat) : Int := ((List.range 8).map fun u => weightF x u * stepF ts bs v u).sum
def sumF (ts bs : List Int) (y x : Nat) : Int := ((List.range 8).map fun v => weightF y v * lineF ts bs v x).sum
def gridD (f : Nat → Nat → Int) : D := .tup ((List.range 8).map fun y => .tup ((List.range 8).map fun x => .int (f y x)))
def rowI (f : Nat → Int) : D := .lst ((List.range 8).map fun x => .int (f x))
def cutF (n : Int) : Int := if n < 0 then 0 else if 255 < n then 255 else n
def sampleF (n : Int) : Int := cutF (128 + (n + 33554432) / 67108864)
def isNs (d : D) (ns : List Int) : Prop := rowF d = some (ns.map .int)
def areFrom (d : D) (n lo hi : Int) : Bool := match rowF d with
  | some xs => decide ((xs.length : Int) = n) && xs.all fun x => btw x lo hi
  | none => false
def areInts (d : D) : Bool := match rowF d with
  | some xs => decide (xs.length = 64) && xs.all isI
  | none => false
theorem weight_small {x u : Nat} : -5000 < weightF x u ∧ weightF x u < 5000 := by
  have key : ∀ v, -5000 < wavesL.getD v 0 ∧ wavesL.getD v 0 < 5000 := by
    intro v
    unfold wavesL
    match v with
    | 0 | 1 | 2 | 3 | 4 | 5 | 6 | 7 | 8 => decide
    | n + 9 => simp [List.getD]
  unfold weightF waveF
  split
  · omega
  · simp only
    generalize (2 * x + 1) * u % 32 = a
    generalize (if a > 16 then 32 - a else a) = b
    split
    · have := key (16 - b); omega
    · exact key _
theorem all_from {d : D} {lo hi : Int} (h : areFrom d 64 lo hi = true) : ∃ ns : List Int, isNs d ns ∧ ns.length = 64 ∧ ∀ n ∈ ns, lo ≤ n ∧ n ≤ hi := by
  unfold areFrom at h
  split at h
  · rename_i xs e
    simp only [Bool.and_eq_true, decide_eq_true_eq, List.all_eq_true] at h
    refine ⟨xs.map dInt, ?_, by simp; omega, fun n hn => ?_⟩
    · unfold isNs
      rw [e, List.map_map]
      congr 1
      conv => lhs; rw [← List.map_id xs]
      apply List.map_congr_left
      intro x m
      obtain ⟨i, rfl, _, _⟩ := btw_int (h.2 x m)
      rfl
    · obtain ⟨x, m, rfl⟩ := List.mem_map.mp hn
      obtain ⟨i, rfl, h1, h2⟩ := btw_int (h.2 x m)
      exact ⟨h1, h2⟩
  · cases h
theorem ns_from {d : D} {ns : List Int} {lo hi : Int} (e : isNs d ns) (hl : ns.length = 64) (hb : ∀ n ∈ ns, lo ≤ n ∧ n ≤ hi) : areFrom d 64 lo hi = true := by
  unfold isNs at e
  unfold areFrom
  rw [e]
  simp [hl, btw]
  exact hb
theorem ns_row {h : MH} {d : D} {ns : List Int} (e : isNs d ns) (hl : ns.length = 64) : okRow h d = true := by
  unfold isNs at e
  cases d <;> simp [rowF] at e
  · subst e; simp [okRow, rowF, clsD, okE, hl]
  · subst e; simp [okRow, rowF, clsD, okE, hl]
  · rename_i ms
    have : ms.length = ns.length := by
      have := congrArg List.length e
      simpa using this
    simp [okRow, rowF, clsD, okE]
    omega
def zzChk2 (k : Nat) : Bool := match TB.zzD[k]? with
  | some (.tup [.int r, .int c]) => decide (0 ≤ r) && decide (0 ≤ c) && decide (r < 8) && decide (c < 8) && zi r.toNat c.toNat == k && (List.range 8).all fun r' => (List.range 8).all fun c' => zi r' c' != k || (r' == r.toNat && c' == c.toNat)
  | _ => false
theorem zz_chk2 : (List.range 64).all zzChk2 = true := by decide +kernel
theorem zi_small : (List.range 8).all (fun r => (List.range 8).all fun c => decide (zi r c < 64)) = true := by decide +kernel
theorem zi_lt {r c : Nat} (hr : r < 8) (hc : c < 8) : zi r c < 64 := by
  have h := List.all_eq_true.mp zi_small r (by simpa using hr)
  have h := List.all_eq_true.mp h c (by simpa using hc)
  simpa using h
theorem zz_rc {k : Nat} (hk : k < 64) : ∃ r c : Nat, TB.zzD[k]? = some (.tup [.int r, .int c]) ∧ r < 8 ∧ c < 8 ∧ zi r c = k ∧ ∀ r' c', r' < 8 → c' < 8 → zi r' c' = k → r' = r ∧ c' = c := by
  have h := List.all_eq_true.mp zz_chk2 k (by simpa using hk)
  unfold zzChk2 at h
  split at h
  · rename_i r c e
    simp only [Bool.and_eq_true, beq_iff_eq, decide_eq_true_eq, List.all_eq_true, List.mem_range, Bool.or_eq_true, bne_iff_ne] at h
    obtain ⟨⟨⟨⟨⟨h1, h2⟩, h3⟩, h4⟩, h5⟩, h6⟩ := h
    refine ⟨r.toNat, c.toNat, by rw [e, Int.toNat_of_nonneg h1, Int.toNat_of_nonneg h2], by omega, by omega, h5, fun r' c' hr hc hz => ?_⟩
    rcases h6 r' hr c' hc with z | z
    · exact absurd hz z
    · exact z
  · cases h

def redF (a c : Int) : Int := cutF (a + (91881 * (c - 128) + 32768) / 65536)
def greF (a b c : Int) : Int := cutF (a + (32768 - 22554 * (b - 128) - 46802 * (c - 128)) / 65536)
def bluF (a b : Int) : Int := cutF (a + (116130 * (b - 128) + 32768) / 65536)
theorem from_ns {d : D} {n lo hi : Int} (h : areFrom d n lo hi = true) : ∃ ns : List Int, isNs d ns ∧ (ns.length : Int) = n ∧ ∀ n ∈ ns, lo ≤ n ∧ n ≤ hi := by
  cases e : rowF d with
  | none => simp [areFrom, e] at h
  | some xs =>
    simp only [areFrom, e, Bool.and_eq_true, decide_eq_true_eq, List.all_eq_true] at h
    refine ⟨xs.map dInt, ?_, by simp; omega, fun n hn => ?_⟩
    · unfold isNs
      rw [e, List.map_map]
      congr 1
      conv => lhs; rw [← List.map_id xs]
      apply List.map_congr_left
      intro x m
      obtain ⟨i, rfl, _, _⟩ := btw_int (h.2 x m)
      rfl
    · obtain ⟨x, m, rfl⟩ := List.mem_map.mp hn
      obtain ⟨i, rfl, h1, h2⟩ := btw_int (h.2 x m)
      exact ⟨h1, h2⟩

def sp_is_integer : MSp := fun ds h Q _ => match ds with
  | [d] => okE h d = true ∧ Q (.bl (isI d)) h
  | _ => False
@[simp] theorem s_is_integer {d : D} {h : MH} {Q : MQ} {E : XQ} : sp_is_integer [d] h Q E = (okE h d = true ∧ Q (.bl (isI d)) h) := (rfl)
def sp_is_from : MSp := fun ds h Q _ => match ds with
  | [d, .int lo, .int hi] => okE h d = true ∧ Q (.bl (btw d lo hi)) h
  | _ => False
@[simp] theorem s_is_from {d : D} {lo hi : Int} {h : MH} {Q : MQ} {E : XQ} : sp_is_from [d, .int lo, .int hi] h Q E = (okE h d = true ∧ Q (.bl (btw d lo hi)) h) := (rfl)
def sp_are_from : MSp := fun ds h Q _ => match ds with
  | [d, .int n, .int lo, .int hi] => okRow h d = true ∧ Q (.bl (areFrom d n lo hi)) h
  | _ => False
@[simp] theorem s_are_from {d : D} {n lo hi : Int} {h : MH} {Q : MQ} {E : XQ} : sp_are_from [d, .int n, .int lo, .int hi] h Q E = (okRow h d = true ∧ Q (.bl (areFrom d n lo hi)) h) := (rfl)
def sp_wave : MSp := fun ds h Q _ => ∃ t : Nat, ds = [.int t] ∧ Q (.int (waveF t)) h
def sp_weight_of : MSp := fun ds h Q _ => ∃ x u : Nat, ds = [.int x, .int u] ∧ x < 100 ∧ u < 100 ∧ Q (.int (weightF x u)) h
def sp_steps_of : MSp := fun ds h Q _ => ∃ t b ts bs, ds = [t, b] ∧ isNs t ts ∧ isNs b bs ∧ ts.length = 64 ∧ bs.length = 64 ∧ (∀ n ∈ ts, 0 ≤ n ∧ n ≤ 65535) ∧ Q (.lst ((List.range 8).map fun r => rowI (stepF ts bs r))) h
def sp_look_block : MSp := fun ds h Q E => match ds with
  | [t, b] => okRow h t = true ∧ okRow h b = true ∧ if areFrom t 64 1 65535 = true then (if areInts b = true then Q .non h else E "NoSamples" [("part", .str "block")] h) else E "NoSamples" [("part", .str "table")] h
  | _ => False
@[simp] theorem s_look_block {t b : D} {h : MH} {Q : MQ} {E : XQ} : sp_look_block [t, b] h Q E = (okRow h t = true ∧ okRow h b = true ∧ if areFrom t 64 1 65535 = true then (if areInts b = true then Q .non h else E "NoSamples" [("part", .str "block")] h) else E "NoSamples" [("part", .str "table")] h) := (rfl)
def sp_sums_of : MSp := fun ds h Q _ => ∃ t b ts bs, ds = [t, b] ∧ isNs t ts ∧ isNs b bs ∧ ts.length = 64 ∧ bs.length = 64 ∧ (∀ n ∈ ts, 0 ≤ n ∧ n ≤ 65535) ∧ Q (gridD (sumF ts bs)) h
def sp_cut : MSp := fun ds h Q _ => match ds with
  | [.int n] => Q (.int (cutF n)) h
  | _ => False
@[simp] theorem s_cut {n : Int} {h : MH} {Q : MQ} {E : XQ} : sp_cut [.int n] h Q E = Q (.int (cutF n)) h := (rfl)
def sp_samples_of : MSp := fun ds h Q _ => ∃ t b ts bs, ds = [t, b] ∧ isNs t ts ∧ isNs b bs ∧ ts.length = 64 ∧ bs.length = 64 ∧ (∀ n ∈ ts, 0 ≤ n ∧ n ≤ 65535) ∧ Q (gridD fun y x => sampleF (sumF ts bs y x)) h
def sp_turned_colours : MSp := fun ds h Q _ => match ds with
  | [.int a, .int b, .int c] => Q (.tup [.int (redF a c), .int (greF a b c), .int (bluF a b)]) h
  | _ => False
@[simp] theorem s_turned {a b c : Int} {h : MH} {Q : MQ} {E : XQ} : sp_turned_colours [.int a, .int b, .int c] h Q E = Q (.tup [.int (redF a c), .int (greF a b c), .int (bluF a b)]) h := (rfl)
abbrev N_is_integer : List Str := ["thing"]
def rd_is_integer : WS :=
 (wRet (wAndV (wIsi ["int"] (wVar 0)) (wNotV (wIsi ["bool"] (wVar 0)))))

abbrev N_is_from : List Str := ["thing", "low", "high"]
def rd_is_from : WS :=
 (wRet (wAndV (wCall SM.sp_is_integer xF (wCons (wVar 0) wNil)) (wLeLe (wVar 1) (wVar 0) (wVar 2))))

abbrev N_are_from : List Str := ["thing", "many", "low", "high", "number"]
def rd_are_from : WS :=
 (wSeq (wIfS (wOr (wNot (wTruth (wIsi ["list", "tuple"] (wVar 0)))) (wTest (wOp (opEq true) (wCB fLen (wCons (wVar 0) wNil)) (wVar 1)))) (wRet (wC (.bl false))) wNext)
 (wRet (wCB fAll (wCons (wLc (wIt (wVar 0)) (put1 4) wYes (wCall SM.sp_is_from xF (wCons (wVar 4) (wCons (wVar 2) (wCons (wVar 3) wNil)))) [4]) wNil))))

abbrev N_wave : List Str := ["turns"]
def rd_wave : WS :=
 (wSeq (wSet 0 (wOp opAnd (wVar 0) (wC (.int 31))))
 (wSeq (wSet 0 (wIf (wTest (wGt (wVar 0) (wC (.int 16)))) (wOp opSub (wC (.int 32)) (wVar 0)) (wVar 0)))
 (wRet (wIf (wTest (wGt (wVar 0) (wC (.int 8)))) (wOp opSub (wC (.int 0)) (wOp opIx (wC k_WAVES) (wOp opSub (wC (.int 16)) (wVar 0)))) (wOp opIx (wC k_WAVES) (wVar 0))))))

abbrev N_weight_of : List Str := ["x", "u"]
def rd_weight_of : WS :=
 (wRet (wIf (wTest (wOp (opEq false) (wVar 1) (wC (.int 0)))) (wC k_FLAT) (wCall SM.sp_wave xF (wCons (wOp opMul (wOp opAdd (wOp opMul (wC (.int 2)) (wVar 0)) (wC (.int 1))) (wVar 1)) wNil))))

def lb_steps_of_0 : WS :=
 (wAsg (wOp opMul (wOp opIx (wVar 0) (wVar 3)) (wOp opIx (wVar 1) (wVar 3))) (gSt (wOp opIx (wVar 2) (wVar 4)) (wVar 5)))
abbrev N_steps_of : List Str := ["table", "block", "found", "k", "row", "column"]
def rd_steps_of : WS :=
 (wSeq (wSet 2 (wLc (wRange1 (wC (.int 8))) (put1 4) wYes (wOp opMulM (wLst (wCons (wC (.int 0)) wNil)) (wC (.int 8))) [4]))
 (wSeq (wFor (wEnum 0 (wCall TB.sp_zigzag_places xF wNil)) (gT 2 (gC (gN 3) (gC (gT 2 (gC (gN 4) (gC (gN 5) gZ))) gZ))) lb_steps_of_0)
 (wDz 2 (wRet (wVar 2)))))

def lb_sums_of_0 : WS :=
 (wDrop (wMt fAppend (wVar 3) (wCons (wLc (wRange1 (wC (.int 8))) (put1 7) wYes (wCB fSum (wCons (wLc (wZip (wCons (wOp opIx (wVar 2) (wVar 7)) (wCons (wVar 4) wNil))) (putT [9, 10]) wYes (wOp opMul (wVar 9) (wVar 10)) [9, 10]) wNil)) [7]) wNil)))
def lb_sums_of_1 : WS :=
 (wDrop (wMt fAppend (wVar 5) (wCons (wCB fTup (wCons (wLc (wRange1 (wC (.int 8))) (put1 7) wYes (wCB fSum (wCons (wLc (wRange1 (wC (.int 8))) (put1 11) wYes (wOp opMul (wOp opIx (wOp opIx (wVar 2) (wVar 6)) (wVar 11)) (wOp opIx (wOp opIx (wVar 3) (wVar 11)) (wVar 7))) [11]) wNil)) [7]) wNil)) wNil)))
abbrev N_sums_of : List Str := ["table", "block", "weights", "lines", "row", "found", "y", "x", "u", "one", "step", "v"]
def rd_sums_of : WS :=
 (wSeq (wSet 2 (wLc (wRange1 (wC (.int 8))) (put1 7) wYes (wLc (wRange1 (wC (.int 8))) (put1 8) wYes (wCall SM.sp_weight_of xF (wCons (wVar 7) (wCons (wVar 8) wNil))) [8]) [7]))
 (wSeq (wSet 3 (wLstM wNil))
 (wSeq (wFor (wIt (wCall SM.sp_steps_of xF (wCons (wVar 0) (wCons (wVar 1) wNil)))) (gN 4) lb_sums_of_0)
 (wFz 3 (wSeq (wSet 5 (wLstM wNil))
 (wSeq (wFor (wRange1 (wC (.int 8))) (gN 6) lb_sums_of_1)
 (wFz 5 (wRet (wCB fTup (wCons (wVar 5) wNil))))))))))

abbrev N_cut : List Str := ["number"]
def rd_cut : WS :=
 (wRet (wCB fMin2 (wCons (wC (.int 255)) (wCons (wCB fMax2 (wCons (wC (.int 0)) (wCons (wVar 0) wNil))) wNil))))

def lb_samples_of_0 : WS :=
 (wDrop (wMt fAppend (wVar 2) (wCons (wCB fTup (wCons (wLc (wIt (wVar 3)) (put1 4) wYes (wCall SM.sp_cut xF (wCons (wOp opAdd (wC (.int 128)) (wShr (wOp opAdd (wVar 4) (wC (.int 33554432))) (wC (.int 26)))) wNil)) [4]) wNil)) wNil)))
abbrev N_samples_of : List Str := ["table", "block", "rows", "row", "number"]
def rd_samples_of : WS :=
 (wSeq (wSet 2 (wLstM wNil))
 (wSeq (wFor (wIt (wCall SM.sp_sums_of xF (wCons (wVar 0) (wCons (wVar 1) wNil)))) (gN 3) lb_samples_of_0)
 (wFz 2 (wRet (wCB fTup (wCons (wVar 2) wNil))))))

section
variable (ds : List D) (h : MH) (Q' : MQ) (E' : XQ)
theorem and31 (t : Nat) : Builtin.bitAnd (t : Int) 31 = ((t % 32 : Nat) : Int) := by
  have : Builtin.bitAnd (t : Int) 31 = ((t &&& 31 : Nat) : Int) := by rfl
  rw [this]
  congr 1
  exact Nat.and_two_pow_sub_one_eq_mod t 5
theorem at_waves {v : Nat} (hv : v < 9) : atI [D.int 4096, D.int 4017, D.int 3784, D.int 3406, D.int 2896, D.int 2276, D.int 1567, D.int 799, D.int 0] (v : Int) = some (.int (wavesL.getD v 0)) := by
  have : ∀ v : Fin 9, atI [D.int 4096, D.int 4017, D.int 3784, D.int 3406, D.int 2896, D.int 2276, D.int 1567, D.int 799, D.int 0] ((v : Nat) : Int) = some (.int (wavesL.getD v 0)) := by
    intro v
    match v with
    | 0 => rfl | 1 => rfl | 2 => rfl | 3 => rfl | 4 => rfl | 5 => rfl | 6 => rfl | 7 => rfl | 8 => rfl
  exact this ⟨v, hv⟩
theorem pure_is_integer (s : sp_is_integer ds h Q' E') : rd_is_integer { nx := fun _ h' => Q' .non h', rt := Q' } (mstart N_is_integer ds) h := by
  unfold sp_is_integer at s
  split at s
  · obtain ⟨o, q⟩ := s
    exact isI_run o q
  · exact s.elim
theorem pure_is_from (s : sp_is_from ds h Q' E') : rd_is_from { nx := fun _ h' => Q' .non h', rt := Q' } (mstart N_is_from ds) h := by
  unfold sp_is_from at s
  split at s
  · rename_i d lo hi
    obtain ⟨o, q⟩ := s
    simp [rd_is_from, mstart_eq]
    refine ⟨o, ?_⟩
    rw [btw_isI] at q
    cases d <;> simp [isI] at q ⊢ <;> try exact q
    rename_i i
    simp [dInt] at q
    by_cases hl : lo ≤ i <;> simp [hl] at q ⊢ <;> exact q
  · exact s.elim
theorem pure_are_from (s : sp_are_from ds h Q' E') : rd_are_from { nx := fun _ h' => Q' .non h', rt := Q' } (mstart N_are_from ds) h := by
  unfold sp_are_from at s
  split at s
  · rename_i d n lo hi
    obtain ⟨o, q⟩ := s
    simp [rd_are_from, mstart_eq, -o_isi, isiR o]
    cases er : rowF d with
    | none =>
      simp [areFrom, er] at q
      simp
      exact q
    | some xs =>
      obtain ⟨ol, oe⟩ := okRow_row o er
      simp only [areFrom, er] at q
      simp [len_row _ _ er]
      by_cases hn : (xs.length : Int) = n
      · simp only [hn, decide_true, Bool.true_and] at q
        simp [hn, mwipe]
        refine all_list (fun x => btw x lo hi) xs (by omega) (fun x hx K k => ⟨_, rfl, ?_⟩) q
        simp
        exact ⟨oe x hx, k⟩
      · simp [hn] at q
        simp [hn]
        exact q
  · exact s.elim
theorem pure_wave (s : sp_wave ds h Q' E') : rd_wave { nx := fun _ h' => Q' .non h', rt := Q' } (mstart N_wave ds) h := by
  obtain ⟨t, rfl, q⟩ := s
  simp [rd_wave, mstart_eq, and31, -Int.natCast_emod]
  have hu : t % 32 < 32 := Nat.mod_lt _ (by decide)
  unfold waveF at q
  simp only at q
  generalize t % 32 = u at *
  have e16 : ((16 : Int) < (u : Int)) ↔ 16 < u := by omega
  by_cases c1 : 16 < u
  · have c1' : (16 : Int) < (u : Int) := by omega
    have e1 : (32 : Int) - u = ((32 - u : Nat) : Int) := by omega
    simp only [c1, gt_iff_lt, if_true] at q
    simp [c1', e1]
    generalize 32 - u = v at *
    by_cases c2 : 8 < v
    · have c2' : (8 : Int) < (v : Int) := by omega
      have e2 : (16 : Int) - v = ((16 - v : Nat) : Int) := by omega
      simp only [c2, if_true] at q
      simp [c2', e2, at_waves (show 16 - v < 9 by omega)]
      simpa using q
    · have c2' : ¬ (8 : Int) < (v : Int) := by omega
      simp only [c2, if_false] at q
      simp [c2', at_waves (show v < 9 by omega)]
      simpa using q
  · have c1' : ¬ (16 : Int) < (u : Int) := by omega
    simp only [c1, gt_iff_lt, if_false] at q
    simp [c1']
    by_cases c2 : 8 < u
    · have c2' : (8 : Int) < (u : Int) := by omega
      have e2 : (16 : Int) - u = ((16 - u : Nat) : Int) := by omega
      simp only [c2, if_true] at q
      simp [c2', e2, at_waves (show 16 - u < 9 by omega)]
      simpa using q
    · have c2' : ¬ (8 : Int) < (u : Int) := by omega
      simp only [c2, if_false] at q
      simp [c2', at_waves (show u < 9 by omega)]
      simpa using q
theorem pure_weight_of (s : sp_weight_of ds h Q' E') : rd_weight_of { nx := fun _ h' => Q' .non h', rt := Q' } (mstart N_weight_of ds) h := by
  obtain ⟨x, u, rfl, hx, hu, q⟩ := s
  simp [rd_weight_of, mstart_eq]
  by_cases c : u = 0
  · subst c
    simpa [weightF] using q
  · have c' : ¬ (u : Int) = 0 := by omega
    simp [c]
    refine ⟨small_mul (by omega), (2 * x + 1) * u, ?_, ?_⟩
    · simp
    · simpa [weightF, c] using q
theorem pure_cut (s : sp_cut ds h Q' E') : rd_cut { nx := fun _ h' => Q' .non h', rt := Q' } (mstart N_cut ds) h := by
  unfold sp_cut at s
  split at s
  · rename_i n
    simp [rd_cut, mstart_eq]
    unfold cutF at s
    by_cases h0 : n < 0
    · have : ¬ (0 < n) := by omega
      simp [h0] at s
      simpa [this] using s
    · simp [h0] at s
      by_cases h1 : 0 < n
      · simp [h1]
        by_cases h2 : n < 255
        · have : ¬ 255 < n := by omega
          simp [this] at s
          simpa [h2] using s
        · by_cases h3 : n = 255
          · subst h3; simpa using s
          · have : 255 < n := by omega
            simp [this] at s
            simpa [h2] using s
      · have : n = 0 := by omega
        subst this
        simpa using s
  · exact s.elim
theorem getD_get {ns : List Int} {k : Nat} (hk : k < ns.length) : ns[k]? = some (ns.getD k 0) := by
  simp [List.getD, hk]
theorem mem_getD {ns : List Int} {k : Nat} (hk : k < ns.length) : ns.getD k 0 ∈ ns := List.mem_of_getElem? (getD_get hk)
def stepTo (ts bs : List Int) (i r : Nat) : List D := (List.range 8).map fun c => .int (if zi r c < i then stepF ts bs r c else 0)
theorem step_set {ts bs : List Int} {i r c : Nat} (hr : r < 8) (hc : c < 8) (hz : zi r c = i) (hu : ∀ r' c', r' < 8 → c' < 8 → zi r' c' = i → r' = r ∧ c' = c) : (stepTo ts bs i r).set c (.int (stepF ts bs r c)) = stepTo ts bs (i + 1) r := by
  unfold stepTo
  apply List.ext_getElem
  · simp
  · intro j h1 h2
    simp at h1
    rw [List.getElem_set]
    by_cases hj : c = j
    · subst hj
      simp [hz]
    · rw [if_neg hj]
      simp
      have : zi r j ≠ i := fun z => hj (hu r j hr h1 z).2.symm
      by_cases hl : zi r j < i
      · rw [if_pos hl, if_pos (by omega)]
      · rw [if_neg hl, if_neg (by omega)]
theorem step_oth {ts bs : List Int} {i r r' c : Nat} (hr : r < 8) (hr' : r' < 8) (hne : r' ≠ r) (hu : ∀ r' c', r' < 8 → c' < 8 → zi r' c' = i → r' = r ∧ c' = c) : stepTo ts bs i r' = stepTo ts bs (i + 1) r' := by
  unfold stepTo
  apply List.map_congr_left
  intro j hj
  simp at hj
  have : zi r' j ≠ i := fun z => hne (hu r' j hr' hj z).1
  by_cases hl : zi r' j < i
  · rw [if_pos hl, if_pos (by omega)]
  · rw [if_neg hl, if_neg (by omega)]
theorem step_all {ts bs : List Int} {r : Nat} (hr : r < 8) : (D.lst (stepTo ts bs 64 r)) = rowI (stepF ts bs r) := by
  unfold stepTo rowI
  congr 1
  apply List.map_congr_left
  intro c hc
  simp at hc
  rw [if_pos (zi_lt hr hc)]
theorem pure_steps_of (s : sp_steps_of ds h Q' E') : rd_steps_of { nx := fun _ h' => Q' .non h', rt := Q' } (mstart N_steps_of ds) h := by
  obtain ⟨t, b, ts, bs, rfl, et, eb, lt, lb, ht, q⟩ := s
  have szl := szL
  simp [rd_steps_of, mstart_eq, List.replicate, mwipe]
  refine wLcGo_inv (fun i acc h' => ∃ ps : List Addr, ps.length = i ∧ acc = ps.map .ref ∧ ps.Nodup ∧ (∀ p ∈ ps, h p = none) ∧ h' = cells h ps (stepTo ts bs 0)) ⟨[], rfl, rfl, List.nodup_nil, by simp, by rw [cells_nil]⟩ ?_ ?_
  · rintro i d acc h' K e ⟨ps, pl, rfl, nd, hn, rfl⟩ hK
    obtain ⟨hi, rfl⟩ := range_get e
    refine ⟨_, rfl, ?_⟩
    simp
    intro p hp
    have np : p ∉ ps := fun z => by
      obtain ⟨j, hj⟩ := List.mem_iff_getElem?.mp z
      rw [cells_at nd hj] at hp; cases hp
    have hp0 : h p = none := by rw [cells_off np] at hp; exact hp
    refine ⟨by omega, hK _ _ ⟨ps ++ [p], by simp [pl], by simp, ?_, ?_, ?_⟩⟩
    · exact List.nodup_append.mpr ⟨nd, by simp, fun a ha b hb => by simp at hb; subst hb; intro z; exact np (z ▸ ha)⟩
    · intro q hq
      rcases List.mem_append.mp hq with z | z
      · exact hn q z
      · simp at z; rw [z]; exact hp0
    · rw [← cells_snoc np]
      simp [stepTo, List.replicate, List.range, List.range.loop]
  · rintro acc h' ⟨ps, pl, rfl, nd, hn, rfl⟩
    rw [range_len] at pl
    refine wLoop_inv (fun i σ h' => h' = cells h ps (stepTo ts bs i) ∧ ∃ v3 v4 v5, σ = [some t, some b, some (.lst (ps.map .ref)), v3, v4, v5]) ⟨rfl, _, _, _, rfl⟩ ?_ ?_
    · rintro i d σ h' K e ⟨rfl, v3, v4, v5, rfl⟩ hK
      obtain ⟨x, ex, rfl⟩ := enum_get e
      have hi : i < 64 := by
        have := (List.getElem?_eq_some_iff.mp ex).1
        rw [TB.zz64] at this; exact this
      obtain ⟨r, c, ezz, hr, hc, hz, hu⟩ := zz_rc hi
      rw [ezz] at ex; cases ex
      unfold lb_steps_of_0
      have at1 : atI (ts.map D.int) (i : Int) = some (.int (ts.getD i 0)) := at_nat (by omega)
      have bt1 : atI (bs.map D.int) (i : Int) = some (.int (bs.getD i 0)) := at_nat (by omega)
      have tb := ht _ (mem_getD (ns := ts) (k := i) (by omega))
      unfold isNs at et eb
      have e1 : ts.getD i 0 * bs.getD i 0 = stepF ts bs r c := by unfold stepF; rw [hz]
      generalize ts.getD i 0 = a at at1 tb e1
      generalize bs.getD i 0 = b0 at bt1 e1
      have pr : ps[r]? = some ps[r] := List.getElem?_eq_getElem (by omega)
      have ap : atI (ps.map D.ref) (r : Int) = some (.ref ps[r]) := by
        rw [atI_of (by simp; omega)]
        simp
      have ix : ixN (stepTo ts bs i r).length (c : Int) = some c := ixN_of (by simp [stepTo]; omega)
      simp [sq_row _ et, sq_row _ eb, at1, bt1, ap]
      refine ⟨small_mul (by omega), ?_⟩
      rw [cells_at nd pr]
      simp only [ix]
      rw [cells_set nd pr]
      refine hK _ _ ⟨?_, _, _, _, rfl⟩
      funext z
      unfold cells
      cases q : ps.idxOf? z with
      | none => rfl
      | some j =>
        have hj : j < 8 := by
          rw [List.idxOf?_eq_some_iff] at q
          obtain ⟨h1, _⟩ := q
          omega
        by_cases hjr : j = r
        · subst hjr
          simp only [if_true, e1, step_set hr hc hz hu]
        · simp only [hjr, if_false, step_oth hr hj hjr hu]
    · rintro σ h' ⟨rfl, v3, v4, v5, rfl⟩
      rw [enum_len, TB.zz64]
      simp [dz_cells nd hn, pl]
      have : (List.range 8).map (fun i => D.lst (stepTo ts bs 64 i)) = (List.range 8).map fun r => rowI (stepF ts bs r) := by
        apply List.map_congr_left
        intro r hr
        exact step_all (by simpa using hr)
      rw [this]
      exact q

theorem range_map_succ {α : Type} (f : Nat → α) (i : Nat) : (List.range (i + 1)).map f = (List.range i).map f ++ [f i] := by
  rw [List.range_succ, List.map_append]; rfl
theorem rowI_at {f : Nat → Int} {u : Nat} (hu : u < 8) : atI ((List.range 8).map fun x => D.int (f x)) (u : Int) = some (.int (f u)) := by
  rw [atI_of (by simpa using hu)]
  simp
theorem rowsI_at {f : Nat → D} {u : Nat} (hu : u < 8) : atI ((List.range 8).map f) (u : Int) = some (f u) := by
  rw [atI_of (by simpa using hu)]
  simp
theorem ints_map {α : Type} (f : α → Int) : ∀ xs : List α, intsOf (xs.map fun x => D.int (f x)) = some (xs.map f)
  | [] => rfl
  | x :: xs => by simp [intsOf, ints_map f xs]
theorem sum_map {h : MH} {Q : MQ} {α : Type} (f : α → Int) (xs : List α) (q : Q (.int (xs.map f).sum) h) : fSum [.lst (xs.map fun x => D.int (f x))] h Q := by
  unfold fSum
  simp only [ls_lst, Option.bind_some, ints_map]
  exact q
theorem zip_rowI {f g : Nat → Int} : zipD ((List.range 8).map fun x => D.int (f x)) ((List.range 8).map fun x => D.int (g x)) = (List.range 8).map fun u => D.tup [.int (f u), .int (g u)] := by
  simp [zipD, List.range, List.range.loop]
theorem pure_sums_of (s : sp_sums_of ds h Q' E') : rd_sums_of { nx := fun _ h' => Q' .non h', rt := Q' } (mstart N_sums_of ds) h := by
  obtain ⟨t, b, ts, bs, rfl, et, eb, lt, lb, ht, q⟩ := s
  have szl := szL
  simp [rd_sums_of, mstart_eq, List.replicate, mwipe]
  refine lc_rangeD 8 (fun x => rowI (weightF x)) (by simp) (fun x hx K k => ⟨_, rfl, ?_⟩) ?_
  · simp [mwipe]
    refine lc_rangeD 8 (fun u => .int (weightF x u)) (by simp) (fun u hu K k => ⟨_, rfl, ?_⟩) k
    simp
    exact ⟨x, u, rfl, by omega, by omega, k⟩
  intro p hp
  refine ⟨t, b, ts, bs, rfl, et, eb, lt, lb, ht, ?_⟩
  simp
  refine wLoop_inv (fun i σ h' => h' = mupd h p (.lst ((List.range i).map fun v => rowI (lineF ts bs v))) ∧ ∃ v4 v6 v7 v8 v9 v10 v11, σ = [some t, some b, some (.lst ((List.range 8).map fun x => rowI (weightF x))), some (.ref p), v4, none, v6, v7, v8, v9, v10, v11]) ⟨rfl, _, _, _, _, _, _, _, rfl⟩ ?_ ?_
  · rintro i d σ h' K e ⟨rfl, v4, v6, v7, v8, v9, v10, v11, rfl⟩ hK
    obtain ⟨r, er, rfl⟩ := map_get e
    have hi : i < 8 := by simpa using (List.getElem?_eq_some_iff.mp er).1
    have : r = i := by rw [List.getElem?_range hi] at er; exact (Option.some.inj er).symm
    subst this
    unfold lb_sums_of_0
    simp [mwipe]
    refine lc_rangeD 8 (fun x => .int (lineF ts bs r x)) (by simp) (fun x hx K k => ⟨_, rfl, ?_⟩) ?_
    · have a1 : atI ((List.range 8).map fun x => rowI (weightF x)) (x : Int) = some (rowI (weightF x)) := rowsI_at hx
      simp [a1, mwipe]
      simp [rowI, zip_rowI]
      refine lc_over (fun u : Nat => D.tup [.int (weightF x u), .int (stepF ts bs r u)]) (fun u => .int (weightF x u * stepF ts bs r u)) _ (by simp) (fun u hu K k => ⟨_, rfl, ?_⟩) ?_
      · have := weight_small (x := x) (u := u)
        simp [msetAll]
        exact ⟨small_mul (by omega), k⟩
      · exact sum_map (fun u => weightF x u * stepF ts bs r u) (List.range 8) k
    · simp
      refine ⟨by omega, hK _ _ ⟨?_, _, _, _, _, _, _, _, rfl⟩⟩
      rw [range_map_succ _ r]
      rfl
  · rintro σ h' ⟨rfl, v4, v6, v7, v8, v9, v10, v11, rfl⟩
    simp [mdel_mupd hp]
    intro p2 hp2
    refine wLoop_inv (fun i σ h' => h' = mupd h p2 (.lst ((List.range i).map fun y => .tup ((List.range 8).map fun x => .int (sumF ts bs y x)))) ∧ ∃ v6 v7 v11, σ = [some t, some b, some (.lst ((List.range 8).map fun x => rowI (weightF x))), some (.lst ((List.range 8).map fun v => rowI (lineF ts bs v))), v4, some (.ref p2), v6, v7, v8, v9, v10, v11]) ⟨rfl, _, _, _, rfl⟩ ?_ ?_
    · rintro i d σ h' K e ⟨rfl, v6, v7, v11, rfl⟩ hK
      obtain ⟨hi, rfl⟩ := range_get e
      have z : (0 : Int) + (i : Nat) = (i : Nat) := by omega
      rw [z]
      unfold lb_sums_of_1
      simp [mwipe]
      refine lc_rangeD 8 (fun x => .int (sumF ts bs i x)) (by simp) (fun x hx K k => ⟨_, rfl, ?_⟩) ?_
      · simp [mwipe]
        refine lc_rangeD 8 (fun v => .int (weightF i v * lineF ts bs v x)) (by simp) (fun v hv K k => ⟨_, rfl, ?_⟩) ?_
        · have a1 : atI ((List.range 8).map fun x => rowI (weightF x)) (i : Int) = some (rowI (weightF i)) := rowsI_at hi
          have a2 : atI ((List.range 8).map fun v => rowI (lineF ts bs v)) (v : Int) = some (rowI (lineF ts bs v)) := rowsI_at hv
          have a3 := rowI_at (f := weightF i) hv
          have a4 := rowI_at (f := lineF ts bs v) hx
          have := weight_small (x := i) (u := v)
          simp [a1, a2]
          simp [rowI, a3, a4]
          exact ⟨small_mul (by omega), k⟩
        · exact sum_map (fun v => weightF i v * lineF ts bs v x) (List.range 8) k
      · simp
        refine ⟨by omega, hK _ _ ⟨?_, _, _, _, rfl⟩⟩
        rw [range_map_succ _ i]
    · rintro σ h' ⟨rfl, v6, v7, v11, rfl⟩
      simp [mdel_mupd hp2]
      exact q
theorem pure_samples_of (s : sp_samples_of ds h Q' E') : rd_samples_of { nx := fun _ h' => Q' .non h', rt := Q' } (mstart N_samples_of ds) h := by
  obtain ⟨t, b, ts, bs, rfl, et, eb, lt, lb, ht, q⟩ := s
  have szl := szL
  simp [rd_samples_of, mstart_eq, List.replicate]
  intro p hp
  refine ⟨t, b, ts, bs, rfl, et, eb, lt, lb, ht, ?_⟩
  simp [gridD]
  refine wLoop_inv (fun i σ h' => h' = mupd h p (.lst ((List.range i).map fun y => .tup ((List.range 8).map fun x => .int (sampleF (sumF ts bs y x))))) ∧ ∃ v3 v4, σ = [some t, some b, some (.ref p), v3, v4]) ⟨rfl, _, _, rfl⟩ ?_ ?_
  · rintro i d σ h' K e ⟨rfl, v3, v4, rfl⟩ hK
    obtain ⟨r, er, rfl⟩ := map_get e
    have hi : i < 8 := by simpa using (List.getElem?_eq_some_iff.mp er).1
    have : r = i := by rw [List.getElem?_range hi] at er; exact (Option.some.inj er).symm
    subst this
    unfold lb_samples_of_0
    simp [mwipe]
    refine lc_over (fun x : Nat => D.int (sumF ts bs r x)) (fun x => .int (sampleF (sumF ts bs r x))) _ (by simp) (fun x hx K k => ⟨_, rfl, ?_⟩) ?_
    · simp
      exact k
    · simp
      refine ⟨by omega, hK _ _ ⟨?_, _, _, rfl⟩⟩
      rw [range_map_succ _ r]
  · rintro σ h' ⟨rfl, v3, v4, rfl⟩
    simp [mdel_mupd hp]
    exact q
end

end SM
namespace SR
open PySem PySem.Spec PyProof.Rows L2 BP






section
variable (ds : List D) (h : MH) (Q' : MQ) (E' : XQ)
open TB
theorem sOk_app {a b : Str} (ha : PyData.strOk a = true) (hb : PyData.strOk b = true) : PyData.strOk (a ++ b) = true := by
  unfold PyData.strOk at *
  show (a.cps ++ b.cps).all _ = true
  rw [Array.all_append, ha, hb]; rfl
theorem sOk_of (s : String) : PyData.strOk (Str.ofString s) = true := by
  rw [Str.ofString_eq_toList]
  unfold PyData.strOk
  simp only [List.all_toArray', List.all_eq_true, List.mem_map, decide_eq_true_eq]
  rintro n ⟨c, _, rfl⟩
  have := c.valid
  simp only [Char.toNat]
  have h2 : c.val.toNat < 0xd800 ∨ (0xdfff < c.val.toNat ∧ c.val.toNat < 0x110000) := this
  omega
theorem sOk_text : ∀ (ts : List Str) (k : Nat) (acc : Str), PyData.strOk acc = true → (∀ t ∈ ts, PyData.strOk t = true) → PyData.strOk (textFrom k acc ts) = true
  | [], k, acc, h, _ => h
  | t :: ts, k, acc, h, hs => by
    refine sOk_text ts (k + 1) _ (sOk_app (sOk_app h ?_) (hs t List.mem_cons_self)) fun x hx => hs x (List.mem_cons_of_mem _ hx)
    exact sOk_of _
theorem sOk_list {ts : List Str} (h : ∀ t ∈ ts, PyData.strOk t = true) : PyData.strOk (listText ts) = true := sOk_app (sOk_text ts 0 _ (sOk_of _) h) (sOk_of _)
structure Nc (W P : Nat) (d : D) (p : PyData) : Prop where
  t : toP d = some p
  s : p.showable = true
  l : p.leavesShort 13 = true
  d : p.depth ≤ P
  w : p.weight ≤ W
  o : PyData.strOk p.shown = true
theorem Nc.up {W P W' P' : Nat} {d : D} {p : PyData} (h : Nc W P d p) (hw : W ≤ W') (hp : P ≤ P') : Nc W' P' d p := ⟨h.t, h.s, h.l, by have := h.d; omega, by have := h.w; omega, h.o⟩
theorem nc_int {i : Int} (h : i.natAbs < 10 ^ 12) : Nc 41 0 (.int i) (.int i) := by
  have lg : i.natAbs.log2 ≤ 39 := by
    by_cases z : i.natAbs = 0
    · rw [z]; decide
    · have := (Nat.log2_lt z).mpr (show i.natAbs < 2 ^ 40 from Nat.lt_of_lt_of_le h (by decide))
      omega
  refine ⟨rfl, ?_, ?_, Nat.le_refl _, ?_, sOk_of _⟩
  · simp only [PyData.showable, decide_eq_true_eq]; omega
  · simp only [PyData.leavesShort, decide_eq_true_eq]; exact PyData.shown_int_le h
  · simp only [PyData.weight]
    split <;> omega
structure Ncs (W P : Nat) (ds : List D) (ps : List PyData) : Prop where
  t : toPs ds = some ps
  s : PyData.showableAll ps = true
  l : PyData.leavesShortAll 13 ps = true
  d : PyData.depthAll ps ≤ P
  w : PyData.weightAll ps ≤ (W + 1) * ds.length
  o : ∀ t ∈ PyData.shownAll ps, PyData.strOk t = true
theorem nc_all {W P : Nat} : ∀ ds : List D, (∀ d ∈ ds, ∃ p, Nc W P d p) → ∃ ps, Ncs W P ds ps
  | [], _ => ⟨[], rfl, rfl, rfl, Nat.zero_le _, Nat.zero_le _, by intro t h; cases h⟩
  | d :: ds, h => by
    obtain ⟨ps, h1, h2, h3, h4, h5, h6⟩ := nc_all ds fun x hx => h x (List.mem_cons_of_mem _ hx)
    obtain ⟨p, k1, k2, k3, k4, k5, k6⟩ := h d List.mem_cons_self
    refine ⟨p :: ps, ?_, ?_, ?_, ?_, ?_, ?_⟩
    · simp only [toPs, k1, h1]
    · simp only [PyData.showableAll, k2, h2, Bool.and_true]
    · simp only [PyData.leavesShortAll, k3, h3, Bool.and_true]
    · simp only [PyData.depthAll]; omega
    · simp only [PyData.weightAll, List.length_cons]
      rw [Nat.mul_succ]; omega
    · intro t ht
      simp only [PyData.shownAll, List.mem_cons] at ht
      rcases ht with rfl | ht
      · exact k6
      · exact h6 t ht
theorem nc_lst {W P : Nat} {ds : List D} (h : ∀ d ∈ ds, ∃ p, Nc W P d p) : ∃ p, Nc ((W + 1) * ds.length) (P + 1) (.lst ds) p := by
  obtain ⟨ps, h1, h2, h3, h4, h5, h6⟩ := nc_all ds h
  exact ⟨.list ps, by simp only [toP, h1, Option.map_some], h2, h3, Nat.succ_le_succ h4, h5, sOk_list h6⟩
theorem Nc.fits {W P : Nat} {d : D} {p : PyData} (h : Nc W P d p) (hw : W ≤ 2 ^ 20) (hp : P ≤ 64) : p.showable = true ∧ p.shown.length ≤ sizeLine ∧ p.depth ≤ 64 :=
  ⟨h.s, PyData.shown_fits (by decide) (by decide) h.l (Nat.le_trans h.w hw), Nat.le_trans h.d hp⟩
end

end SR
namespace PU
open PySem PySem.Spec PyProof.Rows L2 BP


def Cn (h : MH) (s : Addr) (n : Nat) : Prop := ∃ a b c : Int, h s = some (.lst [.int a, .int b, .int c]) ∧ 0 ≤ b ∧ b < 2147483563 ∧ 0 ≤ c ∧ c ≤ n
theorem Cn.src {h : MH} {s : Addr} {n : Nat} (c : Cn h s n) : Src h s := by
  obtain ⟨x, y, z, e, _⟩ := c
  exact ⟨x, y, z, e⟩
theorem Cn.mono {h : MH} {s : Addr} {n m : Nat} (c : Cn h s n) (l : n ≤ m) : Cn h s m := by
  obtain ⟨x, y, z, e, b0, b1, c0, c1⟩ := c
  exact ⟨x, y, z, e, b0, b1, c0, by omega⟩
theorem Cn.same {h h' : MH} {s : Addr} {n : Nat} (c : Cn h s n) (e : h' s = h s) : Cn h' s n := by
  obtain ⟨x, y, z, e1, r⟩ := c
  exact ⟨x, y, z, e.trans e1, r⟩
theorem Cn.upd {h : MH} {s p : Addr} {n : Nat} {c : Cell} (k : Cn h s n) (ne : p ≠ s) : Cn (mupd h p c) s n := k.same (mupd_ne (Ne.symm ne))
theorem Cn.del {h : MH} {s p : Addr} {n : Nat} (k : Cn h s n) (ne : p ≠ s) : Cn (mdel h p) s n := k.same (by unfold mdel; rw [if_neg (Ne.symm ne)])
theorem Cn.new {h : MH} {s p : Addr} {n : Nat} {c : Cell} (k : Cn h s n) (hp : h p = none) : Cn (mupd h p c) s n := k.upd (by rintro rfl; exact k.src.some hp)

def sp_law_purse : MSp := fun ds h Q _ => ∃ z : Int, ds = [.int z] ∧ ∀ p a b, h p = none → 0 ≤ b → b < 2147483563 → Q (.ref p) (mupd h p (.lst [.int a, .int b, .int 5]))
def sp_law_coin : MSp := fun ds h Q _ => ∃ (s : Addr) (m : Int) (n : Nat), ds = [.ref s, .int m] ∧ Cn h s n ∧ n ≤ 1000000000 ∧ 0 < m ∧ divOk 0 m ∧ ∀ (r : Int) (h' : MH), 0 ≤ r → r < m → Fro h h' s → Cn h' s (n + 1) → Q (.int r) h'
def sp_law_pick : MSp := fun ds h Q _ => ∃ (s : Addr) (d : D) (xs : List D) (n : Nat), ds = [.ref s, d] ∧ (d = .lst xs ∨ d = .tup xs) ∧ Cn h s n ∧ n ≤ 1000000000 ∧ 0 < xs.length ∧ xs.length ≤ 1000000 ∧ ∀ (x : D) (h' : MH), x ∈ xs → Fro h h' s → Cn h' s (n + 1) → Q x h'

abbrev N_law_purse : List Str := ["_law_cell"]
def rd_law_purse : WS :=
 (wRet (wLstM (wCons (wOp opMul (wVar 0) (wCB fInt (wCons (wGe (wVar 0) (wPow (wC (.int 10)) (wC (.int 18)))) wNil))) (wCons (wMod (wCB fInt (wCons (wVar 0) wNil)) (wC (.int 2147483563))) (wCons (wC (.int 5)) wNil)))))

abbrev N_law_coin : List Str := ["_law_purse_here", "_law_amount", "_law_mixed", "_law_coin_here"]
def rd_law_coin : WS :=
 (wSeq (wIfS (wTest (wGt (wOp opIx (wVar 0) (wC (.int 0))) (wC (.int 0)))) (wSeq (wSet 3 (wMod (wCB fInt (wCons (wOp opIx (wVar 0) (wC (.int 0))) wNil)) (wVar 1)))
 (wSeq (wAsg (wDiv (wOp opIx (wVar 0) (wC (.int 0))) (wVar 1)) (gSt (wVar 0) (wC (.int 0))))
 (wRet (wVar 3)))) wNext)
 (wSeq (wAsg (wOp opAdd (wOp opIx (wVar 0) (wC (.int 2))) (wC (.int 1))) (gSt (wVar 0) (wC (.int 2))))
 (wSeq (wSet 2 (wMod (wCB fInt (wCons (wPow (wOp opAdd (wOp opAdd (wOp opIx (wVar 0) (wC (.int 1))) (wOp opMul (wC (.int 90023)) (wOp opIx (wVar 0) (wC (.int 2))))) (wC (.int 3))) (wC (.int 3))) wNil)) (wC (.int 2147483587))))
 (wSeq (wSet 2 (wMod (wCB fInt (wCons (wOp opMul (wOp opAdd (wVar 2) (wOp opMul (wC (.int 9)) (wOp opIx (wVar 0) (wC (.int 2))))) (wOp opAdd (wDiv (wVar 2) (wC (.int 1033))) (wC (.int 70001)))) wNil)) (wC (.int 2147483549))))
 (wRet (wMod (wCB fInt (wCons (wDiv (wMod (wCB fInt (wCons (wOp opMul (wVar 2) (wOp opAdd (wDiv (wVar 2) (wC (.int 2029))) (wC (.int 40013)))) wNil)) (wC (.int 2147483543))) (wC (.int 3))) wNil)) (wVar 1)))))))

abbrev N_law_pick : List Str := ["_law_purse_here", "_law_some"]
def rd_law_pick : WS :=
 (wRet (wOp opIx (wVar 1) (wCall PU.sp_law_coin xF (wCons (wVar 0) (wCons (wCB fLen (wCons (wVar 1) wNil)) wNil)))))


section
variable (ds : List D) (h : MH) (Q' : MQ) (E' : XQ)
theorem pure_law_purse (s : sp_law_purse ds h Q' E') : rd_law_purse { nx := fun _ h' => Q' .non h', rt := Q' } (mstart N_law_purse ds) h := by
  obtain ⟨z, rfl, q⟩ := s
  have szl := szL
  simp [rd_law_purse, mstart_eq, List.replicate]
  refine ⟨small_mulR (by split <;> omega), fun p hp => ?_⟩
  exact q p _ _ hp (Int.emod_nonneg _ (by omega)) (Int.emod_lt_of_pos _ (by omega))
theorem pure_law_coin (s : sp_law_coin ds h Q' E') : rd_law_coin { nx := fun _ h' => Q' .non h', rt := Q' } (mstart N_law_coin ds) h := by
  obtain ⟨s, m, n, rfl, ⟨a, b, c, e, b0, b1, c0, c1⟩, hn, hm, hd, q⟩ := s
  simp [rd_law_coin, mstart_eq, e, atI, ixN, List.replicate]
  split
  · refine ⟨hm, hd, q _ _ (Int.emod_nonneg _ (by omega)) (Int.emod_lt_of_pos _ hm) .upd ⟨_, _, _, mupd_same, b0, b1, c0, by omega⟩⟩
  · have p1 : powOk (b + 90023 * (c + 1) + 3) 3 := powOk_of (by omega) (by omega) (by omega)
    refine ⟨p1, ?_⟩
    generalize (b + 90023 * (c + 1) + 3) ^ Int.toNat 3 = y1
    have k2 := Int.emod_nonneg y1 (b := 2147483587) (by omega)
    have k3 := Int.emod_lt_of_pos y1 (b := 2147483587) (by omega)
    generalize y1 % 2147483587 = x2 at *
    refine ⟨small_mul (by omega), ?_⟩
    generalize (x2 + 9 * (c + 1)) * (x2 / 1033 + 70001) = y
    have k4 := Int.emod_nonneg y (b := 2147483549) (by omega)
    have k5 := Int.emod_lt_of_pos y (b := 2147483549) (by omega)
    generalize y % 2147483549 = x3 at *
    refine ⟨small_mul (by omega), hm, ?_⟩
    exact q _ _ (Int.emod_nonneg _ (by omega)) (Int.emod_lt_of_pos _ hm) .upd ⟨_, _, _, mupd_same, b0, b1, by omega, by omega⟩
theorem pure_law_pick (s : sp_law_pick ds h Q' E') : rd_law_pick { nx := fun _ h' => Q' .non h', rt := Q' } (mstart N_law_pick ds) h := by
  obtain ⟨s, d, xs, n, rfl, hd, hs, hn, h0, h1, q⟩ := s
  rcases hd with rfl | rfl
  all_goals
    simp [rd_law_pick, mstart_eq, List.replicate]
    refine ⟨s, _, n, rfl, hs, hn, by omega, div_small (by omega) (by omega), fun r h' r0 r1 f k => ?_⟩
    obtain ⟨x, e1, e2, _⟩ := atI_in (xs := xs) r0 r1
    simp only [o_ix, sq_lst, sq_tup, e1]
    exact q x h' e2 f k
theorem coin_ok {h : MH} {s : Addr} {m : Int} {n : Nat} {Q : MQ} {E : XQ} (hs : Cn h s n) (hn : n ≤ 1000000000) (h0 : 0 < m) (h1 : m < 18446744073709551616) (q : ∀ (r : Int) (h' : MH), 0 ≤ r → r < m → Fro h h' s → Cn h' s (n + 1) → Q (.int r) h') : sp_law_coin [.ref s, .int m] h Q E :=
  ⟨s, m, n, rfl, hs, hn, h0, div_small h0 (by omega), q⟩
theorem pick_ok {h : MH} {s : Addr} {xs : List D} {n : Nat} {Q : MQ} {E : XQ} (hs : Cn h s n) (hn : n ≤ 1000000000) (h0 : 0 < xs.length) (h1 : xs.length ≤ 1000000) (q : ∀ (x : D) (h' : MH), x ∈ xs → Fro h h' s → Cn h' s (n + 1) → Q x h') : sp_law_pick [.ref s, .lst xs] h Q E :=
  ⟨s, _, xs, n, rfl, .inl rfl, hs, hn, h0, h1, q⟩
end

end PU
namespace AG
open PySem PySem.Spec PyProof.Rows L2 BP
abbrev k_BITS : D := .int 26
abbrev k_LEAST_ENTRY : D := .int 16
abbrev k_MOST_AWAY : D := .int 5
abbrev k_MOST_ENTRY : D := .int 65535
open TB SM
def Gr (d : D) (g : Nat → Nat → Int) : Prop := ∃ rs : List D, rowF d = some rs ∧ rs.length = 8 ∧ ∀ y r, rs[y]? = some r → isNs r ((List.range 8).map (g y))
def isGr (d : D) (lo hi : Int) : Bool := match rowF d with
  | some rs => decide (rs.length = 8) && rs.all fun r => areFrom r 8 lo hi
  | none => false
def okGr (h : MH) (d : D) : Bool := okRow h d && match rowF d with
  | some rs => rs.all (okRow h)
  | none => true
theorem gr_of {d : D} {lo hi : Int} (h : isGr d lo hi = true) : ∃ g, Gr d g ∧ ∀ y x, y < 8 → x < 8 → lo ≤ g y x ∧ g y x ≤ hi := by
  unfold isGr at h
  cases e : rowF d with
  | none => rw [e] at h; cases h
  | some rs =>
    rw [e] at h
    simp only [Bool.and_eq_true, decide_eq_true_eq, List.all_eq_true] at h
    obtain ⟨hl, ha⟩ := h
    refine ⟨fun y x => (((rowF (rs.getD y .non)).getD []).map dInt).getD x 0, ⟨rs, e, hl, fun y r er => ?_⟩, fun y x hy hx => ?_⟩
    · obtain ⟨ns, n1, n2, n3⟩ := from_ns (ha r (List.mem_of_getElem? er))
      have gd : rs.getD y .non = r := by rw [List.getD_eq_getElem?_getD, er]; rfl
      unfold isNs at n1 ⊢
      show rowF r = some (((List.range 8).map fun x => (((rowF (rs.getD y .non)).getD []).map dInt).getD x 0).map .int)
      rw [gd, n1]
      congr 1
      simp only [Option.getD_some, List.map_map]
      apply List.ext_getElem
      · simp; omega
      · intro i h1 h2
        have : i < ns.length := by simpa using h1
        simp [List.getD, this, dInt]
    · have hy' : y < rs.length := by omega
      have er : rs[y]? = some rs[y] := List.getElem?_eq_getElem hy'
      obtain ⟨ns, n1, n2, n3⟩ := from_ns (ha _ (List.mem_of_getElem? er))
      have gd : rs.getD y .non = rs[y] := by rw [List.getD_eq_getElem?_getD, er]; rfl
      unfold isNs at n1
      show lo ≤ (((rowF (rs.getD y .non)).getD []).map dInt).getD x 0 ∧ (((rowF (rs.getD y .non)).getD []).map dInt).getD x 0 ≤ hi
      rw [gd, n1]
      have hx' : x < ns.length := by omega
      have ex : (((some (ns.map D.int)).getD []).map dInt).getD x 0 = ns[x] := by simp [List.getD, hx', dInt]
      rw [ex]
      exact n3 _ (List.getElem_mem _)
def zzP : List (Nat × Nat) := zzD.map fun d => match d with
  | .tup [.int r, .int c] => (r.toNat, c.toNat)
  | _ => (0, 0)
theorem zzP_len : zzP.length = 64 := by unfold zzP; rw [List.length_map]; exact zz64
theorem zzP_at {k : Nat} (hk : k < 64) : ∃ r c, zzP[k]? = some (r, c) ∧ r < 8 ∧ c < 8 ∧ zi r c = k ∧ zzD[k]? = some (.tup [.int (r : Int), .int (c : Int)]) := by
  obtain ⟨r, c, e, hr, hc, hz, _⟩ := zz_rc hk
  refine ⟨r, c, ?_, hr, hc, hz, e⟩
  unfold zzP
  rw [List.getElem?_map, e]
  simp
theorem zzD_map : zzD = zzP.map fun z => .tup [.int (z.1 : Int), .int (z.2 : Int)] := by
  apply List.ext_getElem?
  intro k
  by_cases hk : k < 64
  · obtain ⟨r, c, e, _, _, _, e2⟩ := zzP_at hk
    rw [List.getElem?_map, e, e2]; rfl
  · rw [List.getElem?_eq_none (by rw [zz64]; omega), List.getElem?_eq_none (by rw [List.length_map, zzP_len]; omega)]
theorem zzP_mem {z : Nat × Nat} (h : z ∈ zzP) : z.1 < 8 ∧ z.2 < 8 := by
  obtain ⟨k, hk⟩ := List.mem_iff_getElem?.mp h
  have : k < 64 := by
    have := (List.getElem?_eq_some_iff.mp hk).1
    rw [zzP_len] at this; exact this
  obtain ⟨r, c, e, hr, hc, _⟩ := zzP_at this
  rw [e] at hk; cases hk
  exact ⟨hr, hc⟩
def linF (g : Nat → Nat → Int) (u y : Nat) : Int := ((List.range 8).map fun x => weightF x u * (g y x - 128)).sum
def wavF (g : Nat → Nat → Int) (v u : Nat) : Int := ((List.range 8).map fun y => weightF y v * linF g u y).sum
def wavesF (g : Nat → Nat → Int) : List Int := zzP.map fun z => wavF g z.1 z.2
theorem waves_len (g : Nat → Nat → Int) : (wavesF g).length = 64 := by unfold wavesF; rw [List.length_map, zzP_len]
theorem sum_abs (f : Nat → Int) (B : Nat) : ∀ n, (∀ i, i < n → (f i).natAbs ≤ B) → (((List.range n).map f).sum).natAbs ≤ n * B
  | 0, _ => by simp
  | n + 1, h => by
    have ih := sum_abs f B n fun i hi => h i (by omega)
    have := h n (by omega)
    rw [List.range_succ, List.map_append, List.sum_append]
    simp only [List.map_cons, List.map_nil, List.sum_cons, List.sum_nil]
    rw [Nat.add_mul]
    omega
theorem mul_abs {a b : Int} {A B : Nat} (h1 : a.natAbs ≤ A) (h2 : b.natAbs ≤ B) : (a * b).natAbs ≤ A * B := by
  rw [Int.natAbs_mul]
  exact Nat.mul_le_mul h1 h2
theorem w_abs (x u : Nat) : (weightF x u).natAbs ≤ 5000 := by
  have := weight_small (x := x) (u := u)
  omega
theorem wav_abs {g : Nat → Nat → Int} (hg : ∀ y x, y < 8 → x < 8 → 0 ≤ g y x ∧ g y x ≤ 255) (v u : Nat) : (wavF g v u).natAbs ≤ 204800000000 := by
  have l : ∀ y, y < 8 → (linF g u y).natAbs ≤ 5120000 := by
    intro y hy
    have := sum_abs (fun x => weightF x u * (g y x - 128)) (5000 * 128) 8 fun x hx => mul_abs (w_abs x u) (by have := hg y x hy hx; omega)
    unfold linF; omega
  have := sum_abs (fun y => weightF y v * linF g u y) (5000 * 5120000) 8 fun y hy => mul_abs (w_abs y v) (l y hy)
  unfold wavF; omega
theorem waves_abs {g : Nat → Nat → Int} (hg : ∀ y x, y < 8 → x < 8 → 0 ≤ g y x ∧ g y x ≤ 255) : ∀ w ∈ wavesF g, w.natAbs ≤ 204800000000 := by
  intro w hw
  obtain ⟨z, _, rfl⟩ := List.mem_map.mp hw
  exact wav_abs hg _ _
def nearF (hs ts : List Int) : List Int := (hs.zip ts).map fun z => (2 * z.1 + z.2 * 67108864) / (z.2 * 134217728)
def farF (hs ts bs : List Int) : Bool := ((hs.zip ts).zip bs).any fun z => decide (335544320 < (z.1.1 - z.1.2 * z.2 * 67108864).natAbs)
def sameG (a b : Nat → Nat → Int) : Bool := (List.range 8).all fun y => (List.range 8).all fun x => a y x == b y x
def ifF (ts : List Int) (g : Nat → Nat → Int) (hs : List Int) : Option (List Int) :=
  if farF hs ts (nearF hs ts) = true then none else if sameG (fun y x => sampleF (sumF ts (nearF hs ts) y x)) g = true then some (nearF hs ts) else none
def ifD (r : Option (List Int)) : D := match r with
  | some bs => .tup (bs.map .int)
  | none => .non
def sp_check_samples : MSp := fun ds h Q E => ∃ d, ∃ lo hi : Int, ds = [d, .int lo, .int hi] ∧ okGr h d = true ∧ if isGr d lo hi = true then Q .non h else E "NoSamples" [("part", .str "samples")] h
def sp_waves_of : MSp := fun ds h Q _ => ∃ d g, ds = [d] ∧ Gr d g ∧ Q (.tup ((wavesF g).map .int)) h
def sp_block_if : MSp := fun ds h Q _ => ∃ t d hs ts g, ds = [t, d, .tup (hs.map .int)] ∧ isNs t ts ∧ ts.length = 64 ∧ hs.length = 64 ∧ (∀ n ∈ ts, 1 ≤ n ∧ n ≤ 65535) ∧ (∀ w ∈ hs, w.natAbs ≤ 204800000000) ∧ Gr d g ∧ Q (ifD (ifF ts g hs)) h
def sp_waves : MSp := fun ds h Q E => ∃ d, ds = [d] ∧ okGr h d = true ∧ (isGr d 0 255 = false → E "NoSamples" [("part", .str "samples")] h) ∧ (isGr d 0 255 = true → ∀ g, Gr d g → Q (.tup ((wavesF g).map .int)) h)
def sp_again : MSp := fun ds h Q E => ∃ t d, ds = [t, d] ∧ okRow h t = true ∧ okGr h d = true ∧ if areFrom t 64 16 65535 = true then ((isGr d 1 254 = false → E "NoSamples" [("part", .str "samples")] h) ∧ (isGr d 1 254 = true → ∀ ts g, isNs t ts → Gr d g → Q (ifD (ifF ts g (wavesF g))) h)) else E "NoSamples" [("part", .str "table")] h
abbrev N_check_samples : List Str := ["rows", "least", "most", "row"]
def rd_check_samples (Es : MSt → XQ) : WS :=
 (wSeq (wIfS (wOr (wNot (wTruth (wIsi ["list", "tuple"] (wVar 0)))) (wTest (wOp (opEq true) (wCB fLen (wCons (wVar 0) wNil)) (wC (.int 8))))) (wRaise Es "NoSamples" ["part"] (wCons (wC (.str "samples")) wNil)) wNext)
 (wIfS (wNot (wTruth (wCB fAll (wCons (wLc (wIt (wVar 0)) (put1 3) wYes (wCall SM.sp_are_from xF (wCons (wVar 3) (wCons (wC (.int 8)) (wCons (wVar 1) (wCons (wVar 2) wNil))))) [3]) wNil)))) (wRaise Es "NoSamples" ["part"] (wCons (wC (.str "samples")) wNil)) wNext))

abbrev N_waves_of : List Str := ["rows", "weights", "lines", "u", "row", "x", "v", "y"]
def rd_waves_of : WS :=
 (wSeq (wSet 1 (wLc (wRange1 (wC (.int 8))) (put1 3) wYes (wLc (wRange1 (wC (.int 8))) (put1 5) wYes (wCall SM.sp_weight_of xF (wCons (wVar 5) (wCons (wVar 3) wNil))) [5]) [3]))
 (wSeq (wSet 2 (wLc (wIt (wVar 0)) (put1 4) wYes (wLc (wRange1 (wC (.int 8))) (put1 3) wYes (wCB fSum (wCons (wLc (wRange1 (wC (.int 8))) (put1 5) wYes (wOp opMul (wOp opIx (wOp opIx (wVar 1) (wVar 3)) (wVar 5)) (wOp opSub (wOp opIx (wVar 4) (wVar 5)) (wC (.int 128)))) [5]) wNil)) [3]) [4]))
 (wRet (wCB fTup (wCons (wLc (wIt (wCall TB.sp_zigzag_places xF wNil)) (putT [6, 3]) wYes (wCB fSum (wCons (wLc (wRange1 (wC (.int 8))) (put1 7) wYes (wOp opMul (wOp opIx (wOp opIx (wVar 1) (wVar 6)) (wVar 7)) (wOp opIx (wOp opIx (wVar 2) (wVar 7)) (wVar 3))) [7]) wNil)) [6, 3]) wNil)))))

abbrev N_waves : List Str := ["rows"]
def rd_waves (Es : MSt → XQ) : WS :=
 (wSeq (wDrop (wCall AG.sp_check_samples Es (wCons (wVar 0) (wCons (wC (.int 0)) (wCons (wC (.int 255)) wNil)))))
 (wRet (wCall AG.sp_waves_of xF (wCons (wVar 0) wNil))))

def lb_block_if_0 : WS :=
 (wIfS (wTest (wGt (wCB fAbs (wCons (wOp opSub (wVar 4) (wShl (wOp opMul (wVar 5) (wVar 6)) (wC k_BITS))) wNil)) (wShl (wC k_MOST_AWAY) (wC k_BITS)))) (wRet (wC .non)) wNext)
abbrev N_block_if : List Str := ["table", "rows", "heights", "block", "wave", "entry", "number", "row"]
def rd_block_if : WS :=
 (wSeq (wSet 3 (wCB fTup (wCons (wLc (wZipR (wCons (wVar 2) (wCons (wVar 0) wNil))) (putT [4, 5]) wYes (wDiv (wOp opAdd (wOp opMul (wC (.int 2)) (wVar 4)) (wShl (wVar 5) (wC k_BITS))) (wShl (wVar 5) (wOp opAdd (wC k_BITS) (wC (.int 1))))) [4, 5]) wNil)))
 (wSeq (wFor (wZipR3 (wCons (wVar 2) (wCons (wVar 0) (wCons (wVar 3) wNil)))) (gT 3 (gC (gN 4) (gC (gN 5) (gC (gN 6) gZ)))) lb_block_if_0)
 (wRet (wIf (wTest (wOp (opEq false) (wCall SM.sp_samples_of xF (wCons (wVar 0) (wCons (wVar 3) wNil))) (wCB fTup (wCons (wLc (wIt (wVar 1)) (put1 7) wYes (wCB fTup (wCons (wVar 7) wNil)) [7]) wNil)))) (wVar 3) (wC .non)))))

abbrev N_again : List Str := ["table", "rows"]
def rd_again (Es : MSt → XQ) : WS :=
 (wSeq (wIfS (wNot (wTruth (wCall SM.sp_are_from xF (wCons (wVar 0) (wCons (wC (.int 64)) (wCons (wC k_LEAST_ENTRY) (wCons (wC k_MOST_ENTRY) wNil))))))) (wRaise Es "NoSamples" ["part"] (wCons (wC (.str "table")) wNil)) wNext)
 (wSeq (wDrop (wCall AG.sp_check_samples Es (wCons (wVar 1) (wCons (wC (.int 1)) (wCons (wC (.int 254)) wNil)))))
 (wRet (wCall AG.sp_block_if xF (wCons (wVar 0) (wCons (wVar 1) (wCons (wCall AG.sp_waves_of xF (wCons (wVar 1) wNil)) wNil)))))))

section
variable (ds : List D) (h : MH) (Q' : MQ) (E' : XQ)
open TB SM
theorem pure_check_samples (s : sp_check_samples ds h Q' E') : rd_check_samples (fun _ => E') { nx := fun _ h' => Q' .non h', rt := Q' } (mstart N_check_samples ds) h := by
  obtain ⟨d, lo, hi, rfl, o, q⟩ := s
  have o2 := o
  simp only [okGr, Bool.and_eq_true] at o2
  obtain ⟨oR, oe⟩ := o2
  simp [rd_check_samples, mstart_eq, -o_isi, isiR oR, List.replicate]
  cases er : rowF d with
  | none =>
    simp [isGr, er] at q
    simp
    exact q
  | some rs =>
    rw [er] at oe
    simp only [List.all_eq_true] at oe
    have ol := (okRow_row oR er).1
    simp only [isGr, er] at q
    simp [len_row _ _ er]
    by_cases hn : rs.length = 8
    · simp only [hn, decide_true, Bool.true_and] at q
      simp [hn, mwipe]
      refine all_list (fun r => areFrom r 8 lo hi) rs (by omega) (fun r hr K k => ⟨_, rfl, ?_⟩) ?_
      · simp
        exact ⟨oe r hr, k⟩
      · cases ha : rs.all fun r => areFrom r 8 lo hi with
        | true => rw [ha] at q; simpa using q
        | false => rw [ha] at q; simpa using q
    · have hn' : ¬ (rs.length : Int) = 8 := by omega
      simp [hn] at q
      simp [hn, hn']
      exact q
theorem pure_waves_of (s : sp_waves_of ds h Q' E') : rd_waves_of { nx := fun _ h' => Q' .non h', rt := Q' } (mstart N_waves_of ds) h := by
  obtain ⟨d, g, rfl, ⟨rs, er, rl, rg⟩, q⟩ := s
  have szl := szL
  simp [rd_waves_of, mstart_eq, List.replicate, mwipe]
  refine lc_rangeD 8 (fun u => rowI (fun x => weightF x u)) (by simp) (fun u hu K k => ⟨_, rfl, ?_⟩) ?_
  · simp [mwipe]
    refine lc_rangeD 8 (fun x => .int (weightF x u)) (by simp) (fun x hx K k => ⟨_, rfl, ?_⟩) k
    simp
    exact ⟨x, u, rfl, by omega, by omega, k⟩
  simp [er]
  have rs8 : rs = (List.range 8).map fun i => rs.getD i .non := by
    have := TB.range_getD rs
    rw [rl] at this
    exact this.symm
  rw [rs8]
  refine lc_over (fun y : Nat => rs.getD y .non) (fun y => rowI (fun u => linF g u y)) _ (by simp) (fun y hy K k => ⟨_, rfl, ?_⟩) ?_
  · have hy8 : y < 8 := by simpa using hy
    have ey : rs[y]? = some (rs.getD y .non) := by
      rw [List.getD_eq_getElem?_getD, List.getElem?_eq_getElem (by omega)]; rfl
    have en := rg y _ ey
    unfold isNs at en
    generalize rs.getD y .non = r at *
    simp [mwipe]
    refine lc_rangeD 8 (fun u => .int (linF g u y)) (by simp) (fun u hu K k => ⟨_, rfl, ?_⟩) k
    simp [mwipe]
    refine lc_rangeD 8 (fun x => .int (weightF x u * (g y x - 128))) (by simp) (fun x hx K k => ⟨_, rfl, ?_⟩) ?_
    · have a1 : atI ((List.range 8).map fun u => rowI (fun x => weightF x u)) (u : Int) = some (rowI (fun x => weightF x u)) := rowsI_at hu
      have a3 := rowI_at (f := fun x => weightF x u) hx
      have a4 : atI (((List.range 8).map (g y)).map D.int) (x : Int) = some (.int (g y x)) := by rw [List.map_map]; exact rowI_at (f := g y) hx
      have := weight_small (x := x) (u := u)
      simp [a1, sq_row _ en, -List.map_map]
      simp [rowI, a3, a4, -List.map_map]
      exact ⟨small_mul (by omega), k⟩
    · exact sum_map (fun x => weightF x u * (g y x - 128)) (List.range 8) k
  rw [zzD_map]
  refine lc_over (put := putT [6, 3]) (fun z : Nat × Nat => D.tup [.int (z.1 : Int), .int (z.2 : Int)]) (fun z => .int (wavF g z.1 z.2)) zzP (by rw [zzP_len]; omega) (fun z hz K k => ⟨_, rfl, ?_⟩) ?_
  · obtain ⟨h1, h2⟩ := zzP_mem hz
    simp [mwipe, msetAll]
    refine lc_rangeD 8 (fun y => .int (weightF y z.1 * linF g z.2 y)) (by simp) (fun y hy K k => ⟨_, rfl, ?_⟩) ?_
    · have a1 : atI ((List.range 8).map fun u => rowI (fun x => weightF x u)) (z.1 : Int) = some (rowI (fun x => weightF x z.1)) := rowsI_at h1
      have a2 : atI ((List.range 8).map fun y => rowI (fun u => linF g u y)) (y : Int) = some (rowI (fun u => linF g u y)) := rowsI_at hy
      have a3 := rowI_at (f := fun x => weightF x z.1) hy
      have a4 := rowI_at (f := fun u => linF g u y) h2
      have := weight_small (x := y) (u := z.1)
      simp [a1, a2]
      simp [rowI, a3, a4]
      exact ⟨small_mul (by omega), k⟩
    · exact sum_map (fun y => weightF y z.1 * linF g z.2 y) (List.range 8) k
  · unfold wavesF at q
    rw [List.map_map] at q
    exact q
theorem eqv_row {f g : Nat → Int} : ∀ l : List Nat, eqvs (l.map fun x => D.int (f x)) (l.map fun x => D.int (g x)) = l.all fun x => f x == g x
  | [] => rfl
  | x :: l => by simp [eqvs, eqv_row l]
theorem eqv_grid {f g : Nat → Nat → Int} (m : List Nat) : ∀ l : List Nat, eqvs (l.map fun y => D.tup (m.map fun x => D.int (f y x))) (l.map fun y => D.tup (m.map fun x => D.int (g y x))) = l.all fun y => m.all fun x => f y x == g y x
  | [] => rfl
  | y :: l => by simp [eqvs, eqv, eqv_grid m l, eqv_row m]
theorem fit_grid {n : Nat} (f : Nat → Nat → Int) (l m : List Nat) : fit (n + 2) (.tup (l.map fun y => D.tup (m.map fun x => D.int (f y x)))) = true := by
  simp [fit]
theorem near_abs {w e : Int} (hw : w.natAbs ≤ 204800000000) (h1 : 1 ≤ e) (h2 : e ≤ 65535) : ((2 * w + e * 67108864) / (e * 134217728)).natAbs ≤ 420000000000 := by
  have hp : 0 < e * 134217728 := by omega
  have hge : (1 : Int) ≤ e * 134217728 := by omega
  have u1 : (2 * w + e * 67108864) / (e * 134217728) ≤ 420000000000 := by
    have : (2 * w + e * 67108864) / (e * 134217728) < 420000000001 := by
      apply Int.ediv_lt_of_lt_mul hp
      have : 420000000001 * 1 ≤ 420000000001 * (e * 134217728) := Int.mul_le_mul_of_nonneg_left hge (by omega)
      omega
    omega
  have u2 : -420000000000 ≤ (2 * w + e * 67108864) / (e * 134217728) := by
    apply Int.le_ediv_of_mul_le hp
    have : (-420000000000) * (e * 134217728) ≤ (-420000000000) * 1 := by omega
    omega
  omega
theorem pure_block_if (s : sp_block_if ds h Q' E') : rd_block_if { nx := fun _ h' => Q' .non h', rt := Q' } (mstart N_block_if ds) h := by
  obtain ⟨t, d, hs, ts, g, rfl, et, tl, hl, tb, hb, ⟨rs, er, rl, rg⟩, q⟩ := s
  have szl := szL
  have et' := et
  unfold isNs at et'
  simp [rd_block_if, mstart_eq, List.replicate, mwipe, et']
  have zl : zipD (hs.map D.int) (ts.map D.int) = (hs.zip ts).map fun z => .tup [.int z.1, .int z.2] := by
    unfold zipD
    rw [List.zip_map, List.map_map]; rfl
  rw [zl]
  refine lc_over (put := putT [4, 5]) (fun z : Int × Int => D.tup [.int z.1, .int z.2]) (fun z => .int ((2 * z.1 + z.2 * 67108864) / (z.2 * 134217728))) (hs.zip ts) (by rw [List.length_zip]; omega) (fun z hz K k => ⟨_, rfl, ?_⟩) ?_
  · obtain ⟨z1, z2⟩ := z
    obtain ⟨m1, m2⟩ := List.of_mem_zip hz
    have b1 := hb _ m1
    have b2 := tb _ m2
    have s1 : shlOk z2 26 := shl_ok (n := 20) (by omega) (by omega) (by omega) (by omega)
    have s2 : shlOk z2 27 := shl_ok (n := 20) (by omega) (by omega) (by omega) (by omega)
    simp [msetAll, s1, s2]
    exact ⟨div_small (by omega) (by omega), k⟩
  have en : ((hs.zip ts).map fun z => D.int ((2 * z.1 + z.2 * 67108864) / (z.2 * 134217728))) = (nearF hs ts).map .int := by
    unfold nearF; rw [List.map_map]; rfl
  rw [en]
  have nl : (nearF hs ts).length = 64 := by unfold nearF; rw [List.length_map, List.length_zip]; omega
  have nb : ∀ b ∈ nearF hs ts, b.natAbs ≤ 420000000000 := by
    intro b hb'
    obtain ⟨z, hz, rfl⟩ := List.mem_map.mp hb'
    obtain ⟨m1, m2⟩ := List.of_mem_zip hz
    exact near_abs (hb _ m1) (tb _ m2).1 (tb _ m2).2
  unfold ifF at q
  generalize nearF hs ts = bs at *
  have z3 : zip3D (hs.map D.int) (ts.map D.int) (bs.map D.int) = ((hs.zip ts).zip bs).map fun z => .tup [.int z.1.1, .int z.1.2, .int z.2] := by
    unfold zip3D
    rw [List.zip_map, List.zip_map, List.map_map]; rfl
  rw [z3]
  refine wLoop_inv (fun i σ h' => h' = h ∧ (∃ v4 v5 v6, σ = [some t, some d, some (.tup (hs.map .int)), some (.tup (bs.map .int)), v4, v5, v6, none]) ∧ ∀ z ∈ ((hs.zip ts).zip bs).take i, ¬ 335544320 < (z.1.1 - z.1.2 * z.2 * 67108864).natAbs) ⟨rfl, ⟨_, _, _, rfl⟩, by simp⟩ ?_ ?_
  · rintro i x σ h' K e ⟨rfl, ⟨v4, v5, v6, rfl⟩, nf⟩ hK
    obtain ⟨z, ez, rfl⟩ := map_get e
    obtain ⟨⟨w, en⟩, b⟩ := z
    have mz := List.mem_of_getElem? ez
    obtain ⟨m12, m3⟩ := List.of_mem_zip mz
    obtain ⟨m1, m2⟩ := List.of_mem_zip m12
    have b1 := hb _ m1
    have b2 := tb _ m2
    have b3 := nb _ m3
    have pr : (en * b).natAbs ≤ 65535 * 420000000000 := mul_abs (by omega) b3
    have s1 : shlOk (en * b) 26 := shl_ok (n := 60) (by omega) (by omega) (by omega) (by omega)
    have s2 : shlOk 5 26 := shl_ok (n := 20) (by omega) (by omega) (by omega) (by omega)
    unfold lb_block_if_0
    simp [small_mul (i := en) (j := b) (by omega), s1, s2]
    by_cases hf : 335544320 < (w - en * b * 67108864).natAbs
    · have fr : farF hs ts bs = true := by
        unfold farF
        rw [List.any_eq_true]
        exact ⟨_, mz, by simpa using hf⟩
      rw [fr, if_pos rfl] at q
      rw [if_pos (by omega)]
      exact q
    · rw [if_neg (by omega)]
      refine hK _ _ ⟨rfl, ⟨_, _, _, rfl⟩, fun y hy => ?_⟩
      rw [take_snoc ez] at hy
      rcases List.mem_append.mp hy with hy | hy
      · exact nf y hy
      · rw [List.mem_singleton.mp hy]; exact hf
  · rintro σ h' ⟨rfl, ⟨v4, v5, v6, rfl⟩, nf⟩
    rw [List.length_map, List.take_length] at nf
    have fr : farF hs ts bs = false := by
      unfold farF
      rw [List.any_eq_false]
      intro z hz
      simpa using nf z hz
    rw [fr, if_neg Bool.false_ne_true] at q
    simp
    refine ⟨t, .tup (bs.map .int), ts, bs, rfl, et, rfl, tl, nl, fun n hn => ⟨by have := (tb n hn).1; omega, (tb n hn).2⟩, ?_⟩
    simp [er, mwipe]
    have rs8 : rs = (List.range 8).map fun i => rs.getD i .non := by
      have := TB.range_getD rs
      rw [rl] at this
      exact this.symm
    rw [rs8]
    refine lc_over (fun y : Nat => rs.getD y .non) (fun y => .tup ((List.range 8).map fun x => .int (g y x))) _ (by simp) (fun y hy K k => ⟨_, rfl, ?_⟩) ?_
    · have hy8 : y < 8 := by simpa using hy
      have ey : rs[y]? = some (rs.getD y .non) := by
        rw [List.getD_eq_getElem?_getD, List.getElem?_eq_getElem (by omega)]; rfl
      have en := rg y _ ey
      unfold isNs at en
      rw [List.map_map] at en
      generalize rs.getD y .non = r at *
      simp [sq_row _ en]
      exact k
    · simp [gridD]
      rw [o_eqT]
      refine ⟨⟨fit_grid _ _ _, fit_grid _ _ _⟩, ?_⟩
      rw [show eqv (.tup ((List.range 8).map fun y => D.tup ((List.range 8).map fun x => D.int (sampleF (sumF ts bs y x))))) (.tup ((List.range 8).map fun y => D.tup ((List.range 8).map fun x => D.int (g y x)))) = sameG (fun y x => sampleF (sumF ts bs y x)) g from eqv_grid _ _]
      cases sm : sameG (fun y x => sampleF (sumF ts bs y x)) g with
      | true => rw [sm] at q; simpa [ifD] using q
      | false => rw [sm] at q; simpa [ifD] using q
theorem pure_waves (s : sp_waves ds h Q' E') : rd_waves (fun _ => E') { nx := fun _ h' => Q' .non h', rt := Q' } (mstart N_waves ds) h := by
  obtain ⟨d, rfl, o, q0, q1⟩ := s
  simp [rd_waves, mstart_eq]
  refine ⟨d, 0, 255, rfl, o, ?_⟩
  cases hg : isGr d 0 255 with
  | true =>
    rw [if_pos rfl]
    obtain ⟨g, g1, g2⟩ := gr_of hg
    exact ⟨d, g, rfl, g1, q1 hg g g1⟩
  | false => rw [if_neg Bool.false_ne_true]; exact q0 hg
theorem pure_again (s : sp_again ds h Q' E') : rd_again (fun _ => E') { nx := fun _ h' => Q' .non h', rt := Q' } (mstart N_again ds) h := by
  obtain ⟨t, d, rfl, ot, od, q⟩ := s
  simp [rd_again, mstart_eq]
  refine ⟨ot, ?_⟩
  by_cases h1 : areFrom t 64 16 65535 = true
  · rw [if_pos h1] at q ⊢
    obtain ⟨q0, q1⟩ := q
    refine ⟨d, 1, 254, rfl, od, ?_⟩
    cases hg : isGr d 1 254 with
    | true =>
      rw [if_pos rfl]
      obtain ⟨g, g1, g2⟩ := gr_of hg
      obtain ⟨ts, t1, t2, t3⟩ := all_from h1
      exact ⟨d, g, rfl, g1, t, d, wavesF g, ts, g, rfl, t1, t2, waves_len g, fun n hn => ⟨by have := (t3 n hn).1; omega, (t3 n hn).2⟩, waves_abs (fun y x hy hx => ⟨by have := (g2 y x hy hx).1; omega, by have := (g2 y x hy hx).2; omega⟩), g1, q1 hg ts g t1 g1⟩
    | false => rw [if_neg Bool.false_ne_true]; exact q0 hg
  · rw [if_neg h1] at q ⊢
    exact q
end

end AG
namespace AM
open PySem PySem.Spec PyProof.Rows L2 BP


open TB SM AG
theorem s_add {α : Type} (f g : α → Int) : ∀ l : List α, (l.map fun x => f x + g x).sum = (l.map f).sum + (l.map g).sum
  | [] => rfl
  | x :: l => by simp only [List.map_cons, List.sum_cons, s_add f g l]; omega
theorem s_mul {α : Type} (c : Int) (f : α → Int) : ∀ l : List α, (l.map fun x => c * f x).sum = c * (l.map f).sum
  | [] => by simp
  | x :: l => by simp only [List.map_cons, List.sum_cons, s_mul c f l, Int.mul_add]
theorem s_zero {α : Type} : ∀ l : List α, (l.map fun _ => (0 : Int)).sum = 0
  | [] => rfl
  | x :: l => by simp only [List.map_cons, List.sum_cons, s_zero l]; rfl
theorem s_comm {α β : Type} (f : α → β → Int) (m : List β) : ∀ l : List α, (l.map fun x => (m.map fun y => f x y).sum).sum = (m.map fun y => (l.map fun x => f x y).sum).sum
  | [] => by simp only [List.map_nil, List.sum_nil, s_zero]
  | x :: l => by simp only [List.map_cons, List.sum_cons, s_comm f m l, s_add]
theorem s_congr {α : Type} {f g : α → Int} {l : List α} (h : ∀ x ∈ l, f x = g x) : (l.map f).sum = (l.map g).sum := by rw [List.map_congr_left h]
def S8 (f : Nat → Int) : Int := ((List.range 8).map f).sum
def N8 (f : Nat → Int) : Nat := ((List.range 8).map fun x => (f x).natAbs).sum
theorem S8_congr {f g : Nat → Int} (h : ∀ x, x < 8 → f x = g x) : S8 f = S8 g := s_congr fun x hx => h x (List.mem_range.mp hx)
theorem S8_A (a d : Nat → Int) (B : Nat → Nat → Int) : S8 (fun x => a x * S8 fun u => B x u * d u) = S8 fun u => (S8 fun x => a x * B x u) * d u := by
  unfold S8
  have e1 : ((List.range 8).map fun x => a x * ((List.range 8).map fun u => B x u * d u).sum).sum = ((List.range 8).map fun x => ((List.range 8).map fun u => d u * (a x * B x u)).sum).sum := s_congr fun x _ => by
    rw [← s_mul]
    exact s_congr fun u _ => by rw [← Int.mul_assoc, Int.mul_comm]
  rw [e1, s_comm]
  exact s_congr fun u _ => by rw [s_mul, Int.mul_comm]
theorem S8_B (a b : Nat → Int) (L : Nat → Nat → Int) : S8 (fun x => a x * S8 fun v => b v * L v x) = S8 fun v => b v * S8 fun x => a x * L v x := by
  unfold S8
  have e1 : ((List.range 8).map fun x => a x * ((List.range 8).map fun v => b v * L v x).sum).sum = ((List.range 8).map fun x => ((List.range 8).map fun v => b v * (a x * L v x)).sum).sum := s_congr fun x _ => by
    rw [← s_mul]
    exact s_congr fun v _ => by rw [← Int.mul_assoc, ← Int.mul_assoc, Int.mul_comm (a x)]
  rw [e1, s_comm]
  exact s_congr fun v _ => s_mul _ _ _
theorem s_bnd {α : Type} (a b : α → Int) (B : Nat) : ∀ l : List α, (∀ x ∈ l, (b x).natAbs ≤ B) → ((l.map fun x => a x * b x).sum).natAbs ≤ (l.map fun x => (a x).natAbs).sum * B
  | [], _ => by simp
  | x :: l, h => by
    have ih := s_bnd a b B l fun y hy => h y (List.mem_cons_of_mem _ hy)
    have h1 := h x List.mem_cons_self
    have h2 : (a x * b x).natAbs ≤ (a x).natAbs * B := by rw [Int.natAbs_mul]; exact Nat.mul_le_mul_left _ h1
    simp only [List.map_cons, List.sum_cons, Nat.add_mul]
    omega
theorem S8_bnd {a b : Nat → Int} {A B : Nat} (ha : N8 a ≤ A) (hb : ∀ x, x < 8 → (b x).natAbs ≤ B) : (S8 fun x => a x * b x).natAbs ≤ A * B :=
  Nat.le_trans (s_bnd a b B (List.range 8) fun x hx => hb x (List.mem_range.mp hx)) (Nat.mul_le_mul_right B ha)
theorem s_pick (k : Int) (u : Nat) (d : Nat → Int) : ∀ n : Nat, ((List.range n).map fun i => (if u = i then k else 0) * d i).sum = if u < n then k * d u else 0
  | 0 => by simp
  | n + 1 => by
    rw [List.range_succ, List.map_append, List.sum_append, s_pick k u d n]
    simp only [List.map_cons, List.map_nil, List.sum_cons, List.sum_nil]
    by_cases h : u = n
    · subst h; simp
    · by_cases h2 : u < n
      · rw [if_pos h2, if_neg h, if_pos (show u < n + 1 by omega)]; simp
      · rw [if_neg h2, if_neg h, if_neg (show ¬ u < n + 1 by omega)]; simp
def gm (v w : Nat) : Int := S8 fun y => weightF y v * weightF y w
def em (v w : Nat) : Int := gm v w - if v = w then 67108864 else 0
theorem w_sum : (List.range 8).all (fun v => decide (N8 (fun y => weightF y v) ≤ 23168)) = true := by decide +kernel
theorem e_sum : (List.range 8).all (fun v => decide (N8 (em v) ≤ 14336)) = true := by decide +kernel
theorem w_le {v : Nat} (hv : v < 8) : N8 (fun y => weightF y v) ≤ 23168 := by
  have := List.all_eq_true.mp w_sum v (by simpa using hv)
  simpa using this
theorem e_le {v : Nat} (hv : v < 8) : N8 (em v) ≤ 14336 := by
  have := List.all_eq_true.mp e_sum v (by simpa using hv)
  simpa using this
theorem gm_split {u : Nat} (hu : u < 8) (d : Nat → Int) : (S8 fun w => gm u w * d w) = 67108864 * d u + S8 fun w => em u w * d w := by
  have e : (S8 fun w => gm u w * d w) = S8 fun w => (if u = w then 67108864 else 0) * d w + em u w * d w := S8_congr fun w _ => by
    unfold em
    rw [Int.sub_mul]
    omega
  rw [e]
  unfold S8
  rw [s_add, s_pick, if_pos hu]
theorem exists_max (f : Nat → Nat) : ∀ n, 1 ≤ n → ∃ i, i < n ∧ ∀ j, j < n → f j ≤ f i
  | 0, h => by omega
  | 1, _ => ⟨0, by omega, fun j hj => by have : j = 0 := by omega
                                         subst this; exact Nat.le_refl _⟩
  | n + 2, _ => by
    obtain ⟨i, hi, h⟩ := exists_max f (n + 1) (by omega)
    by_cases hc : f i ≤ f (n + 1)
    · exact ⟨n + 1, by omega, fun j hj => by
        by_cases e : j = n + 1
        · subst e; exact Nat.le_refl _
        · have := h j (by omega); omega⟩
    · exact ⟨i, by omega, fun j hj => by
        by_cases e : j = n + 1
        · subst e; omega
        · exact h j (by omega)⟩
section
variable {ts bs : List Int} {g : Nat → Nat → Int}
def pF (T : Nat → Nat → Int) (v u : Nat) : Int := S8 fun y => weightF y v * S8 fun x => weightF x u * T y x
theorem pF_sum {v u : Nat} (hv : v < 8) (hu : u < 8) : pF (sumF ts bs) v u = S8 fun w => gm v w * S8 fun z => gm u z * stepF ts bs w z := by
  unfold pF
  have e1 : ∀ y, (S8 fun x => weightF x u * sumF ts bs y x) = S8 fun w => weightF y w * S8 fun z => gm u z * stepF ts bs w z := fun y => by
    have : (S8 fun x => weightF x u * sumF ts bs y x) = S8 fun x => weightF x u * S8 fun w => weightF y w * S8 fun z => weightF x z * stepF ts bs w z := rfl
    rw [this, S8_B (fun x => weightF x u) (fun w => weightF y w) (fun w x => S8 fun z => weightF x z * stepF ts bs w z)]
    exact S8_congr fun w _ => by rw [S8_A (fun x => weightF x u) (stepF ts bs w) weightF]; rfl
  have e2 : (S8 fun y => weightF y v * S8 fun x => weightF x u * sumF ts bs y x) = S8 fun y => weightF y v * S8 fun w => weightF y w * S8 fun z => gm u z * stepF ts bs w z := S8_congr fun y _ => by rw [e1]
  rw [e2, S8_A (fun y => weightF y v) (fun w => S8 fun z => gm u z * stepF ts bs w z) weightF]
  rfl
theorem pF_abs {T : Nat → Nat → Int} {B : Nat} (h : ∀ y x, y < 8 → x < 8 → (T y x).natAbs ≤ B) {v u : Nat} (hv : v < 8) (hu : u < 8) : (pF T v u).natAbs ≤ 23168 * (23168 * B) :=
  S8_bnd (w_le hv) fun y hy => S8_bnd (w_le hu) fun x hx => h y x hy hx
theorem pF_add (T R : Nat → Nat → Int) (v u : Nat) : pF (fun y x => T y x + R y x) v u = pF T v u + pF R v u := by
  unfold pF S8
  rw [← s_add]
  refine s_congr fun y _ => ?_
  rw [← Int.mul_add, ← s_add]
  congr 1
  exact s_congr fun x _ => Int.mul_add _ _ _
theorem pF_mul (k : Int) (T : Nat → Nat → Int) (v u : Nat) : pF (fun y x => k * T y x) v u = k * pF T v u := by
  unfold pF S8
  rw [← s_mul]
  refine s_congr fun y _ => ?_
  have : ((List.range 8).map fun x => weightF x u * (k * T y x)).sum = k * ((List.range 8).map fun x => weightF x u * T y x).sum := by
    rw [← s_mul]
    exact s_congr fun x _ => Int.mul_left_comm _ _ _
  rw [this, Int.mul_left_comm]
structure Shows (ts bs : List Int) (g : Nat → Nat → Int) : Prop where
  eq : ∀ y x, y < 8 → x < 8 → g y x = sampleF (sumF ts bs y x)
  lo : ∀ y x, y < 8 → x < 8 → 1 ≤ g y x ∧ g y x ≤ 254
theorem near_sum (s : Shows ts bs g) {y x : Nat} (hy : y < 8) (hx : x < 8) : (67108864 * (g y x - 128) - sumF ts bs y x).natAbs ≤ 33554432 ∧ (sumF ts bs y x).natAbs ≤ 8556380160 := by
  have h1 := s.eq y x hy hx
  have h2 := s.lo y x hy hx
  unfold sampleF cutF at h1
  generalize sumF ts bs y x = T at *
  generalize g y x = z at *
  split at h1
  · omega
  · split at h1 <;> omega
theorem wav_near (s : Shows ts bs g) {v u : Nat} (hv : v < 8) (hu : u < 8) : (wavF g v u - 67108864 * stepF ts bs v u).natAbs ≤ 335544320 := by
  obtain ⟨k, hk, mx⟩ := exists_max (fun k => (stepF ts bs (k / 8) (k % 8)).natAbs) 64 (by omega)
  have hN : ∀ v u, v < 8 → u < 8 → (stepF ts bs v u).natAbs ≤ (stepF ts bs (k / 8) (k % 8)).natAbs := fun v u hv hu => by
    have := mx (8 * v + u) (by omega)
    simp only [show (8 * v + u) / 8 = v by omega, show (8 * v + u) % 8 = u by omega] at this
    exact this
  have key : ∀ v u, v < 8 → u < 8 → ∃ e1 e2 : Int, pF (sumF ts bs) v u = 67108864 * (67108864 * stepF ts bs v u + e1) + e2 ∧ e1.natAbs ≤ 14336 * (stepF ts bs (k / 8) (k % 8)).natAbs ∧ e2.natAbs ≤ 14336 * (67123200 * (stepF ts bs (k / 8) (k % 8)).natAbs) := fun v u hv hu => by
    have d : ∀ w, w < 8 → (S8 fun z => gm u z * stepF ts bs w z) = 67108864 * stepF ts bs w u + S8 fun z => em u z * stepF ts bs w z := fun w _ => gm_split hu _
    have eb : ∀ w, w < 8 → (S8 fun z => em u z * stepF ts bs w z).natAbs ≤ 14336 * (stepF ts bs (k / 8) (k % 8)).natAbs := fun w hw => S8_bnd (e_le hu) fun z hz => hN w z hw hz
    refine ⟨S8 fun z => em u z * stepF ts bs v z, S8 fun w => em v w * S8 fun z => gm u z * stepF ts bs w z, ?_, eb v hv, ?_⟩
    · rw [pF_sum hv hu, gm_split hv, d v hv]
    · refine S8_bnd (e_le hv) fun w hw => ?_
      rw [d w hw]
      have := eb w hw
      have := hN w u hw hu
      omega
  obtain ⟨N, eN⟩ : ∃ N, N = (stepF ts bs (k / 8) (k % 8)).natAbs := ⟨_, rfl⟩
  have Nb : N ≤ 1021 := by
    obtain ⟨e1, e2, ep, b1, b2⟩ := key (k / 8) (k % 8) (by omega) (by omega)
    have := pF_abs (T := sumF ts bs) (B := 8556380160) (fun y x hy hx => (near_sum s hy hx).2) (v := k / 8) (u := k % 8) (by omega) (by omega)
    rw [← eN] at b1 b2
    generalize pF (sumF ts bs) (k / 8) (k % 8) = P at *
    generalize stepF ts bs (k / 8) (k % 8) = c at *
    omega
  obtain ⟨e1, e2, ep, b1, b2⟩ := key v u hv hu
  rw [← eN] at b1 b2
  have er : 67108864 * wavF g v u = pF (sumF ts bs) v u + pF (fun y x => 67108864 * (g y x - 128) - sumF ts bs y x) v u := by
    rw [← pF_add]
    have : (fun y x => sumF ts bs y x + (67108864 * (g y x - 128) - sumF ts bs y x)) = fun y x => 67108864 * (g y x - 128) := by funext y x; omega
    rw [this, pF_mul]
    rfl
  have br := pF_abs (T := fun y x => 67108864 * (g y x - 128) - sumF ts bs y x) (B := 33554432) (fun y x hy hx => (near_sum s hy hx).1) hv hu
  generalize pF (sumF ts bs) v u = P at *
  generalize pF (fun y x => 67108864 * (g y x - 128) - sumF ts bs y x) v u = R at *
  generalize stepF ts bs v u = c at *
  generalize wavF g v u = w at *
  omega
theorem near_one {w e b : Int} (he : 16 ≤ e) (h : (w - 67108864 * (e * b)).natAbs ≤ 335544320) : (2 * w + e * 67108864) / (e * 134217728) = b := by
  obtain ⟨d, hd⟩ : ∃ d, d = w - 67108864 * (e * b) := ⟨_, rfl⟩
  have e1 : 2 * w + e * 67108864 = (2 * d + e * 67108864) + (e * 134217728) * b := by
    rw [hd, Int.mul_right_comm e 134217728 b]
    generalize e * b = q
    omega
  rw [e1, Int.add_mul_ediv_left _ _ (by omega), Int.ediv_eq_zero_of_lt (by omega) (by omega)]
  omega
theorem near_get (s : Shows ts bs g) (lt : ts.length = 64) (lb : bs.length = 64) (ht : ∀ n ∈ ts, 16 ≤ n) : nearF (wavesF g) ts = bs ∧ farF (wavesF g) ts bs = false := by
  have at_k : ∀ k, k < 64 → ∃ w, (wavesF g)[k]? = some w ∧ (w - 67108864 * (ts.getD k 0 * bs.getD k 0)).natAbs ≤ 335544320 := fun k hk => by
    obtain ⟨r, c, e, hr, hc, hz, _⟩ := zzP_at hk
    refine ⟨wavF g r c, by unfold wavesF; rw [List.getElem?_map, e]; rfl, ?_⟩
    have := wav_near s hr hc
    unfold SM.stepF at this
    rw [hz] at this
    exact this
  have wl := waves_len g
  have t16 : ∀ k, k < 64 → 16 ≤ ts.getD k 0 := fun k hk => ht _ (SM.mem_getD (by omega))
  have near : nearF (wavesF g) ts = bs := by
    apply List.ext_getElem?
    intro k
    unfold nearF
    by_cases hk : k < 64
    · obtain ⟨w, ew, hw⟩ := at_k k hk
      have ez : ((wavesF g).zip ts)[k]? = some (w, ts.getD k 0) := by rw [List.getElem?_zip_eq_some]; exact ⟨ew, SM.getD_get (by omega)⟩
      rw [List.getElem?_map, ez, Option.map_some, near_one (t16 k hk) hw, SM.getD_get (by omega)]
    · rw [List.getElem?_eq_none (by simp [wl, lt]; omega), List.getElem?_eq_none (by omega)]
  refine ⟨near, ?_⟩
  unfold farF
  rw [List.any_eq_false]
  intro z hz
  obtain ⟨k, ez⟩ := List.mem_iff_getElem?.mp hz
  have hk : k < 64 := by
    have := (List.getElem?_eq_some_iff.mp ez).1
    simp only [List.length_zip, wl, lt, lb] at this
    omega
  obtain ⟨w, ew, hw⟩ := at_k k hk
  rw [List.getElem?_zip_eq_some, List.getElem?_zip_eq_some] at ez
  obtain ⟨⟨a1, a2⟩, a3⟩ := ez
  rw [ew] at a1
  rw [SM.getD_get (show k < ts.length by omega)] at a2
  rw [SM.getD_get (show k < bs.length by omega)] at a3
  rw [← Option.some.inj a1, ← Option.some.inj a2, ← Option.some.inj a3, decide_eq_true_eq]
  rw [Int.mul_comm (_ * _) 67108864]
  omega
theorem same_refl {a b : Nat → Nat → Int} (h : ∀ y x, y < 8 → x < 8 → a y x = b y x) : sameG a b = true := by
  unfold sameG
  rw [List.all_eq_true]
  intro y hy
  rw [List.all_eq_true]
  intro x hx
  rw [h y x (List.mem_range.mp hy) (List.mem_range.mp hx)]
  exact beq_self_eq_true _
theorem again_back (s : Shows ts bs g) (lt : ts.length = 64) (lb : bs.length = 64) (ht : ∀ n ∈ ts, 16 ≤ n) : ifF ts g (wavesF g) = some bs := by
  obtain ⟨n1, n2⟩ := near_get s lt lb ht
  unfold ifF
  rw [n1, n2, same_refl fun y x hy hx => (s.eq y x hy hx).symm]
  rfl
end






end AM
namespace K89
open PySem PySem.Spec PyProof.Rows L2 BP
def top (i : Nat) : Stmt := PySem.Challenge.pw_blockpics_k89_blocks_that_have_samples.main.body.getD i (.Pass ⟨0, 0, 0, 0⟩)
abbrev s_zigzag_places : Stmt := top 5
abbrev s_is_integer : Stmt := top 9
abbrev s_is_from : Stmt := top 10
abbrev s_are_from : Stmt := top 11
abbrev s_wave : Stmt := top 12
abbrev s_weight_of : Stmt := top 13
abbrev s_steps_of : Stmt := top 14
abbrev s_sums_of : Stmt := top 15
abbrev s_cut : Stmt := top 16
abbrev s_samples_of : Stmt := top 17
abbrev s_check_samples : Stmt := top 23
abbrev s_waves_of : Stmt := top 24
abbrev s_waves : Stmt := top 25
abbrev s_block_if : Stmt := top 26
abbrev s_again : Stmt := top 27
abbrev s_law_purse : Stmt := top 29
abbrev s_law_coin : Stmt := top 30
abbrev s_law_pick : Stmt := top 31
abbrev s_law_weight : Stmt := top 32
abbrev s_law_places : Stmt := top 33
abbrev s_law_samples : Stmt := top 34
abbrev s_law_waves : Stmt := top 35
abbrev s_law_within : Stmt := top 36
abbrev s_law_entries : Stmt := top 37
abbrev s_law_block : Stmt := top 38
abbrev s_law_nearest : Stmt := top 39
abbrev s_law_said_right : Stmt := top 40
abbrev s_law_right : Stmt := top 41
abbrev s_law : Stmt := top 42
def known (n : String) : Bool := n == "NoSamples"
def is_PicError (n : String) : Bool := true
def is_NoSamples (n : String) : Bool := n == "NoSamples"
abbrev k_WAVES : D := .tup [.int 4096, .int 4017, .int 3784, .int 3406, .int 2896, .int 2276, .int 1567, .int 799, .int 0]
abbrev k_MOST_ENTRY : D := .int 65535
abbrev k_SIDE : D := .int 8
abbrev k_BITS : D := .int 26
abbrev k_LEAST_ENTRY : D := .int 16
abbrev k_MOST_AWAY : D := .int 5
abbrev k_FLAT : D := .int 2896
def g_kw_again_rows_table : {α : Type} → List α → List α := fun l => match l with | [v0, v1] => [v1, v0] | _ => l
def g_kw_waves_rows : {α : Type} → List α → List α := fun l => match l with | [v0] => [v0] | _ => l
abbrev si_NoSamples : Stmt := (clsBody (top 2)).getD 0 (.Pass ⟨0, 0, 0, 0⟩)
theorem xd_NoSamples : XDef ["part"] si_NoSamples where
  body := ⟨[("part", ⟨7, 25, 7, 29⟩)], [("part", ⟨8, 8, 8, 12⟩, ⟨8, 8, 8, 17⟩, ⟨8, 20, 8, 24⟩, ⟨8, 8, 8, 24⟩)], ⟨7, 8, 7, 13⟩, ⟨7, 8, 7, 15⟩, ⟨7, 8, 7, 24⟩, ⟨7, 8, 7, 30⟩, ⟨7, 8, 7, 30⟩, rfl, rfl, rfl, fun env => ⟨⟨_, rfl⟩, fun _ => rfl⟩⟩
  par := ⟨_, rfl, rfl⟩
  kind := rfl
  co := rfl
  gen := rfl
  cells := by decide +kernel
  sup := by decide +kernel
  cls := by decide +kernel
  slf := by decide +kernel
  loc := by decide +kernel
  nd := by decide +kernel
  ne := by decide
  bind := fun _ _ _ _ _ _ _ us hl => match us, hl with | [_, _], _ => rfl
structure Ad where
  f_zigzag_places : Addr
  e_zigzag_places : FuncData
  f_is_integer : Addr
  e_is_integer : FuncData
  f_is_from : Addr
  e_is_from : FuncData
  f_are_from : Addr
  e_are_from : FuncData
  f_wave : Addr
  e_wave : FuncData
  f_weight_of : Addr
  e_weight_of : FuncData
  f_steps_of : Addr
  e_steps_of : FuncData
  f_sums_of : Addr
  e_sums_of : FuncData
  f_cut : Addr
  e_cut : FuncData
  f_samples_of : Addr
  e_samples_of : FuncData
  f_check_samples : Addr
  e_check_samples : FuncData
  f_waves_of : Addr
  e_waves_of : FuncData
  f_waves : Addr
  e_waves : FuncData
  f_block_if : Addr
  e_block_if : FuncData
  f_again : Addr
  e_again : FuncData
  f_law_purse : Addr
  e_law_purse : FuncData
  f_law_coin : Addr
  e_law_coin : FuncData
  f_law_pick : Addr
  e_law_pick : FuncData
  f_law_weight : Addr
  e_law_weight : FuncData
  f_law_places : Addr
  e_law_places : FuncData
  f_law_samples : Addr
  e_law_samples : FuncData
  f_law_waves : Addr
  e_law_waves : FuncData
  f_law_within : Addr
  e_law_within : FuncData
  f_law_entries : Addr
  e_law_entries : FuncData
  f_law_block : Addr
  e_law_block : FuncData
  f_law_nearest : Addr
  e_law_nearest : FuncData
  f_law_said_right : Addr
  e_law_said_right : FuncData
  f_law_right : Addr
  e_law_right : FuncData
  f_law : Addr
  e_law : FuncData
  x_PicError : Addr
  i_PicError : Addr
  x_NoSamples : Addr
  i_NoSamples : Addr
  t_BITS : Tok
  t_FLAT : Tok
  t_LEAST_ENTRY : Tok
  t_MOST_AWAY : Tok
  t_MOST_ENTRY : Tok
  t_SIDE : Tok
  t_WAVES : Addr

abbrev sp_zigzag_places : MSp := TB.sp_zigzag_places
abbrev sp_is_integer : MSp := SM.sp_is_integer
abbrev sp_is_from : MSp := SM.sp_is_from
abbrev sp_are_from : MSp := SM.sp_are_from
abbrev sp_wave : MSp := SM.sp_wave
abbrev sp_weight_of : MSp := SM.sp_weight_of
abbrev sp_steps_of : MSp := SM.sp_steps_of
abbrev sp_sums_of : MSp := SM.sp_sums_of
abbrev sp_cut : MSp := SM.sp_cut
abbrev sp_samples_of : MSp := SM.sp_samples_of
abbrev sp_check_samples : MSp := AG.sp_check_samples
abbrev sp_waves_of : MSp := AG.sp_waves_of
abbrev sp_waves : MSp := AG.sp_waves
abbrev sp_block_if : MSp := AG.sp_block_if
abbrev sp_again : MSp := AG.sp_again
abbrev sp_law_purse : MSp := PU.sp_law_purse
abbrev sp_law_coin : MSp := PU.sp_law_coin
abbrev sp_law_pick : MSp := PU.sp_law_pick

open TB SM PU AG AM
def OkT (ts : List Int) : Prop := ts.length = 64 ∧ ∀ e ∈ ts, 16 ≤ e ∧ e ≤ 65535
def OkB (bs : List Int) : Prop := bs.length = 64 ∧ ∀ b ∈ bs, b.natAbs ≤ 1000
def tD (ts : List Int) : D := .tup (ts.map .int)
def gridL (g : Nat → Nat → Int) : D := .lst ((List.range 8).map fun y => .lst ((List.range 8).map fun x => .int (g y x)))
structure DG (h h' : MH) (p : Addr) (ps : List Addr) (g : Nat → Nat → Int) : Prop where
  out : h' p = some (.lst (ps.map .ref))
  ln : ps.length = 8
  nd : ps.Nodup
  np : p ∉ ps
  row : ∀ y q, ps[y]? = some q → h' q = some (.lst ((List.range 8).map fun x => .int (g y x)))
  fp : h p = none
  fps : ∀ q ∈ ps, h q = none
  oth : ∀ a, a ≠ p → a ∉ ps → h' a = h a
def rawF (ts bs : List Int) (y x : Nat) : Int := 128 + (sumF ts bs y x + 33554432) / 67108864
def isGd (d : D) (g : Nat → Nat → Int) : Prop := d = gridL g ∨ d = gridD g
def sp_law_weight : MSp := fun ds h Q _ => ∃ x u : Nat, ds = [.int x, .int u] ∧ x < 8 ∧ u < 8 ∧ Q (.int (weightF x u)) h
def sp_law_places : MSp := fun ds h Q _ => ds = [] ∧ Q (.lst TB.zzD) h
def sp_law_samples : MSp := fun ds h Q _ => ∃ ts bs : List Int, ds = [tD ts, tD bs] ∧ ts.length = 64 ∧ bs.length = 64 ∧ (∀ n ∈ ts, 1 ≤ n ∧ n ≤ 65535) ∧ ∀ p ps h', DG h h' p ps (rawF ts bs) → Q (.ref p) h'
def sp_law_waves : MSp := fun ds h Q _ => ∃ d g, ds = [d] ∧ isGd d g ∧ Q (.tup ((wavesF g).map .int)) h
def sp_law_within : MSp := fun ds h Q _ => ∃ g, ∃ lo hi : Int, ds = [gridL g, .int lo, .int hi] ∧ ∀ b : Bool, (b = true → ∀ y x, y < 8 → x < 8 → lo ≤ g y x ∧ g y x ≤ hi) → Q (.bl b) h
def sp_law_entries : MSp := fun ds h Q _ => ∃ s n, ds = [.ref s] ∧ Cn h s n ∧ n ≤ 100000 ∧ ∀ ts h', OkT ts → Cn h' s (n + 70) → Q (tD ts) h'
def sp_law_block : MSp := fun ds h Q _ => ∃ s ts n, ds = [.ref s, tD ts] ∧ OkT ts ∧ Cn h s n ∧ n ≤ 100000 ∧ ∀ bs h', OkB bs → Cn h' s (n + 200) → Q (tD bs) h'
def sp_law_nearest : MSp := fun ds h Q _ => ∃ ts d g, ds = [tD ts, d] ∧ OkT ts ∧ isGd d g ∧ Q (tD (nearF (wavesF g) ts)) h
def sp_law_said_right : MSp := fun ds h Q _ => ∃ ts d g, ds = [tD ts, d] ∧ OkT ts ∧ isGd d g ∧ (∀ y x, y < 8 → x < 8 → 1 ≤ g y x ∧ g y x ≤ 254) ∧ Q (.bl true) h
def sp_law_right : MSp := fun ds h Q _ => ∃ s n, ds = [.ref s] ∧ Cn h s n ∧ n ≤ 50000 ∧ ∀ h', Cn h' s (n + 400) → Q (.bl true) h'
def sp_law : MSp := fun ds h Q _ => ∃ ns : List Int, ds = [.scr ns] ∧ ns.length ≤ 63 ∧ ∀ h', Q (.bl true) h'

def lb_zigzag_places_0 : WS :=
 (wSeq (wSet 2 (wLc (wRange1 (wC k_SIDE)) (put1 3) (wTest (wLeLt (wC (.int 0)) (wOp opSub (wVar 1) (wVar 3)) (wC k_SIDE))) (wVar 3) [3]))
 (wDrop (wMt fExtend (wVar 0) (wCons (wLc (wIt (wIf (wTruth (wOp opAnd (wVar 1) (wC (.int 1)))) (wVar 2) (wUn unRev (wVar 2)))) (put1 3) wYes (wTup (wCons (wVar 3) (wCons (wOp opSub (wVar 1) (wVar 3)) wNil))) [3]) wNil))))
abbrev N_zigzag_places : List Str := ["found", "total", "rows", "row"]
def rd_zigzag_places : WS :=
 (wSeq (wSet 0 (wLstM wNil))
 (wSeq (wFor (wRange1 (wOp opSub (wOp opMul (wC (.int 2)) (wC k_SIDE)) (wC (.int 1)))) (gN 1) lb_zigzag_places_0)
 (wFz 0 (wRet (wVar 0)))))

abbrev N_is_integer : List Str := ["thing"]
def rd_is_integer : WS :=
 (wRet (wAndV (wIsi ["int"] (wVar 0)) (wNotV (wIsi ["bool"] (wVar 0)))))

abbrev N_is_from : List Str := ["thing", "low", "high"]
def rd_is_from : WS :=
 (wRet (wAndV (wCall sp_is_integer xF (wCons (wVar 0) wNil)) (wLeLe (wVar 1) (wVar 0) (wVar 2))))

abbrev N_are_from : List Str := ["thing", "many", "low", "high", "number"]
def rd_are_from : WS :=
 (wSeq (wIfS (wOr (wNot (wTruth (wIsi ["list", "tuple"] (wVar 0)))) (wTest (wOp (opEq true) (wCB fLen (wCons (wVar 0) wNil)) (wVar 1)))) (wRet (wC (.bl false))) wNext)
 (wRet (wCB fAll (wCons (wLc (wIt (wVar 0)) (put1 4) wYes (wCall sp_is_from xF (wCons (wVar 4) (wCons (wVar 2) (wCons (wVar 3) wNil)))) [4]) wNil))))

abbrev N_wave : List Str := ["turns"]
def rd_wave : WS :=
 (wSeq (wSet 0 (wOp opAnd (wVar 0) (wC (.int 31))))
 (wSeq (wSet 0 (wIf (wTest (wGt (wVar 0) (wC (.int 16)))) (wOp opSub (wC (.int 32)) (wVar 0)) (wVar 0)))
 (wRet (wIf (wTest (wGt (wVar 0) (wC (.int 8)))) (wOp opSub (wC (.int 0)) (wOp opIx (wC k_WAVES) (wOp opSub (wC (.int 16)) (wVar 0)))) (wOp opIx (wC k_WAVES) (wVar 0))))))

abbrev N_weight_of : List Str := ["x", "u"]
def rd_weight_of : WS :=
 (wRet (wIf (wTest (wOp (opEq false) (wVar 1) (wC (.int 0)))) (wC k_FLAT) (wCall sp_wave xF (wCons (wOp opMul (wOp opAdd (wOp opMul (wC (.int 2)) (wVar 0)) (wC (.int 1))) (wVar 1)) wNil))))

def lb_steps_of_0 : WS :=
 (wAsg (wOp opMul (wOp opIx (wVar 0) (wVar 3)) (wOp opIx (wVar 1) (wVar 3))) (gSt (wOp opIx (wVar 2) (wVar 4)) (wVar 5)))
abbrev N_steps_of : List Str := ["table", "block", "found", "k", "row", "column"]
def rd_steps_of : WS :=
 (wSeq (wSet 2 (wLc (wRange1 (wC (.int 8))) (put1 4) wYes (wOp opMulM (wLst (wCons (wC (.int 0)) wNil)) (wC (.int 8))) [4]))
 (wSeq (wFor (wEnum 0 (wCall sp_zigzag_places xF wNil)) (gT 2 (gC (gN 3) (gC (gT 2 (gC (gN 4) (gC (gN 5) gZ))) gZ))) lb_steps_of_0)
 (wDz 2 (wRet (wVar 2)))))

def lb_sums_of_0 : WS :=
 (wDrop (wMt fAppend (wVar 3) (wCons (wLc (wRange1 (wC (.int 8))) (put1 7) wYes (wCB fSum (wCons (wLc (wZip (wCons (wOp opIx (wVar 2) (wVar 7)) (wCons (wVar 4) wNil))) (putT [9, 10]) wYes (wOp opMul (wVar 9) (wVar 10)) [9, 10]) wNil)) [7]) wNil)))
def lb_sums_of_1 : WS :=
 (wDrop (wMt fAppend (wVar 5) (wCons (wCB fTup (wCons (wLc (wRange1 (wC (.int 8))) (put1 7) wYes (wCB fSum (wCons (wLc (wRange1 (wC (.int 8))) (put1 11) wYes (wOp opMul (wOp opIx (wOp opIx (wVar 2) (wVar 6)) (wVar 11)) (wOp opIx (wOp opIx (wVar 3) (wVar 11)) (wVar 7))) [11]) wNil)) [7]) wNil)) wNil)))
abbrev N_sums_of : List Str := ["table", "block", "weights", "lines", "row", "found", "y", "x", "u", "one", "step", "v"]
def rd_sums_of : WS :=
 (wSeq (wSet 2 (wLc (wRange1 (wC (.int 8))) (put1 7) wYes (wLc (wRange1 (wC (.int 8))) (put1 8) wYes (wCall sp_weight_of xF (wCons (wVar 7) (wCons (wVar 8) wNil))) [8]) [7]))
 (wSeq (wSet 3 (wLstM wNil))
 (wSeq (wFor (wIt (wCall sp_steps_of xF (wCons (wVar 0) (wCons (wVar 1) wNil)))) (gN 4) lb_sums_of_0)
 (wFz 3 (wSeq (wSet 5 (wLstM wNil))
 (wSeq (wFor (wRange1 (wC (.int 8))) (gN 6) lb_sums_of_1)
 (wFz 5 (wRet (wCB fTup (wCons (wVar 5) wNil))))))))))

abbrev N_cut : List Str := ["number"]
def rd_cut : WS :=
 (wRet (wCB fMin2 (wCons (wC (.int 255)) (wCons (wCB fMax2 (wCons (wC (.int 0)) (wCons (wVar 0) wNil))) wNil))))

def lb_samples_of_0 : WS :=
 (wDrop (wMt fAppend (wVar 2) (wCons (wCB fTup (wCons (wLc (wIt (wVar 3)) (put1 4) wYes (wCall sp_cut xF (wCons (wOp opAdd (wC (.int 128)) (wShr (wOp opAdd (wVar 4) (wC (.int 33554432))) (wC (.int 26)))) wNil)) [4]) wNil)) wNil)))
abbrev N_samples_of : List Str := ["table", "block", "rows", "row", "number"]
def rd_samples_of : WS :=
 (wSeq (wSet 2 (wLstM wNil))
 (wSeq (wFor (wIt (wCall sp_sums_of xF (wCons (wVar 0) (wCons (wVar 1) wNil)))) (gN 3) lb_samples_of_0)
 (wFz 2 (wRet (wCB fTup (wCons (wVar 2) wNil))))))

abbrev N_check_samples : List Str := ["rows", "least", "most", "row"]
def rd_check_samples (Es : MSt → XQ) : WS :=
 (wSeq (wIfS (wOr (wNot (wTruth (wIsi ["list", "tuple"] (wVar 0)))) (wTest (wOp (opEq true) (wCB fLen (wCons (wVar 0) wNil)) (wC (.int 8))))) (wRaise Es "NoSamples" ["part"] (wCons (wC (.str "samples")) wNil)) wNext)
 (wIfS (wNot (wTruth (wCB fAll (wCons (wLc (wIt (wVar 0)) (put1 3) wYes (wCall sp_are_from xF (wCons (wVar 3) (wCons (wC (.int 8)) (wCons (wVar 1) (wCons (wVar 2) wNil))))) [3]) wNil)))) (wRaise Es "NoSamples" ["part"] (wCons (wC (.str "samples")) wNil)) wNext))

abbrev N_waves_of : List Str := ["rows", "weights", "lines", "u", "row", "x", "v", "y"]
def rd_waves_of : WS :=
 (wSeq (wSet 1 (wLc (wRange1 (wC (.int 8))) (put1 3) wYes (wLc (wRange1 (wC (.int 8))) (put1 5) wYes (wCall sp_weight_of xF (wCons (wVar 5) (wCons (wVar 3) wNil))) [5]) [3]))
 (wSeq (wSet 2 (wLc (wIt (wVar 0)) (put1 4) wYes (wLc (wRange1 (wC (.int 8))) (put1 3) wYes (wCB fSum (wCons (wLc (wRange1 (wC (.int 8))) (put1 5) wYes (wOp opMul (wOp opIx (wOp opIx (wVar 1) (wVar 3)) (wVar 5)) (wOp opSub (wOp opIx (wVar 4) (wVar 5)) (wC (.int 128)))) [5]) wNil)) [3]) [4]))
 (wRet (wCB fTup (wCons (wLc (wIt (wCall sp_zigzag_places xF wNil)) (putT [6, 3]) wYes (wCB fSum (wCons (wLc (wRange1 (wC (.int 8))) (put1 7) wYes (wOp opMul (wOp opIx (wOp opIx (wVar 1) (wVar 6)) (wVar 7)) (wOp opIx (wOp opIx (wVar 2) (wVar 7)) (wVar 3))) [7]) wNil)) [6, 3]) wNil)))))

abbrev N_waves : List Str := ["rows"]
def rd_waves (Es : MSt → XQ) : WS :=
 (wSeq (wDrop (wCall sp_check_samples Es (wCons (wVar 0) (wCons (wC (.int 0)) (wCons (wC (.int 255)) wNil)))))
 (wRet (wCall sp_waves_of xF (wCons (wVar 0) wNil))))

def lb_block_if_0 : WS :=
 (wIfS (wTest (wGt (wCB fAbs (wCons (wOp opSub (wVar 4) (wShl (wOp opMul (wVar 5) (wVar 6)) (wC k_BITS))) wNil)) (wShl (wC k_MOST_AWAY) (wC k_BITS)))) (wRet (wC .non)) wNext)
abbrev N_block_if : List Str := ["table", "rows", "heights", "block", "wave", "entry", "number", "row"]
def rd_block_if : WS :=
 (wSeq (wSet 3 (wCB fTup (wCons (wLc (wZipR (wCons (wVar 2) (wCons (wVar 0) wNil))) (putT [4, 5]) wYes (wDiv (wOp opAdd (wOp opMul (wC (.int 2)) (wVar 4)) (wShl (wVar 5) (wC k_BITS))) (wShl (wVar 5) (wOp opAdd (wC k_BITS) (wC (.int 1))))) [4, 5]) wNil)))
 (wSeq (wFor (wZipR3 (wCons (wVar 2) (wCons (wVar 0) (wCons (wVar 3) wNil)))) (gT 3 (gC (gN 4) (gC (gN 5) (gC (gN 6) gZ)))) lb_block_if_0)
 (wRet (wIf (wTest (wOp (opEq false) (wCall sp_samples_of xF (wCons (wVar 0) (wCons (wVar 3) wNil))) (wCB fTup (wCons (wLc (wIt (wVar 1)) (put1 7) wYes (wCB fTup (wCons (wVar 7) wNil)) [7]) wNil)))) (wVar 3) (wC .non)))))

abbrev N_again : List Str := ["table", "rows"]
def rd_again (Es : MSt → XQ) : WS :=
 (wSeq (wIfS (wNot (wTruth (wCall sp_are_from xF (wCons (wVar 0) (wCons (wC (.int 64)) (wCons (wC k_LEAST_ENTRY) (wCons (wC k_MOST_ENTRY) wNil))))))) (wRaise Es "NoSamples" ["part"] (wCons (wC (.str "table")) wNil)) wNext)
 (wSeq (wDrop (wCall sp_check_samples Es (wCons (wVar 1) (wCons (wC (.int 1)) (wCons (wC (.int 254)) wNil)))))
 (wRet (wCall sp_block_if xF (wCons (wVar 0) (wCons (wVar 1) (wCons (wCall sp_waves_of xF (wCons (wVar 1) wNil)) wNil)))))))

abbrev N_law_purse : List Str := ["_law_cell"]
def rd_law_purse : WS :=
 (wRet (wLstM (wCons (wOp opMul (wVar 0) (wCB fInt (wCons (wGe (wVar 0) (wPow (wC (.int 10)) (wC (.int 18)))) wNil))) (wCons (wMod (wCB fInt (wCons (wVar 0) wNil)) (wC (.int 2147483563))) (wCons (wC (.int 5)) wNil)))))

abbrev N_law_coin : List Str := ["_law_purse_here", "_law_amount", "_law_mixed", "_law_coin_here"]
def rd_law_coin : WS :=
 (wSeq (wIfS (wTest (wGt (wOp opIx (wVar 0) (wC (.int 0))) (wC (.int 0)))) (wSeq (wSet 3 (wMod (wCB fInt (wCons (wOp opIx (wVar 0) (wC (.int 0))) wNil)) (wVar 1)))
 (wSeq (wAsg (wDiv (wOp opIx (wVar 0) (wC (.int 0))) (wVar 1)) (gSt (wVar 0) (wC (.int 0))))
 (wRet (wVar 3)))) wNext)
 (wSeq (wAsg (wOp opAdd (wOp opIx (wVar 0) (wC (.int 2))) (wC (.int 1))) (gSt (wVar 0) (wC (.int 2))))
 (wSeq (wSet 2 (wMod (wCB fInt (wCons (wPow (wOp opAdd (wOp opAdd (wOp opIx (wVar 0) (wC (.int 1))) (wOp opMul (wC (.int 90023)) (wOp opIx (wVar 0) (wC (.int 2))))) (wC (.int 3))) (wC (.int 3))) wNil)) (wC (.int 2147483587))))
 (wSeq (wSet 2 (wMod (wCB fInt (wCons (wOp opMul (wOp opAdd (wVar 2) (wOp opMul (wC (.int 9)) (wOp opIx (wVar 0) (wC (.int 2))))) (wOp opAdd (wDiv (wVar 2) (wC (.int 1033))) (wC (.int 70001)))) wNil)) (wC (.int 2147483549))))
 (wRet (wMod (wCB fInt (wCons (wDiv (wMod (wCB fInt (wCons (wOp opMul (wVar 2) (wOp opAdd (wDiv (wVar 2) (wC (.int 2029))) (wC (.int 40013)))) wNil)) (wC (.int 2147483543))) (wC (.int 3))) wNil)) (wVar 1)))))))

abbrev N_law_pick : List Str := ["_law_purse_here", "_law_some"]
def rd_law_pick : WS :=
 (wRet (wOp opIx (wVar 1) (wCall sp_law_coin xF (wCons (wVar 0) (wCons (wCB fLen (wCons (wVar 1) wNil)) wNil)))))

abbrev N_law_weight : List Str := ["_law_x", "_law_u", "_law_turns", "_law_known"]
def rd_law_weight : WS :=
 (wSeq (wIfS (wTest (wOp (opEq false) (wVar 1) (wC (.int 0)))) (wRet (wC (.int 2896))) wNext)
 (wSeq (wSet 2 (wMod (wCB fInt (wCons (wOp opMul (wOp opAdd (wOp opMul (wC (.int 2)) (wVar 0)) (wC (.int 1))) (wVar 1)) wNil)) (wC (.int 32))))
 (wSeq (wSet 2 (wIf (wTest (wGt (wVar 2) (wC (.int 16)))) (wOp opSub (wC (.int 32)) (wVar 2)) (wVar 2)))
 (wSeq (wSet 3 (wLst (wCons (wC (.int 4096)) (wCons (wC (.int 4017)) (wCons (wC (.int 3784)) (wCons (wC (.int 3406)) (wCons (wC (.int 2896)) (wCons (wC (.int 2276)) (wCons (wC (.int 1567)) (wCons (wC (.int 799)) (wCons (wC (.int 0)) wNil)))))))))))
 (wRet (wIf (wTest (wGt (wVar 2) (wC (.int 8)))) (wOp opSub (wC (.int 0)) (wOp opIx (wVar 3) (wOp opSub (wC (.int 16)) (wVar 2)))) (wOp opIx (wVar 3) (wVar 2))))))))

def lb_law_places_0 : WS :=
 (wSeq (wSet 2 (wLc (wRange1 (wC (.int 8))) (put1 3) (wTest (wLeLt (wC (.int 0)) (wOp opSub (wVar 1) (wVar 3)) (wC (.int 8)))) (wVar 3) [3]))
 (wSeq (wSet 2 (wIf (wTest (wOp (opEq false) (wMod (wCB fInt (wCons (wVar 1) wNil)) (wC (.int 2))) (wC (.int 1)))) (wVar 2) (wUn unRevA (wVar 2))))
 (wDrop (wMt fExtend (wVar 0) (wCons (wLc (wIt (wVar 2)) (put1 3) wYes (wTup (wCons (wVar 3) (wCons (wOp opSub (wVar 1) (wVar 3)) wNil))) [3]) wNil)))))
abbrev N_law_places : List Str := ["_law_found", "_law_total", "_law_lines", "_law_row"]
def rd_law_places : WS :=
 (wSeq (wSet 0 (wLstM wNil))
 (wSeq (wFor (wRange1 (wC (.int 15))) (gN 1) lb_law_places_0)
 (wFz 0 (wRet (wVar 0)))))

def lb_law_samples_0 : WS :=
 (wSeq (wSet 13 (wOp opMul (wOp opIx (wOp opIx (wVar 2) (wVar 9)) (wVar 11)) (wVar 7)))
 (wAsg (wOp opAdd (wOp opIx (wOp opIx (wVar 3) (wVar 10)) (wVar 9)) (wVar 13)) (gSt (wOp opIx (wVar 3) (wVar 10)) (wVar 9))))
def lb_law_samples_1 : WS :=
 (wSeq (wSet 7 (wOp opMul (wOp opIx (wVar 0) (wVar 6)) (wOp opIx (wVar 1) (wVar 6))))
 (wIfS (wTest (wOp (opEq true) (wVar 7) (wC (.int 0)))) (wFor (wRange1 (wC (.int 8))) (gN 9) lb_law_samples_0) wNext))
def lb_law_samples_2 : WS :=
 (wSeq (wSet 8 (wLc (wRange1 (wC (.int 8))) (put1 9) wYes (wCB fSum (wCons (wLc (wRange1 (wC (.int 8))) (put1 15) wYes (wOp opMul (wOp opIx (wOp opIx (wVar 2) (wVar 5)) (wVar 15)) (wOp opIx (wOp opIx (wVar 3) (wVar 15)) (wVar 9))) [15]) wNil)) [9]))
 (wDrop (wMt fAppend (wVar 4) (wCons (wLcM (wIt (wVar 8)) (put1 14) wYes (wOp opAdd (wC (.int 128)) (wShr (wOp opAdd (wVar 14) (wPow (wC (.int 2)) (wC (.int 25)))) (wC (.int 26)))) [14]) wNil))))
abbrev N_law_samples : List Str := ["_law_sheet", "_law_block_here", "_law_weights", "_law_lines", "_law_found", "_law_y", "_law_k", "_law_step", "_law_totals", "_law_x", "_law_row", "_law_column", "_law_u", "_law_part", "_law_number", "_law_v"]
def rd_law_samples : WS :=
 (wSeq (wSet 2 (wLc (wRange1 (wC (.int 8))) (put1 9) wYes (wLc (wRange1 (wC (.int 8))) (put1 12) wYes (wCall sp_law_weight xF (wCons (wVar 9) (wCons (wVar 12) wNil))) [12]) [9]))
 (wSeq (wSet 3 (wLc (wRange1 (wC (.int 8))) (put1 10) wYes (wOp opMulM (wLst (wCons (wC (.int 0)) wNil)) (wC (.int 8))) [10]))
 (wSeq (wFor (wEnum 0 (wCall sp_law_places xF wNil)) (gT 2 (gC (gN 6) (gC (gT 2 (gC (gN 10) (gC (gN 11) gZ))) gZ))) lb_law_samples_1)
 (wDz 3 (wSeq (wSet 4 (wLstM wNil))
 (wSeq (wFor (wRange1 (wC (.int 8))) (gN 5) lb_law_samples_2)
 (wRet (wVar 4))))))))

abbrev N_law_waves : List Str := ["_law_lines", "_law_weights", "_law_u", "_law_row", "_law_x", "_law_v", "_law_y"]
def rd_law_waves : WS :=
 (wSeq (wSet 1 (wLc (wRange1 (wC (.int 8))) (put1 2) wYes (wLc (wRange1 (wC (.int 8))) (put1 4) wYes (wCall sp_law_weight xF (wCons (wVar 4) (wCons (wVar 2) wNil))) [4]) [2]))
 (wSeq (wSet 0 (wLc (wIt (wVar 0)) (put1 3) wYes (wLc (wRange1 (wC (.int 8))) (put1 2) wYes (wCB fSum (wCons (wLc (wRange1 (wC (.int 8))) (put1 4) wYes (wOp opMul (wOp opIx (wOp opIx (wVar 1) (wVar 2)) (wVar 4)) (wOp opSub (wOp opIx (wVar 3) (wVar 4)) (wC (.int 128)))) [4]) wNil)) [2]) [3]))
 (wRet (wCB fTup (wCons (wLc (wIt (wCall sp_law_places xF wNil)) (putT [5, 2]) wYes (wCB fSum (wCons (wLc (wRange1 (wC (.int 8))) (put1 6) wYes (wOp opMul (wOp opIx (wOp opIx (wVar 1) (wVar 5)) (wVar 6)) (wOp opIx (wOp opIx (wVar 0) (wVar 6)) (wVar 2))) [6]) wNil)) [5, 2]) wNil)))))

abbrev N_law_within : List Str := ["_law_lines", "_law_low", "_law_high", "_law_row"]
def rd_law_within : WS :=
 (wRet (wAndV (wGe (wCB fMinR (wCons (wLc (wIt (wVar 0)) (put1 3) wYes (wCB fMinR (wCons (wVar 3) wNil)) [3]) wNil)) (wVar 1)) (wLe (wCB fMaxR (wCons (wLc (wIt (wVar 0)) (put1 3) wYes (wCB fMaxR (wCons (wVar 3) wNil)) [3]) wNil)) (wVar 2))))

abbrev N_law_entries : List Str := ["_law_purse_here", "_law_way", "_law_most", "_law_k"]
def rd_law_entries : WS :=
 (wSeq (wSet 1 (wCall sp_law_coin xF (wCons (wVar 0) (wCons (wC (.int 4)) wNil))))
 (wSeq (wIfS (wTest (wOp (opEq false) (wVar 1) (wC (.int 0)))) (wRet (wOp opMul (wTup (wCons (wOp opAdd (wC (.int 16)) (wCall sp_law_coin xF (wCons (wVar 0) (wCons (wC (.int 240)) wNil)))) wNil)) (wC (.int 64)))) wNext)
 (wSeq (wSet 2 (wCall sp_law_pick xF (wCons (wVar 0) (wCons (wLst (wCons (wC (.int 1)) (wCons (wC (.int 30)) (wCons (wC (.int 240)) (wCons (wC (.int 2000)) wNil))))) wNil))))
 (wRet (wCB fTup (wCons (wLc (wRange1 (wC (.int 64))) (put1 3) wYes (wOp opAdd (wC (.int 16)) (wCall sp_law_coin xF (wCons (wVar 0) (wCons (wVar 2) wNil)))) [3]) wNil))))))

def lb_law_block_0 : WS :=
 (wSeq (wSet 5 (wCall sp_law_pick xF (wCons (wVar 0) (wCons (wLst (wCons (wC (.int 0)) (wCons (wCall sp_law_coin xF (wCons (wVar 0) (wCons (wC (.int 10)) wNil))) (wCons (wCall sp_law_coin xF (wCons (wVar 0) (wCons (wC (.int 64)) wNil))) wNil)))) wNil))))
 (wSeq (wSet 6 (wDiv (wCB fMin2 (wCons (wVar 4) (wCons (wC (.int 400)) wNil))) (wOp opIx (wVar 1) (wVar 5))))
 (wIfS (wTest (wGt (wVar 6) (wC (.int 0)))) (wSeq (wAsg (wOp opMul (wOp opAdd (wC (.int 1)) (wCall sp_law_coin xF (wCons (wVar 0) (wCons (wVar 6) wNil)))) (wCall sp_law_pick xF (wCons (wVar 0) (wCons (wLst (wCons (wC (.int 1)) (wCons (wUn unNeg (wC (.int 1))) wNil))) wNil)))) (gSt (wVar 3) (wVar 5)))
 (wSet 4 (wOp opSub (wVar 4) (wOp opMul (wCB fAbs (wCons (wOp opIx (wVar 3) (wVar 5)) wNil)) (wOp opIx (wVar 1) (wVar 5)))))) wNext)))
abbrev N_law_block : List Str := ["_law_purse_here", "_law_sheet", "_law_turn", "_law_values", "_law_left", "_law_at", "_law_most"]
def rd_law_block : WS :=
 (wSeq (wPar 3 4 (wCons (wOp opMulM (wLst (wCons (wC (.int 0)) wNil)) (wC (.int 64))) (wCons (wC (.int 1000)) wNil)))
 (wSeq (wFor (wRange1 (wCall sp_law_coin xF (wCons (wVar 0) (wCons (wCall sp_law_pick xF (wCons (wVar 0) (wCons (wLst (wCons (wC (.int 2)) (wCons (wC (.int 6)) (wCons (wC (.int 30)) wNil)))) wNil))) wNil)))) (gN 2) lb_law_block_0)
 (wFz 3 (wRet (wCB fTup (wCons (wVar 3) wNil))))))

def lb_law_nearest_0 : WS :=
 (wDrop (wMt fAppend (wVar 2) (wCons (wDiv (wOp opAdd (wOp opMul (wC (.int 2)) (wVar 3)) (wOp opMul (wVar 4) (wPow (wC (.int 2)) (wC (.int 26))))) (wOp opMul (wVar 4) (wPow (wC (.int 2)) (wC (.int 27))))) wNil)))
abbrev N_law_nearest : List Str := ["_law_sheet", "_law_lines", "_law_found", "_law_height_so", "_law_entry"]
def rd_law_nearest : WS :=
 (wSeq (wSet 2 (wLstM wNil))
 (wSeq (wFor (wZip (wCons (wCall sp_law_waves xF (wCons (wVar 1) wNil)) (wCons (wVar 0) wNil))) (gT 2 (gC (gN 3) (gC (gN 4) gZ))) lb_law_nearest_0)
 (wFz 2 (wRet (wCB fTup (wCons (wVar 2) wNil))))))

abbrev N_law_said_right : List Str := ["_law_sheet", "_law_lines", "_law_near", "_law_due", "_law_row"]
def rd_law_said_right (Es : MSt → XQ) : WS :=
 (wSeq (wSet 2 (wCall sp_law_nearest xF (wCons (wVar 0) (wCons (wVar 1) wNil))))
 (wSeq (wSet 3 (wIf (wTest (wOp (opEq false) (wDzV (wCall sp_law_samples xF (wCons (wVar 0) (wCons (wVar 2) wNil)))) (wLc (wIt (wVar 1)) (put1 4) wYes (wCB fList (wCons (wVar 4) wNil)) [4]))) (wVar 2) (wC .non)))
 (wRet (wAndV (wOp (opEq false) (wCall sp_again Es (wCons (wVar 0) (wCons (wVar 1) wNil))) (wVar 3)) (wOp (opEq false) (wCallK sp_again Es 2 g_kw_again_rows_table (wCons (wLc (wIt (wVar 1)) (put1 4) wYes (wCB fList (wCons (wVar 4) wNil)) [4]) (wCons (wCB fList (wCons (wVar 0) wNil)) wNil))) (wVar 3))))))

abbrev N_law_right : List Str := ["_law_purse_here", "_law_sheet", "_law_block_here", "_law_lines", "_law_kept", "_law_y", "_law_x", "_law_row"]
def rd_law_right (Es : MSt → XQ) : WS :=
 (wSeq (wSet 1 (wCall sp_law_entries xF (wCons (wVar 0) wNil)))
 (wSeq (wSet 2 (wCall sp_law_block xF (wCons (wVar 0) (wCons (wVar 1) wNil))))
 (wSeq (wSet 3 (wCall sp_law_samples xF (wCons (wVar 1) (wCons (wVar 2) wNil))))
 (wSeq (wSet 4 (wCB fReprN (wCons (wVar 3) wNil)))
 (wSeq (wIfS (wNot (wTruth (wCall (spN sp_law_within) xF (wCons (wVar 3) (wCons (wC (.int 0)) (wCons (wC (.int 255)) wNil)))))) (wRet (wC (.bl true))) wNext)
 (wSeq (wIfS (wOr (wTest (wOp (opEq true) (wCall (spN sp_waves) Es (wCons (wVar 3) wNil)) (wCall (spN sp_law_waves) xF (wCons (wVar 3) wNil)))) (wTest (wOp (opEq true) (wCallK (spN sp_waves) Es 1 g_kw_waves_rows (wCons (wCB fTup (wCons (wLcR (wVar 3) (put1 7) wYes (wCB fTup (wCons (wVar 7) wNil)) [7]) wNil)) wNil)) (wCall (spN sp_law_waves) xF (wCons (wVar 3) wNil))))) (wRet (wC (.bl false))) wNext)
 (wSeq (wIfS (wNot (wTruth (wCall (spN sp_law_within) xF (wCons (wVar 3) (wCons (wC (.int 1)) (wCons (wC (.int 254)) wNil)))))) (wRet (wC (.bl true))) wNext)
 (wSeq (wIfS (wOr (wTest (wOp (opEq true) (wCall (spN sp_again) Es (wCons (wVar 1) (wCons (wVar 3) wNil))) (wVar 2))) (wOr (wNot (wTruth (wCall (spN sp_law_said_right) Es (wCons (wVar 1) (wCons (wVar 3) wNil))))) (wTest (wOp (opEq true) (wCB fReprN (wCons (wVar 3) wNil)) (wVar 4))))) (wRet (wC (.bl false))) wNext)
 (wSeq (wPar 5 6 (wCons (wCall sp_law_coin xF (wCons (wVar 0) (wCons (wC (.int 8)) wNil))) (wCons (wCall sp_law_coin xF (wCons (wVar 0) (wCons (wC (.int 8)) wNil))) wNil)))
 (wSeq (wAsg (wOp opAdd (wC (.int 1)) (wCall sp_law_coin xF (wCons (wVar 0) (wCons (wC (.int 254)) wNil)))) (gSt (wOp opIx (wVar 3) (wVar 5)) (wVar 6)))
 (wRet (wCall (spN sp_law_said_right) Es (wCons (wVar 1) (wCons (wVar 3) wNil))))))))))))))

def lb_law_0 (Es : MSt → XQ) : WS :=
 (wIfS (wNot (wTruth (wCall sp_law_right Es (wCons (wVar 2) wNil)))) (wRet (wC (.bl false))) wNext)
def lb_law_1 (Es : MSt → XQ) : WS :=
 (wSeq (wSet 2 (wCall sp_law_purse xF (wCons (wVar 1) wNil)))
 (wSeq (wFor (wRange1 (wC (.int 3))) (gN 3) (lb_law_0 Es))
 (wSeq (wSet 4 (wOp opMul (wTup (wCons (wOp opMul (wTup (wCons (wOp opAdd (wC (.int 1)) (wCall sp_law_coin xF (wCons (wVar 2) (wCons (wC (.int 254)) wNil)))) wNil)) (wC (.int 8))) wNil)) (wC (.int 8))))
 (wIfS (wNot (wTruth (wCall sp_law_said_right Es (wCons (wCall sp_law_entries xF (wCons (wVar 2) wNil)) (wCons (wVar 4) wNil))))) (wRet (wC (.bl false))) wNext))))
abbrev N_law : List Str := ["_law_script", "_law_cell", "_law_purse_here", "_law_turn", "_law_flat"]
def rd_law (Es : MSt → XQ) : WS :=
 (wSeq (wFor (wIt (wOp opAdd (wSl (wVar 0) wNo (wPart (wC (.int 3)))) (wLst (wCons (wC (.int 0)) wNil)))) (gN 1) (lb_law_1 Es))
 (wSeq (wIfS (wTest (wOp (opEq true) (wCall sp_again Es (wCons (wOp opMul (wTup (wCons (wC (.int 16)) wNil)) (wC (.int 64))) (wCons (wOp opMul (wTup (wCons (wOp opMul (wTup (wCons (wC (.int 130)) wNil)) (wC (.int 8))) wNil)) (wC (.int 8))) wNil))) (wOp opAdd (wTup (wCons (wC (.int 1)) wNil)) (wOp opMul (wTup (wCons (wC (.int 0)) wNil)) (wC (.int 63)))))) (wRet (wC (.bl false))) wNext)
 (wRet (wOp (opIsN false) (wCall sp_again Es (wCons (wOp opMul (wTup (wCons (wC (.int 16)) wNil)) (wC (.int 64))) (wCons (wOp opMul (wTup (wCons (wOp opMul (wTup (wCons (wC (.int 129)) wNil)) (wC (.int 8))) wNil)) (wC (.int 8))) wNil))) (wC .non)))))


theorem pure_zigzag_places (ds : List D) (h : MH) (Q' : MQ) (E' : XQ) (s : sp_zigzag_places ds h Q' E') : rd_zigzag_places { nx := fun _ h' => Q' .non h', rt := Q' } (mstart N_zigzag_places ds) h := TB.pure_zigzag_places ds h Q' E' s
theorem pure_is_integer (ds : List D) (h : MH) (Q' : MQ) (E' : XQ) (s : sp_is_integer ds h Q' E') : rd_is_integer { nx := fun _ h' => Q' .non h', rt := Q' } (mstart N_is_integer ds) h := SM.pure_is_integer ds h Q' E' s
theorem pure_is_from (ds : List D) (h : MH) (Q' : MQ) (E' : XQ) (s : sp_is_from ds h Q' E') : rd_is_from { nx := fun _ h' => Q' .non h', rt := Q' } (mstart N_is_from ds) h := SM.pure_is_from ds h Q' E' s
theorem pure_are_from (ds : List D) (h : MH) (Q' : MQ) (E' : XQ) (s : sp_are_from ds h Q' E') : rd_are_from { nx := fun _ h' => Q' .non h', rt := Q' } (mstart N_are_from ds) h := SM.pure_are_from ds h Q' E' s
theorem pure_wave (ds : List D) (h : MH) (Q' : MQ) (E' : XQ) (s : sp_wave ds h Q' E') : rd_wave { nx := fun _ h' => Q' .non h', rt := Q' } (mstart N_wave ds) h := SM.pure_wave ds h Q' E' s
theorem pure_weight_of (ds : List D) (h : MH) (Q' : MQ) (E' : XQ) (s : sp_weight_of ds h Q' E') : rd_weight_of { nx := fun _ h' => Q' .non h', rt := Q' } (mstart N_weight_of ds) h := SM.pure_weight_of ds h Q' E' s
theorem pure_steps_of (ds : List D) (h : MH) (Q' : MQ) (E' : XQ) (s : sp_steps_of ds h Q' E') : rd_steps_of { nx := fun _ h' => Q' .non h', rt := Q' } (mstart N_steps_of ds) h := SM.pure_steps_of ds h Q' E' s
theorem pure_sums_of (ds : List D) (h : MH) (Q' : MQ) (E' : XQ) (s : sp_sums_of ds h Q' E') : rd_sums_of { nx := fun _ h' => Q' .non h', rt := Q' } (mstart N_sums_of ds) h := SM.pure_sums_of ds h Q' E' s
theorem pure_cut (ds : List D) (h : MH) (Q' : MQ) (E' : XQ) (s : sp_cut ds h Q' E') : rd_cut { nx := fun _ h' => Q' .non h', rt := Q' } (mstart N_cut ds) h := SM.pure_cut ds h Q' E' s
theorem pure_samples_of (ds : List D) (h : MH) (Q' : MQ) (E' : XQ) (s : sp_samples_of ds h Q' E') : rd_samples_of { nx := fun _ h' => Q' .non h', rt := Q' } (mstart N_samples_of ds) h := SM.pure_samples_of ds h Q' E' s
theorem pure_check_samples (ds : List D) (h : MH) (Q' : MQ) (E' : XQ) (s : sp_check_samples ds h Q' E') : rd_check_samples (fun _ => E') { nx := fun _ h' => Q' .non h', rt := Q' } (mstart N_check_samples ds) h := AG.pure_check_samples ds h Q' E' s
theorem pure_waves_of (ds : List D) (h : MH) (Q' : MQ) (E' : XQ) (s : sp_waves_of ds h Q' E') : rd_waves_of { nx := fun _ h' => Q' .non h', rt := Q' } (mstart N_waves_of ds) h := AG.pure_waves_of ds h Q' E' s
theorem pure_waves (ds : List D) (h : MH) (Q' : MQ) (E' : XQ) (s : sp_waves ds h Q' E') : rd_waves (fun _ => E') { nx := fun _ h' => Q' .non h', rt := Q' } (mstart N_waves ds) h := AG.pure_waves ds h Q' E' s
theorem pure_block_if (ds : List D) (h : MH) (Q' : MQ) (E' : XQ) (s : sp_block_if ds h Q' E') : rd_block_if { nx := fun _ h' => Q' .non h', rt := Q' } (mstart N_block_if ds) h := AG.pure_block_if ds h Q' E' s
theorem pure_again (ds : List D) (h : MH) (Q' : MQ) (E' : XQ) (s : sp_again ds h Q' E') : rd_again (fun _ => E') { nx := fun _ h' => Q' .non h', rt := Q' } (mstart N_again ds) h := AG.pure_again ds h Q' E' s
theorem pure_law_purse (ds : List D) (h : MH) (Q' : MQ) (E' : XQ) (s : sp_law_purse ds h Q' E') : rd_law_purse { nx := fun _ h' => Q' .non h', rt := Q' } (mstart N_law_purse ds) h := PU.pure_law_purse ds h Q' E' s
theorem pure_law_coin (ds : List D) (h : MH) (Q' : MQ) (E' : XQ) (s : sp_law_coin ds h Q' E') : rd_law_coin { nx := fun _ h' => Q' .non h', rt := Q' } (mstart N_law_coin ds) h := PU.pure_law_coin ds h Q' E' s
theorem pure_law_pick (ds : List D) (h : MH) (Q' : MQ) (E' : XQ) (s : sp_law_pick ds h Q' E') : rd_law_pick { nx := fun _ h' => Q' .non h', rt := Q' } (mstart N_law_pick ds) h := PU.pure_law_pick ds h Q' E' s

section
variable (ds : List D) (h : MH) (Q' : MQ) (E' : XQ)
theorem isn (ts : List Int) : isNs (tD ts) ts := rfl
theorem isn_inj {ts ts' : List Int} (h : isNs (tD ts) ts') : ts' = ts := by
  have h : some (ts.map D.int) = some (ts'.map D.int) := h
  exact ((List.map_inj_right fun _ _ e => by injection e).mp (Option.some.inj h)).symm
structure IsG (d : D) (g : Nat → Nat → Int) : Prop where
  ok : ∀ h, okGr h d = true
  gr : Gr d g
  same : ∀ f, Gr d f → ∀ y x, y < 8 → x < 8 → f y x = g y x
  is : ∀ lo hi : Int, (∀ y x, y < 8 → x < 8 → lo ≤ g y x ∧ g y x ≤ hi) → isGr d lo hi = true
theorem rows_same {mk : List D → D} (hm : ∀ xs, rowF (mk xs) = some xs) {d : D} {g f : Nat → Nat → Int} (ed : rowF d = some ((List.range 8).map fun y => mk ((List.range 8).map fun x => .int (g y x)))) (h : Gr d f) {y x : Nat} (hy : y < 8) (hx : x < 8) : f y x = g y x := by
  obtain ⟨rs, e, l, a⟩ := h
  rw [ed] at e
  have e := Option.some.inj e
  subst e
  have := a y (mk ((List.range 8).map fun x => .int (g y x))) (by rw [List.getElem?_map, List.getElem?_range hy]; rfl)
  unfold isNs at this
  rw [hm] at this
  have := congrArg (fun l => l[x]?) (Option.some.inj this)
  simp only [List.getElem?_map, List.getElem?_range hx, Option.map_some, Option.some.injEq, D.int.injEq] at this
  exact this.symm
theorem ok_rowT {h : MH} {xs : List D} (l : xs.length ≤ 100) (ok : ∀ x ∈ xs, okE h x = true) : okRow h (.tup xs) = true := by
  simp only [okRow, rowF, clsD, okE]
  simp
  exact ⟨by omega, ok⟩
theorem ok_rowL {h : MH} {xs : List D} (l : xs.length ≤ 100) (ok : ∀ x ∈ xs, okE h x = true) : okRow h (.lst xs) = true := by
  simp only [okRow, rowF, clsD, okE]
  simp
  exact ⟨by omega, ok⟩
theorem isG_of {mk : List D → D} (hm : ∀ xs, rowF (mk xs) = some xs) (ho : ∀ h xs, xs.length ≤ 100 → (∀ x ∈ xs, okE h x = true) → okRow h (mk xs) = true) (he : ∀ h xs, okE h (mk xs) = true) {g : Nat → Nat → Int} : IsG (mk ((List.range 8).map fun y => mk ((List.range 8).map fun x => .int (g y x)))) g := by
  refine ⟨fun h => ?_, ⟨_, hm _, by simp, fun y r hr => ?_⟩, fun f hf y x hy hx => rows_same hm (hm _) hf hy hx, fun lo hi hb => ?_⟩
  · unfold okGr
    rw [hm, Bool.and_eq_true]
    refine ⟨ho h _ (by simp) fun x hx => ?_, ?_⟩
    · obtain ⟨y, _, rfl⟩ := List.mem_map.mp hx
      exact he h _
    · simp only [List.all_eq_true]
      intro x hx
      obtain ⟨y, _, rfl⟩ := List.mem_map.mp hx
      refine ho h _ (by simp) fun z hz => ?_
      obtain ⟨w, _, rfl⟩ := List.mem_map.mp hz
      rfl
  · rw [List.getElem?_map] at hr
    have hy : y < 8 := by
      cases hq : (List.range 8)[y]? with
      | none => rw [hq] at hr; cases hr
      | some z => simpa using (List.getElem?_eq_some_iff.mp hq).1
    rw [List.getElem?_range hy] at hr
    simp only [Option.map_some, Option.some.injEq] at hr
    subst hr
    unfold isNs
    rw [hm, List.map_map]
    rfl
  · unfold isGr
    rw [hm]
    simp only [List.length_map, List.length_range, decide_true, Bool.true_and, List.all_eq_true]
    intro x hx
    obtain ⟨y, hy, rfl⟩ := List.mem_map.mp hx
    unfold areFrom
    rw [hm]
    simp only [List.length_map, List.length_range, Bool.and_eq_true, decide_eq_true_eq, List.all_eq_true]
    refine ⟨rfl, fun z hz => ?_⟩
    obtain ⟨w, hw, rfl⟩ := List.mem_map.mp hz
    have := hb y w (List.mem_range.mp hy) (List.mem_range.mp hw)
    simp [btw, this.1, this.2]
theorem isG_T (g : Nat → Nat → Int) : IsG (gridD g) g := isG_of (mk := .tup) (fun _ => rfl) (fun h xs l ok => ok_rowT l ok) fun h xs => rfl
theorem isG_L (g : Nat → Nat → Int) : IsG (gridL g) g := isG_of (mk := .lst) (fun _ => rfl) (fun h xs l ok => ok_rowL l ok) fun h xs => rfl
theorem again_run {ts : List Int} {d : D} {g : Nat → Nat → Int} {h : MH} {Q : MQ} {E : XQ} (ot : OkT ts) (k : IsG d g) (hb : ∀ y x, y < 8 → x < 8 → 1 ≤ g y x ∧ g y x ≤ 254) (q : ∀ f, (∀ y x, y < 8 → x < 8 → f y x = g y x) → Q (ifD (ifF ts f (wavesF f))) h) : sp_again [tD ts, d] h Q E := by
  refine ⟨_, _, rfl, ns_row (isn ts) ot.1, k.ok h, ?_⟩
  rw [if_pos (ns_from (isn ts) ot.1 ot.2)]
  refine ⟨fun z => (by rw [k.is 1 254 hb] at z; cases z), fun _ ts' f e1 e2 => ?_⟩
  rw [isn_inj e1]
  exact q f (k.same f e2)
theorem again_ok {ts bs : List Int} {d : D} {g : Nat → Nat → Int} {h : MH} {Q : MQ} {E : XQ} (ot : OkT ts) (lb : bs.length = 64) (k : IsG d g) (s : Shows ts bs g) (q : Q (tD bs) h) : sp_again [tD ts, d] h Q E :=
  again_run ot k s.lo fun f hf => by
    have s2 : Shows ts bs f := ⟨fun y x hy hx => by rw [hf y x hy hx]; exact s.eq y x hy hx, fun y x hy hx => by rw [hf y x hy hx]; exact s.lo y x hy hx⟩
    rw [again_back s2 ot.1 lb fun n hn => (ot.2 n hn).1]
    exact q
theorem fit_tD (bs : List Int) : fit 64 (tD bs) = true := by
  simp only [tD, fit, List.all_eq_true]
  intro x hx
  obtain ⟨i, _, rfl⟩ := List.mem_map.mp hx
  rfl
theorem fit_gridL (f : Nat → Nat → Int) : fit 64 (gridL f) = true := by
  simp only [gridL, fit, List.all_eq_true]
  intro x hx
  obtain ⟨y, _, rfl⟩ := List.mem_map.mp hx
  simp only [fit, List.all_eq_true]
  intro z hz
  obtain ⟨w, _, rfl⟩ := List.mem_map.mp hz
  rfl
theorem if_some {ts bs : List Int} {f : Nat → Nat → Int} (lt : ts.length = 64) (h : ifF ts f (wavesF f) = some bs) : bs.length = 64 ∧ ∀ y x, y < 8 → x < 8 → sampleF (sumF ts bs y x) = f y x := by
  unfold ifF at h
  split at h
  · cases h
  · split at h
    · rename_i hs
      have e := Option.some.inj h
      subst e
      refine ⟨by unfold nearF; simp [waves_len, lt], fun y x hy hx => ?_⟩
      have := List.all_eq_true.mp hs y (List.mem_range.mpr hy)
      have := List.all_eq_true.mp this x (List.mem_range.mpr hx)
      exact beq_iff_eq.mp this
    · cases h
theorem pure_law_within (s : sp_law_within ds h Q' E') : rd_law_within { nx := fun _ h' => Q' .non h', rt := Q' } (mstart N_law_within ds) h := by
  obtain ⟨g, lo, hi, rfl, q⟩ := s
  rw [show mstart N_law_within [gridL g, .int lo, .int hi] = [some (gridL g), some (.int lo), some (.int hi), none] from rfl]
  unfold rd_law_within
  have szl := szL
  have er : rowF (gridL g) = some ((List.range 8).map fun y => D.lst ((List.range 8).map fun x => .int (g y x))) := rfl
  have one : ∀ (i : Nat) (d : D), ((List.range 8).map fun y => D.lst ((List.range 8).map fun x => .int (g y x)))[i]? = some d → i < 8 ∧ d = .lst (((List.range 8).map fun x => g i x).map .int) := fun i d e => by
    obtain ⟨y, ey, rfl⟩ := map_get e
    have hi : i < 8 := by simpa using (List.getElem?_eq_some_iff.mp ey).1
    rw [List.getElem?_range hi] at ey
    cases ey
    exact ⟨hi, by rw [List.map_map]; rfl⟩
  simp only [r_ret, r_andV, r_op, r_cb, r_cons, r_nil, r_lc, r_it, r_var, List.getElem?_cons_zero, er, mwipe, List.set]
  refine wLcGo_inv (fun i acc h' => h' = h ∧ ∃ ns : List Int, acc = ns.map .int ∧ ns.length = i ∧ ∀ j m, ns[j]? = some m → ∀ x, x < 8 → m ≤ g j x) ⟨rfl, [], rfl, rfl, fun j m e => by cases e⟩ ?_ ?_
  · rintro i d acc h' K e ⟨rfl, ns, rfl, hl, hn⟩ hK
    obtain ⟨hi, rfl⟩ := one i d e
    refine ⟨_, rfl, ?_⟩
    simp only [wYes, if_true, List.set, r_cb, r_cons, r_nil, r_var, List.getElem?_cons_zero, List.getElem?_cons_succ]
    refine minR_ok rfl (by simp) fun m m1 m2 => ⟨by simp; omega, hK _ _ ⟨rfl, ns ++ [m], by simp, by simp [hl], fun j m' ej x hx => ?_⟩⟩
    by_cases hj : j < ns.length
    · rw [List.getElem?_append_left hj] at ej
      exact hn j m' ej x hx
    · have : j = ns.length := by
        have := (List.getElem?_eq_some_iff.mp ej).1
        simp at this; omega
      subst this
      rw [List.getElem?_append_right (by omega)] at ej
      simp at ej
      subst ej
      rw [hl]
      exact m2 _ (List.mem_map.mpr ⟨x, List.mem_range.mpr hx, rfl⟩)
  · rintro acc h' ⟨rfl, ns, rfl, hl, hn⟩
    have hl8 : ns.length = 8 := by rw [hl]; simp
    refine minR_ok rfl (by omega) fun M M1 M2 => ?_
    simp only [r_var, List.getElem?_cons_zero, List.getElem?_cons_succ, o_cmp]
    cases hb : decide (lo ≤ M) with
    | false =>
      simp only [truth]
      exact q false fun z => by cases z
    | true =>
      have hM := of_decide_eq_true hb
      simp only [truth, r_lc, r_it, r_var, List.getElem?_cons_zero, er, mwipe, List.set]
      refine wLcGo_inv (fun i acc h2 => h2 = h' ∧ ∃ ms : List Int, acc = ms.map .int ∧ ms.length = i ∧ ∀ j m, ms[j]? = some m → ∀ x, x < 8 → g j x ≤ m) ⟨rfl, [], rfl, rfl, fun j m e => by cases e⟩ ?_ ?_
      · rintro i d acc h2 K e ⟨rfl, ms, rfl, ml, hm⟩ hK
        obtain ⟨hi, rfl⟩ := one i d e
        refine ⟨_, rfl, ?_⟩
        simp only [wYes, if_true, List.set, r_cb, r_cons, r_nil, r_var, List.getElem?_cons_zero, List.getElem?_cons_succ]
        refine maxR_ok rfl (by simp) fun m m1 m2 => ⟨by simp; omega, hK _ _ ⟨rfl, ms ++ [m], by simp, by simp [ml], fun j m' ej x hx => ?_⟩⟩
        by_cases hj : j < ms.length
        · rw [List.getElem?_append_left hj] at ej
          exact hm j m' ej x hx
        · have : j = ms.length := by
            have := (List.getElem?_eq_some_iff.mp ej).1
            simp at this; omega
          subst this
          rw [List.getElem?_append_right (by omega)] at ej
          simp at ej
          subst ej
          rw [ml]
          exact m2 _ (List.mem_map.mpr ⟨x, List.mem_range.mpr hx, rfl⟩)
      · rintro acc h2 ⟨rfl, ms, rfl, ml, hm⟩
        have ml8 : ms.length = 8 := by rw [ml]; simp
        refine maxR_ok rfl (by omega) fun M' M1' M2' => ?_
        simp only [r_var, List.getElem?_cons_zero, List.getElem?_cons_succ, o_cmp]
        refine q _ fun z y x hy hx => ?_
        have hM' := of_decide_eq_true z
        have a := hn y ns[y] (List.getElem?_eq_getElem (by omega)) x hx
        have b := hm y ms[y] (List.getElem?_eq_getElem (by omega)) x hx
        have c := M2 _ (List.getElem_mem (l := ns) (show y < ns.length by omega))
        have d := M2' _ (List.getElem_mem (l := ms) (show y < ms.length by omega))
        omega
theorem pure_law_entries (s : sp_law_entries ds h Q' E') : rd_law_entries { nx := fun _ h' => Q' .non h', rt := Q' } (mstart N_law_entries ds) h := by
  obtain ⟨s, n, rfl, hs, hn, q⟩ := s
  have szl := szL
  rw [show mstart N_law_entries [D.ref s] = [some (.ref s), none, none, none] from rfl]
  unfold rd_law_entries
  simp only [r_seq, r_set, r_call, r_cons, r_nil, r_c, r_var, List.getElem?_cons_zero, List.set]
  refine coin_ok hs (by omega) (by omega) (by omega) fun r h1 r0 r1 f1 c1 => ?_
  simp only [r_ifS, r_test, r_op, r_c, r_var, List.getElem?_cons_zero, List.getElem?_cons_succ, o_eq, Bool.false_eq_true, if_false]
  cases hr : (r == 0) with
  | true =>
    simp only [if_true, r_ret, r_op, r_tup, r_call, r_cons, r_nil, r_c, r_var, List.getElem?_cons_zero]
    refine coin_ok c1 (by omega) (by omega) (by omega) fun z h2 z0 z1 f2 c2 => ?_
    simp only [o_add]
    refine ⟨by simp, ?_⟩
    simp only [o_mulT]
    refine ⟨⟨by simp, by omega, by omega, by simp⟩, ?_⟩
    have e : (List.replicate (64 : Int).toNat [D.int (16 + z)]).flatten = (List.replicate 64 (16 + z)).map .int := by simp
    rw [e]
    exact q _ _ ⟨by simp, fun e he => by rw [List.eq_of_mem_replicate he]; omega⟩ (c2.mono (by omega))
  | false =>
    simp only [Bool.false_eq_true, if_false, r_next, r_seq, r_set, r_call, r_lst, r_cons, r_nil, r_c, r_var, List.getElem?_cons_zero, List.set]
    refine ⟨by simp, pick_ok c1 (by omega) (by simp) (by simp) fun x h2 hx f2 c2 => ?_⟩
    obtain ⟨m, rfl, m1, m2⟩ : ∃ m : Int, x = .int m ∧ 1 ≤ m ∧ m ≤ 2000 := by
      simp only [List.mem_cons, List.not_mem_nil, or_false] at hx
      rcases hx with rfl | rfl | rfl | rfl <;> exact ⟨_, rfl, by omega, by omega⟩
    simp only [List.set, r_ret, r_cb, r_cons, r_nil, r_lc, r_range1, r_c, mwipe]
    refine ⟨by unfold okR; omega, ?_⟩
    refine wLcGo_inv (fun i acc h' => ∃ ts : List Int, acc = ts.map .int ∧ ts.length = i ∧ (∀ e ∈ ts, 16 ≤ e ∧ e ≤ 65535) ∧ Cn h' s (n + 2 + i)) ⟨[], rfl, rfl, by simp, c2⟩ ?_ ?_
    · rintro i d acc h' K e ⟨ts, rfl, tl, tb, c3⟩ hK
      obtain ⟨hi, rfl⟩ := range_get e
      have hi : i < 64 := hi
      refine ⟨_, rfl, ?_⟩
      simp only [wYes, if_true, List.set, r_op, r_call, r_cons, r_nil, r_c, r_var, List.getElem?_cons_zero, List.getElem?_cons_succ]
      refine coin_ok c3 (by omega) (by omega) (by omega) fun z h4 z0 z1 f4 c4 => ?_
      simp only [o_add]
      refine ⟨by simp; omega, hK _ _ ⟨ts ++ [16 + z], by simp, by simp [tl], fun e he => ?_, c4.mono (by omega)⟩⟩
      rcases List.mem_append.mp he with he | he
      · exact tb e he
      · rw [List.mem_singleton.mp he]; omega
    · rintro acc h' ⟨ts, rfl, tl, tb, c3⟩
      have tl : ts.length = 64 := tl
      simp only [o_tup1, sq_lst]
      exact q ts _ ⟨tl, tb⟩ (c3.mono (by show n + 2 + 64 ≤ n + 70; omega))
theorem fro_at {h h' : MH} {s p : Addr} {c : Cell} (f : Fro h h' s) (ne : p ≠ s) (e : h p = some c) : h' p = some c := by rw [f.oth p ne]; exact e
theorem blk_turn {h : MH} {K bk : MSt → MH → Prop} {rt : MQ} {s p : Addr} {ts bs : List Int} {n : Nat} {left : Int} {v2 v5 v6 : Option D} (ot : OkT ts) (hs : Cn h s n) (hn : n ≤ 200000) (ps : p ≠ s) (lb : bs.length = 64) (bb : ∀ b ∈ bs, b.natAbs ≤ 1000) (hp : h p = some (.lst (bs.map .int)))
    (hK : ∀ (h' : MH) (bs' : List Int) (left' : Int) (v5 v6 : Option D), bs'.length = 64 → (∀ b ∈ bs', b.natAbs ≤ 1000) → Cn h' s (n + 5) → h' p = some (.lst (bs'.map .int)) → K [some (.ref s), some (tD ts), v2, some (.ref p), some (.int left'), v5, v6] h') :
    lb_law_block_0 { nx := K, ct := K, bk := bk, rt := rt } [some (.ref s), some (tD ts), v2, some (.ref p), some (.int left), v5, v6] h := by
  have szl := szL
  obtain ⟨lt, tb⟩ := ot
  unfold lb_law_block_0
  simp only [r_seq, r_set, r_call, r_lst, r_cons, r_nil, r_c, r_var, List.getElem?_cons_zero, List.getElem?_cons_succ]
  refine coin_ok hs (by omega) (by omega) (by omega) fun a h1 a0 a1 f1 c1 => ?_
  refine coin_ok c1 (by omega) (by omega) (by omega) fun b h2 b0 b1 f2 c2 => ?_
  refine ⟨by simp, pick_ok c2 (by omega) (by simp) (by simp) fun x h3 hx f3 c3 => ?_⟩
  obtain ⟨k, rfl, hk⟩ : ∃ k : Nat, x = .int (k : Int) ∧ k < 64 := by
    obtain ⟨a, rfl⟩ := Int.eq_ofNat_of_zero_le a0
    obtain ⟨b, rfl⟩ := Int.eq_ofNat_of_zero_le b0
    simp only [List.mem_cons, List.not_mem_nil, or_false] at hx
    rcases hx with rfl | rfl | rfl
    · exact ⟨0, rfl, by omega⟩
    · exact ⟨a, rfl, by omega⟩
    · exact ⟨b, rfl, by omega⟩
  have p3 := fro_at f3 ps (fro_at f2 ps (fro_at f1 ps hp))
  have at1 : atI (ts.map D.int) (k : Int) = some (.int (ts.getD k 0)) := at_nat (by omega)
  have eb := tb _ (SM.mem_getD (ns := ts) (k := k) (by omega))
  generalize ts.getD k 0 = e at *
  simp only [List.set, tD, r_seq, r_set, r_op, r_cb, r_cons, r_nil, r_c, r_var, List.getElem?_cons_zero, List.getElem?_cons_succ, o_min2, o_ix, sq_tup, at1, o_int]
  refine ⟨div_small (by omega) (by omega), ?_⟩
  have mb : (if (400 : Int) < left then 400 else left) / e ≤ 400 := by
    have h1 : (if (400 : Int) < left then 400 else left) ≤ 400 := by split <;> omega
    generalize (if (400 : Int) < left then 400 else left) = z at *
    by_cases hz : 0 ≤ z
    · exact Int.le_trans (Int.ediv_le_self _ hz) h1
    · have : z / e ≤ 0 := by
        have := Int.ediv_le_ediv (c := e) (by omega) (show z ≤ 0 by omega)
        simpa using this
      omega
  generalize (if (400 : Int) < left then 400 else left) / e = m at *
  simp only [r_ifS, r_test, r_op, r_c, r_var, List.getElem?_cons_zero, List.getElem?_cons_succ, o_cmp]
  by_cases h0 : 0 < m
  · rw [decide_eq_true h0]
    simp only [if_true, r_seq, r_asg, r_gSt, r_op, r_call, r_lst, r_un, r_cons, r_nil, r_c, r_var, List.getElem?_cons_zero, List.getElem?_cons_succ]
    refine coin_ok c3 (by omega) (by omega) (by omega) fun z h4 z0 z1 f4 c4 => ?_
    simp only [o_add, o_neg]
    refine ⟨by simp, pick_ok c4 (by omega) (by simp) (by simp) fun y h5 hy f5 c5 => ?_⟩
    obtain ⟨g, rfl, g1, g2⟩ : ∃ g : Int, y = .int g ∧ -1 ≤ g ∧ g ≤ 1 := by
      simp only [List.mem_cons, List.not_mem_nil, or_false] at hy
      rcases hy with rfl | rfl
      · exact ⟨1, rfl, by omega, by omega⟩
      · exact ⟨-1, rfl, by omega, by omega⟩
    have p5 := fro_at f5 ps (fro_at f4 ps p3)
    simp only [o_mul]
    refine ⟨small_mul (by omega), ?_⟩
    simp only [p5, List.length_map, lb, ixN_of hk]
    have es : (bs.map D.int).set k (.int ((1 + z) * g)) = (bs.set k ((1 + z) * g)).map .int := by rw [List.map_set]
    rw [es]
    have lb' : (bs.set k ((1 + z) * g)).length = 64 := by simp [lb]
    have at2 : atI ((bs.set k ((1 + z) * g)).map D.int) (k : Int) = some (.int ((bs.set k ((1 + z) * g)).getD k 0)) := at_nat (by omega)
    have bb' : ∀ b ∈ bs.set k ((1 + z) * g), b.natAbs ≤ 1000 := fun b hb => by
      rcases List.mem_or_eq_of_mem_set hb with hb | rfl
      · exact bb b hb
      · have : (1 + z).natAbs ≤ 400 := by omega
        have g1' : g.natAbs ≤ 1 := by omega
        have := mul_abs this g1'
        omega
    generalize bs.set k ((1 + z) * g) = bs' at *
    have c6 : Cn (mupd h5 p (.lst (bs'.map .int))) s (n + 5) := c5.upd ps
    simp only [r_set, r_op, r_cb, r_cons, r_nil, r_var, List.getElem?_cons_zero, List.getElem?_cons_succ, o_ix, sq_ref, mupd_same, at2, o_abs, sq_tup, at1, o_mul, o_sub, List.set]
    exact ⟨small_mulR (by omega), hK _ bs' _ _ _ lb' bb' c6 mupd_same⟩
  · rw [decide_eq_false h0]
    simp only [Bool.false_eq_true, if_false, r_next]
    exact hK _ bs _ _ _ lb bb (c3.mono (by omega)) p3
theorem pure_law_block (s : sp_law_block ds h Q' E') : rd_law_block { nx := fun _ h' => Q' .non h', rt := Q' } (mstart N_law_block ds) h := by
  obtain ⟨s, ts, n, rfl, ot, hs, hn, q⟩ := s
  have szl := szL
  rw [show mstart N_law_block [D.ref s, tD ts] = [some (.ref s), some (tD ts), none, none, none, none, none] from rfl]
  unfold rd_law_block
  simp only [r_seq, r_par, r_op, r_lst, r_cons, r_nil, r_c, o_mulM]
  refine ⟨by simp, ⟨by omega, by omega, by simp⟩, fun p hp => ?_⟩
  have ps : p ≠ s := by rintro rfl; exact hs.src.some hp
  have e0 : (List.replicate (64 : Int).toNat [D.int 0]).flatten = (List.replicate 64 (0 : Int)).map .int := by rfl
  rw [e0]
  have c0 : Cn (mupd h p (.lst ((List.replicate 64 (0 : Int)).map .int))) s n := hs.new hp
  have p0 : (mupd h p (.lst ((List.replicate 64 (0 : Int)).map .int))) p = some (.lst ((List.replicate 64 (0 : Int)).map .int)) := mupd_same
  generalize mupd h p (.lst ((List.replicate 64 (0 : Int)).map .int)) = h1 at c0 p0
  simp only [List.set, r_seq, r_for, r_range1, r_call, r_lst, r_cons, r_nil, r_c, r_var, List.getElem?_cons_zero, List.getElem?_cons_succ]
  refine ⟨by simp, pick_ok c0 (by omega) (by simp) (by simp) fun x h2 hx f2 c2 => ?_⟩
  obtain ⟨m, rfl, m1, m2⟩ : ∃ m : Int, x = .int m ∧ 1 ≤ m ∧ m ≤ 30 := by
    simp only [List.mem_cons, List.not_mem_nil, or_false] at hx
    rcases hx with rfl | rfl | rfl <;> exact ⟨_, rfl, by omega, by omega⟩
  refine coin_ok c2 (by omega) (by omega) (by omega) fun r h3 r0 r1 f3 c3 => ?_
  refine ⟨by unfold okR; omega, ?_⟩
  refine wLoop_inv (fun i σ h' => ∃ bs left v2 v5 v6, i ≤ 30 ∧ (bs.length = 64 ∧ ∀ b ∈ bs, b.natAbs ≤ 1000) ∧ σ = [some (.ref s), some (tD ts), v2, some (.ref p), some (.int left), v5, v6] ∧ Cn h' s (n + 2 + 5 * i) ∧ h' p = some (.lst (bs.map .int))) ⟨List.replicate 64 0, 1000, _, _, _, by omega, ⟨by simp, fun b hb => by rw [List.eq_of_mem_replicate hb]; decide⟩, rfl, c3, fro_at f3 ps (fro_at f2 ps p0)⟩ ?_ ?_
  · rintro i d σ h' K e ⟨bs, left, v2, v5, v6, hi, lb, rfl, ci, pi⟩ hK
    obtain ⟨hir, rfl⟩ := range_get e
    simp only [r_gN, List.set]
    refine blk_turn ot ci (by omega) ps lb.1 lb.2 pi fun h'' bs' left' v5 v6 lb' bb' c' p' => hK _ _ ⟨bs', left', _, _, _, by omega, ⟨lb', bb'⟩, rfl, c'.mono (by omega), p'⟩
  · rintro σ h' ⟨bs, left, v2, v5, v6, hi, lb, rfl, ci, pi⟩
    simp only [r_fz, r_ret, r_cb, r_cons, r_nil, r_var, List.getElem?_cons_zero, List.getElem?_cons_succ, pi, List.set, o_tup1, sq_lst]
    exact q bs _ lb ((ci.mono (by omega)).del ps)
def lt0 (x u : Nat) : Int := (2 * (x : Int) + 1) * (u : Int) % 32
def lt1 (t : Int) : Int := if 16 < t then 32 - t else t
def wvL : List Int := [4096, 4017, 3784, 3406, 2896, 2276, 1567, 799, 0]
theorem lw_all : ((List.range 8).all fun x => (List.range 8).all fun u => decide (u = 0) || (decide (0 ≤ lt1 (lt0 x u)) && decide (lt1 (lt0 x u) ≤ 16) && decide (weightF x u = if 8 < lt1 (lt0 x u) then 0 - wvL.getD (16 - lt1 (lt0 x u)).toNat 0 else wvL.getD (lt1 (lt0 x u)).toNat 0))) = true := by decide +kernel
theorem lw_zero : ((List.range 8).all fun x => decide (weightF x 0 = 2896)) = true := by decide +kernel
theorem lw_at {x u : Nat} (hx : x < 8) (hu : u < 8) (h : u ≠ 0) : 0 ≤ lt1 (lt0 x u) ∧ lt1 (lt0 x u) ≤ 16 ∧ weightF x u = if 8 < lt1 (lt0 x u) then 0 - wvL.getD (16 - lt1 (lt0 x u)).toNat 0 else wvL.getD (lt1 (lt0 x u)).toNat 0 := by
  have := List.all_eq_true.mp lw_all x (List.mem_range.mpr hx)
  have := List.all_eq_true.mp this u (List.mem_range.mpr hu)
  simp only [Bool.or_eq_true, Bool.and_eq_true, decide_eq_true_eq] at this
  rcases this with e | ⟨⟨a, b⟩, c⟩
  · exact absurd e h
  · exact ⟨a, b, c⟩
theorem lw_0 {x : Nat} (hx : x < 8) : weightF x 0 = 2896 := by
  have := List.all_eq_true.mp lw_zero x (List.mem_range.mpr hx)
  simpa using this
theorem wv_at {k : Int} (h0 : 0 ≤ k) (h8 : k ≤ 8) : atI [D.int 4096, D.int 4017, D.int 3784, D.int 3406, D.int 2896, D.int 2276, D.int 1567, D.int 799, D.int 0] k = some (.int (wvL.getD k.toNat 0)) := by
  have := at_nat (ns := wvL) (a := k.toNat) (by simp [wvL]; omega)
  rw [Int.toNat_of_nonneg h0] at this
  exact this
theorem pure_law_weight (s : sp_law_weight ds h Q' E') : rd_law_weight { nx := fun _ h' => Q' .non h', rt := Q' } (mstart N_law_weight ds) h := by
  obtain ⟨x, u, rfl, hx, hu, q⟩ := s
  have szl := szL
  rw [show mstart N_law_weight [D.int x, .int u] = [some (.int x), some (.int u), none, none] from rfl]
  unfold rd_law_weight
  simp
  by_cases h0 : u = 0
  · subst h0
    rw [lw_0 hx] at q
    simpa using q
  · obtain ⟨a, b, c⟩ := lw_at hx hu h0
    rw [c] at q
    rw [if_neg h0]
    refine ⟨small_mulR (by omega), ?_⟩
    have fin : ∀ t : Int, 0 ≤ t → t ≤ 16 → Q' (D.int (if 8 < t then 0 - wvL.getD (16 - t).toNat 0 else wvL.getD t.toNat 0)) h → (if 8 < t then (match atI [D.int 4096, D.int 4017, D.int 3784, D.int 3406, D.int 2896, D.int 2276, D.int 1567, D.int 799, D.int 0] (16 - t) with
        | some d => opSub (D.int 0) d h Q'
        | none => False) else (match atI [D.int 4096, D.int 4017, D.int 3784, D.int 3406, D.int 2896, D.int 2276, D.int 1567, D.int 799, D.int 0] t with
        | some d => Q' d h
        | none => False)) := fun t a b q => by
      by_cases h8 : 8 < t
      · rw [if_pos h8] at q ⊢
        rw [wv_at (by omega) (by omega)]
        exact q
      · rw [if_neg h8] at q ⊢
        rw [wv_at a (by omega)]
        exact q
    rw [show ((2 * (x : Int) + 1) * (u : Int)) % 32 = lt0 x u from rfl]
    by_cases h16 : 16 < lt0 x u
    · have et : lt1 (lt0 x u) = 32 - lt0 x u := by unfold lt1; rw [if_pos h16]
      rw [et] at a b q
      rw [if_pos h16]
      exact fin _ a b q
    · have et : lt1 (lt0 x u) = lt0 x u := by unfold lt1; rw [if_neg h16]
      rw [et] at a b q
      rw [if_neg h16]
      exact fin _ a b q
def rowsP (t : Nat) : List Nat := (List.range 8).filter fun r => decide (r ≤ t ∧ t < r + 8)
def dirP (t : Nat) : List Nat := if t % 2 = 1 then rowsP t else (rowsP t).reverse
def plP (t r : Nat) : D := .tup [.int (r : Int), .int ((t : Int) - (r : Int))]
def plc (i : Nat) : List D := (List.range i).flatMap fun t => (dirP t).map (plP t)
theorem plc_15 : plc 15 = TB.zzD := by rfl
theorem plc_succ (i : Nat) : plc (i + 1) = plc i ++ (dirP i).map (plP i) := by
  unfold plc
  rw [List.range_succ, List.flatMap_append]; simp
theorem dirP_len (t : Nat) : (dirP t).length ≤ 8 := by
  have : (rowsP t).length ≤ 8 := by
    unfold rowsP
    refine Nat.le_trans (List.length_filter_le _ _) ?_
    simp
  unfold dirP
  split
  · exact this
  · rw [List.length_reverse]; exact this
theorem plc_len : ∀ i, (plc i).length ≤ 8 * i
  | 0 => by simp [plc]
  | i + 1 => by
    have := plc_len i
    have := dirP_len i
    rw [plc_succ, List.length_append, List.length_map]
    omega
theorem pure_law_places (s : sp_law_places ds h Q' E') : rd_law_places { nx := fun _ h' => Q' .non h', rt := Q' } (mstart N_law_places ds) h := by
  obtain ⟨rfl, q⟩ := s
  have szl := szL
  rw [show mstart N_law_places [] = [none, none, none, none] from rfl]
  unfold rd_law_places
  simp
  intro p hp
  refine wLoop_inv (fun i σ h' => h' = mupd h p (.lst (plc i)) ∧ ∃ v1 v2, σ = [some (.ref p), v1, v2, none]) ⟨rfl, none, none, rfl⟩ ?_ ?_
  · rintro i d σ h' K e ⟨rfl, v1, v2, rfl⟩ hK
    obtain ⟨hi, rfl⟩ := range_get e
    have hi : i < 15 := hi
    have pl := plc_len i
    have dl := dirP_len i
    unfold lb_law_places_0
    simp
    rw [show rangeD 0 8 = (List.range 8).map fun i : Nat => D.int (i : Int) from by unfold rangeD; exact List.map_congr_left fun i _ => by rw [Int.zero_add]]
    refine lc_filter (fun r : Nat => D.int (r : Int)) (fun r : Nat => D.int (r : Int)) (fun r => decide (r ≤ i ∧ i < r + 8)) (List.range 8) (by simp) (fun r hr => ⟨_, rfl, fun K k => ?_⟩) (fun r _ _ σ2 e K k => ?_) ?_
    · simp [mwipe, List.set]
      by_cases h1 : r ≤ i
      · have e : decide ((i : Int) - (r : Int) < 8) = decide (r ≤ i ∧ i < r + 8) := by
          rw [Bool.eq_iff_iff, decide_eq_true_eq, decide_eq_true_eq]; omega
        simp only [decide_eq_true h1, e]
        exact k
      · have e : decide (r ≤ i ∧ i < r + 8) = false := decide_eq_false (by omega)
        rw [e] at k
        simp only [decide_eq_false h1]
        exact k
    · have e : some _ = some σ2 := e
      injection e with e
      subst e
      simpa [mwipe, List.set] using k
    · rw [show ((List.range 8).filter fun r => decide (r ≤ i ∧ i < r + 8)) = rowsP i from rfl]
      simp
      have tail : ∀ (R : List Nat) (v : Option D), R = dirP i → wLcGo (put1 3) wYes (wTup (wCons (wVar 3) (wCons (wOp opSub (wVar 1) (wVar 3)) wNil))) (mwipe [some (D.ref p), some (D.int ↑i), v, none] [3]) (R.map fun r : Nat => D.int (r : Int)) [] (mupd h p (.lst (plc i))) fun acc h2 =>
          match h2 p, some acc with
          | some (Cell.lst xs), some zs => xs.length + zs.length ≤ 16777216 ∧ K [some (D.ref p), some (D.int ↑i), v, none] (mupd h2 p (Cell.lst (xs ++ zs)))
          | x, x_1 => False := fun R v eR => by
        subst eR
        refine lc_over (fun r : Nat => D.int (r : Int)) (plP i) (dirP i) (by omega) (fun r hr K2 k2 => ⟨_, rfl, ?_⟩) ?_
        · simp [mwipe, List.set]
          exact k2
        · simp only [mupd_same, mupd_mupd, List.length_map]
          refine ⟨by omega, hK _ _ ⟨by rw [plc_succ], _, _, rfl⟩⟩
      by_cases h2 : i % 2 = 1
      · rw [if_pos (show (i : Int) % 2 = 1 by omega)]
        exact tail _ _ (by unfold dirP; rw [if_pos h2])
      · rw [if_neg (show ¬ (i : Int) % 2 = 1 by omega), ← List.map_reverse]
        exact tail _ _ (by unfold dirP; rw [if_neg h2])
  · rintro σ h' ⟨rfl, v1, v2, rfl⟩
    simp [mupd_same, mdel_mupd hp]
    have : plc (rangeD 0 15).length = TB.zzD := plc_15
    rw [range_len, plc_15]
    exact q
theorem gd_rows {d : D} {g : Nat → Nat → Int} (h : isGd d g) : ∃ mk : List D → D, (∀ (h : MH) (xs : List D), sqOf h (mk xs) = some xs) ∧ rowF d = some ((List.range 8).map fun y => mk ((List.range 8).map fun x => .int (g y x))) := by
  rcases h with rfl | rfl
  · exact ⟨.lst, fun _ _ => rfl, rfl⟩
  · exact ⟨.tup, fun _ _ => rfl, rfl⟩
theorem sum_l {f : Nat → Int} {l : List Nat} {h : MH} {Q : MQ} (q : Q (.int (l.map f).sum) h) : fSum [.lst (l.map fun x => D.int (f x))] h Q := by
  unfold fSum
  simp only [ls_lst, Option.bind_some, SM.ints_map f]
  exact q
theorem w_mul (x u : Nat) (z : Int) : mulOk (weightF x u) z := small_mul (by have := w_abs x u; omega)
theorem pure_law_waves (s : sp_law_waves ds h Q' E') : rd_law_waves { nx := fun _ h' => Q' .non h', rt := Q' } (mstart N_law_waves ds) h := by
  obtain ⟨d, g, rfl, hd, q⟩ := s
  have szl := szL
  obtain ⟨mk, hm, er⟩ := gd_rows hd
  rw [show mstart N_law_waves [d] = [some d, none, none, none, none, none, none] from rfl]
  unfold rd_law_waves
  simp
  refine lc_rangeD 8 (fun u => D.lst ((List.range 8).map fun x => D.int (weightF x u))) (by omega) (fun u hu K k => ⟨_, rfl, ?_⟩) ?_
  · simp [mwipe, List.set]
    refine lc_rangeD 8 (fun x => D.int (weightF x u)) (by omega) (fun x hx K2 k2 => ⟨_, rfl, ?_⟩) ?_
    · simp [mwipe, List.set]
      exact ⟨x, u, rfl, hx, hu, k2⟩
    · exact k
  simp [er]
  refine lc_over (fun y => mk ((List.range 8).map fun x => .int (g y x))) (fun y => D.lst ((List.range 8).map fun u => D.int (linF g u y))) (List.range 8) (by simp) (fun y hy K k => ⟨_, rfl, ?_⟩) ?_
  · simp [mwipe, List.set]
    refine lc_rangeD 8 (fun u => D.int (linF g u y)) (by omega) (fun u hu K2 k2 => ⟨_, rfl, ?_⟩) ?_
    · simp [mwipe, List.set]
      refine lc_rangeD 8 (fun x => D.int (weightF x u * (g y x - 128))) (by omega) (fun x hx K3 k3 => ⟨_, rfl, ?_⟩) ?_
      · simp [mwipe, List.set, hm, SM.rowsI_at (f := fun u => D.lst ((List.range 8).map fun x => D.int (weightF x u))) hu, SM.rowI_at (f := fun x => weightF x u) hx, SM.rowI_at (f := fun x => g y x) hx]
        exact ⟨w_mul x u _, k3⟩
      · exact sum_l k2
    · exact k
  refine ⟨rfl, ?_⟩
  rw [zzD_map]
  refine lc_over (put := putT [5, 2]) (fun z : Nat × Nat => D.tup [.int (z.1 : Int), .int (z.2 : Int)]) (fun z => D.int (wavF g z.1 z.2)) zzP (by rw [zzP_len]; omega) (fun z hz K k => ⟨_, rfl, ?_⟩) ?_
  · obtain ⟨h1, h2⟩ := zzP_mem hz
    simp [mwipe, msetAll, List.set]
    refine lc_rangeD 8 (fun y => D.int (weightF y z.1 * linF g z.2 y)) (by omega) (fun y hy K3 k3 => ⟨_, rfl, ?_⟩) ?_
    · simp [mwipe, msetAll, List.set, SM.rowsI_at (f := fun u => D.lst ((List.range 8).map fun x => D.int (weightF x u))) h1, SM.rowI_at (f := fun y => weightF y z.1) hy, SM.rowsI_at (f := fun y => D.lst ((List.range 8).map fun u => D.int (linF g u y))) hy, SM.rowI_at (f := fun u => linF g u y) h2]
      exact ⟨w_mul y z.1 _, k3⟩
    · exact sum_l k
  · have : (zzP.map fun z => D.int (wavF g z.1 z.2)) = (wavesF g).map D.int := by unfold wavesF; rw [List.map_map]; rfl
    rw [this]
    exact q
theorem pure_law_nearest (s : sp_law_nearest ds h Q' E') : rd_law_nearest { nx := fun _ h' => Q' .non h', rt := Q' } (mstart N_law_nearest ds) h := by
  obtain ⟨ts, d, g, rfl, ot, hd, q⟩ := s
  have szl := szL
  have wl := waves_len g
  rw [show mstart N_law_nearest [tD ts, d] = [some (tD ts), some d, none, none, none] from rfl]
  unfold rd_law_nearest
  simp
  intro p hp
  refine ⟨d, g, rfl, hd, ?_⟩
  simp only [tD]
  have ez : zipD ((wavesF g).map D.int) (ts.map D.int) = ((wavesF g).zip ts).map fun z => D.tup [.int z.1, .int z.2] := by
    unfold zipD
    rw [List.zip_map, List.map_map]; rfl
  rw [ez]
  refine wLoop_inv (fun i σ h' => h' = mupd h p (.lst (((nearF (wavesF g) ts).take i).map D.int)) ∧ ∃ v3 v4, σ = [some (.tup (ts.map D.int)), some d, some (.ref p), v3, v4]) ⟨rfl, none, none, rfl⟩ ?_ ?_
  · rintro i d2 σ h' K e ⟨rfl, v3, v4, rfl⟩ hK
    obtain ⟨z, ez2, rfl⟩ := map_get e
    have hi := (List.getElem?_eq_some_iff.mp ez2).1
    rw [List.length_zip, wl, ot.1] at hi
    have zb := ot.2 z.2 (List.of_mem_zip (List.mem_of_getElem? ez2)).2
    have en : (nearF (wavesF g) ts)[i]? = some ((2 * z.1 + z.2 * 67108864) / (z.2 * 134217728)) := by
      unfold nearF
      rw [List.getElem?_map, ez2]; rfl
    unfold lb_law_nearest_0
    simp
    refine ⟨div_small (by omega) (by omega), by simp [nearF, ot.1, wl]; omega, hK _ _ ⟨?_, _, _, rfl⟩⟩
    rw [take_snoc en, List.map_append, List.map_take]
    rfl
  · rintro σ h' ⟨rfl, v3, v4, rfl⟩
    simp [mupd_same, mdel_mupd hp]
    rw [List.take_of_length_le (by simp [nearF])]
    exact q
def accF (ts bs : List Int) (k r x : Nat) : Int := ((List.range 8).map fun u => if zi r u < k then weightF x u * stepF ts bs r u else 0).sum
theorem acc_0 (ts bs : List Int) (r x : Nat) : accF ts bs 0 r x = 0 := by
  unfold accF
  have : ((List.range 8).map fun u => if zi r u < 0 then weightF x u * stepF ts bs r u else 0) = (List.range 8).map fun _ => (0 : Int) := List.map_congr_left fun u _ => by rw [if_neg (by omega)]
  rw [this]
  exact s_zero _
theorem acc_64 {ts bs : List Int} {r : Nat} (hr : r < 8) (x : Nat) : accF ts bs 64 r x = lineF ts bs r x := by
  unfold accF lineF
  congr 1
  refine List.map_congr_left fun u hu => ?_
  rw [if_pos (zi_lt hr (by simpa using hu))]
theorem acc_step {ts bs : List Int} {k r c : Nat} (hc : c < 8) (hz : zi r c = k) (hu : ∀ r' c', r' < 8 → c' < 8 → zi r' c' = k → r' = r ∧ c' = c) {j : Nat} (hj : j < 8) (x : Nat) :
    accF ts bs (k + 1) j x = accF ts bs k j x + if j = r then weightF x c * stepF ts bs r c else 0 := by
  have split : ∀ u, u < 8 → (if zi j u < k + 1 then weightF x u * stepF ts bs j u else 0) = (if zi j u < k then weightF x u * stepF ts bs j u else 0) + (if zi j u = k then weightF x u * stepF ts bs j u else 0) := fun u _ => by
    by_cases a : zi j u < k
    · rw [if_pos (by omega), if_pos a, if_neg (by omega), Int.add_zero]
    · by_cases b : zi j u = k
      · rw [if_pos (by omega), if_neg a, if_pos b, Int.zero_add]
      · rw [if_neg (by omega), if_neg a, if_neg b]; rfl
  have e1 : accF ts bs (k + 1) j x = ((List.range 8).map fun u => (if zi j u < k then weightF x u * stepF ts bs j u else 0) + (if zi j u = k then weightF x u * stepF ts bs j u else 0)).sum := by
    unfold accF
    congr 1
    exact List.map_congr_left fun u hu => split u (by simpa using hu)
  rw [e1, s_add]
  congr 1
  by_cases hjr : j = r
  · subst hjr
    rw [if_pos rfl]
    have e2 : ((List.range 8).map fun u => if zi j u = k then weightF x u * stepF ts bs j u else 0) = (List.range 8).map fun u => (if c = u then (1 : Int) else 0) * (weightF x u * stepF ts bs j u) := List.map_congr_left fun u hu8 => by
      have hu8 : u < 8 := by simpa using hu8
      by_cases b : zi j u = k
      · have := (hu j u hj hu8 b).2
        rw [if_pos b, if_pos this.symm, Int.one_mul]
      · rw [if_neg b, if_neg (by rintro rfl; exact b hz), Int.zero_mul]
    rw [e2, s_pick 1 c (fun u => weightF x u * stepF ts bs j u) 8, if_pos hc, Int.one_mul]
  · rw [if_neg hjr]
    have e2 : ((List.range 8).map fun u => if zi j u = k then weightF x u * stepF ts bs j u else 0) = (List.range 8).map fun _ => (0 : Int) := List.map_congr_left fun u hu8 => by
      rw [if_neg fun b => hjr (hu j u hj (by simpa using hu8) b).1]
    rw [e2]
    exact s_zero _
def linK (ts bs : List Int) (k : Nat) (j : Nat) : List D := (List.range 8).map fun x => .int (accF ts bs k j x)
def rowK (ts bs : List Int) (k r c : Nat) (st : Int) (n : Nat) (j : Nat) : List D := (List.range 8).map fun x => .int (accF ts bs k j x + if j = r ∧ x < n then weightF x c * st else 0)
theorem cells_congr {h : MH} {ps : List Addr} {f g : Nat → List D} (e : ∀ j, j < ps.length → f j = g j) : cells h ps f = cells h ps g := by
  funext z
  unfold cells
  cases q : ps.idxOf? z with
  | none => rfl
  | some j =>
    have hj : j < ps.length := by
      rw [List.idxOf?_eq_some_iff] at q
      exact q.1
    simp only [e j hj]
theorem set_row (f : Nat → Int) (n : Nat) (v : Int) : ((List.range 8).map fun x => D.int (f x)).set n (.int v) = (List.range 8).map fun x => D.int (if x = n then v else f x) := by
  apply List.ext_getElem
  · simp
  · intro i h1 h2
    rw [List.getElem_set]
    simp only [List.getElem_map, List.getElem_range]
    by_cases e : n = i
    · rw [if_pos e, if_pos e.symm]
    · rw [if_neg e, if_neg (Ne.symm e)]
theorem rowK_0 (ts bs : List Int) (k r c : Nat) (st : Int) : rowK ts bs k r c st 0 = linK ts bs k := by
  funext j
  unfold rowK linK
  refine List.map_congr_left fun x _ => ?_
  rw [if_neg (by omega), Int.add_zero]
theorem mupd_cells {h : MH} {p : Addr} {c c' : Cell} {qs : List Addr} {f : Nat → List D} (np : p ∉ qs) : mupd (cells (mupd h p c) qs f) p c' = cells (mupd h p c') qs f := by
  funext z
  by_cases e : z = p
  · subst e
    rw [mupd_same, cells_off np, mupd_same]
  · rw [mupd_ne e]
    unfold cells
    cases q : qs.idxOf? z with
    | none => simp only [mupd_ne e]
    | some j => rfl
def rawL (ts bs : List Int) (y : Nat) : List D := (List.range 8).map fun x => .int (rawF ts bs y x)
theorem pure_law_samples (s : sp_law_samples ds h Q' E') : rd_law_samples { nx := fun _ h' => Q' .non h', rt := Q' } (mstart N_law_samples ds) h := by
  obtain ⟨ts, bs, rfl, lt, lb, ht, q⟩ := s
  have szl := szL
  rw [show mstart N_law_samples [tD ts, tD bs] = [some (tD ts), some (tD bs), none, none, none, none, none, none, none, none, none, none, none, none, none, none] from rfl]
  unfold rd_law_samples
  simp
  refine lc_rangeD 8 (fun x => D.lst ((List.range 8).map fun u => D.int (weightF x u))) (by omega) (fun x hx K k => ⟨_, rfl, ?_⟩) ?_
  · simp [mwipe, List.set]
    refine lc_rangeD 8 (fun u => D.int (weightF x u)) (by omega) (fun u hu K2 k2 => ⟨_, rfl, ?_⟩) ?_
    · simp [mwipe, List.set]
      exact ⟨x, u, rfl, hx, hu, k2⟩
    · exact k
  obtain ⟨W, hW⟩ : ∃ W, ((List.range 8).map fun x => D.lst ((List.range 8).map fun u => D.int (weightF x u))) = W := ⟨_, rfl⟩
  have atW : ∀ x : Nat, x < 8 → atI W (x : Int) = some (D.lst ((List.range 8).map fun u => D.int (weightF x u))) := fun x hx => by rw [← hW]; exact SM.rowsI_at hx
  rw [hW]
  simp [mwipe]
  refine wLcGo_inv (fun i acc h' => ∃ ps : List Addr, ps.length = i ∧ acc = ps.map .ref ∧ ps.Nodup ∧ (∀ p ∈ ps, h p = none) ∧ h' = cells h ps (linK ts bs 0)) ⟨[], rfl, rfl, List.nodup_nil, by simp, by rw [cells_nil]⟩ ?_ ?_
  · rintro i d acc h' K e ⟨ps, pl, rfl, nd, hn, rfl⟩ hK
    obtain ⟨hi, rfl⟩ := range_get e
    refine ⟨_, rfl, ?_⟩
    simp
    intro p hp
    have np : p ∉ ps := fun z => by
      obtain ⟨j, hj⟩ := List.mem_iff_getElem?.mp z
      rw [cells_at nd hj] at hp; cases hp
    have hp0 : h p = none := by rw [cells_off np] at hp; exact hp
    refine ⟨by omega, hK _ _ ⟨ps ++ [p], by simp [pl], by simp, ?_, ?_, ?_⟩⟩
    · exact List.nodup_append.mpr ⟨nd, by simp, fun a ha b hb => by simp at hb; subst hb; intro z; exact np (z ▸ ha)⟩
    · intro q hq
      rcases List.mem_append.mp hq with z | z
      · exact hn q z
      · simp at z; rw [z]; exact hp0
    · rw [← cells_snoc np]
      simp [linK, acc_0, List.replicate, List.range, List.range.loop]
  · rintro acc h' ⟨ps, pl, rfl, nd, hn, rfl⟩
    rw [range_len] at pl
    refine ⟨rfl, ?_⟩
    simp only [row_lst]
    refine wLoop_inv (fun i σ h' => i ≤ 64 ∧ h' = cells h ps (linK ts bs i) ∧ ∃ v6 v7 v9 v10 v11 v13, σ = [some (tD ts), some (tD bs), some (.lst W), some (.lst (ps.map .ref)), none, none, v6, v7, none, v9, v10, v11, none, v13, none, none]) ⟨by omega, rfl, _, _, _, _, _, _, rfl⟩ ?_ ?_
    · rintro k d σ h' K e ⟨hk0, rfl, v6, v7, v9, v10, v11, v13, rfl⟩ hK
      obtain ⟨x, ex, rfl⟩ := enum_get e
      have hk : k < 64 := by
        have := (List.getElem?_eq_some_iff.mp ex).1
        rw [TB.zz64] at this; exact this
      obtain ⟨r, c, ezz, hr, hc, hz, hu⟩ := zz_rc hk
      rw [ezz] at ex; cases ex
      have at1 : atI (ts.map D.int) (k : Int) = some (.int (ts.getD k 0)) := at_nat (by omega)
      have bt1 : atI (bs.map D.int) (k : Int) = some (.int (bs.getD k 0)) := at_nat (by omega)
      have tb := ht _ (SM.mem_getD (ns := ts) (k := k) (by omega))
      have e1 : ts.getD k 0 * bs.getD k 0 = stepF ts bs r c := by unfold SM.stepF; rw [hz]
      have pr : ps[r]? = some ps[r] := List.getElem?_eq_getElem (by omega)
      have ap : atI (ps.map D.ref) (r : Int) = some (.ref ps[r]) := by
        rw [atI_of (by simp; omega)]
        simp
      have accs := fun j (hj : j < 8) x => acc_step (ts := ts) (bs := bs) hc hz hu hj x
      generalize ts.getD k 0 = a at at1 tb e1
      generalize bs.getD k 0 = b0 at bt1 e1
      generalize SM.stepF ts bs r c = st at e1 accs
      unfold lb_law_samples_1
      simp [tD, at1, bt1, e1]
      refine ⟨small_mul (by omega), ?_⟩
      by_cases h0 : st = 0
      · subst h0
        simp
        refine hK _ _ ⟨by omega, cells_congr fun j hj => ?_, _, _, _, _, _, _, rfl⟩
        unfold linK
        refine List.map_congr_left fun x _ => ?_
        rw [accs j (by omega)]
        simp
      · rw [if_neg h0]
        refine wLoop_inv (fun n σ h2 => n ≤ 8 ∧ h2 = cells h ps (rowK ts bs k r c st n) ∧ ∃ v9 v13, σ = [some (.tup (ts.map .int)), some (.tup (bs.map .int)), some (.lst W), some (.lst (ps.map .ref)), none, none, some (.int k), some (.int st), none, v9, some (.int r), some (.int c), none, v13, none, none]) ⟨by omega, by rw [rowK_0], _, _, rfl⟩ ?_ ?_
        · rintro n d σ h2 K2 e2 ⟨hn0, rfl, v9, v13, rfl⟩ hK2
          obtain ⟨hn, rfl⟩ := range_get e2
          have hn : n < 8 := hn
          have rw0 := SM.rowI_at (f := fun u => weightF n u) hc
          have rk : rowK ts bs k r c st n r = (List.range 8).map fun x => D.int (accF ts bs k r x + if r = r ∧ x < n then weightF x c * st else 0) := rfl
          have ra : atI (rowK ts bs k r c st n r) (n : Int) = some (.int (accF ts bs k r n)) := by
            rw [rk, SM.rowI_at (f := fun x => accF ts bs k r x + if r = r ∧ x < n then weightF x c * st else 0) hn, if_neg (by omega), Int.add_zero]
          have ix : ixN (rowK ts bs k r c st n r).length (n : Int) = some n := ixN_of (by simp [rowK]; omega)
          unfold lb_law_samples_0
          simp [atW n hn, rw0, ap, cells_at nd pr, ra]
          refine ⟨w_mul n c _, ?_⟩
          simp only [ix]
          rw [cells_set nd pr]
          refine hK2 _ _ ⟨by omega, cells_congr fun j hj => ?_, _, _, rfl⟩
          by_cases hjr : j = r
          · subst hjr
            rw [if_pos rfl, rk, set_row]
            unfold rowK
            refine List.map_congr_left fun x _ => ?_
            by_cases hx : x = n
            · subst hx
              rw [if_pos rfl, if_pos ⟨rfl, by omega⟩]
            · rw [if_neg hx]
              by_cases hl : x < n
              · rw [if_pos ⟨rfl, hl⟩, if_pos ⟨rfl, by omega⟩]
              · rw [if_neg (fun z => hl z.2), if_neg (fun z => by have := z.2; omega)]
          · rw [if_neg hjr]
            unfold rowK
            refine List.map_congr_left fun x _ => ?_
            rw [if_neg (fun z => hjr z.1), if_neg (fun z => hjr z.1)]
        · rintro σ h2 ⟨hn0, rfl, v9, v13, rfl⟩
          refine hK _ _ ⟨by omega, cells_congr fun j hj => ?_, _, _, _, _, _, _, rfl⟩
          unfold rowK linK
          refine List.map_congr_left fun x hx => ?_
          rw [accs j (by omega)]
          have hx : x < 8 := by simpa using hx
          by_cases hjr : j = r
          · rw [if_pos ⟨hjr, hx⟩, if_pos hjr]
          · rw [if_neg (fun z => hjr z.1), if_neg hjr]
    · rintro σ h' ⟨hk0, rfl, v6, v7, v9, v10, v11, v13, rfl⟩
      rw [enum_len, TB.zz64]
      have el : ∀ r, r < 8 → linK ts bs 64 r = (List.range 8).map fun x => D.int (lineF ts bs r x) := fun r hr => by
        unfold linK
        exact List.map_congr_left fun x _ => by rw [acc_64 hr]
      have es : (List.range 8).map (fun i => D.lst (linK ts bs 64 i)) = (List.range 8).map fun r => D.lst ((List.range 8).map fun x => D.int (lineF ts bs r x)) := List.map_congr_left fun r hr => by rw [el r (by simpa using hr)]
      simp [dz_cells nd hn, pl]
      rw [es]
      intro p hp
      obtain ⟨L, hL⟩ : ∃ L, ((List.range 8).map fun r => D.lst ((List.range 8).map fun x => D.int (lineF ts bs r x))) = L := ⟨_, rfl⟩
      have atL : ∀ r : Nat, r < 8 → atI L (r : Int) = some (D.lst ((List.range 8).map fun x => D.int (lineF ts bs r x))) := fun r hr => by rw [← hL]; exact SM.rowsI_at hr
      rw [hL]
      refine wLoop_inv (fun y σ h' => y ≤ 8 ∧ ∃ (qs : List Addr) (v5 v8 : Option D), qs.length = y ∧ qs.Nodup ∧ p ∉ qs ∧ (∀ q ∈ qs, h q = none) ∧ h' = cells (mupd h p (.lst (qs.map .ref))) qs (rawL ts bs) ∧ σ = [some (tD ts), some (tD bs), some (.lst W), some (.lst L), some (.ref p), v5, v6, v7, v8, v9, v10, v11, none, v13, none, none]) ⟨by omega, [], _, _, rfl, List.nodup_nil, by simp, by simp, by rw [cells_nil]; rfl, rfl⟩ ?_ ?_
      · rintro y d σ h' K e ⟨hy0, qs, v5, v8, ql, qn, pq, qf, rfl, rfl⟩ hK
        obtain ⟨hy, rfl⟩ := range_get e
        have hy : y < 8 := hy
        unfold lb_law_samples_2
        simp
        refine lc_rangeD 8 (fun x => D.int (sumF ts bs y x)) (by omega) (fun x hx K2 k2 => ⟨_, rfl, ?_⟩) ?_
        · simp [mwipe, List.set]
          refine lc_rangeD 8 (fun v => D.int (weightF y v * lineF ts bs v x)) (by omega) (fun v hv K3 k3 => ⟨_, rfl, ?_⟩) ?_
          · simp [mwipe, List.set, atW y hy, atL v hv, SM.rowI_at (f := fun u => weightF y u) hv, SM.rowI_at (f := fun x => lineF ts bs v x) hx]
            exact ⟨w_mul y v _, k3⟩
          · exact sum_l k2
        · have pc : cells (mupd h p (.lst (qs.map .ref))) qs (rawL ts bs) p = some (.lst (qs.map .ref)) := by rw [cells_off pq, mupd_same]
          refine ⟨by rw [pc]; rfl, ?_⟩
          refine lc_over (fun x => D.int (sumF ts bs y x)) (fun x => D.int (rawF ts bs y x)) (List.range 8) (by simp) (fun x hx K2 k2 => ⟨_, rfl, ?_⟩) fun q2 hq2 => ?_
          · simp [mwipe, List.set]
            exact k2
          · have q2q : q2 ∉ qs := fun z => by
              obtain ⟨j, hj⟩ := List.mem_iff_getElem?.mp z
              rw [cells_at qn hj] at hq2; cases hq2
            have q2p : q2 ≠ p := by rintro rfl; rw [pc] at hq2; cases hq2
            have q2h : h q2 = none := by rw [cells_off q2q, mupd_ne q2p] at hq2; exact hq2
            have pq2 : p ∉ qs ++ [q2] := fun z => by
              rcases List.mem_append.mp z with z | z
              · exact pq z
              · rw [List.mem_singleton] at z; exact q2p z.symm
            rw [mupd_ne (Ne.symm q2p), pc]
            refine ⟨by rw [List.length_map]; omega, hK _ _ ⟨by omega, qs ++ [q2], _, _, by simp [ql], ?_, pq2, ?_, ?_, rfl⟩⟩
            · exact List.nodup_append.mpr ⟨qn, by simp, fun a ha b hb => by simp at hb; subst hb; intro z; exact q2q (z ▸ ha)⟩
            · intro z hz
              rcases List.mem_append.mp hz with hz | hz
              · exact qf z hz
              · rw [List.mem_singleton.mp hz]; exact q2h
            · rw [cells_snoc q2q (by rw [ql]; rfl), mupd_cells pq2, List.map_append]
              rfl
      · rintro σ h' ⟨hy0, qs, v5, v8, ql, qn, pq, qf, rfl, rfl⟩
        rw [range_len] at ql
        simp
        refine q p qs _ ⟨?_, ql, qn, pq, fun y z ez => ?_, hp, qf, fun a ap aq => ?_⟩
        · rw [cells_off pq, mupd_same]
        · rw [cells_at qn ez]; rfl
        · rw [cells_off aq, mupd_ne ap]
theorem isn_any {t : D} {ts ts' : List Int} (a : isNs t ts) (b : isNs t ts') : ts' = ts := by
  unfold isNs at a b
  rw [a] at b
  exact ((List.map_inj_right fun _ _ e => by injection e).mp (Option.some.inj b)).symm
theorem again_any {t : D} {ts : List Int} {d : D} {g : Nat → Nat → Int} {h : MH} {Q : MQ} {E : XQ} (et : isNs t ts) (okr : okRow h t = true) (ot : OkT ts) (k : IsG d g) (hb : ∀ y x, y < 8 → x < 8 → 1 ≤ g y x ∧ g y x ≤ 254) (q : ∀ f, (∀ y x, y < 8 → x < 8 → f y x = g y x) → Q (ifD (ifF ts f (wavesF f))) h) : sp_again [t, d] h Q E := by
  refine ⟨_, _, rfl, okr, k.ok h, ?_⟩
  rw [if_pos (ns_from et ot.1 ot.2)]
  refine ⟨fun z => (by rw [k.is 1 254 hb] at z; cases z), fun _ ts' f e1 e2 => ?_⟩
  rw [isn_any et e1]
  exact q f (k.same f e2)
theorem gd_is {d : D} {g : Nat → Nat → Int} (h : isGd d g) : IsG d g := by
  rcases h with rfl | rfl
  · exact isG_L g
  · exact isG_T g
theorem lin_congr {f g : Nat → Nat → Int} (e : ∀ y x, y < 8 → x < 8 → f y x = g y x) (u : Nat) {y : Nat} (hy : y < 8) : linF f u y = linF g u y := by
  unfold linF
  congr 1
  refine List.map_congr_left fun x hx => ?_
  rw [e y x hy (by simpa using hx)]
theorem waves_congr {f g : Nat → Nat → Int} (e : ∀ y x, y < 8 → x < 8 → f y x = g y x) : wavesF f = wavesF g := by
  unfold wavesF
  refine List.map_congr_left fun z _ => ?_
  unfold wavF
  congr 1
  refine List.map_congr_left fun y hy => ?_
  rw [lin_congr e _ (by simpa using hy)]
theorem raw_sample {ts bs : List Int} {y x : Nat} {z : Int} (hz : 1 ≤ z ∧ z ≤ 254) : rawF ts bs y x = z ↔ sampleF (sumF ts bs y x) = z := by
  unfold rawF sampleF cutF
  generalize 128 + (sumF ts bs y x + 33554432) / 67108864 = w
  split
  · omega
  · split <;> omega
theorem due_some {ts : List Int} {g f : Nat → Nat → Int} (ot : OkT ts) (hb : ∀ y x, y < 8 → x < 8 → 1 ≤ g y x ∧ g y x ≤ 254) (hf : ∀ y x, y < 8 → x < 8 → f y x = g y x) (a : ∀ y x, y < 8 → x < 8 → rawF ts (nearF (wavesF g) ts) y x = g y x) : ifF ts f (wavesF f) = some (nearF (wavesF g) ts) := by
  have lb : (nearF (wavesF g) ts).length = 64 := by simp [nearF, waves_len, ot.1]
  refine again_back (g := f) ⟨fun y x hy hx => ?_, fun y x hy hx => by rw [hf y x hy hx]; exact hb y x hy hx⟩ ot.1 lb fun n hn => (ot.2 n hn).1
  rw [hf y x hy hx]
  exact ((raw_sample (hb y x hy hx)).mp (a y x hy hx)).symm
theorem due_none {ts : List Int} {g f : Nat → Nat → Int} (ot : OkT ts) (hb : ∀ y x, y < 8 → x < 8 → 1 ≤ g y x ∧ g y x ≤ 254) (hf : ∀ y x, y < 8 → x < 8 → f y x = g y x) (a : ¬ ∀ y x, y < 8 → x < 8 → rawF ts (nearF (wavesF g) ts) y x = g y x) : ifF ts f (wavesF f) = none := by
  cases e : ifF ts f (wavesF f) with
  | none => rfl
  | some bs =>
    exfalso
    have eb : bs = nearF (wavesF g) ts := by
      unfold ifF at e
      split at e
      · cases e
      · split at e
        · rw [← Option.some.inj e, waves_congr hf]
        · cases e
    have s := (if_some ot.1 e).2
    refine a fun y x hy hx => ?_
    rw [← eb]
    refine (raw_sample (hb y x hy hx)).mpr ?_
    rw [s y x hy hx, hf y x hy hx]
theorem gridL_congr {f g : Nat → Nat → Int} (e : ∀ y x, y < 8 → x < 8 → f y x = g y x) : gridL f = gridL g := by
  unfold gridL
  congr 1
  refine List.map_congr_left fun y hy => ?_
  congr 1
  refine List.map_congr_left fun x hx => ?_
  rw [e y x (by simpa using hy) (by simpa using hx)]
theorem eqv_rowL {f g : Nat → Int} : ∀ l : List Nat, eqvs (l.map fun x => D.int (f x)) (l.map fun x => D.int (g x)) = l.all fun x => f x == g x
  | [] => rfl
  | x :: l => by simp [eqvs, eqv, eqv_rowL l]
theorem eqv_gridL {f g : Nat → Nat → Int} (m : List Nat) : ∀ l : List Nat, eqvs (l.map fun y => D.lst (m.map fun x => D.int (f y x))) (l.map fun y => D.lst (m.map fun x => D.int (g y x))) = l.all fun y => m.all fun x => f y x == g y x
  | [] => rfl
  | y :: l => by simp [eqvs, eqv, eqv_gridL m l, eqv_rowL m]
theorem gridL_eq {f g : Nat → Nat → Int} {h : MH} {Q : MQ} (q1 : (∀ y x, y < 8 → x < 8 → f y x = g y x) → Q (.bl true) h) (q2 : (¬ ∀ y x, y < 8 → x < 8 → f y x = g y x) → Q (.bl false) h) : opEq false (gridL f) (gridL g) h Q := by
  by_cases a : ∀ y x, y < 8 → x < 8 → f y x = g y x
  · rw [gridL_congr a]
    exact op_self (neg := false) (fit_gridL g) (q1 a)
  · have e : eqvs ((List.range 8).map fun y => D.lst ((List.range 8).map fun x => D.int (f y x))) ((List.range 8).map fun y => D.lst ((List.range 8).map fun x => D.int (g y x))) = false := by
      cases hc : eqvs ((List.range 8).map fun y => D.lst ((List.range 8).map fun x => D.int (f y x))) ((List.range 8).map fun y => D.lst ((List.range 8).map fun x => D.int (g y x))) with
      | false => rfl
      | true =>
        exfalso
        apply a
        intro y x hy hx
        rw [eqv_gridL] at hc
        have := List.all_eq_true.mp hc y (List.mem_range.mpr hy)
        have := List.all_eq_true.mp this x (List.mem_range.mpr hx)
        simpa using this
    unfold gridL
    rw [o_eqL]
    refine ⟨⟨fit_gridL f, fit_gridL g⟩, ?_⟩
    rw [e]
    exact q2 a
theorem dg_dz {h h' : MH} {p : Addr} {ps : List Addr} {g : Nat → Nat → Int} (d : DG h h' p ps g) : dz (mdel h' p) (ps.map .ref) = some ((List.range 8).map (fun y => D.lst ((List.range 8).map fun x => .int (g y x))), h) := by
  have e : mdel h' p = cells h ps (fun y => (List.range 8).map fun x => .int (g y x)) := by
    funext a
    by_cases ap : a = p
    · subst ap
      rw [cells_off d.np, d.fp]
      unfold mdel
      rw [if_pos rfl]
    · unfold mdel
      rw [if_neg ap]
      by_cases am : a ∈ ps
      · obtain ⟨j, hj⟩ := List.mem_iff_getElem?.mp am
        rw [cells_at d.nd hj]
        exact d.row j a hj
      · rw [cells_off am]
        exact d.oth a ap am
  rw [e, dz_cells d.nd d.fps, d.ln]
theorem dg_frz {h h' : MH} {p : Addr} {ps : List Addr} {g : Nat → Nat → Int} (out : h' p = some (.lst (ps.map .ref))) (ln : ps.length = 8) (row : ∀ y q, ps[y]? = some q → h' q = some (.lst ((List.range 8).map fun x => .int (g y x)))) : frzN h' 4 (.ref p) = gridL g := by
  show (match h' p with
    | some (.lst xs) => D.lst (xs.map (frzN h' 3))
    | some (.dct xs) => .dct xs
    | _ => .ref p) = _
  rw [out]
  simp only
  unfold gridL
  congr 1
  apply List.ext_getElem
  · simp [ln]
  · intro y h1 h2
    simp only [List.getElem_map, List.getElem_range]
    have hy : y < ps.length := by simpa using h1
    show (match h' ps[y] with
      | some (.lst xs) => D.lst (xs.map (frzN h' 2))
      | some (.dct xs) => .dct xs
      | _ => .ref ps[y]) = _
    rw [row y ps[y] (List.getElem?_eq_getElem hy)]
    simp only [List.map_map]
    rfl
theorem pure_law_said_right (s : sp_law_said_right ds h Q' E') : rd_law_said_right (fun _ => E') { nx := fun _ h' => Q' .non h', rt := Q' } (mstart N_law_said_right ds) h := by
  obtain ⟨ts, d, g, rfl, ot, hd, hb, q⟩ := s
  have szl := szL
  obtain ⟨mk, hm, er⟩ := gd_rows hd
  have isg := gd_is hd
  have lb : (nearF (wavesF g) ts).length = 64 := by simp [nearF, waves_len, ot.1]
  rw [show mstart N_law_said_right [tD ts, d] = [some (tD ts), some d, none, none, none] from rfl]
  unfold rd_law_said_right
  simp
  refine ⟨ts, d, g, rfl, ot, hd, ?_⟩
  refine ⟨ts, _, rfl, ot.1, lb, fun n hn => by have := ot.2 n hn; omega, fun p ps h1 dg => ?_⟩
  simp only [dg.out, dg_dz dg]
  simp [er]
  have rowsOK : ∀ (s0 s1 s2 s3 : Option D) (h2 : MH) (Q2 : List D → MH → Prop), Q2 ((List.range 8).map fun y => D.lst ((List.range 8).map fun x => .int (g y x))) h2 →
      wLcGo (put1 4) wYes (wCB fList (wCons (wVar 4) wNil)) (mwipe [s0, s1, s2, s3, none] [4]) ((List.range 8).map fun y => mk ((List.range 8).map fun x => .int (g y x))) [] h2 Q2 := fun s0 s1 s2 s3 h2 Q2 q2 => by
    refine lc_over (fun y => mk ((List.range 8).map fun x => .int (g y x))) (fun y => D.lst ((List.range 8).map fun x => .int (g y x))) (List.range 8) (by simp) (fun y hy K k => ⟨_, rfl, ?_⟩) q2
    simp [mwipe, List.set, hm]
    exact k
  have et : isNs (.lst (ts.map .int)) ts := rfl
  refine rowsOK _ _ _ _ _ _ ?_
  refine gridL_eq (f := rawF ts (nearF (wavesF g) ts)) (g := g) (fun a => ?_) (fun a => ?_)
  · simp
    refine again_any (isn ts) (ns_row (isn ts) ot.1) ot isg hb fun f hf => ?_
    rw [due_some ot hb hf a]
    refine op_self (neg := false) (fit_tD _) ?_
    simp only [Bool.not_false, truth]
    refine rowsOK _ _ _ _ _ _ ?_
    simp [tD, g_kw_again_rows_table]
    refine again_any et (ns_row et ot.1) ot (isG_L g) hb fun f hf => ?_
    rw [due_some ot hb hf a]
    exact op_self (neg := false) (fit_tD _) q
  · simp
    refine again_any (isn ts) (ns_row (isn ts) ot.1) ot isg hb fun f hf => ?_
    rw [due_none ot hb hf a]
    refine op_self (neg := false) (by rfl) ?_
    simp only [Bool.not_false, truth]
    refine rowsOK _ _ _ _ _ _ ?_
    simp [tD, g_kw_again_rows_table]
    refine again_any et (ns_row et ot.1) ot (isG_L g) hb fun f hf => ?_
    rw [due_none ot hb hf a]
    exact op_self (neg := false) (by rfl) q
theorem raw_small {ts bs : List Int} (lt : ts.length = 64) (lb : bs.length = 64) (ht : ∀ n ∈ ts, 16 ≤ n ∧ n ≤ 65535) (hb : ∀ b ∈ bs, b.natAbs ≤ 1000) {y x : Nat} (hx : x < 8) : (rawF ts bs y x).natAbs < 10 ^ 12 := by
  have st : ∀ r c, r < 8 → c < 8 → (stepF ts bs r c).natAbs ≤ 65535 * 1000 := fun r c hr hc => by
    unfold SM.stepF
    have z := zi_lt hr hc
    have a := ht _ (SM.mem_getD (ns := ts) (k := zi r c) (by omega))
    have b := hb _ (SM.mem_getD (ns := bs) (k := zi r c) (by omega))
    exact mul_abs (by omega) b
  have ln : ∀ v, v < 8 → (lineF ts bs v x).natAbs ≤ 8 * (5000 * (65535 * 1000)) := fun v hv => by
    unfold lineF
    exact sum_abs (fun u => weightF x u * SM.stepF ts bs v u) _ 8 fun u hu => mul_abs (w_abs x u) (st v u hv hu)
  have sm : (sumF ts bs y x).natAbs ≤ 8 * (5000 * (8 * (5000 * (65535 * 1000)))) := by
    unfold sumF
    exact sum_abs (fun v => weightF y v * lineF ts bs v x) _ 8 fun v hv => mul_abs (w_abs y v) (ln v hv)
  unfold rawF
  omega
theorem raw_nc {ts bs : List Int} (lt : ts.length = 64) (lb : bs.length = 64) (ht : ∀ n ∈ ts, 16 ≤ n ∧ n ≤ 65535) (hb : ∀ b ∈ bs, b.natAbs ≤ 1000) : ∃ p, toP (gridL (rawF ts bs)) = some p ∧ (p.showable = true ∧ p.shown.length ≤ sizeLine ∧ p.depth ≤ 64) ∧ PyData.strOk p.shown = true := by
  have row : ∀ d ∈ ((List.range 8).map fun y => D.lst ((List.range 8).map fun x => D.int (rawF ts bs y x))), ∃ p, SR.Nc ((41 + 1) * 8) 1 d p := fun d hd => by
    obtain ⟨y, _, rfl⟩ := List.mem_map.mp hd
    have := SR.nc_lst (W := 41) (P := 0) (ds := (List.range 8).map fun x => D.int (rawF ts bs y x)) fun d hd => by
      obtain ⟨x, hx, rfl⟩ := List.mem_map.mp hd
      exact ⟨_, SR.nc_int (raw_small lt lb ht hb (by simpa using hx))⟩
    simpa using this
  obtain ⟨p, hp⟩ := SR.nc_lst row
  exact ⟨p, hp.t, hp.fits (by simp) (by omega), hp.o⟩
theorem pure_law_right (s : sp_law_right ds h Q' E') : rd_law_right (fun _ => E') { nx := fun _ h' => Q' .non h', rt := Q' } (mstart N_law_right ds) h := by
  obtain ⟨s, n, rfl, hs, hn, q⟩ := s
  have szl := szL
  rw [show mstart N_law_right [.ref s] = [some (.ref s), none, none, none, none, none, none, none] from rfl]
  unfold rd_law_right
  simp
  refine ⟨s, n, rfl, hs, by omega, fun ts h1 ot c1 => ?_⟩
  refine ⟨s, ts, _, rfl, ot, c1, by omega, fun bs h2 ob c2 => ?_⟩
  refine ⟨ts, bs, rfl, ot.1, ob.1, fun n hn => by have := ot.2 n hn; omega, fun p ps h3 dg => ?_⟩
  obtain ⟨pd, tp, fits, sok⟩ := raw_nc ot.1 ob.1 ot.2 ob.2
  have fz := dg_frz (h := h2) dg.out dg.ln dg.row
  have s3 : ∀ a, a = p ∨ a ∈ ps → a ≠ s := fun a ha e => by
    subst e
    have : h2 a = none := by
      rcases ha with rfl | ha
      · exact dg.fp
      · exact dg.fps a ha
    exact c2.src.some this
  have c3 : Cn h3 s (n + 70 + 200) := c2.same (dg.oth s (fun e => s3 p (.inl rfl) e.symm) (fun e => s3 s (.inr e) rfl))
  obtain ⟨g, eg⟩ : ∃ g, rawF ts bs = g := ⟨_, rfl⟩
  have egq : gridL (rawF ts bs) = gridL g := by rw [eg]
  have drow := dg.row
  rw [eg] at fz tp drow
  have isg := isG_L g
  have fi : ∀ (h : MH) (i : Int), frzN h 4 (.int i) = .int i := fun _ _ => rfl
  have ft : ∀ (h : MH) (ts : List Int), frzN h 4 (tD ts) = tD ts := fun h ts => by
    show D.tup ((ts.map D.int).map (frzN h 3)) = _
    rw [List.map_map]; rfl
  have pt : ∀ ts : List Int, plainD (.tup (ts.map .int)) = true := fun ts => by
    have : ∀ ts : List Int, plainDs (ts.map D.int) = true := fun ts => by
      induction ts with
      | nil => rfl
      | cons a l ih => simp [plainDs, plainD, ih]
    exact this ts
  rw [szl] at fits
  simp [fz, tp, fi, ft]
  refine ⟨fits, ?_⟩
  refine ⟨g, 0, 255, rfl, fun b hb => ⟨rfl, ?_⟩⟩
  cases b with
  | false =>
    simp
    exact q _ (c3.mono (by omega))
  | true =>
    have b255 := hb rfl
    simp
    have fitW : fit 64 (.tup ((wavesF g).map .int)) = true := fit_tD (wavesF g)
    have wv : ∀ (d : D) (h : MH) (Q2 : MQ) (E2 : XQ), IsG d g → Q2 (.tup ((wavesF g).map .int)) h → sp_waves [d] h Q2 E2 := fun d h Q2 E2 i q2 => by
      refine ⟨d, rfl, i.ok _, fun z => ?_, fun _ f hf => ?_⟩
      · rw [i.is 0 255 b255] at z; cases z
      · rw [waves_congr (i.same f hf)]
        exact q2
    simp only [fz]
    refine wv _ _ _ _ isg ⟨pt _, ?_⟩
    simp only [fz]
    refine ⟨gridL g, g, rfl, .inl rfl, pt _, ?_⟩
    refine ne_self fitW ?_
    simp [dg.out]
    refine lcR_over (fun q => D.ref q) (fun q => D.tup (match h3 q with
      | some (.lst xs) => xs
      | _ => [])) dg.out ps [] (by simp [dg.ln]) (fun z hz K kk => ⟨_, rfl, ?_⟩) ?_
    · obtain ⟨j, hj⟩ := List.mem_iff_getElem?.mp hz
      have rj := drow j z hj
      rw [rj] at kk
      simp [mwipe, List.set, rj]
      exact kk
    have acc : ([] ++ ps.map fun q => D.tup (match h3 q with
      | some (.lst xs) => xs
      | _ => [])) = (List.range 8).map fun y => D.tup ((List.range 8).map fun x => D.int (g y x)) := by
      rw [List.nil_append]
      apply List.ext_getElem
      · simp [dg.ln]
      · intro j h1 h2
        simp only [List.getElem_map, List.getElem_range]
        rw [drow j _ (List.getElem?_eq_getElem (by simpa using h1))]
    rw [acc]
    have fzT : frzN h3 4 (gridD g) = gridD g := by
      show D.tup (((List.range 8).map fun y => D.tup ((List.range 8).map fun x => D.int (g y x))).map (frzN h3 3)) = _
      rw [List.map_map]
      rfl
    simp [g_kw_waves_rows]
    rw [show frzN h3 4 (D.tup ((List.range 8).map fun y => D.tup ((List.range 8).map fun x => D.int (g y x)))) = gridD g from fzT]
    refine wv _ _ _ _ (isG_T g) ⟨pt _, ?_⟩
    simp only [fz]
    refine ⟨gridL g, g, rfl, .inl rfl, pt _, ?_⟩
    refine ne_self fitW ?_
    simp
    simp only [fz]
    refine ⟨g, 1, 254, rfl, fun b hb => ⟨rfl, ?_⟩⟩
    cases b with
    | false =>
      simp
      exact q _ (c3.mono (by omega))
    | true =>
      have b254 := hb rfl
      have sh : Shows ts bs g := ⟨fun y x hy hx => by
        have := (raw_sample (ts := ts) (bs := bs) (y := y) (x := x) (b254 y x hy hx)).mp (by rw [eg])
        exact this.symm, b254⟩
      simp
      simp only [fz]
      refine again_any (isn ts) (ns_row (isn ts) ot.1) ot isg b254 fun f hf => ?_
      have sf : Shows ts bs f := ⟨fun y x hy hx => by rw [hf y x hy hx]; exact sh.eq y x hy hx, fun y x hy hx => by rw [hf y x hy hx]; exact b254 y x hy hx⟩
      rw [again_back sf ot.1 ob.1 fun n hn => (ot.2 n hn).1]
      refine ⟨pt _, ne_self (fit_tD bs) ?_⟩
      simp
      simp only [fz]
      refine ⟨ts, gridL g, g, rfl, ot, .inl rfl, b254, rfl, ?_⟩
      simp [fz, tp]
      refine ⟨fits, ne_self (by simpa [fit] using sok) ?_⟩
      simp
      refine coin_ok c3 (by omega) (by omega) (by omega) fun Y h4 y0 y1 f4 c4 => ?_
      obtain ⟨Y, rfl⟩ := Int.eq_ofNat_of_zero_le y0
      refine coin_ok c4 (by omega) (by omega) (by omega) fun Xx h5 x0 x1 f5 c5 => ?_
      obtain ⟨Xx, rfl⟩ := Int.eq_ofNat_of_zero_le x0
      refine coin_ok c5 (by omega) (by omega) (by omega) fun V h6 v0 v1 f6 c6 => ?_
      have hY : Y < 8 := by omega
      have hX : Xx < 8 := by omega
      have f46 := (f4.trans f5).trans f6
      have out6 : h6 p = some (.lst (ps.map .ref)) := by rw [f46.oth _ (s3 p (.inl rfl))]; exact dg.out
      have row6 : ∀ y z, ps[y]? = some z → h6 z = some (.lst ((List.range 8).map fun x => .int (g y x))) := fun y z ez => by
        rw [f46.oth _ (s3 z (.inr (List.mem_of_getElem? ez)))]; exact drow y z ez
      have pln := dg.ln
      have pr : ps[Y]? = some ps[Y] := List.getElem?_eq_getElem (by omega)
      have ap : atI (ps.map D.ref) (Y : Int) = some (.ref ps[Y]) := by
        rw [atI_of (by simp; omega)]
        simp
      have ix : ixN 8 (Xx : Int) = some Xx := ixN_of hX
      simp [out6, ap, row6 Y _ pr, ix]
      rw [set_row (fun x => g Y x) Xx (1 + V)]
      have pY : ps[Y] ≠ p := fun e => dg.np (by rw [← e]; exact List.getElem_mem _)
      obtain ⟨h7, eh7⟩ : ∃ h7, mupd h6 ps[Y] (.lst ((List.range 8).map fun x => D.int (if x = Xx then 1 + V else g Y x))) = h7 := ⟨_, rfl⟩
      rw [eh7]
      have out7 : h7 p = some (.lst (ps.map .ref)) := by rw [← eh7, mupd_ne (Ne.symm pY)]; exact out6
      have row7 : ∀ y z, ps[y]? = some z → h7 z = some (.lst ((List.range 8).map fun x => .int ((fun y x => if y = Y ∧ x = Xx then 1 + V else g y x) y x))) := fun y z ez => by
        obtain ⟨hy, ez2⟩ := List.getElem?_eq_some_iff.mp ez
        by_cases e : y = Y
        · subst e
          rw [← eh7, ← ez2, mupd_same]
          congr 2
          refine List.map_congr_left fun x _ => ?_
          by_cases e2 : x = Xx
          · simp [e2]
          · simp [e2]
        · have nz : z ≠ ps[Y] := fun ez3 => by
            rw [← ez2] at ez3
            rcases Nat.lt_trichotomy y Y with c | c | c
            · exact (List.pairwise_iff_getElem.mp dg.nd) y Y hy (by omega) c ez3
            · exact e c
            · exact (List.pairwise_iff_getElem.mp dg.nd) Y y (by omega) hy c ez3.symm
          rw [← eh7, mupd_ne nz, row6 y z ez]
          congr 2
          refine List.map_congr_left fun x _ => ?_
          simp [e]
      have fz7 := dg_frz (h := h2) (g := fun y x => if y = Y ∧ x = Xx then 1 + V else g y x) out7 dg.ln row7
      rw [fz7]
      refine ⟨ts, _, _, rfl, ot, .inl rfl, fun y x hy hx => ?_, rfl, q _ ?_⟩
      · have := b254 y x hy hx
        show 1 ≤ (if y = Y ∧ x = Xx then 1 + V else g y x) ∧ (if y = Y ∧ x = Xx then 1 + V else g y x) ≤ 254
        split <;> omega
      · rw [← eh7]
        exact (c6.mono (by omega)).upd (s3 _ (.inr (List.getElem_mem _)))
def t16 : List Int := List.replicate 64 16
def b1 : List Int := 1 :: List.replicate 63 0
theorem ot16 : OkT t16 := ⟨by simp [t16], fun e he => by rw [List.eq_of_mem_replicate he]; omega⟩
theorem shows1 : ((List.range 8).all fun y => (List.range 8).all fun x => decide (sampleF (sumF t16 b1 y x) = 130)) = true := by decide +kernel
theorem raw129 : rawF t16 (nearF (wavesF fun _ _ => 129) t16) 0 0 ≠ 129 := by decide +kernel
theorem pure_law (s : sp_law ds h Q' E') : rd_law (fun _ => E') { nx := fun _ h' => Q' .non h', rt := Q' } (mstart N_law ds) h := by
  obtain ⟨ns, rfl, hn, q⟩ := s
  have szl := szL
  rw [show mstart N_law [D.scr ns] = [some (.scr ns), none, none, none, none] from rfl]
  unfold rd_law
  have cl : cut (ns.map D.int) none (some 3) = (ns.take 3).map .int := by
    cases ns with | nil => rfl | cons a l => cases l with | nil => rfl | cons b l => cases l with | nil => rfl | cons c l => rw [cut_to (by omega) (by simp; omega)]; rfl
  have sl : ∀ (h : MH) (Q : MQ), opSl (D.scr ns) none (some 3) h Q = Q (.lst (cut (ns.map D.int) none (some 3))) h := fun _ _ => rfl
  simp [sl, cl]
  refine ⟨by omega, ?_⟩
  have hall : ∀ d ∈ (ns.take 3).map D.int ++ [D.int 0], ∃ z : Int, d = .int z := by
    intro d hd
    rcases List.mem_append.mp hd with hd | hd
    · obtain ⟨z, _, rfl⟩ := List.mem_map.mp hd; exact ⟨z, rfl⟩
    · rw [List.mem_singleton.mp hd]; exact ⟨0, rfl⟩
  rw [← List.map_take]
  generalize (ns.take 3).map D.int ++ [D.int 0] = L at *
  refine wLoop_inv (fun i σ h' => ∃ v1 v2 v3 v4, σ = [some (.scr ns), v1, v2, v3, v4]) ⟨_, _, _, _, rfl⟩ ?_ ?_
  · rintro i d σ h' K e ⟨v1, v2, v3, v4, rfl⟩ hK
    obtain ⟨z, rfl⟩ := hall d (List.mem_of_getElem? e)
    unfold lb_law_1
    simp
    refine ⟨z, rfl, fun p a b hp b0 b1 => ?_⟩
    simp
    refine wLoop_inv (fun i σ h2 => i ≤ 3 ∧ ∃ v3, σ = [some (.scr ns), some (.int z), some (.ref p), v3, v4] ∧ Cn h2 p (5 + 400 * i)) ⟨by omega, v3, rfl, ⟨_, _, _, mupd_same, b0, b1, by omega, by omega⟩⟩ ?_ ?_
    · rintro j d σ h2 K2 e2 ⟨hj0, v3, rfl, c⟩ hK2
      obtain ⟨hj, rfl⟩ := range_get e2
      have hj : j < 3 := hj
      unfold lb_law_0
      simp
      refine ⟨p, _, rfl, c, by omega, fun h3 c3 => ?_⟩
      simp
      exact hK2 _ _ ⟨by omega, _, rfl, c3.mono (by omega)⟩
    · rintro σ h2 ⟨hj0, v3, rfl, c⟩
      have c : Cn h2 p 1205 := c
      simp
      refine coin_ok c (by omega) (by omega) (by omega) fun r h3 r0 r1 f3 c3 => ?_
      simp
      refine ⟨p, _, rfl, c3, by omega, fun ts h4 ot c4 => ?_⟩
      refine ⟨ts, gridD (fun _ _ => 1 + r), fun _ _ => 1 + r, rfl, ot, .inr rfl, fun _ _ _ _ => (show 1 ≤ 1 + r ∧ 1 + r ≤ 254 from ⟨by omega, by omega⟩), ?_⟩
      simp
      exact hK _ _ ⟨_, _, _, _, rfl⟩
  · rintro σ h' ⟨v1, v2, v3, v4, rfl⟩
    simp
    have e16 : (D.tup [D.int 16, D.int 16, D.int 16, D.int 16, D.int 16, D.int 16, D.int 16, D.int 16, D.int 16, D.int 16, D.int 16, D.int 16, D.int 16, D.int 16, D.int 16, D.int 16, D.int 16, D.int 16, D.int 16, D.int 16, D.int 16, D.int 16, D.int 16, D.int 16, D.int 16, D.int 16, D.int 16, D.int 16, D.int 16, D.int 16, D.int 16, D.int 16, D.int 16, D.int 16, D.int 16, D.int 16, D.int 16, D.int 16, D.int 16, D.int 16, D.int 16, D.int 16, D.int 16, D.int 16, D.int 16, D.int 16, D.int 16, D.int 16, D.int 16, D.int 16, D.int 16, D.int 16, D.int 16, D.int 16, D.int 16, D.int 16, D.int 16, D.int 16, D.int 16, D.int 16, D.int 16, D.int 16, D.int 16, D.int 16]) = tD t16 := rfl
    rw [e16]
    refine again_ok (d := gridD fun _ _ => 130) (bs := b1) ot16 (by simp [b1]) (isG_T _) ⟨fun y x hy hx => ?_, fun _ _ _ _ => ⟨by omega, by omega⟩⟩ ?_
    · have := List.all_eq_true.mp shows1 y (List.mem_range.mpr hy)
      have := List.all_eq_true.mp this x (List.mem_range.mpr hx)
      exact (of_decide_eq_true this).symm
    refine ne_self (fit_tD b1) ?_
    simp
    refine again_any (d := gridD fun _ _ => 129) (isn t16) (ns_row (isn t16) ot16.1) ot16 (isG_T _) (fun _ _ _ _ => ⟨by omega, by omega⟩) fun f hf => ?_
    rw [due_none (g := fun _ _ => 129) ot16 (fun _ _ _ _ => ⟨by omega, by omega⟩) hf (fun a => raw129 (a 0 0 (by omega) (by omega)))]
    simp [ifD]
    exact q _
theorem law_true : LawOkT 63 [] sp_law := fun ns h hl hb ht => ⟨ns, rfl, hl, fun _ => rfl⟩
end

structure Txt (P : Program) (w : World) (K : PySem.W.Frag) (mg : Str → Option Value) (A : Ad) : Prop where
  g_zigzag_places : mg "zigzag_places" = some (.ref A.f_zigzag_places)
  F_zigzag_places : Fun K "zigzag_places" "zigzag_places" s_zigzag_places A.f_zigzag_places A.e_zigzag_places
  g_is_integer : mg "is_integer" = some (.ref A.f_is_integer)
  F_is_integer : Fun K "is_integer" "is_integer" s_is_integer A.f_is_integer A.e_is_integer
  g_is_from : mg "is_from" = some (.ref A.f_is_from)
  F_is_from : Fun K "is_from" "is_from" s_is_from A.f_is_from A.e_is_from
  g_are_from : mg "are_from" = some (.ref A.f_are_from)
  F_are_from : Fun K "are_from" "are_from" s_are_from A.f_are_from A.e_are_from
  g_wave : mg "wave" = some (.ref A.f_wave)
  F_wave : Fun K "wave" "wave" s_wave A.f_wave A.e_wave
  g_weight_of : mg "weight_of" = some (.ref A.f_weight_of)
  F_weight_of : Fun K "weight_of" "weight_of" s_weight_of A.f_weight_of A.e_weight_of
  g_steps_of : mg "steps_of" = some (.ref A.f_steps_of)
  F_steps_of : Fun K "steps_of" "steps_of" s_steps_of A.f_steps_of A.e_steps_of
  g_sums_of : mg "sums_of" = some (.ref A.f_sums_of)
  F_sums_of : Fun K "sums_of" "sums_of" s_sums_of A.f_sums_of A.e_sums_of
  g_cut : mg "cut" = some (.ref A.f_cut)
  F_cut : Fun K "cut" "cut" s_cut A.f_cut A.e_cut
  g_samples_of : mg "samples_of" = some (.ref A.f_samples_of)
  F_samples_of : Fun K "samples_of" "samples_of" s_samples_of A.f_samples_of A.e_samples_of
  g_check_samples : mg "check_samples" = some (.ref A.f_check_samples)
  F_check_samples : Fun K "check_samples" "check_samples" s_check_samples A.f_check_samples A.e_check_samples
  g_waves_of : mg "waves_of" = some (.ref A.f_waves_of)
  F_waves_of : Fun K "waves_of" "waves_of" s_waves_of A.f_waves_of A.e_waves_of
  g_waves : mg "waves" = some (.ref A.f_waves)
  F_waves : Fun K "waves" "waves" s_waves A.f_waves A.e_waves
  g_block_if : mg "block_if" = some (.ref A.f_block_if)
  F_block_if : Fun K "block_if" "block_if" s_block_if A.f_block_if A.e_block_if
  g_again : mg "again" = some (.ref A.f_again)
  F_again : Fun K "again" "again" s_again A.f_again A.e_again
  g_law_purse : mg "_law_purse" = some (.ref A.f_law_purse)
  F_law_purse : Fun K "_law_purse" "_law_purse" s_law_purse A.f_law_purse A.e_law_purse
  g_law_coin : mg "_law_coin" = some (.ref A.f_law_coin)
  F_law_coin : Fun K "_law_coin" "_law_coin" s_law_coin A.f_law_coin A.e_law_coin
  g_law_pick : mg "_law_pick" = some (.ref A.f_law_pick)
  F_law_pick : Fun K "_law_pick" "_law_pick" s_law_pick A.f_law_pick A.e_law_pick
  g_law_weight : mg "_law_weight" = some (.ref A.f_law_weight)
  F_law_weight : Fun K "_law_weight" "_law_weight" s_law_weight A.f_law_weight A.e_law_weight
  g_law_places : mg "_law_places" = some (.ref A.f_law_places)
  F_law_places : Fun K "_law_places" "_law_places" s_law_places A.f_law_places A.e_law_places
  g_law_samples : mg "_law_samples" = some (.ref A.f_law_samples)
  F_law_samples : Fun K "_law_samples" "_law_samples" s_law_samples A.f_law_samples A.e_law_samples
  g_law_waves : mg "_law_waves" = some (.ref A.f_law_waves)
  F_law_waves : Fun K "_law_waves" "_law_waves" s_law_waves A.f_law_waves A.e_law_waves
  g_law_within : mg "_law_within" = some (.ref A.f_law_within)
  F_law_within : Fun K "_law_within" "_law_within" s_law_within A.f_law_within A.e_law_within
  g_law_entries : mg "_law_entries" = some (.ref A.f_law_entries)
  F_law_entries : Fun K "_law_entries" "_law_entries" s_law_entries A.f_law_entries A.e_law_entries
  g_law_block : mg "_law_block" = some (.ref A.f_law_block)
  F_law_block : Fun K "_law_block" "_law_block" s_law_block A.f_law_block A.e_law_block
  g_law_nearest : mg "_law_nearest" = some (.ref A.f_law_nearest)
  F_law_nearest : Fun K "_law_nearest" "_law_nearest" s_law_nearest A.f_law_nearest A.e_law_nearest
  g_law_said_right : mg "_law_said_right" = some (.ref A.f_law_said_right)
  F_law_said_right : Fun K "_law_said_right" "_law_said_right" s_law_said_right A.f_law_said_right A.e_law_said_right
  g_law_right : mg "_law_right" = some (.ref A.f_law_right)
  F_law_right : Fun K "_law_right" "_law_right" s_law_right A.f_law_right A.e_law_right
  g_law : mg "law" = some (.ref A.f_law)
  F_law : Fun K "law" "law" s_law A.f_law A.e_law
  n_abs : mg "abs" = none
  n_all : mg "all" = none
  n_bool : mg "bool" = none
  n_enumerate : mg "enumerate" = none
  n_int : mg "int" = none
  n_isinstance : mg "isinstance" = none
  n_len : mg "len" = none
  n_list : mg "list" = none
  n_max : mg "max" = none
  n_min : mg "min" = none
  n_range : mg "range" = none
  n_repr : mg "repr" = none
  n_sum : mg "sum" = none
  n_tuple : mg "tuple" = none
  n_zip : mg "zip" = none
  c_BITS : mg "BITS" = some (.int 26 A.t_BITS)
  c_FLAT : mg "FLAT" = some (.int 2896 A.t_FLAT)
  c_LEAST_ENTRY : mg "LEAST_ENTRY" = some (.int 16 A.t_LEAST_ENTRY)
  c_MOST_AWAY : mg "MOST_AWAY" = some (.int 5 A.t_MOST_AWAY)
  c_MOST_ENTRY : mg "MOST_ENTRY" = some (.int 65535 A.t_MOST_ENTRY)
  c_SIDE : mg "SIDE" = some (.int 8 A.t_SIDE)
  c_WAVES : mg "WAVES" = some (.ref A.t_WAVES)
  d_WAVES : ∀ F, RD K F k_WAVES (.ref A.t_WAVES)
  gx_PicError : mg "PicError" = some (.ref A.x_PicError)
  ex_PicError : ∀ c ∈ [("NoSamples", A.x_NoSamples)], PySem.W.exmOne K (.ref c.2) (.ref A.x_PicError) = some (is_PicError c.1)
  gx_NoSamples : mg "NoSamples" = some (.ref A.x_NoSamples)
  x_NoSamples : XCls P K mg "NoSamples" A.x_NoSamples A.i_NoSamples ["part"]
  y_NoSamples : XGet K A.x_NoSamples
  ex_NoSamples : ∀ c ∈ [("NoSamples", A.x_NoSamples)], PySem.W.exmOne K (.ref c.2) (.ref A.x_NoSamples) = some (is_NoSamples c.1)
section
variable {P : Program} {w : World} {K : PySem.W.Frag} {mg : Str → Option Value} {base : Heap} {A : Ad}
theorem ex_PicError (T : Txt P w K mg A) (n : String) (C : Addr) (hm : mg (Str.ofString n) = some (.ref C)) (hk : known n = true) : PySem.W.exmOne K (.ref C) (.ref A.x_PicError) = some (is_PicError n) := by
  simp only [known, Bool.or_eq_true, beq_iff_eq, or_assoc] at hk
  subst hk
  · rw [T.gx_NoSamples] at hm
    cases hm
    exact T.ex_PicError ("NoSamples", A.x_NoSamples) (by simp)
theorem ex_NoSamples (T : Txt P w K mg A) (n : String) (C : Addr) (hm : mg (Str.ofString n) = some (.ref C)) (hk : known n = true) : PySem.W.exmOne K (.ref C) (.ref A.x_NoSamples) = some (is_NoSamples n) := by
  simp only [known, Bool.or_eq_true, beq_iff_eq, or_assoc] at hk
  subst hk
  · rw [T.gx_NoSamples] at hm
    cases hm
    exact T.ex_NoSamples ("NoSamples", A.x_NoSamples) (by simp)
theorem sc_zigzag_places : FnScope N_zigzag_places [] (defScope s_zigzag_places) := ⟨rfl, rfl, rfl, by decide +kernel, rfl, by decide +kernel, by decide +kernel⟩
theorem len_zigzag_places : ∀ ds h Q E, sp_zigzag_places ds h Q E → ds.length = ([] : List Str).length := by
  intro ds h Q E s
  first | (obtain ⟨rfl, _⟩ := s; rfl) | (obtain ⟨_, rfl, _⟩ := s; rfl) | (obtain ⟨_, _, rfl, _⟩ := s; rfl) | (obtain ⟨_, _, _, rfl, _⟩ := s; rfl) | (obtain ⟨_, _, _, _, rfl, _⟩ := s; rfl) | (obtain ⟨_, _, _, _, _, rfl, _⟩ := s; rfl) | (obtain ⟨_, _, _, _, _, _, rfl, _⟩ := s; rfl) | (obtain ⟨_, _, _, _, _, _, _, rfl, _⟩ := s; rfl) | (obtain ⟨_, _, _, _, _, _, _, _, rfl, _⟩ := s; rfl) | (obtain ⟨_, _, _, _, _, _, _, _, _, rfl, _⟩ := s; rfl) | (obtain ⟨_, _, _, _, _, _, _, _, _, _, rfl, _⟩ := s; rfl) | (obtain ⟨_, _, _, _, _, _, _, _, _, _, _, rfl, _⟩ := s; rfl) | (obtain ⟨_, _, _, _, _, _, _, _, _, _, _, _, rfl, _⟩ := s; rfl) | (obtain ⟨_, _, _, _, _, _, _, _, _, _, _, _, _, rfl, _⟩ := s; rfl) | (obtain ⟨_, _, _, _, _, _, _, _, _, _, _, _, _, _, rfl, _⟩ := s; rfl) | (obtain ⟨_, _, _, _, _, _, _, _, _, _, _, _, _, _, _, rfl, _⟩ := s; rfl) | (obtain ⟨_, _, _, _, _, _, _, _, _, _, _, _, _, _, _, _, rfl, _⟩ := s; rfl) | (obtain ⟨_, _, _, _, _, _, _, _, _, _, _, _, _, _, _, _, _, rfl, _⟩ := s; rfl) | (unfold sp_zigzag_places TB.sp_zigzag_places at s; split at s; all_goals first | rfl | exact s.elim) | exact False.elim s | (rcases ds with _ | ⟨_, _⟩ <;> first | rfl | exact False.elim s)
theorem bd_zigzag_places (T : Txt P w K mg A) : Binds K A.e_zigzag_places [] [] := T.F_zigzag_places.binds fun _ _ _ _ _ _ us hl => match us, hl with | [], _ => rfl
theorem ok_zigzag_places (T : Txt P w K mg A) : FnM P w K mg base 2 A.f_zigzag_places A.e_zigzag_places [] sp_zigzag_places :=
  fn_m T.F_zigzag_places sc_zigzag_places (len_zigzag_places) fun cdv Ar outer s H E B ds h Q' E' hcd hr tk hsp => ⟨rd_zigzag_places , by
    exact (ms_cons (ms_set 0 sc_zigzag_places.nd (m_lstM ma_nil))
 (ms_cons (ms_for (passes_of rfl) rfl (mi_range1 T.n_range (m_sub (m_mul m_int (m_glob (v := V.int 8) rfl T.c_SIDE ⟨_, rfl⟩ (fun _ => .int _))) m_int)) (mg_name 1 sc_zigzag_places.nd)
 (ms_cons (ms_setLc 2 (own := [("row", 3)]) rfl sc_zigzag_places.nd (mi_range1 T.n_range (m_glob (v := V.int 8) rfl T.c_SIDE ⟨_, rfl⟩ (fun _ => .int _))) (show BlkOk N_zigzag_places (defScope s_zigzag_places) _ [("row", 3)] from ⟨rfl, by decide +kernel, by decide +kernel, by decide +kernel, by decide +kernel⟩) put1_ok (fun _ _ _ _ _ => pg_name (i := 3) sc_zigzag_places.nd rfl (by first | exact Or.inl rfl | exact Or.inr rfl)) (fun _ _ _ _ _ => (mts_one (mt_lelt m_int (m_sub (m_var 1) (m_var 3)) (m_glob (v := V.int 8) rfl T.c_SIDE ⟨_, rfl⟩ (fun _ => .int _))))) (fun _ _ _ _ _ => (m_var 3)))
 (ms_one (ms_expr (m_mt PySem.F.slot_list_extend PySem.F.type_list_extend mt_extend fExtend_d (m_var 0) (ma_cons (m_lc (own := [("row", 3)]) rfl sc_zigzag_places.nd (mi_row (m_if (mt_val (m_band (m_var 1) m_int)) (m_var 2) (m_rev (m_var 2)))) (show BlkOk N_zigzag_places (defScope s_zigzag_places) _ [("row", 3)] from ⟨rfl, by decide +kernel, by decide +kernel, by decide +kernel, by decide +kernel⟩) put1_ok (fun _ _ _ _ _ => pg_name (i := 3) sc_zigzag_places.nd rfl (by first | exact Or.inl rfl | exact Or.inr rfl)) (fun _ _ _ _ _ => mts_nil) (fun _ _ _ _ _ => (m_tup (ma_cons (m_var 3) (ma_cons (m_sub (m_var 1) (m_var 3)) ma_nil))))) ma_nil))))))
 (ms_fz 0 (ms_one (ms_ret (m_var 0)))))), pure_zigzag_places ds h Q' E' hsp⟩
theorem sc_is_integer : FnScope N_is_integer ["thing"] (defScope s_is_integer) := ⟨rfl, rfl, rfl, by decide +kernel, rfl, by decide +kernel, by decide +kernel⟩
theorem len_is_integer : ∀ ds h Q E, sp_is_integer ds h Q E → ds.length = (["thing"] : List Str).length := by
  intro ds h Q E s
  first | (obtain ⟨rfl, _⟩ := s; rfl) | (obtain ⟨_, rfl, _⟩ := s; rfl) | (obtain ⟨_, _, rfl, _⟩ := s; rfl) | (obtain ⟨_, _, _, rfl, _⟩ := s; rfl) | (obtain ⟨_, _, _, _, rfl, _⟩ := s; rfl) | (obtain ⟨_, _, _, _, _, rfl, _⟩ := s; rfl) | (obtain ⟨_, _, _, _, _, _, rfl, _⟩ := s; rfl) | (obtain ⟨_, _, _, _, _, _, _, rfl, _⟩ := s; rfl) | (obtain ⟨_, _, _, _, _, _, _, _, rfl, _⟩ := s; rfl) | (obtain ⟨_, _, _, _, _, _, _, _, _, rfl, _⟩ := s; rfl) | (obtain ⟨_, _, _, _, _, _, _, _, _, _, rfl, _⟩ := s; rfl) | (obtain ⟨_, _, _, _, _, _, _, _, _, _, _, rfl, _⟩ := s; rfl) | (obtain ⟨_, _, _, _, _, _, _, _, _, _, _, _, rfl, _⟩ := s; rfl) | (obtain ⟨_, _, _, _, _, _, _, _, _, _, _, _, _, rfl, _⟩ := s; rfl) | (obtain ⟨_, _, _, _, _, _, _, _, _, _, _, _, _, _, rfl, _⟩ := s; rfl) | (obtain ⟨_, _, _, _, _, _, _, _, _, _, _, _, _, _, _, rfl, _⟩ := s; rfl) | (obtain ⟨_, _, _, _, _, _, _, _, _, _, _, _, _, _, _, _, rfl, _⟩ := s; rfl) | (obtain ⟨_, _, _, _, _, _, _, _, _, _, _, _, _, _, _, _, _, rfl, _⟩ := s; rfl) | (unfold sp_is_integer SM.sp_is_integer at s; split at s; all_goals first | rfl | exact s.elim) | exact False.elim s | (rcases ds with _ | ⟨_, _ | ⟨_, _⟩⟩ <;> first | rfl | exact False.elim s)
theorem bd_is_integer (T : Txt P w K mg A) : Binds K A.e_is_integer ["thing"] [] := T.F_is_integer.binds fun _ _ _ _ _ _ us hl => match us, hl with | [_], _ => rfl
theorem ok_is_integer (T : Txt P w K mg A) : FnM P w K mg base 2 A.f_is_integer A.e_is_integer ["thing"] sp_is_integer :=
  fn_m T.F_is_integer sc_is_integer (len_is_integer) fun cdv Ar outer s H E B ds h Q' E' hcd hr tk hsp => ⟨rd_is_integer , by
    exact (ms_one (ms_ret (m_and (m_isi T.n_isinstance (by decide) (m_var 0) (pe_ty T.n_int rfl)) (m_one (m_not (m_isi T.n_isinstance (by decide) (m_var 0) (pe_ty T.n_bool rfl))))))), pure_is_integer ds h Q' E' hsp⟩
theorem sc_wave : FnScope N_wave ["turns"] (defScope s_wave) := ⟨rfl, rfl, rfl, by decide +kernel, rfl, by decide +kernel, by decide +kernel⟩
theorem len_wave : ∀ ds h Q E, sp_wave ds h Q E → ds.length = (["turns"] : List Str).length := by
  intro ds h Q E s
  first | (obtain ⟨rfl, _⟩ := s; rfl) | (obtain ⟨_, rfl, _⟩ := s; rfl) | (obtain ⟨_, _, rfl, _⟩ := s; rfl) | (obtain ⟨_, _, _, rfl, _⟩ := s; rfl) | (obtain ⟨_, _, _, _, rfl, _⟩ := s; rfl) | (obtain ⟨_, _, _, _, _, rfl, _⟩ := s; rfl) | (obtain ⟨_, _, _, _, _, _, rfl, _⟩ := s; rfl) | (obtain ⟨_, _, _, _, _, _, _, rfl, _⟩ := s; rfl) | (obtain ⟨_, _, _, _, _, _, _, _, rfl, _⟩ := s; rfl) | (obtain ⟨_, _, _, _, _, _, _, _, _, rfl, _⟩ := s; rfl) | (obtain ⟨_, _, _, _, _, _, _, _, _, _, rfl, _⟩ := s; rfl) | (obtain ⟨_, _, _, _, _, _, _, _, _, _, _, rfl, _⟩ := s; rfl) | (obtain ⟨_, _, _, _, _, _, _, _, _, _, _, _, rfl, _⟩ := s; rfl) | (obtain ⟨_, _, _, _, _, _, _, _, _, _, _, _, _, rfl, _⟩ := s; rfl) | (obtain ⟨_, _, _, _, _, _, _, _, _, _, _, _, _, _, rfl, _⟩ := s; rfl) | (obtain ⟨_, _, _, _, _, _, _, _, _, _, _, _, _, _, _, rfl, _⟩ := s; rfl) | (obtain ⟨_, _, _, _, _, _, _, _, _, _, _, _, _, _, _, _, rfl, _⟩ := s; rfl) | (obtain ⟨_, _, _, _, _, _, _, _, _, _, _, _, _, _, _, _, _, rfl, _⟩ := s; rfl) | (unfold sp_wave SM.sp_wave at s; split at s; all_goals first | rfl | exact s.elim) | exact False.elim s | (rcases ds with _ | ⟨_, _ | ⟨_, _⟩⟩ <;> first | rfl | exact False.elim s)
theorem bd_wave (T : Txt P w K mg A) : Binds K A.e_wave ["turns"] [] := T.F_wave.binds fun _ _ _ _ _ _ us hl => match us, hl with | [_], _ => rfl
theorem ok_wave (T : Txt P w K mg A) : FnM P w K mg base 2 A.f_wave A.e_wave ["turns"] sp_wave :=
  fn_m T.F_wave sc_wave (len_wave) fun cdv Ar outer s H E B ds h Q' E' hcd hr tk hsp => ⟨rd_wave , by
    exact (ms_cons (ms_set 0 sc_wave.nd (m_band (m_var 0) m_int))
 (ms_cons (ms_set 0 sc_wave.nd (m_if (mt_gt (m_var 0) m_int) (m_sub m_int (m_var 0)) (m_var 0)))
 (ms_one (ms_ret (m_if (mt_gt (m_var 0) m_int) (m_sub m_int (m_ix (m_glob (v := V.ref A.t_WAVES) rfl T.c_WAVES rfl T.d_WAVES) (m_sub m_int (m_var 0)))) (m_ix (m_glob (v := V.ref A.t_WAVES) rfl T.c_WAVES rfl T.d_WAVES) (m_var 0))))))), pure_wave ds h Q' E' hsp⟩
theorem sc_cut : FnScope N_cut ["number"] (defScope s_cut) := ⟨rfl, rfl, rfl, by decide +kernel, rfl, by decide +kernel, by decide +kernel⟩
theorem len_cut : ∀ ds h Q E, sp_cut ds h Q E → ds.length = (["number"] : List Str).length := by
  intro ds h Q E s
  first | (obtain ⟨rfl, _⟩ := s; rfl) | (obtain ⟨_, rfl, _⟩ := s; rfl) | (obtain ⟨_, _, rfl, _⟩ := s; rfl) | (obtain ⟨_, _, _, rfl, _⟩ := s; rfl) | (obtain ⟨_, _, _, _, rfl, _⟩ := s; rfl) | (obtain ⟨_, _, _, _, _, rfl, _⟩ := s; rfl) | (obtain ⟨_, _, _, _, _, _, rfl, _⟩ := s; rfl) | (obtain ⟨_, _, _, _, _, _, _, rfl, _⟩ := s; rfl) | (obtain ⟨_, _, _, _, _, _, _, _, rfl, _⟩ := s; rfl) | (obtain ⟨_, _, _, _, _, _, _, _, _, rfl, _⟩ := s; rfl) | (obtain ⟨_, _, _, _, _, _, _, _, _, _, rfl, _⟩ := s; rfl) | (obtain ⟨_, _, _, _, _, _, _, _, _, _, _, rfl, _⟩ := s; rfl) | (obtain ⟨_, _, _, _, _, _, _, _, _, _, _, _, rfl, _⟩ := s; rfl) | (obtain ⟨_, _, _, _, _, _, _, _, _, _, _, _, _, rfl, _⟩ := s; rfl) | (obtain ⟨_, _, _, _, _, _, _, _, _, _, _, _, _, _, rfl, _⟩ := s; rfl) | (obtain ⟨_, _, _, _, _, _, _, _, _, _, _, _, _, _, _, rfl, _⟩ := s; rfl) | (obtain ⟨_, _, _, _, _, _, _, _, _, _, _, _, _, _, _, _, rfl, _⟩ := s; rfl) | (obtain ⟨_, _, _, _, _, _, _, _, _, _, _, _, _, _, _, _, _, rfl, _⟩ := s; rfl) | (unfold sp_cut SM.sp_cut at s; split at s; all_goals first | rfl | exact s.elim) | exact False.elim s | (rcases ds with _ | ⟨_, _ | ⟨_, _⟩⟩ <;> first | rfl | exact False.elim s)
theorem bd_cut (T : Txt P w K mg A) : Binds K A.e_cut ["number"] [] := T.F_cut.binds fun _ _ _ _ _ _ us hl => match us, hl with | [_], _ => rfl
theorem ok_cut (T : Txt P w K mg A) : FnM P w K mg base 2 A.f_cut A.e_cut ["number"] sp_cut :=
  fn_m T.F_cut sc_cut (len_cut) fun cdv Ar outer s H E B ds h Q' E' hcd hr tk hsp => ⟨rd_cut , by
    exact (ms_one (ms_ret (m_min2 rfl T.n_min (ma_cons m_int (ma_cons (m_max2 rfl T.n_max (ma_cons m_int (ma_cons (m_var 0) ma_nil))) ma_nil))))), pure_cut ds h Q' E' hsp⟩
theorem sc_law_purse : FnScope N_law_purse ["_law_cell"] (defScope s_law_purse) := ⟨rfl, rfl, rfl, by decide +kernel, rfl, by decide +kernel, by decide +kernel⟩
theorem len_law_purse : ∀ ds h Q E, sp_law_purse ds h Q E → ds.length = (["_law_cell"] : List Str).length := by
  intro ds h Q E s
  first | (obtain ⟨rfl, _⟩ := s; rfl) | (obtain ⟨_, rfl, _⟩ := s; rfl) | (obtain ⟨_, _, rfl, _⟩ := s; rfl) | (obtain ⟨_, _, _, rfl, _⟩ := s; rfl) | (obtain ⟨_, _, _, _, rfl, _⟩ := s; rfl) | (obtain ⟨_, _, _, _, _, rfl, _⟩ := s; rfl) | (obtain ⟨_, _, _, _, _, _, rfl, _⟩ := s; rfl) | (obtain ⟨_, _, _, _, _, _, _, rfl, _⟩ := s; rfl) | (obtain ⟨_, _, _, _, _, _, _, _, rfl, _⟩ := s; rfl) | (obtain ⟨_, _, _, _, _, _, _, _, _, rfl, _⟩ := s; rfl) | (obtain ⟨_, _, _, _, _, _, _, _, _, _, rfl, _⟩ := s; rfl) | (obtain ⟨_, _, _, _, _, _, _, _, _, _, _, rfl, _⟩ := s; rfl) | (obtain ⟨_, _, _, _, _, _, _, _, _, _, _, _, rfl, _⟩ := s; rfl) | (obtain ⟨_, _, _, _, _, _, _, _, _, _, _, _, _, rfl, _⟩ := s; rfl) | (obtain ⟨_, _, _, _, _, _, _, _, _, _, _, _, _, _, rfl, _⟩ := s; rfl) | (obtain ⟨_, _, _, _, _, _, _, _, _, _, _, _, _, _, _, rfl, _⟩ := s; rfl) | (obtain ⟨_, _, _, _, _, _, _, _, _, _, _, _, _, _, _, _, rfl, _⟩ := s; rfl) | (obtain ⟨_, _, _, _, _, _, _, _, _, _, _, _, _, _, _, _, _, rfl, _⟩ := s; rfl) | (unfold sp_law_purse PU.sp_law_purse at s; split at s; all_goals first | rfl | exact s.elim) | exact False.elim s | (rcases ds with _ | ⟨_, _ | ⟨_, _⟩⟩ <;> first | rfl | exact False.elim s)
theorem bd_law_purse (T : Txt P w K mg A) : Binds K A.e_law_purse ["_law_cell"] [] := T.F_law_purse.binds fun _ _ _ _ _ _ us hl => match us, hl with | [_], _ => rfl
theorem ok_law_purse (T : Txt P w K mg A) : FnM P w K mg base 2 A.f_law_purse A.e_law_purse ["_law_cell"] sp_law_purse :=
  fn_m T.F_law_purse sc_law_purse (len_law_purse) fun cdv Ar outer s H E B ds h Q' E' hcd hr tk hsp => ⟨rd_law_purse , by
    exact (ms_one (ms_ret (m_lstM (ma_cons (m_mul (m_var 0) (m_intc T.n_int (ma_cons (m_ge (m_var 0) (m_pow m_int m_int)) ma_nil))) (ma_cons (m_mod (m_intc T.n_int (ma_cons (m_var 0) ma_nil)) m_int) (ma_cons m_int ma_nil)))))), pure_law_purse ds h Q' E' hsp⟩
theorem sc_law_coin : FnScope N_law_coin ["_law_purse_here", "_law_amount"] (defScope s_law_coin) := ⟨rfl, rfl, rfl, by decide +kernel, rfl, by decide +kernel, by decide +kernel⟩
theorem len_law_coin : ∀ ds h Q E, sp_law_coin ds h Q E → ds.length = (["_law_purse_here", "_law_amount"] : List Str).length := by
  intro ds h Q E s
  first | (obtain ⟨rfl, _⟩ := s; rfl) | (obtain ⟨_, rfl, _⟩ := s; rfl) | (obtain ⟨_, _, rfl, _⟩ := s; rfl) | (obtain ⟨_, _, _, rfl, _⟩ := s; rfl) | (obtain ⟨_, _, _, _, rfl, _⟩ := s; rfl) | (obtain ⟨_, _, _, _, _, rfl, _⟩ := s; rfl) | (obtain ⟨_, _, _, _, _, _, rfl, _⟩ := s; rfl) | (obtain ⟨_, _, _, _, _, _, _, rfl, _⟩ := s; rfl) | (obtain ⟨_, _, _, _, _, _, _, _, rfl, _⟩ := s; rfl) | (obtain ⟨_, _, _, _, _, _, _, _, _, rfl, _⟩ := s; rfl) | (obtain ⟨_, _, _, _, _, _, _, _, _, _, rfl, _⟩ := s; rfl) | (obtain ⟨_, _, _, _, _, _, _, _, _, _, _, rfl, _⟩ := s; rfl) | (obtain ⟨_, _, _, _, _, _, _, _, _, _, _, _, rfl, _⟩ := s; rfl) | (obtain ⟨_, _, _, _, _, _, _, _, _, _, _, _, _, rfl, _⟩ := s; rfl) | (obtain ⟨_, _, _, _, _, _, _, _, _, _, _, _, _, _, rfl, _⟩ := s; rfl) | (obtain ⟨_, _, _, _, _, _, _, _, _, _, _, _, _, _, _, rfl, _⟩ := s; rfl) | (obtain ⟨_, _, _, _, _, _, _, _, _, _, _, _, _, _, _, _, rfl, _⟩ := s; rfl) | (obtain ⟨_, _, _, _, _, _, _, _, _, _, _, _, _, _, _, _, _, rfl, _⟩ := s; rfl) | (unfold sp_law_coin PU.sp_law_coin at s; split at s; all_goals first | rfl | exact s.elim) | exact False.elim s | (rcases ds with _ | ⟨_, _ | ⟨_, _ | ⟨_, _⟩⟩⟩ <;> first | rfl | exact False.elim s)
theorem bd_law_coin (T : Txt P w K mg A) : Binds K A.e_law_coin ["_law_purse_here", "_law_amount"] [] := T.F_law_coin.binds fun _ _ _ _ _ _ us hl => match us, hl with | [_, _], _ => rfl
theorem ok_law_coin (T : Txt P w K mg A) : FnM P w K mg base 2 A.f_law_coin A.e_law_coin ["_law_purse_here", "_law_amount"] sp_law_coin :=
  fn_m T.F_law_coin sc_law_coin (len_law_coin) fun cdv Ar outer s H E B ds h Q' E' hcd hr tk hsp => ⟨rd_law_coin , by
    exact (ms_cons (ms_if (mt_gt (m_ix (m_var 0) m_int) m_int) (ms_cons (ms_set 3 sc_law_coin.nd (m_mod (m_intc T.n_int (ma_cons (m_ix (m_var 0) m_int) ma_nil)) (m_var 1)))
 (ms_cons (ms_asg (m_fdiv (m_ix (m_var 0) m_int) (m_var 1)) (mg_sub (m_var 0) m_int))
 (ms_one (ms_ret (m_var 3))))) ms_nil)
 (ms_cons (ms_asg (m_add (m_ix (m_var 0) m_int) m_int) (mg_sub (m_var 0) m_int))
 (ms_cons (ms_set 2 sc_law_coin.nd (m_mod (m_intc T.n_int (ma_cons (m_pow (m_add (m_add (m_ix (m_var 0) m_int) (m_mul m_int (m_ix (m_var 0) m_int))) m_int) m_int) ma_nil)) m_int))
 (ms_cons (ms_set 2 sc_law_coin.nd (m_mod (m_intc T.n_int (ma_cons (m_mul (m_add (m_var 2) (m_mul m_int (m_ix (m_var 0) m_int))) (m_add (m_fdiv (m_var 2) m_int) m_int)) ma_nil)) m_int))
 (ms_one (ms_ret (m_mod (m_intc T.n_int (ma_cons (m_fdiv (m_mod (m_intc T.n_int (ma_cons (m_mul (m_var 2) (m_add (m_fdiv (m_var 2) m_int) m_int)) ma_nil)) m_int) m_int) ma_nil)) (m_var 1)))))))), pure_law_coin ds h Q' E' hsp⟩
theorem sc_law_weight : FnScope N_law_weight ["_law_x", "_law_u"] (defScope s_law_weight) := ⟨rfl, rfl, rfl, by decide +kernel, rfl, by decide +kernel, by decide +kernel⟩
theorem len_law_weight : ∀ ds h Q E, sp_law_weight ds h Q E → ds.length = (["_law_x", "_law_u"] : List Str).length := by
  intro ds h Q E s
  first | (obtain ⟨rfl, _⟩ := s; rfl) | (obtain ⟨_, rfl, _⟩ := s; rfl) | (obtain ⟨_, _, rfl, _⟩ := s; rfl) | (obtain ⟨_, _, _, rfl, _⟩ := s; rfl) | (obtain ⟨_, _, _, _, rfl, _⟩ := s; rfl) | (obtain ⟨_, _, _, _, _, rfl, _⟩ := s; rfl) | (obtain ⟨_, _, _, _, _, _, rfl, _⟩ := s; rfl) | (obtain ⟨_, _, _, _, _, _, _, rfl, _⟩ := s; rfl) | (obtain ⟨_, _, _, _, _, _, _, _, rfl, _⟩ := s; rfl) | (obtain ⟨_, _, _, _, _, _, _, _, _, rfl, _⟩ := s; rfl) | (obtain ⟨_, _, _, _, _, _, _, _, _, _, rfl, _⟩ := s; rfl) | (obtain ⟨_, _, _, _, _, _, _, _, _, _, _, rfl, _⟩ := s; rfl) | (obtain ⟨_, _, _, _, _, _, _, _, _, _, _, _, rfl, _⟩ := s; rfl) | (obtain ⟨_, _, _, _, _, _, _, _, _, _, _, _, _, rfl, _⟩ := s; rfl) | (obtain ⟨_, _, _, _, _, _, _, _, _, _, _, _, _, _, rfl, _⟩ := s; rfl) | (obtain ⟨_, _, _, _, _, _, _, _, _, _, _, _, _, _, _, rfl, _⟩ := s; rfl) | (obtain ⟨_, _, _, _, _, _, _, _, _, _, _, _, _, _, _, _, rfl, _⟩ := s; rfl) | (obtain ⟨_, _, _, _, _, _, _, _, _, _, _, _, _, _, _, _, _, rfl, _⟩ := s; rfl) | (unfold sp_law_weight at s; split at s; all_goals first | rfl | exact s.elim) | exact False.elim s | (rcases ds with _ | ⟨_, _ | ⟨_, _ | ⟨_, _⟩⟩⟩ <;> first | rfl | exact False.elim s)
theorem bd_law_weight (T : Txt P w K mg A) : Binds K A.e_law_weight ["_law_x", "_law_u"] [] := T.F_law_weight.binds fun _ _ _ _ _ _ us hl => match us, hl with | [_, _], _ => rfl
theorem ok_law_weight (T : Txt P w K mg A) : FnM P w K mg base 2 A.f_law_weight A.e_law_weight ["_law_x", "_law_u"] sp_law_weight :=
  fn_m T.F_law_weight sc_law_weight (len_law_weight) fun cdv Ar outer s H E B ds h Q' E' hcd hr tk hsp => ⟨rd_law_weight , by
    exact (ms_cons (ms_if (mt_eq hr.units (m_var 1) m_int) (ms_one (ms_ret m_int)) ms_nil)
 (ms_cons (ms_set 2 sc_law_weight.nd (m_mod (m_intc T.n_int (ma_cons (m_mul (m_add (m_mul m_int (m_var 0)) m_int) (m_var 1)) ma_nil)) m_int))
 (ms_cons (ms_set 2 sc_law_weight.nd (m_if (mt_gt (m_var 2) m_int) (m_sub m_int (m_var 2)) (m_var 2)))
 (ms_cons (ms_set 3 sc_law_weight.nd (m_lst (ma_cons m_int (ma_cons m_int (ma_cons m_int (ma_cons m_int (ma_cons m_int (ma_cons m_int (ma_cons m_int (ma_cons m_int (ma_cons m_int ma_nil)))))))))))
 (ms_one (ms_ret (m_if (mt_gt (m_var 2) m_int) (m_sub m_int (m_ix (m_var 3) (m_sub m_int (m_var 2)))) (m_ix (m_var 3) (m_var 2))))))))), pure_law_weight ds h Q' E' hsp⟩
theorem sc_law_places : FnScope N_law_places [] (defScope s_law_places) := ⟨rfl, rfl, rfl, by decide +kernel, rfl, by decide +kernel, by decide +kernel⟩
theorem len_law_places : ∀ ds h Q E, sp_law_places ds h Q E → ds.length = ([] : List Str).length := by
  intro ds h Q E s
  first | (obtain ⟨rfl, _⟩ := s; rfl) | (obtain ⟨_, rfl, _⟩ := s; rfl) | (obtain ⟨_, _, rfl, _⟩ := s; rfl) | (obtain ⟨_, _, _, rfl, _⟩ := s; rfl) | (obtain ⟨_, _, _, _, rfl, _⟩ := s; rfl) | (obtain ⟨_, _, _, _, _, rfl, _⟩ := s; rfl) | (obtain ⟨_, _, _, _, _, _, rfl, _⟩ := s; rfl) | (obtain ⟨_, _, _, _, _, _, _, rfl, _⟩ := s; rfl) | (obtain ⟨_, _, _, _, _, _, _, _, rfl, _⟩ := s; rfl) | (obtain ⟨_, _, _, _, _, _, _, _, _, rfl, _⟩ := s; rfl) | (obtain ⟨_, _, _, _, _, _, _, _, _, _, rfl, _⟩ := s; rfl) | (obtain ⟨_, _, _, _, _, _, _, _, _, _, _, rfl, _⟩ := s; rfl) | (obtain ⟨_, _, _, _, _, _, _, _, _, _, _, _, rfl, _⟩ := s; rfl) | (obtain ⟨_, _, _, _, _, _, _, _, _, _, _, _, _, rfl, _⟩ := s; rfl) | (obtain ⟨_, _, _, _, _, _, _, _, _, _, _, _, _, _, rfl, _⟩ := s; rfl) | (obtain ⟨_, _, _, _, _, _, _, _, _, _, _, _, _, _, _, rfl, _⟩ := s; rfl) | (obtain ⟨_, _, _, _, _, _, _, _, _, _, _, _, _, _, _, _, rfl, _⟩ := s; rfl) | (obtain ⟨_, _, _, _, _, _, _, _, _, _, _, _, _, _, _, _, _, rfl, _⟩ := s; rfl) | (unfold sp_law_places at s; split at s; all_goals first | rfl | exact s.elim) | exact False.elim s | (rcases ds with _ | ⟨_, _⟩ <;> first | rfl | exact False.elim s)
theorem bd_law_places (T : Txt P w K mg A) : Binds K A.e_law_places [] [] := T.F_law_places.binds fun _ _ _ _ _ _ us hl => match us, hl with | [], _ => rfl
theorem ok_law_places (T : Txt P w K mg A) : FnM P w K mg base 2 A.f_law_places A.e_law_places [] sp_law_places :=
  fn_m T.F_law_places sc_law_places (len_law_places) fun cdv Ar outer s H E B ds h Q' E' hcd hr tk hsp => ⟨rd_law_places , by
    exact (ms_cons (ms_set 0 sc_law_places.nd (m_lstM ma_nil))
 (ms_cons (ms_for (passes_of rfl) rfl (mi_range1 T.n_range m_int) (mg_name 1 sc_law_places.nd)
 (ms_cons (ms_setLc 2 (own := [("_law_row", 3)]) rfl sc_law_places.nd (mi_range1 T.n_range m_int) (show BlkOk N_law_places (defScope s_law_places) _ [("_law_row", 3)] from ⟨rfl, by decide +kernel, by decide +kernel, by decide +kernel, by decide +kernel⟩) put1_ok (fun _ _ _ _ _ => pg_name (i := 3) sc_law_places.nd rfl (by first | exact Or.inl rfl | exact Or.inr rfl)) (fun _ _ _ _ _ => (mts_one (mt_lelt m_int (m_sub (m_var 1) (m_var 3)) m_int))) (fun _ _ _ _ _ => (m_var 3)))
 (ms_cons (ms_set 2 sc_law_places.nd (m_if (mt_eq hr.units (m_mod (m_intc T.n_int (ma_cons (m_var 1) ma_nil)) m_int) m_int) (m_var 2) (m_revA (m_var 2))))
 (ms_one (ms_expr (m_mt PySem.F.slot_list_extend PySem.F.type_list_extend mt_extend fExtend_d (m_var 0) (ma_cons (m_lc (own := [("_law_row", 3)]) rfl sc_law_places.nd (mi_row (m_var 2)) (show BlkOk N_law_places (defScope s_law_places) _ [("_law_row", 3)] from ⟨rfl, by decide +kernel, by decide +kernel, by decide +kernel, by decide +kernel⟩) put1_ok (fun _ _ _ _ _ => pg_name (i := 3) sc_law_places.nd rfl (by first | exact Or.inl rfl | exact Or.inr rfl)) (fun _ _ _ _ _ => mts_nil) (fun _ _ _ _ _ => (m_tup (ma_cons (m_var 3) (ma_cons (m_sub (m_var 1) (m_var 3)) ma_nil))))) ma_nil)))))))
 (ms_fz 0 (ms_one (ms_ret (m_var 0)))))), pure_law_places ds h Q' E' hsp⟩
theorem sc_law_within : FnScope N_law_within ["_law_lines", "_law_low", "_law_high"] (defScope s_law_within) := ⟨rfl, rfl, rfl, by decide +kernel, rfl, by decide +kernel, by decide +kernel⟩
theorem len_law_within : ∀ ds h Q E, sp_law_within ds h Q E → ds.length = (["_law_lines", "_law_low", "_law_high"] : List Str).length := by
  intro ds h Q E s
  first | (obtain ⟨rfl, _⟩ := s; rfl) | (obtain ⟨_, rfl, _⟩ := s; rfl) | (obtain ⟨_, _, rfl, _⟩ := s; rfl) | (obtain ⟨_, _, _, rfl, _⟩ := s; rfl) | (obtain ⟨_, _, _, _, rfl, _⟩ := s; rfl) | (obtain ⟨_, _, _, _, _, rfl, _⟩ := s; rfl) | (obtain ⟨_, _, _, _, _, _, rfl, _⟩ := s; rfl) | (obtain ⟨_, _, _, _, _, _, _, rfl, _⟩ := s; rfl) | (obtain ⟨_, _, _, _, _, _, _, _, rfl, _⟩ := s; rfl) | (obtain ⟨_, _, _, _, _, _, _, _, _, rfl, _⟩ := s; rfl) | (obtain ⟨_, _, _, _, _, _, _, _, _, _, rfl, _⟩ := s; rfl) | (obtain ⟨_, _, _, _, _, _, _, _, _, _, _, rfl, _⟩ := s; rfl) | (obtain ⟨_, _, _, _, _, _, _, _, _, _, _, _, rfl, _⟩ := s; rfl) | (obtain ⟨_, _, _, _, _, _, _, _, _, _, _, _, _, rfl, _⟩ := s; rfl) | (obtain ⟨_, _, _, _, _, _, _, _, _, _, _, _, _, _, rfl, _⟩ := s; rfl) | (obtain ⟨_, _, _, _, _, _, _, _, _, _, _, _, _, _, _, rfl, _⟩ := s; rfl) | (obtain ⟨_, _, _, _, _, _, _, _, _, _, _, _, _, _, _, _, rfl, _⟩ := s; rfl) | (obtain ⟨_, _, _, _, _, _, _, _, _, _, _, _, _, _, _, _, _, rfl, _⟩ := s; rfl) | (unfold sp_law_within at s; split at s; all_goals first | rfl | exact s.elim) | exact False.elim s | (rcases ds with _ | ⟨_, _ | ⟨_, _ | ⟨_, _ | ⟨_, _⟩⟩⟩⟩ <;> first | rfl | exact False.elim s)
theorem bd_law_within (T : Txt P w K mg A) : Binds K A.e_law_within ["_law_lines", "_law_low", "_law_high"] [] := T.F_law_within.binds fun _ _ _ _ _ _ us hl => match us, hl with | [_, _, _], _ => rfl
theorem ok_law_within (T : Txt P w K mg A) : FnM P w K mg base 2 A.f_law_within A.e_law_within ["_law_lines", "_law_low", "_law_high"] sp_law_within :=
  fn_m T.F_law_within sc_law_within (len_law_within) fun cdv Ar outer s H E B ds h Q' E' hcd hr tk hsp => ⟨rd_law_within , by
    exact (ms_one (ms_ret (m_and (m_ge (m_minR rfl T.n_min (ma_cons (m_lc (own := [("_law_row", 3)]) rfl sc_law_within.nd (mi_row (m_var 0)) (show BlkOk N_law_within (defScope s_law_within) _ [("_law_row", 3)] from ⟨rfl, by decide +kernel, by decide +kernel, by decide +kernel, by decide +kernel⟩) put1_ok (fun _ _ _ _ _ => pg_name (i := 3) sc_law_within.nd rfl (by first | exact Or.inl rfl | exact Or.inr rfl)) (fun _ _ _ _ _ => mts_nil) (fun _ _ _ _ _ => (m_minR rfl T.n_min (ma_cons (m_var 3) ma_nil)))) ma_nil)) (m_var 1)) (m_one (m_le (m_maxR rfl T.n_max (ma_cons (m_lc (own := [("_law_row", 3)]) rfl sc_law_within.nd (mi_row (m_var 0)) (show BlkOk N_law_within (defScope s_law_within) _ [("_law_row", 3)] from ⟨rfl, by decide +kernel, by decide +kernel, by decide +kernel, by decide +kernel⟩) put1_ok (fun _ _ _ _ _ => pg_name (i := 3) sc_law_within.nd rfl (by first | exact Or.inl rfl | exact Or.inr rfl)) (fun _ _ _ _ _ => mts_nil) (fun _ _ _ _ _ => (m_maxR rfl T.n_max (ma_cons (m_var 3) ma_nil)))) ma_nil)) (m_var 2)))))), pure_law_within ds h Q' E' hsp⟩
theorem sc_is_from : FnScope N_is_from ["thing", "low", "high"] (defScope s_is_from) := ⟨rfl, rfl, rfl, by decide +kernel, rfl, by decide +kernel, by decide +kernel⟩
theorem len_is_from : ∀ ds h Q E, sp_is_from ds h Q E → ds.length = (["thing", "low", "high"] : List Str).length := by
  intro ds h Q E s
  first | (obtain ⟨rfl, _⟩ := s; rfl) | (obtain ⟨_, rfl, _⟩ := s; rfl) | (obtain ⟨_, _, rfl, _⟩ := s; rfl) | (obtain ⟨_, _, _, rfl, _⟩ := s; rfl) | (obtain ⟨_, _, _, _, rfl, _⟩ := s; rfl) | (obtain ⟨_, _, _, _, _, rfl, _⟩ := s; rfl) | (obtain ⟨_, _, _, _, _, _, rfl, _⟩ := s; rfl) | (obtain ⟨_, _, _, _, _, _, _, rfl, _⟩ := s; rfl) | (obtain ⟨_, _, _, _, _, _, _, _, rfl, _⟩ := s; rfl) | (obtain ⟨_, _, _, _, _, _, _, _, _, rfl, _⟩ := s; rfl) | (obtain ⟨_, _, _, _, _, _, _, _, _, _, rfl, _⟩ := s; rfl) | (obtain ⟨_, _, _, _, _, _, _, _, _, _, _, rfl, _⟩ := s; rfl) | (obtain ⟨_, _, _, _, _, _, _, _, _, _, _, _, rfl, _⟩ := s; rfl) | (obtain ⟨_, _, _, _, _, _, _, _, _, _, _, _, _, rfl, _⟩ := s; rfl) | (obtain ⟨_, _, _, _, _, _, _, _, _, _, _, _, _, _, rfl, _⟩ := s; rfl) | (obtain ⟨_, _, _, _, _, _, _, _, _, _, _, _, _, _, _, rfl, _⟩ := s; rfl) | (obtain ⟨_, _, _, _, _, _, _, _, _, _, _, _, _, _, _, _, rfl, _⟩ := s; rfl) | (obtain ⟨_, _, _, _, _, _, _, _, _, _, _, _, _, _, _, _, _, rfl, _⟩ := s; rfl) | (unfold sp_is_from SM.sp_is_from at s; split at s; all_goals first | rfl | exact s.elim) | exact False.elim s | (rcases ds with _ | ⟨_, _ | ⟨_, _ | ⟨_, _ | ⟨_, _⟩⟩⟩⟩ <;> first | rfl | exact False.elim s)
theorem bd_is_from (T : Txt P w K mg A) : Binds K A.e_is_from ["thing", "low", "high"] [] := T.F_is_from.binds fun _ _ _ _ _ _ us hl => match us, hl with | [_, _, _], _ => rfl
theorem ok_is_from (T : Txt P w K mg A) : FnM P w K mg base 3 A.f_is_from A.e_is_from ["thing", "low", "high"] sp_is_from :=
  fn_m T.F_is_from sc_is_from (len_is_from) fun cdv Ar outer s H E B ds h Q' E' hcd hr tk hsp => ⟨rd_is_from , by
    exact (ms_one (ms_ret (m_and (m_call (ok_is_integer T) (hr.mono (by decide)) T.g_is_integer T.F_is_integer.kp (bd_is_integer T) tkF (ma_cons (m_var 0) ma_nil)) (m_one (m_lele (m_var 1) (m_var 0) (m_var 2)))))), pure_is_from ds h Q' E' hsp⟩
theorem sc_weight_of : FnScope N_weight_of ["x", "u"] (defScope s_weight_of) := ⟨rfl, rfl, rfl, by decide +kernel, rfl, by decide +kernel, by decide +kernel⟩
theorem len_weight_of : ∀ ds h Q E, sp_weight_of ds h Q E → ds.length = (["x", "u"] : List Str).length := by
  intro ds h Q E s
  first | (obtain ⟨rfl, _⟩ := s; rfl) | (obtain ⟨_, rfl, _⟩ := s; rfl) | (obtain ⟨_, _, rfl, _⟩ := s; rfl) | (obtain ⟨_, _, _, rfl, _⟩ := s; rfl) | (obtain ⟨_, _, _, _, rfl, _⟩ := s; rfl) | (obtain ⟨_, _, _, _, _, rfl, _⟩ := s; rfl) | (obtain ⟨_, _, _, _, _, _, rfl, _⟩ := s; rfl) | (obtain ⟨_, _, _, _, _, _, _, rfl, _⟩ := s; rfl) | (obtain ⟨_, _, _, _, _, _, _, _, rfl, _⟩ := s; rfl) | (obtain ⟨_, _, _, _, _, _, _, _, _, rfl, _⟩ := s; rfl) | (obtain ⟨_, _, _, _, _, _, _, _, _, _, rfl, _⟩ := s; rfl) | (obtain ⟨_, _, _, _, _, _, _, _, _, _, _, rfl, _⟩ := s; rfl) | (obtain ⟨_, _, _, _, _, _, _, _, _, _, _, _, rfl, _⟩ := s; rfl) | (obtain ⟨_, _, _, _, _, _, _, _, _, _, _, _, _, rfl, _⟩ := s; rfl) | (obtain ⟨_, _, _, _, _, _, _, _, _, _, _, _, _, _, rfl, _⟩ := s; rfl) | (obtain ⟨_, _, _, _, _, _, _, _, _, _, _, _, _, _, _, rfl, _⟩ := s; rfl) | (obtain ⟨_, _, _, _, _, _, _, _, _, _, _, _, _, _, _, _, rfl, _⟩ := s; rfl) | (obtain ⟨_, _, _, _, _, _, _, _, _, _, _, _, _, _, _, _, _, rfl, _⟩ := s; rfl) | (unfold sp_weight_of SM.sp_weight_of at s; split at s; all_goals first | rfl | exact s.elim) | exact False.elim s | (rcases ds with _ | ⟨_, _ | ⟨_, _ | ⟨_, _⟩⟩⟩ <;> first | rfl | exact False.elim s)
theorem bd_weight_of (T : Txt P w K mg A) : Binds K A.e_weight_of ["x", "u"] [] := T.F_weight_of.binds fun _ _ _ _ _ _ us hl => match us, hl with | [_, _], _ => rfl
theorem ok_weight_of (T : Txt P w K mg A) : FnM P w K mg base 3 A.f_weight_of A.e_weight_of ["x", "u"] sp_weight_of :=
  fn_m T.F_weight_of sc_weight_of (len_weight_of) fun cdv Ar outer s H E B ds h Q' E' hcd hr tk hsp => ⟨rd_weight_of , by
    exact (ms_one (ms_ret (m_if (mt_eq hr.units (m_var 1) m_int) (m_glob (v := V.int 2896) rfl T.c_FLAT ⟨_, rfl⟩ (fun _ => .int _)) (m_call (ok_wave T) (hr.mono (by decide)) T.g_wave T.F_wave.kp (bd_wave T) tkF (ma_cons (m_mul (m_add (m_mul m_int (m_var 0)) m_int) (m_var 1)) ma_nil))))), pure_weight_of ds h Q' E' hsp⟩
theorem sc_steps_of : FnScope N_steps_of ["table", "block"] (defScope s_steps_of) := ⟨rfl, rfl, rfl, by decide +kernel, rfl, by decide +kernel, by decide +kernel⟩
theorem len_steps_of : ∀ ds h Q E, sp_steps_of ds h Q E → ds.length = (["table", "block"] : List Str).length := by
  intro ds h Q E s
  first | (obtain ⟨rfl, _⟩ := s; rfl) | (obtain ⟨_, rfl, _⟩ := s; rfl) | (obtain ⟨_, _, rfl, _⟩ := s; rfl) | (obtain ⟨_, _, _, rfl, _⟩ := s; rfl) | (obtain ⟨_, _, _, _, rfl, _⟩ := s; rfl) | (obtain ⟨_, _, _, _, _, rfl, _⟩ := s; rfl) | (obtain ⟨_, _, _, _, _, _, rfl, _⟩ := s; rfl) | (obtain ⟨_, _, _, _, _, _, _, rfl, _⟩ := s; rfl) | (obtain ⟨_, _, _, _, _, _, _, _, rfl, _⟩ := s; rfl) | (obtain ⟨_, _, _, _, _, _, _, _, _, rfl, _⟩ := s; rfl) | (obtain ⟨_, _, _, _, _, _, _, _, _, _, rfl, _⟩ := s; rfl) | (obtain ⟨_, _, _, _, _, _, _, _, _, _, _, rfl, _⟩ := s; rfl) | (obtain ⟨_, _, _, _, _, _, _, _, _, _, _, _, rfl, _⟩ := s; rfl) | (obtain ⟨_, _, _, _, _, _, _, _, _, _, _, _, _, rfl, _⟩ := s; rfl) | (obtain ⟨_, _, _, _, _, _, _, _, _, _, _, _, _, _, rfl, _⟩ := s; rfl) | (obtain ⟨_, _, _, _, _, _, _, _, _, _, _, _, _, _, _, rfl, _⟩ := s; rfl) | (obtain ⟨_, _, _, _, _, _, _, _, _, _, _, _, _, _, _, _, rfl, _⟩ := s; rfl) | (obtain ⟨_, _, _, _, _, _, _, _, _, _, _, _, _, _, _, _, _, rfl, _⟩ := s; rfl) | (unfold sp_steps_of SM.sp_steps_of at s; split at s; all_goals first | rfl | exact s.elim) | exact False.elim s | (rcases ds with _ | ⟨_, _ | ⟨_, _ | ⟨_, _⟩⟩⟩ <;> first | rfl | exact False.elim s)
theorem bd_steps_of (T : Txt P w K mg A) : Binds K A.e_steps_of ["table", "block"] [] := T.F_steps_of.binds fun _ _ _ _ _ _ us hl => match us, hl with | [_, _], _ => rfl
theorem ok_steps_of (T : Txt P w K mg A) : FnM P w K mg base 3 A.f_steps_of A.e_steps_of ["table", "block"] sp_steps_of :=
  fn_m T.F_steps_of sc_steps_of (len_steps_of) fun cdv Ar outer s H E B ds h Q' E' hcd hr tk hsp => ⟨rd_steps_of , by
    exact (ms_cons (ms_setLc 2 (own := [("row", 4)]) rfl sc_steps_of.nd (mi_range1 T.n_range m_int) (show BlkOk N_steps_of (defScope s_steps_of) _ [("row", 4)] from ⟨rfl, by decide +kernel, by decide +kernel, by decide +kernel, by decide +kernel⟩) put1_ok (fun _ _ _ _ _ => pg_name (i := 4) sc_steps_of.nd rfl (by first | exact Or.inl rfl | exact Or.inr rfl)) (fun _ _ _ _ _ => mts_nil) (fun _ _ _ _ _ => (m_mulM (m_lst (ma_cons m_int ma_nil)) m_int)))
 (ms_cons (ms_for (passes_of rfl) rfl (mi_enum T.n_enumerate (m_call0 (ok_zigzag_places T) (hr.mono (by decide)) T.g_zigzag_places T.F_zigzag_places.kp (bd_zigzag_places T) tkF)) (mg_tup rfl (mgs_cons (mg_name 3 sc_steps_of.nd) (mgs_cons (mg_tup rfl (mgs_cons (mg_name 4 sc_steps_of.nd) (mgs_cons (mg_name 5 sc_steps_of.nd) mgs_nil))) mgs_nil)))
 (ms_one (ms_asg (m_mul (m_ix (m_var 0) (m_var 3)) (m_ix (m_var 1) (m_var 3))) (mg_sub (m_ix (m_var 2) (m_var 4)) (m_var 5)))))
 (ms_dz 2 (ms_one (ms_ret (m_var 2)))))), pure_steps_of ds h Q' E' hsp⟩
theorem sc_law_pick : FnScope N_law_pick ["_law_purse_here", "_law_some"] (defScope s_law_pick) := ⟨rfl, rfl, rfl, by decide +kernel, rfl, by decide +kernel, by decide +kernel⟩
theorem len_law_pick : ∀ ds h Q E, sp_law_pick ds h Q E → ds.length = (["_law_purse_here", "_law_some"] : List Str).length := by
  intro ds h Q E s
  first | (obtain ⟨rfl, _⟩ := s; rfl) | (obtain ⟨_, rfl, _⟩ := s; rfl) | (obtain ⟨_, _, rfl, _⟩ := s; rfl) | (obtain ⟨_, _, _, rfl, _⟩ := s; rfl) | (obtain ⟨_, _, _, _, rfl, _⟩ := s; rfl) | (obtain ⟨_, _, _, _, _, rfl, _⟩ := s; rfl) | (obtain ⟨_, _, _, _, _, _, rfl, _⟩ := s; rfl) | (obtain ⟨_, _, _, _, _, _, _, rfl, _⟩ := s; rfl) | (obtain ⟨_, _, _, _, _, _, _, _, rfl, _⟩ := s; rfl) | (obtain ⟨_, _, _, _, _, _, _, _, _, rfl, _⟩ := s; rfl) | (obtain ⟨_, _, _, _, _, _, _, _, _, _, rfl, _⟩ := s; rfl) | (obtain ⟨_, _, _, _, _, _, _, _, _, _, _, rfl, _⟩ := s; rfl) | (obtain ⟨_, _, _, _, _, _, _, _, _, _, _, _, rfl, _⟩ := s; rfl) | (obtain ⟨_, _, _, _, _, _, _, _, _, _, _, _, _, rfl, _⟩ := s; rfl) | (obtain ⟨_, _, _, _, _, _, _, _, _, _, _, _, _, _, rfl, _⟩ := s; rfl) | (obtain ⟨_, _, _, _, _, _, _, _, _, _, _, _, _, _, _, rfl, _⟩ := s; rfl) | (obtain ⟨_, _, _, _, _, _, _, _, _, _, _, _, _, _, _, _, rfl, _⟩ := s; rfl) | (obtain ⟨_, _, _, _, _, _, _, _, _, _, _, _, _, _, _, _, _, rfl, _⟩ := s; rfl) | (unfold sp_law_pick PU.sp_law_pick at s; split at s; all_goals first | rfl | exact s.elim) | exact False.elim s | (rcases ds with _ | ⟨_, _ | ⟨_, _ | ⟨_, _⟩⟩⟩ <;> first | rfl | exact False.elim s)
theorem bd_law_pick (T : Txt P w K mg A) : Binds K A.e_law_pick ["_law_purse_here", "_law_some"] [] := T.F_law_pick.binds fun _ _ _ _ _ _ us hl => match us, hl with | [_, _], _ => rfl
theorem ok_law_pick (T : Txt P w K mg A) : FnM P w K mg base 3 A.f_law_pick A.e_law_pick ["_law_purse_here", "_law_some"] sp_law_pick :=
  fn_m T.F_law_pick sc_law_pick (len_law_pick) fun cdv Ar outer s H E B ds h Q' E' hcd hr tk hsp => ⟨rd_law_pick , by
    exact (ms_one (ms_ret (m_ix (m_var 1) (m_call (ok_law_coin T) (hr.mono (by decide)) T.g_law_coin T.F_law_coin.kp (bd_law_coin T) tkF (ma_cons (m_var 0) (ma_cons (m_len T.n_len (ma_cons (m_var 1) ma_nil)) ma_nil)))))), pure_law_pick ds h Q' E' hsp⟩
theorem sc_law_samples : FnScope N_law_samples ["_law_sheet", "_law_block_here"] (defScope s_law_samples) := ⟨rfl, rfl, rfl, by decide +kernel, rfl, by decide +kernel, by decide +kernel⟩
theorem len_law_samples : ∀ ds h Q E, sp_law_samples ds h Q E → ds.length = (["_law_sheet", "_law_block_here"] : List Str).length := by
  intro ds h Q E s
  first | (obtain ⟨rfl, _⟩ := s; rfl) | (obtain ⟨_, rfl, _⟩ := s; rfl) | (obtain ⟨_, _, rfl, _⟩ := s; rfl) | (obtain ⟨_, _, _, rfl, _⟩ := s; rfl) | (obtain ⟨_, _, _, _, rfl, _⟩ := s; rfl) | (obtain ⟨_, _, _, _, _, rfl, _⟩ := s; rfl) | (obtain ⟨_, _, _, _, _, _, rfl, _⟩ := s; rfl) | (obtain ⟨_, _, _, _, _, _, _, rfl, _⟩ := s; rfl) | (obtain ⟨_, _, _, _, _, _, _, _, rfl, _⟩ := s; rfl) | (obtain ⟨_, _, _, _, _, _, _, _, _, rfl, _⟩ := s; rfl) | (obtain ⟨_, _, _, _, _, _, _, _, _, _, rfl, _⟩ := s; rfl) | (obtain ⟨_, _, _, _, _, _, _, _, _, _, _, rfl, _⟩ := s; rfl) | (obtain ⟨_, _, _, _, _, _, _, _, _, _, _, _, rfl, _⟩ := s; rfl) | (obtain ⟨_, _, _, _, _, _, _, _, _, _, _, _, _, rfl, _⟩ := s; rfl) | (obtain ⟨_, _, _, _, _, _, _, _, _, _, _, _, _, _, rfl, _⟩ := s; rfl) | (obtain ⟨_, _, _, _, _, _, _, _, _, _, _, _, _, _, _, rfl, _⟩ := s; rfl) | (obtain ⟨_, _, _, _, _, _, _, _, _, _, _, _, _, _, _, _, rfl, _⟩ := s; rfl) | (obtain ⟨_, _, _, _, _, _, _, _, _, _, _, _, _, _, _, _, _, rfl, _⟩ := s; rfl) | (unfold sp_law_samples at s; split at s; all_goals first | rfl | exact s.elim) | exact False.elim s | (rcases ds with _ | ⟨_, _ | ⟨_, _ | ⟨_, _⟩⟩⟩ <;> first | rfl | exact False.elim s)
theorem bd_law_samples (T : Txt P w K mg A) : Binds K A.e_law_samples ["_law_sheet", "_law_block_here"] [] := T.F_law_samples.binds fun _ _ _ _ _ _ us hl => match us, hl with | [_, _], _ => rfl
theorem ok_law_samples (T : Txt P w K mg A) : FnM P w K mg base 3 A.f_law_samples A.e_law_samples ["_law_sheet", "_law_block_here"] sp_law_samples :=
  fn_m T.F_law_samples sc_law_samples (len_law_samples) fun cdv Ar outer s H E B ds h Q' E' hcd hr tk hsp => ⟨rd_law_samples , by
    exact (ms_cons (ms_set 2 sc_law_samples.nd (m_lc (own := [("_law_x", 9)]) rfl sc_law_samples.nd (mi_range1 T.n_range m_int) (show BlkOk N_law_samples (defScope s_law_samples) _ [("_law_x", 9)] from ⟨rfl, by decide +kernel, by decide +kernel, by decide +kernel, by decide +kernel⟩) put1_ok (fun _ _ _ _ _ => pg_name (i := 9) sc_law_samples.nd rfl (by first | exact Or.inl rfl | exact Or.inr rfl)) (fun _ _ _ _ _ => mts_nil) (fun _ _ _ _ _ => (m_lc (own := [("_law_u", 12)]) rfl sc_law_samples.nd (mi_range1 T.n_range m_int) (blkN rfl (show BlkOk N_law_samples _ _ [("_law_u", 12)] from ⟨rfl, by decide +kernel, by decide +kernel, by decide +kernel, by decide +kernel⟩)) put1_ok (fun _ _ _ _ _ => pg_name (i := 12) sc_law_samples.nd rfl (by first | exact Or.inl rfl | exact Or.inr rfl)) (fun _ _ _ _ _ => mts_nil) (fun _ _ _ _ _ => (m_call (ok_law_weight T) (hr.mono (by decide)) T.g_law_weight T.F_law_weight.kp (bd_law_weight T) tkF (ma_cons (m_var 9) (ma_cons (m_var 12) ma_nil))))))))
 (ms_cons (ms_set 3 sc_law_samples.nd (m_lc (own := [("_law_row", 10)]) rfl sc_law_samples.nd (mi_range1 T.n_range m_int) (show BlkOk N_law_samples (defScope s_law_samples) _ [("_law_row", 10)] from ⟨rfl, by decide +kernel, by decide +kernel, by decide +kernel, by decide +kernel⟩) put1_ok (fun _ _ _ _ _ => pg_name (i := 10) sc_law_samples.nd rfl (by first | exact Or.inl rfl | exact Or.inr rfl)) (fun _ _ _ _ _ => mts_nil) (fun _ _ _ _ _ => (m_mulM (m_lst (ma_cons m_int ma_nil)) m_int))))
 (ms_cons (ms_for (passes_of rfl) rfl (mi_enum T.n_enumerate (m_call0 (ok_law_places T) (hr.mono (by decide)) T.g_law_places T.F_law_places.kp (bd_law_places T) tkF)) (mg_tup rfl (mgs_cons (mg_name 6 sc_law_samples.nd) (mgs_cons (mg_tup rfl (mgs_cons (mg_name 10 sc_law_samples.nd) (mgs_cons (mg_name 11 sc_law_samples.nd) mgs_nil))) mgs_nil)))
 (ms_cons (ms_set 7 sc_law_samples.nd (m_mul (m_ix (m_var 0) (m_var 6)) (m_ix (m_var 1) (m_var 6))))
 (ms_one (ms_if (mt_ne hr.units (m_var 7) m_int) (ms_one (ms_for (passes_of rfl) rfl (mi_range1 T.n_range m_int) (mg_name 9 sc_law_samples.nd)
 (ms_cons (ms_set 13 sc_law_samples.nd (m_mul (m_ix (m_ix (m_var 2) (m_var 9)) (m_var 11)) (m_var 7)))
 (ms_one (ms_asg (m_add (m_ix (m_ix (m_var 3) (m_var 10)) (m_var 9)) (m_var 13)) (mg_sub (m_ix (m_var 3) (m_var 10)) (m_var 9))))))) ms_nil))))
 (ms_dz 3 (ms_cons (ms_set 4 sc_law_samples.nd (m_lstM ma_nil))
 (ms_cons (ms_for (passes_of rfl) rfl (mi_range1 T.n_range m_int) (mg_name 5 sc_law_samples.nd)
 (ms_cons (ms_setLc 8 (own := [("_law_x", 9)]) rfl sc_law_samples.nd (mi_range1 T.n_range m_int) (show BlkOk N_law_samples (defScope s_law_samples) _ [("_law_x", 9)] from ⟨rfl, by decide +kernel, by decide +kernel, by decide +kernel, by decide +kernel⟩) put1_ok (fun _ _ _ _ _ => pg_name (i := 9) sc_law_samples.nd rfl (by first | exact Or.inl rfl | exact Or.inr rfl)) (fun _ _ _ _ _ => mts_nil) (fun _ _ _ _ _ => (m_sum rfl T.n_sum (ma_cons (m_lc (own := [("_law_v", 15)]) rfl sc_law_samples.nd (mi_range1 T.n_range m_int) (blkN rfl (show BlkOk N_law_samples _ _ [("_law_v", 15)] from ⟨rfl, by decide +kernel, by decide +kernel, by decide +kernel, by decide +kernel⟩)) put1_ok (fun _ _ _ _ _ => pg_name (i := 15) sc_law_samples.nd rfl (by first | exact Or.inl rfl | exact Or.inr rfl)) (fun _ _ _ _ _ => mts_nil) (fun _ _ _ _ _ => (m_mul (m_ix (m_ix (m_var 2) (m_var 5)) (m_var 15)) (m_ix (m_ix (m_var 3) (m_var 15)) (m_var 9))))) ma_nil))))
 (ms_one (ms_expr (m_mt PySem.F.slot_list_append PySem.F.type_list_append mt_append fAppend_d (m_var 4) (ma_cons (m_lcM (own := [("_law_number", 14)]) rfl sc_law_samples.nd (mi_row (m_var 8)) (show BlkOk N_law_samples (defScope s_law_samples) _ [("_law_number", 14)] from ⟨rfl, by decide +kernel, by decide +kernel, by decide +kernel, by decide +kernel⟩) put1_ok (fun _ _ _ _ _ => pg_name (i := 14) sc_law_samples.nd rfl (by first | exact Or.inl rfl | exact Or.inr rfl)) (fun _ _ _ _ _ => mts_nil) (fun _ _ _ _ _ => (m_add m_int (m_shr (m_add (m_var 14) (m_pow m_int m_int)) m_int)))) ma_nil))))))
 (ms_one (ms_ret (m_var 4))))))))), pure_law_samples ds h Q' E' hsp⟩
theorem sc_law_waves : FnScope N_law_waves ["_law_lines"] (defScope s_law_waves) := ⟨rfl, rfl, rfl, by decide +kernel, rfl, by decide +kernel, by decide +kernel⟩
theorem len_law_waves : ∀ ds h Q E, sp_law_waves ds h Q E → ds.length = (["_law_lines"] : List Str).length := by
  intro ds h Q E s
  first | (obtain ⟨rfl, _⟩ := s; rfl) | (obtain ⟨_, rfl, _⟩ := s; rfl) | (obtain ⟨_, _, rfl, _⟩ := s; rfl) | (obtain ⟨_, _, _, rfl, _⟩ := s; rfl) | (obtain ⟨_, _, _, _, rfl, _⟩ := s; rfl) | (obtain ⟨_, _, _, _, _, rfl, _⟩ := s; rfl) | (obtain ⟨_, _, _, _, _, _, rfl, _⟩ := s; rfl) | (obtain ⟨_, _, _, _, _, _, _, rfl, _⟩ := s; rfl) | (obtain ⟨_, _, _, _, _, _, _, _, rfl, _⟩ := s; rfl) | (obtain ⟨_, _, _, _, _, _, _, _, _, rfl, _⟩ := s; rfl) | (obtain ⟨_, _, _, _, _, _, _, _, _, _, rfl, _⟩ := s; rfl) | (obtain ⟨_, _, _, _, _, _, _, _, _, _, _, rfl, _⟩ := s; rfl) | (obtain ⟨_, _, _, _, _, _, _, _, _, _, _, _, rfl, _⟩ := s; rfl) | (obtain ⟨_, _, _, _, _, _, _, _, _, _, _, _, _, rfl, _⟩ := s; rfl) | (obtain ⟨_, _, _, _, _, _, _, _, _, _, _, _, _, _, rfl, _⟩ := s; rfl) | (obtain ⟨_, _, _, _, _, _, _, _, _, _, _, _, _, _, _, rfl, _⟩ := s; rfl) | (obtain ⟨_, _, _, _, _, _, _, _, _, _, _, _, _, _, _, _, rfl, _⟩ := s; rfl) | (obtain ⟨_, _, _, _, _, _, _, _, _, _, _, _, _, _, _, _, _, rfl, _⟩ := s; rfl) | (unfold sp_law_waves at s; split at s; all_goals first | rfl | exact s.elim) | exact False.elim s | (rcases ds with _ | ⟨_, _ | ⟨_, _⟩⟩ <;> first | rfl | exact False.elim s)
theorem bd_law_waves (T : Txt P w K mg A) : Binds K A.e_law_waves ["_law_lines"] [] := T.F_law_waves.binds fun _ _ _ _ _ _ us hl => match us, hl with | [_], _ => rfl
theorem ok_law_waves (T : Txt P w K mg A) : FnM P w K mg base 3 A.f_law_waves A.e_law_waves ["_law_lines"] sp_law_waves :=
  fn_m T.F_law_waves sc_law_waves (len_law_waves) fun cdv Ar outer s H E B ds h Q' E' hcd hr tk hsp => ⟨rd_law_waves , by
    exact (ms_cons (ms_set 1 sc_law_waves.nd (m_lc (own := [("_law_u", 2)]) rfl sc_law_waves.nd (mi_range1 T.n_range m_int) (show BlkOk N_law_waves (defScope s_law_waves) _ [("_law_u", 2)] from ⟨rfl, by decide +kernel, by decide +kernel, by decide +kernel, by decide +kernel⟩) put1_ok (fun _ _ _ _ _ => pg_name (i := 2) sc_law_waves.nd rfl (by first | exact Or.inl rfl | exact Or.inr rfl)) (fun _ _ _ _ _ => mts_nil) (fun _ _ _ _ _ => (m_lc (own := [("_law_x", 4)]) rfl sc_law_waves.nd (mi_range1 T.n_range m_int) (blkN rfl (show BlkOk N_law_waves _ _ [("_law_x", 4)] from ⟨rfl, by decide +kernel, by decide +kernel, by decide +kernel, by decide +kernel⟩)) put1_ok (fun _ _ _ _ _ => pg_name (i := 4) sc_law_waves.nd rfl (by first | exact Or.inl rfl | exact Or.inr rfl)) (fun _ _ _ _ _ => mts_nil) (fun _ _ _ _ _ => (m_call (ok_law_weight T) (hr.mono (by decide)) T.g_law_weight T.F_law_weight.kp (bd_law_weight T) tkF (ma_cons (m_var 4) (ma_cons (m_var 2) ma_nil))))))))
 (ms_cons (ms_set 0 sc_law_waves.nd (m_lc (own := [("_law_row", 3)]) rfl sc_law_waves.nd (mi_row (m_var 0)) (show BlkOk N_law_waves (defScope s_law_waves) _ [("_law_row", 3)] from ⟨rfl, by decide +kernel, by decide +kernel, by decide +kernel, by decide +kernel⟩) put1_ok (fun _ _ _ _ _ => pg_name (i := 3) sc_law_waves.nd rfl (by first | exact Or.inl rfl | exact Or.inr rfl)) (fun _ _ _ _ _ => mts_nil) (fun _ _ _ _ _ => (m_lc (own := [("_law_u", 2)]) rfl sc_law_waves.nd (mi_range1 T.n_range m_int) (blkN rfl (show BlkOk N_law_waves _ _ [("_law_u", 2)] from ⟨rfl, by decide +kernel, by decide +kernel, by decide +kernel, by decide +kernel⟩)) put1_ok (fun _ _ _ _ _ => pg_name (i := 2) sc_law_waves.nd rfl (by first | exact Or.inl rfl | exact Or.inr rfl)) (fun _ _ _ _ _ => mts_nil) (fun _ _ _ _ _ => (m_sum rfl T.n_sum (ma_cons (m_lc (own := [("_law_x", 4)]) rfl sc_law_waves.nd (mi_range1 T.n_range m_int) (blkN rfl (show BlkOk N_law_waves _ _ [("_law_x", 4)] from ⟨rfl, by decide +kernel, by decide +kernel, by decide +kernel, by decide +kernel⟩)) put1_ok (fun _ _ _ _ _ => pg_name (i := 4) sc_law_waves.nd rfl (by first | exact Or.inl rfl | exact Or.inr rfl)) (fun _ _ _ _ _ => mts_nil) (fun _ _ _ _ _ => (m_mul (m_ix (m_ix (m_var 1) (m_var 2)) (m_var 4)) (m_sub (m_ix (m_var 3) (m_var 4)) m_int)))) ma_nil)))))))
 (ms_one (ms_ret (m_tuple T.n_tuple (ma_cons (m_lc (own := [("_law_v", 5), ("_law_u", 2)]) rfl sc_law_waves.nd (mi_row (m_call0 (ok_law_places T) (hr.mono (by decide)) T.g_law_places T.F_law_places.kp (bd_law_places T) tkF)) (show BlkOk N_law_waves (defScope s_law_waves) _ [("_law_v", 5), ("_law_u", 2)] from ⟨rfl, by decide +kernel, by decide +kernel, by decide +kernel, by decide +kernel⟩) (putT_ok rfl) (fun _ _ _ _ _ => pg_tup rfl (pgs_cons (pg_name (i := 5) sc_law_waves.nd rfl (by first | exact Or.inl rfl | exact Or.inr rfl)) (pgs_cons (pg_name (i := 2) sc_law_waves.nd rfl (by first | exact Or.inl rfl | exact Or.inr rfl)) pgs_nil))) (fun _ _ _ _ _ => mts_nil) (fun _ _ _ _ _ => (m_sum rfl T.n_sum (ma_cons (m_lc (own := [("_law_y", 6)]) rfl sc_law_waves.nd (mi_range1 T.n_range m_int) (blkN rfl (show BlkOk N_law_waves _ _ [("_law_y", 6)] from ⟨rfl, by decide +kernel, by decide +kernel, by decide +kernel, by decide +kernel⟩)) put1_ok (fun _ _ _ _ _ => pg_name (i := 6) sc_law_waves.nd rfl (by first | exact Or.inl rfl | exact Or.inr rfl)) (fun _ _ _ _ _ => mts_nil) (fun _ _ _ _ _ => (m_mul (m_ix (m_ix (m_var 1) (m_var 5)) (m_var 6)) (m_ix (m_ix (m_var 0) (m_var 6)) (m_var 2))))) ma_nil)))) ma_nil)))))), pure_law_waves ds h Q' E' hsp⟩
theorem sc_are_from : FnScope N_are_from ["thing", "many", "low", "high"] (defScope s_are_from) := ⟨rfl, rfl, rfl, by decide +kernel, rfl, by decide +kernel, by decide +kernel⟩
theorem len_are_from : ∀ ds h Q E, sp_are_from ds h Q E → ds.length = (["thing", "many", "low", "high"] : List Str).length := by
  intro ds h Q E s
  first | (obtain ⟨rfl, _⟩ := s; rfl) | (obtain ⟨_, rfl, _⟩ := s; rfl) | (obtain ⟨_, _, rfl, _⟩ := s; rfl) | (obtain ⟨_, _, _, rfl, _⟩ := s; rfl) | (obtain ⟨_, _, _, _, rfl, _⟩ := s; rfl) | (obtain ⟨_, _, _, _, _, rfl, _⟩ := s; rfl) | (obtain ⟨_, _, _, _, _, _, rfl, _⟩ := s; rfl) | (obtain ⟨_, _, _, _, _, _, _, rfl, _⟩ := s; rfl) | (obtain ⟨_, _, _, _, _, _, _, _, rfl, _⟩ := s; rfl) | (obtain ⟨_, _, _, _, _, _, _, _, _, rfl, _⟩ := s; rfl) | (obtain ⟨_, _, _, _, _, _, _, _, _, _, rfl, _⟩ := s; rfl) | (obtain ⟨_, _, _, _, _, _, _, _, _, _, _, rfl, _⟩ := s; rfl) | (obtain ⟨_, _, _, _, _, _, _, _, _, _, _, _, rfl, _⟩ := s; rfl) | (obtain ⟨_, _, _, _, _, _, _, _, _, _, _, _, _, rfl, _⟩ := s; rfl) | (obtain ⟨_, _, _, _, _, _, _, _, _, _, _, _, _, _, rfl, _⟩ := s; rfl) | (obtain ⟨_, _, _, _, _, _, _, _, _, _, _, _, _, _, _, rfl, _⟩ := s; rfl) | (obtain ⟨_, _, _, _, _, _, _, _, _, _, _, _, _, _, _, _, rfl, _⟩ := s; rfl) | (obtain ⟨_, _, _, _, _, _, _, _, _, _, _, _, _, _, _, _, _, rfl, _⟩ := s; rfl) | (unfold sp_are_from SM.sp_are_from at s; split at s; all_goals first | rfl | exact s.elim) | exact False.elim s | (rcases ds with _ | ⟨_, _ | ⟨_, _ | ⟨_, _ | ⟨_, _ | ⟨_, _⟩⟩⟩⟩⟩ <;> first | rfl | exact False.elim s)
theorem bd_are_from (T : Txt P w K mg A) : Binds K A.e_are_from ["thing", "many", "low", "high"] [] := T.F_are_from.binds fun _ _ _ _ _ _ us hl => match us, hl with | [_, _, _, _], _ => rfl
theorem ok_are_from (T : Txt P w K mg A) : FnM P w K mg base 4 A.f_are_from A.e_are_from ["thing", "many", "low", "high"] sp_are_from :=
  fn_m T.F_are_from sc_are_from (len_are_from) fun cdv Ar outer s H E B ds h Q' E' hcd hr tk hsp => ⟨rd_are_from , by
    exact (ms_cons (ms_if (mt_w (mw_or (mt_not (mt_val (m_isiT T.n_isinstance (by decide) (by decide) (m_var 0) (pa_tys T.n_list rfl (pa_tys T.n_tuple rfl pa_tys_nil))))) (mw_or1 (mt_ne hr.units (m_len T.n_len (ma_cons (m_var 0) ma_nil)) (m_var 1))))) (ms_one (ms_ret m_bl)) ms_nil)
 (ms_one (ms_ret (m_all rfl T.n_all (ma_cons (m_lc (own := [("number", 4)]) rfl sc_are_from.nd (mi_row (m_var 0)) (show BlkOk N_are_from (defScope s_are_from) _ [("number", 4)] from ⟨rfl, by decide +kernel, by decide +kernel, by decide +kernel, by decide +kernel⟩) put1_ok (fun _ _ _ _ _ => pg_name (i := 4) sc_are_from.nd rfl (by first | exact Or.inl rfl | exact Or.inr rfl)) (fun _ _ _ _ _ => mts_nil) (fun _ _ _ _ _ => (m_call (ok_is_from T) (hr.mono (by decide)) T.g_is_from T.F_is_from.kp (bd_is_from T) tkF (ma_cons (m_var 4) (ma_cons (m_var 2) (ma_cons (m_var 3) ma_nil)))))) ma_nil))))), pure_are_from ds h Q' E' hsp⟩
theorem sc_sums_of : FnScope N_sums_of ["table", "block"] (defScope s_sums_of) := ⟨rfl, rfl, rfl, by decide +kernel, rfl, by decide +kernel, by decide +kernel⟩
theorem len_sums_of : ∀ ds h Q E, sp_sums_of ds h Q E → ds.length = (["table", "block"] : List Str).length := by
  intro ds h Q E s
  first | (obtain ⟨rfl, _⟩ := s; rfl) | (obtain ⟨_, rfl, _⟩ := s; rfl) | (obtain ⟨_, _, rfl, _⟩ := s; rfl) | (obtain ⟨_, _, _, rfl, _⟩ := s; rfl) | (obtain ⟨_, _, _, _, rfl, _⟩ := s; rfl) | (obtain ⟨_, _, _, _, _, rfl, _⟩ := s; rfl) | (obtain ⟨_, _, _, _, _, _, rfl, _⟩ := s; rfl) | (obtain ⟨_, _, _, _, _, _, _, rfl, _⟩ := s; rfl) | (obtain ⟨_, _, _, _, _, _, _, _, rfl, _⟩ := s; rfl) | (obtain ⟨_, _, _, _, _, _, _, _, _, rfl, _⟩ := s; rfl) | (obtain ⟨_, _, _, _, _, _, _, _, _, _, rfl, _⟩ := s; rfl) | (obtain ⟨_, _, _, _, _, _, _, _, _, _, _, rfl, _⟩ := s; rfl) | (obtain ⟨_, _, _, _, _, _, _, _, _, _, _, _, rfl, _⟩ := s; rfl) | (obtain ⟨_, _, _, _, _, _, _, _, _, _, _, _, _, rfl, _⟩ := s; rfl) | (obtain ⟨_, _, _, _, _, _, _, _, _, _, _, _, _, _, rfl, _⟩ := s; rfl) | (obtain ⟨_, _, _, _, _, _, _, _, _, _, _, _, _, _, _, rfl, _⟩ := s; rfl) | (obtain ⟨_, _, _, _, _, _, _, _, _, _, _, _, _, _, _, _, rfl, _⟩ := s; rfl) | (obtain ⟨_, _, _, _, _, _, _, _, _, _, _, _, _, _, _, _, _, rfl, _⟩ := s; rfl) | (unfold sp_sums_of SM.sp_sums_of at s; split at s; all_goals first | rfl | exact s.elim) | exact False.elim s | (rcases ds with _ | ⟨_, _ | ⟨_, _ | ⟨_, _⟩⟩⟩ <;> first | rfl | exact False.elim s)
theorem bd_sums_of (T : Txt P w K mg A) : Binds K A.e_sums_of ["table", "block"] [] := T.F_sums_of.binds fun _ _ _ _ _ _ us hl => match us, hl with | [_, _], _ => rfl
theorem ok_sums_of (T : Txt P w K mg A) : FnM P w K mg base 4 A.f_sums_of A.e_sums_of ["table", "block"] sp_sums_of :=
  fn_m T.F_sums_of sc_sums_of (len_sums_of) fun cdv Ar outer s H E B ds h Q' E' hcd hr tk hsp => ⟨rd_sums_of , by
    exact (ms_cons (ms_set 2 sc_sums_of.nd (m_lc (own := [("x", 7)]) rfl sc_sums_of.nd (mi_range1 T.n_range m_int) (show BlkOk N_sums_of (defScope s_sums_of) _ [("x", 7)] from ⟨rfl, by decide +kernel, by decide +kernel, by decide +kernel, by decide +kernel⟩) put1_ok (fun _ _ _ _ _ => pg_name (i := 7) sc_sums_of.nd rfl (by first | exact Or.inl rfl | exact Or.inr rfl)) (fun _ _ _ _ _ => mts_nil) (fun _ _ _ _ _ => (m_lc (own := [("u", 8)]) rfl sc_sums_of.nd (mi_range1 T.n_range m_int) (blkN rfl (show BlkOk N_sums_of _ _ [("u", 8)] from ⟨rfl, by decide +kernel, by decide +kernel, by decide +kernel, by decide +kernel⟩)) put1_ok (fun _ _ _ _ _ => pg_name (i := 8) sc_sums_of.nd rfl (by first | exact Or.inl rfl | exact Or.inr rfl)) (fun _ _ _ _ _ => mts_nil) (fun _ _ _ _ _ => (m_call (ok_weight_of T) (hr.mono (by decide)) T.g_weight_of T.F_weight_of.kp (bd_weight_of T) tkF (ma_cons (m_var 7) (ma_cons (m_var 8) ma_nil))))))))
 (ms_cons (ms_set 3 sc_sums_of.nd (m_lstM ma_nil))
 (ms_cons (ms_for (passes_of rfl) rfl (mi_row (m_call (ok_steps_of T) (hr.mono (by decide)) T.g_steps_of T.F_steps_of.kp (bd_steps_of T) tkF (ma_cons (m_var 0) (ma_cons (m_var 1) ma_nil)))) (mg_name 4 sc_sums_of.nd)
 (ms_one (ms_expr (m_mt PySem.F.slot_list_append PySem.F.type_list_append mt_append fAppend_d (m_var 3) (ma_cons (m_lc (own := [("x", 7)]) rfl sc_sums_of.nd (mi_range1 T.n_range m_int) (show BlkOk N_sums_of (defScope s_sums_of) _ [("x", 7)] from ⟨rfl, by decide +kernel, by decide +kernel, by decide +kernel, by decide +kernel⟩) put1_ok (fun _ _ _ _ _ => pg_name (i := 7) sc_sums_of.nd rfl (by first | exact Or.inl rfl | exact Or.inr rfl)) (fun _ _ _ _ _ => mts_nil) (fun _ _ _ _ _ => (m_sum rfl T.n_sum (ma_cons (m_lc (own := [("one", 9), ("step", 10)]) rfl sc_sums_of.nd (mi_zip T.n_zip (ma_cons (m_ix (m_var 2) (m_var 7)) (ma_cons (m_var 4) ma_nil))) (blkN rfl (show BlkOk N_sums_of _ _ [("one", 9), ("step", 10)] from ⟨rfl, by decide +kernel, by decide +kernel, by decide +kernel, by decide +kernel⟩)) (putT_ok rfl) (fun _ _ _ _ _ => pg_tup rfl (pgs_cons (pg_name (i := 9) sc_sums_of.nd rfl (by first | exact Or.inl rfl | exact Or.inr rfl)) (pgs_cons (pg_name (i := 10) sc_sums_of.nd rfl (by first | exact Or.inl rfl | exact Or.inr rfl)) pgs_nil))) (fun _ _ _ _ _ => mts_nil) (fun _ _ _ _ _ => (m_mul (m_var 9) (m_var 10)))) ma_nil)))) ma_nil)))))
 (ms_fz 3 (ms_cons (ms_set 5 sc_sums_of.nd (m_lstM ma_nil))
 (ms_cons (ms_for (passes_of rfl) rfl (mi_range1 T.n_range m_int) (mg_name 6 sc_sums_of.nd)
 (ms_one (ms_expr (m_mt PySem.F.slot_list_append PySem.F.type_list_append mt_append fAppend_d (m_var 5) (ma_cons (m_tuple T.n_tuple (ma_cons (m_lc (own := [("x", 7)]) rfl sc_sums_of.nd (mi_range1 T.n_range m_int) (show BlkOk N_sums_of (defScope s_sums_of) _ [("x", 7)] from ⟨rfl, by decide +kernel, by decide +kernel, by decide +kernel, by decide +kernel⟩) put1_ok (fun _ _ _ _ _ => pg_name (i := 7) sc_sums_of.nd rfl (by first | exact Or.inl rfl | exact Or.inr rfl)) (fun _ _ _ _ _ => mts_nil) (fun _ _ _ _ _ => (m_sum rfl T.n_sum (ma_cons (m_lc (own := [("v", 11)]) rfl sc_sums_of.nd (mi_range1 T.n_range m_int) (blkN rfl (show BlkOk N_sums_of _ _ [("v", 11)] from ⟨rfl, by decide +kernel, by decide +kernel, by decide +kernel, by decide +kernel⟩)) put1_ok (fun _ _ _ _ _ => pg_name (i := 11) sc_sums_of.nd rfl (by first | exact Or.inl rfl | exact Or.inr rfl)) (fun _ _ _ _ _ => mts_nil) (fun _ _ _ _ _ => (m_mul (m_ix (m_ix (m_var 2) (m_var 6)) (m_var 11)) (m_ix (m_ix (m_var 3) (m_var 11)) (m_var 7))))) ma_nil)))) ma_nil)) ma_nil)))))
 (ms_fz 5 (ms_one (ms_ret (m_tuple T.n_tuple (ma_cons (m_var 5) ma_nil))))))))))), pure_sums_of ds h Q' E' hsp⟩
theorem sc_waves_of : FnScope N_waves_of ["rows"] (defScope s_waves_of) := ⟨rfl, rfl, rfl, by decide +kernel, rfl, by decide +kernel, by decide +kernel⟩
theorem len_waves_of : ∀ ds h Q E, sp_waves_of ds h Q E → ds.length = (["rows"] : List Str).length := by
  intro ds h Q E s
  first | (obtain ⟨rfl, _⟩ := s; rfl) | (obtain ⟨_, rfl, _⟩ := s; rfl) | (obtain ⟨_, _, rfl, _⟩ := s; rfl) | (obtain ⟨_, _, _, rfl, _⟩ := s; rfl) | (obtain ⟨_, _, _, _, rfl, _⟩ := s; rfl) | (obtain ⟨_, _, _, _, _, rfl, _⟩ := s; rfl) | (obtain ⟨_, _, _, _, _, _, rfl, _⟩ := s; rfl) | (obtain ⟨_, _, _, _, _, _, _, rfl, _⟩ := s; rfl) | (obtain ⟨_, _, _, _, _, _, _, _, rfl, _⟩ := s; rfl) | (obtain ⟨_, _, _, _, _, _, _, _, _, rfl, _⟩ := s; rfl) | (obtain ⟨_, _, _, _, _, _, _, _, _, _, rfl, _⟩ := s; rfl) | (obtain ⟨_, _, _, _, _, _, _, _, _, _, _, rfl, _⟩ := s; rfl) | (obtain ⟨_, _, _, _, _, _, _, _, _, _, _, _, rfl, _⟩ := s; rfl) | (obtain ⟨_, _, _, _, _, _, _, _, _, _, _, _, _, rfl, _⟩ := s; rfl) | (obtain ⟨_, _, _, _, _, _, _, _, _, _, _, _, _, _, rfl, _⟩ := s; rfl) | (obtain ⟨_, _, _, _, _, _, _, _, _, _, _, _, _, _, _, rfl, _⟩ := s; rfl) | (obtain ⟨_, _, _, _, _, _, _, _, _, _, _, _, _, _, _, _, rfl, _⟩ := s; rfl) | (obtain ⟨_, _, _, _, _, _, _, _, _, _, _, _, _, _, _, _, _, rfl, _⟩ := s; rfl) | (unfold sp_waves_of AG.sp_waves_of at s; split at s; all_goals first | rfl | exact s.elim) | exact False.elim s | (rcases ds with _ | ⟨_, _ | ⟨_, _⟩⟩ <;> first | rfl | exact False.elim s)
theorem bd_waves_of (T : Txt P w K mg A) : Binds K A.e_waves_of ["rows"] [] := T.F_waves_of.binds fun _ _ _ _ _ _ us hl => match us, hl with | [_], _ => rfl
theorem ok_waves_of (T : Txt P w K mg A) : FnM P w K mg base 4 A.f_waves_of A.e_waves_of ["rows"] sp_waves_of :=
  fn_m T.F_waves_of sc_waves_of (len_waves_of) fun cdv Ar outer s H E B ds h Q' E' hcd hr tk hsp => ⟨rd_waves_of , by
    exact (ms_cons (ms_set 1 sc_waves_of.nd (m_lc (own := [("u", 3)]) rfl sc_waves_of.nd (mi_range1 T.n_range m_int) (show BlkOk N_waves_of (defScope s_waves_of) _ [("u", 3)] from ⟨rfl, by decide +kernel, by decide +kernel, by decide +kernel, by decide +kernel⟩) put1_ok (fun _ _ _ _ _ => pg_name (i := 3) sc_waves_of.nd rfl (by first | exact Or.inl rfl | exact Or.inr rfl)) (fun _ _ _ _ _ => mts_nil) (fun _ _ _ _ _ => (m_lc (own := [("x", 5)]) rfl sc_waves_of.nd (mi_range1 T.n_range m_int) (blkN rfl (show BlkOk N_waves_of _ _ [("x", 5)] from ⟨rfl, by decide +kernel, by decide +kernel, by decide +kernel, by decide +kernel⟩)) put1_ok (fun _ _ _ _ _ => pg_name (i := 5) sc_waves_of.nd rfl (by first | exact Or.inl rfl | exact Or.inr rfl)) (fun _ _ _ _ _ => mts_nil) (fun _ _ _ _ _ => (m_call (ok_weight_of T) (hr.mono (by decide)) T.g_weight_of T.F_weight_of.kp (bd_weight_of T) tkF (ma_cons (m_var 5) (ma_cons (m_var 3) ma_nil))))))))
 (ms_cons (ms_set 2 sc_waves_of.nd (m_lc (own := [("row", 4)]) rfl sc_waves_of.nd (mi_row (m_var 0)) (show BlkOk N_waves_of (defScope s_waves_of) _ [("row", 4)] from ⟨rfl, by decide +kernel, by decide +kernel, by decide +kernel, by decide +kernel⟩) put1_ok (fun _ _ _ _ _ => pg_name (i := 4) sc_waves_of.nd rfl (by first | exact Or.inl rfl | exact Or.inr rfl)) (fun _ _ _ _ _ => mts_nil) (fun _ _ _ _ _ => (m_lc (own := [("u", 3)]) rfl sc_waves_of.nd (mi_range1 T.n_range m_int) (blkN rfl (show BlkOk N_waves_of _ _ [("u", 3)] from ⟨rfl, by decide +kernel, by decide +kernel, by decide +kernel, by decide +kernel⟩)) put1_ok (fun _ _ _ _ _ => pg_name (i := 3) sc_waves_of.nd rfl (by first | exact Or.inl rfl | exact Or.inr rfl)) (fun _ _ _ _ _ => mts_nil) (fun _ _ _ _ _ => (m_sum rfl T.n_sum (ma_cons (m_lc (own := [("x", 5)]) rfl sc_waves_of.nd (mi_range1 T.n_range m_int) (blkN rfl (show BlkOk N_waves_of _ _ [("x", 5)] from ⟨rfl, by decide +kernel, by decide +kernel, by decide +kernel, by decide +kernel⟩)) put1_ok (fun _ _ _ _ _ => pg_name (i := 5) sc_waves_of.nd rfl (by first | exact Or.inl rfl | exact Or.inr rfl)) (fun _ _ _ _ _ => mts_nil) (fun _ _ _ _ _ => (m_mul (m_ix (m_ix (m_var 1) (m_var 3)) (m_var 5)) (m_sub (m_ix (m_var 4) (m_var 5)) m_int)))) ma_nil)))))))
 (ms_one (ms_ret (m_tuple T.n_tuple (ma_cons (m_lc (own := [("v", 6), ("u", 3)]) rfl sc_waves_of.nd (mi_row (m_call0 (ok_zigzag_places T) (hr.mono (by decide)) T.g_zigzag_places T.F_zigzag_places.kp (bd_zigzag_places T) tkF)) (show BlkOk N_waves_of (defScope s_waves_of) _ [("v", 6), ("u", 3)] from ⟨rfl, by decide +kernel, by decide +kernel, by decide +kernel, by decide +kernel⟩) (putT_ok rfl) (fun _ _ _ _ _ => pg_tup rfl (pgs_cons (pg_name (i := 6) sc_waves_of.nd rfl (by first | exact Or.inl rfl | exact Or.inr rfl)) (pgs_cons (pg_name (i := 3) sc_waves_of.nd rfl (by first | exact Or.inl rfl | exact Or.inr rfl)) pgs_nil))) (fun _ _ _ _ _ => mts_nil) (fun _ _ _ _ _ => (m_sum rfl T.n_sum (ma_cons (m_lc (own := [("y", 7)]) rfl sc_waves_of.nd (mi_range1 T.n_range m_int) (blkN rfl (show BlkOk N_waves_of _ _ [("y", 7)] from ⟨rfl, by decide +kernel, by decide +kernel, by decide +kernel, by decide +kernel⟩)) put1_ok (fun _ _ _ _ _ => pg_name (i := 7) sc_waves_of.nd rfl (by first | exact Or.inl rfl | exact Or.inr rfl)) (fun _ _ _ _ _ => mts_nil) (fun _ _ _ _ _ => (m_mul (m_ix (m_ix (m_var 1) (m_var 6)) (m_var 7)) (m_ix (m_ix (m_var 2) (m_var 7)) (m_var 3))))) ma_nil)))) ma_nil)))))), pure_waves_of ds h Q' E' hsp⟩
theorem sc_law_entries : FnScope N_law_entries ["_law_purse_here"] (defScope s_law_entries) := ⟨rfl, rfl, rfl, by decide +kernel, rfl, by decide +kernel, by decide +kernel⟩
theorem len_law_entries : ∀ ds h Q E, sp_law_entries ds h Q E → ds.length = (["_law_purse_here"] : List Str).length := by
  intro ds h Q E s
  first | (obtain ⟨rfl, _⟩ := s; rfl) | (obtain ⟨_, rfl, _⟩ := s; rfl) | (obtain ⟨_, _, rfl, _⟩ := s; rfl) | (obtain ⟨_, _, _, rfl, _⟩ := s; rfl) | (obtain ⟨_, _, _, _, rfl, _⟩ := s; rfl) | (obtain ⟨_, _, _, _, _, rfl, _⟩ := s; rfl) | (obtain ⟨_, _, _, _, _, _, rfl, _⟩ := s; rfl) | (obtain ⟨_, _, _, _, _, _, _, rfl, _⟩ := s; rfl) | (obtain ⟨_, _, _, _, _, _, _, _, rfl, _⟩ := s; rfl) | (obtain ⟨_, _, _, _, _, _, _, _, _, rfl, _⟩ := s; rfl) | (obtain ⟨_, _, _, _, _, _, _, _, _, _, rfl, _⟩ := s; rfl) | (obtain ⟨_, _, _, _, _, _, _, _, _, _, _, rfl, _⟩ := s; rfl) | (obtain ⟨_, _, _, _, _, _, _, _, _, _, _, _, rfl, _⟩ := s; rfl) | (obtain ⟨_, _, _, _, _, _, _, _, _, _, _, _, _, rfl, _⟩ := s; rfl) | (obtain ⟨_, _, _, _, _, _, _, _, _, _, _, _, _, _, rfl, _⟩ := s; rfl) | (obtain ⟨_, _, _, _, _, _, _, _, _, _, _, _, _, _, _, rfl, _⟩ := s; rfl) | (obtain ⟨_, _, _, _, _, _, _, _, _, _, _, _, _, _, _, _, rfl, _⟩ := s; rfl) | (obtain ⟨_, _, _, _, _, _, _, _, _, _, _, _, _, _, _, _, _, rfl, _⟩ := s; rfl) | (unfold sp_law_entries at s; split at s; all_goals first | rfl | exact s.elim) | exact False.elim s | (rcases ds with _ | ⟨_, _ | ⟨_, _⟩⟩ <;> first | rfl | exact False.elim s)
theorem bd_law_entries (T : Txt P w K mg A) : Binds K A.e_law_entries ["_law_purse_here"] [] := T.F_law_entries.binds fun _ _ _ _ _ _ us hl => match us, hl with | [_], _ => rfl
theorem ok_law_entries (T : Txt P w K mg A) : FnM P w K mg base 4 A.f_law_entries A.e_law_entries ["_law_purse_here"] sp_law_entries :=
  fn_m T.F_law_entries sc_law_entries (len_law_entries) fun cdv Ar outer s H E B ds h Q' E' hcd hr tk hsp => ⟨rd_law_entries , by
    exact (ms_cons (ms_set 1 sc_law_entries.nd (m_call (ok_law_coin T) (hr.mono (by decide)) T.g_law_coin T.F_law_coin.kp (bd_law_coin T) tkF (ma_cons (m_var 0) (ma_cons m_int ma_nil))))
 (ms_cons (ms_if (mt_eq hr.units (m_var 1) m_int) (ms_one (ms_ret (m_mul (m_tup (ma_cons (m_add m_int (m_call (ok_law_coin T) (hr.mono (by decide)) T.g_law_coin T.F_law_coin.kp (bd_law_coin T) tkF (ma_cons (m_var 0) (ma_cons m_int ma_nil)))) ma_nil)) m_int))) ms_nil)
 (ms_cons (ms_set 2 sc_law_entries.nd (m_call (ok_law_pick T) (hr.mono (by decide)) T.g_law_pick T.F_law_pick.kp (bd_law_pick T) tkF (ma_cons (m_var 0) (ma_cons (m_lst (ma_cons m_int (ma_cons m_int (ma_cons m_int (ma_cons m_int ma_nil))))) ma_nil))))
 (ms_one (ms_ret (m_tuple T.n_tuple (ma_cons (m_lc (own := [("_law_k", 3)]) rfl sc_law_entries.nd (mi_range1 T.n_range m_int) (show BlkOk N_law_entries (defScope s_law_entries) _ [("_law_k", 3)] from ⟨rfl, by decide +kernel, by decide +kernel, by decide +kernel, by decide +kernel⟩) put1_ok (fun _ _ _ _ _ => pg_name (i := 3) sc_law_entries.nd rfl (by first | exact Or.inl rfl | exact Or.inr rfl)) (fun _ _ _ _ _ => mts_nil) (fun _ _ _ _ _ => (m_add m_int (m_call (ok_law_coin T) (hr.mono (by decide)) T.g_law_coin T.F_law_coin.kp (bd_law_coin T) tkF (ma_cons (m_var 0) (ma_cons (m_var 2) ma_nil)))))) ma_nil))))))), pure_law_entries ds h Q' E' hsp⟩
theorem sc_law_block : FnScope N_law_block ["_law_purse_here", "_law_sheet"] (defScope s_law_block) := ⟨rfl, rfl, rfl, by decide +kernel, rfl, by decide +kernel, by decide +kernel⟩
theorem len_law_block : ∀ ds h Q E, sp_law_block ds h Q E → ds.length = (["_law_purse_here", "_law_sheet"] : List Str).length := by
  intro ds h Q E s
  first | (obtain ⟨rfl, _⟩ := s; rfl) | (obtain ⟨_, rfl, _⟩ := s; rfl) | (obtain ⟨_, _, rfl, _⟩ := s; rfl) | (obtain ⟨_, _, _, rfl, _⟩ := s; rfl) | (obtain ⟨_, _, _, _, rfl, _⟩ := s; rfl) | (obtain ⟨_, _, _, _, _, rfl, _⟩ := s; rfl) | (obtain ⟨_, _, _, _, _, _, rfl, _⟩ := s; rfl) | (obtain ⟨_, _, _, _, _, _, _, rfl, _⟩ := s; rfl) | (obtain ⟨_, _, _, _, _, _, _, _, rfl, _⟩ := s; rfl) | (obtain ⟨_, _, _, _, _, _, _, _, _, rfl, _⟩ := s; rfl) | (obtain ⟨_, _, _, _, _, _, _, _, _, _, rfl, _⟩ := s; rfl) | (obtain ⟨_, _, _, _, _, _, _, _, _, _, _, rfl, _⟩ := s; rfl) | (obtain ⟨_, _, _, _, _, _, _, _, _, _, _, _, rfl, _⟩ := s; rfl) | (obtain ⟨_, _, _, _, _, _, _, _, _, _, _, _, _, rfl, _⟩ := s; rfl) | (obtain ⟨_, _, _, _, _, _, _, _, _, _, _, _, _, _, rfl, _⟩ := s; rfl) | (obtain ⟨_, _, _, _, _, _, _, _, _, _, _, _, _, _, _, rfl, _⟩ := s; rfl) | (obtain ⟨_, _, _, _, _, _, _, _, _, _, _, _, _, _, _, _, rfl, _⟩ := s; rfl) | (obtain ⟨_, _, _, _, _, _, _, _, _, _, _, _, _, _, _, _, _, rfl, _⟩ := s; rfl) | (unfold sp_law_block at s; split at s; all_goals first | rfl | exact s.elim) | exact False.elim s | (rcases ds with _ | ⟨_, _ | ⟨_, _ | ⟨_, _⟩⟩⟩ <;> first | rfl | exact False.elim s)
theorem bd_law_block (T : Txt P w K mg A) : Binds K A.e_law_block ["_law_purse_here", "_law_sheet"] [] := T.F_law_block.binds fun _ _ _ _ _ _ us hl => match us, hl with | [_, _], _ => rfl
theorem ok_law_block (T : Txt P w K mg A) : FnM P w K mg base 4 A.f_law_block A.e_law_block ["_law_purse_here", "_law_sheet"] sp_law_block :=
  fn_m T.F_law_block sc_law_block (len_law_block) fun cdv Ar outer s H E B ds h Q' E' hcd hr tk hsp => ⟨rd_law_block , by
    exact (ms_cons (ms_par 3 4 rfl sc_law_block.nd (ma_cons (m_mulM (m_lst (ma_cons m_int ma_nil)) m_int) (ma_cons m_int ma_nil)))
 (ms_cons (ms_for (passes_of rfl) rfl (mi_range1 T.n_range (m_call (ok_law_coin T) (hr.mono (by decide)) T.g_law_coin T.F_law_coin.kp (bd_law_coin T) tkF (ma_cons (m_var 0) (ma_cons (m_call (ok_law_pick T) (hr.mono (by decide)) T.g_law_pick T.F_law_pick.kp (bd_law_pick T) tkF (ma_cons (m_var 0) (ma_cons (m_lst (ma_cons m_int (ma_cons m_int (ma_cons m_int ma_nil)))) ma_nil))) ma_nil)))) (mg_name 2 sc_law_block.nd)
 (ms_cons (ms_set 5 sc_law_block.nd (m_call (ok_law_pick T) (hr.mono (by decide)) T.g_law_pick T.F_law_pick.kp (bd_law_pick T) tkF (ma_cons (m_var 0) (ma_cons (m_lst (ma_cons m_int (ma_cons (m_call (ok_law_coin T) (hr.mono (by decide)) T.g_law_coin T.F_law_coin.kp (bd_law_coin T) tkF (ma_cons (m_var 0) (ma_cons m_int ma_nil))) (ma_cons (m_call (ok_law_coin T) (hr.mono (by decide)) T.g_law_coin T.F_law_coin.kp (bd_law_coin T) tkF (ma_cons (m_var 0) (ma_cons m_int ma_nil))) ma_nil)))) ma_nil))))
 (ms_cons (ms_set 6 sc_law_block.nd (m_fdiv (m_min2 rfl T.n_min (ma_cons (m_var 4) (ma_cons m_int ma_nil))) (m_ix (m_var 1) (m_var 5))))
 (ms_one (ms_if (mt_gt (m_var 6) m_int) (ms_cons (ms_asg (m_mul (m_add m_int (m_call (ok_law_coin T) (hr.mono (by decide)) T.g_law_coin T.F_law_coin.kp (bd_law_coin T) tkF (ma_cons (m_var 0) (ma_cons (m_var 6) ma_nil)))) (m_call (ok_law_pick T) (hr.mono (by decide)) T.g_law_pick T.F_law_pick.kp (bd_law_pick T) tkF (ma_cons (m_var 0) (ma_cons (m_lst (ma_cons m_int (ma_cons (m_neg m_int) ma_nil))) ma_nil)))) (mg_sub (m_var 3) (m_var 5)))
 (ms_one (ms_set 4 sc_law_block.nd (m_sub (m_var 4) (m_mul (m_abs T.n_abs (ma_cons (m_ix (m_var 3) (m_var 5)) ma_nil)) (m_ix (m_var 1) (m_var 5))))))) ms_nil)))))
 (ms_fz 3 (ms_one (ms_ret (m_tuple T.n_tuple (ma_cons (m_var 3) ma_nil))))))), pure_law_block ds h Q' E' hsp⟩
theorem sc_law_nearest : FnScope N_law_nearest ["_law_sheet", "_law_lines"] (defScope s_law_nearest) := ⟨rfl, rfl, rfl, by decide +kernel, rfl, by decide +kernel, by decide +kernel⟩
theorem len_law_nearest : ∀ ds h Q E, sp_law_nearest ds h Q E → ds.length = (["_law_sheet", "_law_lines"] : List Str).length := by
  intro ds h Q E s
  first | (obtain ⟨rfl, _⟩ := s; rfl) | (obtain ⟨_, rfl, _⟩ := s; rfl) | (obtain ⟨_, _, rfl, _⟩ := s; rfl) | (obtain ⟨_, _, _, rfl, _⟩ := s; rfl) | (obtain ⟨_, _, _, _, rfl, _⟩ := s; rfl) | (obtain ⟨_, _, _, _, _, rfl, _⟩ := s; rfl) | (obtain ⟨_, _, _, _, _, _, rfl, _⟩ := s; rfl) | (obtain ⟨_, _, _, _, _, _, _, rfl, _⟩ := s; rfl) | (obtain ⟨_, _, _, _, _, _, _, _, rfl, _⟩ := s; rfl) | (obtain ⟨_, _, _, _, _, _, _, _, _, rfl, _⟩ := s; rfl) | (obtain ⟨_, _, _, _, _, _, _, _, _, _, rfl, _⟩ := s; rfl) | (obtain ⟨_, _, _, _, _, _, _, _, _, _, _, rfl, _⟩ := s; rfl) | (obtain ⟨_, _, _, _, _, _, _, _, _, _, _, _, rfl, _⟩ := s; rfl) | (obtain ⟨_, _, _, _, _, _, _, _, _, _, _, _, _, rfl, _⟩ := s; rfl) | (obtain ⟨_, _, _, _, _, _, _, _, _, _, _, _, _, _, rfl, _⟩ := s; rfl) | (obtain ⟨_, _, _, _, _, _, _, _, _, _, _, _, _, _, _, rfl, _⟩ := s; rfl) | (obtain ⟨_, _, _, _, _, _, _, _, _, _, _, _, _, _, _, _, rfl, _⟩ := s; rfl) | (obtain ⟨_, _, _, _, _, _, _, _, _, _, _, _, _, _, _, _, _, rfl, _⟩ := s; rfl) | (unfold sp_law_nearest at s; split at s; all_goals first | rfl | exact s.elim) | exact False.elim s | (rcases ds with _ | ⟨_, _ | ⟨_, _ | ⟨_, _⟩⟩⟩ <;> first | rfl | exact False.elim s)
theorem bd_law_nearest (T : Txt P w K mg A) : Binds K A.e_law_nearest ["_law_sheet", "_law_lines"] [] := T.F_law_nearest.binds fun _ _ _ _ _ _ us hl => match us, hl with | [_, _], _ => rfl
theorem ok_law_nearest (T : Txt P w K mg A) : FnM P w K mg base 4 A.f_law_nearest A.e_law_nearest ["_law_sheet", "_law_lines"] sp_law_nearest :=
  fn_m T.F_law_nearest sc_law_nearest (len_law_nearest) fun cdv Ar outer s H E B ds h Q' E' hcd hr tk hsp => ⟨rd_law_nearest , by
    exact (ms_cons (ms_set 2 sc_law_nearest.nd (m_lstM ma_nil))
 (ms_cons (ms_for (passes_of rfl) rfl (mi_zip T.n_zip (ma_cons (m_call (ok_law_waves T) (hr.mono (by decide)) T.g_law_waves T.F_law_waves.kp (bd_law_waves T) tkF (ma_cons (m_var 1) ma_nil)) (ma_cons (m_var 0) ma_nil))) (mg_tup rfl (mgs_cons (mg_name 3 sc_law_nearest.nd) (mgs_cons (mg_name 4 sc_law_nearest.nd) mgs_nil)))
 (ms_one (ms_expr (m_mt PySem.F.slot_list_append PySem.F.type_list_append mt_append fAppend_d (m_var 2) (ma_cons (m_fdiv (m_add (m_mul m_int (m_var 3)) (m_mul (m_var 4) (m_pow m_int m_int))) (m_mul (m_var 4) (m_pow m_int m_int))) ma_nil)))))
 (ms_fz 2 (ms_one (ms_ret (m_tuple T.n_tuple (ma_cons (m_var 2) ma_nil))))))), pure_law_nearest ds h Q' E' hsp⟩
theorem sc_samples_of : FnScope N_samples_of ["table", "block"] (defScope s_samples_of) := ⟨rfl, rfl, rfl, by decide +kernel, rfl, by decide +kernel, by decide +kernel⟩
theorem len_samples_of : ∀ ds h Q E, sp_samples_of ds h Q E → ds.length = (["table", "block"] : List Str).length := by
  intro ds h Q E s
  first | (obtain ⟨rfl, _⟩ := s; rfl) | (obtain ⟨_, rfl, _⟩ := s; rfl) | (obtain ⟨_, _, rfl, _⟩ := s; rfl) | (obtain ⟨_, _, _, rfl, _⟩ := s; rfl) | (obtain ⟨_, _, _, _, rfl, _⟩ := s; rfl) | (obtain ⟨_, _, _, _, _, rfl, _⟩ := s; rfl) | (obtain ⟨_, _, _, _, _, _, rfl, _⟩ := s; rfl) | (obtain ⟨_, _, _, _, _, _, _, rfl, _⟩ := s; rfl) | (obtain ⟨_, _, _, _, _, _, _, _, rfl, _⟩ := s; rfl) | (obtain ⟨_, _, _, _, _, _, _, _, _, rfl, _⟩ := s; rfl) | (obtain ⟨_, _, _, _, _, _, _, _, _, _, rfl, _⟩ := s; rfl) | (obtain ⟨_, _, _, _, _, _, _, _, _, _, _, rfl, _⟩ := s; rfl) | (obtain ⟨_, _, _, _, _, _, _, _, _, _, _, _, rfl, _⟩ := s; rfl) | (obtain ⟨_, _, _, _, _, _, _, _, _, _, _, _, _, rfl, _⟩ := s; rfl) | (obtain ⟨_, _, _, _, _, _, _, _, _, _, _, _, _, _, rfl, _⟩ := s; rfl) | (obtain ⟨_, _, _, _, _, _, _, _, _, _, _, _, _, _, _, rfl, _⟩ := s; rfl) | (obtain ⟨_, _, _, _, _, _, _, _, _, _, _, _, _, _, _, _, rfl, _⟩ := s; rfl) | (obtain ⟨_, _, _, _, _, _, _, _, _, _, _, _, _, _, _, _, _, rfl, _⟩ := s; rfl) | (unfold sp_samples_of SM.sp_samples_of at s; split at s; all_goals first | rfl | exact s.elim) | exact False.elim s | (rcases ds with _ | ⟨_, _ | ⟨_, _ | ⟨_, _⟩⟩⟩ <;> first | rfl | exact False.elim s)
theorem bd_samples_of (T : Txt P w K mg A) : Binds K A.e_samples_of ["table", "block"] [] := T.F_samples_of.binds fun _ _ _ _ _ _ us hl => match us, hl with | [_, _], _ => rfl
theorem ok_samples_of (T : Txt P w K mg A) : FnM P w K mg base 5 A.f_samples_of A.e_samples_of ["table", "block"] sp_samples_of :=
  fn_m T.F_samples_of sc_samples_of (len_samples_of) fun cdv Ar outer s H E B ds h Q' E' hcd hr tk hsp => ⟨rd_samples_of , by
    exact (ms_cons (ms_set 2 sc_samples_of.nd (m_lstM ma_nil))
 (ms_cons (ms_for (passes_of rfl) rfl (mi_row (m_call (ok_sums_of T) (hr.mono (by decide)) T.g_sums_of T.F_sums_of.kp (bd_sums_of T) tkF (ma_cons (m_var 0) (ma_cons (m_var 1) ma_nil)))) (mg_name 3 sc_samples_of.nd)
 (ms_one (ms_expr (m_mt PySem.F.slot_list_append PySem.F.type_list_append mt_append fAppend_d (m_var 2) (ma_cons (m_tuple T.n_tuple (ma_cons (m_lc (own := [("number", 4)]) rfl sc_samples_of.nd (mi_row (m_var 3)) (show BlkOk N_samples_of (defScope s_samples_of) _ [("number", 4)] from ⟨rfl, by decide +kernel, by decide +kernel, by decide +kernel, by decide +kernel⟩) put1_ok (fun _ _ _ _ _ => pg_name (i := 4) sc_samples_of.nd rfl (by first | exact Or.inl rfl | exact Or.inr rfl)) (fun _ _ _ _ _ => mts_nil) (fun _ _ _ _ _ => (m_call (ok_cut T) (hr.mono (by decide)) T.g_cut T.F_cut.kp (bd_cut T) tkF (ma_cons (m_add m_int (m_shr (m_add (m_var 4) m_int) m_int)) ma_nil)))) ma_nil)) ma_nil)))))
 (ms_fz 2 (ms_one (ms_ret (m_tuple T.n_tuple (ma_cons (m_var 2) ma_nil))))))), pure_samples_of ds h Q' E' hsp⟩
theorem sc_check_samples : FnScope N_check_samples ["rows", "least", "most"] (defScope s_check_samples) := ⟨rfl, rfl, rfl, by decide +kernel, rfl, by decide +kernel, by decide +kernel⟩
theorem len_check_samples : ∀ ds h Q E, sp_check_samples ds h Q E → ds.length = (["rows", "least", "most"] : List Str).length := by
  intro ds h Q E s
  first | (obtain ⟨rfl, _⟩ := s; rfl) | (obtain ⟨_, rfl, _⟩ := s; rfl) | (obtain ⟨_, _, rfl, _⟩ := s; rfl) | (obtain ⟨_, _, _, rfl, _⟩ := s; rfl) | (obtain ⟨_, _, _, _, rfl, _⟩ := s; rfl) | (obtain ⟨_, _, _, _, _, rfl, _⟩ := s; rfl) | (obtain ⟨_, _, _, _, _, _, rfl, _⟩ := s; rfl) | (obtain ⟨_, _, _, _, _, _, _, rfl, _⟩ := s; rfl) | (obtain ⟨_, _, _, _, _, _, _, _, rfl, _⟩ := s; rfl) | (obtain ⟨_, _, _, _, _, _, _, _, _, rfl, _⟩ := s; rfl) | (obtain ⟨_, _, _, _, _, _, _, _, _, _, rfl, _⟩ := s; rfl) | (obtain ⟨_, _, _, _, _, _, _, _, _, _, _, rfl, _⟩ := s; rfl) | (obtain ⟨_, _, _, _, _, _, _, _, _, _, _, _, rfl, _⟩ := s; rfl) | (obtain ⟨_, _, _, _, _, _, _, _, _, _, _, _, _, rfl, _⟩ := s; rfl) | (obtain ⟨_, _, _, _, _, _, _, _, _, _, _, _, _, _, rfl, _⟩ := s; rfl) | (obtain ⟨_, _, _, _, _, _, _, _, _, _, _, _, _, _, _, rfl, _⟩ := s; rfl) | (obtain ⟨_, _, _, _, _, _, _, _, _, _, _, _, _, _, _, _, rfl, _⟩ := s; rfl) | (obtain ⟨_, _, _, _, _, _, _, _, _, _, _, _, _, _, _, _, _, rfl, _⟩ := s; rfl) | (unfold sp_check_samples AG.sp_check_samples at s; split at s; all_goals first | rfl | exact s.elim) | exact False.elim s | (rcases ds with _ | ⟨_, _ | ⟨_, _ | ⟨_, _ | ⟨_, _⟩⟩⟩⟩ <;> first | rfl | exact False.elim s)
theorem bd_check_samples (T : Txt P w K mg A) : Binds K A.e_check_samples ["rows", "least", "most"] [] := T.F_check_samples.binds fun _ _ _ _ _ _ us hl => match us, hl with | [_, _, _], _ => rfl
theorem ok_check_samples (T : Txt P w K mg A) : FnM P w K mg base 5 A.f_check_samples A.e_check_samples ["rows", "least", "most"] sp_check_samples :=
  fn_m T.F_check_samples sc_check_samples (len_check_samples) fun cdv Ar outer s H E B ds h Q' E' hcd hr tk hsp => ⟨rd_check_samples (fun _ => E'), by
    exact (ms_cons (ms_if (mt_w (mw_or (mt_not (mt_val (m_isiT T.n_isinstance (by decide) (by decide) (m_var 0) (pa_tys T.n_list rfl (pa_tys T.n_tuple rfl pa_tys_nil))))) (mw_or1 (mt_ne hr.units (m_len T.n_len (ma_cons (m_var 0) ma_nil)) m_int)))) (ms_one (ms_raise rfl T.x_NoSamples (hr.mono (by decide) : Rm 1 _).r tk (ma_cons m_str ma_nil))) ms_nil)
 (ms_one (ms_if (mt_not (mt_val (m_all rfl T.n_all (ma_cons (m_lc (own := [("row", 3)]) rfl sc_check_samples.nd (mi_row (m_var 0)) (show BlkOk N_check_samples (defScope s_check_samples) _ [("row", 3)] from ⟨rfl, by decide +kernel, by decide +kernel, by decide +kernel, by decide +kernel⟩) put1_ok (fun _ _ _ _ _ => pg_name (i := 3) sc_check_samples.nd rfl (by first | exact Or.inl rfl | exact Or.inr rfl)) (fun _ _ _ _ _ => mts_nil) (fun _ _ _ _ _ => (m_call (ok_are_from T) (hr.mono (by decide)) T.g_are_from T.F_are_from.kp (bd_are_from T) tkF (ma_cons (m_var 3) (ma_cons m_int (ma_cons (m_var 1) (ma_cons (m_var 2) ma_nil))))))) ma_nil)))) (ms_one (ms_raise rfl T.x_NoSamples (hr.mono (by decide) : Rm 1 _).r tk (ma_cons m_str ma_nil))) ms_nil))), pure_check_samples ds h Q' E' hsp⟩
theorem sc_waves : FnScope N_waves ["rows"] (defScope s_waves) := ⟨rfl, rfl, rfl, by decide +kernel, rfl, by decide +kernel, by decide +kernel⟩
theorem len_waves : ∀ ds h Q E, sp_waves ds h Q E → ds.length = (["rows"] : List Str).length := by
  intro ds h Q E s
  first | (obtain ⟨rfl, _⟩ := s; rfl) | (obtain ⟨_, rfl, _⟩ := s; rfl) | (obtain ⟨_, _, rfl, _⟩ := s; rfl) | (obtain ⟨_, _, _, rfl, _⟩ := s; rfl) | (obtain ⟨_, _, _, _, rfl, _⟩ := s; rfl) | (obtain ⟨_, _, _, _, _, rfl, _⟩ := s; rfl) | (obtain ⟨_, _, _, _, _, _, rfl, _⟩ := s; rfl) | (obtain ⟨_, _, _, _, _, _, _, rfl, _⟩ := s; rfl) | (obtain ⟨_, _, _, _, _, _, _, _, rfl, _⟩ := s; rfl) | (obtain ⟨_, _, _, _, _, _, _, _, _, rfl, _⟩ := s; rfl) | (obtain ⟨_, _, _, _, _, _, _, _, _, _, rfl, _⟩ := s; rfl) | (obtain ⟨_, _, _, _, _, _, _, _, _, _, _, rfl, _⟩ := s; rfl) | (obtain ⟨_, _, _, _, _, _, _, _, _, _, _, _, rfl, _⟩ := s; rfl) | (obtain ⟨_, _, _, _, _, _, _, _, _, _, _, _, _, rfl, _⟩ := s; rfl) | (obtain ⟨_, _, _, _, _, _, _, _, _, _, _, _, _, _, rfl, _⟩ := s; rfl) | (obtain ⟨_, _, _, _, _, _, _, _, _, _, _, _, _, _, _, rfl, _⟩ := s; rfl) | (obtain ⟨_, _, _, _, _, _, _, _, _, _, _, _, _, _, _, _, rfl, _⟩ := s; rfl) | (obtain ⟨_, _, _, _, _, _, _, _, _, _, _, _, _, _, _, _, _, rfl, _⟩ := s; rfl) | (unfold sp_waves AG.sp_waves at s; split at s; all_goals first | rfl | exact s.elim) | exact False.elim s | (rcases ds with _ | ⟨_, _ | ⟨_, _⟩⟩ <;> first | rfl | exact False.elim s)
theorem bd_waves (T : Txt P w K mg A) : Binds K A.e_waves ["rows"] [] := T.F_waves.binds fun _ _ _ _ _ _ us hl => match us, hl with | [_], _ => rfl
theorem kw_waves_rows (T : Txt P w K mg A) : KwB K A.e_waves ["rows"] ["rows"] g_kw_waves_rows := by
  obtain ⟨oc, od, kV, doc, pm, an, cdv, ct, osl, e, lk, hcd⟩ := T.F_waves.ex
  rw [e]
  refine ⟨fun s ws _ hl => ?_, fun r => ?_, fun r => ?_⟩
  · match ws, hl with
    | [_], _ => exact .of_eq rfl
  · exact match r with
    | .nil => .nil
    | (.cons v0 .nil) => (.cons v0 .nil)
    | (.cons v0 (.cons w r)) => (.cons v0 (.cons w r))
  · exact match r with
    | .nil => .nil
    | (.cons v0 .nil) => (.cons v0 .nil)
    | (.cons v0 (.cons w r)) => (.cons v0 (.cons w r))
theorem ok_waves (T : Txt P w K mg A) : FnM P w K mg base 6 A.f_waves A.e_waves ["rows"] sp_waves :=
  fn_m T.F_waves sc_waves (len_waves) fun cdv Ar outer s H E B ds h Q' E' hcd hr tk hsp => ⟨rd_waves (fun _ => E'), by
    exact (ms_cons (ms_expr (m_call (ok_check_samples T) (hr.mono (by decide)) T.g_check_samples T.F_check_samples.kp (bd_check_samples T) tk (ma_cons (m_var 0) (ma_cons m_int (ma_cons m_int ma_nil)))))
 (ms_one (ms_ret (m_call (ok_waves_of T) (hr.mono (by decide)) T.g_waves_of T.F_waves_of.kp (bd_waves_of T) tkF (ma_cons (m_var 0) ma_nil))))), pure_waves ds h Q' E' hsp⟩
theorem sc_block_if : FnScope N_block_if ["table", "rows", "heights"] (defScope s_block_if) := ⟨rfl, rfl, rfl, by decide +kernel, rfl, by decide +kernel, by decide +kernel⟩
theorem len_block_if : ∀ ds h Q E, sp_block_if ds h Q E → ds.length = (["table", "rows", "heights"] : List Str).length := by
  intro ds h Q E s
  first | (obtain ⟨rfl, _⟩ := s; rfl) | (obtain ⟨_, rfl, _⟩ := s; rfl) | (obtain ⟨_, _, rfl, _⟩ := s; rfl) | (obtain ⟨_, _, _, rfl, _⟩ := s; rfl) | (obtain ⟨_, _, _, _, rfl, _⟩ := s; rfl) | (obtain ⟨_, _, _, _, _, rfl, _⟩ := s; rfl) | (obtain ⟨_, _, _, _, _, _, rfl, _⟩ := s; rfl) | (obtain ⟨_, _, _, _, _, _, _, rfl, _⟩ := s; rfl) | (obtain ⟨_, _, _, _, _, _, _, _, rfl, _⟩ := s; rfl) | (obtain ⟨_, _, _, _, _, _, _, _, _, rfl, _⟩ := s; rfl) | (obtain ⟨_, _, _, _, _, _, _, _, _, _, rfl, _⟩ := s; rfl) | (obtain ⟨_, _, _, _, _, _, _, _, _, _, _, rfl, _⟩ := s; rfl) | (obtain ⟨_, _, _, _, _, _, _, _, _, _, _, _, rfl, _⟩ := s; rfl) | (obtain ⟨_, _, _, _, _, _, _, _, _, _, _, _, _, rfl, _⟩ := s; rfl) | (obtain ⟨_, _, _, _, _, _, _, _, _, _, _, _, _, _, rfl, _⟩ := s; rfl) | (obtain ⟨_, _, _, _, _, _, _, _, _, _, _, _, _, _, _, rfl, _⟩ := s; rfl) | (obtain ⟨_, _, _, _, _, _, _, _, _, _, _, _, _, _, _, _, rfl, _⟩ := s; rfl) | (obtain ⟨_, _, _, _, _, _, _, _, _, _, _, _, _, _, _, _, _, rfl, _⟩ := s; rfl) | (unfold sp_block_if AG.sp_block_if at s; split at s; all_goals first | rfl | exact s.elim) | exact False.elim s | (rcases ds with _ | ⟨_, _ | ⟨_, _ | ⟨_, _ | ⟨_, _⟩⟩⟩⟩ <;> first | rfl | exact False.elim s)
theorem bd_block_if (T : Txt P w K mg A) : Binds K A.e_block_if ["table", "rows", "heights"] [] := T.F_block_if.binds fun _ _ _ _ _ _ us hl => match us, hl with | [_, _, _], _ => rfl
theorem ok_block_if (T : Txt P w K mg A) : FnM P w K mg base 6 A.f_block_if A.e_block_if ["table", "rows", "heights"] sp_block_if :=
  fn_m T.F_block_if sc_block_if (len_block_if) fun cdv Ar outer s H E B ds h Q' E' hcd hr tk hsp => ⟨rd_block_if , by
    exact (ms_cons (ms_set 3 sc_block_if.nd (m_tuple T.n_tuple (ma_cons (m_lc (own := [("wave", 4), ("entry", 5)]) rfl sc_block_if.nd (mi_zipR T.n_zip (ma_cons (m_var 2) (ma_cons (m_var 0) ma_nil))) (show BlkOk N_block_if (defScope s_block_if) _ [("wave", 4), ("entry", 5)] from ⟨rfl, by decide +kernel, by decide +kernel, by decide +kernel, by decide +kernel⟩) (putT_ok rfl) (fun _ _ _ _ _ => pg_tup rfl (pgs_cons (pg_name (i := 4) sc_block_if.nd rfl (by first | exact Or.inl rfl | exact Or.inr rfl)) (pgs_cons (pg_name (i := 5) sc_block_if.nd rfl (by first | exact Or.inl rfl | exact Or.inr rfl)) pgs_nil))) (fun _ _ _ _ _ => mts_nil) (fun _ _ _ _ _ => (m_fdiv (m_add (m_mul m_int (m_var 4)) (m_shl (m_var 5) (m_glob (v := V.int 26) rfl T.c_BITS ⟨_, rfl⟩ (fun _ => .int _)))) (m_shl (m_var 5) (m_add (m_glob (v := V.int 26) rfl T.c_BITS ⟨_, rfl⟩ (fun _ => .int _)) m_int))))) ma_nil)))
 (ms_cons (ms_for (passes_of rfl) rfl (mi_zipR3 T.n_zip (ma_cons (m_var 2) (ma_cons (m_var 0) (ma_cons (m_var 3) ma_nil)))) (mg_tup rfl (mgs_cons (mg_name 4 sc_block_if.nd) (mgs_cons (mg_name 5 sc_block_if.nd) (mgs_cons (mg_name 6 sc_block_if.nd) mgs_nil))))
 (ms_one (ms_if (mt_gt (m_abs T.n_abs (ma_cons (m_sub (m_var 4) (m_shl (m_mul (m_var 5) (m_var 6)) (m_glob (v := V.int 26) rfl T.c_BITS ⟨_, rfl⟩ (fun _ => .int _)))) ma_nil)) (m_shl (m_glob (v := V.int 5) rfl T.c_MOST_AWAY ⟨_, rfl⟩ (fun _ => .int _)) (m_glob (v := V.int 26) rfl T.c_BITS ⟨_, rfl⟩ (fun _ => .int _)))) (ms_one (ms_ret m_non)) ms_nil)))
 (ms_one (ms_ret (m_if (mt_eq hr.units (m_call (ok_samples_of T) (hr.mono (by decide)) T.g_samples_of T.F_samples_of.kp (bd_samples_of T) tkF (ma_cons (m_var 0) (ma_cons (m_var 3) ma_nil))) (m_tuple T.n_tuple (ma_cons (m_lc (own := [("row", 7)]) rfl sc_block_if.nd (mi_row (m_var 1)) (show BlkOk N_block_if (defScope s_block_if) _ [("row", 7)] from ⟨rfl, by decide +kernel, by decide +kernel, by decide +kernel, by decide +kernel⟩) put1_ok (fun _ _ _ _ _ => pg_name (i := 7) sc_block_if.nd rfl (by first | exact Or.inl rfl | exact Or.inr rfl)) (fun _ _ _ _ _ => mts_nil) (fun _ _ _ _ _ => (m_tuple T.n_tuple (ma_cons (m_var 7) ma_nil)))) ma_nil))) (m_var 3) m_non))))), pure_block_if ds h Q' E' hsp⟩
theorem sc_again : FnScope N_again ["table", "rows"] (defScope s_again) := ⟨rfl, rfl, rfl, by decide +kernel, rfl, by decide +kernel, by decide +kernel⟩
theorem len_again : ∀ ds h Q E, sp_again ds h Q E → ds.length = (["table", "rows"] : List Str).length := by
  intro ds h Q E s
  first | (obtain ⟨rfl, _⟩ := s; rfl) | (obtain ⟨_, rfl, _⟩ := s; rfl) | (obtain ⟨_, _, rfl, _⟩ := s; rfl) | (obtain ⟨_, _, _, rfl, _⟩ := s; rfl) | (obtain ⟨_, _, _, _, rfl, _⟩ := s; rfl) | (obtain ⟨_, _, _, _, _, rfl, _⟩ := s; rfl) | (obtain ⟨_, _, _, _, _, _, rfl, _⟩ := s; rfl) | (obtain ⟨_, _, _, _, _, _, _, rfl, _⟩ := s; rfl) | (obtain ⟨_, _, _, _, _, _, _, _, rfl, _⟩ := s; rfl) | (obtain ⟨_, _, _, _, _, _, _, _, _, rfl, _⟩ := s; rfl) | (obtain ⟨_, _, _, _, _, _, _, _, _, _, rfl, _⟩ := s; rfl) | (obtain ⟨_, _, _, _, _, _, _, _, _, _, _, rfl, _⟩ := s; rfl) | (obtain ⟨_, _, _, _, _, _, _, _, _, _, _, _, rfl, _⟩ := s; rfl) | (obtain ⟨_, _, _, _, _, _, _, _, _, _, _, _, _, rfl, _⟩ := s; rfl) | (obtain ⟨_, _, _, _, _, _, _, _, _, _, _, _, _, _, rfl, _⟩ := s; rfl) | (obtain ⟨_, _, _, _, _, _, _, _, _, _, _, _, _, _, _, rfl, _⟩ := s; rfl) | (obtain ⟨_, _, _, _, _, _, _, _, _, _, _, _, _, _, _, _, rfl, _⟩ := s; rfl) | (obtain ⟨_, _, _, _, _, _, _, _, _, _, _, _, _, _, _, _, _, rfl, _⟩ := s; rfl) | (unfold sp_again AG.sp_again at s; split at s; all_goals first | rfl | exact s.elim) | exact False.elim s | (rcases ds with _ | ⟨_, _ | ⟨_, _ | ⟨_, _⟩⟩⟩ <;> first | rfl | exact False.elim s)
theorem bd_again (T : Txt P w K mg A) : Binds K A.e_again ["table", "rows"] [] := T.F_again.binds fun _ _ _ _ _ _ us hl => match us, hl with | [_, _], _ => rfl
theorem kw_again_rows_table (T : Txt P w K mg A) : KwB K A.e_again ["table", "rows"] ["rows", "table"] g_kw_again_rows_table := by
  obtain ⟨oc, od, kV, doc, pm, an, cdv, ct, osl, e, lk, hcd⟩ := T.F_again.ex
  rw [e]
  refine ⟨fun s ws _ hl => ?_, fun r => ?_, fun r => ?_⟩
  · match ws, hl with
    | [_, _], _ => exact .of_eq rfl
  · exact match r with
    | .nil => .nil
    | (.cons v0 .nil) => (.cons v0 .nil)
    | (.cons v0 (.cons v1 .nil)) => (.cons v1 (.cons v0 .nil))
    | (.cons v0 (.cons v1 (.cons w r))) => (.cons v0 (.cons v1 (.cons w r)))
  · exact match r with
    | .nil => .nil
    | (.cons v0 .nil) => (.cons v0 .nil)
    | (.cons v0 (.cons v1 .nil)) => (.cons v1 (.cons v0 .nil))
    | (.cons v0 (.cons v1 (.cons w r))) => (.cons v0 (.cons v1 (.cons w r)))
theorem ok_again (T : Txt P w K mg A) : FnM P w K mg base 7 A.f_again A.e_again ["table", "rows"] sp_again :=
  fn_m T.F_again sc_again (len_again) fun cdv Ar outer s H E B ds h Q' E' hcd hr tk hsp => ⟨rd_again (fun _ => E'), by
    exact (ms_cons (ms_if (mt_not (mt_val (m_call (ok_are_from T) (hr.mono (by decide)) T.g_are_from T.F_are_from.kp (bd_are_from T) tkF (ma_cons (m_var 0) (ma_cons m_int (ma_cons (m_glob (v := V.int 16) rfl T.c_LEAST_ENTRY ⟨_, rfl⟩ (fun _ => .int _)) (ma_cons (m_glob (v := V.int 65535) rfl T.c_MOST_ENTRY ⟨_, rfl⟩ (fun _ => .int _)) ma_nil))))))) (ms_one (ms_raise rfl T.x_NoSamples (hr.mono (by decide) : Rm 1 _).r tk (ma_cons m_str ma_nil))) ms_nil)
 (ms_cons (ms_expr (m_call (ok_check_samples T) (hr.mono (by decide)) T.g_check_samples T.F_check_samples.kp (bd_check_samples T) tk (ma_cons (m_var 1) (ma_cons m_int (ma_cons m_int ma_nil)))))
 (ms_one (ms_ret (m_call (ok_block_if T) (hr.mono (by decide)) T.g_block_if T.F_block_if.kp (bd_block_if T) tkF (ma_cons (m_var 0) (ma_cons (m_var 1) (ma_cons (m_call (ok_waves_of T) (hr.mono (by decide)) T.g_waves_of T.F_waves_of.kp (bd_waves_of T) tkF (ma_cons (m_var 1) ma_nil)) ma_nil)))))))), pure_again ds h Q' E' hsp⟩
theorem sc_law_said_right : FnScope N_law_said_right ["_law_sheet", "_law_lines"] (defScope s_law_said_right) := ⟨rfl, rfl, rfl, by decide +kernel, rfl, by decide +kernel, by decide +kernel⟩
theorem len_law_said_right : ∀ ds h Q E, sp_law_said_right ds h Q E → ds.length = (["_law_sheet", "_law_lines"] : List Str).length := by
  intro ds h Q E s
  first | (obtain ⟨rfl, _⟩ := s; rfl) | (obtain ⟨_, rfl, _⟩ := s; rfl) | (obtain ⟨_, _, rfl, _⟩ := s; rfl) | (obtain ⟨_, _, _, rfl, _⟩ := s; rfl) | (obtain ⟨_, _, _, _, rfl, _⟩ := s; rfl) | (obtain ⟨_, _, _, _, _, rfl, _⟩ := s; rfl) | (obtain ⟨_, _, _, _, _, _, rfl, _⟩ := s; rfl) | (obtain ⟨_, _, _, _, _, _, _, rfl, _⟩ := s; rfl) | (obtain ⟨_, _, _, _, _, _, _, _, rfl, _⟩ := s; rfl) | (obtain ⟨_, _, _, _, _, _, _, _, _, rfl, _⟩ := s; rfl) | (obtain ⟨_, _, _, _, _, _, _, _, _, _, rfl, _⟩ := s; rfl) | (obtain ⟨_, _, _, _, _, _, _, _, _, _, _, rfl, _⟩ := s; rfl) | (obtain ⟨_, _, _, _, _, _, _, _, _, _, _, _, rfl, _⟩ := s; rfl) | (obtain ⟨_, _, _, _, _, _, _, _, _, _, _, _, _, rfl, _⟩ := s; rfl) | (obtain ⟨_, _, _, _, _, _, _, _, _, _, _, _, _, _, rfl, _⟩ := s; rfl) | (obtain ⟨_, _, _, _, _, _, _, _, _, _, _, _, _, _, _, rfl, _⟩ := s; rfl) | (obtain ⟨_, _, _, _, _, _, _, _, _, _, _, _, _, _, _, _, rfl, _⟩ := s; rfl) | (obtain ⟨_, _, _, _, _, _, _, _, _, _, _, _, _, _, _, _, _, rfl, _⟩ := s; rfl) | (unfold sp_law_said_right at s; split at s; all_goals first | rfl | exact s.elim) | exact False.elim s | (rcases ds with _ | ⟨_, _ | ⟨_, _ | ⟨_, _⟩⟩⟩ <;> first | rfl | exact False.elim s)
theorem bd_law_said_right (T : Txt P w K mg A) : Binds K A.e_law_said_right ["_law_sheet", "_law_lines"] [] := T.F_law_said_right.binds fun _ _ _ _ _ _ us hl => match us, hl with | [_, _], _ => rfl
theorem ok_law_said_right (T : Txt P w K mg A) : FnM P w K mg base 8 A.f_law_said_right A.e_law_said_right ["_law_sheet", "_law_lines"] sp_law_said_right :=
  fn_m T.F_law_said_right sc_law_said_right (len_law_said_right) fun cdv Ar outer s H E B ds h Q' E' hcd hr tk hsp => ⟨rd_law_said_right (fun _ => E'), by
    exact (ms_cons (ms_set 2 sc_law_said_right.nd (m_call (ok_law_nearest T) (hr.mono (by decide)) T.g_law_nearest T.F_law_nearest.kp (bd_law_nearest T) tkF (ma_cons (m_var 0) (ma_cons (m_var 1) ma_nil))))
 (ms_cons (ms_set 3 sc_law_said_right.nd (m_if (mt_eq hr.units (m_dzV (m_call (ok_law_samples T) (hr.mono (by decide)) T.g_law_samples T.F_law_samples.kp (bd_law_samples T) tkF (ma_cons (m_var 0) (ma_cons (m_var 2) ma_nil)))) (m_lc (own := [("_law_row", 4)]) rfl sc_law_said_right.nd (mi_row (m_var 1)) (show BlkOk N_law_said_right (defScope s_law_said_right) _ [("_law_row", 4)] from ⟨rfl, by decide +kernel, by decide +kernel, by decide +kernel, by decide +kernel⟩) put1_ok (fun _ _ _ _ _ => pg_name (i := 4) sc_law_said_right.nd rfl (by first | exact Or.inl rfl | exact Or.inr rfl)) (fun _ _ _ _ _ => mts_nil) (fun _ _ _ _ _ => (m_list T.n_list (ma_cons (m_var 4) ma_nil))))) (m_var 2) m_non))
 (ms_one (ms_ret (m_and (m_eq hr.units (m_call (ok_again T) (hr.mono (by decide)) T.g_again T.F_again.kp (bd_again T) tk (ma_cons (m_var 0) (ma_cons (m_var 1) ma_nil))) (m_var 3)) (m_one (m_eq hr.units (m_callK (ok_again T) (hr.mono (by decide)) T.g_again T.F_again.kp (kw_again_rows_table T) tk (mk_cons (m_lc (own := [("_law_row", 4)]) rfl sc_law_said_right.nd (mi_row (m_var 1)) (show BlkOk N_law_said_right (defScope s_law_said_right) _ [("_law_row", 4)] from ⟨rfl, by decide +kernel, by decide +kernel, by decide +kernel, by decide +kernel⟩) put1_ok (fun _ _ _ _ _ => pg_name (i := 4) sc_law_said_right.nd rfl (by first | exact Or.inl rfl | exact Or.inr rfl)) (fun _ _ _ _ _ => mts_nil) (fun _ _ _ _ _ => (m_list T.n_list (ma_cons (m_var 4) ma_nil)))) (mk_cons (m_list T.n_list (ma_cons (m_var 0) ma_nil)) mk_nil))) (m_var 3)))))))), pure_law_said_right ds h Q' E' hsp⟩
theorem sc_law_right : FnScope N_law_right ["_law_purse_here"] (defScope s_law_right) := ⟨rfl, rfl, rfl, by decide +kernel, rfl, by decide +kernel, by decide +kernel⟩
theorem len_law_right : ∀ ds h Q E, sp_law_right ds h Q E → ds.length = (["_law_purse_here"] : List Str).length := by
  intro ds h Q E s
  first | (obtain ⟨rfl, _⟩ := s; rfl) | (obtain ⟨_, rfl, _⟩ := s; rfl) | (obtain ⟨_, _, rfl, _⟩ := s; rfl) | (obtain ⟨_, _, _, rfl, _⟩ := s; rfl) | (obtain ⟨_, _, _, _, rfl, _⟩ := s; rfl) | (obtain ⟨_, _, _, _, _, rfl, _⟩ := s; rfl) | (obtain ⟨_, _, _, _, _, _, rfl, _⟩ := s; rfl) | (obtain ⟨_, _, _, _, _, _, _, rfl, _⟩ := s; rfl) | (obtain ⟨_, _, _, _, _, _, _, _, rfl, _⟩ := s; rfl) | (obtain ⟨_, _, _, _, _, _, _, _, _, rfl, _⟩ := s; rfl) | (obtain ⟨_, _, _, _, _, _, _, _, _, _, rfl, _⟩ := s; rfl) | (obtain ⟨_, _, _, _, _, _, _, _, _, _, _, rfl, _⟩ := s; rfl) | (obtain ⟨_, _, _, _, _, _, _, _, _, _, _, _, rfl, _⟩ := s; rfl) | (obtain ⟨_, _, _, _, _, _, _, _, _, _, _, _, _, rfl, _⟩ := s; rfl) | (obtain ⟨_, _, _, _, _, _, _, _, _, _, _, _, _, _, rfl, _⟩ := s; rfl) | (obtain ⟨_, _, _, _, _, _, _, _, _, _, _, _, _, _, _, rfl, _⟩ := s; rfl) | (obtain ⟨_, _, _, _, _, _, _, _, _, _, _, _, _, _, _, _, rfl, _⟩ := s; rfl) | (obtain ⟨_, _, _, _, _, _, _, _, _, _, _, _, _, _, _, _, _, rfl, _⟩ := s; rfl) | (unfold sp_law_right at s; split at s; all_goals first | rfl | exact s.elim) | exact False.elim s | (rcases ds with _ | ⟨_, _ | ⟨_, _⟩⟩ <;> first | rfl | exact False.elim s)
theorem bd_law_right (T : Txt P w K mg A) : Binds K A.e_law_right ["_law_purse_here"] [] := T.F_law_right.binds fun _ _ _ _ _ _ us hl => match us, hl with | [_], _ => rfl
theorem ok_law_right (T : Txt P w K mg A) : FnM P w K mg base 9 A.f_law_right A.e_law_right ["_law_purse_here"] sp_law_right :=
  fn_m T.F_law_right sc_law_right (len_law_right) fun cdv Ar outer s H E B ds h Q' E' hcd hr tk hsp => ⟨rd_law_right (fun _ => E'), by
    exact (ms_cons (ms_set 1 sc_law_right.nd (m_call (ok_law_entries T) (hr.mono (by decide)) T.g_law_entries T.F_law_entries.kp (bd_law_entries T) tkF (ma_cons (m_var 0) ma_nil)))
 (ms_cons (ms_set 2 sc_law_right.nd (m_call (ok_law_block T) (hr.mono (by decide)) T.g_law_block T.F_law_block.kp (bd_law_block T) tkF (ma_cons (m_var 0) (ma_cons (m_var 1) ma_nil))))
 (ms_cons (ms_set 3 sc_law_right.nd (m_call (ok_law_samples T) (hr.mono (by decide)) T.g_law_samples T.F_law_samples.kp (bd_law_samples T) tkF (ma_cons (m_var 1) (ma_cons (m_var 2) ma_nil))))
 (ms_cons (ms_set 4 sc_law_right.nd (m_reprN hr.g hr.more T.n_repr (ma_cons (m_var 3) ma_nil)))
 (ms_cons (ms_if (mt_not (mt_val (m_call (ok_law_within T).lentN (hr.mono (by decide)) T.g_law_within T.F_law_within.kp (bd_law_within T) tkF (ma_cons (m_var 3) (ma_cons m_int (ma_cons m_int ma_nil)))))) (ms_one (ms_ret m_bl)) ms_nil)
 (ms_cons (ms_if (mt_w (mw_or (mt_ne hr.units (m_call (ok_waves T).lentN (hr.mono (by decide)) T.g_waves T.F_waves.kp (bd_waves T) tk (ma_cons (m_var 3) ma_nil)) (m_call (ok_law_waves T).lentN (hr.mono (by decide)) T.g_law_waves T.F_law_waves.kp (bd_law_waves T) tkF (ma_cons (m_var 3) ma_nil))) (mw_or1 (mt_ne hr.units (m_callK (ok_waves T).lentN (hr.mono (by decide)) T.g_waves T.F_waves.kp (kw_waves_rows T) tk (mk_cons (m_tuple T.n_tuple (ma_cons (m_lcR (own := [("_law_row", 7)]) rfl sc_law_right.nd (m_var 3) (show BlkOk N_law_right (defScope s_law_right) _ [("_law_row", 7)] from ⟨rfl, by decide +kernel, by decide +kernel, by decide +kernel, by decide +kernel⟩) put1_ok (fun _ _ _ _ _ => pg_name (i := 7) sc_law_right.nd rfl (by first | exact Or.inl rfl | exact Or.inr rfl)) (fun _ _ _ _ _ => mts_nil) (fun _ _ _ _ _ => (m_tuple T.n_tuple (ma_cons (m_var 7) ma_nil)))) ma_nil)) mk_nil)) (m_call (ok_law_waves T).lentN (hr.mono (by decide)) T.g_law_waves T.F_law_waves.kp (bd_law_waves T) tkF (ma_cons (m_var 3) ma_nil)))))) (ms_one (ms_ret m_bl)) ms_nil)
 (ms_cons (ms_if (mt_not (mt_val (m_call (ok_law_within T).lentN (hr.mono (by decide)) T.g_law_within T.F_law_within.kp (bd_law_within T) tkF (ma_cons (m_var 3) (ma_cons m_int (ma_cons m_int ma_nil)))))) (ms_one (ms_ret m_bl)) ms_nil)
 (ms_cons (ms_if (mt_w (mw_or (mt_ne hr.units (m_call (ok_again T).lentN (hr.mono (by decide)) T.g_again T.F_again.kp (bd_again T) tk (ma_cons (m_var 1) (ma_cons (m_var 3) ma_nil))) (m_var 2)) (mw_or (mt_not (mt_val (m_call (ok_law_said_right T).lentN (hr.mono (by decide)) T.g_law_said_right T.F_law_said_right.kp (bd_law_said_right T) tk (ma_cons (m_var 1) (ma_cons (m_var 3) ma_nil))))) (mw_or1 (mt_ne hr.units (m_reprN hr.g hr.more T.n_repr (ma_cons (m_var 3) ma_nil)) (m_var 4)))))) (ms_one (ms_ret m_bl)) ms_nil)
 (ms_cons (ms_par 5 6 rfl sc_law_right.nd (ma_cons (m_call (ok_law_coin T) (hr.mono (by decide)) T.g_law_coin T.F_law_coin.kp (bd_law_coin T) tkF (ma_cons (m_var 0) (ma_cons m_int ma_nil))) (ma_cons (m_call (ok_law_coin T) (hr.mono (by decide)) T.g_law_coin T.F_law_coin.kp (bd_law_coin T) tkF (ma_cons (m_var 0) (ma_cons m_int ma_nil))) ma_nil)))
 (ms_cons (ms_asg (m_add m_int (m_call (ok_law_coin T) (hr.mono (by decide)) T.g_law_coin T.F_law_coin.kp (bd_law_coin T) tkF (ma_cons (m_var 0) (ma_cons m_int ma_nil)))) (mg_sub (m_ix (m_var 3) (m_var 5)) (m_var 6)))
 (ms_one (ms_ret (m_call (ok_law_said_right T).lentN (hr.mono (by decide)) T.g_law_said_right T.F_law_said_right.kp (bd_law_said_right T) tk (ma_cons (m_var 1) (ma_cons (m_var 3) ma_nil))))))))))))))), pure_law_right ds h Q' E' hsp⟩
theorem sc_law : FnScope N_law ["_law_script"] (defScope s_law) := ⟨rfl, rfl, rfl, by decide +kernel, rfl, by decide +kernel, by decide +kernel⟩
theorem len_law : ∀ ds h Q E, sp_law ds h Q E → ds.length = (["_law_script"] : List Str).length := by
  intro ds h Q E s
  first | (obtain ⟨rfl, _⟩ := s; rfl) | (obtain ⟨_, rfl, _⟩ := s; rfl) | (obtain ⟨_, _, rfl, _⟩ := s; rfl) | (obtain ⟨_, _, _, rfl, _⟩ := s; rfl) | (obtain ⟨_, _, _, _, rfl, _⟩ := s; rfl) | (obtain ⟨_, _, _, _, _, rfl, _⟩ := s; rfl) | (obtain ⟨_, _, _, _, _, _, rfl, _⟩ := s; rfl) | (obtain ⟨_, _, _, _, _, _, _, rfl, _⟩ := s; rfl) | (obtain ⟨_, _, _, _, _, _, _, _, rfl, _⟩ := s; rfl) | (obtain ⟨_, _, _, _, _, _, _, _, _, rfl, _⟩ := s; rfl) | (obtain ⟨_, _, _, _, _, _, _, _, _, _, rfl, _⟩ := s; rfl) | (obtain ⟨_, _, _, _, _, _, _, _, _, _, _, rfl, _⟩ := s; rfl) | (obtain ⟨_, _, _, _, _, _, _, _, _, _, _, _, rfl, _⟩ := s; rfl) | (obtain ⟨_, _, _, _, _, _, _, _, _, _, _, _, _, rfl, _⟩ := s; rfl) | (obtain ⟨_, _, _, _, _, _, _, _, _, _, _, _, _, _, rfl, _⟩ := s; rfl) | (obtain ⟨_, _, _, _, _, _, _, _, _, _, _, _, _, _, _, rfl, _⟩ := s; rfl) | (obtain ⟨_, _, _, _, _, _, _, _, _, _, _, _, _, _, _, _, rfl, _⟩ := s; rfl) | (obtain ⟨_, _, _, _, _, _, _, _, _, _, _, _, _, _, _, _, _, rfl, _⟩ := s; rfl) | (unfold sp_law at s; split at s; all_goals first | rfl | exact s.elim) | exact False.elim s | (rcases ds with _ | ⟨_, _ | ⟨_, _⟩⟩ <;> first | rfl | exact False.elim s)
theorem ok_law (T : Txt P w K mg A) : FnM P w K mg base 10 A.f_law A.e_law ["_law_script"] sp_law :=
  fn_m T.F_law sc_law (len_law) fun cdv Ar outer s H E B ds h Q' E' hcd hr tk hsp => ⟨rd_law (fun _ => E'), by
    exact (ms_cons (ms_for (passes_of rfl) rfl (mi_row (m_add (m_sl (m_var 0) mo_none (mo_some m_int)) (m_lst (ma_cons m_int ma_nil)))) (mg_name 1 sc_law.nd)
 (ms_cons (ms_set 2 sc_law.nd (m_call (ok_law_purse T) (hr.mono (by decide)) T.g_law_purse T.F_law_purse.kp (bd_law_purse T) tkF (ma_cons (m_var 1) ma_nil)))
 (ms_cons (ms_for (passes_of rfl) rfl (mi_range1 T.n_range m_int) (mg_name 3 sc_law.nd)
 (ms_one (ms_if (mt_not (mt_val (m_call (ok_law_right T) (hr.mono (by decide)) T.g_law_right T.F_law_right.kp (bd_law_right T) tk (ma_cons (m_var 2) ma_nil)))) (ms_one (ms_ret m_bl)) ms_nil)))
 (ms_cons (ms_set 4 sc_law.nd (m_mul (m_tup (ma_cons (m_mul (m_tup (ma_cons (m_add m_int (m_call (ok_law_coin T) (hr.mono (by decide)) T.g_law_coin T.F_law_coin.kp (bd_law_coin T) tkF (ma_cons (m_var 2) (ma_cons m_int ma_nil)))) ma_nil)) m_int) ma_nil)) m_int))
 (ms_one (ms_if (mt_not (mt_val (m_call (ok_law_said_right T) (hr.mono (by decide)) T.g_law_said_right T.F_law_said_right.kp (bd_law_said_right T) tk (ma_cons (m_call (ok_law_entries T) (hr.mono (by decide)) T.g_law_entries T.F_law_entries.kp (bd_law_entries T) tkF (ma_cons (m_var 2) ma_nil)) (ma_cons (m_var 4) ma_nil))))) (ms_one (ms_ret m_bl)) ms_nil))))))
 (ms_cons (ms_if (mt_ne hr.units (m_call (ok_again T) (hr.mono (by decide)) T.g_again T.F_again.kp (bd_again T) tk (ma_cons (m_mul (m_tup (ma_cons m_int ma_nil)) m_int) (ma_cons (m_mul (m_tup (ma_cons (m_mul (m_tup (ma_cons m_int ma_nil)) m_int) ma_nil)) m_int) ma_nil))) (m_add (m_tup (ma_cons m_int ma_nil)) (m_mul (m_tup (ma_cons m_int ma_nil)) m_int))) (ms_one (ms_ret m_bl)) ms_nil)
 (ms_one (ms_ret (m_is (m_call (ok_again T) (hr.mono (by decide)) T.g_again T.F_again.kp (bd_again T) tk (ma_cons (m_mul (m_tup (ma_cons m_int ma_nil)) m_int) (ma_cons (m_mul (m_tup (ma_cons (m_mul (m_tup (ma_cons m_int ma_nil)) m_int) ma_nil)) m_int) ma_nil))) m_non))))), pure_law ds h Q' E' hsp⟩
end
theorem all_mk {q : Program} {w : World} {K : PySem.W.Frag} {h : Heap} {mg : Str → Option Value} {fa : Addr} (X : K.In h) (G : h.Ns mainGlobals mg) (hfa : mg "law" = some (.ref fa))
        {f_zigzag_places : Addr} {od_zigzag_places an_zigzag_places : Option Addr} {sl_zigzag_places : Array (Option Value)} {oc_zigzag_places kV_zigzag_places dc_zigzag_places pm_zigzag_places cd_zigzag_places ct_zigzag_places : Value}
    {f_is_integer : Addr} {od_is_integer an_is_integer : Option Addr} {sl_is_integer : Array (Option Value)} {oc_is_integer kV_is_integer dc_is_integer pm_is_integer cd_is_integer ct_is_integer : Value}
    {f_is_from : Addr} {od_is_from an_is_from : Option Addr} {sl_is_from : Array (Option Value)} {oc_is_from kV_is_from dc_is_from pm_is_from cd_is_from ct_is_from : Value}
    {f_are_from : Addr} {od_are_from an_are_from : Option Addr} {sl_are_from : Array (Option Value)} {oc_are_from kV_are_from dc_are_from pm_are_from cd_are_from ct_are_from : Value}
    {f_wave : Addr} {od_wave an_wave : Option Addr} {sl_wave : Array (Option Value)} {oc_wave kV_wave dc_wave pm_wave cd_wave ct_wave : Value}
    {f_weight_of : Addr} {od_weight_of an_weight_of : Option Addr} {sl_weight_of : Array (Option Value)} {oc_weight_of kV_weight_of dc_weight_of pm_weight_of cd_weight_of ct_weight_of : Value}
    {f_steps_of : Addr} {od_steps_of an_steps_of : Option Addr} {sl_steps_of : Array (Option Value)} {oc_steps_of kV_steps_of dc_steps_of pm_steps_of cd_steps_of ct_steps_of : Value}
    {f_sums_of : Addr} {od_sums_of an_sums_of : Option Addr} {sl_sums_of : Array (Option Value)} {oc_sums_of kV_sums_of dc_sums_of pm_sums_of cd_sums_of ct_sums_of : Value}
    {f_cut : Addr} {od_cut an_cut : Option Addr} {sl_cut : Array (Option Value)} {oc_cut kV_cut dc_cut pm_cut cd_cut ct_cut : Value}
    {f_samples_of : Addr} {od_samples_of an_samples_of : Option Addr} {sl_samples_of : Array (Option Value)} {oc_samples_of kV_samples_of dc_samples_of pm_samples_of cd_samples_of ct_samples_of : Value}
    {f_check_samples : Addr} {od_check_samples an_check_samples : Option Addr} {sl_check_samples : Array (Option Value)} {oc_check_samples kV_check_samples dc_check_samples pm_check_samples cd_check_samples ct_check_samples : Value}
    {f_waves_of : Addr} {od_waves_of an_waves_of : Option Addr} {sl_waves_of : Array (Option Value)} {oc_waves_of kV_waves_of dc_waves_of pm_waves_of cd_waves_of ct_waves_of : Value}
    {f_waves : Addr} {od_waves an_waves : Option Addr} {sl_waves : Array (Option Value)} {oc_waves kV_waves dc_waves pm_waves cd_waves ct_waves : Value}
    {f_block_if : Addr} {od_block_if an_block_if : Option Addr} {sl_block_if : Array (Option Value)} {oc_block_if kV_block_if dc_block_if pm_block_if cd_block_if ct_block_if : Value}
    {f_again : Addr} {od_again an_again : Option Addr} {sl_again : Array (Option Value)} {oc_again kV_again dc_again pm_again cd_again ct_again : Value}
    {f_law_purse : Addr} {od_law_purse an_law_purse : Option Addr} {sl_law_purse : Array (Option Value)} {oc_law_purse kV_law_purse dc_law_purse pm_law_purse cd_law_purse ct_law_purse : Value}
    {f_law_coin : Addr} {od_law_coin an_law_coin : Option Addr} {sl_law_coin : Array (Option Value)} {oc_law_coin kV_law_coin dc_law_coin pm_law_coin cd_law_coin ct_law_coin : Value}
    {f_law_pick : Addr} {od_law_pick an_law_pick : Option Addr} {sl_law_pick : Array (Option Value)} {oc_law_pick kV_law_pick dc_law_pick pm_law_pick cd_law_pick ct_law_pick : Value}
    {f_law_weight : Addr} {od_law_weight an_law_weight : Option Addr} {sl_law_weight : Array (Option Value)} {oc_law_weight kV_law_weight dc_law_weight pm_law_weight cd_law_weight ct_law_weight : Value}
    {f_law_places : Addr} {od_law_places an_law_places : Option Addr} {sl_law_places : Array (Option Value)} {oc_law_places kV_law_places dc_law_places pm_law_places cd_law_places ct_law_places : Value}
    {f_law_samples : Addr} {od_law_samples an_law_samples : Option Addr} {sl_law_samples : Array (Option Value)} {oc_law_samples kV_law_samples dc_law_samples pm_law_samples cd_law_samples ct_law_samples : Value}
    {f_law_waves : Addr} {od_law_waves an_law_waves : Option Addr} {sl_law_waves : Array (Option Value)} {oc_law_waves kV_law_waves dc_law_waves pm_law_waves cd_law_waves ct_law_waves : Value}
    {f_law_within : Addr} {od_law_within an_law_within : Option Addr} {sl_law_within : Array (Option Value)} {oc_law_within kV_law_within dc_law_within pm_law_within cd_law_within ct_law_within : Value}
    {f_law_entries : Addr} {od_law_entries an_law_entries : Option Addr} {sl_law_entries : Array (Option Value)} {oc_law_entries kV_law_entries dc_law_entries pm_law_entries cd_law_entries ct_law_entries : Value}
    {f_law_block : Addr} {od_law_block an_law_block : Option Addr} {sl_law_block : Array (Option Value)} {oc_law_block kV_law_block dc_law_block pm_law_block cd_law_block ct_law_block : Value}
    {f_law_nearest : Addr} {od_law_nearest an_law_nearest : Option Addr} {sl_law_nearest : Array (Option Value)} {oc_law_nearest kV_law_nearest dc_law_nearest pm_law_nearest cd_law_nearest ct_law_nearest : Value}
    {f_law_said_right : Addr} {od_law_said_right an_law_said_right : Option Addr} {sl_law_said_right : Array (Option Value)} {oc_law_said_right kV_law_said_right dc_law_said_right pm_law_said_right cd_law_said_right ct_law_said_right : Value}
    {f_law_right : Addr} {od_law_right an_law_right : Option Addr} {sl_law_right : Array (Option Value)} {oc_law_right kV_law_right dc_law_right pm_law_right cd_law_right ct_law_right : Value}
    {f_law : Addr} {od_law an_law : Option Addr} {sl_law : Array (Option Value)} {oc_law kV_law dc_law pm_law cd_law ct_law : Value}
    {t_BITS : Tok}
    {t_FLAT : Tok}
    {t_LEAST_ENTRY : Tok}
    {t_MOST_AWAY : Tok}
    {t_MOST_ENTRY : Tok}
    {t_SIDE : Tok}
    {t_WAVES : Addr} {to_WAVES : Option Addr} {ti_WAVES : Array Value} {tc_WAVES : Nat} {ts_WAVES : Array (Option Value)}
    {x_PicError : Addr}
    {x_NoSamples : Addr}
    {i_NoSamples : Addr} {nm_NoSamples q_NoSamples : Str} {N_NoSamples : Addr} {bs_NoSamples : List Value} {sn_NoSamples : List Str} {sub_NoSamples : List Value} {ab_NoSamples : Bool} {col_NoSamples : Option Bool} {dd_NoSamples : Option Addr} {m0_NoSamples m1_NoSamples m2_NoSamples m3_NoSamples m5_NoSamples : Option Value}
    {oc_NoSamples doc_NoSamples pm_NoSamples ct_NoSamples : Value} {od_NoSamples an_NoSamples : Option Addr} {cda_NoSamples cc_NoSamples : Addr} {osl_NoSamples : Array (Option Value)} {vs_NoSamples : Array Value} {ccl_NoSamples : Value} {cdd_NoSamples : Option Addr} {ccs_NoSamples : Array (Option Value)} {cl_NoSamples : Value} {cld_NoSamples : Option Addr} {csl_NoSamples : Array (Option Value)} {tf_NoSamples : Tok}
    (a_zigzag_places : PySem.W.nsIn K mainGlobals "zigzag_places" = some (some (.ref f_zigzag_places)))
    (l_zigzag_places : K.lookup f_zigzag_places = some ⟨oc_zigzag_places, od_zigzag_places, .func (PySem.W.fnOf "zigzag_places" "zigzag_places" (defArgs s_zigzag_places) (defBody s_zigzag_places) (defScope s_zigzag_places) .none kV_zigzag_places dc_zigzag_places pm_zigzag_places an_zigzag_places cd_zigzag_places ct_zigzag_places), sl_zigzag_places⟩)
    (c_zigzag_places : PySem.W.codeIn K cd_zigzag_places "zigzag_places" = true)
    (k_zigzag_places : PySem.W.keepIn K (.ref f_zigzag_places) = true)
    (a_is_integer : PySem.W.nsIn K mainGlobals "is_integer" = some (some (.ref f_is_integer)))
    (l_is_integer : K.lookup f_is_integer = some ⟨oc_is_integer, od_is_integer, .func (PySem.W.fnOf "is_integer" "is_integer" (defArgs s_is_integer) (defBody s_is_integer) (defScope s_is_integer) .none kV_is_integer dc_is_integer pm_is_integer an_is_integer cd_is_integer ct_is_integer), sl_is_integer⟩)
    (c_is_integer : PySem.W.codeIn K cd_is_integer "is_integer" = true)
    (k_is_integer : PySem.W.keepIn K (.ref f_is_integer) = true)
    (a_is_from : PySem.W.nsIn K mainGlobals "is_from" = some (some (.ref f_is_from)))
    (l_is_from : K.lookup f_is_from = some ⟨oc_is_from, od_is_from, .func (PySem.W.fnOf "is_from" "is_from" (defArgs s_is_from) (defBody s_is_from) (defScope s_is_from) .none kV_is_from dc_is_from pm_is_from an_is_from cd_is_from ct_is_from), sl_is_from⟩)
    (c_is_from : PySem.W.codeIn K cd_is_from "is_from" = true)
    (k_is_from : PySem.W.keepIn K (.ref f_is_from) = true)
    (a_are_from : PySem.W.nsIn K mainGlobals "are_from" = some (some (.ref f_are_from)))
    (l_are_from : K.lookup f_are_from = some ⟨oc_are_from, od_are_from, .func (PySem.W.fnOf "are_from" "are_from" (defArgs s_are_from) (defBody s_are_from) (defScope s_are_from) .none kV_are_from dc_are_from pm_are_from an_are_from cd_are_from ct_are_from), sl_are_from⟩)
    (c_are_from : PySem.W.codeIn K cd_are_from "are_from" = true)
    (k_are_from : PySem.W.keepIn K (.ref f_are_from) = true)
    (a_wave : PySem.W.nsIn K mainGlobals "wave" = some (some (.ref f_wave)))
    (l_wave : K.lookup f_wave = some ⟨oc_wave, od_wave, .func (PySem.W.fnOf "wave" "wave" (defArgs s_wave) (defBody s_wave) (defScope s_wave) .none kV_wave dc_wave pm_wave an_wave cd_wave ct_wave), sl_wave⟩)
    (c_wave : PySem.W.codeIn K cd_wave "wave" = true)
    (k_wave : PySem.W.keepIn K (.ref f_wave) = true)
    (a_weight_of : PySem.W.nsIn K mainGlobals "weight_of" = some (some (.ref f_weight_of)))
    (l_weight_of : K.lookup f_weight_of = some ⟨oc_weight_of, od_weight_of, .func (PySem.W.fnOf "weight_of" "weight_of" (defArgs s_weight_of) (defBody s_weight_of) (defScope s_weight_of) .none kV_weight_of dc_weight_of pm_weight_of an_weight_of cd_weight_of ct_weight_of), sl_weight_of⟩)
    (c_weight_of : PySem.W.codeIn K cd_weight_of "weight_of" = true)
    (k_weight_of : PySem.W.keepIn K (.ref f_weight_of) = true)
    (a_steps_of : PySem.W.nsIn K mainGlobals "steps_of" = some (some (.ref f_steps_of)))
    (l_steps_of : K.lookup f_steps_of = some ⟨oc_steps_of, od_steps_of, .func (PySem.W.fnOf "steps_of" "steps_of" (defArgs s_steps_of) (defBody s_steps_of) (defScope s_steps_of) .none kV_steps_of dc_steps_of pm_steps_of an_steps_of cd_steps_of ct_steps_of), sl_steps_of⟩)
    (c_steps_of : PySem.W.codeIn K cd_steps_of "steps_of" = true)
    (k_steps_of : PySem.W.keepIn K (.ref f_steps_of) = true)
    (a_sums_of : PySem.W.nsIn K mainGlobals "sums_of" = some (some (.ref f_sums_of)))
    (l_sums_of : K.lookup f_sums_of = some ⟨oc_sums_of, od_sums_of, .func (PySem.W.fnOf "sums_of" "sums_of" (defArgs s_sums_of) (defBody s_sums_of) (defScope s_sums_of) .none kV_sums_of dc_sums_of pm_sums_of an_sums_of cd_sums_of ct_sums_of), sl_sums_of⟩)
    (c_sums_of : PySem.W.codeIn K cd_sums_of "sums_of" = true)
    (k_sums_of : PySem.W.keepIn K (.ref f_sums_of) = true)
    (a_cut : PySem.W.nsIn K mainGlobals "cut" = some (some (.ref f_cut)))
    (l_cut : K.lookup f_cut = some ⟨oc_cut, od_cut, .func (PySem.W.fnOf "cut" "cut" (defArgs s_cut) (defBody s_cut) (defScope s_cut) .none kV_cut dc_cut pm_cut an_cut cd_cut ct_cut), sl_cut⟩)
    (c_cut : PySem.W.codeIn K cd_cut "cut" = true)
    (k_cut : PySem.W.keepIn K (.ref f_cut) = true)
    (a_samples_of : PySem.W.nsIn K mainGlobals "samples_of" = some (some (.ref f_samples_of)))
    (l_samples_of : K.lookup f_samples_of = some ⟨oc_samples_of, od_samples_of, .func (PySem.W.fnOf "samples_of" "samples_of" (defArgs s_samples_of) (defBody s_samples_of) (defScope s_samples_of) .none kV_samples_of dc_samples_of pm_samples_of an_samples_of cd_samples_of ct_samples_of), sl_samples_of⟩)
    (c_samples_of : PySem.W.codeIn K cd_samples_of "samples_of" = true)
    (k_samples_of : PySem.W.keepIn K (.ref f_samples_of) = true)
    (a_check_samples : PySem.W.nsIn K mainGlobals "check_samples" = some (some (.ref f_check_samples)))
    (l_check_samples : K.lookup f_check_samples = some ⟨oc_check_samples, od_check_samples, .func (PySem.W.fnOf "check_samples" "check_samples" (defArgs s_check_samples) (defBody s_check_samples) (defScope s_check_samples) .none kV_check_samples dc_check_samples pm_check_samples an_check_samples cd_check_samples ct_check_samples), sl_check_samples⟩)
    (c_check_samples : PySem.W.codeIn K cd_check_samples "check_samples" = true)
    (k_check_samples : PySem.W.keepIn K (.ref f_check_samples) = true)
    (a_waves_of : PySem.W.nsIn K mainGlobals "waves_of" = some (some (.ref f_waves_of)))
    (l_waves_of : K.lookup f_waves_of = some ⟨oc_waves_of, od_waves_of, .func (PySem.W.fnOf "waves_of" "waves_of" (defArgs s_waves_of) (defBody s_waves_of) (defScope s_waves_of) .none kV_waves_of dc_waves_of pm_waves_of an_waves_of cd_waves_of ct_waves_of), sl_waves_of⟩)
    (c_waves_of : PySem.W.codeIn K cd_waves_of "waves_of" = true)
    (k_waves_of : PySem.W.keepIn K (.ref f_waves_of) = true)
    (a_waves : PySem.W.nsIn K mainGlobals "waves" = some (some (.ref f_waves)))
    (l_waves : K.lookup f_waves = some ⟨oc_waves, od_waves, .func (PySem.W.fnOf "waves" "waves" (defArgs s_waves) (defBody s_waves) (defScope s_waves) .none kV_waves dc_waves pm_waves an_waves cd_waves ct_waves), sl_waves⟩)
    (c_waves : PySem.W.codeIn K cd_waves "waves" = true)
    (k_waves : PySem.W.keepIn K (.ref f_waves) = true)
    (a_block_if : PySem.W.nsIn K mainGlobals "block_if" = some (some (.ref f_block_if)))
    (l_block_if : K.lookup f_block_if = some ⟨oc_block_if, od_block_if, .func (PySem.W.fnOf "block_if" "block_if" (defArgs s_block_if) (defBody s_block_if) (defScope s_block_if) .none kV_block_if dc_block_if pm_block_if an_block_if cd_block_if ct_block_if), sl_block_if⟩)
    (c_block_if : PySem.W.codeIn K cd_block_if "block_if" = true)
    (k_block_if : PySem.W.keepIn K (.ref f_block_if) = true)
    (a_again : PySem.W.nsIn K mainGlobals "again" = some (some (.ref f_again)))
    (l_again : K.lookup f_again = some ⟨oc_again, od_again, .func (PySem.W.fnOf "again" "again" (defArgs s_again) (defBody s_again) (defScope s_again) .none kV_again dc_again pm_again an_again cd_again ct_again), sl_again⟩)
    (c_again : PySem.W.codeIn K cd_again "again" = true)
    (k_again : PySem.W.keepIn K (.ref f_again) = true)
    (a_law_purse : PySem.W.nsIn K mainGlobals "_law_purse" = some (some (.ref f_law_purse)))
    (l_law_purse : K.lookup f_law_purse = some ⟨oc_law_purse, od_law_purse, .func (PySem.W.fnOf "_law_purse" "_law_purse" (defArgs s_law_purse) (defBody s_law_purse) (defScope s_law_purse) .none kV_law_purse dc_law_purse pm_law_purse an_law_purse cd_law_purse ct_law_purse), sl_law_purse⟩)
    (c_law_purse : PySem.W.codeIn K cd_law_purse "_law_purse" = true)
    (k_law_purse : PySem.W.keepIn K (.ref f_law_purse) = true)
    (a_law_coin : PySem.W.nsIn K mainGlobals "_law_coin" = some (some (.ref f_law_coin)))
    (l_law_coin : K.lookup f_law_coin = some ⟨oc_law_coin, od_law_coin, .func (PySem.W.fnOf "_law_coin" "_law_coin" (defArgs s_law_coin) (defBody s_law_coin) (defScope s_law_coin) .none kV_law_coin dc_law_coin pm_law_coin an_law_coin cd_law_coin ct_law_coin), sl_law_coin⟩)
    (c_law_coin : PySem.W.codeIn K cd_law_coin "_law_coin" = true)
    (k_law_coin : PySem.W.keepIn K (.ref f_law_coin) = true)
    (a_law_pick : PySem.W.nsIn K mainGlobals "_law_pick" = some (some (.ref f_law_pick)))
    (l_law_pick : K.lookup f_law_pick = some ⟨oc_law_pick, od_law_pick, .func (PySem.W.fnOf "_law_pick" "_law_pick" (defArgs s_law_pick) (defBody s_law_pick) (defScope s_law_pick) .none kV_law_pick dc_law_pick pm_law_pick an_law_pick cd_law_pick ct_law_pick), sl_law_pick⟩)
    (c_law_pick : PySem.W.codeIn K cd_law_pick "_law_pick" = true)
    (k_law_pick : PySem.W.keepIn K (.ref f_law_pick) = true)
    (a_law_weight : PySem.W.nsIn K mainGlobals "_law_weight" = some (some (.ref f_law_weight)))
    (l_law_weight : K.lookup f_law_weight = some ⟨oc_law_weight, od_law_weight, .func (PySem.W.fnOf "_law_weight" "_law_weight" (defArgs s_law_weight) (defBody s_law_weight) (defScope s_law_weight) .none kV_law_weight dc_law_weight pm_law_weight an_law_weight cd_law_weight ct_law_weight), sl_law_weight⟩)
    (c_law_weight : PySem.W.codeIn K cd_law_weight "_law_weight" = true)
    (k_law_weight : PySem.W.keepIn K (.ref f_law_weight) = true)
    (a_law_places : PySem.W.nsIn K mainGlobals "_law_places" = some (some (.ref f_law_places)))
    (l_law_places : K.lookup f_law_places = some ⟨oc_law_places, od_law_places, .func (PySem.W.fnOf "_law_places" "_law_places" (defArgs s_law_places) (defBody s_law_places) (defScope s_law_places) .none kV_law_places dc_law_places pm_law_places an_law_places cd_law_places ct_law_places), sl_law_places⟩)
    (c_law_places : PySem.W.codeIn K cd_law_places "_law_places" = true)
    (k_law_places : PySem.W.keepIn K (.ref f_law_places) = true)
    (a_law_samples : PySem.W.nsIn K mainGlobals "_law_samples" = some (some (.ref f_law_samples)))
    (l_law_samples : K.lookup f_law_samples = some ⟨oc_law_samples, od_law_samples, .func (PySem.W.fnOf "_law_samples" "_law_samples" (defArgs s_law_samples) (defBody s_law_samples) (defScope s_law_samples) .none kV_law_samples dc_law_samples pm_law_samples an_law_samples cd_law_samples ct_law_samples), sl_law_samples⟩)
    (c_law_samples : PySem.W.codeIn K cd_law_samples "_law_samples" = true)
    (k_law_samples : PySem.W.keepIn K (.ref f_law_samples) = true)
    (a_law_waves : PySem.W.nsIn K mainGlobals "_law_waves" = some (some (.ref f_law_waves)))
    (l_law_waves : K.lookup f_law_waves = some ⟨oc_law_waves, od_law_waves, .func (PySem.W.fnOf "_law_waves" "_law_waves" (defArgs s_law_waves) (defBody s_law_waves) (defScope s_law_waves) .none kV_law_waves dc_law_waves pm_law_waves an_law_waves cd_law_waves ct_law_waves), sl_law_waves⟩)
    (c_law_waves : PySem.W.codeIn K cd_law_waves "_law_waves" = true)
    (k_law_waves : PySem.W.keepIn K (.ref f_law_waves) = true)
    (a_law_within : PySem.W.nsIn K mainGlobals "_law_within" = some (some (.ref f_law_within)))
    (l_law_within : K.lookup f_law_within = some ⟨oc_law_within, od_law_within, .func (PySem.W.fnOf "_law_within" "_law_within" (defArgs s_law_within) (defBody s_law_within) (defScope s_law_within) .none kV_law_within dc_law_within pm_law_within an_law_within cd_law_within ct_law_within), sl_law_within⟩)
    (c_law_within : PySem.W.codeIn K cd_law_within "_law_within" = true)
    (k_law_within : PySem.W.keepIn K (.ref f_law_within) = true)
    (a_law_entries : PySem.W.nsIn K mainGlobals "_law_entries" = some (some (.ref f_law_entries)))
    (l_law_entries : K.lookup f_law_entries = some ⟨oc_law_entries, od_law_entries, .func (PySem.W.fnOf "_law_entries" "_law_entries" (defArgs s_law_entries) (defBody s_law_entries) (defScope s_law_entries) .none kV_law_entries dc_law_entries pm_law_entries an_law_entries cd_law_entries ct_law_entries), sl_law_entries⟩)
    (c_law_entries : PySem.W.codeIn K cd_law_entries "_law_entries" = true)
    (k_law_entries : PySem.W.keepIn K (.ref f_law_entries) = true)
    (a_law_block : PySem.W.nsIn K mainGlobals "_law_block" = some (some (.ref f_law_block)))
    (l_law_block : K.lookup f_law_block = some ⟨oc_law_block, od_law_block, .func (PySem.W.fnOf "_law_block" "_law_block" (defArgs s_law_block) (defBody s_law_block) (defScope s_law_block) .none kV_law_block dc_law_block pm_law_block an_law_block cd_law_block ct_law_block), sl_law_block⟩)
    (c_law_block : PySem.W.codeIn K cd_law_block "_law_block" = true)
    (k_law_block : PySem.W.keepIn K (.ref f_law_block) = true)
    (a_law_nearest : PySem.W.nsIn K mainGlobals "_law_nearest" = some (some (.ref f_law_nearest)))
    (l_law_nearest : K.lookup f_law_nearest = some ⟨oc_law_nearest, od_law_nearest, .func (PySem.W.fnOf "_law_nearest" "_law_nearest" (defArgs s_law_nearest) (defBody s_law_nearest) (defScope s_law_nearest) .none kV_law_nearest dc_law_nearest pm_law_nearest an_law_nearest cd_law_nearest ct_law_nearest), sl_law_nearest⟩)
    (c_law_nearest : PySem.W.codeIn K cd_law_nearest "_law_nearest" = true)
    (k_law_nearest : PySem.W.keepIn K (.ref f_law_nearest) = true)
    (a_law_said_right : PySem.W.nsIn K mainGlobals "_law_said_right" = some (some (.ref f_law_said_right)))
    (l_law_said_right : K.lookup f_law_said_right = some ⟨oc_law_said_right, od_law_said_right, .func (PySem.W.fnOf "_law_said_right" "_law_said_right" (defArgs s_law_said_right) (defBody s_law_said_right) (defScope s_law_said_right) .none kV_law_said_right dc_law_said_right pm_law_said_right an_law_said_right cd_law_said_right ct_law_said_right), sl_law_said_right⟩)
    (c_law_said_right : PySem.W.codeIn K cd_law_said_right "_law_said_right" = true)
    (k_law_said_right : PySem.W.keepIn K (.ref f_law_said_right) = true)
    (a_law_right : PySem.W.nsIn K mainGlobals "_law_right" = some (some (.ref f_law_right)))
    (l_law_right : K.lookup f_law_right = some ⟨oc_law_right, od_law_right, .func (PySem.W.fnOf "_law_right" "_law_right" (defArgs s_law_right) (defBody s_law_right) (defScope s_law_right) .none kV_law_right dc_law_right pm_law_right an_law_right cd_law_right ct_law_right), sl_law_right⟩)
    (c_law_right : PySem.W.codeIn K cd_law_right "_law_right" = true)
    (k_law_right : PySem.W.keepIn K (.ref f_law_right) = true)
    (a_law : PySem.W.nsIn K mainGlobals "law" = some (some (.ref f_law)))
    (l_law : K.lookup f_law = some ⟨oc_law, od_law, .func (PySem.W.fnOf "law" "law" (defArgs s_law) (defBody s_law) (defScope s_law) .none kV_law dc_law pm_law an_law cd_law ct_law), sl_law⟩)
    (c_law : PySem.W.codeIn K cd_law "law" = true)
    (k_law : PySem.W.keepIn K (.ref f_law) = true)
    (b_abs : PySem.W.nsIn K mainGlobals "abs" = some none)
    (b_all : PySem.W.nsIn K mainGlobals "all" = some none)
    (b_bool : PySem.W.nsIn K mainGlobals "bool" = some none)
    (b_enumerate : PySem.W.nsIn K mainGlobals "enumerate" = some none)
    (b_int : PySem.W.nsIn K mainGlobals "int" = some none)
    (b_isinstance : PySem.W.nsIn K mainGlobals "isinstance" = some none)
    (b_len : PySem.W.nsIn K mainGlobals "len" = some none)
    (b_list : PySem.W.nsIn K mainGlobals "list" = some none)
    (b_max : PySem.W.nsIn K mainGlobals "max" = some none)
    (b_min : PySem.W.nsIn K mainGlobals "min" = some none)
    (b_range : PySem.W.nsIn K mainGlobals "range" = some none)
    (b_repr : PySem.W.nsIn K mainGlobals "repr" = some none)
    (b_sum : PySem.W.nsIn K mainGlobals "sum" = some none)
    (b_tuple : PySem.W.nsIn K mainGlobals "tuple" = some none)
    (b_zip : PySem.W.nsIn K mainGlobals "zip" = some none)
    (v_BITS : PySem.W.nsIn K mainGlobals "BITS" = some (some (.int 26 t_BITS)))
    (v_FLAT : PySem.W.nsIn K mainGlobals "FLAT" = some (some (.int 2896 t_FLAT)))
    (v_LEAST_ENTRY : PySem.W.nsIn K mainGlobals "LEAST_ENTRY" = some (some (.int 16 t_LEAST_ENTRY)))
    (v_MOST_AWAY : PySem.W.nsIn K mainGlobals "MOST_AWAY" = some (some (.int 5 t_MOST_AWAY)))
    (v_MOST_ENTRY : PySem.W.nsIn K mainGlobals "MOST_ENTRY" = some (some (.int 65535 t_MOST_ENTRY)))
    (v_SIDE : PySem.W.nsIn K mainGlobals "SIDE" = some (some (.int 8 t_SIDE)))
    (v_WAVES : PySem.W.nsIn K mainGlobals "WAVES" = some (some (.ref t_WAVES)))
    (vl_WAVES : K.lookup t_WAVES = some ⟨.type "tuple", to_WAVES, .seq ti_WAVES tc_WAVES, ts_WAVES⟩)
    (vd_WAVES : valDs ti_WAVES.toList = some [.int 4096, .int 4017, .int 3784, .int 3406, .int 2896, .int 2276, .int 1567, .int 799, .int 0])
    (vz_WAVES : ti_WAVES.size ≤ sizeLine)
    (xa_PicError : PySem.W.nsIn K mainGlobals "PicError" = some (some (.ref x_PicError)))
    (xe_PicError : PySem.W.subIn K (.ref x_PicError) (.type "BaseException") = some true)
    (xt_PicError : PySem.W.typeIn K (.ref x_PicError) = some (.type "type"))
    (xi_PicError : PySem.W.isClsIn K x_PicError = true)
    (xa_NoSamples : PySem.W.nsIn K mainGlobals "NoSamples" = some (some (.ref x_NoSamples)))
    (xe_NoSamples : PySem.W.subIn K (.ref x_NoSamples) (.type "BaseException") = some true)
    (xt_NoSamples : PySem.W.typeIn K (.ref x_NoSamples) = some (.type "type"))
    (xi_NoSamples : PySem.W.isClsIn K x_NoSamples = true)
    (xop : PySem.W.nsIn K PySem.cStatics "thirdparty.any" = some none)
    (xms : PySem.W.nsIn K mainGlobals "super" = some none)
    (xL_NoSamples : K.lookup x_NoSamples = some (excClassObj nm_NoSamples q_NoSamples x_NoSamples N_NoSamples bs_NoSamples [.ref x_PicError, .type "ValueError", .type "Exception", .type "BaseException", .type "object"] true sn_NoSamples sub_NoSamples ab_NoSamples col_NoSamples dd_NoSamples m0_NoSamples m1_NoSamples m2_NoSamples m3_NoSamples m5_NoSamples "ValueError.__new__"))
    (sa_NoSamples : PySem.W.findIn K (.ref x_NoSamples) "__setattr__" = some (some (.builtin "object.__setattr__")))
    (ga_NoSamples : PySem.W.findIn K (.ref x_NoSamples) "__getattribute__" = some (some (.builtin "BaseException.__getattribute__")))
    (gg_NoSamples : PySem.W.findIn K (.ref x_NoSamples) "__getattr__" = some none)
    (no_NoSamples_part : PySem.W.findIn K (.ref x_NoSamples) "part" = some none)
    (kC_NoSamples : PySem.W.keepIn K (.ref x_NoSamples) = true)
    (hC_NoSamples : PySem.W.hasDictIn K x_NoSamples = true)
    (iC_NoSamples : PySem.W.findIn K (.ref x_NoSamples) "__init__" = some (some (.ref i_NoSamples)))
    (tI_NoSamples : PySem.W.typeIn K (.ref i_NoSamples) = some (.type "function"))
    (lI_NoSamples : K.lookup i_NoSamples = some ⟨oc_NoSamples, od_NoSamples, .func (PySem.W.fnX "__init__" "NoSamples.__init__" (defArgs si_NoSamples) (defBody si_NoSamples) (defScope si_NoSamples) [("__class__", cc_NoSamples)] .none .none doc_NoSamples pm_NoSamples an_NoSamples (.ref cda_NoSamples) ct_NoSamples), osl_NoSamples⟩)
    (cI_NoSamples : PySem.W.codeIn K (.ref cda_NoSamples) "NoSamples.__init__" = true)
    (lc_NoSamples : K.lookup cda_NoSamples = some ⟨ccl_NoSamples, cdd_NoSamples, .fields vs_NoSamples, ccs_NoSamples⟩)
    (vf_NoSamples : vs_NoSamples[2]? = some (.str "/claim/cut.py" tf_NoSamples))
    (lcc_NoSamples : K.lookup cc_NoSamples = some ⟨cl_NoSamples, cld_NoSamples, .cell (some (.ref x_NoSamples)), csl_NoSamples⟩)
    (su_NoSamples : PySem.W.ks_superIn K x_NoSamples x_NoSamples "__init__" = some (some (.builtin "ValueError.__init__")))
    (sv_NoSamples : PySem.W.subIn K (.ref x_NoSamples) (.type "ValueError") = some true)
    (ss_NoSamples : PySem.W.mroIn K x_NoSamples (.ref x_NoSamples) = some true)
    (s_NoSamples_PicError : PySem.W.subIn K (.ref x_NoSamples) (.ref x_PicError) = some true)
    (s_NoSamples_NoSamples : PySem.W.subIn K (.ref x_NoSamples) (.ref x_NoSamples) = some true) :
    ∃ (fd : FuncData) (ts : List Tb) (sp : MSp), (ts.map (·.P)).Nodup ∧ (∀ t ∈ ts, PySem.W.tabIn K t.x = some (t.c, t.P) ∧ K.lookup t.P = none ∧ (recsOf q).any (fun e => e.name == t.x) = true) ∧ LawOkT 63 ts sp ∧
      (∀ (s : Shared) (v : Value), BindsTo s fd ⟨[v], []⟩ [("_law_script", v)]) ∧ ∀ base : Heap, K.In base → base.Ns mainGlobals mg → (∀ t ∈ ts, LamX.TabB base mg t.c t.P) → FnM PySem.Challenge.rw_blockpics_k89_blocks_that_have_samples.prog w K mg base 10 fa fd ["_law_script"] sp := by
  have e : f_law = fa := by
    have z := hfa.symm.trans (PySem.W.mg_of X G a_law)
    cases z
    rfl
  subst e
  have nof_NoSamples : ∀ f ∈ (["part"] : List Str), PySem.W.findIn K (.ref x_NoSamples) f = some none := by
    intro f hf
    simp only [List.mem_cons, List.not_mem_nil, or_false] at hf
    subst hf
    · exact no_NoSamples_part
  have T : Txt PySem.Challenge.rw_blockpics_k89_blocks_that_have_samples.prog w K mg { f_zigzag_places := f_zigzag_places, e_zigzag_places := (PySem.W.fnOf "zigzag_places" "zigzag_places" (defArgs s_zigzag_places) (defBody s_zigzag_places) (defScope s_zigzag_places) .none kV_zigzag_places dc_zigzag_places pm_zigzag_places an_zigzag_places cd_zigzag_places ct_zigzag_places), f_is_integer := f_is_integer, e_is_integer := (PySem.W.fnOf "is_integer" "is_integer" (defArgs s_is_integer) (defBody s_is_integer) (defScope s_is_integer) .none kV_is_integer dc_is_integer pm_is_integer an_is_integer cd_is_integer ct_is_integer), f_is_from := f_is_from, e_is_from := (PySem.W.fnOf "is_from" "is_from" (defArgs s_is_from) (defBody s_is_from) (defScope s_is_from) .none kV_is_from dc_is_from pm_is_from an_is_from cd_is_from ct_is_from), f_are_from := f_are_from, e_are_from := (PySem.W.fnOf "are_from" "are_from" (defArgs s_are_from) (defBody s_are_from) (defScope s_are_from) .none kV_are_from dc_are_from pm_are_from an_are_from cd_are_from ct_are_from), f_wave := f_wave, e_wave := (PySem.W.fnOf "wave" "wave" (defArgs s_wave) (defBody s_wave) (defScope s_wave) .none kV_wave dc_wave pm_wave an_wave cd_wave ct_wave), f_weight_of := f_weight_of, e_weight_of := (PySem.W.fnOf "weight_of" "weight_of" (defArgs s_weight_of) (defBody s_weight_of) (defScope s_weight_of) .none kV_weight_of dc_weight_of pm_weight_of an_weight_of cd_weight_of ct_weight_of), f_steps_of := f_steps_of, e_steps_of := (PySem.W.fnOf "steps_of" "steps_of" (defArgs s_steps_of) (defBody s_steps_of) (defScope s_steps_of) .none kV_steps_of dc_steps_of pm_steps_of an_steps_of cd_steps_of ct_steps_of), f_sums_of := f_sums_of, e_sums_of := (PySem.W.fnOf "sums_of" "sums_of" (defArgs s_sums_of) (defBody s_sums_of) (defScope s_sums_of) .none kV_sums_of dc_sums_of pm_sums_of an_sums_of cd_sums_of ct_sums_of), f_cut := f_cut, e_cut := (PySem.W.fnOf "cut" "cut" (defArgs s_cut) (defBody s_cut) (defScope s_cut) .none kV_cut dc_cut pm_cut an_cut cd_cut ct_cut), f_samples_of := f_samples_of, e_samples_of := (PySem.W.fnOf "samples_of" "samples_of" (defArgs s_samples_of) (defBody s_samples_of) (defScope s_samples_of) .none kV_samples_of dc_samples_of pm_samples_of an_samples_of cd_samples_of ct_samples_of), f_check_samples := f_check_samples, e_check_samples := (PySem.W.fnOf "check_samples" "check_samples" (defArgs s_check_samples) (defBody s_check_samples) (defScope s_check_samples) .none kV_check_samples dc_check_samples pm_check_samples an_check_samples cd_check_samples ct_check_samples), f_waves_of := f_waves_of, e_waves_of := (PySem.W.fnOf "waves_of" "waves_of" (defArgs s_waves_of) (defBody s_waves_of) (defScope s_waves_of) .none kV_waves_of dc_waves_of pm_waves_of an_waves_of cd_waves_of ct_waves_of), f_waves := f_waves, e_waves := (PySem.W.fnOf "waves" "waves" (defArgs s_waves) (defBody s_waves) (defScope s_waves) .none kV_waves dc_waves pm_waves an_waves cd_waves ct_waves), f_block_if := f_block_if, e_block_if := (PySem.W.fnOf "block_if" "block_if" (defArgs s_block_if) (defBody s_block_if) (defScope s_block_if) .none kV_block_if dc_block_if pm_block_if an_block_if cd_block_if ct_block_if), f_again := f_again, e_again := (PySem.W.fnOf "again" "again" (defArgs s_again) (defBody s_again) (defScope s_again) .none kV_again dc_again pm_again an_again cd_again ct_again), f_law_purse := f_law_purse, e_law_purse := (PySem.W.fnOf "_law_purse" "_law_purse" (defArgs s_law_purse) (defBody s_law_purse) (defScope s_law_purse) .none kV_law_purse dc_law_purse pm_law_purse an_law_purse cd_law_purse ct_law_purse), f_law_coin := f_law_coin, e_law_coin := (PySem.W.fnOf "_law_coin" "_law_coin" (defArgs s_law_coin) (defBody s_law_coin) (defScope s_law_coin) .none kV_law_coin dc_law_coin pm_law_coin an_law_coin cd_law_coin ct_law_coin), f_law_pick := f_law_pick, e_law_pick := (PySem.W.fnOf "_law_pick" "_law_pick" (defArgs s_law_pick) (defBody s_law_pick) (defScope s_law_pick) .none kV_law_pick dc_law_pick pm_law_pick an_law_pick cd_law_pick ct_law_pick), f_law_weight := f_law_weight, e_law_weight := (PySem.W.fnOf "_law_weight" "_law_weight" (defArgs s_law_weight) (defBody s_law_weight) (defScope s_law_weight) .none kV_law_weight dc_law_weight pm_law_weight an_law_weight cd_law_weight ct_law_weight), f_law_places := f_law_places, e_law_places := (PySem.W.fnOf "_law_places" "_law_places" (defArgs s_law_places) (defBody s_law_places) (defScope s_law_places) .none kV_law_places dc_law_places pm_law_places an_law_places cd_law_places ct_law_places), f_law_samples := f_law_samples, e_law_samples := (PySem.W.fnOf "_law_samples" "_law_samples" (defArgs s_law_samples) (defBody s_law_samples) (defScope s_law_samples) .none kV_law_samples dc_law_samples pm_law_samples an_law_samples cd_law_samples ct_law_samples), f_law_waves := f_law_waves, e_law_waves := (PySem.W.fnOf "_law_waves" "_law_waves" (defArgs s_law_waves) (defBody s_law_waves) (defScope s_law_waves) .none kV_law_waves dc_law_waves pm_law_waves an_law_waves cd_law_waves ct_law_waves), f_law_within := f_law_within, e_law_within := (PySem.W.fnOf "_law_within" "_law_within" (defArgs s_law_within) (defBody s_law_within) (defScope s_law_within) .none kV_law_within dc_law_within pm_law_within an_law_within cd_law_within ct_law_within), f_law_entries := f_law_entries, e_law_entries := (PySem.W.fnOf "_law_entries" "_law_entries" (defArgs s_law_entries) (defBody s_law_entries) (defScope s_law_entries) .none kV_law_entries dc_law_entries pm_law_entries an_law_entries cd_law_entries ct_law_entries), f_law_block := f_law_block, e_law_block := (PySem.W.fnOf "_law_block" "_law_block" (defArgs s_law_block) (defBody s_law_block) (defScope s_law_block) .none kV_law_block dc_law_block pm_law_block an_law_block cd_law_block ct_law_block), f_law_nearest := f_law_nearest, e_law_nearest := (PySem.W.fnOf "_law_nearest" "_law_nearest" (defArgs s_law_nearest) (defBody s_law_nearest) (defScope s_law_nearest) .none kV_law_nearest dc_law_nearest pm_law_nearest an_law_nearest cd_law_nearest ct_law_nearest), f_law_said_right := f_law_said_right, e_law_said_right := (PySem.W.fnOf "_law_said_right" "_law_said_right" (defArgs s_law_said_right) (defBody s_law_said_right) (defScope s_law_said_right) .none kV_law_said_right dc_law_said_right pm_law_said_right an_law_said_right cd_law_said_right ct_law_said_right), f_law_right := f_law_right, e_law_right := (PySem.W.fnOf "_law_right" "_law_right" (defArgs s_law_right) (defBody s_law_right) (defScope s_law_right) .none kV_law_right dc_law_right pm_law_right an_law_right cd_law_right ct_law_right), f_law := f_law, e_law := (PySem.W.fnOf "law" "law" (defArgs s_law) (defBody s_law) (defScope s_law) .none kV_law dc_law pm_law an_law cd_law ct_law), t_BITS := t_BITS, t_FLAT := t_FLAT, t_LEAST_ENTRY := t_LEAST_ENTRY, t_MOST_AWAY := t_MOST_AWAY, t_MOST_ENTRY := t_MOST_ENTRY, t_SIDE := t_SIDE, t_WAVES := t_WAVES, x_PicError := x_PicError, i_PicError := 0, x_NoSamples := x_NoSamples, i_NoSamples := i_NoSamples } := {
    g_zigzag_places := PySem.W.mg_of X G a_zigzag_places
    F_zigzag_places := fun_mk (st := s_zigzag_places) l_zigzag_places c_zigzag_places k_zigzag_places
    g_is_integer := PySem.W.mg_of X G a_is_integer
    F_is_integer := fun_mk (st := s_is_integer) l_is_integer c_is_integer k_is_integer
    g_is_from := PySem.W.mg_of X G a_is_from
    F_is_from := fun_mk (st := s_is_from) l_is_from c_is_from k_is_from
    g_are_from := PySem.W.mg_of X G a_are_from
    F_are_from := fun_mk (st := s_are_from) l_are_from c_are_from k_are_from
    g_wave := PySem.W.mg_of X G a_wave
    F_wave := fun_mk (st := s_wave) l_wave c_wave k_wave
    g_weight_of := PySem.W.mg_of X G a_weight_of
    F_weight_of := fun_mk (st := s_weight_of) l_weight_of c_weight_of k_weight_of
    g_steps_of := PySem.W.mg_of X G a_steps_of
    F_steps_of := fun_mk (st := s_steps_of) l_steps_of c_steps_of k_steps_of
    g_sums_of := PySem.W.mg_of X G a_sums_of
    F_sums_of := fun_mk (st := s_sums_of) l_sums_of c_sums_of k_sums_of
    g_cut := PySem.W.mg_of X G a_cut
    F_cut := fun_mk (st := s_cut) l_cut c_cut k_cut
    g_samples_of := PySem.W.mg_of X G a_samples_of
    F_samples_of := fun_mk (st := s_samples_of) l_samples_of c_samples_of k_samples_of
    g_check_samples := PySem.W.mg_of X G a_check_samples
    F_check_samples := fun_mk (st := s_check_samples) l_check_samples c_check_samples k_check_samples
    g_waves_of := PySem.W.mg_of X G a_waves_of
    F_waves_of := fun_mk (st := s_waves_of) l_waves_of c_waves_of k_waves_of
    g_waves := PySem.W.mg_of X G a_waves
    F_waves := fun_mk (st := s_waves) l_waves c_waves k_waves
    g_block_if := PySem.W.mg_of X G a_block_if
    F_block_if := fun_mk (st := s_block_if) l_block_if c_block_if k_block_if
    g_again := PySem.W.mg_of X G a_again
    F_again := fun_mk (st := s_again) l_again c_again k_again
    g_law_purse := PySem.W.mg_of X G a_law_purse
    F_law_purse := fun_mk (st := s_law_purse) l_law_purse c_law_purse k_law_purse
    g_law_coin := PySem.W.mg_of X G a_law_coin
    F_law_coin := fun_mk (st := s_law_coin) l_law_coin c_law_coin k_law_coin
    g_law_pick := PySem.W.mg_of X G a_law_pick
    F_law_pick := fun_mk (st := s_law_pick) l_law_pick c_law_pick k_law_pick
    g_law_weight := PySem.W.mg_of X G a_law_weight
    F_law_weight := fun_mk (st := s_law_weight) l_law_weight c_law_weight k_law_weight
    g_law_places := PySem.W.mg_of X G a_law_places
    F_law_places := fun_mk (st := s_law_places) l_law_places c_law_places k_law_places
    g_law_samples := PySem.W.mg_of X G a_law_samples
    F_law_samples := fun_mk (st := s_law_samples) l_law_samples c_law_samples k_law_samples
    g_law_waves := PySem.W.mg_of X G a_law_waves
    F_law_waves := fun_mk (st := s_law_waves) l_law_waves c_law_waves k_law_waves
    g_law_within := PySem.W.mg_of X G a_law_within
    F_law_within := fun_mk (st := s_law_within) l_law_within c_law_within k_law_within
    g_law_entries := PySem.W.mg_of X G a_law_entries
    F_law_entries := fun_mk (st := s_law_entries) l_law_entries c_law_entries k_law_entries
    g_law_block := PySem.W.mg_of X G a_law_block
    F_law_block := fun_mk (st := s_law_block) l_law_block c_law_block k_law_block
    g_law_nearest := PySem.W.mg_of X G a_law_nearest
    F_law_nearest := fun_mk (st := s_law_nearest) l_law_nearest c_law_nearest k_law_nearest
    g_law_said_right := PySem.W.mg_of X G a_law_said_right
    F_law_said_right := fun_mk (st := s_law_said_right) l_law_said_right c_law_said_right k_law_said_right
    g_law_right := PySem.W.mg_of X G a_law_right
    F_law_right := fun_mk (st := s_law_right) l_law_right c_law_right k_law_right
    g_law := PySem.W.mg_of X G a_law
    F_law := fun_mk (st := s_law) l_law c_law k_law
    n_abs := PySem.W.mg_none_of X G b_abs
    n_all := PySem.W.mg_none_of X G b_all
    n_bool := PySem.W.mg_none_of X G b_bool
    n_enumerate := PySem.W.mg_none_of X G b_enumerate
    n_int := PySem.W.mg_none_of X G b_int
    n_isinstance := PySem.W.mg_none_of X G b_isinstance
    n_len := PySem.W.mg_none_of X G b_len
    n_list := PySem.W.mg_none_of X G b_list
    n_max := PySem.W.mg_none_of X G b_max
    n_min := PySem.W.mg_none_of X G b_min
    n_range := PySem.W.mg_none_of X G b_range
    n_repr := PySem.W.mg_none_of X G b_repr
    n_sum := PySem.W.mg_none_of X G b_sum
    n_tuple := PySem.W.mg_none_of X G b_tuple
    n_zip := PySem.W.mg_none_of X G b_zip
    c_BITS := PySem.W.mg_of X G v_BITS
    c_FLAT := PySem.W.mg_of X G v_FLAT
    c_LEAST_ENTRY := PySem.W.mg_of X G v_LEAST_ENTRY
    c_MOST_AWAY := PySem.W.mg_of X G v_MOST_AWAY
    c_MOST_ENTRY := PySem.W.mg_of X G v_MOST_ENTRY
    c_SIDE := PySem.W.mg_of X G v_SIDE
    c_WAVES := PySem.W.mg_of X G v_WAVES
    d_WAVES := constT vl_WAVES vd_WAVES vz_WAVES
    gx_PicError := PySem.W.mg_of X G xa_PicError
    gx_NoSamples := PySem.W.mg_of X G xa_NoSamples
    x_NoSamples := { gC := PySem.W.mg_of X G xa_NoSamples, ox := ⟨⟨_, _, _, _, _, _, _, _, _, _, _, _, _, _, _, xL_NoSamples, rfl⟩, sa_NoSamples, xe_NoSamples, xt_NoSamples, kC_NoSamples⟩, iC := iC_NoSamples, tI := tI_NoSamples, su := su_NoSamples, sv := sv_NoSamples, ss := ss_NoSamples, op := xop, ms := PySem.W.mg_none_of X G xms, tp := (by decide +kernel), fn := ⟨si_NoSamples, _, _, _, _, _, _, _, _, _, _, _, _, _, _, _, _, _, _, _, xd_NoSamples, lI_NoSamples, cI_NoSamples, lc_NoSamples, vf_NoSamples, (by decide +kernel), lcc_NoSamples⟩, noF := nof_NoSamples }
    y_NoSamples := ⟨ga_NoSamples, gg_NoSamples, hC_NoSamples⟩
    ex_PicError := fun c hc => by
      simp only [List.mem_cons, List.not_mem_nil, or_false] at hc
      subst hc
      · exact exm_of xe_PicError xi_PicError xt_PicError s_NoSamples_PicError
    ex_NoSamples := fun c hc => by
      simp only [List.mem_cons, List.not_mem_nil, or_false] at hc
      subst hc
      · exact exm_of xe_NoSamples xi_NoSamples xt_NoSamples s_NoSamples_NoSamples }
  exact ⟨_, [], sp_law, List.nodup_nil, (fun t ht => by cases ht), law_true, (fun s v => .of_eq rfl), fun base _ _ _ => ok_law T⟩

end K89
open PySem PySem.W PyProof.Rows in
set_option maxRecDepth 100000 in
set_option maxHeartbeats 0 in
theorem PySem.Challenge.cw_blockpics_k89_blocks_that_have_samples_holds : PySem.Challenge.rw_blockpics_k89_blocks_that_have_samples.Holds := by
  w_on; o_law; k_head; (case hw => w_witness2)
  k_fill
  refine BP.walk_bp (l := PySem.Challenge.rw_blockpics_k89_blocks_that_have_samples) (k := 10) (x := "_law_script") rfl (by decide) rfl ⟨rfl, by decide, by decide⟩ (fun w h Y => PySem.W.kIn_of Y) ?F
  case F =>
    intro w mg fa h KX G hmg
    refine' K89.all_mk KX G hmg ?a_zigzag_places ?l_zigzag_places ?c_zigzag_places ?k_zigzag_places ?a_is_integer ?l_is_integer ?c_is_integer ?k_is_integer ?a_is_from ?l_is_from ?c_is_from ?k_is_from ?a_are_from ?l_are_from ?c_are_from ?k_are_from ?a_wave ?l_wave ?c_wave ?k_wave ?a_weight_of ?l_weight_of ?c_weight_of ?k_weight_of ?a_steps_of ?l_steps_of ?c_steps_of ?k_steps_of ?a_sums_of ?l_sums_of ?c_sums_of ?k_sums_of ?a_cut ?l_cut ?c_cut ?k_cut ?a_samples_of ?l_samples_of ?c_samples_of ?k_samples_of ?a_check_samples ?l_check_samples ?c_check_samples ?k_check_samples ?a_waves_of ?l_waves_of ?c_waves_of ?k_waves_of ?a_waves ?l_waves ?c_waves ?k_waves ?a_block_if ?l_block_if ?c_block_if ?k_block_if ?a_again ?l_again ?c_again ?k_again ?a_law_purse ?l_law_purse ?c_law_purse ?k_law_purse ?a_law_coin ?l_law_coin ?c_law_coin ?k_law_coin ?a_law_pick ?l_law_pick ?c_law_pick ?k_law_pick ?a_law_weight ?l_law_weight ?c_law_weight ?k_law_weight ?a_law_places ?l_law_places ?c_law_places ?k_law_places ?a_law_samples ?l_law_samples ?c_law_samples ?k_law_samples ?a_law_waves ?l_law_waves ?c_law_waves ?k_law_waves ?a_law_within ?l_law_within ?c_law_within ?k_law_within ?a_law_entries ?l_law_entries ?c_law_entries ?k_law_entries ?a_law_block ?l_law_block ?c_law_block ?k_law_block ?a_law_nearest ?l_law_nearest ?c_law_nearest ?k_law_nearest ?a_law_said_right ?l_law_said_right ?c_law_said_right ?k_law_said_right ?a_law_right ?l_law_right ?c_law_right ?k_law_right ?a_law ?l_law ?c_law ?k_law ?b_abs ?b_all ?b_bool ?b_enumerate ?b_int ?b_isinstance ?b_len ?b_list ?b_max ?b_min ?b_range ?b_repr ?b_sum ?b_tuple ?b_zip ?v_BITS ?v_FLAT ?v_LEAST_ENTRY ?v_MOST_AWAY ?v_MOST_ENTRY ?v_SIDE ?v_WAVES ?vl_WAVES ?vd_WAVES ?vz_WAVES ?xa_PicError ?xe_PicError ?xt_PicError ?xi_PicError ?xa_NoSamples ?xe_NoSamples ?xt_NoSamples ?xi_NoSamples ?xop ?xms ?xL_NoSamples ?sa_NoSamples ?ga_NoSamples ?gg_NoSamples ?no_NoSamples_part ?kC_NoSamples ?hC_NoSamples ?iC_NoSamples ?tI_NoSamples ?lI_NoSamples ?cI_NoSamples ?lc_NoSamples ?vf_NoSamples ?lcc_NoSamples ?su_NoSamples ?sv_NoSamples ?ss_NoSamples ?s_NoSamples_PicError ?s_NoSamples_NoSamples
    (case a_zigzag_places => k_is)
    (case l_zigzag_places => k_is)
    (case c_zigzag_places => k_is)
    (case k_zigzag_places => k_is)
    (case a_is_integer => k_is)
    (case l_is_integer => k_is)
    (case c_is_integer => k_is)
    (case k_is_integer => k_is)
    (case a_is_from => k_is)
    (case l_is_from => k_is)
    (case c_is_from => k_is)
    (case k_is_from => k_is)
    (case a_are_from => k_is)
    (case l_are_from => k_is)
    (case c_are_from => k_is)
    (case k_are_from => k_is)
    (case a_wave => k_is)
    (case l_wave => k_is)
    (case c_wave => k_is)
    (case k_wave => k_is)
    (case a_weight_of => k_is)
    (case l_weight_of => k_is)
    (case c_weight_of => k_is)
    (case k_weight_of => k_is)
    (case a_steps_of => k_is)
    (case l_steps_of => k_is)
    (case c_steps_of => k_is)
    (case k_steps_of => k_is)
    (case a_sums_of => k_is)
    (case l_sums_of => k_is)
    (case c_sums_of => k_is)
    (case k_sums_of => k_is)
    (case a_cut => k_is)
    (case l_cut => k_is)
    (case c_cut => k_is)
    (case k_cut => k_is)
    (case a_samples_of => k_is)
    (case l_samples_of => k_is)
    (case c_samples_of => k_is)
    (case k_samples_of => k_is)
    (case a_check_samples => k_is)
    (case l_check_samples => k_is)
    (case c_check_samples => k_is)
    (case k_check_samples => k_is)
    (case a_waves_of => k_is)
    (case l_waves_of => k_is)
    (case c_waves_of => k_is)
    (case k_waves_of => k_is)
    (case a_waves => k_is)
    (case l_waves => k_is)
    (case c_waves => k_is)
    (case k_waves => k_is)
    (case a_block_if => k_is)
    (case l_block_if => k_is)
    (case c_block_if => k_is)
    (case k_block_if => k_is)
    (case a_again => k_is)
    (case l_again => k_is)
    (case c_again => k_is)
    (case k_again => k_is)
    (case a_law_purse => k_is)
    (case l_law_purse => k_is)
    (case c_law_purse => k_is)
    (case k_law_purse => k_is)
    (case a_law_coin => k_is)
    (case l_law_coin => k_is)
    (case c_law_coin => k_is)
    (case k_law_coin => k_is)
    (case a_law_pick => k_is)
    (case l_law_pick => k_is)
    (case c_law_pick => k_is)
    (case k_law_pick => k_is)
    (case a_law_weight => k_is)
    (case l_law_weight => k_is)
    (case c_law_weight => k_is)
    (case k_law_weight => k_is)
    (case a_law_places => k_is)
    (case l_law_places => k_is)
    (case c_law_places => k_is)
    (case k_law_places => k_is)
    (case a_law_samples => k_is)
    (case l_law_samples => k_is)
    (case c_law_samples => k_is)
    (case k_law_samples => k_is)
    (case a_law_waves => k_is)
    (case l_law_waves => k_is)
    (case c_law_waves => k_is)
    (case k_law_waves => k_is)
    (case a_law_within => k_is)
    (case l_law_within => k_is)
    (case c_law_within => k_is)
    (case k_law_within => k_is)
    (case a_law_entries => k_is)
    (case l_law_entries => k_is)
    (case c_law_entries => k_is)
    (case k_law_entries => k_is)
    (case a_law_block => k_is)
    (case l_law_block => k_is)
    (case c_law_block => k_is)
    (case k_law_block => k_is)
    (case a_law_nearest => k_is)
    (case l_law_nearest => k_is)
    (case c_law_nearest => k_is)
    (case k_law_nearest => k_is)
    (case a_law_said_right => k_is)
    (case l_law_said_right => k_is)
    (case c_law_said_right => k_is)
    (case k_law_said_right => k_is)
    (case a_law_right => k_is)
    (case l_law_right => k_is)
    (case c_law_right => k_is)
    (case k_law_right => k_is)
    (case a_law => k_is)
    (case l_law => k_is)
    (case c_law => k_is)
    (case k_law => k_is)
    (case b_abs => k_is)
    (case b_all => k_is)
    (case b_bool => k_is)
    (case b_enumerate => k_is)
    (case b_int => k_is)
    (case b_isinstance => k_is)
    (case b_len => k_is)
    (case b_list => k_is)
    (case b_max => k_is)
    (case b_min => k_is)
    (case b_range => k_is)
    (case b_repr => k_is)
    (case b_sum => k_is)
    (case b_tuple => k_is)
    (case b_zip => k_is)
    (case v_BITS => k_is)
    (case v_FLAT => k_is)
    (case v_LEAST_ENTRY => k_is)
    (case v_MOST_AWAY => k_is)
    (case v_MOST_ENTRY => k_is)
    (case v_SIDE => k_is)
    (case v_WAVES => k_is)
    (case vl_WAVES => k_is)
    (case vd_WAVES => rfl)
    (case vz_WAVES => decide)
    (case xa_PicError => k_is)
    (case xe_PicError => k_is)
    (case xt_PicError => k_is)
    (case xi_PicError => k_is)
    (case xa_NoSamples => k_is)
    (case xe_NoSamples => k_is)
    (case xt_NoSamples => k_is)
    (case xi_NoSamples => k_is)
    (case xop => k_is)
    (case xms => k_is)
    (case xL_NoSamples => k_is)
    (case sa_NoSamples => k_is)
    (case ga_NoSamples => k_is)
    (case gg_NoSamples => k_is)
    (case no_NoSamples_part => k_is)
    (case kC_NoSamples => k_is)
    (case hC_NoSamples => k_is)
    (case iC_NoSamples => k_is)
    (case tI_NoSamples => k_is)
    (case lI_NoSamples => k_is)
    (case cI_NoSamples => k_is)
    (case lc_NoSamples => k_is)
    (case vf_NoSamples => rfl)
    (case lcc_NoSamples => k_is)
    (case su_NoSamples => ks_is)
    (case sv_NoSamples => k_is)
    (case ss_NoSamples => k_is)
    (case s_NoSamples_PicError => k_is)
    (case s_NoSamples_NoSamples => k_is)

