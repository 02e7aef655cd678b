import PyProof.Rows.All
import Wide.All
import OpenK.AllK
import Wide.FinOn
import HandS.ForMost
import HandS.ForExc
import HandS.IsInst
import HandS.Walk
import HandS.Wide
import HandS.EndBits
import HandS.Flow
import HandS.Lambda
import HandS.EndTab
import HandS.TupAny
import HandS.TupMul
import HandS.WideBits
import KE.GoesNew
import KE.GoesEnumKw
import KE.GoesMore
import HandS.Defaults
import HandS.CallSlots
import PyProof.ReprRoads
import HandS.ExcInit
import KE.KExcSuper
import HandS.ExcIs
import KE.RegKSuper
import HandS.Deep
import HandS.Style
import HandS.Zip
import KE.KExcIs
import KE.KDflt
import HandS.SortInts
import HandS.SortRule
import HandS.TupSets
import HandS.Strs
import HandS.More
import HandS.WordsDict
import HandS.Conv
import HandS.SetFor
import HandS.Star
import PyProof.MaxThree
import PyProof.Rows.CallKwBuiltin
import PyProof.Rows.CallKw2
import HandS.ListItems
import HandS.Finally
import PyProof.AutoSeq1
import KE.GoesEnum
import KE.BitLaws
import KE.KMinBuiltin
import HandS.SortKw
import HandS.SetBool
import HandS.TryOnly
import KE.KTupSum
import HandS.DeepEq
import PyProof.NeKinds
import HandS.ExcValue
import HandS.ExcCtx
import HandS.HotCalls
import HandS.SuiteRaise
import HandS.ExcInitHot
import KE.KAsSuite
import HandS.Text
import HandS.FStr
import HandS.Iter
import HandS.DictComp
import PyProof.DictUpdate
import HandS.ReplaceLit
import KE.SortKeyHeap
import KE.DataMinMax
import PyProof.Rows.RowBridgeK
import PySem.Challenge.RW_blockpics_k23_whole_least_tables_of_many
set_option Elab.async false
set_option linter.all false
set_option maxRecDepth 100000
set_option maxHeartbeats 1000000
set_option maxRecDepth 100000
set_option maxHeartbeats 4000000
namespace BP
open PySem PySem.Spec PyProof.Rows L2

inductive D where
  | non | bl (b : Bool) | int (i : Int) | str (x : Str) | ty (n : String)
  | tup (ds : List D) | lst (ds : List D) | dct (kvs : List (Key × D)) | scr (ns : List Int) | dcl (kvs : List (Key × D))
  | ref (a : Addr) | exc (a dd : Addr) (n : String) (fs : List (Str × D))

inductive Cell where
  | lst (ds : List D) | dct (kvs : List (Key × D)) | ins (C : Addr) (fs : List (Str × D)) | tbl (q : Str)
  | dcT (kvs : List (List Key × D))
  | exv (C : Addr) (n : String) (fs : List (Str × D))

abbrev MH := Addr → Option Cell
def mupd (h : MH) (a : Addr) (c : Cell) : MH := fun b => if b = a then some c else h b
def mdel (h : MH) (a : Addr) : MH := fun b => if b = a then none else h b
theorem mupd_same {h : MH} {a : Addr} {c : Cell} : mupd h a c a = some c := by unfold mupd; rw [if_pos rfl]
theorem mupd_ne {h : MH} {a b : Addr} {c : Cell} (n : b ≠ a) : mupd h a c b = h b := by unfold mupd; rw [if_neg n]
theorem mupd_upd {h : MH} {a : Addr} {c d : Cell} : mupd (mupd h a c) a d = mupd h a d := by
  funext b; unfold mupd; split <;> rfl
theorem mdel_upd {h : MH} {a : Addr} {c : Cell} (n : h a = none) : mdel (mupd h a c) a = h := by
  funext b; unfold mdel mupd
  by_cases e : b = a
  · rw [if_pos e, e, n]
  · rw [if_neg e, if_neg e]

def SqU (K : PySem.W.Frag) (F : Hp) (a : Addr) (xs : List V) : Prop :=
  F a = some (.tup xs) ∨
    ∃ (o : Obj) (its : Array Value) (n : Nat), K.lookup a = some o ∧ o.cls = .type "tuple" ∧ o.data = .seq its n ∧ its.size ≤ sizeLine ∧ Vals xs its.toList
theorem SqU.sqT {K : PySem.W.Frag} {F : Hp} {a : Addr} {xs : List V} (h : SqU K F a xs) : SqT K F a xs := by
  rcases h with h | h
  · exact .inl (.inl h)
  · exact .inr h
theorem SqU.of {K : PySem.W.Frag} {F : Hp} {a : Addr} {xs : List V} (h : F a = some (.tup xs)) : SqU K F a xs := .inl h
mutual
inductive RD (K : PySem.W.Frag) (F : Hp) : D → V → Prop
  | non : RD K F .non .non
  | bl (b : Bool) : RD K F (.bl b) (.bl b)
  | int (i : Int) : RD K F (.int i) (.int i)
  | str (x : Str) : RD K F (.str x) (.str x)
  | ty (n : String) : RD K F (.ty n) (.ty n)
  | ref (a : Addr) : RD K F (.ref a) (.ref a)
  | tup {a : Addr} {xs : List V} {ds : List D} : SqU K F a xs → RDs K F ds xs → RD K F (.tup ds) (.ref a)
  | lst {a : Addr} {xs : List V} {ds : List D} : F a = some (.lst xs) → RDs K F ds xs → RD K F (.lst ds) (.ref a)
  | scr {a : Addr} {ns : List Int} : SqL K F a (ns.map V.int) → RD K F (.scr ns) (.ref a)
  | dct {a : Addr} {xs : List (Key × V)} {ds : List (Key × D)} : F a = some (.dK xs) → RDk K F ds xs → RD K F (.dct ds) (.ref a)
  | dcl {a : Addr} {o : Obj} {xs : List (Key × V)} {ds : List (Key × D)} : F a = some (.frz o (.dK xs)) → RDk K F ds xs → RD K F (.dcl ds) (.ref a)
  | exc {a dd : Addr} {n : String} {gs : List (Str × V)} {fs : List (Str × D)} : F dd = some (.xd gs) → RDf K F fs gs → RD K F (.exc a dd n fs) (.ref a)
inductive RDs (K : PySem.W.Frag) (F : Hp) : List D → List V → Prop
  | nil : RDs K F [] []
  | cons {d : D} {v : V} {ds : List D} {vs : List V} : RD K F d v → RDs K F ds vs → RDs K F (d :: ds) (v :: vs)
inductive RDk (K : PySem.W.Frag) (F : Hp) : List (Key × D) → List (Key × V) → Prop
  | nil : RDk K F [] []
  | cons {k : Key} {d : D} {v : V} {ds : List (Key × D)} {vs : List (Key × V)} : RD K F d v → RDk K F ds vs → RDk K F ((k, d) :: ds) ((k, v) :: vs)
inductive RDf (K : PySem.W.Frag) (F : Hp) : List (Str × D) → List (Str × V) → Prop
  | nil : RDf K F [] []
  | cons {k : Str} {d : D} {v : V} {ds : List (Str × D)} {vs : List (Str × V)} : RD K F d v → RDf K F ds vs → RDf K F ((k, d) :: ds) ((k, v) :: vs)
end

theorem Same.rd {H H' : Hp} {a : Addr} {u : HO} (e : Same H H') (h : Rd H a u) : Rd H' a u := by
  rcases h with h | ⟨o, h⟩
  · exact .inl (e a _ h)
  · exact .inr ⟨o, e a _ h⟩
theorem Same.sqL {K : PySem.W.Frag} {H H' : Hp} {a : Addr} {xs : List V} (e : Same H H') (h : SqL K H a xs) : SqL K H' a xs := by
  rcases h with h | h
  · exact .inl (Same.rd e h)
  · exact .inr h
theorem Same.sqU {K : PySem.W.Frag} {H H' : Hp} {a : Addr} {xs : List V} (e : Same H H') (h : SqU K H a xs) : SqU K H' a xs := by
  rcases h with h | h
  · exact .inl (e a _ h)
  · exact .inr h
theorem Same.sqT {K : PySem.W.Frag} {H H' : Hp} {a : Addr} {xs : List V} (e : Same H H') (h : SqU K H a xs) : SqT K H' a xs := (Same.sqU e h).sqT

section
variable {K : PySem.W.Frag} {F F' : Hp}
mutual
theorem RD.mono (e : Same F F') : ∀ {d : D} {v : V}, RD K F d v → RD K F' d v
  | _, _, .non => .non
  | _, _, .bl b => .bl b
  | _, _, .int i => .int i
  | _, _, .str x => .str x
  | _, _, .ty n => .ty n
  | _, _, .ref a => .ref a
  | _, _, .tup h r => .tup (Same.sqU e h) (RDs.mono e r)
  | _, _, .lst h r => .lst (e _ _ h) (RDs.mono e r)
  | _, _, .scr h => .scr (Same.sqL e h)
  | _, _, .dct h r => .dct (e _ _ h) (RDk.mono e r)
  | _, _, .dcl h r => .dcl (e _ _ h) (RDk.mono e r)
  | _, _, .exc h r => .exc (e _ _ h) (RDf.mono e r)
theorem RDs.mono (e : Same F F') : ∀ {d : List D} {v : List V}, RDs K F d v → RDs K F' d v
  | _, _, .nil => .nil
  | _, _, .cons h r => .cons (RD.mono e h) (RDs.mono e r)
theorem RDk.mono (e : Same F F') : ∀ {d : List (Key × D)} {v : List (Key × V)}, RDk K F d v → RDk K F' d v
  | _, _, .nil => .nil
  | _, _, .cons h r => .cons (RD.mono e h) (RDk.mono e r)
theorem RDf.mono (e : Same F F') : ∀ {d : List (Str × D)} {v : List (Str × V)}, RDf K F d v → RDf K F' d v
  | _, _, .nil => .nil
  | _, _, .cons h r => .cons (RD.mono e h) (RDf.mono e r)
end
theorem RDs.length : ∀ {d : List D} {v : List V}, RDs K F d v → d.length = v.length
  | _, _, .nil => rfl
  | _, _, .cons _ r => by rw [List.length_cons, List.length_cons, RDs.length r]
theorem RDs.get : ∀ {ds : List D} {vs : List V} {i : Nat} {d : D}, RDs K F ds vs → ds[i]? = some d → ∃ v, vs[i]? = some v ∧ RD K F d v
  | _, _, _, _, .nil, e => by simp at e
  | _, _, 0, _, .cons h _, e => by simp at e; subst e; exact ⟨_, rfl, h⟩
  | _, _, i + 1, d, .cons _ r, e => by
    obtain ⟨v, h1, h2⟩ := RDs.get (i := i) (d := d) r (by simpa using e)
    exact ⟨v, by simpa using h1, h2⟩
theorem RDs.append : ∀ {ds es : List D} {vs ws : List V}, RDs K F ds vs → RDs K F es ws → RDs K F (ds ++ es) (vs ++ ws)
  | _, _, _, _, .nil, s => s
  | _, _, _, _, .cons h r, s => .cons h (RDs.append r s)
theorem RDs.take : ∀ {ds : List D} {vs : List V} (n : Nat), RDs K F ds vs → RDs K F (ds.take n) (vs.take n)
  | _, _, 0, _ => .nil
  | _, _, _ + 1, .nil => .nil
  | _, _, n + 1, .cons h r => .cons h (RDs.take n r)
theorem RDs.drop : ∀ {ds : List D} {vs : List V} (n : Nat), RDs K F ds vs → RDs K F (ds.drop n) (vs.drop n)
  | _, _, 0, r => r
  | _, _, _ + 1, .nil => .nil
  | _, _, n + 1, .cons _ r => RDs.drop n r
theorem RDs.set {d : D} {v : V} (h : RD K F d v) : ∀ {ds : List D} {vs : List V} (i : Nat), RDs K F ds vs → RDs K F (ds.set i d) (vs.set i v)
  | _, _, _, .nil => .nil
  | _, _, 0, .cons _ r => .cons h r
  | _, _, i + 1, .cons q r => .cons q (RDs.set h i r)
theorem RDs.rep {ds : List D} {vs : List V} (r : RDs K F ds vs) : ∀ n : Nat, RDs K F (List.replicate n ds).flatten (List.replicate n vs).flatten
  | 0 => by simpa using RDs.nil
  | n + 1 => by
    rw [List.replicate_succ, List.replicate_succ, List.flatten_cons, List.flatten_cons]
    exact r.append (RDs.rep r n)
theorem RDf.look {f : Str} {d : D} : ∀ {fs : List (Str × D)} {gs : List (Str × V)}, RDf K F fs gs → fs.lookup f = some d → ∃ v, gs.lookup f = some v ∧ RD K F d v
  | _, _, .nil, e => by simp at e
  | _, _, .cons (k := k) h r, e => by
    rw [List.lookup_cons] at e
    by_cases hk : f == k
    · rw [hk] at e
      simp only [Option.some.injEq] at e
      subst e
      exact ⟨_, by rw [List.lookup_cons, hk], h⟩
    · have hk' : (f == k) = false := by simpa using hk
      rw [hk'] at e
      obtain ⟨v, h1, h2⟩ := RDf.look r e
      exact ⟨v, by rw [List.lookup_cons, hk']; exact h1, h2⟩
end

inductive RDt (K : PySem.W.Frag) (F : Hp) : List (List Key × D) → List (List Key × V) → Prop
  | nil : RDt K F [] []
  | cons {k : List Key} {d : D} {v : V} {ds : List (List Key × D)} {vs : List (List Key × V)} : RD K F d v → RDt K F ds vs → RDt K F ((k, d) :: ds) ((k, v) :: vs)
theorem RDt.mono {K : PySem.W.Frag} {F F' : Hp} (e : Same F F') : ∀ {ds : List (List Key × D)} {vs : List (List Key × V)}, RDt K F ds vs → RDt K F' ds vs
  | _, _, .nil => .nil
  | _, _, .cons r t => .cons (r.mono e) (RDt.mono e t)
def ExV (C dd a : Addr) : HO := .ext fun h => ∃ (oe : Obj) (vs : Array Value), h.get? a = some oe ∧ Zc (.ref C) (some dd) oe ∧ oe.data = .fields vs
def CellR (K : PySem.W.Frag) (F H : Hp) (a : Addr) : Cell → Prop
  | .lst ds => ∃ xs, H a = some (.lst xs) ∧ RDs K F ds xs
  | .dct kvs => ∃ xs, H a = some (.dK xs) ∧ RDk K F kvs xs
  | .ins C fs => ∃ dx gs, H a = some (.ins C dx gs) ∧ RDf K F fs gs
  | .tbl q => ∃ ps : Array Value, H a = some (.tbl ps) ∧ TriplesOk ps.toList ∧ ∀ (pos : Pos) (cv : Value), codeAmong pos ps.toList = some cv → ∃ c, cv = .ref c ∧ F c = some (LamX.CodeO c q)
  | .dcT kvs => ∃ xs, H a = some (.dT xs) ∧ RDt K F kvs xs
  | .exv C _ fs => ∃ dd gs, H a = some (ExV C dd a) ∧ F dd = some (.xd gs) ∧ RDf K F fs gs
theorem CellR.mono {K : PySem.W.Frag} {F F' H H' : Hp} {a : Addr} {c : Cell} (x : CellR K F H a c) (e : Same F F') (k : H' a = H a) : CellR K F' H' a c := by
  cases c with
  | lst ds => obtain ⟨xs, h, r⟩ := x; exact ⟨xs, k.trans h, r.mono e⟩
  | dct ds => obtain ⟨xs, h, r⟩ := x; exact ⟨xs, k.trans h, r.mono e⟩
  | dcT ds => obtain ⟨xs, h, r⟩ := x; exact ⟨xs, k.trans h, r.mono e⟩
  | exv C n fs => obtain ⟨dd, gs, h, f, r⟩ := x; exact ⟨dd, gs, k.trans h, e _ _ f, r.mono e⟩
  | ins C fs => obtain ⟨dx, gs, h, r⟩ := x; exact ⟨dx, gs, k.trans h, r.mono e⟩
  | tbl q =>
    obtain ⟨ps, h, t, r⟩ := x
    refine ⟨ps, k.trans h, t, fun pos cv z => ?_⟩
    obtain ⟨c, e1, e2⟩ := r pos cv z
    exact ⟨c, e1, e _ _ e2⟩
theorem CellR.some {K : PySem.W.Frag} {F H : Hp} {a : Addr} {c : Cell} (x : CellR K F H a c) : ∃ o, H a = some o := by
  cases c with
  | lst ds => obtain ⟨xs, h, r⟩ := x; exact ⟨_, h⟩
  | dct ds => obtain ⟨xs, h, r⟩ := x; exact ⟨_, h⟩
  | dcT ds => obtain ⟨xs, h, r⟩ := x; exact ⟨_, h⟩
  | exv C n fs => obtain ⟨dd, gs, h, f, r⟩ := x; exact ⟨_, h⟩
  | ins C fs => obtain ⟨dx, gs, h, r⟩ := x; exact ⟨_, h⟩
  | tbl q => obtain ⟨ps, h, t, r⟩ := x; exact ⟨_, h⟩

structure SR (K : PySem.W.Frag) (F H : Hp) (h : MH) : Prop where
  fr : Same F H
  cell : ∀ a c, h a = some c → F a = none ∧ CellR K F H a c
structure Go (K : PySem.W.Frag) (F H : Hp) (h : MH) (F' H' : Hp) (h' : MH) : Prop where
  ss : Same F F'
  hid : ∀ a o, H a = some o → F a = none → h a = none → F' a = none ∧ h' a = none ∧ H' a = some o
  sr : SR K F' H' h'
theorem Go.refl {K : PySem.W.Frag} {F H : Hp} {h : MH} (s : SR K F H h) : Go K F H h F H h := ⟨Same.refl F, fun _ _ e f m => ⟨f, m, e⟩, s⟩
theorem Go.trans {K : PySem.W.Frag} {F H F1 H1 F2 H2 : Hp} {h h1 h2 : MH} (a : Go K F H h F1 H1 h1) (b : Go K F1 H1 h1 F2 H2 h2) : Go K F H h F2 H2 h2 :=
  ⟨a.ss.trans b.ss, fun p o e f m => by obtain ⟨f1, m1, e1⟩ := a.hid p o e f m; exact b.hid p o e1 f1 m1, b.sr⟩
section
variable {K : PySem.W.Frag} {F H : Hp} {h : MH} {p a : Addr}
theorem SR.freeF (s : SR K F H h) (n : H p = none) : F p = none := s.fr.free n
theorem SR.freeM (s : SR K F H h) (n : H p = none) : h p = none := by
  cases e : h p with
  | none => rfl
  | some c =>
    obtain ⟨o, q⟩ := (s.cell p c e).2.some
    rw [n] at q; cases q
theorem same_upd {H : Hp} {p : Addr} {o : HO} (n : H p = none) : Same H (upd H p o) := fun b x e => by
  rw [upd_ne (ne_of_none e n)]
  exact e
theorem Go.settled {o : HO} (s : SR K F H h) (n : H p = none) : Go K F H h (upd F p o) (upd H p o) h := by
  have nF := s.freeF n
  have nM := s.freeM n
  refine ⟨same_upd nF, fun b x e f m => ?_, ⟨fun b x e => ?_, fun b c e => ?_⟩⟩
  · have hb : b ≠ p := ne_of_none e n
    exact ⟨by rw [upd_ne hb]; exact f, m, by rw [upd_ne hb]; exact e⟩
  · by_cases hb : b = p
    · subst hb; rw [upd_same] at e ⊢; exact e
    · rw [upd_ne hb] at e ⊢; exact s.fr b x e
  · have hb : b ≠ p := fun z => by rw [z, nM] at e; cases e
    obtain ⟨f, r⟩ := s.cell b c e
    exact ⟨by rw [upd_ne hb]; exact f, r.mono (same_upd nF) (upd_ne hb)⟩
theorem Go.fresh {o : HO} {c : Cell} (s : SR K F H h) (n : H p = none) (r : CellR K F (upd H p o) p c) : Go K F H h F (upd H p o) (mupd h p c) := by
  have nF := s.freeF n
  refine ⟨Same.refl F, fun b x e f m => ?_, ⟨fun b x e => ?_, fun b d e => ?_⟩⟩
  · have hb : b ≠ p := ne_of_none e n
    exact ⟨f, by rw [mupd_ne hb]; exact m, by rw [upd_ne hb]; exact e⟩
  · have hb : b ≠ p := fun z => by rw [z, nF] at e; cases e
    rw [upd_ne hb]; exact s.fr b x e
  · by_cases hb : b = p
    · subst hb; rw [mupd_same] at e; cases e; exact ⟨nF, r⟩
    · rw [mupd_ne hb] at e
      obtain ⟨f, q⟩ := s.cell b d e
      exact ⟨f, q.mono (Same.refl F) (upd_ne hb)⟩
theorem Go.write {o : HO} {c c0 : Cell} (s : SR K F H h) (m : h a = some c0) (r : CellR K F (upd H a o) a c) : Go K F H h F (upd H a o) (mupd h a c) := by
  have nF := (s.cell a c0 m).1
  refine ⟨Same.refl F, fun b x e f n => ?_, ⟨fun b x e => ?_, fun b d e => ?_⟩⟩
  · have hb : b ≠ a := fun z => by rw [z, m] at n; cases n
    exact ⟨f, by rw [mupd_ne hb]; exact n, by rw [upd_ne hb]; exact e⟩
  · have hb : b ≠ a := fun z => by rw [z, nF] at e; cases e
    rw [upd_ne hb]; exact s.fr b x e
  · by_cases hb : b = a
    · subst hb; rw [mupd_same] at e; cases e; exact ⟨nF, r⟩
    · rw [mupd_ne hb] at e
      obtain ⟨f, q⟩ := s.cell b d e
      exact ⟨f, q.mono (Same.refl F) (upd_ne hb)⟩
theorem Go.settle {o : HO} {c0 : Cell} (s : SR K F H h) (m : h a = some c0) (e0 : H a = some o) : Go K F H h (upd F a o) H (mdel h a) := by
  have nF := (s.cell a c0 m).1
  refine ⟨same_upd nF, fun b x e f n => ?_, ⟨fun b x e => ?_, fun b d e => ?_⟩⟩
  · have hb : b ≠ a := fun z => by rw [z, m] at n; cases n
    exact ⟨by rw [upd_ne hb]; exact f, by unfold mdel; rw [if_neg hb]; exact n, e⟩
  · by_cases hb : b = a
    · subst hb; rw [upd_same] at e; cases e; exact e0
    · rw [upd_ne hb] at e; exact s.fr b x e
  · have hb : b ≠ a := fun z => by unfold mdel at e; rw [if_pos z] at e; cases e
    unfold mdel at e; rw [if_neg hb] at e
    obtain ⟨f, q⟩ := s.cell b d e
    exact ⟨by rw [upd_ne hb]; exact f, q.mono (same_upd nF) rfl⟩
end

structure Bs where
  F : Hp
  H : Hp
  h : MH
structure Bd (K : PySem.W.Frag) (B : Bs) (F H : Hp) (h : MH) : Prop where
  all : Go K B.F B.H B.h F H h
theorem Bd.sr {K : PySem.W.Frag} {B : Bs} {F H : Hp} {h : MH} (b : Bd K B F H h) : SR K F H h := b.all.sr
theorem Bd.fr {K : PySem.W.Frag} {B : Bs} {F H : Hp} {h : MH} (b : Bd K B F H h) : Same F H := b.all.sr.fr
theorem Bd.cell {K : PySem.W.Frag} {B : Bs} {F H : Hp} {h : MH} (b : Bd K B F H h) : ∀ a c, h a = some c → F a = none ∧ CellR K F H a c := b.all.sr.cell
theorem Bd.go {K : PySem.W.Frag} {B : Bs} {F H F1 H1 : Hp} {h h1 : MH} (b : Bd K B F H h) (g : Go K F H h F1 H1 h1) : Bd K B F1 H1 h1 := ⟨b.all.trans g⟩
instance {K : PySem.W.Frag} {B : Bs} {F H : Hp} {h : MH} : CoeOut (Bd K B F H h) (SR K F H h) := ⟨Bd.sr⟩
abbrev MSt := List (Option D)
abbrev MQ := D → MH → Prop
abbrev WE := MSt → MH → MQ → Prop
abbrev WT := MSt → MH → (Bool → MH → Prop) → Prop
abbrev WA := MSt → MH → (List D → MH → Prop) → Prop
structure MEnds where
  nx : MSt → MH → Prop
  rt : MQ
  bk : MSt → MH → Prop := fun _ _ => False
  ct : MSt → MH → Prop := fun _ _ => False
abbrev WS := MEnds → MSt → MH → Prop

structure LR (K : PySem.W.Frag) (F : Hp) (σd : MSt) (σ : L2.St) : Prop where
  len : σd.length = σ.length
  get : ∀ (i : Nat) (d : D), σd[i]? = some (some d) → ∃ v, σ[i]? = some (some v) ∧ RD K F d v
theorem LR.mono {K : PySem.W.Frag} {F F' : Hp} {σd : MSt} {σ : L2.St} (l : LR K F σd σ) (e : Same F F') : LR K F' σd σ :=
  ⟨l.len, fun i d q => by obtain ⟨v, h, r⟩ := l.get i d q; exact ⟨v, h, r.mono e⟩⟩
theorem LR.set {K : PySem.W.Frag} {F : Hp} {σd : MSt} {σ : L2.St} {d : D} {v : V} (l : LR K F σd σ) (r : RD K F d v) (i : Nat) : LR K F (σd.set i (some d)) (σ.set i (some v)) := by
  refine ⟨by rw [List.length_set, List.length_set, l.len], fun j e q => ?_⟩
  rw [List.getElem?_set] at q
  rw [List.getElem?_set]
  by_cases hij : i = j
  · rw [if_pos hij] at q ⊢
    by_cases hl : i < σd.length
    · rw [if_pos hl] at q
      rw [if_pos (by rw [← l.len]; exact hl)]
      simp only [Option.some.injEq] at q
      subst q
      exact ⟨v, rfl, r⟩
    · rw [if_neg hl] at q; cases q
  · rw [if_neg hij] at q ⊢
    exact l.get j e q

def ContV (K : PySem.W.Frag) (F H : Hp) (h : MH) (Q' : MQ) (Q : VK) : Prop := ∀ F' H' h' d v, Go K F H h F' H' h' → RD K F' d v → Q' d h' → Q v H'
def ContA (K : PySem.W.Frag) (F H : Hp) (h : MH) (Q' : List D → MH → Prop) (Q : List V → Hp → Prop) : Prop := ∀ F' H' h' d v, Go K F H h F' H' h' → RDs K F' d v → Q' d h' → Q v H'
def ContT (K : PySem.W.Frag) (F H : Hp) (h : MH) (Q' : Bool → MH → Prop) (Q : Bool → Hp → Prop) : Prop := ∀ F' H' h' b, Go K F H h F' H' h' → Q' b h' → Q b H'
def ContS (K : PySem.W.Frag) (F H : Hp) (h : MH) (Q' : MSt → MH → Prop) (Q : L2.St → Hp → Prop) : Prop := ∀ F' H' h' σd σ, Go K F H h F' H' h' → LR K F' σd σ → Q' σd h' → Q σ H'
structure ContE (K : PySem.W.Frag) (F H : Hp) (h : MH) (D' : MEnds) (E : Ends) : Prop where
  nx : ContS K F H h D'.nx E.nx
  rt : ContV K F H h D'.rt E.rt
  bk : ContS K F H h D'.bk E.bk
  ct : ContS K F H h D'.ct E.ct
section
variable {K : PySem.W.Frag} {F H F1 H1 : Hp} {h h1 : MH}
theorem ContV.go {Q' : MQ} {Q : VK} (c : ContV K F H h Q' Q) (g : Go K F H h F1 H1 h1) : ContV K F1 H1 h1 Q' Q := fun F' H' h' d v g' r q => c F' H' h' d v (g.trans g') r q
theorem ContA.go {Q' : List D → MH → Prop} {Q : List V → Hp → Prop} (c : ContA K F H h Q' Q) (g : Go K F H h F1 H1 h1) : ContA K F1 H1 h1 Q' Q := fun F' H' h' d v g' r q => c F' H' h' d v (g.trans g') r q
theorem ContT.go {Q' : Bool → MH → Prop} {Q : Bool → Hp → Prop} (c : ContT K F H h Q' Q) (g : Go K F H h F1 H1 h1) : ContT K F1 H1 h1 Q' Q := fun F' H' h' b g' q => c F' H' h' b (g.trans g') q
theorem ContS.go {Q' : MSt → MH → Prop} {Q : L2.St → Hp → Prop} (c : ContS K F H h Q' Q) (g : Go K F H h F1 H1 h1) : ContS K F1 H1 h1 Q' Q := fun F' H' h' d v g' r q => c F' H' h' d v (g.trans g') r q
theorem ContE.go {D' : MEnds} {E : Ends} (c : ContE K F H h D' E) (g : Go K F H h F1 H1 h1) : ContE K F1 H1 h1 D' E := ⟨c.nx.go g, c.rt.go g, c.bk.go g, c.ct.go g⟩
end

def lift (K : PySem.W.Frag) (B : Bs) (t : WE) : TE := fun σ H Q => ∃ F h σd Q', LR K F σd σ ∧ Bd K B F H h ∧ t σd h Q' ∧ ContV K F H h Q' Q
def liftT (K : PySem.W.Frag) (B : Bs) (t : WT) : TT := fun σ H Q => ∃ F h σd Q', LR K F σd σ ∧ Bd K B F H h ∧ t σd h Q' ∧ ContT K F H h Q' Q
def liftA (K : PySem.W.Frag) (B : Bs) (t : WA) : TA := fun σ H Q => ∃ F h σd Q', LR K F σd σ ∧ Bd K B F H h ∧ t σd h Q' ∧ ContA K F H h Q' Q
def liftS (K : PySem.W.Frag) (B : Bs) (t : WS) : TS := fun E σ H => ∃ F h σd D', LR K F σd σ ∧ Bd K B F H h ∧ t D' σd h ∧ ContE K F H h D' E

abbrev ME (X : Cx) (B : Bs) (e : Expr) (t : WE) : Prop := PE X e (lift X.K B t)
abbrev MT (X : Cx) (B : Bs) (e : Expr) (t : WT) : Prop := PT X e (liftT X.K B t)
abbrev MA (X : Cx) (B : Bs) (es : List Expr) (t : WA) : Prop := PA X es (liftA X.K B t)
abbrev MS (X : Cx) (B : Bs) (st : Stmt) (t : WS) : Prop := PS X st (liftS X.K B t)
abbrev MSs (X : Cx) (B : Bs) (st : List Stmt) (t : WS) : Prop := PSs X st (liftS X.K B t)

section
variable {X : Cx} {B : Bs}
theorem pe_mono {e : Expr} {t t' : TE} (h : PE X e t) (m : ∀ σ H Q, t' σ H Q → t σ H Q) : PE X e t' := ⟨fun pins s σ H Q I q => h.run pins s σ H Q I (m σ H Q q)⟩
theorem pt_mono {e : Expr} {t t' : TT} (h : PT X e t) (m : ∀ σ H Q, t' σ H Q → t σ H Q) : PT X e t' := ⟨fun pins s σ H Q I q => h.run pins s σ H Q I (m σ H Q q)⟩
theorem pw_mono {e : Expr} {t t' : TT} (h : PW X e t) (m : ∀ σ H Q, t' σ H Q → t σ H Q) : PW X e t' := ⟨fun wh pins s σ H Q I q => h.run wh pins s σ H Q I (m σ H Q q)⟩
theorem pa_mono {e : List Expr} {t t' : TA} (h : PA X e t) (m : ∀ σ H Q, t' σ H Q → t σ H Q) : PA X e t' := ⟨fun pos pins s σ H Q I q => h.run pos pins s σ H Q I (m σ H Q q)⟩
theorem ps_mono {e : Stmt} {t t' : TS} (h : PS X e t) (m : ∀ σ H Q, t' σ H Q → t σ H Q) : PS X e t' := ⟨fun pins s σ H Q I q => h.run pins s σ H Q I (m Q σ H q)⟩
theorem pss_mono {e : List Stmt} {t t' : TS} (h : PSs X e t) (m : ∀ σ H Q, t' σ H Q → t σ H Q) : PSs X e t' := ⟨fun pins s σ H Q I q => h.run pins s σ H Q I (m Q σ H q)⟩

def wVar (i : Nat) : WE := fun σ h Q => match σ[i]? with
  | some (some d) => Q d h
  | _ => False
def wC (d : D) : WE := fun _ h Q => Q d h
theorem m_var (i : Nat) {x : Str} {pos : Pos} (hN : X.N[i]? = some x := by rfl) (hv : Vis X.env.scope x := by first | exact Or.inl rfl | exact Or.inr (Or.inl rfl) | exact Or.inr (Or.inr rfl)) (hd : (x == ("__debug__" : Str)) = false := by decide)
    (hcd : (x == ("__classdict__" : Str)) = false := by decide) : ME X B (.Name x pos) (wVar i) := by
  refine pe_mono (pe_var hN hv hd hcd) fun σ H Q ⟨F, h, σd, Q', l, s, t, c⟩ => ?_
  unfold wVar at t
  split at t
  · rename_i d e
    obtain ⟨v, hv, r⟩ := l.get i d e
    exact ⟨v, hv, c F H h d v (Go.refl s) r t⟩
  · exact t.elim
theorem m_c {e : Expr} {d : D} {v : V} (h : PE X e (tC v)) (r : ∀ F, RD X.K F d v) : ME X B e (wC d) :=
  pe_mono h fun σ H Q ⟨F, h, σd, Q', l, s, t, c⟩ => c F H h d v (Go.refl s) (r F) t
theorem m_int {i j pos} : ME X B (.Constant (.int i) j pos) (wC (.int i)) := m_c pe_int fun _ => .int i
theorem m_bl {b j pos} : ME X B (.Constant (.bool b) j pos) (wC (.bl b)) := m_c pe_bl fun _ => .bl b
theorem m_non {j pos} : ME X B (.Constant .none j pos) (wC .non) := m_c pe_non fun _ => .non
theorem m_str {x j pos} : ME X B (.Constant (.str x) j pos) (wC (.str x)) := m_c pe_str fun _ => .str x
theorem m_glob {x : Str} {d : D} {v : V} {u : Value} {pos : Pos} (hg : Gl X x) (hm : X.mg x = some u) (r : RelV v u) (rd : ∀ F, RD X.K F d v) (hd : (x == ("__debug__" : Str)) = false := by decide) : ME X B (.Name x pos) (wC d) :=
  m_c (pe_glob hg hm r hd) rd
def OpD (K : PySem.W.Frag) (r : R2) (f : D → D → MH → MQ → Prop) : Prop := ∀ F H h x y u v Q' Q, SR K F H h → RD K F x u → RD K F y v → f x y h Q' → ContV K F H h Q' Q → r u v H Q
def wOp (f : D → D → MH → MQ → Prop) (a b : WE) : WE := fun σ h Q => a σ h fun x h1 => b σ h1 fun y h2 => f x y h2 Q
theorem lift_op {f : D → D → MH → MQ → Prop} {r : R2} {ta tb : WE} (hf : OpD X.K r f) : ∀ σ H Q, lift X.K B (wOp f ta tb) σ H Q → tOp r (lift X.K B ta) (lift X.K B tb) σ H Q := fun σ H Q ⟨F, h, σd, Q', l, s, t, c⟩ =>
  ⟨F, h, σd, _, l, s, t, fun F1 H1 h1 x u g1 rx t1 => ⟨F1, h1, σd, _, l.mono g1.ss, s.go g1, t1, fun F2 H2 h2 y v g2 ry t2 =>
    hf F2 H2 h2 x y u v Q' Q g2.sr (rx.mono g2.ss) ry t2 (c.go (g1.trans g2))⟩⟩
theorem m_bin {a b : Expr} {op : Operator} {pos : Pos} {ta tb : WE} {r : R2} {f : D → D → MH → MQ → Prop} (ho : OpR X (binaryOp op) r) (hf : OpD X.K r f) (ha : ME X B a ta) (hb : ME X B b tb) : ME X B (.BinOp a op b pos) (wOp f ta tb) :=
  pe_mono (pe_op ho ha hb) (lift_op hf)
theorem m_cmp {a b : Expr} {op : CmpOp} {pos : Pos} {ta tb : WE} {r : R2} {f : D → D → MH → MQ → Prop} (ho : OpR X (compareOp op) r) (hf : OpD X.K r f) (ha : ME X B a ta) (hb : ME X B b tb) (hm : behindInMarks op b = false := by first | exact nomark _ | with_unfolding_all rfl) :
    ME X B (.Compare a [op] [b] pos) (wOp f ta tb) := pe_mono (pe_cmpR ho ha hb hm) (lift_op hf)
def wTest (t : WE) : WT := fun σ h Q => t σ h fun x h1 => match x with
  | .bl b => Q b h1
  | _ => False
theorem m_tcmp {a b : Expr} {op : CmpOp} {pos : Pos} {ta tb : WE} {r : R2} {f : D → D → MH → MQ → Prop} (ho : OpR X (compareOp op) r) (hf : OpD X.K r f) (ha : ME X B a ta) (hb : ME X B b tb) (hm : behindInMarks op b = false := by first | exact nomark _ | with_unfolding_all rfl) :
    MT X B (.Compare a [op] [b] pos) (wTest (wOp f ta tb)) :=
  pt_mono (pt_cmpR ho ha hb hm) fun σ H Q ⟨F, h, σd, Q', l, s, t, c⟩ => lift_op hf σ H _ ⟨F, h, σd, _, l, s, t, fun F1 H1 h1 x u g1 rx t1 => by
    cases rx with
    | bl b => exact ⟨b, rfl, c F1 H1 h1 b g1 t1⟩
    | _ => exact t1.elim⟩
def UnD (K : PySem.W.Frag) (r : V → Hp → VK → Prop) (f : D → MH → MQ → Prop) : Prop := ∀ F H h x u Q' Q, SR K F H h → RD K F x u → f x h Q' → ContV K F H h Q' Q → r u H Q
def wUn (f : D → MH → MQ → Prop) (a : WE) : WE := fun σ h Q => a σ h fun x h1 => f x h1 Q
theorem m_un {a : Expr} {op : UnaryOp} {pos : Pos} {ta : WE} {r : V → Hp → VK → Prop} {f : D → MH → MQ → Prop} (ho : UnR X (unaryOp op) r) (hf : UnD X.K r f) (ha : ME X B a ta) : ME X B (.UnaryOp op a pos) (wUn f ta) :=
  pe_mono (pe_un ho ha) fun σ H Q ⟨F, h, σd, Q', l, s, t, c⟩ => ⟨F, h, σd, _, l, s, t, fun F1 H1 h1 x u g1 rx t1 => hf F1 H1 h1 x u Q' Q g1.sr rx t1 (c.go g1)⟩
end
end BP

set_option maxRecDepth 100000
set_option maxHeartbeats 4000000
namespace BP
open PySem PySem.Spec PyProof.Rows L2

mutual
def toP : D → Option PyData
  | .non => some .none
  | .bl b => some (.bool b)
  | .int i => some (.int i)
  | .str x => some (.str x)
  | .tup ds => (toPs ds).map .tuple
  | .lst ds => (toPs ds).map .list
  | _ => none
def toPs : List D → Option (List PyData)
  | [] => some []
  | d :: ds => match toP d, toPs ds with
    | some p, some ps => some (p :: ps)
    | _, _ => none
end
mutual
def eqv : D → D → Bool
  | .non, .non => true
  | .bl a, .bl b => a == b
  | .bl a, .int j => (if a then 1 else 0) == j
  | .int i, .bl b => i == (if b then 1 else 0)
  | .int i, .int j => i == j
  | .str x, .str y => x == y
  | .lst xs, .lst ys => eqvs xs ys
  | .tup xs, .tup ys => eqvs xs ys
  | _, _ => false
def eqvs : List D → List D → Bool
  | [], [] => true
  | x :: xs, y :: ys => eqv x y && eqvs xs ys
  | _, _ => false
end
def fit : Nat → D → Bool
  | _, .non => true
  | _, .bl _ => true
  | _, .int _ => true
  | _, .str x => PyData.strOk x
  | n + 1, .tup ds => ds.all (fit n)
  | n + 1, .lst ds => ds.all (fit n)
  | _, _ => false
theorem toPs_of : ∀ {n : Nat} {ds : List D}, (∀ d ∈ ds, ∃ p, toP d = some p ∧ p.canLay0 = true ∧ p.depth ≤ n) → ∃ ps, toPs ds = some ps ∧ PyData.canLayAll0 ps = true ∧ PyData.depthAll ps ≤ n
  | n, [], _ => ⟨[], rfl, rfl, Nat.zero_le _⟩
  | n, d :: ds, h => by
    obtain ⟨p, e, c, l⟩ := h d List.mem_cons_self
    obtain ⟨ps, e2, c2, l2⟩ := toPs_of (n := n) (ds := ds) fun x hx => h x (List.mem_cons_of_mem _ hx)
    refine ⟨p :: ps, ?_, ?_, ?_⟩
    · simp only [toPs, e, e2]
    · simp only [PyData.canLayAll0, c, c2, Bool.and_self]
    · simp only [PyData.depthAll]; omega
theorem toP_of : ∀ (n : Nat) (d : D), fit n d = true → ∃ p, toP d = some p ∧ p.canLay0 = true ∧ p.depth ≤ n
  | n, .non, _ => ⟨_, rfl, rfl, Nat.zero_le _⟩
  | n, .bl _, _ => ⟨_, rfl, rfl, Nat.zero_le _⟩
  | n, .int _, _ => ⟨_, rfl, rfl, Nat.zero_le _⟩
  | n, .str x, h => ⟨_, rfl, by simpa only [fit, PyData.canLay0] using h, Nat.zero_le _⟩
  | n + 1, .tup ds, h => by
    simp only [fit, List.all_eq_true] at h
    obtain ⟨ps, e, c, l⟩ := toPs_of (n := n) fun d hd => toP_of n d (h d hd)
    exact ⟨.tuple ps, by simp only [toP, e, Option.map_some], by simpa only [PyData.canLay0] using c, by simp only [PyData.depth]; omega⟩
  | n + 1, .lst ds, h => by
    simp only [fit, List.all_eq_true] at h
    obtain ⟨ps, e, c, l⟩ := toPs_of (n := n) fun d hd => toP_of n d (h d hd)
    exact ⟨.list ps, by simp only [toP, e, Option.map_some], by simpa only [PyData.canLay0] using c, by simp only [PyData.depth]; omega⟩
  | 0, .tup _, h => by simp [fit] at h
  | 0, .lst _, h => by simp [fit] at h
  | 0, .ty _, h => by simp [fit] at h
  | 0, .dct _, h => by simp [fit] at h
  | 0, .dcl _, h => by simp [fit] at h
  | 0, .scr _, h => by simp [fit] at h
  | 0, .ref _, h => by simp [fit] at h
  | 0, .exc _ _ _ _, h => by simp [fit] at h
  | _ + 1, .ty _, h => by simp [fit] at h
  | _ + 1, .dct _, h => by simp [fit] at h
  | _ + 1, .dcl _, h => by simp [fit] at h
  | _ + 1, .scr _, h => by simp [fit] at h
  | _ + 1, .ref _, h => by simp [fit] at h
  | _ + 1, .exc _ _ _ _, h => by simp [fit] at h
theorem shaped_of {d : D} (h : fit 64 d = true) : ∃ p, toP d = some p ∧ SeqAt.shaped p = true := by
  obtain ⟨p, e, c, l⟩ := toP_of 64 d h
  exact ⟨p, e, by unfold SeqAt.shaped; rw [c, decide_eq_true l]; rfl⟩
mutual
theorem eqv_toP : ∀ (x y : D) (a b : PyData), toP x = some a → toP y = some b → PyData.eqv a b = eqv x y := by
  intro x y a b hx hy
  cases x with
  | tup xs =>
    simp only [toP, Option.map_eq_some_iff] at hx
    obtain ⟨ps, hp, rfl⟩ := hx
    cases y <;> simp only [toP, Option.some.injEq, Option.map_eq_some_iff, reduceCtorEq] at hy
    all_goals first
      | (obtain ⟨qs, hq, rfl⟩ := hy; simp only [PyData.eqv, eqv, eqvs_toPs _ _ _ _ hp hq])
      | (subst hy; simp only [PyData.eqv, eqv])
  | lst xs =>
    simp only [toP, Option.map_eq_some_iff] at hx
    obtain ⟨ps, hp, rfl⟩ := hx
    cases y <;> simp only [toP, Option.some.injEq, Option.map_eq_some_iff, reduceCtorEq] at hy
    all_goals first
      | (obtain ⟨qs, hq, rfl⟩ := hy; simp only [PyData.eqv, eqv, eqvs_toPs _ _ _ _ hp hq])
      | (subst hy; simp only [PyData.eqv, eqv])
  | _ =>
    simp only [toP, Option.some.injEq, reduceCtorEq] at hx <;> (
      subst hx
      cases y <;> simp only [toP, Option.some.injEq, Option.map_eq_some_iff, reduceCtorEq] at hy
      all_goals first
        | (subst hy; simp only [PyData.eqv, eqv])
        | (obtain ⟨qs, hq, rfl⟩ := hy; simp only [PyData.eqv, eqv]))
theorem eqvs_toPs : ∀ (xs ys : List D) (as bs : List PyData), toPs xs = some as → toPs ys = some bs → PyData.eqvAll as bs = eqvs xs ys := by
  intro xs ys as bs hx hy
  cases xs with
  | nil =>
    simp only [toPs, Option.some.injEq] at hx
    subst hx
    cases ys with
    | nil => simp only [toPs, Option.some.injEq] at hy; subst hy; simp only [PyData.eqvAll, eqvs]
    | cons y ys =>
      simp only [toPs] at hy
      split at hy <;> simp only [Option.some.injEq, reduceCtorEq] at hy
      subst hy; simp only [PyData.eqvAll, eqvs]
  | cons x xs =>
    simp only [toPs] at hx
    split at hx <;> simp only [Option.some.injEq, reduceCtorEq] at hx
    rename_i a as' ea eas
    subst hx
    cases ys with
    | nil => simp only [toPs, Option.some.injEq] at hy; subst hy; simp only [PyData.eqvAll, eqvs]
    | cons y ys =>
      simp only [toPs] at hy
      split at hy <;> simp only [Option.some.injEq, reduceCtorEq] at hy
      rename_i b bs' eb ebs
      subst hy
      simp only [PyData.eqvAll, eqvs, eqv_toP x y a b ea eb, eqvs_toPs xs ys as' bs' eas ebs]
end
mutual
theorem RD.dp {K : PySem.W.Frag} {F H : Hp} (e : Same F H) : ∀ {d : D} {v : V} {p : PyData}, RD K F d v → toP d = some p → Dp K H v p
  | _, _, _, .non, h => by simp only [toP, Option.some.injEq] at h; subst h; exact .non
  | _, _, _, .bl b, h => by simp only [toP, Option.some.injEq] at h; subst h; exact .bl b
  | _, _, _, .int i, h => by simp only [toP, Option.some.injEq] at h; subst h; exact .int i
  | _, _, _, .str x, h => by simp only [toP, Option.some.injEq] at h; subst h; exact .str x
  | _, _, _, .tup q r, h => by
    simp only [toP, Option.map_eq_some_iff] at h
    obtain ⟨ps, hp, rfl⟩ := h
    exact .tup (Same.sqT e q) (RDs.dp e r hp)
  | _, _, _, .lst q r, h => by
    simp only [toP, Option.map_eq_some_iff] at h
    obtain ⟨ps, hp, rfl⟩ := h
    exact .lst (SqL.of (e _ _ q)) (RDs.dp e r hp)
  | _, _, _, .ty _, h => by simp [toP] at h
  | _, _, _, .ref _, h => by simp [toP] at h
  | _, _, _, .scr _, h => by simp [toP] at h
  | _, _, _, .dct _ _, h => by simp [toP] at h
  | _, _, _, .dcl _ _, h => by simp [toP] at h
  | _, _, _, .exc _ _, h => by simp [toP] at h
theorem RDs.dp {K : PySem.W.Frag} {F H : Hp} (e : Same F H) : ∀ {d : List D} {v : List V} {p : List PyData}, RDs K F d v → toPs d = some p → DpAll K H v p
  | _, _, _, .nil, h => by simp only [toPs, Option.some.injEq] at h; subst h; exact .nil
  | _, _, _, .cons q r, h => by
    simp only [toPs] at h
    split at h <;> simp only [Option.some.injEq, reduceCtorEq] at h
    subst h
    rename_i a b ea eb
    exact .cons (RD.dp e q ea) (RDs.dp e r eb)
end

def lsOf (h : MH) : D → Option (List D)
  | .lst ds => some ds
  | .ref a => match h a with
    | some (.lst ds) => some ds
    | _ => none
  | _ => none
def sqOf (h : MH) : D → Option (List D)
  | .tup ds => some ds
  | .scr ns => some (ns.map .int)
  | .lst ds => some ds
  | .ref a => match h a with
    | some (.lst ds) => some ds
    | _ => none
  | _ => none
section
variable {K : PySem.W.Frag} {F H : Hp} {h : MH}
theorem RDs.ints : ∀ ns : List Int, RDs K F (ns.map D.int) (ns.map V.int)
  | [] => .nil
  | n :: ns => .cons (.int n) (RDs.ints ns)
theorem ls_rd (s : SR K F H h) {d : D} {v : V} {ds : List D} (r : RD K F d v) (e : lsOf h d = some ds) : ∃ a xs, v = .ref a ∧ H a = some (.lst xs) ∧ RDs K F ds xs := by
  cases r with
  | lst q r => simp only [lsOf, Option.some.injEq] at e; subst e; exact ⟨_, _, rfl, s.fr _ _ q, r⟩
  | ref a =>
    simp only [lsOf] at e
    split at e <;> simp only [Option.some.injEq, reduceCtorEq] at e
    rename_i ds' em
    subst e
    obtain ⟨_, xs, q, r⟩ := s.cell a _ em
    exact ⟨a, xs, rfl, q, r⟩
  | _ => simp [lsOf] at e
theorem sq_rd (s : SR K F H h) {d : D} {v : V} {ds : List D} (r : RD K F d v) (e : sqOf h d = some ds) : ∃ a xs, v = .ref a ∧ (SqL K H a xs ∨ SqT K H a xs) ∧ RDs K F ds xs := by
  cases r with
  | tup q r => simp only [sqOf, Option.some.injEq] at e; subst e; exact ⟨_, _, rfl, .inr (Same.sqT s.fr q), r⟩
  | scr q => simp only [sqOf, Option.some.injEq] at e; subst e; exact ⟨_, _, rfl, .inl (Same.sqL s.fr q), RDs.ints _⟩
  | lst q r => simp only [sqOf, Option.some.injEq] at e; subst e; exact ⟨_, _, rfl, .inl (SqL.of (s.fr _ _ q)), r⟩
  | ref a =>
    simp only [sqOf] at e
    split at e <;> simp only [Option.some.injEq, reduceCtorEq] at e
    rename_i ds' em
    subst e
    obtain ⟨_, xs, q, r⟩ := s.cell a _ em
    exact ⟨a, xs, rfl, .inl (SqL.of q), r⟩
  | _ => simp [sqOf] at e
end
theorem ContV.same {K : PySem.W.Frag} {F H : Hp} {h : MH} {Q' : MQ} {Q : VK} {d : D} {v : V} (c : ContV K F H h Q' Q) (s : SR K F H h) (r : RD K F d v) (q : Q' d h) : Q v H := c F H h d v (Go.refl s) r q
theorem ContV.tup {K : PySem.W.Frag} {F H : Hp} {h : MH} {Q' : MQ} {Q : VK} {ds : List D} {xs : List V} {p : Addr} (c : ContV K F H h Q' Q) (s : SR K F H h) (n : H p = none) (r : RDs K F ds xs) (q : Q' (.tup ds) h) : Q (.ref p) (upd H p (.tup xs)) :=
  c _ _ h _ _ (Go.settled s n) (.tup (SqU.of upd_same) (r.mono (same_upd (s.freeF n)))) q
theorem ContV.lst {K : PySem.W.Frag} {F H : Hp} {h : MH} {Q' : MQ} {Q : VK} {ds : List D} {xs : List V} {p : Addr} (c : ContV K F H h Q' Q) (s : SR K F H h) (n : H p = none) (r : RDs K F ds xs) (q : Q' (.lst ds) h) : Q (.ref p) (upd H p (.lst xs)) :=
  c _ _ h _ _ (Go.settled s n) (.lst upd_same (r.mono (same_upd (s.freeF n)))) q

def opI2 (C : Int → Int → Prop) (g : Int → Int → Int) (x y : D) (h : MH) (Q : MQ) : Prop := match x, y with
  | .int i, .int j => C i j ∧ Q (.int (g i j)) h
  | _, _ => False
theorem opI2_d {K : PySem.W.Frag} {C : Int → Int → Prop} {g : Int → Int → Int} : OpD K (rI C fun i j => .int (g i j)) (opI2 C g) := fun F H h x y u v Q' Q s rx ry t c => by
  cases rx <;> cases ry <;> first | exact t.elim | skip
  rename_i i j
  exact ⟨i, j, rfl, rfl, t.1, c.same s (.int _) t.2⟩
def opB2 (g : Int → Int → Bool) (x y : D) (h : MH) (Q : MQ) : Prop := match x, y with
  | .int i, .int j => Q (.bl (g i j)) h
  | _, _ => False
theorem opB2_d {K : PySem.W.Frag} {g : Int → Int → Bool} : OpD K (rI0 fun i j => .bl (g i j)) (opB2 g) := fun F H h x y u v Q' Q s rx ry t c => by
  cases rx <;> cases ry <;> first | exact t.elim | skip
  rename_i i j
  exact ⟨i, j, rfl, rfl, c.same s (.bl _) t⟩
def opSub (x y : D) (h : MH) (Q : MQ) : Prop := match x, y with
  | .int i, .int j => Q (.int (i - j)) h
  | _, _ => False
theorem opSub_d {K : PySem.W.Frag} : OpD K (rI0 fun i j => .int (i - j)) opSub := fun F H h x y u v Q' Q s rx ry t c => by
  cases rx <;> cases ry <;> first | exact t.elim | skip
  rename_i i j
  exact ⟨i, j, rfl, rfl, c.same s (.int _) t⟩
def opAnd (x y : D) (h : MH) (Q : MQ) : Prop := match x, y with
  | .int i, .int j => Q (.int (Builtin.bitAnd i j)) h
  | _, _ => False
theorem opAnd_d {K : PySem.W.Frag} : OpD K (rI0 fun i j => .int (Builtin.bitAnd i j)) opAnd := fun F H h x y u v Q' Q s rx ry t c => by
  cases rx <;> cases ry <;> first | exact t.elim | skip
  rename_i i j
  exact ⟨i, j, rfl, rfl, c.same s (.int _) t⟩
def opAdd (x y : D) (h : MH) (Q : MQ) : Prop := match x, y with
  | .int i, .int j => Q (.int (i + j)) h
  | .str a, .str b => a.length + b.length ≤ sizeLine ∧ Q (.str (a ++ b)) h
  | .tup a, .tup b => a.length + b.length ≤ sizeLine ∧ Q (.tup (a ++ b)) h
  | x, y => match lsOf h x, lsOf h y with
    | some a, some b => a.length + b.length ≤ sizeLine ∧ Q (.lst (a ++ b)) h
    | _, _ => False
abbrev rAdd (K : PySem.W.Frag) : R2 := fun x y H Q => (((∃ i j, x = .int i ∧ y = .int j ∧ Q (.int (i + j)) H) ∨ (∃ i j, x = .str i ∧ y = .str j ∧ i.length + j.length ≤ sizeLine ∧ Q (.str (i ++ j)) H)) ∨ rCatA K x y H Q) ∨ rCat x y H Q
theorem op_addA {X : Cx} : OpR X (binaryOp .Add) (rAdd X.K) := ((op_add.or op_add_str).or op_catA).or op_cat
theorem opAdd_d {K : PySem.W.Frag} : OpD K (rAdd K) opAdd := fun F H h x y u v Q' Q s rx ry t c => by
  have key : ∀ a b, lsOf h x = some a → lsOf h y = some b → a.length + b.length ≤ sizeLine → Q' (.lst (a ++ b)) h → rAdd K u v H Q := fun a b ea eb hz q => by
    obtain ⟨p, xs, rfl, hp, r1⟩ := ls_rd s rx ea
    obtain ⟨p2, ys, rfl, hp2, r2⟩ := ls_rd s ry eb
    exact .inr ⟨p, p2, xs, ys, rfl, rfl, hp, hp2, by rw [← r1.length, ← r2.length]; exact hz, fun z hz => c.lst s hz (r1.append r2) q⟩
  unfold opAdd at t
  split at t
  · cases rx; cases ry
    exact .inl (.inl (.inl ⟨_, _, rfl, rfl, c.same s (.int _) t⟩))
  · cases rx; cases ry
    exact .inl (.inl (.inr ⟨_, _, rfl, rfl, t.1, c.same s (.str _) t.2⟩))
  · rename_i a b
    cases rx with
    | tup q1 r1 =>
      cases ry with
      | tup q2 r2 =>
        rename_i p xs p2 ys
        refine .inl (.inr ⟨_, _, _, _, rfl, rfl, Same.sqT s.fr q1, Same.sqT s.fr q2, by rw [← r1.length, ← r2.length]; exact t.1, fun e => ?_, fun n e => ?_, fun n n2 z hz => c.tup s hz (r1.append r2) t.2⟩)
        · subst e; cases r1; exact c.same s (.tup q2 r2) t.2
        · subst e; cases r2
          have t2 := t.2
          rw [List.append_nil] at t2
          exact c.same s (.tup q1 r1) t2
  · split at t
    · rename_i a b ea eb
      exact key a b ea eb t.1 t.2
    · exact t.elim
def mulOk (i j : Int) : Prop := CMul i j ∨ CMulX i j
def strRep (z : Str) (k : Int) : Str := ⟨(List.replicate k.toNat z.cps).foldl (· ++ ·) #[]⟩
def strRepOk (z : Str) (k : Int) : Prop := 2 ≤ k ∧ k ≤ 1000 ∧ 0 < z.length ∧ z.length ≤ 1000
theorem size_rep {α : Type} (a : Array α) : ∀ (n : Nat) (b : Array α), ((List.replicate n a).foldl (· ++ ·) b).size = b.size + n * a.size
  | 0, b => by simp
  | n + 1, b => by
    rw [List.replicate_succ, List.foldl_cons, size_rep a n, Array.size_append, Nat.succ_mul]
    omega
theorem op_repS {X : Cx} : OpR X (binaryOp .Mult) (fun x y H Q => ∃ z k, x = .str z ∧ y = .int k ∧ strRepOk z k ∧ Q (.str (strRep z k)) H) := by
  intro pins s σ H x y v u Q I rx ry h
  obtain ⟨z, k, rfl, rfl, ⟨h1, h2, h3, h4⟩, q⟩ := h
  obtain ⟨t, rfl⟩ := rx
  obtain ⟨t', rfl⟩ := ry
  have a1 : ¬ k < 1 := by omega
  have a2 : (k == 1 || z.length == 0) = false := by
    have : k ≠ 1 := by omega
    have : z.length ≠ 0 := by omega
    simp [*]
  have a3 : z.length * k.toNat ≤ 1000 * 1000 := Nat.mul_le_mul h4 (by omega)
  refine P.mul_str ?_ (fun _ _ => ?_) (fun _ _ => ?_) ?_
  · simp only [Bool.or_eq_false_iff, decide_eq_false_iff_not]
    omega
  · have : (2 ^ 63 - 1) / 1000 ≤ ((2 ^ 63 - 1) / k : Int) := by
      have e := Int.le_ediv_iff_mul_le (a := (2 ^ 63 - 1) / 1000) (b := 2 ^ 63 - 1) (c := k) (by omega)
      rw [e]
      omega
    omega
  · show decide (_ > sizeLine) = false
    have : (sizeLine : Nat) = 16777216 := by decide
    rw [decide_eq_false_iff_not]
    omega
  · rw [if_neg a1, if_neg (by rw [a2]; exact Bool.false_ne_true)]
    refine ⟨?_, .str (strRep z k), H, I.tok _, ⟨_, rfl⟩, q⟩
    have e : (strRep z k).length = z.length * k.toNat := by
      show ((List.replicate k.toNat z.cps).foldl (· ++ ·) #[]).size = z.cps.size * k.toNat
      rw [size_rep, Nat.mul_comm]; simp
    have : (sizeLine : Nat) = 16777216 := by decide
    show (strRep z k).length ≤ sizeLine
    omega
def opMul (x y : D) (h : MH) (Q : MQ) : Prop := match x, y with
  | .int i, .int j => mulOk i j ∧ Q (.int (i * j)) h
  | .tup a, .int k => (a ≠ [] ∧ 2 ≤ k ∧ k ≤ 1000 ∧ a.length ≤ 1000) ∧ Q (.tup (List.replicate k.toNat a).flatten) h
  | .str z, .int k => strRepOk z k ∧ Q (.str (strRep z k)) h
  | x, .int k => match lsOf h x with
    | some a => (-(2 ^ 63) ≤ k ∧ k < 2 ^ 63 ∧ a.length * k.toNat ≤ sizeLine) ∧ Q (.lst (List.replicate k.toNat a).flatten) h
    | none => False
  | _, _ => False
abbrev rMulA (K : PySem.W.Frag) : R2 := fun x y H Q => (((rI CMul (fun i j => .int (i * j)) x y H Q ∨ rI CMulX (fun i j => .int (i * j)) x y H Q) ∨ rRepT K x y H Q) ∨ rRep x y H Q) ∨ ∃ z k, x = .str z ∧ y = .int k ∧ strRepOk z k ∧ Q (.str (strRep z k)) H
theorem op_mulA {X : Cx} : OpR X (binaryOp .Mult) (rMulA X.K) := (((op_mul.or op_mulX).or op_repT).or op_rep).or op_repS
theorem opMul_d {K : PySem.W.Frag} : OpD K (rMulA K) opMul := fun F H h x y u v Q' Q s rx ry t c => by
  unfold opMul at t
  split at t
  · cases rx; cases ry
    rcases t.1 with z | z
    · exact .inl (.inl (.inl (.inl ⟨_, _, rfl, rfl, z, c.same s (.int _) t.2⟩)))
    · exact .inl (.inl (.inl (.inr ⟨_, _, rfl, rfl, z, c.same s (.int _) t.2⟩)))
  · cases ry
    cases rx with
    | tup q r =>
      obtain ⟨⟨h0, h1, h2, h3⟩, t2⟩ := t
      refine .inl (.inl (.inr ⟨_, _, _, rfl, rfl, Same.sqT s.fr q, fun z => h0 ?_, h1, h2, by rw [← r.length]; exact h3, fun z hz => c.tup s hz (r.rep _) t2⟩))
      subst z; cases r; rfl
  · cases rx; cases ry
    exact .inr ⟨_, _, rfl, rfl, t.1, c.same s (.str _) t.2⟩
  · cases ry
    split at t
    · rename_i a ea
      obtain ⟨p, xs, rfl, hp, r⟩ := ls_rd s rx ea
      obtain ⟨⟨h1, h2, h3⟩, t2⟩ := t
      exact .inl (.inr ⟨p, _, xs, rfl, rfl, hp, h1, h2, by rw [← r.length]; exact h3, fun z hz => c.lst s hz (r.rep _) t2⟩)
    · exact t.elim
  · exact t.elim
def divOk (_ j : Int) : Prop := 0 < j ∧ j.natAbs.log2 < 9000
def modOk (_ j : Int) : Prop := 0 < j
def powOk (i j : Int) : Prop := 0 ≤ j ∧ j ≤ 1000000 ∧ i.natAbs < 2 ^ 64
def shlOk (i j : Int) : Prop := 0 ≤ j ∧ (Builtin.Int.intBits i : Int) + j ≤ 2 ^ 27
def shrOk (_ j : Int) : Prop := 0 ≤ j

section
variable {X : Cx} {B : Bs} {a b c : Expr} {ta tb tc : WE} {pos : Pos}
theorem m_add (ha : ME X B a ta) (hb : ME X B b tb) : ME X B (.BinOp a .Add b pos) (wOp opAdd ta tb) := m_bin op_addA opAdd_d ha hb
theorem m_sub (ha : ME X B a ta) (hb : ME X B b tb) : ME X B (.BinOp a .Sub b pos) (wOp opSub ta tb) := m_bin op_sub opSub_d ha hb
theorem m_mul (ha : ME X B a ta) (hb : ME X B b tb) : ME X B (.BinOp a .Mult b pos) (wOp opMul ta tb) := m_bin op_mulA opMul_d ha hb
theorem m_fdiv (ha : ME X B a ta) (hb : ME X B b tb) : ME X B (.BinOp a .FloorDiv b pos) (wOp (opI2 divOk fun i j => i / j) ta tb) := m_bin (op_fdivW (X := X)) (opI2_d (C := divOk)) ha hb
theorem m_mod (ha : ME X B a ta) (hb : ME X B b tb) : ME X B (.BinOp a .Mod b pos) (wOp (opI2 modOk fun i j => i % j) ta tb) := m_bin (op_mod (X := X)) (opI2_d (C := modOk)) ha hb
theorem m_pow (ha : ME X B a ta) (hb : ME X B b tb) : ME X B (.BinOp a .Pow b pos) (wOp (opI2 powOk fun i j => i ^ j.toNat) ta tb) := m_bin (op_pow (X := X)) (opI2_d (C := powOk)) ha hb
theorem m_shl (ha : ME X B a ta) (hb : ME X B b tb) : ME X B (.BinOp a .LShift b pos) (wOp (opI2 shlOk fun i j => i * 2 ^ j.toNat) ta tb) := m_bin (op_shlW (X := X)) (opI2_d (C := shlOk)) ha hb
theorem m_shr (ha : ME X B a ta) (hb : ME X B b tb) : ME X B (.BinOp a .RShift b pos) (wOp (opI2 shrOk fun i j => i / 2 ^ j.toNat) ta tb) := m_bin (op_shr (X := X)) (opI2_d (C := shrOk)) ha hb
theorem m_band (ha : ME X B a ta) (hb : ME X B b tb) : ME X B (.BinOp a .BitAnd b pos) (wOp opAnd ta tb) := m_bin op_and opAnd_d ha hb
def unNeg (x : D) (h : MH) (Q : MQ) : Prop := match x with
  | .int i => Q (.int (-i)) h
  | _ => False
theorem m_neg (ha : ME X B a ta) : ME X B (.UnaryOp .USub a pos) (wUn unNeg ta) := m_un un_neg (fun F H h x u Q' Q s rx t c => by
  cases rx <;> first | exact t.elim | skip
  rename_i i
  exact ⟨i, rfl, c.same s (.int _) t⟩) ha
def opEq (neg : Bool) (x y : D) (h : MH) (Q : MQ) : Prop := match x, y with
  | .int i, .int j => Q (.bl (if neg then !(i == j) else i == j)) h
  | x, y => match lsOf h x, lsOf h y with
    | some a, some b => (fit 64 (.lst a) = true ∧ fit 64 (.lst b) = true) ∧ Q (.bl (if neg then !eqvs a b else eqvs a b)) h
    | some a, none => (fit 64 (.lst a) = true ∧ fit 64 y = true) ∧ Q (.bl neg) h
    | none, some b => (fit 64 x = true ∧ fit 64 (.lst b) = true) ∧ Q (.bl neg) h
    | none, none => (fit 64 x = true ∧ fit 64 y = true) ∧ Q (.bl (if neg then !eqv x y else eqv x y)) h
end
theorem eq_side {K : PySem.W.Frag} {F H : Hp} {h : MH} (s : SR K F H h) {x : D} {u : V} (rx : RD K F x u) :
    (∀ a, lsOf h x = some a → fit 64 (.lst a) = true → ∃ p, toP (.lst a) = some p ∧ SeqAt.shaped p = true ∧ Dp K H u p) ∧ (lsOf h x = none → fit 64 x = true → ∃ p, toP x = some p ∧ SeqAt.shaped p = true ∧ Dp K H u p) := by
  refine ⟨fun a e f => ?_, fun e f => ?_⟩
  · obtain ⟨p, hp, hs⟩ := shaped_of f
    obtain ⟨q, xs, rfl, hq, r⟩ := ls_rd s rx e
    refine ⟨p, hp, hs, ?_⟩
    simp only [toP, Option.map_eq_some_iff] at hp
    obtain ⟨ps, hps, rfl⟩ := hp
    exact .lst (SqL.of hq) (RDs.dp s.fr r hps)
  · obtain ⟨p, hp, hs⟩ := shaped_of f
    exact ⟨p, hp, hs, rx.dp s.fr hp⟩
theorem lsOf_none_eqv {h : MH} {x : D} (e : lsOf h x = none) (f : fit 64 x = true) (a : List D) : eqv (.lst a) x = false ∧ eqv x (.lst a) = false := by
  cases x <;> simp [lsOf, fit] at e f <;> simp [eqv]
theorem opEq_core {K : PySem.W.Frag} {neg : Bool} {F H : Hp} {h : MH} {x y : D} {u v : V} {Q' : MQ} {Q : VK} (s : SR K F H h) (rx : RD K F x u) (ry : RD K F y v) (t : opEq neg x y h Q') (c : ContV K F H h Q' Q) :
    ∃ d e, Dp K H u d ∧ Dp K H v e ∧ SeqAt.shaped d = true ∧ SeqAt.shaped e = true ∧ Q (.bl (if neg then !PyData.eqv d e else PyData.eqv d e)) H := by
  unfold opEq at t
  split at t
  · cases rx; cases ry
    rename_i i j
    refine ⟨.int i, .int j, .int i, .int j, rfl, rfl, ?_⟩
    have := c.same s (.bl _) t
    simpa only [PyData.eqv] using this
  · obtain ⟨xl, xn⟩ := eq_side s rx
    obtain ⟨yl, yn⟩ := eq_side s ry
    split at t
    · rename_i a b ea eb
      obtain ⟨p, hp, sp, dp⟩ := xl a ea t.1.1
      obtain ⟨q, hq, sq, dq⟩ := yl b eb t.1.2
      refine ⟨p, q, dp, dq, sp, sq, ?_⟩
      rw [eqv_toP _ _ _ _ hp hq]
      simp only [eqv]
      exact c.same s (.bl _) t.2
    · rename_i a ea eb
      obtain ⟨p, hp, sp, dp⟩ := xl a ea t.1.1
      obtain ⟨q, hq, sq, dq⟩ := yn eb t.1.2
      refine ⟨p, q, dp, dq, sp, sq, ?_⟩
      rw [eqv_toP _ _ _ _ hp hq, (lsOf_none_eqv eb t.1.2 a).1]
      have z : (if neg = true then !false else false) = neg := by cases neg <;> rfl
      rw [z]
      exact c.same s (.bl _) t.2
    · rename_i b ea eb
      obtain ⟨p, hp, sp, dp⟩ := xn ea t.1.1
      obtain ⟨q, hq, sq, dq⟩ := yl b eb t.1.2
      refine ⟨p, q, dp, dq, sp, sq, ?_⟩
      rw [eqv_toP _ _ _ _ hp hq, (lsOf_none_eqv ea t.1.1 b).2]
      have z : (if neg = true then !false else false) = neg := by cases neg <;> rfl
      rw [z]
      exact c.same s (.bl _) t.2
    · rename_i ea eb
      obtain ⟨p, hp, sp, dp⟩ := xn ea t.1.1
      obtain ⟨q, hq, sq, dq⟩ := yn eb t.1.2
      refine ⟨p, q, dp, dq, sp, sq, ?_⟩
      rw [eqv_toP _ _ _ _ hp hq]
      exact c.same s (.bl _) t.2
theorem opEq_d {K : PySem.W.Frag} : OpD K (rEqD K) (opEq false) := fun F H h x y u v Q' Q s rx ry t c => by
  obtain ⟨d, e, h1, h2, h3, h4, h5⟩ := opEq_core s rx ry t c
  exact ⟨d, e, h1, h2, h3, h4, h5⟩
theorem opNe_d {K : PySem.W.Frag} : OpD K (rNeD K) (opEq true) := fun F H h x y u v Q' Q s rx ry t c => by
  obtain ⟨d, e, h1, h2, h3, h4, h5⟩ := opEq_core s rx ry t c
  exact ⟨d, e, h1, h2, h3, h4, h5⟩
def opIsN (neg : Bool) (x y : D) (h : MH) (Q : MQ) : Prop := match y with
  | .non => Q (.bl (match x with | .non => !neg | _ => neg)) h
  | _ => False
section
variable {X : Cx} {B : Bs} {a b c : Expr} {ta tb tc : WE} {pos : Pos}
end
end BP

set_option maxRecDepth 100000
set_option maxHeartbeats 4000000
namespace BP
open PySem PySem.Spec PyProof.Rows L2
section
variable {X : Cx} {B : Bs} {a b c : Expr} {ta tb tc : WE} {pos : Pos}
theorem m_eq (hu : X.A.units + 64 < cLine) (ha : ME X B a ta) (hb : ME X B b tb) : ME X B (.Compare a [.Eq] [b] pos) (wOp (opEq false) ta tb) := m_cmp (op_eqD hu) opEq_d ha hb
theorem m_lt (ha : ME X B a ta) (hb : ME X B b tb) : ME X B (.Compare a [.Lt] [b] pos) (wOp (opB2 fun i j => decide (i < j)) ta tb) := m_cmp op_lt opB2_d ha hb
theorem m_le (ha : ME X B a ta) (hb : ME X B b tb) : ME X B (.Compare a [.LtE] [b] pos) (wOp (opB2 fun i j => decide (i ≤ j)) ta tb) := m_cmp op_le opB2_d ha hb
theorem m_gt (ha : ME X B a ta) (hb : ME X B b tb) : ME X B (.Compare a [.Gt] [b] pos) (wOp (opB2 fun i j => decide (j < i)) ta tb) := m_cmp op_gt opB2_d ha hb
theorem m_ge (ha : ME X B a ta) (hb : ME X B b tb) : ME X B (.Compare a [.GtE] [b] pos) (wOp (opB2 fun i j => decide (j ≤ i)) ta tb) := m_cmp op_ge opB2_d ha hb
theorem mt_eq (hu : X.A.units + 64 < cLine) (ha : ME X B a ta) (hb : ME X B b tb) : MT X B (.Compare a [.Eq] [b] pos) (wTest (wOp (opEq false) ta tb)) := m_tcmp (op_eqD hu) opEq_d ha hb
theorem mt_ne (hu : X.A.units + 64 < cLine) (ha : ME X B a ta) (hb : ME X B b tb) : MT X B (.Compare a [.NotEq] [b] pos) (wTest (wOp (opEq true) ta tb)) := m_tcmp (op_neD hu) opNe_d ha hb
theorem mt_lt (ha : ME X B a ta) (hb : ME X B b tb) : MT X B (.Compare a [.Lt] [b] pos) (wTest (wOp (opB2 fun i j => decide (i < j)) ta tb)) := m_tcmp op_lt opB2_d ha hb
theorem mt_le (ha : ME X B a ta) (hb : ME X B b tb) : MT X B (.Compare a [.LtE] [b] pos) (wTest (wOp (opB2 fun i j => decide (i ≤ j)) ta tb)) := m_tcmp op_le opB2_d ha hb
theorem mt_gt (ha : ME X B a ta) (hb : ME X B b tb) : MT X B (.Compare a [.Gt] [b] pos) (wTest (wOp (opB2 fun i j => decide (j < i)) ta tb)) := m_tcmp op_gt opB2_d ha hb
theorem mt_ge (ha : ME X B a ta) (hb : ME X B b tb) : MT X B (.Compare a [.GtE] [b] pos) (wTest (wOp (opB2 fun i j => decide (j ≤ i)) ta tb)) := m_tcmp op_ge opB2_d ha hb
def wChain (f f' : D → D → MH → MQ → Prop) (ta tb tc : WE) : WE := fun σ h Q => ta σ h fun x h1 => tb σ h1 fun y h2 => f x y h2 fun z h3 => match z with
  | .bl true => tc σ h3 fun w h4 => f' y w h4 Q
  | .bl false => Q (.bl false) h3
  | _ => False
theorem lift_chain {f f' : D → D → MH → MQ → Prop} {r r' : R2} (hf : OpD X.K r f) (hf' : OpD X.K r' f') : ∀ σ H Q, lift X.K B (wChain f f' ta tb tc) σ H Q → tChain r r' (lift X.K B ta) (lift X.K B tb) (lift X.K B tc) σ H Q := fun σ H Q ⟨F, h, σd, Q', l, s, t, c⟩ =>
  ⟨F, h, σd, _, l, s, t, fun F1 H1 h1 x u g1 rx t1 => ⟨F1, h1, σd, _, l.mono g1.ss, s.go g1, t1, fun F2 H2 h2 y v g2 ry t2 =>
    hf F2 H2 h2 x y u v _ _ g2.sr (rx.mono g2.ss) ry t2 fun F3 H3 h3 z k g3 rz t3 => by
      cases rz <;> first | exact t3.elim | skip
      rename_i k
      cases k with
      | false => exact ⟨false, rfl, by rw [if_neg Bool.false_ne_true]; exact c F3 H3 h3 _ _ ((g1.trans g2).trans g3) (.bl _) t3⟩
      | true => exact ⟨true, rfl, by
          rw [if_pos rfl]
          exact ⟨F3, h3, σd, _, l.mono ((g1.trans g2).trans g3).ss, s.go ((g1.trans g2).trans g3), t3, fun F4 H4 h4 w z g4 rw' t4 => hf' F4 H4 h4 y w v z Q' Q g4.sr ((ry.mono g3.ss).mono g4.ss) rw' t4 (c.go (((g1.trans g2).trans g3).trans g4))⟩⟩⟩⟩
theorem m_chain {op op' : CmpOp} {f f' : D → D → MH → MQ → Prop} {r r' : R2} (ho : OpR X (compareOp op) r) (hf : OpD X.K r f) (ho' : OpR X (compareOp op') r') (hf' : OpD X.K r' f') (ha : ME X B a ta) (hb : ME X B b tb) (hc : ME X B c tc)
    (hm : lastMarks [op, op'] [b, c] = false := by with_unfolding_all rfl) : ME X B (.Compare a [op, op'] [b, c] pos) (wChain f f' ta tb tc) := pe_mono (pe_chain ho ho' ha hb hc hm) (lift_chain hf hf')
theorem m_lele (ha : ME X B a ta) (hb : ME X B b tb) (hc : ME X B c tc) (hm : lastMarks [.LtE, .LtE] [b, c] = false := by with_unfolding_all rfl) : ME X B (.Compare a [.LtE, .LtE] [b, c] pos) (wChain (opB2 fun i j => decide (i ≤ j)) (opB2 fun i j => decide (i ≤ j)) ta tb tc) := m_chain op_le opB2_d op_le opB2_d ha hb hc hm
def truth (h : MH) : D → Option Bool
  | .non => some false
  | .bl b => some b
  | .int i => some (i != 0)
  | .str x => if x.length ≤ sizeLine then some ((x.length : Int) != 0) else none
  | .dct kvs => some (!kvs.isEmpty)
  | d => (sqOf h d).map fun xs => !xs.isEmpty
theorem rds_empty {K : PySem.W.Frag} {F : Hp} {ds : List D} {xs : List V} (r : RDs K F ds xs) : ds.isEmpty = xs.isEmpty := by cases r <;> rfl
theorem truth_v {K : PySem.W.Frag} {F H : Hp} {h : MH} (s : SR K F H h) {d : D} {v : V} {k : Bool} (r : RD K F d v) (e : truth h d = some k) : TruV K v H k := by
  have key : ∀ {xs}, sqOf h d = some xs → k = !xs.isEmpty → TruV K v H k := fun {xs} q z => by
    obtain ⟨a, ys, rfl, o, r⟩ := sq_rd s r q
    rw [rds_empty r] at z
    rcases o with o | o
    · exact .inl ⟨ys, o, z⟩
    · exact .inr (.inl ⟨ys, o, z⟩)
  cases r with
  | non => simp only [truth, Option.some.injEq] at e; exact e.symm
  | bl b => simp only [truth, Option.some.injEq] at e; exact e.symm
  | int i => simp only [truth, Option.some.injEq] at e; exact e.symm
  | str x =>
    simp only [truth] at e
    split at e
    · rename_i hz; simp only [Option.some.injEq] at e; exact ⟨hz, e.symm⟩
    · cases e
  | dct q r =>
    simp only [truth, Option.some.injEq] at e
    refine .inr (.inr ⟨_, s.fr _ _ q, ?_⟩)
    rw [← e]; cases r <;> rfl
  | tup q r => simp only [truth, Option.map_eq_some_iff] at e; obtain ⟨xs, q, z⟩ := e; exact key q z.symm
  | lst q r => simp only [truth, Option.map_eq_some_iff] at e; obtain ⟨xs, q, z⟩ := e; exact key q z.symm
  | scr q => simp only [truth, Option.map_eq_some_iff] at e; obtain ⟨xs, q, z⟩ := e; exact key q z.symm
  | ref q => simp only [truth, Option.map_eq_some_iff] at e; obtain ⟨xs, q, z⟩ := e; exact key q z.symm
  | ty n => simp [truth, sqOf] at e
  | dcl q r => simp [truth, sqOf] at e
  | exc q r => simp [truth, sqOf] at e
def wTruth (t : WE) : WT := fun σ h Q => t σ h fun x h1 => match truth h1 x with
  | some b => Q b h1
  | none => False
theorem mt_val (ha : ME X B a ta) (he : ∀ whole, isTrue a X.env whole = (do let v ← whole; standAt a.pos; holding [v] (truthy v)) := by intro _; rfl) : MT X B a (wTruth ta) :=
  pt_mono (pt_truth ha he) fun σ H Q ⟨F, h, σd, Q', l, s, t, c⟩ => ⟨F, h, σd, _, l, s, t, fun F1 H1 h1 x u g1 rx t1 => by
    split at t1
    · rename_i b e
      exact ⟨b, truth_v g1.sr rx e, c F1 H1 h1 b g1 t1⟩
    · exact t1.elim⟩
def wAnd (t u : WT) : WT := fun σ h Q => t σ h fun b h1 => if b = true then u σ h1 Q else Q false h1
def wOr (t u : WT) : WT := fun σ h Q => t σ h fun b h1 => if b = true then Q true h1 else u σ h1 Q
def wNot (t : WT) : WT := fun σ h Q => t σ h fun b h1 => Q (!b) h1
abbrev MW (X : Cx) (B : Bs) (e : Expr) (t : WT) : Prop := PW X e (liftT X.K B t)
variable {ua ub : WT} {rest : List Expr}
theorem mw_and1 (ha : MT X B a ua) : MW X B (.BoolOp .And [a] pos) ua := pw_and1 ha
theorem mw_or1 (ha : MT X B a ua) : MW X B (.BoolOp .Or [a] pos) ua := pw_or1 ha
theorem mw_and (ha : MT X B a ua) (hb : MW X B (.BoolOp .And (b :: rest) pos) ub) : MW X B (.BoolOp .And (a :: b :: rest) pos) (wAnd ua ub) :=
  pw_mono (pw_and ha hb) fun σ H Q ⟨F, h, σd, Q', l, s, t, c⟩ => ⟨F, h, σd, _, l, s, t, fun F1 H1 h1 k g1 t1 => by
    cases k with
    | true => rw [if_pos rfl] at t1 ⊢; exact ⟨F1, h1, σd, Q', l.mono g1.ss, s.go g1, t1, c.go g1⟩
    | false => rw [if_neg Bool.false_ne_true] at t1 ⊢; exact c F1 H1 h1 false g1 t1⟩
theorem mw_or (ha : MT X B a ua) (hb : MW X B (.BoolOp .Or (b :: rest) pos) ub) : MW X B (.BoolOp .Or (a :: b :: rest) pos) (wOr ua ub) :=
  pw_mono (pw_or ha hb) fun σ H Q ⟨F, h, σd, Q', l, s, t, c⟩ => ⟨F, h, σd, _, l, s, t, fun F1 H1 h1 k g1 t1 => by
    cases k with
    | false => rw [if_neg Bool.false_ne_true] at t1 ⊢; exact ⟨F1, h1, σd, Q', l.mono g1.ss, s.go g1, t1, c.go g1⟩
    | true => rw [if_pos rfl] at t1 ⊢; exact c F1 H1 h1 true g1 t1⟩
theorem mt_w {e : Expr} (h : MW X B e ua) : MT X B e ua := PW.pt h
theorem mt_not (ha : MT X B a ua) : MT X B (.UnaryOp .Not a pos) (wNot ua) :=
  pt_mono (pt_not ha) fun σ H Q ⟨F, h, σd, Q', l, s, t, c⟩ => ⟨F, h, σd, _, l, s, t, fun F1 H1 h1 k g1 t1 => c F1 H1 h1 (!k) g1 t1⟩
def wAndV (t u : WE) : WE := fun σ h Q => t σ h fun x h1 => match truth h1 x with
  | some true => u σ h1 Q
  | some false => Q x h1
  | none => False
def wOrV (t u : WE) : WE := fun σ h Q => t σ h fun x h1 => match truth h1 x with
  | some true => Q x h1
  | some false => u σ h1 Q
  | none => False
def wNotV (t : WE) : WE := fun σ h Q => t σ h fun x h1 => match truth h1 x with
  | some b => Q (.bl (!b)) h1
  | none => False
end
end BP

set_option maxRecDepth 100000
set_option maxHeartbeats 4000000
namespace BP
open PySem PySem.Spec PyProof.Rows L2
section
variable {X : Cx} {B : Bs} {a b c e : Expr} {ta tb tc : WE} {pos : Pos} {rest es : List Expr} {ua ub : WT}
theorem m_one {op} (ha : ME X B a ta) : ME X B (.BoolOp op [a] pos) ta := pe_one ha
theorem m_and (ha : ME X B a ta) (hb : ME X B (.BoolOp .And (b :: rest) pos) tb) : ME X B (.BoolOp .And (a :: b :: rest) pos) (wAndV ta tb) :=
  pe_mono (pe_andT ha hb) fun σ H Q ⟨F, h, σd, Q', l, s, t, c⟩ => ⟨F, h, σd, _, l, s, t, fun F1 H1 h1 x u g1 rx t1 => by
    split at t1
    · rename_i e; exact ⟨true, truth_v g1.sr rx e, by rw [if_pos rfl]; exact ⟨F1, h1, σd, Q', l.mono g1.ss, s.go g1, t1, c.go g1⟩⟩
    · rename_i e; exact ⟨false, truth_v g1.sr rx e, by rw [if_neg Bool.false_ne_true]; exact c F1 H1 h1 x u g1 rx t1⟩
    · exact t1.elim⟩
theorem m_not (ha : ME X B a ta) : ME X B (.UnaryOp .Not a pos) (wNotV ta) :=
  pe_mono (pe_notT ha) fun σ H Q ⟨F, h, σd, Q', l, s, t, c⟩ => ⟨F, h, σd, _, l, s, t, fun F1 H1 h1 x u g1 rx t1 => by
    split at t1
    · rename_i b e; exact ⟨b, truth_v g1.sr rx e, c F1 H1 h1 _ _ g1 (.bl _) t1⟩
    · exact t1.elim⟩
def wIf (t : WT) (ta tb : WE) : WE := fun σ h Q => t σ h fun k h1 => if k = true then ta σ h1 Q else tb σ h1 Q
theorem m_if (hc : MT X B c ua) (ha : ME X B a ta) (hb : ME X B b tb) : ME X B (.IfExp c a b pos) (wIf ua ta tb) :=
  pe_mono (pe_ifExp hc ha hb) fun σ H Q ⟨F, h, σd, Q', l, s, t, c⟩ => ⟨F, h, σd, _, l, s, t, fun F1 H1 h1 k g1 t1 => by
    cases k with
    | true => rw [if_pos rfl] at t1 ⊢; exact ⟨F1, h1, σd, Q', l.mono g1.ss, s.go g1, t1, c.go g1⟩
    | false => rw [if_neg Bool.false_ne_true] at t1 ⊢; exact ⟨F1, h1, σd, Q', l.mono g1.ss, s.go g1, t1, c.go g1⟩⟩
def wNil : WA := fun _ h Q => Q [] h
def wCons (t : WE) (r : WA) : WA := fun σ h Q => t σ h fun d h1 => r σ h1 fun ds h2 => Q (d :: ds) h2
variable {wa : WA}
theorem ma_nil : MA X B [] wNil := pa_mono pa_nil fun σ H Q ⟨F, h, σd, Q', l, s, t, c⟩ => c F H h [] [] (Go.refl s) .nil t
theorem ma_cons (ha : ME X B e ta) (hr : MA X B es wa) (hs : starEach (e :: es) X.env = (false, eval e X.env) :: starEach es X.env := by rfl) : MA X B (e :: es) (wCons ta wa) :=
  pa_mono (pa_cons ha hr hs) fun σ H Q ⟨F, h, σd, Q', l, s, t, c⟩ => ⟨F, h, σd, _, l, s, t, fun F1 H1 h1 x u g1 rx t1 => ⟨F1, h1, σd, _, l.mono g1.ss, s.go g1, t1, fun F2 H2 h2 ds vs g2 rs t2 =>
    c F2 H2 h2 (x :: ds) (u :: vs) (g1.trans g2) (.cons (rx.mono g2.ss) rs) t2⟩⟩
def wTup (t : WA) : WE := fun σ h Q => t σ h fun ds h1 => ds.length ≤ sizeLine ∧ Q (.tup ds) h1
def wLst (t : WA) : WE := fun σ h Q => t σ h fun ds h1 => ds.length ≤ sizeLine ∧ Q (.lst ds) h1
def wLstM (t : WA) : WE := fun σ h Q => t σ h fun ds h1 => ds.length ≤ sizeLine ∧ ∀ p, h1 p = none → Q (.ref p) (mupd h1 p (.lst ds))
theorem m_tup {x1} (h : MA X B es wa) : ME X B (.Tuple es x1 pos) (wTup wa) :=
  pe_mono (pe_tup h) fun σ H Q ⟨F, h, σd, Q', l, s, t, c⟩ => ⟨F, h, σd, _, l, s, t, fun F1 H1 h1 ds vs g1 rs t1 => ⟨by rw [← rs.length]; exact t1.1, fun p hp => (c.go g1).tup g1.sr hp rs t1.2⟩⟩
theorem m_lst (h : MA X B es wa) : ME X B (.List es pos) (wLst wa) :=
  pe_mono (pe_lst h) fun σ H Q ⟨F, h, σd, Q', l, s, t, c⟩ => ⟨F, h, σd, _, l, s, t, fun F1 H1 h1 ds vs g1 rs t1 => ⟨by rw [← rs.length]; exact t1.1, fun p hp => (c.go g1).lst g1.sr hp rs t1.2⟩⟩
theorem ContV.newM {K : PySem.W.Frag} {F H : Hp} {h : MH} {Q' : MQ} {Q : VK} {ds : List D} {xs : List V} {p : Addr} (c : ContV K F H h Q' Q) (s : SR K F H h) (n : H p = none) (r : RDs K F ds xs) (q : ∀ p, h p = none → Q' (.ref p) (mupd h p (.lst ds))) : Q (.ref p) (upd H p (.lst xs)) :=
  c _ _ _ _ _ (Go.fresh (c := .lst ds) s n ⟨xs, upd_same, r⟩) (.ref p) (q p (s.freeM n))
theorem m_lstM (h : MA X B es wa) : ME X B (.List es pos) (wLstM wa) :=
  pe_mono (pe_lst h) fun σ H Q ⟨F, h, σd, Q', l, s, t, c⟩ => ⟨F, h, σd, _, l, s, t, fun F1 H1 h1 ds vs g1 rs t1 => ⟨by rw [← rs.length]; exact t1.1, fun p hp => (c.go g1).newM g1.sr hp rs t1.2⟩⟩
theorem atI_rd {K : PySem.W.Frag} {F : Hp} {ds : List D} {xs : List V} {i : Int} {d : D} (r : RDs K F ds xs) (e : atI ds i = some d) : ∃ v, atI xs i = some v ∧ RD K F d v := by
  unfold atI at e ⊢
  rw [r.length] at e
  cases q : ixN xs.length i with
  | none => rw [q] at e; cases e
  | some j =>
    rw [q] at e
    exact r.get e
def opIx (x y : D) (h : MH) (Q : MQ) : Prop := match y with
  | .int i => match sqOf h x with
    | some xs => match atI xs i with
      | some d => Q d h
      | none => False
    | none => False
  | _ => False
theorem opIx_d {K : PySem.W.Frag} : OpD K (fun x y H Q => rIxL K x y H Q ∨ rIxT K x y H Q) opIx := fun F H h x y u v Q' Q s rx ry t c => by
  unfold opIx at t
  split at t
  · rename_i i
    cases ry
    split at t
    · rename_i xs ex
      split at t
      · rename_i d ed
        obtain ⟨p, ys, rfl, o, r⟩ := sq_rd s rx ex
        obtain ⟨w, ew, rw'⟩ := atI_rd r ed
        rcases o with o | o
        · exact .inl ⟨p, ys, i, w, rfl, rfl, o, ew, c.same s rw' t⟩
        · exact .inr ⟨p, ys, i, w, rfl, rfl, o, ew, c.same s rw' t⟩
      · exact t.elim
    · exact t.elim
  · exact t.elim
theorem m_ix (ha : ME X B a ta) (hb : ME X B b tb) (hs : PlainIx b := by intro _ _; rfl) : ME X B (.Subscript a b pos) (wOp opIx ta tb) := pe_mono (pe_ix (ix_list.or ix_tup) ha hb hs) (lift_op opIx_d)
abbrev WO := MSt → MH → (Option Int → MH → Prop) → Prop
def ContO (K : PySem.W.Frag) (F H : Hp) (h : MH) (Q' : Option Int → MH → Prop) (Q : Option Int → Hp → Prop) : Prop := ∀ F' H' h' b, Go K F H h F' H' h' → Q' b h' → Q b H'
def liftO (K : PySem.W.Frag) (B : Bs) (t : WO) : TO := fun σ H Q => ∃ F h σd Q', LR K F σd σ ∧ Bd K B F H h ∧ t σd h Q' ∧ ContO K F H h Q' Q
abbrev MO (X : Cx) (B : Bs) (o : Option Expr) (t : WO) : Prop := PO X o (liftO X.K B t)
theorem po_mono {o : Option Expr} {t t' : TO} (h : PO X o t) (m : ∀ σ H Q, t' σ H Q → t σ H Q) : PO X o t' := ⟨fun pins s σ H Q I q => h.run pins s σ H Q I (m σ H Q q)⟩
def wNo : WO := fun _ h Q => Q none h
def wPart (t : WE) : WO := fun σ h Q => t σ h fun x h1 => match x with
  | .int i => Q (some i) h1
  | _ => False
theorem mo_none : MO X B none wNo := po_mono po_none fun σ H Q ⟨F, h, σd, Q', l, s, t, c⟩ => c F H h none (Go.refl s) t
theorem mo_some (h : ME X B a ta) : MO X B (some a) (wPart ta) := po_mono (po_some h) fun σ H Q ⟨F, h, σd, Q', l, s, t, c⟩ => ⟨F, h, σd, _, l, s, t, fun F1 H1 h1 x u g1 rx t1 => by
  cases rx <;> first | exact t1.elim | skip
  rename_i i
  exact ⟨i, rfl, c F1 H1 h1 (some i) g1 t1⟩⟩
def cut {α : Type} (xs : List α) (lo hi : Option Int) : List α := (xs.drop (HT.sIx xs.length 0 lo)).take (HT.sIx xs.length xs.length hi - HT.sIx xs.length 0 lo)
theorem cut_rd {K : PySem.W.Frag} {F : Hp} {ds : List D} {xs : List V} (r : RDs K F ds xs) (lo hi : Option Int) : RDs K F (cut ds lo hi) (cutV xs lo hi) := by
  unfold cut cutV
  rw [r.length]
  exact (r.drop _).take _
theorem cut_whole {α : Type} {xs : List α} {lo hi : Option Int} (e : HT.sIx xs.length 0 lo = 0 ∧ HT.sIx xs.length xs.length hi = xs.length) : cut xs lo hi = xs := by
  unfold cut
  rw [e.1, e.2]
  simp
def opSl (x : D) (lo hi : Option Int) (h : MH) (Q : MQ) : Prop := match x with
  | .tup xs => Q (.tup (cut xs lo hi)) h
  | x => match sqOf h x with
    | some xs => Q (.lst (cut xs lo hi)) h
    | none => False
def wSl (ta : WE) (tl th : WO) : WE := fun σ h Q => ta σ h fun x h1 => tl σ h1 fun lo h2 => th σ h2 fun hi h3 => opSl x lo hi h3 Q
theorem m_sl {lo hi : Option Expr} {tl th : WO} {p2 : Pos} (ha : ME X B a ta) (hl : MO X B lo tl) (hh : MO X B hi th) : ME X B (.Subscript a (.Slice lo hi none p2) pos) (wSl ta tl th) :=
  pe_mono (pe_slice (sl_tupA.or sl_list) ha hl hh) fun σ H Q ⟨F, h, σd, Q', l, s, t, c⟩ => ⟨F, h, σd, _, l, s, t, fun F1 H1 h1 x u g1 rx t1 => ⟨F1, h1, σd, _, l.mono g1.ss, s.go g1, t1, fun F2 H2 h2 lo g2 t2 => ⟨F2, h2, σd, _, l.mono (g1.trans g2).ss, s.go (g1.trans g2), t2, fun F3 H3 h3 hi g3 t3 => by
    have s3 := g3.sr
    have c3 := c.go ((g1.trans g2).trans g3)
    have rx3 := (rx.mono g2.ss).mono g3.ss
    unfold opSl at t3
    split at t3
    · cases rx3 with
      | tup q r =>
        rename_i xs _ ys
        refine .inl ⟨_, ys, rfl, Same.sqT s3.fr q, fun e => ?_, fun _ p hp => c3.tup s3 hp (cut_rd r lo hi) t3⟩
        rw [cut_whole (by rw [r.length]; exact e)] at t3
        exact c3.same s3 (.tup q r) t3
    · split at t3
      · rename_i hn _ ys ey
        cases rx3 with
        | tup q r => exact (hn _ rfl).elim
        | scr q => simp only [sqOf, Option.some.injEq] at ey; subst ey; exact .inr ⟨_, _, rfl, Same.sqL s3.fr q, fun p hp => c3.lst s3 hp (cut_rd (RDs.ints _) lo hi) t3⟩
        | lst q r => simp only [sqOf, Option.some.injEq] at ey; subst ey; exact .inr ⟨_, _, rfl, SqL.of (s3.fr _ _ q), fun p hp => c3.lst s3 hp (cut_rd r lo hi) t3⟩
        | ref a0 =>
          simp only [sqOf] at ey
          split at ey <;> simp only [Option.some.injEq, reduceCtorEq] at ey
          rename_i ds' em
          subst ey
          obtain ⟨_, xs, q, r⟩ := s3.cell _ _ em
          exact .inr ⟨_, xs, rfl, SqL.of q, fun p hp => c3.lst s3 hp (cut_rd r lo hi) t3⟩
        | _ => simp [sqOf] at ey
      · exact t3.elim⟩⟩⟩
def CallD (K : PySem.W.Frag) (r : List V → Hp → VK → Prop) (f : List D → MH → MQ → Prop) : Prop := ∀ F H h ds vs Q' Q, SR K F H h → RDs K F ds vs → f ds h Q' → ContV K F H h Q' Q → r vs H Q
def wCB (f : List D → MH → MQ → Prop) (t : WA) : WE := fun σ h Q => t σ h fun ds h1 => f ds h1 Q
theorem lift_cb {r : List V → Hp → VK → Prop} {f : List D → MH → MQ → Prop} (hf : CallD X.K r f) : ∀ σ H Q, lift X.K B (wCB f wa) σ H Q → tCB r (liftA X.K B wa) σ H Q := fun σ H Q ⟨F, h, σd, Q', l, s, t, c⟩ =>
  ⟨F, h, σd, _, l, s, t, fun F1 H1 h1 ds vs g1 rs t1 => hf F1 H1 h1 ds vs Q' Q g1.sr rs t1 (c.go g1)⟩
theorem m_callB {x : Str} {p : Pos} {id : String} {r : List V → Hp → VK → Prop} {f : List D → MH → MQ → Prop} (hc : CallR X (.builtin id) r) (hf : CallD X.K r f) (hm : X.mg x = none) (hv : bootBuiltins x = some (.builtin id)) (ha : MA X B (e :: es) wa) (hg : Gl X x := by rfl) (hn : x ≠ "__name__" := by decide) (hdb : (x == ("__debug__" : Str)) = false := by decide)
    (he : starEach (e :: es) X.env = (false, eval e X.env) :: starEach es X.env := by rfl) (hpl : (backTo pos (starEach es X.env)).any (·.1) = false := by rfl) : ME X B (.Call (.Name x p) (e :: es) [] pos) (wCB f wa) := pe_mono (pe_callB hc hg hm hv ha hn hdb he hpl) (lift_cb hf)
theorem m_callTy {x : Str} {p : Pos} {T : String} {r : List V → Hp → VK → Prop} {f : List D → MH → MQ → Prop} (hc : CallR X (.type T) r) (hf : CallD X.K r f) (hm : X.mg x = none) (hv : bootBuiltins x = some (.type T)) (ha : MA X B (e :: es) wa) (hg : Gl X x := by rfl) (hn : x ≠ "__name__" := by decide) (hdb : (x == ("__debug__" : Str)) = false := by decide)
    (he : starEach (e :: es) X.env = (false, eval e X.env) :: starEach es X.env := by rfl) (hpl : (backTo pos (starEach es X.env)).any (·.1) = false := by rfl) : ME X B (.Call (.Name x p) (e :: es) [] pos) (wCB f wa) := pe_mono (pe_callTy hc hg hm hv ha hn hdb he hpl) (lift_cb hf)
def fLen (ds : List D) (h : MH) (Q : MQ) : Prop := match ds with
  | [.str z] => z.length ≤ sizeLine ∧ Q (.int z.length) h
  | [d] => match sqOf h d with
    | some xs => Q (.int xs.length) h
    | none => False
  | _ => False
theorem rds_one {K : PySem.W.Frag} {F : Hp} {d : D} {vs : List V} (r : RDs K F [d] vs) : ∃ v, vs = [v] ∧ RD K F d v := by
  cases r with
  | cons q r => cases r; exact ⟨_, rfl, q⟩
theorem rds_two {K : PySem.W.Frag} {F : Hp} {d e : D} {vs : List V} (r : RDs K F [d, e] vs) : ∃ v w, vs = [v, w] ∧ RD K F d v ∧ RD K F e w := by
  cases r with
  | cons q r =>
    obtain ⟨w, rfl, q2⟩ := rds_one r
    exact ⟨_, _, rfl, q, q2⟩
theorem fLen_d {K : PySem.W.Frag} : CallD K (fun xs H Q => (∃ p ys, xs = [.ref p] ∧ (SqL K H p ys ∨ SqT K H p ys) ∧ Q (.int ys.length) H) ∨ ∃ z, xs = [.str z] ∧ z.length ≤ sizeLine ∧ Q (.int z.length) H) fLen := fun F H h ds vs Q' Q s rs t c => by
  unfold fLen at t
  split at t
  · obtain ⟨v, rfl, r⟩ := rds_one rs
    cases r
    exact .inr ⟨_, rfl, t.1, c.same s (.int _) t.2⟩
  · obtain ⟨v, rfl, r⟩ := rds_one rs
    split at t
    · rename_i xs ex
      obtain ⟨p, ys, rfl, o, r2⟩ := sq_rd s r ex
      refine .inl ⟨p, ys, rfl, o, ?_⟩
      rw [← r2.length]
      exact c.same s (.int _) t
    · exact t.elim
  · exact t.elim
theorem m_len {p : Pos} (hm : X.mg "len" = none) (ha : MA X B (e :: es) wa) (hg : Gl X "len" := by rfl) (he : starEach (e :: es) X.env = (false, eval e X.env) :: starEach es X.env := by rfl) (hpl : (backTo pos (starEach es X.env)).any (·.1) = false := by rfl) :
    ME X B (.Call (.Name "len" p) (e :: es) [] pos) (wCB fLen wa) := m_callB (call_len_seq.or call_len_str) fLen_d hm PySem.boot_len ha hg (by decide) (by decide) he hpl
def fInt (ds : List D) (h : MH) (Q : MQ) : Prop := match ds with
  | [.int i] => Q (.int i) h
  | [.bl b] => Q (.int (if b then 1 else 0)) h
  | _ => False
theorem m_intc {p : Pos} (hm : X.mg "int" = none) (ha : MA X B (e :: es) wa) (hg : Gl X "int" := by rfl) (he : starEach (e :: es) X.env = (false, eval e X.env) :: starEach es X.env := by rfl) (hpl : (backTo pos (starEach es X.env)).any (·.1) = false := by rfl) :
    ME X B (.Call (.Name "int" p) (e :: es) [] pos) (wCB fInt wa) := m_callTy call_int1 (fun F H h ds vs Q' Q s rs t c => by
      unfold fInt at t
      split at t
      · obtain ⟨v, rfl, r⟩ := rds_one rs; cases r; exact .inl ⟨_, rfl, c.same s (.int _) t⟩
      · obtain ⟨v, rfl, r⟩ := rds_one rs; cases r; exact .inr ⟨_, rfl, c.same s (.int _) t⟩
      · exact t.elim) hm (by decide +kernel) ha hg (by decide) (by decide) he hpl
def fMax2 (ds : List D) (h : MH) (Q : MQ) : Prop := match ds with
  | [.int i, .int j] => Q (.int (if j > i then j else i)) h
  | _ => False
def fMin2 (ds : List D) (h : MH) (Q : MQ) : Prop := match ds with
  | [.int i, .int j] => Q (.int (if j < i then j else i)) h
  | _ => False
theorem m_max2 {p : Pos} (hc : X.calm = true) (hm : X.mg "max" = none) (ha : MA X B (e :: es) wa) (hg : Gl X "max" := by rfl) (he : starEach (e :: es) X.env = (false, eval e X.env) :: starEach es X.env := by rfl) (hpl : (backTo pos (starEach es X.env)).any (·.1) = false := by rfl) :
    ME X B (.Call (.Name "max" p) (e :: es) [] pos) (wCB fMax2 wa) := m_callB (call_max2 hc) (fun F H h ds vs Q' Q s rs t c => by
      unfold fMax2 at t
      split at t
      · obtain ⟨v, w, rfl, r, r2⟩ := rds_two rs; cases r; cases r2; exact ⟨_, _, rfl, c.same s (.int _) t⟩
      · exact t.elim) hm (by decide +kernel) ha hg (by decide) (by decide) he hpl
theorem m_min2 {p : Pos} (hc : X.calm = true) (hm : X.mg "min" = none) (ha : MA X B (e :: es) wa) (hg : Gl X "min" := by rfl) (he : starEach (e :: es) X.env = (false, eval e X.env) :: starEach es X.env := by rfl) (hpl : (backTo pos (starEach es X.env)).any (·.1) = false := by rfl) :
    ME X B (.Call (.Name "min" p) (e :: es) [] pos) (wCB fMin2 wa) := m_callB (call_min2 hc) (fun F H h ds vs Q' Q s rs t c => by
      unfold fMin2 at t
      split at t
      · obtain ⟨v, w, rfl, r, r2⟩ := rds_two rs; cases r; cases r2; exact ⟨_, _, rfl, c.same s (.int _) t⟩
      · exact t.elim) hm (by decide +kernel) ha hg (by decide) (by decide) he hpl
def fTup (ds : List D) (h : MH) (Q : MQ) : Prop := match ds with
  | [d] => match sqOf h d with
    | some xs => Q (.tup xs) h
    | none => False
  | _ => False
theorem m_tuple {p : Pos} (hm : X.mg "tuple" = none) (ha : MA X B (e :: es) wa) (hg : Gl X "tuple" := by rfl) (he : starEach (e :: es) X.env = (false, eval e X.env) :: starEach es X.env := by rfl) (hpl : (backTo pos (starEach es X.env)).any (·.1) = false := by rfl) :
    ME X B (.Call (.Name "tuple" p) (e :: es) [] pos) (wCB fTup wa) := m_callTy call_tuple_of (fun F H h ds vs Q' Q s rs t c => by
      unfold fTup at t
      split at t
      · obtain ⟨v, rfl, r⟩ := rds_one rs
        split at t
        · rename_i xs ex
          obtain ⟨p, ys, rfl, o, r2⟩ := sq_rd s r ex
          cases r with
          | tup q r => simp only [sqOf, Option.some.injEq] at ex; subst ex; exact ⟨_, _, rfl, .inr ⟨Same.sqT s.fr q, c.same s (.tup q r) t⟩⟩
          | scr q => simp only [sqOf, Option.some.injEq] at ex; subst ex; exact ⟨_, _, rfl, .inl ⟨Same.sqL s.fr q, fun p hp => c.tup s hp (RDs.ints _) t⟩⟩
          | lst q r => simp only [sqOf, Option.some.injEq] at ex; subst ex; exact ⟨_, _, rfl, .inl ⟨SqL.of (s.fr _ _ q), fun p hp => c.tup s hp r t⟩⟩
          | ref a0 =>
            simp only [sqOf] at ex
            split at ex <;> simp only [Option.some.injEq, reduceCtorEq] at ex
            rename_i ds' em
            subst ex
            obtain ⟨_, zs, q, r⟩ := s.cell _ _ em
            exact ⟨_, _, rfl, .inl ⟨SqL.of q, fun p hp => c.tup s hp r t⟩⟩
          | _ => simp [sqOf] at ex
        · exact t.elim
      · exact t.elim) hm (by decide +kernel) ha hg (by decide) (by decide) he hpl
def fList (ds : List D) (h : MH) (Q : MQ) : Prop := match ds with
  | [d] => match sqOf h d with
    | some xs => Q (.lst xs) h
    | none => False
  | _ => False
def fListM (ds : List D) (h : MH) (Q : MQ) : Prop := match ds with
  | [d] => match sqOf h d with
    | some xs => ∀ p, h p = none → Q (.ref p) (mupd h p (.lst xs))
    | none => False
  | _ => False
def bls : List D → Option (List Bool)
  | [] => some []
  | .bl b :: ds => (bls ds).map (b :: ·)
  | _ => none
def intsOf : List D → Option (List Int)
  | [] => some []
  | .int i :: ds => (intsOf ds).map (i :: ·)
  | _ => none
theorem bls_rd {K : PySem.W.Frag} {F : Hp} : ∀ {ds : List D} {xs : List V} {bs : List Bool}, RDs K F ds xs → bls ds = some bs → xs = bs.map V.bl
  | _, _, _, .nil, e => by simp only [bls, Option.some.injEq] at e; subst e; rfl
  | _, _, _, .cons (d := d) q r, e => by
    cases q <;> simp only [bls, Option.map_eq_some_iff, reduceCtorEq] at e
    obtain ⟨bs, e, rfl⟩ := e
    rw [bls_rd r e]; rfl
theorem ints_rd {K : PySem.W.Frag} {F : Hp} : ∀ {ds : List D} {xs : List V} {bs : List Int}, RDs K F ds xs → intsOf ds = some bs → xs = bs.map V.int
  | _, _, _, .nil, e => by simp only [intsOf, Option.some.injEq] at e; subst e; rfl
  | _, _, _, .cons (d := d) q r, e => by
    cases q <;> simp only [intsOf, Option.map_eq_some_iff, reduceCtorEq] at e
    obtain ⟨bs, e, rfl⟩ := e
    rw [ints_rd r e]; rfl
def fBools (g : List Bool → Bool) (ds : List D) (h : MH) (Q : MQ) : Prop := match ds with
  | [d] => match (lsOf h d).bind bls with
    | some bs => Q (.bl (g bs)) h
    | none => False
  | _ => False
def fSum (ds : List D) (h : MH) (Q : MQ) : Prop := match ds with
  | [d] => match (lsOf h d).bind intsOf with
    | some bs => Q (.int bs.sum) h
    | none => False
  | _ => False
theorem fBools_d {K : PySem.W.Frag} {g : List Bool → Bool} : CallD K (fun vs H Q => ∃ (a : Addr) (bs : List Bool), vs = [V.ref a] ∧ SqL K H a (bs.map V.bl) ∧ Q (.bl (g bs)) H) (fBools g) := fun F H h ds vs Q' Q s rs t c => by
  unfold fBools at t
  split at t
  · obtain ⟨v, rfl, r⟩ := rds_one rs
    split at t
    · rename_i bs eb
      simp only [Option.bind_eq_some_iff] at eb
      obtain ⟨xs, ex, eb⟩ := eb
      obtain ⟨p, ys, rfl, q, r2⟩ := ls_rd s r ex
      have := bls_rd r2 eb
      subst this
      exact ⟨p, bs, rfl, SqL.of q, c.same s (.bl _) t⟩
    · exact t.elim
  · exact t.elim
theorem m_all {p : Pos} (hc : X.calm = true) (hm : X.mg "all" = none) (ha : MA X B (e :: es) wa) (hg : Gl X "all" := by rfl) (he : starEach (e :: es) X.env = (false, eval e X.env) :: starEach es X.env := by rfl) (hpl : (backTo pos (starEach es X.env)).any (·.1) = false := by rfl) :
    ME X B (.Call (.Name "all" p) (e :: es) [] pos) (wCB (fBools fun bs => bs.all id) wa) := m_callB (cr_all hc) fBools_d hm (by decide +kernel) ha hg (by decide) (by decide) he hpl
theorem m_sum {p : Pos} (hc : X.calm = true) (hm : X.mg "sum" = none) (ha : MA X B (e :: es) wa) (hg : Gl X "sum" := by rfl) (he : starEach (e :: es) X.env = (false, eval e X.env) :: starEach es X.env := by rfl) (hpl : (backTo pos (starEach es X.env)).any (·.1) = false := by rfl) :
    ME X B (.Call (.Name "sum" p) (e :: es) [] pos) (wCB fSum wa) := m_callB (cr_sum hc) (fun F H h ds vs Q' Q s rs t c => by
      unfold fSum at t
      split at t
      · obtain ⟨v, rfl, r⟩ := rds_one rs
        split at t
        · rename_i bs eb
          simp only [Option.bind_eq_some_iff] at eb
          obtain ⟨xs, ex, eb⟩ := eb
          obtain ⟨p, ys, rfl, q, r2⟩ := ls_rd s r ex
          have := ints_rd r2 eb
          subst this
          exact ⟨p, bs, rfl, SqL.of q, c.same s (.int _) t⟩
        · exact t.elim
      · exact t.elim) hm (by decide +kernel) ha hg (by decide) (by decide) he hpl
end
end BP

set_option maxRecDepth 100000
set_option maxHeartbeats 4000000
namespace BP
open PySem PySem.Spec PyProof.Rows L2
def clsD (h : MH) : D → Option String
  | .non => some "NoneType"
  | .bl _ => some "bool"
  | .int _ => some "int"
  | .str _ => some "str"
  | .tup _ => some "tuple"
  | .lst _ => some "list"
  | .scr _ => some "list"
  | .dct _ => some "dict"
  | .dcl _ => some "dict"
  | .ref a => match h a with
    | some (.lst _) => some "list"
    | some (.dct _) => some "dict"
    | _ => none
  | _ => none
def subT (a b : String) : Bool := a == b || (a == "bool" && b == "int")
theorem ty_rd {K : PySem.W.Frag} {F H : Hp} {h : MH} (s : SR K F H h) {d : D} {v : V} {n : String} (r : RD K F d v) (e : clsD h d = some n) : TyX K H v (.type n) ∧ n ∈ ["NoneType", "bool", "int", "str", "tuple", "list", "dict"] := by
  cases r with
  | non => simp only [clsD, Option.some.injEq] at e; subst e; exact ⟨.base .non, by decide⟩
  | bl b => simp only [clsD, Option.some.injEq] at e; subst e; exact ⟨.base (.bl b), by decide⟩
  | int i => simp only [clsD, Option.some.injEq] at e; subst e; exact ⟨.base (.int i), by decide⟩
  | str x => simp only [clsD, Option.some.injEq] at e; subst e; exact ⟨.base (.str x), by decide⟩
  | tup q r =>
    simp only [clsD, Option.some.injEq] at e; subst e
    refine ⟨?_, by decide⟩
    rcases Same.sqT s.fr q with (q | ⟨o, q⟩) | ⟨o, its, n, hk, hc, _⟩
    · exact .base (.tup q)
    · exact .fTuple q
    · exact .kTuple hk hc
  | lst q r => simp only [clsD, Option.some.injEq] at e; subst e; exact ⟨.base (.lst (s.fr _ _ q)), by decide⟩
  | scr q =>
    simp only [clsD, Option.some.injEq] at e; subst e
    refine ⟨?_, by decide⟩
    rcases Same.sqL s.fr q with (q | ⟨o, q⟩) | ⟨o, its, n, hk, hc, _⟩
    · exact .base (.lst q)
    · exact .base (.frz q)
    · exact .kList hk hc
  | dct q r => simp only [clsD, Option.some.injEq] at e; subst e; exact ⟨.base (.dK (s.fr _ _ q)), by decide⟩
  | dcl q r => simp only [clsD, Option.some.injEq] at e; subst e; exact ⟨.fDict (s.fr _ _ q), by decide⟩
  | ref a =>
    simp only [clsD] at e
    split at e <;> simp only [Option.some.injEq, reduceCtorEq] at e
    · rename_i em; subst e; obtain ⟨_, xs, q, r⟩ := s.cell _ _ em; exact ⟨.base (.lst q), by decide⟩
    · rename_i em; subst e; obtain ⟨_, xs, q, r⟩ := s.cell _ _ em; exact ⟨.base (.dK q), by decide⟩
  | _ => simp [clsD] at e
def okT (n : String) : Bool := ["bool", "int", "str", "tuple", "list", "dict"].contains n
theorem kit_sub {K : PySem.W.Frag} {a b : String} (ha : a ∈ ["NoneType", "bool", "int", "str", "tuple", "list", "dict"]) (hb : okT b = true) : PySem.W.kitOne K (.type a) (.type b) = some (subT a b) := by
  have hb' : b ∈ ["bool", "int", "str", "tuple", "list", "dict"] := by unfold okT at hb; simpa using hb
  refine kit_ty ?_
  have all : ∀ a ∈ ["NoneType", "bool", "int", "str", "tuple", "list", "dict"], ∀ b ∈ ["bool", "int", "str", "tuple", "list", "dict"], kitB a b = some (subT a b) := by decide +kernel
  exact all a ha b hb'
def fIsi (ns : List String) (d : D) (h : MH) (Q : MQ) : Prop := match clsD h d with
  | some a => Q (.bl (ns.any (subT a))) h
  | none => False
section
variable {X : Cx} {B : Bs} {a b c e o : Expr} {ta tb tc to : WE} {pos p p2 : Pos} {es : List Expr} {wa : WA} {ua : WT}
theorem m_isi {n : String} (hm : X.mg "isinstance" = none) (hn : okT n = true) (ha : ME X B a ta) (hb : PE X b (tC (.ty n))) (hg : Gl X "isinstance" := by rfl) (hs : starEach [a, b] X.env = (false, eval a X.env) :: starEach [b] X.env := by rfl) (hs2 : starEach [b] X.env = (false, eval b X.env) :: starEach [] X.env := by rfl)
    (hpl : (backTo pos (starEach [b] X.env)).any (·.1) = false := by rfl) : ME X B (.Call (.Name "isinstance" p) [a, b] [] pos) (wUn (fIsi [n]) ta) :=
  pe_mono (pe_callB call_isi hg hm (by decide +kernel) (pa_cons ha (pa_cons hb pa_nil hs2) hs) (by decide) (by decide) hs hpl) fun σ H Q ⟨F, h, σd, Q', l, s, t, c⟩ => ⟨F, h, σd, _, l, s, t, fun F1 H1 h1 x u g1 rx t1 => by
    unfold fIsi at t1
    split at t1
    · rename_i m em
      obtain ⟨ty, hm⟩ := ty_rd g1.sr rx em
      refine ⟨u, .ty n, .type m, .type n, subT m n, rfl, .ty n, ty, kit_sub hm hn, ?_⟩
      simp only [List.any_cons, List.any_nil, Bool.or_false] at t1
      exact c F1 H1 h1 _ _ g1 (.bl _) t1
    · exact t1.elim⟩
def isL (h : MH) (d : D) : Prop := ∃ xs, lsOf h d = some xs
def MtD (K : PySem.W.Frag) (r : V → List V → Hp → VK → Prop) (f : D → List D → MH → MQ → Prop) : Prop := ∀ F H h x u ds vs Q' Q, SR K F H h → RD K F x u → RDs K F ds vs → f x ds h Q' → ContV K F H h Q' Q → r u vs H Q
def wMt (f : D → List D → MH → MQ → Prop) (to : WE) (t : WA) : WE := fun σ h Q => to σ h fun x h1 => (lsOf h1 x).isSome = true ∧ t σ h1 fun ds h2 => f x ds h2 Q
theorem lift_mt {r : V → List V → Hp → VK → Prop} {f : D → List D → MH → MQ → Prop} (hf : MtD X.K r f) : ∀ σ H Q, lift X.K B (wMt f to wa) σ H Q → tBM X.K "list" r (lift X.K B to) (liftA X.K B wa) σ H Q := fun σ H Q ⟨F, h, σd, Q', l, s, t, c⟩ =>
  ⟨F, h, σd, _, l, s, t, fun F1 H1 h1 x u g1 rx ⟨t0, t1⟩ => by
    obtain ⟨xs, ex⟩ := Option.isSome_iff_exists.mp t0
    obtain ⟨p, ys, rfl, q, r⟩ := ls_rd g1.sr rx ex
    exact ⟨.inl ⟨rfl, ys, SqL.of q⟩, F1, h1, σd, _, l.mono g1.ss, s.go g1, t1, fun F2 H2 h2 ds vs g2 rs t2 => hf F2 H2 h2 x _ ds vs Q' Q g2.sr (rx.mono g2.ss) rs t2 (c.go (g1.trans g2))⟩⟩
def fAppend (x : D) (ds : List D) (h : MH) (Q : MQ) : Prop := match x, ds with
  | .ref a, [d] => match h a with
    | some (.lst xs) => xs.length < sizeLine ∧ Q .non (mupd h a (.lst (xs ++ [d])))
    | _ => False
  | _, _ => False
theorem fAppend_d {K : PySem.W.Frag} : MtD K rAppend fAppend := fun F H h x u ds vs Q' Q s rx rs t c => by
  unfold fAppend at t
  split at t
  · rename_i a d
    cases rx
    obtain ⟨v, rfl, r⟩ := rds_one rs
    split at t
    · rename_i xs em
      obtain ⟨_, ys, q, r2⟩ := s.cell _ _ em
      exact ⟨a, ys, v, rfl, rfl, q, by rw [← r2.length]; exact t.1, c _ _ _ _ _ (Go.write (c := .lst (xs ++ [d])) s em ⟨_, upd_same, r2.append (.cons r .nil)⟩) .non t.2⟩
    · exact t.elim
  · exact t.elim
def fExtend (x : D) (ds : List D) (h : MH) (Q : MQ) : Prop := match x, ds with
  | .ref a, [d] => match h a, lsOf h d with
    | some (.lst xs), some zs => xs.length + zs.length ≤ sizeLine ∧ Q .non (mupd h a (.lst (xs ++ zs)))
    | _, _ => False
  | _, _ => False
theorem m_mt {name : Str} {id : String} {apos : Pos} {r : V → List V → Hp → VK → Prop} {f : D → List D → MH → MQ → Prop} (slot : Slot "list" name id) (hty : typeOf (.builtin id) = pure (.type "method_descriptor")) (hm : MtR X id r) (hf : MtD X.K r f) (ho : ME X B o to) (ha : MA X B (e :: es) wa)
    (hbase : attributeBase o name X.env (eval o X.env) = eval o X.env := by rfl)
    (hfew : ((backTo pos (starEach (e :: es) X.env)).all (fun x => !x.1) && (backToKw pos (keywordEach [] X.env)).all (fun x => x.1.isSome)
      && decide ((e :: es).length + ([] : List Keyword).length + (if ([] : List Keyword).isEmpty then 0 else 1) < 30)) = true := by rfl)
    (hline : (apos.endLine == pos.line) = true := by rfl) (hs : starEach (e :: es) X.env = (false, eval e X.env) :: starEach es X.env := by rfl) (hplain : (backTo pos (starEach es X.env)).any (·.1) = false := by rfl) :
    ME X B (.Call (.Attribute o name apos) (e :: es) [] pos) (wMt f to wa) := pe_mono (pe_bm PySem.F.plainAttrs_list slot hty hm ho ha hbase hfew hline hs hplain) (lift_mt hf)
abbrev WG := D → MSt → MH → (MSt → MH → Prop) → Prop
abbrev WGs := List D → MSt → MH → (MSt → MH → Prop) → Prop
def liftG (K : PySem.W.Frag) (B : Bs) (g : WG) : TG := fun v σ H Q => ∃ F h σd d Q', LR K F σd σ ∧ Bd K B F H h ∧ RD K F d v ∧ g d σd h Q' ∧ ContS K F H h Q' Q
def liftGs (K : PySem.W.Frag) (B : Bs) (g : WGs) : TGs := fun vs σ H Q => ∃ F h σd ds Q', LR K F σd σ ∧ Bd K B F H h ∧ RDs K F ds vs ∧ g ds σd h Q' ∧ ContS K F H h Q' Q
abbrev MG (X : Cx) (B : Bs) (tg : Expr) (g : WG) : Prop := PG X tg (liftG X.K B g)
abbrev MGs (X : Cx) (B : Bs) (tgs : List Expr) (g : WGs) : Prop := PGs X tgs (liftGs X.K B g)
theorem pg_mono {tg : Expr} {t t' : TG} (h : PG X tg t) (m : ∀ v σ H Q, t' v σ H Q → t v σ H Q) : PG X tg t' := ⟨fun pins s σ H v u Q I r q => h.run pins s σ H v u Q I r (m v σ H Q q)⟩
theorem pgs_mono {tg : List Expr} {t t' : TGs} (h : PGs X tg t) (m : ∀ v σ H Q, t' v σ H Q → t v σ H Q) : PGs X tg t' := ⟨fun pins s σ H v u Q I r q => h.run pins s σ H v u Q I r (m v σ H Q q)⟩
def gN (i : Nat) : WG := fun d σ h Q => Q (σ.set i (some d)) h
theorem mg_name (i : Nat) {x : Str} (hN : X.N.Nodup) (hi : X.N[i]? = some x := by rfl) (hx : Loc X.env.scope x := by first | exact Or.inl rfl | exact Or.inr rfl) (hf : X.fn x = true ∨ X.env.scope.names.lookup x = some .local := by first | exact .inl rfl | exact .inr rfl | assumption) : MG X B (.Name x pos) (gN i) :=
  pg_mono (pg_name hN hi hx hf) fun v σ H Q ⟨F, h, σd, d, Q', l, s, r, t, c⟩ => c F H h _ _ (Go.refl s) (l.set r i) t
def gZ : WGs := fun ds σ h Q => match ds with
  | [] => Q σ h
  | _ => False
def gC (g : WG) (gs : WGs) : WGs := fun ds σ h Q => match ds with
  | d :: r => g d σ h fun σ1 h1 => gs r σ1 h1 Q
  | [] => False
theorem mgs_nil : MGs X B [] gZ := pgs_mono pgs_nil fun v σ H Q ⟨F, h, σd, d, Q', l, s, r, t, c⟩ => by
  cases r with
  | nil => exact ⟨rfl, c F H h _ _ (Go.refl s) l t⟩
  | cons _ _ => exact t.elim
theorem mgs_cons {g : WG} {gs : WGs} (h1 : MG X B e g) (h2 : MGs X B es gs) (hs : (assignEach (e :: es) X.env).map (·.2) = assign e X.env :: (assignEach es X.env).map (·.2) := by rfl) : MGs X B (e :: es) (gC g gs) :=
  pgs_mono (pgs_cons h1 h2 hs) fun v σ H Q ⟨F, h, σd, d, Q', l, s, r, t, c⟩ => by
    cases r with
    | nil => exact t.elim
    | cons q r =>
      exact ⟨_, _, rfl, F, h, σd, _, _, l, s, q, t, fun F1 H1 h1 σ1 τ1 g1 l1 t1 => ⟨F1, h1, σ1, _, Q', l1, s.go g1, r.mono g1.ss, t1, c.go g1⟩⟩
def gT (n : Nat) (gs : WGs) : WG := fun d σ h Q => match d with
  | .tup ds => ds.length = n ∧ gs ds σ h Q
  | _ => False
theorem mg_tup {k n : Nat} {gs : WGs} (hc : X.calm = true) (h : MGs X B es gs) (hn : (assignEach es X.env).length = n := by rfl) (hst : (assignEach es X.env).findIdx? (·.1) = none := by rfl) : MG X B (.Tuple es k pos) (gT n gs) :=
  pg_mono (pg_tup hc h hn hst) fun v σ H Q ⟨F, h, σd, d, Q', l, s, r, t, c⟩ => by
    cases r with
    | tup q r => exact ⟨_, _, rfl, Same.sqT s.fr q, by rw [← r.length]; exact t.1, F, h, σd, _, Q', l, s, r, t.2, c⟩
    | _ => exact t.elim
def gSt (to ti : WE) : WG := fun d σ h Q => to σ h fun o h1 => ti σ h1 fun i h2 => match o, i with
  | .ref a, .int k => match h2 a with
    | some (.lst xs) => match ixN xs.length k with
      | some j => Q σ (mupd h2 a (.lst (xs.set j d)))
      | none => False
    | _ => False
  | _, _ => False
theorem mg_sub {i : Expr} {ti : WE} (ho : ME X B o to) (hi : ME X B i ti)
    (ha : ∀ v, assign (.Subscript o i pos) X.env v = (do
      let ov ← holding [v] (eval o X.env)
      let iv ← holding [v, ov] (eval i X.env)
      standAt pos
      holding [v, ov, iv] (setItem ov iv v)
      release [v, ov, iv] []) := by intro _; rfl) : MG X B (.Subscript o i pos) (gSt to ti) :=
  pg_mono (pg_sub ho hi set_list ha) fun v σ H Q ⟨F, h, σd, d, Q', l, s, r, t, c⟩ => ⟨F, h, σd, _, l, s, t, fun F1 H1 h1 x u g1 rx t1 => ⟨F1, h1, σd, _, l.mono g1.ss, s.go g1, t1, fun F2 H2 h2 y w g2 ry t2 => by
    split at t2
    · cases rx; cases ry
      split at t2
      · rename_i a k _ xs em
        split at t2
        · rename_i j ej
          obtain ⟨_, ys, q, r2⟩ := g2.sr.cell _ _ em
          refine ⟨a, ys, k, j, rfl, rfl, q, by rw [← r2.length]; exact ej, ?_⟩
          have rd : RD X.K F2 d v := (r.mono g1.ss).mono g2.ss
          exact c _ _ _ _ _ ((g1.trans g2).trans (Go.write (c := .lst (xs.set j d)) g2.sr em ⟨_, upd_same, r2.set rd j⟩)) (l.mono (g1.trans g2).ss) t2
        · exact t2.elim
      · exact t2.elim
    · exact t2.elim⟩⟩
variable {st : Stmt} {sts : List Stmt} {t u : WS}
def wNext : WS := fun D σ h => D.nx σ h
def wSeq (t u : WS) : WS := fun D σ h => t { D with nx := u D } σ h
theorem ms_nil : MSs X B [] wNext := pss_mono pss_nil fun E σ H ⟨F, h, σd, D', l, s, t, c⟩ => c.nx F H h _ _ (Go.refl s) l t
theorem ms_cons (h1 : MS X B st t) (h2 : MSs X B sts u) : MSs X B (st :: sts) (wSeq t u) :=
  pss_mono (pss_cons h1 h2) fun E σ H ⟨F, h, σd, D', l, s, t, c⟩ => ⟨F, h, σd, _, l, s, t, ⟨fun F1 H1 h1 σ1 τ1 g1 l1 t1 => ⟨F1, h1, σ1, D', l1, s.go g1, t1, c.go g1⟩, c.rt, c.bk, c.ct⟩⟩
theorem ms_one (h1 : MS X B st t) : MSs X B [st] t := pss_one h1
def wBreak : WS := fun D σ h => D.bk σ h
def wCont : WS := fun D σ h => D.ct σ h
theorem ms_break : MS X B (.Break pos) wBreak := ps_mono ps_break fun E σ H ⟨F, h, σd, D', l, s, t, c⟩ => c.bk F H h _ _ (Go.refl s) l t
def wDrop (t : WE) : WS := fun D σ h => t σ h fun _ h1 => D.nx σ h1
theorem ms_expr (he : ME X B e ta) (hs : swapsWith e none pos.line X.env = pure false := by rfl) : MS X B (.Expr e pos) (wDrop ta) :=
  ps_mono (ps_expr he hs) fun E σ H ⟨F, h, σd, D', l, s, t, c⟩ => ⟨F, h, σd, _, l, s, t, fun F1 H1 h1 x u g1 rx t1 => c.nx F1 H1 h1 _ _ g1 (l.mono g1.ss) t1⟩
def wRet (t : WE) : WS := fun D σ h => t σ h D.rt
theorem ms_ret (he : ME X B e ta) : MS X B (.Return (some e) pos) (wRet ta) :=
  ps_mono (ps_ret he) fun E σ H ⟨F, h, σd, D', l, s, t, c⟩ => ⟨F, h, σd, _, l, s, t, c.rt⟩
def wRetN : WS := fun D _ h => D.rt .non h
def wIfS (c : WT) (t u : WS) : WS := fun D σ h => c σ h fun b h1 => if b = true then t D σ h1 else u D σ h1
theorem ms_if {c : Expr} {ss rs : List Stmt} (hc : MT X B c ua) (ha : MSs X B ss t) (hb : MSs X B rs u) : MS X B (.If c ss rs pos) (wIfS ua t u) :=
  ps_mono (ps_if hc ha hb) fun E σ H ⟨F, h, σd, D', l, s, t, c⟩ => ⟨F, h, σd, _, l, s, t, fun F1 H1 h1 k g1 t1 => by
    cases k with
    | true => rw [if_pos rfl] at t1 ⊢; exact ⟨F1, h1, σd, D', l.mono g1.ss, s.go g1, t1, c.go g1⟩
    | false => rw [if_neg Bool.false_ne_true] at t1 ⊢; exact ⟨F1, h1, σd, D', l.mono g1.ss, s.go g1, t1, c.go g1⟩⟩
def wSet (i : Nat) (t : WE) : WS := fun D σ h => t σ h fun d h1 => D.nx (σ.set i (some d)) h1
theorem lift_set {i : Nat} : ∀ E σ H, liftS X.K B (wSet i ta) E σ H → tAsg (lift X.K B ta) (gName i) E σ H := fun E σ H ⟨F, h, σd, D', l, s, t, c⟩ =>
  ⟨F, h, σd, _, l, s, t, fun F1 H1 h1 x u g1 rx t1 => c.nx F1 H1 h1 _ _ g1 ((l.mono g1.ss).set rx i) t1⟩
theorem ms_set (i : Nat) {x : Str} {pos' : Pos} (hN : X.N.Nodup) (he : ME X B e ta) (hi : X.N[i]? = some x := by rfl) (hx : Loc X.env.scope x := by first | exact Or.inl rfl | exact Or.inr rfl) (hs : swapsWith e (some (.Name x pos')) pos.line X.env = pure false := by rfl)
    (hf : X.fn x = true ∨ X.env.scope.names.lookup x = some .local := by first | exact .inl rfl | exact .inr rfl | assumption) : MS X B (.Assign [.Name x pos'] e pos) (wSet i ta) := ps_mono (ps_set hN hi hx he hs hf) lift_set
def wAsg (t : WE) (g : WG) : WS := fun D σ h => t σ h fun d h1 => g d σ h1 D.nx
theorem ms_asg {tg : Expr} {g : WG} (he : ME X B e ta) (hg : MG X B tg g) (hs : swapsWithSole [tg] e pos.line X.env = pure false := by rfl) (hw : swappedStores [tg] e X.env = pure none := by rfl)
    (h1 : (assignEach [tg] X.env).map (·.2) = [assign tg X.env] := by rfl) : MS X B (.Assign [tg] e pos) (wAsg ta g) :=
  ps_mono (ps_asg he hg hs hw h1) fun E σ H ⟨F, h, σd, D', l, s, t, c⟩ => ⟨F, h, σd, _, l, s, t, fun F1 H1 h1 x u g1 rx t1 => ⟨F1, h1, σd, x, _, l.mono g1.ss, s.go g1, rx, t1, fun F2 H2 h2 σ2 τ2 g2 l2 t2 => c.nx F2 H2 h2 _ _ (g1.trans g2) l2 t2⟩⟩
def wPar (i j : Nat) (t : WA) : WS := fun D σ h => t σ h fun ds h1 => match ds with
  | [d, e] => D.nx ((σ.set i (some d)).set j (some e)) h1
  | _ => False
theorem ms_par (i j : Nat) {x y : Str} {a b : Expr} {px py pt : Pos} {kt k2 pt2} (hc : X.calm = true) (hN : X.N.Nodup) (ha : MA X B [a, b] wa) (hi : X.N[i]? = some x := by rfl) (hj : X.N[j]? = some y := by rfl) (hij : i ≠ j := by decide)
    (hx : X.env.scope.names.lookup x = some .local := by rfl) (hy : X.env.scope.names.lookup y = some .local := by rfl)
    (hw : swappedStores [.Tuple [.Name x px, .Name y py] kt pt] (.Tuple [a, b] k2 pt2) X.env = pure (some [x, y]) := by rfl)
    (hs : swapsWithSole [.Tuple [.Name x px, .Name y py] kt pt] (.Tuple [a, b] k2 pt2) pos.line X.env = pure false := by rfl) :
    MS X B (.Assign [.Tuple [.Name x px, .Name y py] kt pt] (.Tuple [a, b] k2 pt2) pos) (wPar i j wa) :=
  ps_mono (ps_par hc hN hi hj hij hx hy ha hw hs) fun E σ H ⟨F, h, σd, D', l, s, t, c⟩ => ⟨F, h, σd, _, l, s, t, fun F1 H1 h1 ds vs g1 rs t1 => by
    split at t1
    · obtain ⟨v, w, rfl, r1, r2⟩ := rds_two rs
      exact ⟨v, w, rfl, c.nx F1 H1 h1 _ _ g1 (((l.mono g1.ss).set r1 i).set r2 j) t1⟩
    · exact t1.elim⟩
def wAug (i : Nat) (t : WE) (g : Int → Int → Int) : WS := fun D σ h => match σ[i]? with
  | some (some (.int x)) => t σ h fun d h1 => match d with
    | .int y => D.nx (σ.set i (some (.int (g x y)))) h1
    | _ => False
  | _ => False
theorem ms_aug (i : Nat) {x : Str} {op : Operator} {g : Int → Int → Int} {pos' : Pos} (hN : X.N.Nodup) (he : ME X B e ta) (ho : PIp X op (ipI g)) (hi : X.N[i]? = some x := by rfl) (hx : Loc X.env.scope x := by first | exact Or.inl rfl | exact Or.inr rfl)
    (hf : X.fn x = true ∨ X.env.scope.names.lookup x = some .local := by first | exact .inl rfl | exact .inr rfl | assumption) : MS X B (.AugAssign (.Name x pos') op e pos) (wAug i ta g) :=
  ps_mono (ps_aug hN hi hx he ho hf) fun E σ H ⟨F, h, σd, D', l, s, t, c⟩ => by
    unfold wAug at t
    split at t
    · rename_i k ek
      obtain ⟨v, ev, rv⟩ := l.get _ _ ek
      cases rv
      refine ⟨_, ev, F, h, σd, _, l, s, t, fun F1 H1 h1 y u g1 ry t1 => ?_⟩
      split at t1
      · cases ry
        exact ⟨_, _, rfl, rfl, c.nx F1 H1 h1 _ _ g1 ((l.mono g1.ss).set (.int _) i) t1⟩
      · exact t1.elim
    · exact t.elim
def wFz (i : Nat) (t : WS) : WS := fun D σ h => match σ[i]? with
  | some (some (.ref a)) => match h a with
    | some (.lst ds) => t D (σ.set i (some (.lst ds))) (mdel h a)
    | _ => False
  | some (some (.lst _)) => t D σ h
  | _ => False
theorem LR.setD {K : PySem.W.Frag} {F : Hp} {σd : MSt} {σ : L2.St} {d : D} {v : V} {i : Nat} (l : LR K F σd σ) (r : RD K F d v) (e : σ[i]? = some (some v)) : LR K F (σd.set i (some d)) σ := by
  have h := l.set r i
  have z : σ.set i (some v) = σ := by
    apply List.ext_getElem?
    intro j
    rw [List.getElem?_set]
    split
    · rename_i hij; subst hij
      split
      · exact e.symm
      · rename_i hl; rw [List.getElem?_eq_none_iff.mpr (by omega)] at e; cases e
    · rfl
  rw [z] at h
  exact h
theorem ms_fz (i : Nat) (h : MSs X B sts t) : MSs X B sts (wFz i t) := pss_mono h fun E σ H ⟨F, h, σd, D', l, s, t, c⟩ => by
  unfold wFz at t
  split at t
  · rename_i a ea
    split at t
    · rename_i ds em
      obtain ⟨v, ev, rv⟩ := l.get _ _ ea
      cases rv
      obtain ⟨_, xs, q, r⟩ := s.cell _ _ em
      have g := Go.settle s.sr em q
      exact ⟨_, _, _, D', (l.mono g.ss).setD (.lst upd_same (r.mono g.ss)) ev, s.go g, t, c.go g⟩
    · exact t.elim
  · exact ⟨F, h, σd, D', l, s, t, c⟩
  · exact t.elim
end
end BP

set_option maxRecDepth 100000
set_option maxHeartbeats 4000000
namespace BP
open PySem PySem.Spec PyProof.Rows L2

set_option maxHeartbeats 4000000 in
theorem meets_enum1 {v : Value} {o : Obj} {H : Heap → Prop} (B : Begins v o H) :
    Meets (Builtin.«enumerate.__new__» ⟨[.type "enumerate", v], []⟩) (fun _ R s => H s.heap ∧
      R (.ok (.ret (.ref (s.heap.push o).objs.size))) { s with heap := (s.heap.push o).push { cls := .type "enumerate", data := .fields #[.none, .bool false, .ref s.heap.objs.size, rawInt 0, .none, .none] } }) :=
  .of_wp fun prog w A R s h => by
    obtain ⟨hp, g, d, tk, os⟩ := s; obtain ⟨h1, h⟩ := h
    have hsub := sub_enumerate
    have q1 : ∀ {A' : Around} {E : Value → Shared → Prop} {Q : Value → Shared → Prop}, Q (.ref hp.objs.size) ⟨hp.push o, g, d, tk, os⟩ → wpAny (model prog w) A' (pyIter v) Q E ⟨hp, g, d, tk, os⟩ :=
      fun q => B.iter prog w _ _ ⟨hp, g, d, tk, os⟩ _ h1 q
    wp_walk using q1
    refine wpAny_stack_any fun st => wpAny_pure ?_
    split
    · rename_i c _ _ _ _ _
      cases (c == Value.type "enumerate")
      · wp_walk using q1
        exact ⟨_, rfl, h⟩
      · wp_walk using q1
        exact ⟨_, rfl, h⟩
    · wp_walk using q1
      exact ⟨_, rfl, h⟩
theorem enum_begins1 {prog : Program} {w : World} {A : Around} {E : Value → Shared → Prop} {s : Shared} {v : Value} {o : Obj} {H : Heap → Prop} {Q : Value → Shared → Prop} (B : Begins v o H) (h1 : H s.heap)
    (h : ∀ h', IsEnum h' (s.heap.objs.size + 1) s.heap.objs.size 0 .none → h'.get? s.heap.objs.size = some o → h'.objs.size = s.heap.objs.size + 2 →
      (∀ b o, s.heap.get? b = some o → h'.get? b = some o) → Q (.ref (s.heap.objs.size + 1)) { s with heap := h' }) :
    wpAny (model prog w) A (call (.type "enumerate") [v]) Q E s := by
  refine callType_new F.called_enumerate (by decide) (F.typeCall_enumerate_1 _) (F.newCall_enumerate_1 _) (fun obj => F.args_object_init_2 obj _) F.entry_enumerate_new
    (meets_enum1 B) ⟨h1, ?_⟩
  have hz : (s.heap.push o).objs.size = s.heap.objs.size + 1 := Heap.size_push ..
  show _ ∧ _
  rw [hz]
  have he : IsEnum ((s.heap.push o).push { cls := .type "enumerate", data := .fields #[.none, .bool false, .ref s.heap.objs.size, rawInt 0, .none, .none] }) (s.heap.objs.size + 1) s.heap.objs.size 0 .none := by
    have := Heap.get?_push_size (s.heap.push o) (o := { cls := .type "enumerate", data := .fields #[.none, .bool false, .ref s.heap.objs.size, rawInt 0, .none, .none] }) rfl
    rw [hz] at this; exact this
  refine ⟨⟨_, he, rfl⟩, h _ he (Heap.get?_push_of_some _ (Heap.get?_push_size _ B.free)) (by rw [Heap.size_push, hz]) fun b o x => Heap.get?_push_of_some _ (Heap.get?_push_of_some _ x)⟩

def SqF (K : PySem.W.Frag) (k : Bool) (F : Hp) (a : Addr) (xs : List V) : Prop := if k = true then SqL K F a xs else SqU K F a xs
def Sq (K : PySem.W.Frag) (k : Bool) (H : Hp) (a : Addr) (xs : List V) : Prop := if k = true then SqL K H a xs else SqT K H a xs
def IsSq (k : Bool) (h : Heap) (a : Addr) (its : Array Value) : Prop := if k = true then h.IsList a its else h.IsTuple a its
def IsItr (k : Bool) (h : Heap) (it a : Addr) (i : Nat) : Prop := if k = true then h.IsListIter it a i else h.IsTupleIter it a i
theorem Inv.sq {X : Cx} {pins : List (Addr × Obj)} {σ : L2.St} {H : Hp} {s : Shared} {k : Bool} {a : Addr} {xs : List V} (I : Inv X pins σ H s) (h : Sq X.K k H a xs) : ∃ its : List Value, Vals xs its ∧ IsSq k s.heap a its.toArray ∧ xs.length ≤ sizeLine := by
  cases k with
  | true => obtain ⟨its, r, p, z⟩ := I.list h; exact ⟨its, r, p.isList, z⟩
  | false => obtain ⟨its, r, p, z⟩ := I.tuple h; exact ⟨its, r, p, z⟩
theorem Inv.sq_inj {X : Cx} {pins : List (Addr × Obj)} {σ : L2.St} {H : Hp} {s : Shared} {k : Bool} {a : Addr} {xs ys : List V} (I : Inv X pins σ H s) (h : Sq X.K k H a xs) (h' : Sq X.K k H a ys) : xs = ys := by
  cases k with
  | true => exact I.list_inj h h'
  | false => exact I.tuple_inj h h'
theorem IsItr.obj {k : Bool} {h : Heap} {it a : Addr} {i : Nat} (x : IsItr k h it a i) : ∃ o, h.get? it = some o ∧ ∀ v, o.data ≠ .cell v := by
  cases k with
  | true => obtain ⟨o, e, c, d⟩ := (show h.IsListIter it a i from x); exact ⟨o, e, fun v z => by rw [d] at z; cases z⟩
  | false => obtain ⟨o, e, c, d⟩ := (show h.IsTupleIter it a i from x); exact ⟨o, e, fun v z => by rw [d] at z; cases z⟩
theorem IsItr.at {k : Bool} {h h' : Heap} {it a : Addr} {i : Nat} (x : IsItr k h it a i) (q : ∀ o, h.get? it = some o → h'.get? it = some o) : IsItr k h' it a i := by
  cases k with
  | true => exact Heap.IsListIter.at (show h.IsListIter it a i from x) q
  | false => exact Heap.IsTupleIter.at (show h.IsTupleIter it a i from x) q
theorem draws_of {prog : Program} {w : World} {A : Around} (hh : A.handled = none) (k : Bool) (it a : Addr) (hne : a ≠ it) (its : Array Value) : Draws prog w A it [it, a] its.size (fun i v => its[i]? = some v) (fun i h => IsItr k h it a i ∧ IsSq k h a its) := by
  cases k with
  | true => exact Draws.list hh it a hne its
  | false => exact Draws.tuple hh it a hne its
def ItE (K : PySem.W.Frag) (k : Bool) (a : Addr) (k0 : Int) : It :=
  ⟨fun i H => ∃ (xs : List V) (x : V), Sq K k H a xs ∧ xs[i]? = some x, fun i H v H' => ∃ T x, v = .ref T ∧ H T = none ∧ H' = upd H T (.tup [.int (k0 + (i : Nat)), x]) ∧ ∀ xs, Sq K k H a xs → xs[i]? = some x, fun i H => ∃ xs : List V, Sq K k H a xs ∧ xs.length = i⟩
theorem turn_enumA {P : Program} {w : World} {K : PySem.W.Frag} {elts : List Expr} {kk : Nat} {tpos : Pos} (k : Bool) (k0 : Int) (a e it : Addr) :
    Turn P w K (.Tuple elts kk tpos) (ItE K k a k0) [e, it] e (fun i h => (∃ old, IsEnum h e it (k0 + ((i : Nat) : Int)) old) ∧ IsItr k h it a i ∧ e ≠ it ∧ a ≠ it ∧ a ≠ e) where
  mem := by simp
  obj := fun i h st b hb => by
    obtain ⟨⟨old, he⟩, hi, _⟩ := st
    have e' : b = e ∨ b = it := by simpa using hb
    rcases e' with z | z
    · rw [z]; exact ⟨_, he, fun v q => nomatch q⟩
    · rw [z]; exact hi.obj
  keep := fun i h h' st kp => let ⟨⟨old, he⟩, hi, hne⟩ := st; ⟨⟨old, kp e (by simp) _ he⟩, hi.at fun o q => kp it (by simp) o q, hne⟩
  item := by
    intro X hP hw hK hc i pins s σ H E I hf st hg
    subst hP hw hK
    obtain ⟨⟨old, he⟩, hit, hne, ha1, ha2⟩ := st
    obtain ⟨xs, x, hq, hx⟩ := hg
    obtain ⟨its, rv, p, hz⟩ := Inv.sq I hq
    obtain ⟨u, hu, ru⟩ := rv.get hx
    have hi : i < its.toArray.size := by rw [List.size_toArray]; exact (List.getElem?_eq_some_iff.mp hu).1
    have hin : ∀ b ∈ [e, it], b < s.heap.objs.size := fun b hb => by
      have e' : b = e ∨ b = it := by simpa using hb
      rcases e' with z | z
      · rw [z]; exact Heap.lt_size he
      · rw [z]; obtain ⟨o, q, _⟩ := hit.obj; exact Heap.lt_size q
    have D := draws_of (prog := X.prog) (w := X.w) (A := X.A.in1) (I.ok.hd hc) k it a ha1 its.toArray
    have G := GoesN.enumFrom (A := X.A) (elts := elts) (x1 := kk) (pos := tpos) k0 D e hne (by simp [hne, Ne.symm ha2]) (by simp)
    refine thn (G.goes i s (fun v s2 => ∃ y H', Inv X pins σ H' s2 ∧ RelV y v ∧ (ItE X.K k a k0).yld i H y H' ∧ ((∃ old, IsEnum s2.heap e it (k0 + (((i + 1 : Nat)) : Int)) old) ∧ IsItr k s2.heap it a (i + 1) ∧ e ≠ it ∧ a ≠ it ∧ a ≠ e) ∧ ∀ b ∈ [e, it], H' b = none) E hi ⟨⟨old, he⟩, hit, p⟩ fun v h' tk hY st' hk htk => ?_) fun r s1 ⟨v, hr, hw⟩ => ⟨v, hr, hw⟩
    obtain ⟨T, t, y, rfl, hT, hy, hTup⟩ := hY
    obtain ⟨he', hit', _⟩ := st'
    have ey : y = u := by
      have : its.toArray[i]? = some u := by simpa using hu
      rw [this] at hy; exact (Option.some.inj hy).symm
    subst ey
    have new : ObjOk X.prog X.w (upd H T (.tup [.int (k0 + (i : Nat)), x])) h' T (.tup [.int (k0 + (i : Nat)), x]) :=
      ⟨by show 2 ≤ sizeLine; decide, [.int (k0 + (i : Int)) t, y], .cons ⟨_, rfl⟩ (.cons ru .nil), hTup⟩
    have I1 : Inv X pins σ (upd H T (.tup [.int (k0 + (i : Nat)), x])) { s with heap := h', toks := tk } := I.turnedNew (ch := [e, it]) (fun b ob hb q => hk b ob hb q) hf hT new
    refine ⟨.ref T, _, I1, rfl, ⟨T, x, rfl, I.hok.fresh hT, rfl, fun ys hys => by rw [Inv.sq_inj I hys hq]; exact hx⟩, ⟨he', hit', hne, ha1, ha2⟩, fun b hb => ?_⟩
    rw [upd_ne (Nat.ne_of_lt (Nat.lt_of_lt_of_le (hin b hb) hT))]
    exact (hf b hb).1
  done := by
    intro X hP hw hK hc i pins s σ H E I hf st hg
    subst hP hw hK
    obtain ⟨⟨old, he⟩, hit, hne, ha1, ha2⟩ := st
    obtain ⟨xs, hq, hx⟩ := hg
    obtain ⟨its, rv, p, hz⟩ := Inv.sq I hq
    have D := draws_of (prog := X.prog) (w := X.w) (A := X.A.in1) (I.ok.hd hc) k it a ha1 its.toArray
    have G := GoesN.enumFrom (A := X.A) (elts := elts) (x1 := kk) (pos := tpos) k0 D e hne (by simp [hne, Ne.symm ha2]) (by simp)
    have hn : its.toArray.size = i := by rw [List.size_toArray, ← rv.length, hx]
    rw [hn] at G
    exact G.stops s (fun s1 => Inv X pins σ H s1) E ⟨⟨old, he⟩, hit, p⟩ fun h' tk hk htk => I.turnedL (ch := [e, it]) hk hf
  self := fun A i s Q E st h => let ⟨⟨_, he⟩, _⟩ := st; wpAny_pyIter_enum he h
def iEnumA (K : PySem.W.Frag) (ta : TA) : TI := fun σ H R => ta σ H fun vs H1 => ∃ k a xs, vs = [.ref a] ∧ Sq K k H1 a xs ∧ R (ItE K k a 0) H1
theorem IsSq.lt {k : Bool} {h : Heap} {a : Addr} {its : Array Value} (x : IsSq k h a its) : a < h.objs.size := by
  cases k with
  | true => obtain ⟨o, e, _⟩ := (show h.IsList a its from x); exact Heap.lt_size e
  | false => obtain ⟨o, e, _⟩ := (show h.IsTuple a its from x); exact Heap.lt_size e
def itObj (k : Bool) (a : Addr) : Obj := if k = true then { cls := .type "list_iterator", data := .fields #[.ref a, .int 0 0] } else { cls := .type "tuple_iterator", data := .fields #[.ref a, .int 0 0] }
theorem begins_of (k : Bool) (a : Addr) (its : Array Value) : Begins (.ref a) (itObj k a) fun h => IsSq k h a its := by
  cases k with
  | true => exact begins_list a its
  | false => exact begins_tuple a its
theorem itObj_is {k : Bool} {h : Heap} {it a : Addr} (e : h.get? it = some (itObj k a)) : IsItr k h it a 0 := by
  cases k with
  | true => exact ⟨_, e, rfl, rfl⟩
  | false => exact ⟨_, e, rfl, rfl⟩
theorem enum_pie {X : Cx} {pins : List (Addr × Obj)} {σ : L2.St} {H : Hp} {s : Shared} {R : It → Hp → Prop} {E : Value → Shared → Prop} {elts : List Expr} {kk : Nat} {tpos : Pos} {k : Bool} {a : Addr} {k0 : Int} {its : Array Value} {h' : Heap} (I : Inv X pins σ H s) (hs : IsSq k s.heap a its)
    (he : IsEnum h' (s.heap.objs.size + 1) s.heap.objs.size k0 .none) (hit : h'.get? s.heap.objs.size = some (itObj k a)) (hk : ∀ b o, s.heap.get? b = some o → h'.get? b = some o) (q : R (ItE X.K k a k0) H) :
    wpAny (model X.prog X.w) X.A (pyIter (.ref (s.heap.objs.size + 1))) (PIE X pins σ (.Tuple elts kk tpos) R) E { s with heap := h' } := by
  refine wpAny_pyIter_enum he ?_
  have hl := hs.lt
  have I2 : Inv X pins σ H { s with heap := h' } := I.kept (t' := s.toks) hk
  refine ⟨s.heap.objs.size + 1, [s.heap.objs.size + 1, s.heap.objs.size], _, _, H, rfl, I2, turn_enumA k k0 a (s.heap.objs.size + 1) s.heap.objs.size, ⟨⟨.none, ?_⟩, itObj_is hit, Nat.succ_ne_self _, Nat.ne_of_lt hl, Nat.ne_of_lt (Nat.lt_succ_of_lt hl)⟩, fun b hb => ?_, q⟩
  · have z : k0 + ((0 : Nat) : Int) = k0 := by omega
    rw [z]; exact he
  · have e' : b = s.heap.objs.size + 1 ∨ b = s.heap.objs.size := by simpa using hb
    have hle : s.heap.objs.size ≤ b := by
      rcases e' with z | z
      · rw [z]; exact Nat.le_add_right _ _
      · rw [z]; exact Nat.le_refl _
    exact I.fpOk hle (I.hok.fresh hle)
theorem pi_enumA {X : Cx} {e : Expr} {ta : TA} {p pos tpos : Pos} {elts : List Expr} {kk : Nat} (hg : Gl X "enumerate") (hm : X.mg "enumerate" = none) (ha : PA X [e] ta) (hs : starEach [e] X.env = [(false, eval e X.env)] := by rfl) :
    PI X (.Tuple elts kk tpos) (.Call (.Name "enumerate" p) [e] [] pos) (iEnumA X.K ta) := by
  refine ⟨fun pins s σ H R I h => ?_⟩
  refine Call_ (ld_blt I hg hm boot_enumerate (PyProof.Rows.callWith_type1 (thn (ha.run pos pins s σ H _ I h) fun us s1 ⟨vs, H1, I1, r1, q1⟩ => ?_) hs rfl))
  obtain ⟨k, a, xs, ex, hq, q⟩ := q1
  subst ex
  cases r1 with
  | cons r rr =>
    cases rr
    cases r
    obtain ⟨its, rv, p', hz⟩ := Inv.sq I1 hq
    exact enum_begins1 (begins_of k a its.toArray) p' fun h' he hit hsz hk => enum_pie I1 p' he hit hk q

structure WalkD (K : PySem.W.Frag) (J : It) (F : Hp) (ds : List D) : Prop where
  goes : ∀ i H, i < ds.length → Same F H → J.go i H
  stops : ∀ H, Same F H → J.stop ds.length H
  yields : ∀ (i : Nat) (d : D) (H : Hp) (x : V) (H' : Hp), ds[i]? = some d → Same F H → J.yld i H x H' → ∀ F1 h, Same F F1 → SR K F1 H h → ∃ F2, Go K F1 H h F2 H' h ∧ RD K F2 d x
abbrev WI := MSt → MH → (List D → MH → Prop) → Prop
def liftI (K : PySem.W.Frag) (B : Bs) (t : WI) : TI := fun σ H R => ∃ F h σd Q', LR K F σd σ ∧ Bd K B F H h ∧ t σd h Q' ∧ ∀ F' H' h' ds J, Go K F H h F' H' h' → WalkD K J F' ds → Q' ds h' → R J H'
abbrev MI (X : Cx) (B : Bs) (tg iter : Expr) (t : WI) : Prop := PI X tg iter (liftI X.K B t)
section
variable {X : Cx} {B : Bs} {tg iter a b c e : Expr} {ta tb tc : WE} {pos p : Pos} {wa : WA}
theorem pi_mono {t t' : TI} (h : PI X tg iter t) (m : ∀ σ H R, t' σ H R → t σ H R) : PI X tg iter t' := ⟨fun pins s σ H R I q => h.run pins s σ H R I (m σ H R q)⟩
theorem pi_row {l : Expr} {tl : TE} (hl : PE X l tl) : PI X tg l (fun σ H R => tl σ H fun x H1 => (∃ a, x = .ref a ∧ (∃ xs, SqL X.K H1 a xs) ∧ R (Itl X.K a) H1) ∨ (∃ a, x = .ref a ∧ (∃ xs, SqT X.K H1 a xs) ∧ R (Itt X.K a) H1)) := by
  refine ⟨fun pins s σ H R I h => ?_⟩
  refine thn (hl.run pins s σ H _ I h) fun v s1 ⟨x, H1, I1, r1, q1⟩ => ?_
  rcases q1 with ⟨a, e, ⟨xs, hq⟩, q⟩ | ⟨a, e, ⟨xs, hq⟩, q⟩
  · subst e
    cases r1
    obtain ⟨its, rv, p, hz⟩ := I1.list hq
    refine wpAny_pyIter_list p.isList ?_
    refine ⟨s1.heap.objs.size, [s1.heap.objs.size], _, _, H1, rfl, I1.kept (t' := s1.toks) fun b o e => Heap.get?_push_of_some _ e, turn_list a _, ⟨_, Heap.get?_push_size _ rfl, rfl, rfl⟩, fun b hb => ?_, q⟩
    have e : b = s1.heap.objs.size := by simpa using hb
    subst e
    exact I1.fpOk (Nat.le_refl _) (I1.hok.fresh (Nat.le_refl _))
  · subst e
    cases r1
    obtain ⟨its, rv, p, hz⟩ := I1.tuple hq
    refine wpAny_pyIter_tuple (show s1.heap.IsTuple a its.toArray from p) ?_
    refine ⟨s1.heap.objs.size, [s1.heap.objs.size], _, _, H1, rfl, I1.kept (t' := s1.toks) fun b o e => Heap.get?_push_of_some _ e, turn_tuple a _, ⟨_, Heap.get?_push_size _ rfl, rfl, rfl⟩, fun b hb => ?_, q⟩
    have e : b = s1.heap.objs.size := by simpa using hb
    subst e
    exact I1.fpOk (Nat.le_refl _) (I1.hok.fresh (Nat.le_refl _))
theorem walkD_list {K : PySem.W.Frag} {F : Hp} {a : Addr} {xs : List V} {ds : List D} (q : SqL K F a xs) (r : RDs K F ds xs) : WalkD K (Itl K a) F ds where
  goes := fun i H hi sm => ⟨xs, xs[i]'(by rw [← r.length]; exact hi), Same.sqL sm q, by simp⟩
  stops := fun H sm => ⟨xs, Same.sqL sm q, by rw [r.length]; exact Nat.le_refl _⟩
  yields := fun i d H x H' hd sm ⟨e, y⟩ F1 h s1 sr => by
    subst e
    obtain ⟨v, hv, rd⟩ := r.get hd
    have := y xs (Same.sqL sm q)
    rw [hv] at this; cases this
    exact ⟨F1, Go.refl sr, rd.mono s1⟩
theorem walkD_tup {K : PySem.W.Frag} {F : Hp} {a : Addr} {xs : List V} {ds : List D} (q : SqU K F a xs) (r : RDs K F ds xs) : WalkD K (Itt K a) F ds where
  goes := fun i H hi sm => ⟨xs, xs[i]'(by rw [← r.length]; exact hi), Same.sqT sm q, by simp⟩
  stops := fun H sm => ⟨xs, Same.sqT sm q, by rw [r.length]; exact Nat.le_refl _⟩
  yields := fun i d H x H' hd sm ⟨e, y⟩ F1 h s1 sr => by
    subst e
    obtain ⟨v, hv, rd⟩ := r.get hd
    have := y xs (Same.sqT sm q)
    rw [hv] at this; cases this
    exact ⟨F1, Go.refl sr, rd.mono s1⟩
def rowF : D → Option (List D)
  | .tup ds => some ds
  | .lst ds => some ds
  | .scr ns => some (ns.map .int)
  | _ => none
theorem rowF_rd {K : PySem.W.Frag} {F : Hp} {d : D} {v : V} {ds : List D} (r : RD K F d v) (e : rowF d = some ds) : ∃ k a xs, v = .ref a ∧ SqF K k F a xs ∧ RDs K F ds xs := by
  cases r with
  | tup q r => simp only [rowF, Option.some.injEq] at e; subst e; exact ⟨false, _, _, rfl, q, r⟩
  | lst q r => simp only [rowF, Option.some.injEq] at e; subst e; exact ⟨true, _, _, rfl, SqL.of q, r⟩
  | scr q => simp only [rowF, Option.some.injEq] at e; subst e; exact ⟨true, _, _, rfl, q, RDs.ints _⟩
  | _ => simp [rowF] at e
def wIt (t : WE) : WI := fun σ h Q => t σ h fun d h1 => match rowF d with
  | some ds => Q ds h1
  | none => False
theorem mi_row (hl : ME X B iter ta) : MI X B tg iter (wIt ta) := pi_mono (pi_row hl) fun σ H R ⟨F, h, σd, Q', l, s, t, c⟩ => ⟨F, h, σd, _, l, s, t, fun F1 H1 h1 x u g1 rx t1 => by
  split at t1
  · rename_i ds ed
    obtain ⟨k, a, xs, rfl, q, r⟩ := rowF_rd rx ed
    cases k with
    | true => exact .inl ⟨a, rfl, ⟨xs, Same.sqL g1.sr.fr q⟩, c F1 H1 h1 ds _ g1 (walkD_list q r) t1⟩
    | false => exact .inr ⟨a, rfl, ⟨xs, Same.sqT g1.sr.fr q⟩, c F1 H1 h1 ds _ g1 (walkD_tup q r) t1⟩
  · exact t1.elim⟩
def enumD (k0 : Int) (ds : List D) : List D := ds.mapIdx fun i d => .tup [.int (k0 + (i : Nat)), d]
theorem walkD_enum {K : PySem.W.Frag} {F : Hp} {k : Bool} {a : Addr} {k0 : Int} {xs : List V} {ds : List D} (q : SqF K k F a xs) (r : RDs K F ds xs) : WalkD K (ItE K k a k0) F (enumD k0 ds) := by
  have sq : ∀ {H}, Same F H → Sq K k H a xs := fun {H} sm => by
    cases k with
    | true => exact Same.sqL sm q
    | false => exact Same.sqT sm q
  have hl : (enumD k0 ds).length = xs.length := by unfold enumD; rw [List.length_mapIdx, r.length]
  refine ⟨fun i H hi sm => ⟨xs, xs[i]'(by rw [← hl]; exact hi), sq sm, by simp⟩, fun H sm => ⟨xs, sq sm, hl.symm⟩, fun i d H x H' hd sm y F1 h s1 sr => ?_⟩
  obtain ⟨T, z, rfl, nT, rfl, hz⟩ := y
  unfold enumD at hd
  rw [List.getElem?_mapIdx] at hd
  cases e : ds[i]? with
  | none => rw [e] at hd; cases hd
  | some d0 =>
    rw [e] at hd
    simp only [Option.map_some, Option.some.injEq] at hd
    subst hd
    obtain ⟨v, hv, rd⟩ := r.get e
    have := hz xs (sq sm)
    rw [hv] at this; cases this
    have nF := sr.freeF nT
    exact ⟨_, Go.settled sr nT, .tup (SqU.of upd_same) (.cons (.int _) (.cons ((rd.mono s1).mono (same_upd nF)) .nil))⟩
def wEnum (k0 : Int) (t : WE) : WI := fun σ h Q => t σ h fun d h1 => match rowF d with
  | some ds => Q (enumD k0 ds) h1
  | none => False
theorem mi_enum {elts : List Expr} {kk : Nat} {tpos : Pos} (hm : X.mg "enumerate" = none) (ha : ME X B e ta) (hg : Gl X "enumerate" := by rfl) (hs : starEach [e] X.env = [(false, eval e X.env)] := by rfl) :
    MI X B (.Tuple elts kk tpos) (.Call (.Name "enumerate" p) [e] [] pos) (wEnum 0 ta) := pi_mono (pi_enumA hg hm (pa_cons ha pa_nil hs) hs) fun σ H R ⟨F, h, σd, Q', l, s, t, c⟩ => ⟨F, h, σd, _, l, s, t, fun F1 H1 h1 x u g1 rx t1 => by
  split at t1
  · rename_i ds ed
    obtain ⟨k, a, xs, rfl, q, r⟩ := rowF_rd rx ed
    refine ⟨k, a, xs, rfl, ?_, c F1 H1 h1 _ _ g1 (walkD_enum q r) t1⟩
    cases k with
    | true => exact Same.sqL g1.sr.fr q
    | false => exact Same.sqT g1.sr.fr q
  · exact t1.elim⟩
def rangeD (lo : Int) (n : Nat) : List D := (List.range n).map fun i => .int (lo + (i : Nat))
theorem walkD_range {K : PySem.W.Frag} {F : Hp} {lo : Int} {n : Nat} : WalkD K (Itr lo n) F (rangeD lo n) where
  goes := fun i H hi sm => by unfold rangeD at hi; rw [List.length_map, List.length_range] at hi; exact hi
  stops := fun H sm => by unfold rangeD; rw [List.length_map, List.length_range]; exact Nat.le_refl _
  yields := fun i d H x H' hd sm ⟨e, y⟩ F1 h s1 sr => by
    subst e y
    unfold rangeD at hd
    rw [List.getElem?_map] at hd
    have hi : i < n := by
      cases q : (List.range n)[i]? with
      | none => rw [q] at hd; cases hd
      | some j => simpa using (List.getElem?_eq_some_iff.mp q).1
    rw [List.getElem?_range hi] at hd
    simp only [Option.map_some, Option.some.injEq] at hd
    subst hd
    exact ⟨F1, Go.refl sr, .int _⟩
def okR (i : Int) : Prop := -(2 ^ 62) ≤ i ∧ i < 2 ^ 62
def wRange1 (t : WE) : WI := fun σ h Q => t σ h fun d h1 => match d with
  | .int j => okR j ∧ Q (rangeD 0 j.toNat) h1
  | _ => False
def wRange2 (t u : WE) : WI := fun σ h Q => t σ h fun d h1 => u σ h1 fun e h2 => match d, e with
  | .int i, .int j => okR i ∧ okR j ∧ Q (rangeD i (j - i).toNat) h2
  | _, _ => False
theorem mi_range1 (hm : X.mg "range" = none) (ha : ME X B a ta) (hg : Gl X "range" := by rfl) (hs : starEach [a] X.env = [(false, eval a X.env)] := by rfl) : MI X B tg (.Call (.Name "range" p) [a] [] pos) (wRange1 ta) :=
  pi_mono (pi_range1 hg hm (pa_cons ha pa_nil hs) hs) fun σ H R ⟨F, h, σd, Q', l, s, t, c⟩ => ⟨F, h, σd, _, l, s, t, fun F1 H1 h1 x u g1 rx t1 => by
    split at t1
    · cases rx
      exact ⟨_, rfl, t1.1.1, t1.1.2, c F1 H1 h1 _ _ g1 walkD_range t1.2⟩
    · exact t1.elim⟩
theorem mi_range2 (hm : X.mg "range" = none) (ha : ME X B a ta) (hb : ME X B b tb) (hg : Gl X "range" := by rfl) (hs : starEach [a, b] X.env = [(false, eval a X.env), (false, eval b X.env)] := by rfl) (hs2 : starEach [b] X.env = [(false, eval b X.env)] := by rfl) : MI X B tg (.Call (.Name "range" p) [a, b] [] pos) (wRange2 ta tb) :=
  pi_mono (pi_range2 hg hm (pa_cons ha (pa_cons hb pa_nil hs2) (by rw [hs, hs2])) hs hs2) fun σ H R ⟨F, h, σd, Q', l, s, t, c⟩ => ⟨F, h, σd, _, l, s, t, fun F1 H1 h1 x u g1 rx t1 => ⟨F1, h1, σd, _, l.mono g1.ss, s.go g1, t1, fun F2 H2 h2 y v g2 ry t2 => by
    split at t2
    · cases rx; cases ry
      exact ⟨_, _, rfl, ⟨t2.1.1, t2.1.2, t2.2.1.1, t2.2.1.2⟩, c F2 H2 h2 _ _ (g1.trans g2) walkD_range t2.2.2⟩
    · exact t2.elim⟩⟩
def wLoop (g : WG) (tb : WS) : List D → WS
  | [], D, σ, h => D.nx σ h
  | d :: ds, D, σ, h => g d σ h fun σ2 h2 => tb { nx := wLoop g tb ds D, ct := wLoop g tb ds D, bk := D.nx, rt := D.rt } σ2 h2
def wFor (wi : WI) (g : WG) (tb : WS) : WS := fun D σ h => wi σ h fun ds h1 => wLoop g tb ds D σ h1
theorem drop_of_get {α : Type} {l : List α} {i : Nat} {x : α} (e : l[i]? = some x) : l.drop i = x :: l.drop (i + 1) := by
  obtain ⟨hi, e⟩ := List.getElem?_eq_some_iff.mp e
  rw [List.drop_eq_getElem_cons hi, e]
theorem ms_for {wi : WI} {g : WG} {tb : WS} {body : List Stmt} (hp : PassesOwn (model X.prog X.w) X.A X.env X.xe) (hc : X.calm = true) (hi : MI X B tg iter wi) (hg : MG X B tg g) (hb : MSs X B body tb) (hs : ∀ x, foldedSetIterable iter X.env x = pure x := by intro _; rfl) :
    MS X B (.For tg iter body [] pos) (wFor wi g tb) := ps_mono (ps_for hp hc hi hg hb hs) fun E σ H ⟨F, h, σd, D', l, s, t, c⟩ => ⟨F, h, σd, _, l, s, t, fun F1 H1 h1 ds J g1 W t1 => by
    refine ⟨fun i m σ2 H2 => ∃ F2 h2 σd2, Go X.K F1 H1 h1 F2 H2 h2 ∧ LR X.K F2 σd2 σ2 ∧ i ≤ ds.length ∧ m = ds.length - i ∧ wLoop g tb (ds.drop i) D' σd2 h2, ⟨ds.length, F1, h1, σd, Go.refl g1.sr, l.mono g1.ss, Nat.zero_le _, rfl, t1⟩, ?_⟩
    rintro i m σ2 H2 ⟨F2, h2, σd2, g2, l2, hi, rfl, t2⟩
    by_cases hlt : i < ds.length
    · have ed : ds[i]? = some ds[i] := List.getElem?_eq_getElem hlt
      rw [drop_of_get ed] at t2
      refine .inr ⟨W.goes i H2 hlt (g2.ss.trans g2.sr.fr), fun σ3 H3 => ∃ F3 h3 σd3, Go X.K F1 H1 h1 F3 H3 h3 ∧ LR X.K F3 σd3 σ3 ∧ wLoop g tb (ds.drop (i + 1)) D' σd3 h3, fun σ3 H3 ⟨F3, h3, σd3, g3, l3, t3⟩ => ⟨ds.length - (i + 1), by omega, F3, h3, σd3, g3, l3, hlt, rfl, t3⟩, fun x H3 y => ?_⟩
      obtain ⟨F3, g3, rx⟩ := W.yields i _ H2 x H3 ed (g2.ss.trans g2.sr.fr) y F2 h2 g2.ss g2.sr
      refine ⟨F3, h2, σd2, _, _, l2.mono g3.ss, (s.go g1).go (g2.trans g3), rx, t2, fun F4 H4 h4 σd4 σ4 g4 l4 t4 => ⟨F4, h4, σd4, _, l4, (s.go g1).go ((g2.trans g3).trans g4), t4, ?_⟩⟩
      have g04 := (g2.trans g3).trans g4
      exact ⟨fun F5 H5 h5 σd5 σ5 g5 l5 t5 => ⟨F5, h5, σd5, g04.trans g5, l5, t5⟩, (c.rt.go g1).go g04, (c.nx.go g1).go g04, fun F5 H5 h5 σd5 σ5 g5 l5 t5 => ⟨F5, h5, σd5, g04.trans g5, l5, t5⟩⟩
    · have e : i = ds.length := by omega
      subst e
      refine .inl ⟨W.stops H2 (g2.ss.trans g2.sr.fr), ?_⟩
      rw [List.drop_length] at t2
      exact c.nx F2 H2 h2 _ _ (g1.trans g2) l2 t2⟩
def wWhileN (c : WT) (tb : WS) : Nat → WS
  | 0, _, _, _ => False
  | n + 1, D, σ, h => c σ h fun b h1 => if b = true then tb { nx := wWhileN c tb n D, ct := wWhileN c tb n D, bk := D.nx, rt := D.rt } σ h1 else D.nx σ h1
def wWhile (c : WT) (tb : WS) : WS := fun D σ h => ∃ n, wWhileN c tb n D σ h
theorem ms_while {ce : Expr} {uc : WT} {tb : WS} {body : List Stmt} (hp : PassesOwn (model X.prog X.w) X.A X.env X.xe) (hc : MT X B ce uc) (hb : MSs X B body tb) : MS X B (.While ce body [] pos) (wWhile uc tb) :=
  ps_mono (ps_while hp hc hb) fun E σ H ⟨F, h, σd, D', l, s, ⟨n, t⟩, c⟩ => by
    refine ⟨fun m σ2 H2 => ∃ F2 h2 σd2, Go X.K F H h F2 H2 h2 ∧ LR X.K F2 σd2 σ2 ∧ wWhileN uc tb m D' σd2 h2, ⟨n, F, h, σd, Go.refl s, l, t⟩, ?_⟩
    rintro m σ2 H2 ⟨F2, h2, σd2, g2, l2, t2⟩
    cases m with
    | zero => exact t2.elim
    | succ m =>
      refine ⟨F2, h2, σd2, _, l2, s.go g2, t2, fun F3 H3 h3 b g3 t3 => ?_⟩
      have g03 := g2.trans g3
      cases b with
      | true =>
        rw [if_pos rfl] at t3
        refine iteT ⟨fun σ4 H4 => ∃ F4 h4 σd4, Go X.K F H h F4 H4 h4 ∧ LR X.K F4 σd4 σ4 ∧ wWhileN uc tb m D' σd4 h4, fun σ4 H4 ⟨F4, h4, σd4, g4, l4, t4⟩ => ⟨m, Nat.lt_succ_self _, F4, h4, σd4, g4, l4, t4⟩, F3, h3, σd2, _, l2.mono g3.ss, s.go g03, t3, ?_⟩
        exact ⟨fun F5 H5 h5 σd5 σ5 g5 l5 t5 => ⟨F5, h5, σd5, g03.trans g5, l5, t5⟩, c.rt.go g03, c.nx.go g03, fun F5 H5 h5 σd5 σ5 g5 l5 t5 => ⟨F5, h5, σd5, g03.trans g5, l5, t5⟩⟩
      | false =>
        rw [if_neg Bool.false_ne_true] at t3
        exact iteF (c.nx F3 H3 h3 _ _ g03 (l2.mono g3.ss) t3)
end
end BP

set_option maxRecDepth 100000
set_option maxHeartbeats 4000000
namespace BP
open PySem PySem.Spec PyProof.Rows L2

def mwipe (σ : MSt) : List Nat → MSt
  | [] => σ
  | v :: vs => (mwipe σ vs).set v none
theorem LR.unset {K : PySem.W.Frag} {F : Hp} {σd : MSt} {σ : L2.St} (l : LR K F σd σ) (i : Nat) : LR K F (σd.set i none) (σ.set i none) := by
  refine ⟨by rw [List.length_set, List.length_set, l.len], fun j e q => ?_⟩
  rw [List.getElem?_set] at q
  rw [List.getElem?_set]
  by_cases hij : i = j
  · rw [if_pos hij] at q
    by_cases hl : i < σd.length
    · rw [if_pos hl] at q; cases q
    · rw [if_neg hl] at q; cases q
  · rw [if_neg hij] at q ⊢
    exact l.get j e q
theorem LR.wipe {K : PySem.W.Frag} {F : Hp} {σd : MSt} {σ : L2.St} (l : LR K F σd σ) : ∀ vs : List Nat, LR K F (mwipe σd vs) (L2.wipe σ vs)
  | [] => l
  | v :: vs => (LR.wipe l vs).unset v
def gNames : List Nat → TGs
  | [] => gNil
  | i :: is => gCons (gName i) (gNames is)
def setAll (σ : L2.St) : List Nat → List V → L2.St
  | i :: is, v :: vs => setAll (σ.set i (some v)) is vs
  | _, _ => σ
def msetAll (σ : MSt) : List Nat → List D → MSt
  | i :: is, d :: ds => msetAll (σ.set i (some d)) is ds
  | _, _ => σ
theorem gNames_of {Q : L2.St → Hp → Prop} {H : Hp} : ∀ {is : List Nat} {vs : List V} {σ : L2.St}, vs.length = is.length → Q (setAll σ is vs) H → gNames is vs σ H Q
  | [], [], σ, _, q => ⟨rfl, q⟩
  | i :: is, v :: vs, σ, h, q => ⟨v, vs, rfl, gNames_of (by simpa using h) q⟩
  | [], _ :: _, _, h, _ => by simp at h
  | _ :: _, [], _, h, _ => by simp at h
theorem wipe_set {σ : L2.St} {i : Nat} {o : Option V} : ∀ {vs : List Nat}, i ∈ vs → L2.wipe (σ.set i o) vs = L2.wipe σ vs
  | [], h => by cases h
  | v :: vs, h => by
    show (L2.wipe (σ.set i o) vs).set v none = (L2.wipe σ vs).set v none
    by_cases hv : i ∈ vs
    · rw [wipe_set hv]
    · have e : i = v := by
        rcases List.mem_cons.mp h with e | e
        · exact e
        · exact absurd e hv
      subst e
      have key : ∀ ws : List Nat, i ∉ ws → L2.wipe (σ.set i o) ws = (L2.wipe σ ws).set i o := by
        intro ws
        induction ws with
        | nil => intro _; rfl
        | cons w ws ih =>
          intro hw
          show (L2.wipe (σ.set i o) ws).set w none = ((L2.wipe σ ws).set w none).set i o
          rw [ih fun z => hw (List.mem_cons_of_mem _ z), List.set_comm _ _ (fun z => hw (by rw [z]; exact List.mem_cons_self))]
      rw [key vs hv, List.set_set]
theorem wipe_setAll {is : List Nat} : ∀ {js : List Nat} {vs : List V} {σ : L2.St}, (∀ j ∈ js, j ∈ is) → L2.wipe (setAll σ js vs) is = L2.wipe σ is
  | [], _, _, _ => rfl
  | _ :: _, [], _, _ => rfl
  | j :: js, v :: vs, σ, h => by
    show L2.wipe (setAll (σ.set j (some v)) js vs) is = _
    rw [wipe_setAll fun x hx => h x (List.mem_cons_of_mem _ hx), wipe_set (h j List.mem_cons_self)]
theorem wipe_wipe (σ : L2.St) (vs : List Nat) : L2.wipe (L2.wipe σ vs) vs = L2.wipe σ vs := by
  have key : ∀ (ws : List Nat) (τ : L2.St), (∀ w ∈ ws, w ∈ vs) → L2.wipe (L2.wipe τ ws) vs = L2.wipe τ vs := by
    intro ws
    induction ws with
    | nil => intro τ _; rfl
    | cons w ws ih =>
      intro τ h
      show L2.wipe ((L2.wipe τ ws).set w none) vs = _
      rw [wipe_set (h w List.mem_cons_self)]
      exact ih τ fun x hx => h x (List.mem_cons_of_mem _ hx)
  exact key vs σ fun _ h => h
theorem LR.setAll {K : PySem.W.Frag} {F : Hp} : ∀ {is : List Nat} {ds : List D} {vs : List V} {σd : MSt} {σ : L2.St}, LR K F σd σ → RDs K F ds vs → LR K F (msetAll σd is ds) (setAll σ is vs)
  | [], _, _, _, _, l, _ => l
  | _ :: _, _, _, _, _, l, .nil => l
  | i :: is, _, _, _, _, l, .cons r rs => LR.setAll (is := is) (l.set r i) rs
def wLcGo (put : MSt → D → Option MSt) (tt : WT) (te : WE) (σ : MSt) : List D → List D → MH → (List D → MH → Prop) → Prop
  | [], acc, h, Q => Q acc h
  | d :: ds, acc, h, Q => match put σ d with
    | some σ2 => tt σ2 h fun b h3 => if b = true then te σ2 h3 fun y h4 => acc.length < sizeLine ∧ wLcGo put tt te σ ds (acc ++ [y]) h4 Q else wLcGo put tt te σ ds acc h3 Q
    | none => False
def wLc (wi : WI) (put : MSt → D → Option MSt) (tt : WT) (te : WE) (vs : List Nat) : WE := fun σ h Q => wi σ h fun ds h1 => wLcGo put tt te (mwipe σ vs) ds [] h1 fun acc h2 => Q (.lst acc) h2
def put1 (i : Nat) : MSt → D → Option MSt := fun σ d => some (σ.set i (some d))
def putT (is : List Nat) : MSt → D → Option MSt := fun σ d => match d with
  | .tup ds => if ds.length = is.length then some (msetAll σ is ds) else none
  | _ => none
def wYes : WT := fun _ h Q => Q true h
theorem Go.hidden {K : PySem.W.Frag} {F H F1 H1 : Hp} {h h1 : MH} {D : Addr} {o : HO} (g : Go K F H h F1 H1 h1) (n : H D = none) (nF : F1 D = none) (nh : h1 D = none) : Go K F H h F1 (upd H1 D o) h1 := by
  refine ⟨g.ss, fun a x e f m => ?_, ⟨fun a x e => ?_, fun a c e => ?_⟩⟩
  · obtain ⟨f1, m1, e1⟩ := g.hid a x e f m
    exact ⟨f1, m1, by rw [upd_ne (ne_of_none e n)]; exact e1⟩
  · rw [upd_ne (fun z => by rw [z, nF] at e; cases e)]; exact g.sr.fr a x e
  · obtain ⟨f, q⟩ := g.sr.cell a c e
    exact ⟨f, q.mono (Same.refl _) (upd_ne (fun z => by rw [z, nh] at e; cases e))⟩
theorem Go.hiddenF {K : PySem.W.Frag} {F H F1 H1 : Hp} {h h1 : MH} {D : Addr} {o : HO} (g : Go K F H h F1 H1 h1) (n : H D = none) (nF : F1 D = none) (nh : h1 D = none) (e0 : H1 D = some o) : Go K F H h (upd F1 D o) H1 h1 := by
  refine ⟨g.ss.trans (same_upd nF), fun a x e f m => ?_, ⟨fun a x e => ?_, fun a c e => ?_⟩⟩
  · obtain ⟨f1, m1, e1⟩ := g.hid a x e f m
    exact ⟨by rw [upd_ne (ne_of_none e n)]; exact f1, m1, e1⟩
  · by_cases hb : a = D
    · subst hb; rw [upd_same] at e; cases e; exact e0
    · rw [upd_ne hb] at e; exact g.sr.fr a x e
  · obtain ⟨f, q⟩ := g.sr.cell a c e
    have hb : a ≠ D := fun z => by rw [z, nh] at e; cases e
    exact ⟨by rw [upd_ne hb]; exact f, q.mono (same_upd nF) rfl⟩
section
variable {X : Cx} {B : Bs} {a b c e : Expr} {ta tb tc : WE} {pos p : Pos} {wa : WA}
def PutOk (K : PySem.W.Frag) (g : TG) (put : MSt → D → Option MSt) (vs : List Nat) : Prop := ∀ F H h σd σ d v σd2 (Q : L2.St → Hp → Prop), LR K F σd σ → SR K F H h → RD K F d v → put σd d = some σd2 → (∀ σ2, LR K F σd2 σ2 → L2.wipe σ2 vs = L2.wipe σ vs → Q σ2 H) → g v σ H Q
theorem put1_ok {K : PySem.W.Frag} {i : Nat} : PutOk K (gName i) (put1 i) [i] := fun F H h σd σ d v σd2 Q l s r e q => by
  simp only [put1, Option.some.injEq] at e
  subst e
  exact q _ (l.set r i) (wipe_set List.mem_cons_self)
theorem putT_ok {K : PySem.W.Frag} {is : List Nat} {n : Nat} (hn : is.length = n) : PutOk K (gTup K n (gNames is)) (putT is) is := fun F H h σd σ d v σd2 Q l s r e q => by
  unfold putT at e
  split at e
  · split at e
    · rename_i hl
      simp only [Option.some.injEq] at e
      subst e
      cases r with
      | tup sq rs => exact ⟨_, _, rfl, Same.sqT s.fr sq, by rw [← rs.length, hl, hn], gNames_of (by rw [← rs.length, hl]) (q _ (l.setAll rs) (wipe_setAll fun _ h => h))⟩
    · cases e
  · cases e
theorem lift_lc {wi : WI} {g : TG} {put : MSt → D → Option MSt} {tt : WT} {te : WE} {vs : List Nat} (hp : PutOk X.K g put vs) : ∀ σ H Q, lift X.K B (wLc wi put tt te vs) σ H Q → tLc (liftI X.K B wi) g (liftT X.K B tt) (lift X.K B te) vs σ H Q := fun σ H Q ⟨F, h, σd, Q', l, s, t, c⟩ =>
  ⟨F, h, σd, _, l, s, t, fun F1 H1 h1 ds J g1 W t1 D nD => by
    have w1 : ∀ {F2}, Same F1 F2 → LR X.K F2 (mwipe σd vs) (L2.wipe σ vs) := fun e => ((l.mono g1.ss).mono e).wipe vs
    refine ⟨fun i m H2 => ∃ F2 h2 acc accV, Go X.K F1 H1 h1 F2 H2 h2 ∧ H2 D = some (.lst accV) ∧ F2 D = none ∧ h2 D = none ∧ RDs X.K F2 acc accV ∧ i ≤ ds.length ∧ m = ds.length - i ∧ wLcGo put tt te (mwipe σd vs) (ds.drop i) acc h2 fun acc h2 => Q' (.lst acc) h2,
      ⟨ds.length, F1, h1, [], [], (Go.refl g1.sr).hidden nD (g1.sr.freeF nD) (g1.sr.freeM nD), upd_same, g1.sr.freeF nD, g1.sr.freeM nD, .nil, Nat.zero_le _, rfl, t1⟩, ?_⟩
    rintro i m H2 ⟨F2, h2, acc, accV, g2, eD, fD, mD, ra, hi, rfl, t2⟩
    by_cases hlt : i < ds.length
    · have ed : ds[i]? = some ds[i] := List.getElem?_eq_getElem hlt
      rw [drop_of_get ed] at t2
      unfold wLcGo at t2
      split at t2
      · rename_i σ3 e3
        refine .inr ⟨W.goes i H2 hlt (g2.ss.trans g2.sr.fr), fun H3 => ∃ F3 h3 acc accV, Go X.K F1 H1 h1 F3 H3 h3 ∧ H3 D = some (.lst accV) ∧ F3 D = none ∧ h3 D = none ∧ RDs X.K F3 acc accV ∧ wLcGo put tt te (mwipe σd vs) (ds.drop (i + 1)) acc h3 fun acc h2 => Q' (.lst acc) h2,
          fun H3 ⟨F3, h3, acc, accV, g3, k1, k2, k3, k4, t3⟩ => ⟨ds.length - (i + 1), by omega, F3, h3, acc, accV, g3, k1, k2, k3, k4, hlt, rfl, t3⟩, fun x H3 y => ?_⟩
        obtain ⟨F3, g3, rx⟩ := W.yields i _ H2 x H3 ed (g2.ss.trans g2.sr.fr) y F2 h2 g2.ss g2.sr
        refine hp F3 H3 h2 _ _ _ _ _ _ (w1 (g2.ss.trans g3.ss)) g3.sr rx e3 fun σ4 l4 hw => ⟨hw.trans (wipe_wipe σ vs), F3, h2, σ3, _, l4, (s.go g1).go (g2.trans g3), t2, fun F5 H5 h5 b g5 t5 => ?_⟩
        obtain ⟨fD5, mD5, eD5⟩ := (g3.trans g5).hid D _ eD fD mD
        have g05 := (g2.trans g3).trans g5
        cases b with
        | false =>
          rw [if_neg Bool.false_ne_true] at t5
          exact iteF ⟨F5, h5, acc, accV, g05, eD5, fD5, mD5, ra.mono (g3.trans g5).ss, t5⟩
        | true =>
          rw [if_pos rfl] at t5
          refine iteT ⟨F5, h5, σ3, _, l4.mono g5.ss, (s.go g1).go g05, t5, fun F6 H6 h6 y6 v6 g6 r6 t6 => ?_⟩
          obtain ⟨fD6, mD6, eD6⟩ := g6.hid D _ eD5 fD5 mD5
          refine ⟨accV, eD6, by rw [← ra.length]; exact t6.1, F6, h6, acc ++ [y6], accV ++ [v6], (g05.trans g6).hidden nD fD6 mD6, upd_same, fD6, mD6, ?_, t6.2⟩
          exact (ra.mono ((g3.trans g5).trans g6).ss).append (.cons r6 .nil)
      · exact t2.elim
    · have e : i = ds.length := by omega
      subst e
      refine .inl ⟨W.stops H2 (g2.ss.trans g2.sr.fr), ?_⟩
      rw [List.drop_length] at t2
      have gF := g2.hiddenF nD fD mD eD
      exact c _ _ _ _ _ (g1.trans gF) (.lst upd_same (ra.mono (same_upd fD))) t2⟩
abbrev MTs (X : Cx) (B : Bs) (ifs : List Expr) (t : WT) : Prop := PTs X ifs (liftT X.K B t)
theorem mts_nil : MTs X B [] wYes := ⟨fun pins s σ H Q I ⟨F, h, σd, Q', l, s0, t, c⟩ => pts_nil.run pins s σ H Q I (c F H h true (Go.refl s0.sr) t)⟩
theorem mts_one {ua : WT} (h : MT X B c ua) : MTs X B [c] ua := pts_one h
theorem m_lc {elt tg iter : Expr} {ifs : List Expr} {scope : Scope} {own : List (Str × Nat)} {wi : WI} {g : TG} {put : MSt → D → Option MSt} {tt : WT} {te : WE} (hc : X.calm = true) (hN : X.N.Nodup) (hi : MI X B tg iter wi) (ok : BlkOk X.N X.env.scope scope own) (hp : PutOk X.K g put (own.map (·.2)))
    (hg : ∀ (s : Shared) (H : Hp) (C : Addr) (cl : List (Str × Addr)) (fp : List Addr), PG (X.blk s H scope (compEnvC scope cl C X.env) fp) tg g) (ht : ∀ (s : Shared) (H : Hp) (C : Addr) (cl : List (Str × Addr)) (fp : List Addr), MTs (X.blk s H scope (compEnvC scope cl C X.env) fp) B ifs tt)
    (he : ∀ (s : Shared) (H : Hp) (C : Addr) (cl : List (Str × Addr)) (fp : List Addr), ME (X.blk s H scope (compEnvC scope cl C X.env) fp) B elt te) (hs : ∀ x, foldedSetIterable iter X.env x = pure x := by intro _; rfl) :
    ME X B (.ListComp elt [⟨tg, iter, ifs, 0⟩] scope pos) (wLc wi put tt te (own.map (·.2))) := pe_mono (pe_lc hc hN hi ok hg ht he hs) (lift_lc hp)
theorem ms_setLc (i : Nat) {y : Str} {py spos : Pos} {elt tg iter : Expr} {ifs : List Expr} {scope : Scope} {own : List (Str × Nat)} {wi : WI} {g : TG} {put : MSt → D → Option MSt} {tt : WT} {te : WE} (hc : X.calm = true) (hN : X.N.Nodup) (hi : MI X B tg iter wi) (ok : BlkOk X.N X.env.scope scope own) (hp : PutOk X.K g put (own.map (·.2)))
    (hg : ∀ (s : Shared) (H : Hp) (C : Addr) (cl : List (Str × Addr)) (fp : List Addr), PG (X.blk s H scope (compEnvC scope cl C X.env) fp) tg g) (ht : ∀ (s : Shared) (H : Hp) (C : Addr) (cl : List (Str × Addr)) (fp : List Addr), MTs (X.blk s H scope (compEnvC scope cl C X.env) fp) B ifs tt)
    (he : ∀ (s : Shared) (H : Hp) (C : Addr) (cl : List (Str × Addr)) (fp : List Addr), ME (X.blk s H scope (compEnvC scope cl C X.env) fp) B elt te) (hy : X.N[i]? = some y := by rfl) (hyl : X.env.scope.names.lookup y = some .local := by rfl)
    (hsw : swapsWith (.ListComp elt [⟨tg, iter, ifs, 0⟩] scope pos) (some (.Name y py)) spos.line X.env = pure true := by exact sw_true rfl rfl rfl (by decide +kernel)) (hs : ∀ x, foldedSetIterable iter X.env x = pure x := by intro _; rfl) :
    MS X B (.Assign [.Name y py] (.ListComp elt [⟨tg, iter, ifs, 0⟩] scope pos) spos) (wSet i (wLc wi put tt te (own.map (·.2)))) :=
  ps_mono (ps_setLc hc hN hy hyl hsw hi ok hg ht he hs) fun E σ H ⟨F, h, σd, D', l, s, t, c⟩ =>
    lift_lc hp σ H _ ⟨F, h, σd, _, l, s, t, fun F1 H1 h1 x u g1 rx t1 => c.nx F1 H1 h1 _ _ g1 ((l.mono g1.ss).set rx i) t1⟩
end

abbrev XQ := String → List (Str × D) → MH → Prop
abbrev MSp := List D → MH → MQ → XQ → Prop
def ContX (K : PySem.W.Frag) (mg : Str → Option Value) (F H : Hp) (h : MH) (E' : XQ) (E : XK) : Prop :=
  ∀ F' H' h' n C dd fs gs, Go K F H h F' H' h' → mg (Str.ofString n) = some (.ref C) → F' dd = some (.xd gs) → RDf K F' fs gs → E' n fs h' → E (.ref C) (some dd) H'
def liftSp (K : PySem.W.Frag) (mg : Str → Option Value) (sp : MSp) : Sp := fun vs H Q E => ∃ F h ds Q' E', RDs K F ds vs ∧ SR K F H h ∧ sp ds h Q' E' ∧ ContV K F H h Q' Q ∧ ContX K mg F H h E' E
structure Rm (k : Nat) (A : Around) : Prop where
  r : Room k A
  g : A.guards = some []
theorem Rm.mono {j k : Nat} {A : Around} (x : Rm k A) (h : j ≤ k) : Rm j A := ⟨x.r.mono h, x.g⟩
theorem Rm.deeper {k : Nat} {A : Around} (x : Rm (k + 1) A) (env : Env) : Rm k (A.deeper env) := ⟨x.r.deeper env, x.g⟩
theorem Rm.units {k : Nat} {A : Around} (x : Rm k A) : A.units + 64 < cLine := x.r.units
theorem Rm.more {k : Nat} {A : Around} (x : Rm k A) : A.units + 100 < cLine := by have := x.r.un; omega
structure FnM (P : Program) (w : World) (K : PySem.W.Frag) (mg : Str → Option Value) (base : Heap) (k : Nat) (f : Addr) (fd : FuncData) (ps : List Str) (sp : MSp) : Prop where
  len : ∀ ds h Q E, sp ds h Q E → ds.length = ps.length
  run : ∀ (A : Around) (outer : List Env) (s : Shared) (H : Hp) (args : Args) (us : List Value) (vs : List V) (Q : VK) (E : XK), Rm k A → Env0 P w K mg base A outer s H → BindsTo s fd args (ps.zip us) → Vals vs us → liftSp K mg sp vs H Q E →
    codeAny (model P w) A (.call (.ref f) args) (CR (L2.CX P w) outer P w H s Q E) s
theorem FnM.lenV {P : Program} {w : World} {K : PySem.W.Frag} {mg : Str → Option Value} {base : Heap} {k : Nat} {f : Addr} {fd : FuncData} {ps : List Str} {sp : MSp} (G : FnM P w K mg base k f fd ps sp) {vs : List V} {H : Hp} {Q : VK} {E : XK} (h : liftSp K mg sp vs H Q E) : vs.length = ps.length := by
  obtain ⟨F, h, ds, Q', E', r, s, q, _, _⟩ := h
  rw [← r.length]; exact G.len ds h Q' E' q
def WB (K : PySem.W.Frag) (mg : Str → Option Value) (B : Bs) (Es : MSt → XQ) : WX := fun cls d σ H' => ∃ F' h' σd n C dd fs gs, cls = .ref C ∧ d = some dd ∧ mg (Str.ofString n) = some (.ref C) ∧ Go K B.F B.H B.h F' H' h' ∧ LR K F' σd σ ∧ F' dd = some (.xd gs) ∧ RDf K F' fs gs ∧ Es σd n fs h'
abbrev TkM (X : Cx) (B : Bs) (Es : MSt → XQ) : Prop := Takes X (WB X.K X.mg B Es)
abbrev xF : MSt → XQ := fun _ _ _ _ => False
theorem tkF {X : Cx} {B : Bs} : TkM X B xF := takes0.imp fun c d σ H ⟨_, _, _, _, _, _, _, _, _, _, _, _, _, _, _, z⟩ => z
def mstart (N : List Str) (ds : List D) : MSt := ds.map some ++ List.replicate (N.length - ds.length) none
theorem lr_start {K : PySem.W.Frag} {F : Hp} {N : List Str} {ds : List D} {vs : List V} (r : RDs K F ds vs) : LR K F (mstart N ds) (L2.start N vs) := by
  have hl := r.length
  refine ⟨by unfold mstart L2.start; rw [List.length_append, List.length_append, List.length_map, List.length_map, List.length_replicate, List.length_replicate, hl], fun i d e => ?_⟩
  unfold mstart at e
  unfold L2.start
  by_cases hi : i < ds.length
  · rw [List.getElem?_append_left (by rw [List.length_map]; exact hi), List.getElem?_map] at e
    cases q : ds[i]? with
    | none => rw [q] at e; cases e
    | some d0 =>
      rw [q] at e
      simp only [Option.map_some, Option.some.injEq] at e
      subst e
      obtain ⟨v, hv, rv⟩ := r.get q
      refine ⟨v, ?_, rv⟩
      rw [List.getElem?_append_left (by rw [List.length_map, ← hl]; exact hi), List.getElem?_map, hv]
      rfl
  · rw [List.getElem?_append_right (by rw [List.length_map]; omega), List.getElem?_replicate] at e
    split at e <;> simp at e
theorem fn_m {P : Program} {w : World} {K : PySem.W.Frag} {mg : Str → Option Value} {base : Heap} {x qual : Str} {st : Stmt} {f : Addr} {fd : FuncData} {N ps : List Str} {k : Nat} {sp : MSp} (F : Fun K x qual st f fd) (S : FnScope N ps (defScope st)) (len : ∀ ds h Q E, sp ds h Q E → ds.length = ps.length)
    (hbody : ∀ (cdv : Value) (A : Around) (outer : List Env) (s : Shared) (H : Hp) (E : XK) (B : Bs) (ds : List D) (h : MH) (Q' : MQ) (E' : XQ), fd.code = cdv → Rm k (A.deeper (envOfC qual (defScope st) s.heap.objs.size f cdv)) →
      TkM (cxOf (L2.CX P w) P w K mg base N qual (defScope st) f cdv A outer s H E) B (fun _ => E') → sp ds h Q' E' →
      ∃ t, MSs (cxOf (L2.CX P w) P w K mg base N qual (defScope st) f cdv A outer s H E) B (defBody st) t ∧ t { nx := fun _ h' => Q' .non h', rt := Q' } (mstart N ds) h) : FnM P w K mg base (k + 1) f fd ps sp := by
  refine ⟨len, fun A outer s H args us vs Q E hr e0 hb r hsp => ?_⟩
  obtain ⟨oc, od, kV, doc, pm, an, cdv, ct, osl, rfl, lk, hcd⟩ := F.ex
  obtain ⟨F, h, ds, Q', E', rd, sr, q, cv, cx⟩ := hsp
  refine LamX.run_ofS (k := k) (N := N) (ps := ps) lk hcd S hr.r e0 hb r (by rw [← rd.length]; exact len ds h Q' E' q) fun _ => ?_
  have tk : TkM (cxOf (L2.CX P w) P w K mg base N qual (defScope st) f cdv A outer s H E) ⟨F, H, h⟩ (fun _ => E') := by
    refine (takes_of (E := E) rfl rfl rfl rfl).imp fun c d σ H' ⟨F', h', σd, n, C, dd, fs, gs, e1, e2, e3, g, l, hd, rf, z⟩ => ?_
    subst e1 e2
    exact cx F' H' h' n C dd fs gs g e3 hd rf z
  obtain ⟨t, ht, hq⟩ := hbody cdv A outer s H E ⟨F, H, h⟩ ds h Q' E' rfl (hr.deeper _) tk q
  exact ⟨_, ht, F, h, mstart N ds, _, lr_start rd, ⟨Go.refl sr⟩, hq, ⟨fun F1 H1 h1 σd σ g l t1 => cv F1 H1 h1 _ _ g .non t1, cv, fun _ _ _ _ _ _ _ z => z.elim, fun _ _ _ _ _ _ _ z => z.elim⟩⟩
section
variable {X : Cx} {B : Bs} {e : Expr} {es : List Expr} {wa : WA} {pos p : Pos} {k : Nat} {f : Addr} {fd : FuncData} {ps : List Str} {sp : MSp} {x : Str} {Es : MSt → XQ}
def wCall (sp : MSp) (Es : MSt → XQ) (t : WA) : WE := fun σ h Q => t σ h fun ds h1 => sp ds h1 Q (Es σ)
theorem sp_at {vs : List V} {ds : List D} {F H F1 H1 : Hp} {h h1 : MH} {σd : MSt} {σ : L2.St} {Q' : MQ} {Q : VK} (s : Bd X.K B F H h) (l : LR X.K F σd σ) (c : ContV X.K F H h Q' Q) (g1 : Go X.K F H h F1 H1 h1) (rs : RDs X.K F1 ds vs) (t1 : sp ds h1 Q' (Es σd)) :
    liftSp X.K X.mg sp vs H1 Q fun cls d H' => WB X.K X.mg B Es cls d σ H' :=
  ⟨F1, h1, ds, Q', Es σd, rs, g1.sr, t1, c.go g1, fun F' H' h' n C dd fs gs g e3 hd rf z => ⟨F', h', σd, n, C, dd, fs, gs, rfl, rfl, e3, (s.all.trans g1).trans g, l.mono (g1.trans g).ss, hd, rf, z⟩⟩
theorem run_m {pins : List (Addr × Obj)} {σ : L2.St} {H : Hp} {s : Shared} {Q : VK} {us : List Value} {vs : List V} (G : FnM X.prog X.w X.K X.mg X.base k f fd ps sp) (hr : Rm k X.A) (hb : Binds X.K fd ps []) (tk : TkM X B Es) (I : Inv X pins σ H s) (r : Vals vs us)
    (q : liftSp X.K X.mg sp vs H Q fun cls d H' => WB X.K X.mg B Es cls d σ H') : wpAny (model X.prog X.w) X.A (call (.ref f) us) (EP X pins σ Q) X.xe s := by
  have hl := G.lenV q
  have b := hb s us I.kIn (by rw [List.append_nil, ← r.length]; exact hl)
  rw [List.append_nil] at b
  refine wpAny_call (codeAny_mono (G.run X.A X.stack s H ⟨us, []⟩ us vs Q _ hr I.env0 b r q) fun x s' hq => ?_)
  cases x with
  | error e => exact passAt tk σ pins H s e s' I hq
  | ok fl =>
    cases fl with
    | ret u => exact I.after hq
    | _ => exact False.elim hq
theorem m_call (G : FnM X.prog X.w X.K X.mg X.base k f fd ps sp) (hr : Rm k X.A) (hm : X.mg x = some (.ref f)) (hk : PySem.W.keepIn X.K (.ref f) = true) (hb : Binds X.K fd ps []) (tk : TkM X B Es) (ha : MA X B (e :: es) wa) (hg : Gl X x := by rfl) (hdb : (x == ("__debug__" : Str)) = false := by decide)
    (he : starEach (e :: es) X.env = (false, eval e X.env) :: starEach es X.env := by rfl) (hpl : (backTo pos (starEach es X.env)).any (·.1) = false := by rfl) : ME X B (.Call (.Name x p) (e :: es) [] pos) (wCall sp Es wa) := by
  refine ⟨fun pins s σ H Q I ⟨F, h, σd, Q', l, s0, t, c⟩ => ?_⟩
  refine wpAny_Call_Name_kw (ld_glob I hg hm ?_ hdb)
  refine PySem.W.callWith_K (h₀ := X.base) I.ok.mod.kin hk (thn (ha.run pos pins s σ H (fun vs H1 => liftSp X.K X.mg sp vs H1 Q fun cls d H' => WB X.K X.mg B Es cls d σ H') I ⟨F, h, σd, _, l, s0, t, fun F1 H1 h1 ds vs g1 rs t1 => sp_at s0 l c g1 rs t1⟩) fun us s1 ⟨vs, H1, I1, r, q⟩ => ⟨I1.kIn, ?_⟩) he hpl
  exact run_m G hr hb tk I1 r q
structure KwB (K : PySem.W.Frag) (fd : FuncData) (ps ks : List Str) (g : {α : Type} → List α → List α) : Prop where
  to : ∀ (s : Shared) (ws : List Value), K.In s.heap → ws.length = ks.length → BindsTo s fd ⟨[], ks.zip ws⟩ (ps.zip (g ws))
  rel : ∀ {zs : List V} {ws : List Value}, Vals zs ws → Vals (g zs) (g ws)
  relD : ∀ {K : PySem.W.Frag} {F : Hp} {ds : List D} {zs : List V}, RDs K F ds zs → RDs K F (g ds) (g zs)
variable {ks : List Str} {g : {α : Type} → List α → List α} {kws : List Keyword}
abbrev MK (X : Cx) (B : Bs) (kws : List Keyword) (t : WA) : Prop := PK X kws (liftA X.K B t)
theorem pk_mono {t t' : TA} (h : PK X kws t) (m : ∀ σ H Q, t' σ H Q → t σ H Q) : PK X kws t' := ⟨fun pos pins s σ H Q I q => h.run pos pins s σ H Q I (m σ H Q q)⟩
theorem mk_nil : MK X B [] wNil := pk_mono pk_nil fun σ H Q ⟨F, h, σd, Q', l, s, t, c⟩ => c F H h [] [] (Go.refl s.sr) .nil t
theorem mk_cons {ta : WE} {nm : Option Str} {kpos : Pos} (ha : ME X B e ta) (hr : MK X B kws wa) : MK X B (⟨nm, e, kpos⟩ :: kws) (wCons ta wa) :=
  pk_mono (pk_cons ha hr) fun σ H Q ⟨F, h, σd, Q', l, s, t, c⟩ => ⟨F, h, σd, _, l, s, t, fun F1 H1 h1 x u g1 rx t1 => ⟨F1, h1, σd, _, l.mono g1.ss, s.go g1, t1, fun F2 H2 h2 ds vs g2 rs t2 =>
    c F2 H2 h2 (x :: ds) (u :: vs) (g1.trans g2) (.cons (rx.mono g2.ss) rs) t2⟩⟩
def wCallK (sp : MSp) (Es : MSt → XQ) (n : Nat) (g : {α : Type} → List α → List α) (t : WA) : WE := fun σ h Q => t σ h fun ds h1 => ds.length = n ∧ sp (g ds) h1 Q (Es σ)
theorem m_callK (G : FnM X.prog X.w X.K X.mg X.base k f fd ps sp) (hr : Rm k X.A) (hm : X.mg x = some (.ref f)) (hk : PySem.W.keepIn X.K (.ref f) = true) (hb : KwB X.K fd ps ks g) (tk : TkM X B Es) (ha : MK X B kws wa) (hg : Gl X x := by rfl) (hdb : (x == ("__debug__" : Str)) = false := by decide)
    (hall : (backToKw pos (keywordEach kws X.env)).all (·.1.isSome) = true := by rfl) (hks : (backToKw pos (keywordEach kws X.env)).filterMap (·.1) = ks := by rfl)
    (hpl : ((backTo pos (starEach [] X.env)).any (·.1) || (backToKw pos (keywordEach kws X.env)).any (·.1.isNone)) = false := by rfl) : ME X B (.Call (.Name x p) [] kws pos) (wCallK sp Es ks.length g wa) := by
  refine ⟨fun pins s σ H Q I ⟨F, h, σd, Q', l, s0, t, c⟩ => ?_⟩
  refine wpAny_Call_Name_kw (ld_glob I hg hm ?_ hdb)
  refine PySem.W.callWith_KW0 (h₀ := X.base) I.ok.mod.kin hk hall (thn (ha.run pos pins s σ H (fun vs H1 => vs.length = ks.length ∧ liftSp X.K X.mg sp (g vs) H1 Q fun cls d H' => WB X.K X.mg B Es cls d σ H') I ⟨F, h, σd, _, l, s0, t, fun F1 H1 h1 ds vs g1 rs t1 => ?_⟩) fun ws s2 ⟨zs, H2, I2, rz, l2, q2⟩ => ⟨I2.kIn, ?_⟩) hpl
  · exact ⟨by rw [← rs.length]; exact t1.1, sp_at s0 l c g1 (hb.relD rs) t1.2⟩
  · rw [hks]
    have r2 := hb.rel rz
    show wpAny _ _ (call (.ref f) [] (ks.zip ws)) _ _ _
    refine wpAny_call (codeAny_mono (G.run X.A X.stack s2 H2 ⟨[], ks.zip ws⟩ (g ws) (g zs) Q _ hr I2.env0 (hb.to s2 ws I2.kIn (by rw [← rz.length]; exact l2)) r2 q2) fun r s' hq => ?_)
    cases r with
    | error e => exact passAt tk σ pins H2 s2 e s' I2 hq
    | ok fl =>
      cases fl with
      | ret u => exact I2.after hq
      | next => exact False.elim hq
      | brk => exact False.elim hq
      | cont => exact False.elim hq
end
end BP

set_option maxRecDepth 100000
set_option maxHeartbeats 4000000
namespace BP
open PySem PySem.W PySem.Calls PyProof.Rows PySem.HandSPX

def supExpr (fs : List (Str × Pos)) (p0 p1 p2 p3 : Pos) : PySem.Expr := .Call (.Attribute (.Call (.Name "super" p0) [] [] p1) "__init__" p2) (fs.map fun f => .Name f.1 f.2) [] p3
def supCall (fs : List (Str × Pos)) (p0 p1 p2 p3 p4 : Pos) : Stmt := .Expr (supExpr fs p0 p1 p2 p3) p4
def SupGoes (fs : List (Str × Pos)) (p0 p1 p2 p3 : Pos) : Prop := ∀ env : Env, (∃ pl : Sem Bool, eval (supExpr fs p0 p1 p2 p3) env = (do
  let ov ← attributeBase (.Call (.Name "super" p0) [] [] p1) "__init__" env (eval (.Call (.Name "super" p0) [] [] p1) env)
  standAt p2.atName
  let (f, first) ← holding [ov] (getMethod ov "__init__" pl)
  callWith p3 f first (backTo p3 (starEach (fs.map fun f => .Name f.1 f.2) env)) [])) ∧ ∀ l, swapsWith (supExpr fs p0 p1 p2 p3) none l env = pure false
def selfSet (f : Str × Pos × Pos × Pos × Pos) : Stmt := .Assign [.Attribute (.Name "self" f.2.1) f.1 f.2.2.1] (.Name f.1 f.2.2.2.1) f.2.2.2.2
structure XDef (fs : List Str) (st : Stmt) : Prop where
  body : ∃ (a : List (Str × Pos)) (b : List (Str × Pos × Pos × Pos × Pos)) (p0 p1 p2 p3 p4 : Pos), a.map (·.1) = fs ∧ b.map (·.1) = fs ∧ L2.defBody st = supCall a p0 p1 p2 p3 p4 :: b.map selfSet ∧ SupGoes a p0 p1 p2 p3
  par : ∃ ar, ((L2.defArgs st).posonlyargs ++ (L2.defArgs st).args).head? = some ar ∧ ar.arg = "self"
  kind : (L2.defScope st).kind = .function
  co : (L2.defScope st).isCoroutine = false
  gen : (L2.defScope st).isGenerator = false
  cells : ∀ x ∈ (L2.defScope st).names, x.2 ≠ .cell
  sup : (L2.defScope st).names.lookup ("super" : Str) = some .globalImplicit
  cls : (L2.defScope st).names.lookup ("__class__" : Str) = some .free
  slf : (L2.defScope st).names.lookup ("self" : Str) = some .local
  loc : ∀ f ∈ fs, (L2.defScope st).names.lookup f = some .local ∧ (f == ("__debug__" : Str)) = false ∧ f ≠ "self"
  nd : fs.Nodup
  ne : fs ≠ []
  bind : ∀ (qual : Str) (doc pm : Value) (an : Option Addr) (cdv ct : Value) (cc : Addr) (us : List Value), us.length = fs.length + 1 →
    bindArgs (fnX "__init__" qual (L2.defArgs st) (L2.defBody st) (L2.defScope st) [("__class__", cc)] .none .none doc pm an cdv ct) ⟨us, []⟩ = pure (((("self" : Str)) :: fs).zip us)
structure XCls (prog : Program) (K : Frag) (mg : Str → Option Value) (n : String) (C fI : Addr) (fs : List Str) : Prop where
  gC : mg (Str.ofString n) = some (.ref C)
  ox : L2.OexC K C
  noF : ∀ f ∈ fs, findIn K (.ref C) f = some none
  iC : findIn K (.ref C) "__init__" = some (some (.ref fI))
  tI : typeIn K (.ref fI) = some (.type "function")
  fn : ∃ (st : Stmt) (oc : Value) (od : Option Addr) (qual : Str) (doc pm : Value) (an : Option Addr) (cda : Addr) (ct : Value) (osl : Array (Option Value)) (cc : Addr) (vs : Array Value) (file : Str) (tf : Tok) (ccl : Value) (cdd : Option Addr) (ccs : Array (Option Value)) (cl : Value) (cld : Option Addr) (csl : Array (Option Value)),
    XDef fs st ∧ K.lookup fI = some ⟨oc, od, .func (fnX "__init__" qual (L2.defArgs st) (L2.defBody st) (L2.defScope st) [("__class__", cc)] .none .none doc pm an (.ref cda) ct), osl⟩ ∧ codeIn K (.ref cda) qual = true ∧
    K.lookup cda = some ⟨ccl, cdd, .fields vs, ccs⟩ ∧ vs[2]? = some (.str file tf) ∧ ((prog.main.file : Str) == file) = true ∧ K.lookup cc = some ⟨cl, cld, .cell (some (.ref C)), csl⟩
  su : ks_superIn K C C "__init__" = some (some (.builtin "ValueError.__init__"))
  sv : subIn K (.ref C) (.type "ValueError") = some true
  ss : mroIn K C (.ref C) = some true
  op : nsIn K cStatics "thirdparty.any" = some none
  ms : mg "super" = none
  tp : (prog.main.scope.names.lookup ("super" : Str)).isSome = false

section
variable {prog : Program} {w : World} {M : Model} {A : Around} {E : Value → Shared → Prop} {s : Shared} {env : Env}
theorem ld_loc {m : Str → Option Value} {x : Str} {pos : Pos} {v : Value} {Q : Value → Shared → Prop} (hn : s.heap.Ns env.locals m) (hv : m x = some v) (hk : env.scope.kind = .function) (hl : env.kindOf x = some .local) (hd : (x == ("__debug__" : Str)) = false) (h : Q v s) :
    wpAny M A (eval (.Name x pos) env) Q E s := wpAny_Name (wpAny_loadName_local hk hl hn hv h) hd
theorem back_cons {pos : Pos} {t : Sem Value} {r : List (Bool × Sem Value)} : backTo pos ((false, t) :: r) = (false, t) :: backTo pos r := rfl
theorem star_name {x : Str} {p : Pos} {es : List PySem.Expr} : starEach (.Name x p :: es) env = (false, eval (.Name x p) env) :: starEach es env := rfl
theorem spl_names {m : Str → Option Value} {pos : Pos} (hn : s.heap.Ns env.locals m) (hk : env.scope.kind = .function) : ∀ (fs : List (Str × Pos)) (vs : List Value) {Q : List Value → Shared → Prop}, Paired (fun f v => m f.1 = some v ∧ env.kindOf f.1 = some .local ∧ (f.1 == ("__debug__" : Str)) = false) fs vs → Q vs s →
    wpAny M A (spliced (backTo pos (starEach (fs.map fun f => PySem.Expr.Name f.1 f.2) env))) Q E s
  | [], _, Q, .nil, q => spliced_nil q
  | f :: fs, _, Q, .cons (b := v) ⟨h1, h2, h3⟩ r, q => by
    rw [List.map_cons, star_name, back_cons]
    exact spliced_cons (ld_loc hn h1 hk h2 h3 (spl_names hn hk fs _ r q))
theorem plain_names {pos : Pos} : ∀ fs : List (Str × Pos), (backTo pos (starEach (fs.map fun f => PySem.Expr.Name f.1 f.2) env)).any (·.1) = false
  | [] => rfl
  | f :: fs => by
    rw [List.map_cons, star_name, back_cons]
    show (false || (backTo pos (starEach (fs.map fun f => PySem.Expr.Name f.1 f.2) env)).any (·.1)) = false
    rw [plain_names fs]; rfl
end
section
variable {prog : Program} {w : World} {A : Around} {E : Value → Shared → Prop} {K : Frag} {mg : Str → Option Value} {n : String} {C fI : Addr} {fs : List Str}
theorem call_wrapped {h : Heap} {g : Array GenState} {d : Drawn} {t : Nat} {os : OsState} {nm q : Str} {N : Addr} {bs bm : List Value} {hdct : Bool} {sn : List Str} {sub : List Value} {ab : Bool} {col : Option Bool} {dd : Option Addr} {k0 k1 k2 k3 k5 : Option Value} {u x t0 : Addr} {rest : List Value} {Q : Value → Shared → Prop}
    (hC : h.get? C = some (excClassObj nm q C N bs bm hdct sn sub ab col dd k0 k1 k2 k3 k5 "ValueError.__new__")) (hx : h.get? x = some (excO C t0)) (hu : h.get? u = some (kxs_mw "ValueError.__init__" x)) (hz : rest.length ≤ sizeLine)
    (hq : ∀ h' t1, (∀ b o, b ≠ x → h.get? b = some o → h'.get? b = some o) → h'.get? x = some (excO C t1) → Q .none ⟨h', g, d, t, os⟩) : wpAny (model prog w) A (call (.ref u) rest) Q E ⟨h, g, d, t, os⟩ := by
  have FB := F.excBase_ValueError
  refine wpAny_call (codeAny_of_tree ?_)
  show wpAny _ A.in1 (callAny (.ref u) ⟨rest, []⟩) _ _ _
  simp only [callAny]
  refine wpAny_bind (wpAny_load hu ?_)
  have e1 : (Value.type "method-wrapper" == Value.type "method" || Value.type "method-wrapper" == Value.type "builtin_function_or_method" || Value.type "method-wrapper" == Value.type "method-wrapper") = true := by decide
  simp only [kxs_mw, e1, if_true]
  refine KFB.if_so (by decide) (wpAny_bind (check_bound_init FB.toExcCallFacts hC hx rfl (wpAny_bind (wpAny_pure (wpAny_pure ?_)))))
  exact ⟨plainId_quiet FB.init.plain _, codeAny_builtin FB.initEntry (exc_init_tree (cls := .ref C) (t0 := t0) (dv := none) (c2 := .none) (c3 := .none) (b4 := .bool false) hx hz fun h' k e' _ => hq h' _ k e')⟩
theorem x_super (T : XCls prog K mg n C fI fs) {st : Stmt} {qual : Str} {doc pm : Value} {an : Option Addr} {cda cc L x t0 : Addr} {ct : Value} {vs : Array Value} {file : Str} {tf : Tok} {oc ccl cl : Value} {od cdd cld : Option Addr} {osl ccs csl : Array (Option Value)} {m : Str → Option Value} {a : List (Str × Pos)} {p0 p1 p2 p3 p4 : Pos} {us : List Value} {body : List Stmt} {Q : Flow → Shared → Prop} {s : Shared}
    (D : XDef fs st) (sg : SupGoes a p0 p1 p2 p3) (ho : K.lookup fI = some ⟨oc, od, .func (fnX "__init__" qual (L2.defArgs st) (L2.defBody st) (L2.defScope st) [("__class__", cc)] .none .none doc pm an (.ref cda) ct), osl⟩)
    (hcode : K.lookup cda = some ⟨ccl, cdd, .fields vs, ccs⟩) (hvs : vs[2]? = some (.str file tf)) (hfile : ((prog.main.file : Str) == file) = true) (hcell : K.lookup cc = some ⟨cl, cld, .cell (some (.ref C)), csl⟩)
    (X : K.In s.heap) (G : s.heap.Ns mainGlobals mg) (Bt : ∃ mb, s.heap.Ns builtinsNs mb ∧ ∀ x : Str, x ≠ "__name__" → mb x = bootBuiltins x) (hx : s.heap.get? x = some (excO C t0)) (hn : s.heap.Ns L m) (hs : m "self" = some (.ref x))
    (ha : Paired (fun f v => m f.1 = some v ∧ (L2.defScope st).names.lookup f.1 = some .local ∧ (f.1 == ("__debug__" : Str)) = false) a us) (hne : us ≠ []) (hz : us.length ≤ sizeLine)
    (hq : ∀ h' t1 tk, (∀ b o, b ≠ x → s.heap.get? b = some o → h'.get? b = some o) → h'.get? x = some (excO C t1) → Q .next { s with heap := h', toks := tk }) :
    _root_.PySem.wpAt (model prog w) A (.func body (ksEnv qual (L2.defScope st) L fI (.ref cda) cc)) (exec (supCall a p0 p1 p2 p3 p4) (ksEnv qual (L2.defScope st) L fI (.ref cda) cc)) Q E s := by
  obtain ⟨nm, q, N, bs, bm, sn, sub, ab, col, dd, k0, k1, k2, k3, k5, hC, hbm⟩ := T.ox.cls
  obtain ⟨ar, har, hsf⟩ := D.par
  obtain ⟨mb, hmb, hbt⟩ := Bt
  have hcl : clsIn K C = some { name := nm, bases := bs, mro := .ref C :: bm, ns := N, qualname := q, hasDict := true, slotNames := sn, subclasses := sub, abstract := ab, collection := col, hasDel := false } := by unfold clsIn; rw [hC] <;> rfl
  have I0 : InstAt s.heap x (excO C t0) C none := ⟨hx, rfl, rfl, trivial⟩
  have hxC : x ≠ C := ks_ne X I0 hcl
  obtain ⟨hp, g, d, t, os⟩ := s
  have hi : interactive (ksEnv qual (L2.defScope st) L fI (.ref cda) cc) = false := by
    unfold interactive
    rw [show (ksEnv qual (L2.defScope st) L fI (.ref cda) cc).scope.kind = .function from D.kind]
    rfl
  obtain ⟨⟨pl, hev⟩, hsw⟩ := sg (ksEnv qual (L2.defScope st) L fI (.ref cda) cc)
  refine ks_wpAt_Expr_any ?_ hi (hsw _)
  refine ks_wpAt_MethodCall (pl := pl) ?_ hev
  have hk : (ksEnv qual (L2.defScope st) L fI (.ref cda) cc).scope.kind = .function := D.kind
  refine ks_wpAt_super_base (env := ksEnv qual (L2.defScope st) L fI (.ref cda) cc) D.sup D.cls (by decide +kernel) rfl (X _ _ ho) rfl har rfl (X _ _ hcode) rfl hvs hfile T.tp ?_
  refine ks_loadName_global hk D.sup (loadGlobal_builtin (env := ksEnv qual (L2.defScope st) L fI (.ref cda) cc) G T.ms hmb ((hbt "super" (by decide +kernel)).trans (by decide +kernel)) ⟨rfl, ?_⟩)
  refine wpAny_loadName_free hk D.cls rfl ⟨_, X _ _ hcell, rfl⟩ ?_
  rw [hsf]
  refine wpAny_loadName_local hk D.slf hn hs ?_
  refine ks_wpAny_isType_cls (X _ _ hC) rfl ⟨rfl, ?_⟩
  refine ks_wpAny_call_super (X _ _ hC) rfl hx rfl (fun c e => nomatch e) (looks_mroIn X T.ss) (fun h1 e1 kp1 => ?_)
  have X1 : K.In h1 := X.keeps kp1
  have hx1 := kp1 _ _ hx
  have I1 : InstAt h1 x (excO C t0) C none := ⟨hx1, rfl, rfl, trivial⟩
  have su := T.su
  unfold ks_superIn at su
  rw [hcl] at su
  refine kxs_getMethod kxs_ValueError e1 (looks_opaque X1 T.op) (l₀ := .ref C :: bm) (fun A Q E s k q => wpAny_bind ((looks_clsIn X1 hcl) A _ E s k (wpAny_pure q))) rfl X1 su (I1.type.andThen (looks_subIn X1 T.sv)) hxC (by decide +kernel) ?_
  have kp2 : ∀ b o, h1.get? b = some o → (h1.push (kxs_mw "ValueError.__init__" x)).get? b = some o := fun b o e => Heap.get?_push_of_some _ e
  have hmw : (h1.push (kxs_mw "ValueError.__init__" x)).get? h1.objs.size = some (kxs_mw "ValueError.__init__" x) := Heap.get?_push_at rfl rfl
  refine kxs_callWith (i := "ValueError.__init__") (x := x) (plain_names a) ?_
  have hn2 : (h1.push (kxs_mw "ValueError.__init__" x)).Ns L m := (hn.keeps kp1).keeps kp2
  have ev : ∀ {Q' : Args → Shared → Prop}, Q' ⟨us, []⟩ ⟨h1.push (kxs_mw "ValueError.__init__" x), g, d, t + 1, os⟩ → wpAny (model prog w) A (evalArgs (.ref h1.objs.size) true (backTo p3 (starEach (a.map fun f => PySem.Expr.Name f.1 f.2) (ksEnv qual (L2.defScope st) L fI (.ref cda) cc))) []) Q' E ⟨h1.push (kxs_mw "ValueError.__init__" x), g, d, t + 1, os⟩ := fun {Q'} q' => by
    cases ha with
    | nil => exact (hne rfl).elim
    | cons r rs =>
      have sp := spl_names (M := model prog w) (A := A) (E := E) (pos := p3) (env := ksEnv qual (L2.defScope st) L fI (.ref cda) cc) (s := ⟨h1.push (kxs_mw "ValueError.__init__" x), g, d, t + 1, os⟩) hn2 hk _ _ (Q := fun vs s' => Q' ⟨vs, []⟩ s') (Paired.cons r rs) q'
      rw [List.map_cons, star_name, back_cons] at sp ⊢
      exact evalArgs_plain sp
  refine ev ⟨hmw, ?_⟩
  show wpAny _ _ (call (.ref h1.objs.size) us) _ _ _
  exact call_wrapped (kp2 _ _ (X1 _ _ hC)) (kp2 _ _ hx1) hmw hz fun h' t1 k e' => hq h' t1 _ (fun b o hb e => k b o hb (kp2 _ _ (kp1 _ _ e))) e'
structure XEnd (h h' : Heap) (x C dx : Addr) (l : List (Str × Value)) : Prop where
  keep : ∀ b o, b ≠ x → h.get? b = some o → h'.get? b = some o
  obj : ∃ t1 : Addr, h'.get? x = some { cls := .ref C, dict := some dx, data := .fields #[.ref t1, .none, .none, .none, .bool false, .none] }
  dbig : h.objs.size ≤ dx
  dne : dx ≠ x
  ns : h'.Ns1 dx (fun y => l.lookup y)
theorem lookup_snoc {l : List (Str × Value)} {f : Str} {v : Value} (h : f ∉ l.map (·.1)) : (fun y => if y = f then some v else l.lookup y) = fun y => (l ++ [(f, v)]).lookup y := by
  funext y
  induction l with
  | nil =>
    by_cases e : y = f
    · subst e; simp [List.lookup]
    · have : (y == f) = false := by simpa using e
      simp [List.lookup, e, this]
  | cons p r ih =>
    obtain ⟨k, u⟩ := p
    simp only [List.map_cons, List.mem_cons, not_or] at h
    have ih := ih h.2
    rw [List.cons_append, List.lookup_cons, List.lookup_cons]
    by_cases e : y == k
    · have ek : y = k := by simpa using e
      rw [e]
      have : y ≠ f := fun z => h.1 (by rw [← z, ek])
      rw [if_neg this]
    · have e' : (y == k) = false := by simpa using e
      rw [e']
      exact ih
theorem within_lookup (l : List (Str × Value)) : Within (fun y => l.lookup y) (l.map (·.1)) := by
  intro y hy
  have hy' : (l.lookup y).isSome = true := by
    cases e : l.lookup y with
    | none => exact absurd e hy
    | some _ => rfl
  obtain ⟨v, e⟩ := Option.isSome_iff_exists.mp hy'
  exact List.mem_map_of_mem (f := (·.1)) (PySem.mem_of_lookup e)
theorem x_sets (T : XCls prog K mg n C fI fs) {cd : ClassData} (hcl : clsIn K C = some cd) (hm : refsVE cd.mro = true) (hh : cd.hasDict = true) {env : Env} {L x dx : Addr} {m : Str → Option Value} (hk : env.scope.kind = .function) (hL : env.locals = L) (hsl : env.kindOf "self" = some .local) (hs : m "self" = some (.ref x)) (hLd : L ≠ dx) :
    ∀ (b : List (Str × Pos × Pos × Pos × Pos)) (us : List Value) (l : List (Str × Value)) (s : Shared) {Q : Flow → Shared → Prop}, Paired (fun f v => m f.1 = some v ∧ env.kindOf f.1 = some .local ∧ (f.1 == ("__debug__" : Str)) = false ∧ f.1 ∈ fs) b us → ((l.map (·.1)) ++ b.map (·.1)).Nodup → l.length + b.length ≤ 1000 →
      K.In s.heap → s.heap.Ns L m → (∃ t1 : Addr, s.heap.get? x = some { cls := .ref C, dict := some dx, data := .fields #[.ref t1, .none, .none, .none, .bool false, .none] }) → s.heap.Ns1 dx (fun y => l.lookup y) → K.lookup dx = none → dx ≠ x →
      (∀ h' tk, (∀ b o, b ≠ dx → s.heap.get? b = some o → h'.get? b = some o) → h'.Ns1 dx (fun y => (l ++ (b.map (·.1)).zip us).lookup y) → Q .next { s with heap := h', toks := tk }) →
      wpAny (model prog w) A (execs (b.map selfSet) env) Q E s
  | [], _, l, s, Q, .nil, _, _, _, _, _, hns, _, _, hq => wpAny_execs_nil (by
      have := hq s.heap s.toks (fun _ _ _ e => e) (by simpa using hns)
      exact this)
  | f :: b, _, l, s, Q, .cons (b := v) ⟨h1, h2, h3, h4⟩ r, nd, hz, X, hn, ⟨t1, hx⟩, hns, hKd, hdx, hq => by
    rw [List.map_cons]
    have hn' : s.heap.Ns env.locals m := by rw [hL]; exact hn
    refine wpAny_execs_cons (plainObj_wpAny_Assign_Attribute (ld_loc hn' h1 hk h2 h3 (ld_loc hn' hs hk hsl (by decide +kernel) ?_)) rfl)
    obtain ⟨oD, esD, epD, hoD, hdD, _⟩ := hns.count (within_lookup l)
    refine set_plain X (ox := { cls := .ref C, dict := some dx, data := .fields #[.ref t1, .none, .none, .none, .bool false, .none] }) (od := some oD) ⟨hx, rfl, rfl, hoD⟩ T.ox.sa ?_
    refine OEX.osa_old (nl := l.map (·.1)) X hx hns (within_lookup l) (by rw [List.length_map]; simp only [List.length_cons] at hz; omega) hcl hm hh (T.noF _ h4) fun h' tk' k hns' => ?_
    have nf : f.1 ∉ l.map (·.1) := fun hm => by
      rw [List.map_cons, List.nodup_append] at nd
      exact nd.2.2 _ hm _ List.mem_cons_self rfl
    rw [lookup_snoc nf] at hns'
    have KX : K.In h' := fun a o e => k a o (fun z => by rw [z, hKd] at e; cases e) (X a o e)
    refine x_sets T hcl hm hh hk hL hsl hs hLd b _ (l ++ [(f.1, v)]) { s with heap := h', toks := tk' } r ?_ ?_ KX ?_ ⟨t1, k _ _ (Ne.symm hdx) hx⟩ hns' hKd hdx fun h2 tk2 k2 hns2 => ?_
    · rw [List.map_append, List.append_assoc]; simpa using nd
    · rw [List.length_append]; simp only [List.length_cons, List.length_nil] at hz ⊢; omega
    · obtain ⟨o, es, ep, e, r⟩ := hn; exact ⟨o, es, ep, k _ _ hLd e, r⟩
    · refine hq h2 tk2 (fun b o hb e => k2 b o hb (k b o hb e)) ?_
      rw [List.append_assoc] at hns2
      exact hns2
theorem lookup_rev {y : Str} : ∀ {l : List (Str × Value)}, (l.map (·.1)).Nodup → l.reverse.lookup y = l.lookup y
  | [], _ => rfl
  | (k, u) :: r, nd => by
    rw [List.map_cons, List.nodup_cons] at nd
    rw [List.reverse_cons]
    have key : ∀ (l : List (Str × Value)) (k : Str) (u : Value), k ∉ l.map (·.1) → (l ++ [(k, u)]).lookup y = if y = k then some u else l.lookup y := fun l k u h => (congrFun (lookup_snoc (v := u) h) y).symm
    rw [key r.reverse k u (by rw [List.map_reverse]; simpa using nd.1), lookup_rev nd.2, List.lookup_cons]
    by_cases e : y = k
    · subst e; simp
    · have : (y == k) = false := by simpa using e
      rw [if_neg e, this]
theorem lookup_zip : ∀ {fs : List Str} {us : List Value} {i : Nat} {f : Str} {v : Value}, fs.Nodup → fs[i]? = some f → us[i]? = some v → (fs.zip us).lookup f = some v
  | [], _, _, _, _, _, h, _ => by simp at h
  | _ :: _, [], _, _, _, _, _, h => by simp at h
  | g :: fs, u :: us, 0, f, v, _, h1, h2 => by
    simp at h1 h2; subst h1; subst h2
    simp [List.zip_cons_cons, List.lookup]
  | g :: fs, u :: us, i + 1, f, v, nd, h1, h2 => by
    rw [List.nodup_cons] at nd
    have hf : f ∈ fs := List.mem_of_getElem? (by simpa using h1)
    have : (f == g) = false := by simpa using fun z : f = g => nd.1 (z ▸ hf)
    rw [List.zip_cons_cons, List.lookup_cons, this]
    exact lookup_zip (i := i) nd.2 (by simpa using h1) (by simpa using h2)
theorem paired_by {α : Type} {P : Str → Value → Prop} (nm : α → Str) : ∀ {c : List α} {us : List Value}, c.length = us.length → (∀ (i : Nat) (f : Str) (v : Value), (c.map nm)[i]? = some f → us[i]? = some v → P f v) → Paired (fun x v => P (nm x) v) c us
  | [], [], _, _ => .nil
  | [], _ :: _, h, _ => by simp at h
  | _ :: _, [], h, _ => by simp at h
  | x :: c, v :: us, h, q => .cons (q 0 _ _ rfl rfl) (paired_by nm (by simpa using h) fun i f v h1 h2 => q (i + 1) f v (by simpa using h1) (by simpa using h2))
theorem x_initA (T : XCls prog K mg n C fI fs) {s : Shared} {R : Result → Shared → Prop} {x t0 : Addr} {us : List Value} {ar : Args} (hbA : ∀ (fd : FuncData) (oc : Value) (od : Option Addr) (osl : Array (Option Value)), K.lookup fI = some ⟨oc, od, .func fd, osl⟩ → bindArgs fd ar = pure ((("self" : Str) :: fs).zip (.ref x :: us))) (X : K.In s.heap) (hlim : s.heap.NoLimit) (G : s.heap.Ns mainGlobals mg) (Bt : ∃ mb, s.heap.Ns builtinsNs mb ∧ ∀ x : Str, x ≠ "__name__" → mb x = bootBuiltins x)
    (hx : s.heap.get? x = some (excO C t0)) (hKx : K.lookup x = none) (hgx : mainGlobals ≠ x) (hroom : A.depth < recursionLimit) (hl : us.length = fs.length) (hz : us.length ≤ 1000)
    (hq : ∀ h' tk dx, XEnd s.heap h' x C dx (fs.zip us) → R (.ok (.ret .none)) { s with heap := h', toks := tk }) : codeAny (model prog w) A (.call (.ref fI) ar) R s := by
  obtain ⟨st, oc, od, qual, doc, pm, an, cda, ct, osl, cc, vs, file, tf, ccl, cdd, ccs, cl, cld, csl, D, ho, hcd, hcode, hvs, hfile, hcell⟩ := T.fn
  obtain ⟨a, b, p0, p1, p2, p3, p4, ea, eb, hbody, sg⟩ := D.body
  obtain ⟨nm, q, N, bs, bm, sn, sub, ab, col, dd, k0, k1, k2, k3, k5, hC, hbm⟩ := T.ox.cls
  have hcl : clsIn K C = some { name := nm, bases := bs, mro := .ref C :: bm, ns := N, qualname := q, hasDict := true, slotNames := sn, subclasses := sub, abstract := ab, collection := col, hasDel := false } := by unfold clsIn; rw [hC] <;> rfl
  have hb := hbA _ _ _ _ ho
  refine ks_codeAny_call_defAt (fd := fnX "__init__" qual (L2.defArgs st) (L2.defBody st) (L2.defScope st) [("__class__", cc)] .none .none doc pm an (.ref cda) ct) (body := L2.defBody st) (binds := ((("self" : Str)) :: fs).zip (.ref x :: us)) hroom (X _ _ ho) rfl hlim (codeRec_of X hcd) rfl (.of_eq hb) D.cells (fun y hy => ?_) (fun h1 hns hk1 => ?_) D.co D.gen D.kind
  · have := (List.of_mem_zip hy).1
    rcases List.mem_cons.mp this with e | e
    · rw [e]; exact D.slf
    · exact (D.loc _ e).1
  · have ndS : ((("self" : Str)) :: fs).Nodup := List.nodup_cons.mpr ⟨fun h => (D.loc _ h).2.2 rfl, D.nd⟩
    have mz : (((("self" : Str)) :: fs).zip (Value.ref x :: us)).map (·.1) = ("self" : Str) :: fs := by
      rw [List.map_fst_zip (by simp [hl])]
    have mk : ∀ y, (((("self" : Str)) :: fs).zip (Value.ref x :: us)).reverse.lookup y = (((("self" : Str)) :: fs).zip (Value.ref x :: us)).lookup y := fun y => lookup_rev (by rw [mz]; exact ndS)
    have mself : (((("self" : Str)) :: fs).zip (Value.ref x :: us)).reverse.lookup ("self" : Str) = some (.ref x) := by
      rw [mk]; exact lookup_zip (i := 0) ndS rfl rfl
    have mf : ∀ (i : Nat) (f : Str) (v : Value), fs[i]? = some f → us[i]? = some v → (((("self" : Str)) :: fs).zip (Value.ref x :: us)).reverse.lookup f = some v := fun i f v h1 h2 => by
      rw [mk]; exact lookup_zip (i := i + 1) ndS (by simpa using h1) (by simpa using h2)
    have la : a.length = us.length := by rw [hl, ← ea, List.length_map]
    have lb : b.length = us.length := by rw [hl, ← eb, List.length_map]
    have hune : us ≠ [] := fun z => D.ne (List.length_eq_zero_iff.mp (by rw [← hl, z]; rfl))
    have hxL : s.heap.objs.size ≠ x := Nat.ne_of_gt (Heap.lt_size hx)
    have hsz : us.length ≤ sizeLine := Nat.le_trans hz (by decide)
    rw [hbody]
    refine ks_wpAt_execs_cons ?_
    refine x_super T (st := st) (L := s.heap.objs.size) (us := us) (s := { s with heap := h1, toks := s.toks + (((("self" : Str)) :: fs).zip (Value.ref x :: us)).length }) D sg ho hcode hvs hfile hcell (X.keeps hk1) (G.keeps hk1) (by obtain ⟨mb, e1, e2⟩ := Bt; exact ⟨mb, e1.keeps hk1, e2⟩) (hk1 _ _ hx) hns mself
      (paired_by (P := fun f v => (((("self" : Str)) :: fs).zip (Value.ref x :: us)).reverse.lookup f = some v ∧ (L2.defScope st).names.lookup f = some .local ∧ (f == ("__debug__" : Str)) = false) (·.1) la fun i f v e1 e2 => by
        rw [ea] at e1
        exact ⟨mf i f v e1 e2, (D.loc f (List.mem_of_getElem? e1)).1, (D.loc f (List.mem_of_getElem? e1)).2.1⟩) hune hsz fun h2 t2 tk2 kp2 e2 => ?_
    have k2' : ∀ c o, c ≠ x → s.heap.get? c = some o → h2.get? c = some o := fun c o hc e => kp2 c o hc (hk1 c o e)
    have X2 : K.In h2 := fun c o e => k2' c o (fun z => by rw [z, hKx] at e; cases e) (X c o e)
    have hn2 : h2.Ns s.heap.objs.size (fun y => (((("self" : Str)) :: fs).zip (Value.ref x :: us)).reverse.lookup y) := by
      obtain ⟨o, es, ep, e, r⟩ := hns; exact ⟨o, es, ep, kp2 _ _ hxL e, r⟩
    refine wpAt_of_wpAny ?_
    cases b with
    | nil => exact (hune (List.length_eq_zero_iff.mp lb.symm)).elim
    | cons f0 b0 =>
      cases us with
      | nil => exact (hune rfl).elim
      | cons v0 us0 =>
        rw [List.map_cons]
        have ef0 : fs[0]? = some f0.1 := by rw [← eb]; rfl
        have m0 : f0.1 ∈ fs := List.mem_of_getElem? ef0
        have l0 := D.loc _ m0
        have fss : fs = f0.1 :: b0.map (·.1) := by rw [← eb]; rfl
        refine wpAny_execs_cons (plainObj_wpAny_Assign_Attribute (ld_loc hn2 (mf 0 _ _ ef0 rfl) D.kind l0.1 l0.2.1 (ld_loc hn2 mself D.kind D.slf (by decide +kernel) ?_)) rfl)
        refine set_plain X2 (ox := excO C t2) (od := none) ⟨e2, rfl, rfl, trivial⟩ T.ox.sa ?_
        refine exc_osa X2 e2 hcl (show refsVE (.ref C :: bm) = true from hbm) rfl (T.noF _ m0) fun h3 tk3 dx k3 dbig dne e3 hns3 => ?_
        have hLd : s.heap.objs.size < dx := Nat.lt_of_lt_of_le hn2.lt dbig
        have hKd : K.lookup dx = none := by
          cases z : K.lookup dx with
          | none => rfl
          | some o => exact absurd (Nat.lt_of_lt_of_le (Heap.lt_size (X2 _ _ z)) dbig) (Nat.lt_irrefl _)
        have e1 : (fun y => if y = f0.1 then some v0 else none) = fun y => ([(f0.1, v0)] : List (Str × Value)).lookup y := by
          have := lookup_snoc (l := []) (f := f0.1) (v := v0) (by simp)
          simpa using this
        rw [e1] at hns3
        refine x_sets T hcl (show refsVE (.ref C :: bm) = true from hbm) rfl (env := ksEnv qual (L2.defScope st) s.heap.objs.size fI (.ref cda) cc) (m := fun y => ((("self" : Str) :: fs).zip (Value.ref x :: v0 :: us0)).reverse.lookup y) D.kind rfl D.slf mself (Nat.ne_of_lt hLd) b0 us0 [(f0.1, v0)] _ ?_ ?_ ?_ (fun c o e => k3 c o (fun z => by rw [z, hKx] at e; cases e) (X2 c o e)) ?_ ⟨t2, e3⟩ hns3 hKd dne fun h4 tk4 k4 hns4 => ?_
        · refine paired_by (P := fun f v => (((("self" : Str)) :: fs).zip (Value.ref x :: v0 :: us0)).reverse.lookup f = some v ∧ (L2.defScope st).names.lookup f = some .local ∧ (f == ("__debug__" : Str)) = false ∧ f ∈ fs) (fun y : Str × Pos × Pos × Pos × Pos => y.1) (by simpa using lb) fun i f v h1 h2 => ?_
          have e1 : fs[i + 1]? = some f := by rw [fss]; simpa using h1
          have lf := D.loc f (List.mem_of_getElem? e1)
          exact ⟨mf (i + 1) f v e1 (by simpa using h2), lf.1, lf.2.1, List.mem_of_getElem? e1⟩
        · have := D.nd
          rw [fss] at this
          simpa using this
        · have : b0.length = us0.length := by simpa using lb
          simp only [List.length_cons, List.length_nil] at hz ⊢
          omega
        · obtain ⟨o, es, ep, e, r⟩ := hn2; exact ⟨o, es, ep, k3 _ _ hxL e, r⟩
        · refine hq h4 tk4 dx ⟨fun c o hc e => ?_, ⟨t2, k4 _ _ (Ne.symm dne) e3⟩, Nat.le_of_lt hLd, dne, ?_⟩
          · exact k4 c o (Nat.ne_of_lt (Nat.lt_trans (Heap.lt_size e) hLd)) (k3 c o hc (k2' c o hc e))
          · rw [fss, List.zip_cons_cons]
            simpa using hns4
theorem x_init (T : XCls prog K mg n C fI fs) {s : Shared} {R : Result → Shared → Prop} {x t0 : Addr} {us : List Value} (X : K.In s.heap) (hlim : s.heap.NoLimit) (G : s.heap.Ns mainGlobals mg) (Bt : ∃ mb, s.heap.Ns builtinsNs mb ∧ ∀ x : Str, x ≠ "__name__" → mb x = bootBuiltins x)
    (hx : s.heap.get? x = some (excO C t0)) (hKx : K.lookup x = none) (hgx : mainGlobals ≠ x) (hroom : A.depth < recursionLimit) (hl : us.length = fs.length) (hz : us.length ≤ 1000)
    (hq : ∀ h' tk dx, XEnd s.heap h' x C dx (fs.zip us) → R (.ok (.ret .none)) { s with heap := h', toks := tk }) : codeAny (model prog w) A (.call (.ref fI) ⟨.ref x :: us, []⟩) R s := by
  refine x_initA T (fun fd oc od osl e => ?_) X hlim G Bt hx hKx hgx hroom hl hz hq
  obtain ⟨st, oc', od', qual, doc, pm, an, cda, ct, osl', cc, vs, file, tf, ccl, cdd, ccs, cl, cld, csl, D, ho, _⟩ := T.fn
  rw [ho] at e
  cases e
  exact D.bind qual doc pm an (.ref cda) ct cc (.ref x :: us) (by rw [List.length_cons, hl])
end
end BP

set_option maxRecDepth 100000
set_option maxHeartbeats 4000000
namespace BP
open PySem PySem.Spec PyProof.Rows L2

theorem relO_zip : ∀ (fs : List Str) {vs : List V} {us : List Value} (f : Str), Vals vs us → RelO ((fs.zip vs).lookup f) ((fs.zip us).lookup f)
  | [], _, _, f, _ => by simp [List.zip, List.lookup]; exact True.intro
  | _ :: _, _, _, f, .nil => by simp [List.zip, List.lookup]; exact True.intro
  | g :: fs, _, _, f, .cons r rs => by
    rw [List.zip_cons_cons, List.zip_cons_cons, List.lookup_cons, List.lookup_cons]
    cases f == g with
    | true => exact r
    | false => exact relO_zip fs f rs
theorem rdf_zip {K : PySem.W.Frag} {F : Hp} : ∀ (fs : List Str) {ds : List D} {vs : List V}, RDs K F ds vs → RDf K F (fs.zip ds) (fs.zip vs)
  | [], _, _, _ => .nil
  | _ :: _, _, _, .nil => .nil
  | _ :: fs, _, _, .cons r rs => .cons r (rdf_zip fs rs)
def tMkX (C : Addr) (fs : List Str) (ta : TA) : L2.St → Hp → XK → Prop := fun σ H Q => ta σ H fun vs H1 => vs.length = fs.length ∧ vs.length ≤ 1000 ∧ ∀ d, H1 d = none → Q (.ref C) (some d) (upd H1 d (.xd (fs.zip vs)))
section
variable {X : Cx} {B : Bs} {e : Expr} {es : List Expr} {ta : TA} {wa : WA} {n : String} {C fI : Addr} {fs : List Str} {k : Nat} {p pos pos2 : Pos} {Es : MSt → XQ}
theorem pmk_x (T : XCls X.prog X.K X.mg n C fI fs) (hr : Room (k + 1) X.A) (ha : PA X (e :: es) ta) (hg : Gl X (Str.ofString n) := by rfl) (hdb : (Str.ofString n == ("__debug__" : Str)) = false := by decide)
    (he : starEach (e :: es) X.env = (false, eval e X.env) :: starEach es X.env := by rfl) (hpl : (backTo pos (starEach es X.env)).any (·.1) = false := by rfl) :
    PMk X (.Call (.Name (Str.ofString n) p) (e :: es) [] pos) (tMkX C fs ta) := by
  intro pins s σ H Q I h
  obtain ⟨nm, q, N, bs, bm, sn, sub, ab, col, dd, k0, k1, k2, k3, k5, hC, hbm⟩ := T.ox.cls
  refine wpAny_Call_Name_kw (ld_glob I hg T.gC ?_ hdb)
  refine PySem.W.callWith_K (h₀ := X.base) I.ok.mod.kin T.ox.kC (thn (ha.run pos pins s σ H _ I h) fun us s1 ⟨vs, H1, I1, r1, hl, hz, q1⟩ => ⟨I1.kIn, ?_⟩) he hpl
  show wpAny _ _ (call (.ref C) us) _ _ _
  have hlim := I1.nolimit
  have hgl := I1.mod.glob.keeps I1.bk
  have hbl : ∃ mb, s1.heap.Ns builtinsNs mb ∧ ∀ x : Str, x ≠ "__name__" → mb x = bootBuiltins x := by
    obtain ⟨mb, e1, e2⟩ := I1.mod.blt
    exact ⟨mb, e1.keeps I1.bk, e2⟩
  obtain ⟨hp, g, dr, tk, os⟩ := s1
  have hlu : us.length = fs.length := by rw [← r1.length]; exact hl
  have hzu : us.length ≤ 1000 := by rw [← r1.length]; exact hz
  have kk : ∀ b o, hp.get? b = some o → ((hp.push (PySem.W.kdv_tup us)).push (PySem.HandSPX.excO C hp.objs.size)).get? b = some o := fun b o e => Heap.get?_push_of_some _ (Heap.get?_push_of_some _ e)
  have hget : ((hp.push (PySem.W.kdv_tup us)).push (PySem.HandSPX.excO C hp.objs.size)).get? (hp.objs.size + 1) = some (PySem.HandSPX.excO C hp.objs.size) := by heap_get
  have hnew : ∀ {b : Addr} {o : Obj}, hp.get? b = some o → b ≠ hp.objs.size + 1 := fun {b o} z => Nat.ne_of_lt (Nat.lt_succ_of_lt (Heap.lt_size z))
  have hKx : X.K.lookup (hp.objs.size + 1) = none := by
    cases z : X.K.lookup (hp.objs.size + 1) with
    | none => rfl
    | some o => exact (hnew (I1.kIn _ _ z) rfl).elim
  have hgx : mainGlobals ≠ hp.objs.size + 1 := by
    obtain ⟨o, es, ep, e1, _⟩ := hgl
    exact hnew e1
  refine wpAny_call (PySem.HandSPX.call_own F.excBase_ValueError (fun Y => PySem.HandSPX.refsVE_contains Y bm hbm) (I1.kIn _ _ hC) (PySem.W.looks_findIn I1.kIn T.iC) (fun self => PySem.W.bind_fn I1.kIn self T.tI) (Nat.le_trans hzu (by decide)) ?_)
  refine x_init T (s := ⟨(hp.push (PySem.W.kdv_tup us)).push (PySem.HandSPX.excO C hp.objs.size), g, dr, tk, os⟩) (I1.kIn.keeps kk) (hlim.keeps kk) (hgl.keeps kk) (by obtain ⟨mb, e1, e2⟩ := hbl; exact ⟨mb, e1.keeps kk, e2⟩) hget hKx hgx (hr.make C us []).depth hlu hzu fun h' tk' d M => ?_
  refine ⟨rfl, ?_⟩
  show MkP X pins σ Q (.ref (hp.objs.size + 1)) ⟨h', g, dr, tk', os⟩
  obtain ⟨t1, hoe⟩ := M.obj
  have hns := M.ns
  have dbig : hp.objs.size ≤ d := Nat.le_trans (by show hp.objs.size ≤ ((hp.push _).push _).objs.size; simp [Heap.push]; omega) M.dbig
  obtain ⟨G', g1, g2⟩ := restrict h' fun b => decide (b ≠ hp.objs.size + 1)
  have gk : ∀ b, b ≠ hp.objs.size + 1 → G'.get? b = h'.get? b := fun b hb => g1 b (decide_eq_true hb)
  have ge : G'.get? (hp.objs.size + 1) = none := g2 _ (by simp)
  have old : ∀ b o, hp.get? b = some o → G'.get? b = some o := fun b o q => (gk b (hnew q)).trans (M.keep b o (hnew q) (kk b o q))
  have ob : ObjOk X.prog X.w (upd H1 d (.xd (fs.zip vs))) G' d (.xd (fs.zip vs)) := ⟨_, hns.at (fun o q => (gk d M.dne).trans q), fun f => relO_zip fs f r1⟩
  have J : Inv X pins σ (upd H1 d (.xd (fs.zip vs))) ⟨G', g, dr, tk', os⟩ := I1.laid (t' := tk') old dbig ob
  refine ⟨_, _, _, ⟨G', g, dr, tk', os⟩, _, .ref C, some d, rfl, J, fun b o q => ?_, ge, hoe, ⟨rfl, rfl⟩, rfl, rfl, ?_, rfl, I1.bare, raises_own T.ox.exC T.ox.tyC, q1 d (I1.hok.fresh dbig)⟩
  · by_cases hb : b = hp.objs.size + 1
    · have q' : G'.get? b = some o := q
      rw [hb, ge] at q'; cases q'
    · exact (gk b hb).symm.trans q
  · rw [upd_ne (Ne.symm M.dne)]
    exact I1.hok.fresh (Nat.le_succ _)
def wRaise (Es : MSt → XQ) (n : String) (fs : List Str) (wa : WA) : WS := fun _ σ h => wa σ h fun ds h1 => ds.length = fs.length ∧ ds.length ≤ 1000 ∧ Es σ n (fs.zip ds) h1
theorem ms_raise (hc : X.calm = true) (T : XCls X.prog X.K X.mg n C fI fs) (hr : Room (k + 1) X.A) (tk : TkM X B Es) (ha : MA X B (e :: es) wa) (hg : Gl X (Str.ofString n) := by rfl) (hdb : (Str.ofString n == ("__debug__" : Str)) = false := by decide)
    (he : starEach (e :: es) X.env = (false, eval e X.env) :: starEach es X.env := by rfl) (hpl : (backTo pos (starEach es X.env)).any (·.1) = false := by rfl) :
    MS X B (.Raise (some (.Call (.Name (Str.ofString n) p) (e :: es) [] pos)) none pos2) (wRaise Es n fs wa) :=
  ps_mono (ps_raise hc tk (pmk_x T hr ha hg hdb he hpl)) fun E σ H ⟨F, h, σd, D', l, s, t, c⟩ => ⟨F, h, σd, _, l, s, t, fun F1 H1 h1 ds vs g1 rs t1 => by
    refine ⟨by rw [← rs.length]; exact t1.1, by rw [← rs.length]; exact t1.2.1, fun d nd => ?_⟩
    have gs := Go.settled (o := .xd (fs.zip vs)) g1.sr nd
    exact ⟨_, h1, σd, n, C, d, fs.zip ds, fs.zip vs, rfl, rfl, T.gC, (s.all.trans g1).trans gs, l.mono (g1.trans gs).ss, upd_same, rdf_zip fs (rs.mono gs.ss), t1.2.2⟩⟩
end
end BP

set_option maxRecDepth 100000
set_option maxHeartbeats 4000000
namespace BP
open PySem PySem.Spec PyProof.Rows L2

abbrev Cl := Value × Option Nat × (Addr → Value → Option Addr → TS)
def ClName (X : Cx) : Option Str → Option Nat → Prop
  | none, none => True
  | some y, some i => X.N[i]? = some y ∧ X.env.kindOf y = some .local
  | _, _ => False
inductive ClsOk (X : Cx) : List ExceptHandler → List Cl → Prop
  | nil : ClsOk X [] []
  | cons {x : Str} {c : Value} {y : Option Str} {o : Option Nat} {ts : Addr → Value → Option Addr → TS} {st : Stmt} {sts : List Stmt} {p1 p2 : Pos} {hr : List ExceptHandler} {lr : List Cl} (nm : Names X x c) (no : ClName X y o)
      (su : ∀ (a : Addr) (ob : Obj) (cls : Value) (d : Option Addr) (pn : List (Addr × Obj)), Zc cls d ob → (∃ vs, ob.data = .fields vs) → PSs (X.suite a ((a, ob) :: pn)) (st :: sts) (ts a cls d)) (rest : ClsOk X hr lr) :
      ClsOk X (.ExceptHandler (some (.Name x p1)) y (st :: sts) p2 :: hr) ((c, o, ts) :: lr)
section
variable {X : Cx} {pins : List (Addr × Obj)} {G : Hp} {τ : L2.St} {S : Shared} {D : Ends} {W0 : WX}
structure Caught (X : Cx) (pins : List (Addr × Obj)) (τ : L2.St) (G : Hp) (B : Heap) (cls : Value) (d : Option Addr) (a : Addr) (S : Shared) : Prop where
  fly : HandSPX.FlyingZ B (X.env :: X.outer) a (Zc cls d) S.heap
  next : ∀ h', HandSPX.FlyingZ B (X.env :: X.outer) a (Zc cls d) h' → S.heap.UpToSlots h' → Inv X pins τ G { S with heap := h' }
  up : ∀ h', HandSPX.HeldZ B (X.env :: X.outer) a (Zc cls d) X.env.locals h' → S.heap.UpToSlots h' → ∀ W : WX, W cls d τ G → XE X W (.ref a) { S with heap := h' }
  free : G a = none
  nL : a ≠ X.env.locals
  nF : a ∉ X.fs
theorem Caught.inv {B : Heap} {cls : Value} {d : Option Addr} {a : Addr} (c : Caught X pins τ G B cls d a S) : Inv X pins τ G S := c.next S.heap c.fly (Heap.UpToSlots.refl _)
end
end BP

set_option maxRecDepth 100000
set_option maxHeartbeats 4000000
namespace BP
open PySem PySem.Spec PyProof.Rows L2

structure MCl where
  c : Value
  sl : Option Nat
  is : String → Bool
  rd : Addr → Addr → String → WS
def mputE (o : Option Nat) (d : D) (σ : MSt) : MSt := match o with
  | some i => σ.set i (some d)
  | none => σ
def moffS (o : Option Nat) (σ : MSt) : MSt := match o with
  | some i => σ.set i none
  | none => σ
def moffE (o : Option Nat) (E : MEnds) : MEnds := { nx := fun τ g => E.nx (moffS o τ) g, rt := E.rt, bk := fun τ g => E.bk (moffS o τ) g, ct := fun τ g => E.ct (moffS o τ) g }
def wHd (known : String → Bool) (Es : MSt → XQ) (E : MEnds) : List MCl → MSt → XQ
  | [] => Es
  | k :: r => fun σ n fs h => known n = true ∧ if k.is n = true then ∀ a dd, k.rd a dd n (moffE k.sl E) (mputE k.sl (.exc a dd n fs) σ) h else wHd known Es E r σ n fs h
def wTry (known : String → Bool) (Es : MSt → XQ) (tb : (MSt → XQ) → WS) (l : List MCl) : WS := fun E σ h => tb (wHd known Es E l) E σ h
section
variable {X : Cx} {known : String → Bool} {Es : MSt → XQ}
def liftCl (K : PySem.W.Frag) (mg : Str → Option Value) (k : MCl) : Cl := (k.c, k.sl, fun a cls d E τ G => ∃ (B : Bs) (n : String) (dd C : Addr), cls = .ref C ∧ d = some dd ∧ mg (Str.ofString n) = some (.ref C) ∧ liftS K B (k.rd a dd n) E τ G)
inductive MCls (X : Cx) (known : String → Bool) : List ExceptHandler → List MCl → Prop
  | nil : MCls X known [] []
  | cons {x : Str} {c : Value} {y : Option Str} {o : Option Nat} {is : String → Bool} {rd : Addr → Addr → String → WS} {st : Stmt} {sts : List Stmt} {p1 p2 : Pos} {hr : List ExceptHandler} {lr : List MCl} (nm : Names X x c) (no : ClName X y o)
      (ex : ∀ (n : String) (C : Addr), X.mg (Str.ofString n) = some (.ref C) → known n = true → PySem.W.exmOne X.K (.ref C) c = some (is n))
      (su : ∀ (B : Bs) (a dd C : Addr) (n : String) (ob : Obj) (pn : List (Addr × Obj)), Zc (.ref C) (some dd) ob → (∃ vs, ob.data = .fields vs) → X.mg (Str.ofString n) = some (.ref C) → MSs (X.suite a ((a, ob) :: pn)) B (st :: sts) (rd a dd n)) (rest : MCls X known hr lr) :
      MCls X known (.ExceptHandler (some (.Name x p1)) y (st :: sts) p2 :: hr) (⟨c, o, is, rd⟩ :: lr)
theorem MCls.ok {hds : List ExceptHandler} {l : List MCl} (h : MCls X known hds l) : ClsOk X hds (l.map (liftCl X.K X.mg)) := by
  induction h with
  | nil => exact .nil
  | @cons x c y o is rd st sts p1 p2 hr lr nm no ex su rest ih =>
    refine .cons nm no (fun a ob cls d pn z1 z2 => ⟨fun pins s σ H E I ⟨B, n, dd, C, e1, e2, e3, q⟩ => ?_⟩) ih
    subst e1 e2
    exact (su B a dd C n ob pn z1 z2 e3).run pins s σ H E I q
end
structure XGet (K : PySem.W.Frag) (C : Addr) : Prop where
  ga : PySem.W.findIn K (.ref C) "__getattribute__" = some (some (.builtin "BaseException.__getattribute__"))
  gg : PySem.W.findIn K (.ref C) "__getattr__" = some none
  hd : PySem.W.hasDictIn K C = true
section
variable {X : Cx} {B : Bs} {n0 : String} {C0 fI : Addr} {fs0 : List Str} {e : Expr} {te : WE} {a dd C : Addr} {n : String} {ob : Obj} {pn : List (Addr × Obj)} {f : Str} {pos : Pos}
def wXf (n0 : String) (a dd : Addr) (n f : Str) (te : WE) : WE := fun σ h Q => n = Str.ofString n0 ∧ te σ h fun x h1 => match x with
  | .exc a' dd' _ fs => a' = a ∧ dd' = dd ∧ (match fs.lookup f with | some v => Q v h1 | none => False)
  | _ => False
end
end BP

set_option maxRecDepth 100000
set_option maxHeartbeats 4000000
namespace BP
open PySem PySem.Spec PyProof.Rows L2
abbrev wDiv (a b : WE) : WE := wOp (opI2 divOk fun i j => i / j) a b
abbrev wMod (a b : WE) : WE := wOp (opI2 modOk fun i j => i % j) a b
abbrev wPow (a b : WE) : WE := wOp (opI2 powOk fun i j => i ^ j.toNat) a b
abbrev wShl (a b : WE) : WE := wOp (opI2 shlOk fun i j => i * 2 ^ j.toNat) a b
abbrev wShr (a b : WE) : WE := wOp (opI2 shrOk fun i j => i / 2 ^ j.toNat) a b
abbrev wLt (a b : WE) : WE := wOp (opB2 fun i j => decide (i < j)) a b
abbrev wLe (a b : WE) : WE := wOp (opB2 fun i j => decide (i ≤ j)) a b
abbrev wGt (a b : WE) : WE := wOp (opB2 fun i j => decide (j < i)) a b
abbrev wGe (a b : WE) : WE := wOp (opB2 fun i j => decide (j ≤ i)) a b
abbrev wLeLe (a b c : WE) : WE := wChain (opB2 fun i j => decide (i ≤ j)) (opB2 fun i j => decide (i ≤ j)) a b c
abbrev wIsi (ns : List String) (a : WE) : WE := wUn (fIsi ns) a
abbrev fAll : List D → MH → MQ → Prop := fBools fun bs => bs.all id
section
variable {X : Cx} {B : Bs} {a b : Expr} {ta tb : WE} {pos : Pos}
theorem pe_ty {x : Str} {n : String} (hm : X.mg x = none) (hv : bootBuiltins x = some (.type n)) (hg : Gl X x := by rfl) (hn : x ≠ "__name__" := by decide) (hd : (x == ("__debug__" : Str)) = false := by decide) : PE X (.Name x pos) (tC (.ty n)) :=
  pe_bltn hg hm hv rfl hn hd
def opMulM (x y : D) (h : MH) (Q : MQ) : Prop := match y with
  | .int k => match lsOf h x with
    | some a => (-(2 ^ 63) ≤ k ∧ k < 2 ^ 63 ∧ a.length * k.toNat ≤ sizeLine) ∧ ∀ p, h p = none → Q (.ref p) (mupd h p (.lst (List.replicate k.toNat a).flatten))
    | none => False
  | _ => False
end
end BP

set_option maxRecDepth 100000
set_option maxHeartbeats 4000000
namespace BP
open PySem PySem.Spec PyProof.Rows L2
theorem exm_of {K : PySem.W.Frag} {C S : Addr} {b : Bool} (h1 : PySem.W.subIn K (.ref S) (.type "BaseException") = some true) (h2 : PySem.W.isClsIn K S = true) (h3 : PySem.W.typeIn K (.ref S) = some (.type "type")) (h4 : PySem.W.subIn K (.ref C) (.ref S) = some b) :
    PySem.W.exmOne K (.ref C) (.ref S) = some b := by
  unfold PySem.W.exmOne PySem.W.kitCls
  have h2' : (PySem.W.clsIn K S).isSome = true := h2
  simp [h1, h2', h3, h4]
def clsBody : Stmt → List Stmt
  | .ClassDef _ _ _ b _ _ _ _ _ _ _ => b
  | _ => []
end BP

set_option maxRecDepth 100000
set_option maxHeartbeats 4000000
namespace BP
open PySem PySem.Spec PyProof.Rows L2 LamX
def LamH (q : Str) (P : Addr) (ps : Array Value) (c' : Addr) (H H1 : Hp) : Prop := (H1 = H ∧ ∃ z : Pos, codeAmong z ps.toList = some (.ref c')) ∨ ∃ more : Array Value, H c' = none ∧ TriplesOk (ps ++ more).toList ∧ (∀ (z : Pos) (cv : Value), codeAmong z (ps ++ more).toList = some cv → codeAmong z ps.toList = some cv ∨ cv = .ref c') ∧
  H1 = upd (upd H P (.tbl (ps ++ more))) c' (CodeO c' q)
section
variable {X : Cx} {pins : List (Addr × Obj)} {σ : L2.St} {H : Hp} {s : Shared}
end
theorem LamH.go {K : PySem.W.Frag} {F H H1 : Hp} {h : MH} {P c' : Addr} {q : Str} {ps : Array Value} (s : SR K F H h) (m : h P = some (.tbl q)) (eP : H P = some (.tbl ps)) (al : ∀ (z : Pos) (cv : Value), codeAmong z ps.toList = some cv → ∃ c, cv = .ref c ∧ F c = some (CodeO c q))
    (x : LamH q P ps c' H H1) : ∃ F1, Go K F H h F1 H1 h ∧ F1 c' = some (CodeO c' q) := by
  rcases x with ⟨rfl, z, hz⟩ | ⟨more, nC, tr, am, rfl⟩
  · obtain ⟨c, e1, e2⟩ := al z _ hz
    cases e1
    exact ⟨F, Go.refl s, e2⟩
  · have nF := s.freeF nC
    have nM := s.freeM nC
    have nP : F P = none := (s.cell P _ m).1
    have hPc : P ≠ c' := ne_of_none eP nC
    refine ⟨upd F c' (CodeO c' q), ⟨same_upd nF, fun a o e f n => ?_, ⟨fun a o e => ?_, fun a c e => ?_⟩⟩, upd_same⟩
    · have ac : a ≠ c' := ne_of_none e nC
      have aP : a ≠ P := fun z => by rw [z, m] at n; cases n
      exact ⟨by rw [upd_ne ac]; exact f, n, by rw [upd_ne ac, upd_ne aP]; exact e⟩
    · by_cases ac : a = c'
      · subst ac; rw [upd_same] at e ⊢; exact e
      · rw [upd_ne ac] at e ⊢
        have aP : a ≠ P := fun z => by rw [z, nP] at e; cases e
        rw [upd_ne aP]; exact s.fr a o e
    · have ac : a ≠ c' := fun z => by rw [z, nM] at e; cases e
      obtain ⟨f, r⟩ := s.cell a c e
      refine ⟨by rw [upd_ne ac]; exact f, ?_⟩
      by_cases aP : a = P
      · subst aP
        rw [m] at e; cases e
        refine ⟨ps ++ more, by rw [upd_ne hPc, upd_same], tr, fun z cv ez => ?_⟩
        rcases am z cv ez with ez | rfl
        · obtain ⟨c, e1, e2⟩ := al z cv ez
          exact ⟨c, e1, by rw [upd_ne (ne_of_none e2 nF)]; exact e2⟩
        · exact ⟨c', rfl, upd_same⟩
      · exact r.mono (same_upd nF) (by rw [upd_ne ac, upd_ne aP])
abbrev LTl := MH → MQ → XQ → Prop
abbrev LSp := LTl → MH → MQ → XQ → Prop
def wAct (i n : Nat) (f : Addr) (tl : LTl) (Es : MSt → XQ) : WE := fun σ h Q => σ[i]? = some (some (.ref f)) ∧ tl h Q (Es (List.replicate n none))
def wLam (P : Addr) (q : Str) (sp : LSp) (Es : MSt → XQ) (t : (MSt → XQ) → WE) : WE := fun σ h Q => h P = some (.tbl q) ∧ sp (fun h' Q' E' => t (fun _ => E') σ h' Q') h Q (Es σ)
section
variable {X : Cx} {B : Bs} {Es : MSt → XQ}
end

structure Tb where
  x : Str
  c : Addr
  P : Addr
  q : Str
def LawOkT (n : Nat) (ts : List Tb) (sp : MSp) : Prop := ∀ (ns : List Int) (h : MH), ns.length ≤ n → (∀ z ∈ ns, Builtin.Int.intBits z ≤ 1048576) → (∀ t ∈ ts, h t.P = some (.tbl t.q)) → sp [.scr ns] h (fun d _ => d = .bl true) (fun _ _ _ => False)
def tbH (ts : List Tb) : MH := fun b => (ts.find? fun t => t.P == b).map fun t => .tbl t.q
theorem tbH_of {ts : List Tb} (nd : (ts.map (·.P)).Nodup) : ∀ t ∈ ts, tbH ts t.P = some (.tbl t.q) := by
  induction ts with
  | nil => intro t h; cases h
  | cons u us ih =>
    intro t h
    rw [List.map_cons, List.nodup_cons] at nd
    rcases List.mem_cons.mp h with rfl | h
    · simp [tbH]
    · have ne : (u.P == t.P) = false := by
        rw [beq_eq_false_iff_ne]
        exact fun z => nd.1 (by rw [z]; exact List.mem_map.mpr ⟨t, h, rfl⟩)
      have := ih nd.2 t h
      unfold tbH at this ⊢
      rw [List.find?_cons, ne]
      exact this
theorem tbH_some {ts : List Tb} {b : Addr} {c : Cell} (e : tbH ts b = some c) : ∃ t ∈ ts, t.P = b ∧ c = .tbl t.q := by
  unfold tbH at e
  rw [Option.map_eq_some_iff] at e
  obtain ⟨t, h1, h2⟩ := e
  exact ⟨t, List.mem_of_find?_eq_some h1, by simpa using List.find?_some h1, h2.symm⟩
def spWT (K : PySem.W.Frag) (n : Nat) (ts : List Tb) : Sp := fun vs H Q _ => ∃ (a : Addr) (ns : List Int), vs = [.ref a] ∧ ns.length ≤ n ∧ (∀ z ∈ ns, Builtin.Int.intBits z ≤ 1048576) ∧ (∀ t ∈ ts, H t.P = some (.tbl #[])) ∧ SqL K H a (ns.map V.int) ∧ ∀ H', Q (.bl true) H'
theorem spWT_lift {K : PySem.W.Frag} {mg : Str → Option Value} {n : Nat} {ts : List Tb} {sp : MSp} (nd : (ts.map (·.P)).Nodup) (hsp : LawOkT n ts sp) {vs : List V} {H : Hp} {Q : VK} {E : XK} (h : spWT K n ts vs H Q E) : liftSp K mg sp vs H Q E := by
  obtain ⟨a, ns, rfl, hl, hb, hT, hS, q⟩ := h
  have nt : ∀ {b : Addr} {c : Cell}, tbH ts b = some c → H b = some (.tbl #[]) := fun {b c} e => by
    obtain ⟨t, h1, rfl, _⟩ := tbH_some e
    exact hT t h1
  refine ⟨fun b => if (tbH ts b).isSome then none else H b, tbH ts, [.scr ns], _, _, .cons (.scr ?_) .nil, ⟨fun b o e => ?_, fun b c e => ⟨by simp [e], ?_⟩⟩, hsp ns _ hl hb (tbH_of nd), fun F' H' h' d v g r e => ?_, fun _ _ _ _ _ _ _ _ _ _ _ _ z => z.elim⟩
  · rcases hS with hS | hS
    · refine .inl ?_
      have ha : ∀ o, H a = some o → (∀ z, o ≠ .tbl z) → (if (tbH ts a).isSome then none else H a) = some o := fun o e n => by
        cases z : tbH ts a with
        | none => simpa using e
        | some c => rw [nt z] at e; cases e; exact (n _ rfl).elim
      rcases hS with hS | ⟨o, hS⟩
      · exact .inl (ha _ hS fun _ z => nomatch z)
      · exact .inr ⟨o, ha _ hS fun _ z => nomatch z⟩
    · exact .inr hS
  · split at e
    · cases e
    · exact e
  · obtain ⟨t, h1, rfl, rfl⟩ := tbH_some e
    exact ⟨#[], hT t h1, trivial, fun pos cv z => by simp [codeAmong] at z⟩
  · subst e
    cases r
    exact q H'
theorem law_run {P : Program} {w : World} {K : PySem.W.Frag} {mg mb : Str → Option Value} {k n : Nat} {fa a : Addr} {ts : List Tb} {fd : FuncData} {x : Str} {sp : MSp} {S : Shared} {vs : List Value} {ns : List Int}
    (KX : K.In S.heap) (nsG : S.heap.Ns mainGlobals mg) (nsB : S.heap.Ns builtinsNs mb) (bb : ∀ x : Str, x ≠ "__name__" → mb x = bootBuiltins x) (lim : S.heap.NoLimit) (gens : S.gens = #[]) (nd : (ts.map (·.P)).Nodup)
    (tab : ∀ t ∈ ts, PySem.W.CodeHd S.heap t.c t.P ∧ S.heap.get? t.P = some { cls := .none, data := .fields #[] } ∧ K.lookup t.P = none)
    (bm : ∃ (bm : Addr) (ob : Obj), mg "__builtins__" = some (.ref bm) ∧ bm ≠ builtinsNs ∧ S.heap.get? bm = some ob ∧ ob.cls = .type "module" ∧ ob.dict = some builtinsNs ∧ ob.data = .plain)
    (oa : S.heap.get? a = some { cls := .type "list", data := .seq vs.toArray }) (hi : IntsAre vs ns) (hl : ns.length ≤ n) (hz : n ≤ sizeLine) (hbits : ∀ z ∈ ns, Builtin.Int.intBits z ≤ 1048576) (hr : Room k callerA)
    (F : ∀ base : Heap, K.In base → base.Ns mainGlobals mg → (∀ t ∈ ts, TabB base mg t.c t.P) → FnM P w K mg base k fa fd [x] sp) (bnd : ∀ (s : Shared) (u : Value), BindsTo s fd ⟨[u], []⟩ [(x, u)]) (law : LawOkT n ts sp) :
    codeAny (model P w) callerA (.call (.ref fa) ⟨[.ref a], []⟩) (fun r s' => r = .ok (.ret (.bool true)) ∧ OldK S.heap s'.heap ∧ s'.os = S.os ∧ AllBare s'.gens) S := by
  have rv := vals_ints hi
  have lv := hi.length
  have isP : ∀ b, b ∈ ts.map (·.P) → ∃ t ∈ ts, t.P = b := fun b hb => by obtain ⟨t, h1, h2⟩ := List.mem_map.mp hb; exact ⟨t, h1, h2⟩
  have atP : ∀ b, b ∈ ts.map (·.P) → S.heap.get? b = some { cls := .none, data := .fields #[] } := fun b hb => by obtain ⟨t, h1, rfl⟩ := isP b hb; exact (tab t h1).2.1
  have naP : a ∉ ts.map (·.P) := fun z => by
    have q := atP a z
    rw [oa] at q
    cases congrArg Obj.cls (Option.some.inj q)
  -- the abstract heap
  generalize eH : (fun b => if b ∈ ts.map (·.P) then some (HO.tbl #[]) else if b = a ∧ K.lookup a = none then some (HO.frz { cls := .type "list", data := .seq vs.toArray } (.lst (ns.map V.int))) else none : Hp) = H
  have H1 : ∀ b, b ∈ ts.map (·.P) → H b = some (.tbl #[]) := fun b hb => by rw [← eH]; exact if_pos hb
  have H2 : K.lookup a = none → H a = some (.frz { cls := .type "list", data := .seq vs.toArray } (.lst (ns.map V.int))) := fun hk => by rw [← eH]; show (if _ then _ else _) = _; rw [if_neg naP, if_pos ⟨rfl, hk⟩]
  have H3 : ∀ b u, H b = some u → (b ∈ ts.map (·.P) ∧ u = .tbl #[]) ∨ (b = a ∧ K.lookup a = none ∧ u = .frz { cls := .type "list", data := .seq vs.toArray } (.lst (ns.map V.int))) := fun b u e => by
    rw [← eH] at e
    change (if _ then _ else _) = _ at e
    by_cases hb : b ∈ ts.map (·.P)
    · rw [if_pos hb] at e; cases e; exact .inl ⟨hb, rfl⟩
    · rw [if_neg hb] at e
      by_cases ha : b = a ∧ K.lookup a = none
      · rw [if_pos ha] at e; cases e; exact .inr ⟨ha.1, ha.2, rfl⟩
      · rw [if_neg ha] at e; cases e
  have hok : HOk P w H S.heap := fun b u e => by
    rcases H3 b u e with ⟨h1, rfl⟩ | ⟨rfl, _, rfl⟩
    · exact atP b h1
    · exact ⟨oa, by rw [List.length_map]; exact Nat.le_trans hl hz, vs, _, rv, oa⟩
  have sq : SqL K H a (ns.map V.int) := by
    cases hk : K.lookup a with
    | none => exact .inl (.inr ⟨_, H2 hk⟩)
    | some o =>
      have e := KX a o hk
      rw [oa] at e; cases e
      exact .inr ⟨_, vs.toArray, _, hk, rfl, rfl, rfl, by rw [List.size_toArray, lv]; exact Nat.le_trans hl hz, by simpa using rv⟩
  -- what is not told stands in the ground
  have gr : ∀ {b : Addr} {o : Obj}, S.heap.get? b = some o → H b = none → (hidT S.heap H).get? b = some o := fun e m => hidT_get e m
  have out : ∀ {b : Addr} {o : Obj}, S.heap.get? b = some o → (∀ vs m, o.data ≠ .seq vs m) → o.data ≠ .fields #[] → H b = none := fun {b o} e h1 h2 => by
    cases q : H b with
    | none => rfl
    | some u =>
      rcases H3 b u q with ⟨z, _⟩ | ⟨rfl, _, _⟩
      · rw [atP b z] at e; cases e; exact (h2 rfl).elim
      · rw [oa] at e; cases e; exact (h1 _ _ rfl).elim
  have nsD : ∀ {b : Addr} {m : Str → Option Value}, S.heap.Ns b m → (hidT S.heap H).Ns b m := fun {b m} ⟨o, es, ep, e, d, r⟩ => ⟨o, es, ep, gr e (out e (fun _ _ z => by rw [d] at z; cases z) fun z => by rw [d] at z; cases z), d, r⟩
  have kin : K.In (hidT S.heap H) := fun b o e => gr (KX b o e) (by
    cases q : H b with
    | none => rfl
    | some u =>
      rcases H3 b u q with ⟨z, _⟩ | ⟨rfl, z, _⟩
      · obtain ⟨t, h1, rfl⟩ := isP b z
        rw [(tab t h1).2.2] at e; cases e
      · rw [z] at e; cases e)
  have md : L2.Mod K mg (hidT S.heap H) := ⟨kin, nsD nsG, ⟨mb, nsD nsB, bb⟩, by obtain ⟨mc, h1, h2⟩ := lim; exact ⟨mc, nsD h1, h2⟩⟩
  have TB : ∀ t ∈ ts, TabB (hidT S.heap H) mg t.c t.P := fun t ht => by
    obtain ⟨C, oP, nK⟩ := tab t ht
    refine ⟨?_, ?_, fun z => ?_⟩
    · obtain ⟨o, us, file, tf, flags, tg, inF, text, tt, e1, r1, r2, r3, r⟩ := C
      exact ⟨o, us, file, tf, flags, tg, inF, text, tt, gr e1 (out e1 (fun _ _ z => by rw [r2] at z; cases z) fun z => by rw [r2] at z; cases z; simp at r3), r1, r2, r3, r⟩
    · obtain ⟨bm, ob, b1, b2, b3, b4, b5, b6⟩ := bm
      refine ⟨bm, ob, b1, b2, fun q => ?_, fun q => ?_, gr b3 (out b3 (fun _ _ z => by rw [b6] at z; cases z) fun z => by rw [b6] at z; cases z), b4, b5, b6⟩
      · obtain ⟨o, es, ep, e, hd, _⟩ := nsG
        rw [q, e] at b3; cases b3
        rw [hd] at b6; cases b6
      · rw [q, oP] at b3; cases b3; cases b6
    · obtain ⟨o, es, ep, e, hd, _⟩ := nsG
      rw [z, oP] at e; cases e; cases hd
  have e0 : Env0 P w K mg (hidT S.heap H) callerA [] S H := ⟨rfl, md, fun b o e => of_hidT e, Nat.le_of_eq (hidT_size _ _), trivial, fun b hb => absurd (show b ∈ ([] : List Addr) from hb) (by simp), hok, .of_eq gens⟩
  have want : spWT K n ts [.ref a] H (fun v _ => v = .bl true) (fun _ _ _ => False) := ⟨a, ns, rfl, hl, hbits, fun t ht => H1 _ (List.mem_map.mpr ⟨t, ht, rfl⟩), sq, fun _ => rfl⟩
  refine codeAny_mono ((F _ kin (nsD nsG) TB).run callerA [] S H ⟨[.ref a], []⟩ [.ref a] [.ref a] _ _ ⟨hr, rfl⟩ e0 (bnd S (.ref a)) (.cons rfl .nil) (spWT_lift nd law want)) fun r s' res => ?_
  cases r with
  | error e =>
    obtain ⟨_, _, _, _, _, _, _, _, _, _, _, _, z⟩ := (show L2.CX P w [] H S (fun _ _ _ => False) e s' from res)
    exact z.elim
  | ok fl =>
    cases fl with
    | ret u =>
      obtain ⟨v, H', os, bare, un, hok', rl, rfl⟩ := res
      obtain rfl : u = Value.bool true := rl
      have stay : ∀ b o, b ∉ ts.map (·.P) → S.heap.get? b = some o → s'.heap.get? b = some o := fun b o nb e => by
        cases q : H b with
        | none => exact un.keep b o e q (fun z => absurd (show b ∈ ([] : List Addr) from z) (by simp)) (by simp)
        | some u =>
          rcases H3 b u q with ⟨z, _⟩ | ⟨rfl, _, rfl⟩
          · exact (nb z).elim
          · obtain ⟨e2, _⟩ := hok' b _ (un.frzs b _ _ q)
            rw [oa] at e; cases e; exact e2
      have grow : ∀ b, b ∈ ts.map (·.P) → ∃ more : Array Value, s'.heap.get? b = some { cls := .none, data := .fields more } := fun b hb => by
        obtain ⟨more, z⟩ := un.tbls b #[] (H1 b hb)
        exact ⟨_, hok' b _ z⟩
      refine ⟨rfl, ⟨fun b o e => ?_, fun b o e => ?_⟩, os, bare⟩
      · by_cases hb : b ∈ ts.map (·.P)
        · obtain ⟨t, h1, rfl⟩ := isP b hb
          obtain ⟨more, hm⟩ := grow _ hb
          rw [(tab t h1).2.1] at e; cases e
          exact .inr (.inl ⟨((tab t h1).1.tab (tab t h1).2.1).isCodeTable, rfl, #[], more, rfl, by rw [Array.empty_append]; exact hm⟩)
        · exact .inl (stay b o hb e)
      · by_cases hb : b ∈ ts.map (·.P)
        · obtain ⟨more, hm⟩ := grow b hb
          exact ⟨_, hm⟩
        · exact ⟨o, stay b o hb e⟩
    | _ => exact False.elim res
end BP

set_option maxRecDepth 100000
set_option maxHeartbeats 4000000
namespace BP
open PySem PySem.Spec PyProof.Rows L2
section
variable {X : Cx} {B : Bs} {a b c e o : Expr} {ta tb tc to : WE} {pos p : Pos} {wa : WA} {es : List Expr}
def toPx (h : MH) (d : D) : Option PyData := match d with
  | .dct [] => some (.dict [])
  | d => match lsOf h d with
    | some a => toP (.lst a)
    | none => toP d
theorem cr_repr (hg : X.A.guards = some []) (hu : X.A.units + 100 < cLine) : CallR X (.builtin "repr") (fun vs H Q => ∃ v p, vs = [v] ∧ (Dp X.K H v p ∨ (p = .dict [] ∧ ∃ a, v = .ref a ∧ H a = some (.dK []))) ∧ p.showable = true ∧ p.shown.length ≤ sizeLine ∧ p.depth ≤ 64 ∧ Q (.str p.shown) H) := by
  intro pins s σ H xs us Q I r h
  obtain ⟨v, p, rfl, hv, sh, sz, dp, q⟩ := h
  obtain ⟨u, rfl, ru⟩ := vals1 r
  have big : ∀ {a : Addr} {as : List Addr}, Reads s.heap (.ref a) p as → (p.hasDict = true → sysModules ∉ as) → wpAny (model X.prog X.w) X.A (call (.builtin "repr") [.ref a]) (EP X pins σ Q) X.xe s := fun {a as} rd nd =>
    repr_of_reads' rd sh nd hg (by omega) (fun _ _ e => e) (fun h' u tk kp => ⟨.str _, H, I.kept kp, ⟨u, rfl⟩, q⟩) sz
  rcases hv with hv | ⟨rfl, a, rfl, ha⟩
  · have rd := Dp.reads I p v u hv ru
    cases hv with
    | non =>
      obtain rfl : u = Value.none := ru
      exact PySem.P.repr_of_none ⟨.str _, H, I.tok _, ⟨_, rfl⟩, q⟩
    | bl b =>
      obtain rfl : u = Value.bool b := ru
      exact PySem.P.repr_of_bool ⟨.str _, H, I.tok _, ⟨_, rfl⟩, by cases b <;> exact q⟩
    | int i =>
      obtain ⟨t, rfl⟩ := ru
      exact PySem.P.repr_of_int (by simpa [PyData.showable] using sh) ⟨.str _, H, I.tok _, ⟨_, rfl⟩, q⟩
    | str x =>
      obtain ⟨t, rfl⟩ := ru
      exact PySem.P.repr_of_str ⟨.str _, H, I.tok _, ⟨_, rfl⟩, q⟩ sz
    | lst h1 h2 =>
      cases ru
      obtain ⟨as, rd⟩ := rd
      have nd : ∀ {v : V} {p : PyData}, Dp X.K H v p → p.hasDict = false := by
        intro v p hp
        refine Dp.rec (motive_1 := fun _ p _ => p.hasDict = false) (motive_2 := fun _ ps _ => PyData.hasDictAll ps = false) ?_ ?_ ?_ ?_ ?_ ?_ ?_ ?_ hp
        all_goals intros
        all_goals simp_all [PyData.hasDict, PyData.hasDictAll]
      exact big rd fun z => by rw [nd (.lst h1 h2)] at z; cases z
    | tup h1 h2 =>
      cases ru
      obtain ⟨as, rd⟩ := rd
      have nd : ∀ {v : V} {p : PyData}, Dp X.K H v p → p.hasDict = false := by
        intro v p hp
        refine Dp.rec (motive_1 := fun _ p _ => p.hasDict = false) (motive_2 := fun _ ps _ => PyData.hasDictAll ps = false) ?_ ?_ ?_ ?_ ?_ ?_ ?_ ?_ hp
        all_goals intros
        all_goals simp_all [PyData.hasDict, PyData.hasDictAll]
      exact big rd fun z => by rw [nd (.tup h1 h2)] at z; cases z
  · cases ru
    obtain ⟨_, hs, vs, kv, o, es, ep, e1, e2, e3, e4, e5, e6⟩ := dk_of I.hok ha
    cases kv
    have ee : es.toList = [] := by
      cases q : es.toList with
      | nil => rfl
      | cons x xs => rw [q] at e5; cases e5
    have rd : Reads s.heap (.ref a) (.dict []) (a :: [] ++ []) := .dict e1 e2.1 e3 (by rw [ee]; exact .nil) (by rw [ee]; exact .nil)
    exact big rd fun _ z => by
      have : sysModules = a := by simpa using z
      rw [← this] at hs
      simp at hs
def fRepr (ds : List D) (h : MH) (Q : MQ) : Prop := match ds with
  | [d] => match toPx h d with
    | some p => (p.showable = true ∧ p.shown.length ≤ sizeLine ∧ p.depth ≤ 64) ∧ Q (.str p.shown) h
    | none => False
  | _ => False
theorem m_repr (hgd : X.A.guards = some []) (hu : X.A.units + 100 < cLine) (hm : X.mg "repr" = none) (ha : MA X B (e :: es) wa) (hg : Gl X "repr" := by rfl) (he : starEach (e :: es) X.env = (false, eval e X.env) :: starEach es X.env := by rfl) (hpl : (backTo pos (starEach es X.env)).any (·.1) = false := by rfl) :
    ME X B (.Call (.Name "repr" p) (e :: es) [] pos) (wCB fRepr wa) := m_callB (cr_repr hgd hu) (fun F H h ds vs Q' Q s rs t c => by
      unfold fRepr at t
      split at t
      · rename_i d
        obtain ⟨v, rfl, r⟩ := rds_one rs
        split at t
        · rename_i p ep
          obtain ⟨⟨h1, h2, h3⟩, q⟩ := t
          refine ⟨v, p, rfl, ?_, h1, h2, h3, c.same s (.str _) q⟩
          unfold toPx at ep
          split at ep
          · cases ep
            cases r with
            | dct hF rk => cases rk; exact .inr ⟨rfl, _, rfl, s.fr _ _ hF⟩
          · split at ep
            · rename_i xs ex
              obtain ⟨q, ys, rfl, hq, r2⟩ := ls_rd s r ex
              simp only [toP, Option.map_eq_some_iff] at ep
              obtain ⟨ps, hps, rfl⟩ := ep
              exact .inl (.lst (SqL.of hq) (RDs.dp s.fr r2 hps))
            · exact .inl (r.dp s.fr ep)
        · exact t.elim
      · exact t.elim) hm (by decide +kernel) ha hg (by decide) (by decide) he hpl
def fAbs (ds : List D) (h : MH) (Q : MQ) : Prop := match ds with
  | [.int i] => Q (.int (if i < 0 then -i else i)) h
  | _ => False
def unBits (x : D) (h : MH) (Q : MQ) : Prop := match x with
  | .int i => Q (.int (Builtin.Int.intBits i : Nat)) h
  | _ => False
def stepD (lo c : Int) (n : Nat) : List D := (List.range n).map fun i => .int (lo + (i : Nat) * c)
theorem walkD_step {K : PySem.W.Frag} {F : Hp} {lo c : Int} {n : Nat} : WalkD K (Itc lo c n) F (stepD lo c n) where
  goes := fun i H hi sm => by unfold stepD at hi; rw [List.length_map, List.length_range] at hi; exact hi
  stops := fun H sm => by unfold stepD; rw [List.length_map, List.length_range]; exact Nat.le_refl _
  yields := fun i d H x H' hd sm ⟨e, y⟩ F1 h s1 sr => by
    subst e y
    unfold stepD at hd
    rw [List.getElem?_map] at hd
    have hi : i < n := by
      cases q : (List.range n)[i]? with
      | none => rw [q] at hd; cases hd
      | some j => simpa using (List.getElem?_eq_some_iff.mp q).1
    rw [List.getElem?_range hi] at hd
    simp only [Option.map_some, Option.some.injEq] at hd
    subst hd
    exact ⟨F1, Go.refl sr, .int _⟩
def wRange3 (t : WA) : WI := fun σ h Q => t σ h fun ds h1 => match ds with
  | [.int i, .int j, .int c] => ∃ n, RgC i j c n ∧ Q (stepD i c n) h1
  | _ => False
theorem mi_range3 {tg : Expr} (hm : X.mg "range" = none) (ha : MA X B [a, b, c] wa) (hg : Gl X "range" := by rfl) (hs : starEach [a, b, c] X.env = (false, eval a X.env) :: starEach [b, c] X.env := by rfl) (hpl : (backTo pos (starEach [b, c] X.env)).any (·.1) = false := by rfl) :
    MI X B tg (.Call (.Name "range" p) [a, b, c] [] pos) (wRange3 wa) := pi_mono (pi_range3 hg hm ha hs hpl) fun σ H R ⟨F, h, σd, Q', l, s, t, c⟩ => ⟨F, h, σd, _, l, s, t, fun F1 H1 h1 ds vs g1 rs t1 => by
  split at t1
  · obtain ⟨n, hc, q⟩ := t1
    cases rs with
    | cons r1 rs =>
      obtain ⟨v, w, rfl, r2, r3⟩ := rds_two rs
      cases r1; cases r2; cases r3
      exact ⟨_, _, _, n, rfl, hc, c F1 H1 h1 _ _ g1 walkD_step q⟩
  · exact t1.elim⟩
def flatD : D → Bool
  | .non => true
  | .bl _ => true
  | .int _ => true
  | .str _ => true
  | _ => false
def opIn (neg : Bool) (x y : D) (h : MH) (Q : MQ) : Prop := match sqOf h y with
  | some xs => ((flatD x = true ∧ xs.all flatD = true) ∨ (lsOf h x = none ∧ lsOf h y = some xs ∧ fit 64 x = true ∧ fit 64 (.lst xs) = true)) ∧ Q (.bl (if neg then !xs.any (fun z => eqv z x) else xs.any (fun z => eqv z x))) h
  | none => False
def unRev (x : D) (h : MH) (Q : MQ) : Prop := match lsOf h x with
  | some xs => Q (.lst xs.reverse) h
  | none => False
theorem RDs.rev {K : PySem.W.Frag} {F : Hp} : ∀ {ds : List D} {vs : List V}, RDs K F ds vs → RDs K F ds.reverse vs.reverse
  | _, _, .nil => .nil
  | _, _, .cons q r => by rw [List.reverse_cons, List.reverse_cons]; exact (RDs.rev r).append (.cons q .nil)
def zipD (xs ys : List D) : List D := (xs.zip ys).map fun z => .tup [z.1, z.2]
def wZip (t : WA) : WI := fun σ h Q => t σ h fun ds h1 => match ds with
  | [.tup xs, .tup ys] => Q (zipD xs ys) h1
  | [.lst xs, .lst ys] => Q (zipD xs ys) h1
  | _ => False
structure XIs (K : PySem.W.Frag) (C : Addr) : Prop where
  ha : PySem.W.findIn K (.ref C) "__class__" = some (some (.builtin "object.__class__"))
  hn : PySem.W.specialIn K (.builtin "object.__class__") "__get__" = some (some (.builtin "getset_descriptor.__get__"))
  ht : PySem.W.takesIn K (.builtin "object.__class__") = some true
  hm : PySem.W.mroIn K C (.type "object") = some true
def wXis (n0 : String) (a dd : Addr) (n : Str) (r : Bool) (te : WE) : WE := fun σ h Q => n = Str.ofString n0 ∧ te σ h fun x h1 => match x with
  | .exc a' dd' _ _ => a' = a ∧ dd' = dd ∧ Q (.bl r) h1
  | _ => False
end
theorem tab_in {K : PySem.W.Frag} {x : Str} {f c P : Addr} {oc ccl : Value} {od cdd : Option Addr} {fd : FuncData} {sl ccs : Array (Option Value)} {vs : Array Value} (h1 : PySem.W.nsIn K mainGlobals x = some (some (.ref f))) (h2 : K.lookup f = some ⟨oc, od, .func fd, sl⟩) (h3 : fd.code = .ref c) (h4 : K.lookup c = some ⟨ccl, cdd, .fields vs, ccs⟩)
    (h5 : vs[11]? = some (.ref P)) : PySem.W.tabIn K x = some (c, P) := by
  unfold PySem.W.tabIn
  simp [h1, h2, h3, h4, h5]
section
variable {X : Cx} {B : Bs} {a b : Expr} {pos : Pos}
end
end BP

set_option maxRecDepth 100000
set_option maxHeartbeats 400000
namespace BP
open PySem PySem.Spec PyProof.Rows L2
section
variable {σ : MSt} {h : MH} {Q : MQ} {D0 : MEnds} {ta tb tc : WE} {ua ub : WT} {wa : WA} {t u : WS} {i j : Nat} {d : D} {f g : D → D → MH → MQ → Prop} {v w : Option D}
@[simp] theorem r_seq : wSeq t u D0 σ h = t { D0 with nx := u D0 } σ h := (rfl)
@[simp] theorem r_next : wNext D0 σ h = D0.nx σ h := (rfl)
@[simp] theorem r_ret : wRet ta D0 σ h = ta σ h D0.rt := (rfl)
@[simp] theorem r_retN : wRetN D0 σ h = D0.rt .non h := (rfl)
@[simp] theorem r_brk : wBreak D0 σ h = D0.bk σ h := (rfl)
@[simp] theorem r_cont : wCont D0 σ h = D0.ct σ h := (rfl)
@[simp] theorem r_drop : wDrop ta D0 σ h = ta σ h fun _ h1 => D0.nx σ h1 := (rfl)
@[simp] theorem r_set : wSet i ta D0 σ h = ta σ h fun d h1 => D0.nx (σ.set i (some d)) h1 := (rfl)
@[simp] theorem r_ifS : wIfS ua t u D0 σ h = ua σ h fun b h1 => if b = true then t D0 σ h1 else u D0 σ h1 := (rfl)
@[simp] theorem r_asg {gg : WG} : wAsg ta gg D0 σ h = ta σ h fun d h1 => gg d σ h1 D0.nx := (rfl)
@[simp] theorem r_par : wPar i j wa D0 σ h = wa σ h fun ds h1 => match ds with
  | [d, e] => D0.nx ((σ.set i (some d)).set j (some e)) h1
  | _ => False := (rfl)
@[simp] theorem r_for {wi : WI} {gg : WG} : wFor wi gg t D0 σ h = wi σ h fun ds h1 => wLoop gg t ds D0 σ h1 := (rfl)
@[simp] theorem r_var : wVar i σ h Q = match σ[i]? with
  | some (some d) => Q d h
  | _ => False := (rfl)
@[simp] theorem r_c : wC d σ h Q = Q d h := (rfl)
@[simp] theorem r_op : wOp f ta tb σ h Q = ta σ h fun x h1 => tb σ h1 fun y h2 => f x y h2 Q := (rfl)
@[simp] theorem r_un {k : D → MH → MQ → Prop} : wUn k ta σ h Q = ta σ h fun x h1 => k x h1 Q := (rfl)
@[simp] theorem r_test {P : Bool → MH → Prop} : wTest ta σ h P = ta σ h fun x h1 => match x with
  | .bl b => P b h1
  | _ => False := (rfl)
@[simp] theorem r_truth {P : Bool → MH → Prop} : wTruth ta σ h P = ta σ h fun x h1 => match truth h1 x with
  | some b => P b h1
  | none => False := (rfl)
@[simp] theorem r_and {P : Bool → MH → Prop} : wAnd ua ub σ h P = ua σ h fun b h1 => if b = true then ub σ h1 P else P false h1 := (rfl)
@[simp] theorem r_or {P : Bool → MH → Prop} : wOr ua ub σ h P = ua σ h fun b h1 => if b = true then P true h1 else ub σ h1 P := (rfl)
@[simp] theorem r_not {P : Bool → MH → Prop} : wNot ua σ h P = ua σ h fun b h1 => P (!b) h1 := (rfl)
@[simp] theorem r_andV : wAndV ta tb σ h Q = ta σ h fun x h1 => match truth h1 x with
  | some true => tb σ h1 Q
  | some false => Q x h1
  | none => False := (rfl)
@[simp] theorem r_orV : wOrV ta tb σ h Q = ta σ h fun x h1 => match truth h1 x with
  | some true => Q x h1
  | some false => tb σ h1 Q
  | none => False := (rfl)
@[simp] theorem r_notV : wNotV ta σ h Q = ta σ h fun x h1 => match truth h1 x with
  | some b => Q (.bl (!b)) h1
  | none => False := (rfl)
@[simp] theorem r_if : wIf ua ta tb σ h Q = ua σ h fun k h1 => if k = true then ta σ h1 Q else tb σ h1 Q := (rfl)
@[simp] theorem r_chain : wChain f g ta tb tc σ h Q = ta σ h fun x h1 => tb σ h1 fun y h2 => f x y h2 fun z h3 => match z with
  | .bl true => tc σ h3 fun w h4 => g y w h4 Q
  | .bl false => Q (.bl false) h3
  | _ => False := (rfl)
@[simp] theorem r_nil {P : List D → MH → Prop} : wNil σ h P = P [] h := (rfl)
@[simp] theorem r_cons {P : List D → MH → Prop} : wCons ta wa σ h P = ta σ h fun d h1 => wa σ h1 fun ds h2 => P (d :: ds) h2 := (rfl)
@[simp] theorem r_tup : wTup wa σ h Q = wa σ h fun ds h1 => ds.length ≤ sizeLine ∧ Q (.tup ds) h1 := (rfl)
@[simp] theorem r_lst : wLst wa σ h Q = wa σ h fun ds h1 => ds.length ≤ sizeLine ∧ Q (.lst ds) h1 := (rfl)
@[simp] theorem r_lstM : wLstM wa σ h Q = wa σ h fun ds h1 => ds.length ≤ sizeLine ∧ ∀ p, h1 p = none → Q (.ref p) (mupd h1 p (.lst ds)) := (rfl)
@[simp] theorem r_cb {k : List D → MH → MQ → Prop} : wCB k wa σ h Q = wa σ h fun ds h1 => k ds h1 Q := (rfl)
@[simp] theorem r_call {sp : MSp} {Es : MSt → XQ} : wCall sp Es wa σ h Q = wa σ h fun ds h1 => sp ds h1 Q (Es σ) := (rfl)
@[simp] theorem r_callK {sp : MSp} {Es : MSt → XQ} {n : Nat} {gg : {α : Type} → List α → List α} : wCallK sp Es n gg wa σ h Q = wa σ h fun ds h1 => ds.length = n ∧ sp (gg ds) h1 Q (Es σ) := (rfl)
@[simp] theorem r_mt {k : D → List D → MH → MQ → Prop} : wMt k ta wa σ h Q = ta σ h fun x h1 => (lsOf h1 x).isSome = true ∧ wa σ h1 fun ds h2 => k x ds h2 Q := (rfl)
@[simp] theorem r_sl {tl th : WO} : wSl ta tl th σ h Q = ta σ h fun x h1 => tl σ h1 fun lo h2 => th σ h2 fun hi h3 => opSl x lo hi h3 Q := (rfl)
@[simp] theorem r_no {P : Option Int → MH → Prop} : wNo σ h P = P none h := (rfl)
@[simp] theorem r_part {P : Option Int → MH → Prop} : wPart ta σ h P = ta σ h fun x h1 => match x with
  | .int i => P (some i) h1
  | _ => False := (rfl)
@[simp] theorem r_it {P : List D → MH → Prop} : wIt ta σ h P = ta σ h fun d h1 => match rowF d with
  | some ds => P ds h1
  | none => False := (rfl)
@[simp] theorem r_enum {P : List D → MH → Prop} {k0 : Int} : wEnum k0 ta σ h P = ta σ h fun d h1 => match rowF d with
  | some ds => P (enumD k0 ds) h1
  | none => False := (rfl)
@[simp] theorem r_range1 {P : List D → MH → Prop} : wRange1 ta σ h P = ta σ h fun d h1 => match d with
  | .int j => okR j ∧ P (rangeD 0 j.toNat) h1
  | _ => False := (rfl)
@[simp] theorem r_range2 {P : List D → MH → Prop} : wRange2 ta tb σ h P = ta σ h fun d h1 => tb σ h1 fun e h2 => match d, e with
  | .int i, .int j => okR i ∧ okR j ∧ P (rangeD i (j - i).toNat) h2
  | _, _ => False := (rfl)
@[simp] theorem r_lc {wi : WI} {put : MSt → D → Option MSt} {vs : List Nat} : wLc wi put ua ta vs σ h Q = wi σ h fun ds h1 => wLcGo put ua ta (mwipe σ vs) ds [] h1 fun acc h2 => Q (.lst acc) h2 := (rfl)
@[simp] theorem r_yes {P : Bool → MH → Prop} : wYes σ h P = P true h := (rfl)
@[simp] theorem r_fz : wFz i t D0 σ h = match σ[i]? with
  | some (some (.ref a)) => match h a with
    | some (.lst ds) => t D0 (σ.set i (some (.lst ds))) (mdel h a)
    | _ => False
  | some (some (.lst _)) => t D0 σ h
  | _ => False := (rfl)
@[simp] theorem r_gZ {P : MSt → MH → Prop} : gZ [] σ h P = P σ h := (rfl)
@[simp] theorem r_gC {P : MSt → MH → Prop} {g1 : WG} {gs : WGs} {ds : List D} : gC g1 gs (d :: ds) σ h P = g1 d σ h fun σ1 h1 => gs ds σ1 h1 P := (rfl)
@[simp] theorem r_raise {Es : MSt → XQ} {n : String} {fs : List Str} : wRaise Es n fs wa D0 σ h = wa σ h fun ds h1 => ds.length = fs.length ∧ ds.length ≤ 1000 ∧ Es σ n (fs.zip ds) h1 := (rfl)
@[simp] theorem r_gN {P : MSt → MH → Prop} : gN i d σ h P = P (σ.set i (some d)) h := (rfl)
@[simp] theorem r_gSt {P : MSt → MH → Prop} : gSt ta tb d σ h P = ta σ h fun o h1 => tb σ h1 fun i h2 => match o, i with
  | .ref a, .int k => match h2 a with
    | some (.lst xs) => match ixN xs.length k with
      | some j => P σ (mupd h2 a (.lst (xs.set j d)))
      | none => False
    | _ => False
  | _, _ => False := (rfl)
@[simp] theorem r_gT {P : MSt → MH → Prop} {n : Nat} {gs : WGs} : gT n gs d σ h P = match d with
  | .tup ds => ds.length = n ∧ gs ds σ h P
  | _ => False := (rfl)
@[simp] theorem o_int {C : Int → Int → Prop} {k : Int → Int → Int} {x y : Int} : opI2 C k (.int x) (.int y) h Q = (C x y ∧ Q (.int (k x y)) h) := (rfl)
@[simp] theorem o_cmp {k : Int → Int → Bool} {x y : Int} : opB2 k (.int x) (.int y) h Q = Q (.bl (k x y)) h := (rfl)
@[simp] theorem o_add {x y : Int} : opAdd (.int x) (.int y) h Q = Q (.int (x + y)) h := (rfl)
@[simp] theorem o_sub {x y : Int} : opSub (.int x) (.int y) h Q = Q (.int (x - y)) h := (rfl)
@[simp] theorem o_mul {x y : Int} : opMul (.int x) (.int y) h Q = (mulOk x y ∧ Q (.int (x * y)) h) := (rfl)
@[simp] theorem o_eq {x y : Int} {n : Bool} : opEq n (.int x) (.int y) h Q = Q (.bl (if n then !(x == y) else x == y)) h := (rfl)
@[simp] theorem o_fint {x : Int} : fInt [.int x] h Q = Q (.int x) h := (rfl)
@[simp] theorem o_fintb {x : Bool} : fInt [.bl x] h Q = Q (.int (if x then 1 else 0)) h := (rfl)
@[simp] theorem o_neg {x : Int} : unNeg (.int x) h Q = Q (.int (-x)) h := (rfl)
@[simp] theorem o_isN {x : D} {n : Bool} : opIsN n x .non h Q = Q (.bl (if n then !(match x with | .non => true | _ => false) else (match x with | .non => true | _ => false))) h := by
  cases n <;> cases x <;> rfl
end
@[simp] theorem r_try {known : String → Bool} {Es : MSt → XQ} {tb : (MSt → XQ) → WS} {l : List MCl} {D0 : MEnds} {σ : MSt} {h : MH} : wTry known Es tb l D0 σ h = tb (wHd known Es D0 l) D0 σ h := (rfl)
@[simp] theorem r_xf {n0 : String} {a dd : Addr} {n f : Str} {te : WE} {σ : MSt} {h : MH} {Q : MQ} : wXf n0 a dd n f te σ h Q = (n = Str.ofString n0 ∧ te σ h fun x h1 => match x with
  | .exc a' dd' _ fs => a' = a ∧ dd' = dd ∧ (match fs.lookup f with | some v => Q v h1 | none => False)
  | _ => False) := (rfl)
@[simp] theorem r_hd {known : String → Bool} {Es : MSt → XQ} {D0 : MEnds} {c : Value} {o : Option Nat} {is : String → Bool} {rd : Addr → Addr → String → WS} {r : List MCl} {σ : MSt} {n : String} {fs : List (Str × D)} {h : MH} :
    wHd known Es D0 (⟨c, o, is, rd⟩ :: r) σ n fs h = (known n = true ∧ if is n = true then ∀ a dd, rd a dd n (moffE o D0) (mputE o (.exc a dd n fs) σ) h else wHd known Es D0 r σ n fs h) := (rfl)
@[simp] theorem r_hd0 {known : String → Bool} {Es : MSt → XQ} {D0 : MEnds} {σ : MSt} {n : String} {fs : List (Str × D)} {h : MH} : wHd known Es D0 [] σ n fs h = Es σ n fs h := (rfl)
theorem wLoop_inv {g : WG} {tb : WS} {D0 : MEnds} : ∀ {ds : List D} (I : Nat → MSt → MH → Prop) {σ : MSt} {h : MH}, I 0 σ h →
    (∀ (i : Nat) (d : D) (σ : MSt) (h : MH) (K : MSt → MH → Prop), ds[i]? = some d → I i σ h → (∀ σ' h', I (i + 1) σ' h' → K σ' h') → g d σ h fun σ2 h2 => tb { nx := K, ct := K, bk := D0.nx, rt := D0.rt } σ2 h2) →
    (∀ σ h, I ds.length σ h → D0.nx σ h) → wLoop g tb ds D0 σ h
  | [], I, σ, h, h0, _, hd => hd σ h h0
  | d :: ds, I, σ, h, h0, hs, hd => hs 0 d σ h _ rfl h0 fun σ' h' h1 => wLoop_inv (fun i => I (i + 1)) h1 (fun i d σ h K e => hs (i + 1) d σ h K (by simpa using e)) (fun σ h => hd σ h)
theorem wLcGo_inv {put : MSt → D → Option MSt} {tt : WT} {te : WE} {σ : MSt} {Q : List D → MH → Prop} : ∀ {ds acc : List D} (I : Nat → List D → MH → Prop) {h : MH}, I 0 acc h →
    (∀ (i : Nat) (d : D) (acc : List D) (h : MH) (K : List D → MH → Prop), ds[i]? = some d → I i acc h → (∀ acc' h', I (i + 1) acc' h' → K acc' h') →
      ∃ σ2, put σ d = some σ2 ∧ tt σ2 h fun b h3 => if b = true then te σ2 h3 fun y h4 => acc.length < sizeLine ∧ K (acc ++ [y]) h4 else K acc h3) →
    (∀ acc h, I ds.length acc h → Q acc h) → wLcGo put tt te σ ds acc h Q
  | [], acc, I, h, h0, _, hd => hd acc h h0
  | d :: ds, acc, I, h, h0, hs, hd => by
    obtain ⟨σ2, e, q⟩ := hs 0 d acc h (fun acc' h' => wLcGo put tt te σ ds acc' h' Q) rfl h0 fun acc' h' h1 => wLcGo_inv (fun i => I (i + 1)) h1 (fun i d acc h K e => hs (i + 1) d acc h K (by simpa using e)) (fun acc h => hd acc h)
    unfold wLcGo
    rw [e]
    exact q
def Src (h : MH) (s : Addr) : Prop := ∃ a b c : Int, h s = some (.lst [.int a, .int b, .int c])
structure Fro (h h' : MH) (s : Addr) : Prop where
  src : Src h' s
  oth : ∀ p, p ≠ s → h' p = h p
theorem Fro.trans {h h1 h2 : MH} {s : Addr} (a : Fro h h1 s) (b : Fro h1 h2 s) : Fro h h2 s := ⟨b.src, fun p n => (b.oth p n).trans (a.oth p n)⟩
theorem Fro.refl {h : MH} {s : Addr} (a : Src h s) : Fro h h s := ⟨a, fun _ _ => rfl⟩
theorem Fro.upd {h : MH} {s : Addr} {a b c : Int} : Fro h (mupd h s (.lst [.int a, .int b, .int c])) s := ⟨⟨a, b, c, mupd_same⟩, fun p n => mupd_ne n⟩
theorem small_mul {i j : Int} (h : -(2 ^ 64) < i ∧ i < 2 ^ 64) : mulOk i j := .inl (.inl h)
theorem small_mulR {i j : Int} (h : -(2 ^ 64) < j ∧ j < 2 ^ 64) : mulOk i j := .inl (.inr h)
theorem div_small {i j : Int} (h0 : 0 < j) (h : j < 2 ^ 64) : divOk i j := by
  refine ⟨h0, ?_⟩
  have : j.natAbs < 2 ^ 64 := by omega
  have := (Nat.log2_lt (by omega)).mpr this
  omega
theorem mod_ok {i j : Int} (h : 0 < j) : modOk i j := h
theorem bits_le {i : Int} {n : Nat} (h : i.natAbs < 2 ^ n) : Builtin.Int.intBits i ≤ n := by
  unfold Builtin.Int.intBits
  split
  · omega
  · rename_i z
    have z' : i.natAbs ≠ 0 := by
      intro e
      exact z (by simp; omega)
    have := (Nat.log2_lt z').mpr h
    omega
theorem shl_ok {i j : Int} {n : Nat} (h : i.natAbs < 2 ^ n) (h0 : 0 ≤ j) (h1 : j ≤ 1000) (hn : n ≤ 1000) : shlOk i j := by
  refine ⟨h0, ?_⟩
  have := bits_le h
  omega
section
variable {h : MH} {Q : MQ} {x : D} {i : Int} {a : Addr} {xs ys : List D}
@[simp] theorem o_ix : opIx x (.int i) h Q = match sqOf h x with
  | some xs => match atI xs i with
    | some d => Q d h
    | none => False
  | none => False := (rfl)
@[simp] theorem sq_tup : sqOf h (.tup xs) = some xs := (rfl)
@[simp] theorem sq_lst : sqOf h (.lst xs) = some xs := (rfl)
@[simp] theorem sq_scr {ns : List Int} : sqOf h (.scr ns) = some (ns.map .int) := (rfl)
@[simp] theorem sq_ref : sqOf h (.ref a) = match h a with
  | some (.lst ds) => some ds
  | _ => none := (rfl)
@[simp] theorem ls_lst : lsOf h (.lst xs) = some xs := (rfl)
@[simp] theorem ls_ref : lsOf h (.ref a) = match h a with
  | some (.lst ds) => some ds
  | _ => none := (rfl)
@[simp] theorem row_tup : rowF (.tup xs) = some xs := (rfl)
@[simp] theorem row_lst : rowF (.lst xs) = some xs := (rfl)
@[simp] theorem row_scr {ns : List Int} : rowF (.scr ns) = some (ns.map .int) := (rfl)
@[simp] theorem o_lenT : fLen [.tup xs] h Q = Q (.int xs.length) h := (rfl)
@[simp] theorem o_lenL : fLen [.lst xs] h Q = Q (.int xs.length) h := (rfl)
@[simp] theorem o_lenS {ns : List Int} : fLen [.scr ns] h Q = Q (.int (ns.map D.int).length) h := (rfl)
@[simp] theorem o_tup1 : fTup [x] h Q = match sqOf h x with
  | some xs => Q (.tup xs) h
  | none => False := (rfl)
@[simp] theorem o_list1 : fList [x] h Q = match sqOf h x with
  | some xs => Q (.lst xs) h
  | none => False := (rfl)
@[simp] theorem o_list1M : fListM [x] h Q = match sqOf h x with
  | some xs => ∀ p, h p = none → Q (.ref p) (mupd h p (.lst xs))
  | none => False := (rfl)
@[simp] theorem o_max2 {j : Int} : fMax2 [.int i, .int j] h Q = Q (.int (if j > i then j else i)) h := (rfl)
@[simp] theorem o_min2 {j : Int} : fMin2 [.int i, .int j] h Q = Q (.int (if j < i then j else i)) h := (rfl)
@[simp] theorem o_addL : opAdd (.lst xs) (.lst ys) h Q = (xs.length + ys.length ≤ sizeLine ∧ Q (.lst (xs ++ ys)) h) := (rfl)
@[simp] theorem o_addT : opAdd (.tup xs) (.tup ys) h Q = (xs.length + ys.length ≤ sizeLine ∧ Q (.tup (xs ++ ys)) h) := (rfl)
@[simp] theorem o_mulL {j : Int} : opMul (.lst xs) (.int j) h Q = ((-(2 ^ 63) ≤ j ∧ j < 2 ^ 63 ∧ xs.length * j.toNat ≤ sizeLine) ∧ Q (.lst (List.replicate j.toNat xs).flatten) h) := (rfl)
@[simp] theorem o_mulT {j : Int} : opMul (.tup xs) (.int j) h Q = ((xs ≠ [] ∧ 2 ≤ j ∧ j ≤ 1000 ∧ xs.length ≤ 1000) ∧ Q (.tup (List.replicate j.toNat xs).flatten) h) := (rfl)
@[simp] theorem o_mulS {z : Str} {j : Int} : opMul (.str z) (.int j) h Q = (strRepOk z j ∧ Q (.str (strRep z j)) h) := (rfl)
@[simp] theorem o_mulM {j : Int} : opMulM (.lst xs) (.int j) h Q = ((-(2 ^ 63) ≤ j ∧ j < 2 ^ 63 ∧ xs.length * j.toNat ≤ sizeLine) ∧ ∀ p, h p = none → Q (.ref p) (mupd h p (.lst (List.replicate j.toNat xs).flatten))) := (rfl)
@[simp] theorem o_slL {lo hi : Option Int} : opSl (.lst xs) lo hi h Q = Q (.lst (cut xs lo hi)) h := (rfl)
@[simp] theorem o_slT {lo hi : Option Int} : opSl (.tup xs) lo hi h Q = Q (.tup (cut xs lo hi)) h := (rfl)
@[simp] theorem o_app {d : D} : fAppend (.ref a) [d] h Q = match h a with
  | some (.lst xs) => xs.length < sizeLine ∧ Q .non (mupd h a (.lst (xs ++ [d])))
  | _ => False := (rfl)
@[simp] theorem o_isi {ns : List String} : fIsi ns x h Q = match clsD h x with
  | some c => Q (.bl (ns.any (subT c))) h
  | none => False := (rfl)
@[simp] theorem t_bl {b : Bool} : truth h (.bl b) = some b := (rfl)
@[simp] theorem t_int : truth h (.int i) = some (i != 0) := (rfl)
@[simp] theorem t_non : truth h .non = some false := (rfl)
@[simp] theorem mupd_eq {c : Cell} : mupd h a c a = some c := mupd_same
@[simp] theorem mupd_mupd {c d : Cell} : mupd (mupd h a c) a d = mupd h a d := mupd_upd
end
theorem atI_of {α : Type} {xs : List α} {i : Nat} (hi : i < xs.length) : atI xs (i : Int) = some xs[i] := by
  unfold atI ixN
  rw [if_pos (by omega), if_pos (by omega)]
  simp [hi]
theorem ixN_in {n : Nat} {i : Int} (h0 : 0 ≤ i) (hi : i < n) : ixN n i = some i.toNat := by
  unfold ixN
  rw [if_pos h0, if_pos hi]
theorem atI_in {α : Type} {xs : List α} {i : Int} (h0 : 0 ≤ i) (hi : i < xs.length) : ∃ x, atI xs i = some x ∧ x ∈ xs ∧ xs[i.toNat]? = some x := by
  have hl : i.toNat < xs.length := by omega
  refine ⟨xs[i.toNat], ?_, List.getElem_mem _, List.getElem?_eq_getElem hl⟩
  unfold atI
  rw [ixN_in h0 hi]
  simp [hl]
theorem mdel_mupd {h : MH} {a : Addr} {c : Cell} (n : h a = none) : mdel (mupd h a c) a = h := mdel_upd n
def Ext (h h' : MH) : Prop := ∀ p c, h p = some c → h' p = some c
theorem Ext.refl {h : MH} : Ext h h := fun _ _ e => e
theorem Ext.trans {h h1 h2 : MH} (a : Ext h h1) (b : Ext h1 h2) : Ext h h2 := fun p c e => b p c (a p c e)
theorem Ext.new {h : MH} {p : Addr} {c : Cell} (n : h p = none) : Ext h (mupd h p c) := fun q c e => by rw [mupd_ne (fun z => by rw [z, n] at e; cases e)]; exact e
theorem Ext.src {h h' : MH} {s : Addr} (e : Ext h h') (a : Src h s) : Src h' s := by
  obtain ⟨x, y, z, q⟩ := a
  exact ⟨x, y, z, e _ _ q⟩
theorem Src.some {h : MH} {s : Addr} (a : Src h s) : h s ≠ none := by
  obtain ⟨x, y, z, q⟩ := a
  rw [q]; simp
def spNext : MSp := fun ds h Q _ => ∃ (s : Addr) (m : Int), ds = [.ref s, .int m] ∧ Src h s ∧ 0 < m ∧ divOk 0 m ∧ ∀ (r : Int) (h' : MH), 0 ≤ r → r < m → Fro h h' s → Q (.int r) h'
abbrev rdNext : WS :=
 (wSeq (wIfS (wTest (wGt (wOp opIx (wVar 0) (wC (.int 0))) (wC (.int 0)))) (wSeq (wSet 4 (wMod (wCB fInt (wCons (wOp opIx (wVar 0) (wC (.int 0))) wNil)) (wVar 1)))
 (wSeq (wAsg (wDiv (wOp opIx (wVar 0) (wC (.int 0))) (wVar 1)) (gSt (wVar 0) (wC (.int 0))))
 (wRet (wVar 4)))) wNext)
 (wSeq (wAsg (wOp opAdd (wOp opIx (wVar 0) (wC (.int 2))) (wC (.int 1))) (gSt (wVar 0) (wC (.int 2))))
 (wSeq (wSet 2 (wC (.int 2147483647)))
 (wSeq (wSet 3 (wMod (wCB fInt (wCons (wOp opAdd (wOp opAdd (wOp opIx (wVar 0) (wC (.int 1))) (wOp opMul (wC (.int 104729)) (wOp opIx (wVar 0) (wC (.int 2))))) (wC (.int 7919))) wNil)) (wVar 2)))
 (wSeq (wSet 3 (wMod (wCB fInt (wCons (wOp opMul (wVar 3) (wC (.int 48271))) wNil)) (wVar 2)))
 (wSeq (wSet 3 (wMod (wCB fInt (wCons (wOp opMul (wVar 3) (wOp opAdd (wDiv (wVar 3) (wC (.int 1009))) (wC (.int 69621)))) wNil)) (wVar 2)))
 (wSeq (wSet 3 (wMod (wCB fInt (wCons (wOp opMul (wVar 3) (wOp opAdd (wDiv (wVar 3) (wC (.int 2003))) (wC (.int 40692)))) wNil)) (wC (.int 2147483399))))
 (wRet (wMod (wCB fInt (wCons (wDiv (wVar 3) (wC (.int 7))) wNil)) (wVar 1))))))))))
theorem mstart_eq {N : List Str} {ds : List D} : mstart N ds = ds.map some ++ List.replicate (N.length - ds.length) none := (rfl)
theorem pureNext {N : List Str} (hN : N.length = 5) (ds : List D) (h : MH) (Q' : MQ) (E' : XQ) (sp : spNext ds h Q' E') : rdNext { nx := fun _ h' => Q' .non h', rt := Q' } (mstart N ds) h := by
  obtain ⟨s, m, rfl, ⟨a, b, c, e⟩, hm, hd, q⟩ := sp
  rw [mstart_eq, hN]
  simp [e, atI, ixN, List.replicate]
  split
  · refine ⟨hm, hd, q _ _ (Int.emod_nonneg _ (by omega)) (Int.emod_lt_of_pos _ hm) .upd⟩
  · refine ⟨small_mul (by omega), by simp [modOk], ?_⟩
    generalize (b + 104729 * (c + 1) + 7919) % 2147483647 = x1
    refine ⟨small_mulR (by omega), by simp [modOk], ?_⟩
    have k2 := Int.emod_nonneg (x1 * 48271) (b := 2147483647) (by omega)
    have k3 := Int.emod_lt_of_pos (x1 * 48271) (b := 2147483647) (by omega)
    generalize x1 * 48271 % 2147483647 = x2 at *
    refine ⟨div_small (by omega) (by omega), small_mul (by omega), by simp [modOk], ?_⟩
    generalize x2 * (x2 / 1009 + 69621) = y
    have k4 := Int.emod_nonneg y (b := 2147483647) (by omega)
    have k5 := Int.emod_lt_of_pos y (b := 2147483647) (by omega)
    generalize y % 2147483647 = x3 at *
    refine ⟨div_small (by omega) (by omega), small_mul (by omega), by simp [modOk], div_small (by omega) (by omega), hm, ?_⟩
    exact q _ _ (Int.emod_nonneg _ (by omega)) (Int.emod_lt_of_pos _ hm) .upd
def spOne : MSp := fun ds h Q _ => ∃ (s : Addr) (xs : List D), ds = [.ref s, .lst xs] ∧ Src h s ∧ 0 < xs.length ∧ xs.length ≤ 2 ^ 40 ∧ ∀ (x : D) (h' : MH), x ∈ xs → Fro h h' s → Q x h'
abbrev rdOne : WS := (wRet (wOp opIx (wVar 1) (wCall spNext xF (wCons (wVar 0) (wCons (wCB fLen (wCons (wVar 1) wNil)) wNil)))))
theorem pureOne {N : List Str} (hN : N.length = 2) (ds : List D) (h : MH) (Q' : MQ) (E' : XQ) (sp : spOne ds h Q' E') : rdOne { nx := fun _ h' => Q' .non h', rt := Q' } (mstart N ds) h := by
  obtain ⟨s, xs, rfl, hs, h0, h1, q⟩ := sp
  rw [mstart_eq, hN]
  simp [List.replicate]
  refine ⟨s, _, rfl, hs, by omega, div_small (by omega) (by omega), fun r h' r0 r1 f => ?_⟩
  obtain ⟨x, e1, e2, _⟩ := atI_in (xs := xs) r0 r1
  simp only [o_ix, sq_lst, e1]
  exact q x h' e2 f
def spCell : MSp := fun ds h Q _ => ∃ (ns : List Int) (k : Int), ds = [.scr ns, .int k] ∧ 0 ≤ k ∧ ∀ z : Int, Q (.int z) h
abbrev rdCell : WS := (wSeq (wIfS (wTest (wLt (wVar 1) (wCB fLen (wCons (wVar 0) wNil)))) (wRet (wOp opIx (wVar 0) (wVar 1))) wNext)
 (wRet (wC (.int 0))))
theorem pureCell {N : List Str} (hN : N.length = 2) (ds : List D) (h : MH) (Q' : MQ) (E' : XQ) (sp : spCell ds h Q' E') : rdCell { nx := fun _ h' => Q' .non h', rt := Q' } (mstart N ds) h := by
  obtain ⟨ns, k, rfl, h0, q⟩ := sp
  rw [mstart_eq, hN]
  simp [List.replicate]
  split
  · rename_i hk
    obtain ⟨x, e1, e2, _⟩ := atI_in (xs := ns.map D.int) h0 (by simpa using hk)
    rw [e1]
    obtain ⟨z, _, rfl⟩ := List.mem_map.mp e2
    exact q z
  · exact q 0
def spSrcOf : MSp := fun ds h Q _ => ∃ z : Int, ds = [.int z] ∧ ∀ p a b c, h p = none → Q (.ref p) (mupd h p (.lst [.int a, .int b, .int c]))
abbrev rdSrcOf : WS :=
 (wSeq (wSet 0 (wIf (wTest (wGe (wVar 0) (wC (.int 0)))) (wVar 0) (wOp opSub (wOp opSub (wC (.int 0)) (wOp opMul (wC (.int 3)) (wVar 0))) (wC (.int 1)))))
 (wRet (wLstM (wCons (wOp opMul (wVar 0) (wCB fInt (wCons (wGe (wVar 0) (wPow (wC (.int 10)) (wC (.int 18)))) wNil))) (wCons (wMod (wCB fInt (wCons (wVar 0) wNil)) (wC (.int 2147483647))) (wCons (wC (.int 0)) wNil))))))
theorem pureSrcOf {N : List Str} (hN : N.length = 1) (ds : List D) (h : MH) (Q' : MQ) (E' : XQ) (sp : spSrcOf ds h Q' E') : rdSrcOf { nx := fun _ h' => Q' .non h', rt := Q' } (mstart N ds) h := by
  obtain ⟨z, rfl, q⟩ := sp
  rw [mstart_eq, hN]
  have pw : powOk 10 18 := ⟨by omega, by omega, by decide⟩
  have hz : (3 : Nat) ≤ sizeLine := by decide
  have m1 : ∀ (y : Int) (b : Bool), mulOk y (if b = true then 1 else 0) := fun y b => small_mulR (by split <;> omega)
  have m2 : ∀ y : Int, modOk y 2147483647 := fun y => mod_ok (by omega)
  have m3 : ∀ y : Int, mulOk 3 y := fun y => small_mul (by omega)
  simp [List.replicate, pw, hz, m1, m2, m3]
  split
  · exact ⟨small_mulR (by split <;> omega), fun p hp => q p _ _ _ hp⟩
  · exact ⟨small_mulR (by split <;> omega), fun p hp => q p _ _ _ hp⟩
mutual
theorem eqv_self : ∀ (n : Nat) (d : D), fit n d = true → eqv d d = true
  | _, .non, _ => rfl
  | _, .bl b, _ => by simp [eqv]
  | _, .int _, _ => by simp [eqv]
  | _, .str _, _ => by simp [eqv]
  | n + 1, .tup ds, h => by
    simp only [eqv]
    exact eqvs_self n ds (by simpa [fit] using h)
  | n + 1, .lst ds, h => by
    simp only [eqv]
    exact eqvs_self n ds (by simpa [fit] using h)
  | 0, .tup _, h => by simp [fit] at h
  | 0, .lst _, h => by simp [fit] at h
  | 0, .ty _, h => by simp [fit] at h
  | 0, .dct _, h => by simp [fit] at h
  | 0, .dcl _, h => by simp [fit] at h
  | 0, .scr _, h => by simp [fit] at h
  | 0, .ref _, h => by simp [fit] at h
  | 0, .exc _ _ _ _, h => by simp [fit] at h
  | _ + 1, .ty _, h => by simp [fit] at h
  | _ + 1, .dct _, h => by simp [fit] at h
  | _ + 1, .dcl _, h => by simp [fit] at h
  | _ + 1, .scr _, h => by simp [fit] at h
  | _ + 1, .ref _, h => by simp [fit] at h
  | _ + 1, .exc _ _ _ _, h => by simp [fit] at h
theorem eqvs_self : ∀ (n : Nat) (ds : List D), (∀ d ∈ ds, fit n d = true) → eqvs ds ds = true
  | _, [], _ => rfl
  | n, d :: ds, h => by
    simp only [eqvs, Bool.and_eq_true]
    exact ⟨eqv_self n d (h d (by simp)), eqvs_self n ds fun x hx => h x (by simp [hx])⟩
end
theorem op_self {neg : Bool} {x : D} {h : MH} {Q : MQ} (hf : fit 64 x = true) (q : Q (.bl (!neg)) h) : opEq neg x x h Q := by
  have e := eqv_self 64 x hf
  have z : (if neg = true then !true else true) = !neg := by cases neg <;> rfl
  cases x with
  | lst xs =>
    simp only [eqv] at e
    refine ⟨⟨hf, hf⟩, ?_⟩
    rw [e, z]; exact q
  | int i => show Q _ h; rw [show (i == i) = true by simp, z]; exact q
  | non => exact ⟨⟨hf, hf⟩, by rw [e, z]; exact q⟩
  | bl b => exact ⟨⟨hf, hf⟩, by rw [e, z]; exact q⟩
  | str b => exact ⟨⟨hf, hf⟩, by rw [e, z]; exact q⟩
  | tup b => exact ⟨⟨hf, hf⟩, by rw [e, z]; exact q⟩
  | _ => simp [fit] at hf
theorem ne_self {x : D} {h : MH} {Q : MQ} (hf : fit 64 x = true) (q : Q (.bl false) h) : opEq true x x h Q := op_self (neg := true) hf q
theorem cut_to {α : Type} {xs : List α} {k : Int} (h0 : 0 ≤ k) (h1 : k ≤ xs.length) : cut xs none (some k) = xs.take k.toNat := by
  unfold cut HT.sIx
  simp
  split
  · omega
  · rename_i z
    congr 1
    omega
theorem cut_from {α : Type} {xs : List α} {k : Int} (h0 : 0 ≤ k) (h1 : k ≤ xs.length) : cut xs (some k) none = xs.drop k.toNat := by
  unfold cut HT.sIx
  simp
  split
  · omega
  · rename_i z
    rw [List.take_of_length_le]
    · congr 1; omega
    · simp
end BP

set_option maxRecDepth 100000
set_option maxHeartbeats 400000
namespace BP
open PySem PySem.Spec PyProof.Rows L2
def pl : D → Bool
  | .ref _ => false
  | .exc _ _ _ _ => false
  | .ty _ => false
  | _ => true
def dInt : D → Int
  | .int i => i
  | _ => 0
def btw (d : D) (lo hi : Int) : Bool := match d with
  | .int i => decide (lo ≤ i) && decide (i ≤ hi)
  | _ => false
theorem szL : (sizeLine : Nat) = 16777216 := by decide
theorem btw_int {d : D} {lo hi : Int} (h : btw d lo hi = true) : ∃ i, d = .int i ∧ lo ≤ i ∧ i ≤ hi := by
  cases d with
  | int i => simp [btw] at h; exact ⟨i, rfl, h⟩
  | _ => simp [btw] at h
theorem bls_map {α : Type} (f : α → Bool) : ∀ xs : List α, bls (xs.map fun d => D.bl (f d)) = some (xs.map f)
  | [] => rfl
  | x :: xs => by simp [bls, bls_map f xs]
theorem take_snoc {α : Type} {l : List α} {i : Nat} {x : α} (e : l[i]? = some x) : l.take (i + 1) = l.take i ++ [x] := by
  rw [List.take_add_one, e]; rfl
theorem enum_get {ls : List D} {i : Nat} {d : D} (e : (enumD 0 ls)[i]? = some d) : ∃ x, ls[i]? = some x ∧ d = .tup [.int (i : Nat), x] := by
  unfold enumD at e
  rw [List.getElem?_mapIdx] at e
  cases q : ls[i]? with
  | none => rw [q] at e; cases e
  | some x =>
    rw [q] at e
    simp at e
    exact ⟨x, rfl, e.symm⟩
theorem enum_len {ls : List D} : (enumD 0 ls).length = ls.length := by unfold enumD; simp
theorem range_get {n i : Nat} {lo : Int} {d : D} (e : (rangeD lo n)[i]? = some d) : i < n ∧ d = .int (lo + i) := by
  unfold rangeD at e
  rw [List.getElem?_map] at e
  cases z : (List.range n)[i]? with
  | none => rw [z] at e; cases e
  | some j =>
    rw [z] at e
    obtain ⟨h1, h2⟩ := List.getElem?_eq_some_iff.mp z
    simp at h1 h2 e
    subst h2
    exact ⟨h1, e.symm⟩
theorem range_len {lo : Int} {n : Nat} : (rangeD lo n).length = n := by unfold rangeD; simp
theorem step_get {n i : Nat} {lo c : Int} {d : D} (e : (stepD lo c n)[i]? = some d) : i < n ∧ d = .int (lo + i * c) := by
  unfold stepD at e
  rw [List.getElem?_map] at e
  cases z : (List.range n)[i]? with
  | none => rw [z] at e; cases e
  | some j =>
    rw [z] at e
    obtain ⟨h1, h2⟩ := List.getElem?_eq_some_iff.mp z
    simp at h1 h2 e
    subst h2
    exact ⟨h1, e.symm⟩
theorem sq_row {l : D} {ls : List D} (h : MH) (e : rowF l = some ls) : sqOf h l = some ls := by
  cases l <;> simp [rowF] at e <;> subst e <;> rfl
theorem lc_map {put : MSt → D → Option MSt} {te : WE} {σ : MSt} {h : MH} {Q : List D → MH → Prop} {ds : List D} (f : Nat → D → D) (hl : ds.length ≤ 16000000)
    (hs : ∀ (i : Nat) (d : D) (K : MQ), ds[i]? = some d → K (f i d) h → ∃ σ2, put σ d = some σ2 ∧ te σ2 h K) (q : Q (ds.mapIdx f) h) : wLcGo put wYes te σ ds [] h Q := by
  refine wLcGo_inv (fun i acc h' => h' = h ∧ acc = (ds.mapIdx f).take i) ⟨rfl, by simp⟩ ?_ ?_
  · rintro i d acc h' K e ⟨rfl, rfl⟩ hK
    have ln : ((ds.mapIdx f).take i).length < sizeLine := by
      have := szL
      have := (List.getElem?_eq_some_iff.mp e).1
      simp; omega
    have nx : K ((ds.mapIdx f).take i ++ [f i d]) h' := hK _ _ ⟨rfl, by
      rw [take_snoc (x := f i d)]
      rw [List.getElem?_mapIdx, e]; rfl⟩
    obtain ⟨σ2, e1, e2⟩ := hs i d (fun y h4 => ((ds.mapIdx f).take i).length < sizeLine ∧ K ((ds.mapIdx f).take i ++ [y]) h4) e ⟨ln, nx⟩
    exact ⟨σ2, e1, by simpa using e2⟩
  · rintro acc h' ⟨rfl, rfl⟩
    rw [List.take_of_length_le (by simp)]
    exact q
@[simp] theorem o_repr {d : D} {h : MH} {Q : MQ} : fRepr [d] h Q = match toPx h d with
  | some p => (p.showable = true ∧ p.shown.length ≤ sizeLine ∧ p.depth ≤ 64) ∧ Q (.str p.shown) h
  | none => False := (rfl)
@[simp] theorem o_abs {i : Int} {h : MH} {Q : MQ} : fAbs [.int i] h Q = Q (.int (if i < 0 then -i else i)) h := (rfl)
@[simp] theorem o_bits {i : Int} {h : MH} {Q : MQ} : unBits (.int i) h Q = Q (.int (Builtin.Int.intBits i : Nat)) h := (rfl)
@[simp] theorem r_range3 {wa : WA} {σ : MSt} {h : MH} {P : List D → MH → Prop} : wRange3 wa σ h P = wa σ h fun ds h1 => match ds with
  | [.int i, .int j, .int c] => ∃ n, RgC i j c n ∧ P (stepD i c n) h1
  | _ => False := (rfl)
@[simp] theorem r_zip {wa : WA} {σ : MSt} {h : MH} {P : List D → MH → Prop} : wZip wa σ h P = wa σ h fun ds h1 => match ds with
  | [.tup xs, .tup ys] => P (zipD xs ys) h1
  | [.lst xs, .lst ys] => P (zipD xs ys) h1
  | _ => False := (rfl)
@[simp] theorem o_rev {x : D} {h : MH} {Q : MQ} : unRev x h Q = match lsOf h x with
  | some xs => Q (.lst xs.reverse) h
  | none => False := (rfl)
@[simp] theorem r_xis {n0 : String} {a dd : Addr} {n : Str} {r : Bool} {te : WE} {σ : MSt} {h : MH} {Q : MQ} : wXis n0 a dd n r te σ h Q = (n = Str.ofString n0 ∧ te σ h fun x h1 => match x with
  | .exc a' dd' _ _ => a' = a ∧ dd' = dd ∧ Q (.bl r) h1
  | _ => False) := (rfl)
@[simp] theorem r_act {i n : Nat} {f : Addr} {tl : LTl} {Es : MSt → XQ} {σ : MSt} {h : MH} {Q : MQ} : wAct i n f tl Es σ h Q = (σ[i]? = some (some (.ref f)) ∧ tl h Q (Es (List.replicate n none))) := (rfl)
@[simp] theorem r_lam {P : Addr} {q : Str} {sp : LSp} {Es : MSt → XQ} {t : (MSt → XQ) → WE} {σ : MSt} {h : MH} {Q : MQ} : wLam P q sp Es t σ h Q = (h P = some (.tbl q) ∧ sp (fun h' Q' E' => t (fun _ => E') σ h' Q') h Q (Es σ)) := (rfl)
@[simp] theorem r_aug {i : Nat} {t : WE} {g : Int → Int → Int} {D0 : MEnds} {σ : MSt} {h : MH} : wAug i t g D0 σ h = match σ[i]? with
  | some (some (.int x)) => t σ h fun d h1 => match d with
    | .int y => D0.nx (σ.set i (some (.int (g x y)))) h1
    | _ => False
  | _ => False := (rfl)
@[simp] theorem o_and {x y : Int} {h : MH} {Q : MQ} : opAnd (.int x) (.int y) h Q = Q (.int (Builtin.bitAnd x y)) h := (rfl)
theorem cut_mid {α : Type} {xs : List α} {a b : Nat} (h0 : a ≤ b) (h1 : b ≤ xs.length) : cut xs (some (a : Int)) (some (b : Int)) = (xs.drop a).take (b - a) := by
  unfold cut
  rw [HT.sIx_nat, HT.sIx_nat]
  have e1 : min a xs.length = a := by omega
  have e2 : min b xs.length = b := by omega
  rw [e1, e2]
end BP

set_option maxRecDepth 100000
set_option maxHeartbeats 4000000
namespace BP
open PySem PySem.Spec PyProof.Rows L2 LamX
structure LamG (N : List Str) (sc scope : Scope) : Prop where
  kind : scope.kind = .function
  co : scope.isCoroutine = false
  gen : scope.isGenerator = false
  own : ∀ y ∈ scope.names, y.2 ≠ .cell ∧ (y.2 = .local → y.1 ∉ N)
  free : ∀ y ∈ scope.names, y.2 = .free → sc.names.lookup y.1 = some .cell ∨ sc.names.lookup y.1 = some .free
def lamGB (N : List Str) (sc scope : Scope) : Bool :=
  decide (scope.kind = .function) && !scope.isCoroutine && !scope.isGenerator && scope.names.all fun y => !decide (y.2 = .cell) && (!decide (y.2 = .local) || !N.contains y.1) && (!decide (y.2 = .free) || decide (sc.names.lookup y.1 = some .cell) || decide (sc.names.lookup y.1 = some .free))
theorem lamG_by {N : List Str} {sc scope : Scope} (h : lamGB N sc scope = true) : LamG N sc scope := by
  unfold lamGB at h
  simp only [Bool.and_eq_true, Bool.or_eq_true, Bool.not_eq_true', decide_eq_true_eq, decide_eq_false_iff_not, List.all_eq_true] at h
  obtain ⟨⟨⟨h1, h2⟩, h3⟩, h4⟩ := h
  refine ⟨h1, h2, h3, fun y hy => ⟨(h4 y hy).1.1, fun e => ?_⟩, fun y hy e => ?_⟩
  · rcases (h4 y hy).1.2 with z | z
    · exact absurd e z
    · simpa using z
  · rcases (h4 y hy).2 with (z | z) | z
    · exact absurd e z
    · exact .inl z
    · exact .inr z
theorem LamG.has {X : Cx} {N : List Str} {scope : Scope} (L : LamG N X.env.scope scope) (ok : X.Ok) : ∀ y ∈ scope.names, y.2 = .free → ∃ c, X.env.cells.lookup y.1 = some c := fun y hy e => (L.free y hy e).elim (fun k => ok.has _ (.inl k)) (fun k => ok.has _ (.inr k))
section
variable {X : Cx} {pins : List (Addr × Obj)} {σ : L2.St} {H G : Hp} {s s1 : Shared}
end
section
variable {X : Cx} {B : Bs} {Es : MSt → XQ}
end
end BP

set_option maxRecDepth 100000
set_option maxHeartbeats 400000
namespace BP
open PySem PySem.Spec PyProof.Rows L2
def bitsI (v : Int) : Nat → List Int
  | 0 => []
  | k + 1 => bitsI (v / 2) k ++ [v % 2]
def valI (bs : List Int) : Int := bs.foldl (fun a b => 2 * a + b) 0
theorem bitsI_len (v : Int) : ∀ k, (bitsI v k).length = k := by
  intro k
  induction k generalizing v with
  | zero => rfl
  | succ k ih => simp [bitsI, ih]
theorem div_pow_succ (v : Int) (k : Nat) : v / 2 / 2 ^ k = v / 2 ^ (k + 1) := by
  rw [Int.ediv_ediv_of_nonneg (by omega), Int.pow_succ, Int.mul_comm]
theorem bitsI_cons (v : Int) (k : Nat) : bitsI v (k + 1) = (v / 2 ^ k % 2) :: bitsI v k := by
  induction k generalizing v with
  | zero => simp [bitsI]
  | succ k ih =>
    rw [bitsI, ih, div_pow_succ]
    rfl
theorem bitsI_map (v : Int) (k : Nat) : bitsI v k = (List.range k).map fun i => v / 2 ^ (k - 1 - i) % 2 := by
  induction k with
  | zero => rfl
  | succ k ih =>
    rw [bitsI_cons, List.range_succ_eq_map, List.map_cons, List.map_map, ih]
    refine congr (congrArg List.cons ?_) ?_
    · simp
    · refine List.map_congr_left fun i hi => ?_
      have : k - (i + 1) = k - 1 - i := by omega
      simp [this]
theorem bitsI_b (v : Int) : ∀ k, ∀ b ∈ bitsI v k, b = 0 ∨ b = 1 := by
  intro k
  induction k generalizing v with
  | zero => simp [bitsI]
  | succ k ih =>
    intro b hb
    simp only [bitsI, List.mem_append, List.mem_singleton] at hb
    rcases hb with hb | rfl
    · exact ih _ b hb
    · omega
theorem valI_snoc (bs : List Int) (b : Int) : valI (bs ++ [b]) = 2 * valI bs + b := by simp [valI]
theorem pow_pos2 (k : Nat) : (0 : Int) < 2 ^ k := Int.pow_pos (by decide)
theorem mod_two_mul (v m : Int) (hm : 0 < m) : v % (m * 2) = 2 * (v / 2 % m) + v % 2 := by
  have h1 := Int.emod_add_mul_ediv (v / 2) m
  have h2 := Int.emod_add_mul_ediv v 2
  have h3 : v = 2 * (v / 2 % m) + v % 2 + (m * 2) * (v / 2 / m) := by
    have : (m * 2) * (v / 2 / m) = 2 * (m * (v / 2 / m)) := by rw [Int.mul_comm m 2, Int.mul_assoc]
    rw [this]; omega
  have r0 := Int.emod_nonneg (v / 2) (b := m) (by omega)
  have r1 := Int.emod_lt_of_pos (v / 2) hm
  conv => lhs; rw [h3]
  rw [Int.add_mul_emod_self_left, Int.emod_eq_of_lt (by omega) (by omega)]
theorem valI_bits (v : Int) (k : Nat) : valI (bitsI v k) = v % 2 ^ k := by
  induction k generalizing v with
  | zero => simp [bitsI, valI, Int.emod_one]
  | succ k ih => rw [bitsI, valI_snoc, ih, Int.pow_succ, mod_two_mul v _ (pow_pos2 k)]
theorem snoc_ind {α : Type} {P : List α → Prop} (h0 : P []) (h1 : ∀ l a, P l → P (l ++ [a])) : ∀ l, P l := by
  intro l
  have : ∀ n (l : List α), l.length = n → P l := by
    intro n
    induction n with
    | zero => intro l hl; rw [List.length_eq_zero_iff.mp hl]; exact h0
    | succ n ih =>
      intro l hl
      have hn : l ≠ [] := fun z => by rw [z] at hl; cases hl
      rw [← List.dropLast_concat_getLast hn]
      exact h1 _ _ (ih _ (by simp [hl]))
  exact this _ l rfl
theorem valI_range : ∀ bs : List Int, (∀ b ∈ bs, b = 0 ∨ b = 1) → 0 ≤ valI bs ∧ valI bs < 2 ^ bs.length := by
  refine snoc_ind (by simp [valI]) fun l a ih h => ?_
  have i := ih fun b hb => h b (by simp [hb])
  have ha := h a (by simp)
  rw [valI_snoc, List.length_append, List.length_singleton, Int.pow_succ]
  omega
section
variable (ds : List D) (h : MH) (Q' : MQ) (E' : XQ)
end
end BP

set_option maxRecDepth 100000
set_option maxHeartbeats 4000000
namespace BP
open PySem PySem.Spec PyProof.Rows L2
section
variable {X : Cx} {B : Bs} {a b c e o : Expr} {ta tb tc to : WE} {pos p : Pos} {wa : WA} {es : List Expr}
def wMt0 (f : D → List D → MH → MQ → Prop) (to : WE) : WE := fun σ h Q => to σ h fun x h1 => (lsOf h1 x).isSome = true ∧ f x [] h1 Q
def fClear (x : D) (ds : List D) (h : MH) (Q : MQ) : Prop := match x, ds with
  | .ref a, [] => match h a with
    | some (.lst xs) => Q .non (mupd h a (.lst []))
    | _ => False
  | _, _ => False
def opAddM (x y : D) (h : MH) (Q : MQ) : Prop := match lsOf h x, lsOf h y with
  | some a, some b => a.length + b.length ≤ sizeLine ∧ ∀ p, h p = none → Q (.ref p) (mupd h p (.lst (a ++ b)))
  | _, _ => False
end
section
variable {ta : WE} {σ : MSt} {h : MH} {Q : MQ} {a : Addr} {xs ys : List D} {i : Nat} {D0 : MEnds} {d : D}
@[simp] theorem o_addM {x y : D} : opAddM x y h Q = match lsOf h x, lsOf h y with
  | some a, some b => a.length + b.length ≤ sizeLine ∧ ∀ p, h p = none → Q (.ref p) (mupd h p (.lst (a ++ b)))
  | _, _ => False := (rfl)
@[simp] theorem o_extend : fExtend (.ref a) [d] h Q = match h a, lsOf h d with
  | some (.lst xs), some zs => xs.length + zs.length ≤ sizeLine ∧ Q .non (mupd h a (.lst (xs ++ zs)))
  | _, _ => False := (rfl)
@[simp] theorem r_mt0 {k : D → List D → MH → MQ → Prop} : wMt0 k ta σ h Q = ta σ h fun x h1 => (lsOf h1 x).isSome = true ∧ k x [] h1 Q := (rfl)
@[simp] theorem o_clear : fClear (.ref a) [] h Q = match h a with
    | some (.lst xs) => Q .non (mupd h a (.lst []))
    | _ => False := (rfl)
end
end BP

set_option maxRecDepth 100000
set_option maxHeartbeats 4000000
namespace BP
open PySem PySem.Spec PyProof.Rows L2
def EqI (K : PySem.W.Frag) (H : Hp) : Nat → V → V → Prop
  | 0 => fun _ _ => False
  | n + 1 => fun x y => (∃ d, Dp K H x d ∧ Dp K H y d ∧ d.canLay0 = true ∧ d.depth ≤ 50 ∧ PyData.eqv d d = true) ∨ (∃ a, x = .ref a ∧ y = .ref a) ∨ ∃ a b xs ys, x = .ref a ∧ y = .ref b ∧ SqL K H a xs ∧ SqL K H b ys ∧ Paired (EqI K H n) xs ys
section
variable {X : Cx} {pins : List (Addr × Obj)} {σ : L2.St} {H : Hp} {s : Shared}
end
section
variable {X : Cx}
end
def fitR : Nat → D → Bool
  | _, .ref _ => true
  | n + 1, .lst ds => ds.all (fitR n)
  | _, x => fit 50 x
theorem eqvP_self {d : D} {p : PyData} (e : toP d = some p) (f : fit 50 d = true) : PyData.eqv p p = true := by
  rw [eqv_toP _ _ _ _ e e]
  exact eqv_self 50 d f
mutual
theorem eqI_of {K : PySem.W.Frag} {F H : Hp} {h : MH} (s : SR K F H h) : ∀ (n : Nat) (d : D) (u v : V), fitR n d = true → RD K F d u → RD K F d v → EqI K H (n + 1) u v
  | n, .ref a, u, v, _, r1, r2 => by cases r1; cases r2; exact .inr (.inl ⟨a, rfl, rfl⟩)
  | n + 1, .lst ds, u, v, f, r1, r2 => by
    cases r1 with
    | lst q1 t1 =>
      cases r2 with
      | lst q2 t2 =>
        refine .inr (.inr ⟨_, _, _, _, rfl, rfl, SqL.of (s.fr _ _ q1), SqL.of (s.fr _ _ q2), ?_⟩)
        exact eqIs_of s n ds _ _ (by simpa only [fitR, List.all_eq_true] using f) t1 t2
  | 0, .lst ds, u, v, f, r1, r2 => by
    obtain ⟨p, e, c, l⟩ := toP_of 50 _ (by simpa only [fitR] using f)
    exact .inl ⟨p, r1.dp s.fr e, r2.dp s.fr e, c, l, eqvP_self e (by simpa only [fitR] using f)⟩
  | n, .non, u, v, f, r1, r2 => by
    obtain ⟨p, e, c, l⟩ := toP_of 50 .non rfl
    exact .inl ⟨p, r1.dp s.fr e, r2.dp s.fr e, c, l, eqvP_self e rfl⟩
  | n, .bl b, u, v, f, r1, r2 => by
    obtain ⟨p, e, c, l⟩ := toP_of 50 (.bl b) rfl
    exact .inl ⟨p, r1.dp s.fr e, r2.dp s.fr e, c, l, eqvP_self e rfl⟩
  | n, .int b, u, v, f, r1, r2 => by
    obtain ⟨p, e, c, l⟩ := toP_of 50 (.int b) rfl
    exact .inl ⟨p, r1.dp s.fr e, r2.dp s.fr e, c, l, eqvP_self e rfl⟩
  | n, .str b, u, v, f, r1, r2 => by
    have f' : fit 50 (.str b) = true := by cases n <;> simpa only [fitR] using f
    obtain ⟨p, e, c, l⟩ := toP_of 50 _ f'
    exact .inl ⟨p, r1.dp s.fr e, r2.dp s.fr e, c, l, eqvP_self e f'⟩
  | n, .tup b, u, v, f, r1, r2 => by
    have f' : fit 50 (.tup b) = true := by cases n <;> simpa only [fitR] using f
    obtain ⟨p, e, c, l⟩ := toP_of 50 _ f'
    exact .inl ⟨p, r1.dp s.fr e, r2.dp s.fr e, c, l, eqvP_self e f'⟩
  | n, .ty _, u, v, f, r1, r2 => by cases n <;> simp [fitR, fit] at f
  | n, .dct _, u, v, f, r1, r2 => by cases n <;> simp [fitR, fit] at f
  | n, .dcl _, u, v, f, r1, r2 => by cases n <;> simp [fitR, fit] at f
  | n, .scr _, u, v, f, r1, r2 => by cases n <;> simp [fitR, fit] at f
  | n, .exc _ _ _ _, u, v, f, r1, r2 => by cases n <;> simp [fitR, fit] at f
theorem eqIs_of {K : PySem.W.Frag} {F H : Hp} {h : MH} (s : SR K F H h) : ∀ (n : Nat) (ds : List D) (us vs : List V), (∀ d ∈ ds, fitR n d = true) → RDs K F ds us → RDs K F ds vs → Paired (EqI K H (n + 1)) us vs
  | n, [], _, _, _, r1, r2 => by cases r1; cases r2; exact .nil
  | n, d :: ds, _, _, f, r1, r2 => by
    cases r1 with
    | cons a1 b1 =>
      cases r2 with
      | cons a2 b2 => exact .cons (eqI_of s n d _ _ (f d (by simp)) a1 a2) (eqIs_of s n ds _ _ (fun x hx => f x (by simp [hx])) b1 b2)
end
section
variable {X : Cx} {B : Bs} {a b : Expr} {ta tb : WE} {pos : Pos}
def wDctM : WE := fun _ h Q => ∀ p, h p = none → Q (.ref p) (mupd h p (.dct []))
theorem m_dct0M : ME X B (.Dict [] [] pos) wDctM :=
  pe_mono pe_dnewK fun σ H Q ⟨F, h, σd, Q', l, s, t, c⟩ => fun p hp => c _ _ _ _ _ (Go.fresh (c := .dct []) s hp ⟨_, upd_same, .nil⟩) (.ref p) (t p (s.sr.freeM hp))
@[simp] theorem r_dctM {σ : MSt} {h : MH} {Q : MQ} : wDctM σ h Q = ∀ p, h p = none → Q (.ref p) (mupd h p (.dct [])) := (rfl)
end
end BP

set_option maxRecDepth 100000
set_option maxHeartbeats 4000000
namespace BP
open PySem PySem.Spec PyProof.Rows L2
section
variable {prog : Program} {w : World} {A : Around} {E : Value → Shared → Prop} {s : Shared} {l : Addr} {xs : Array (Int × Tok)}
theorem sum_tupG {Q : Value → Shared → Prop} (hh : A.handled = none) (hl : s.heap.IsTuple l (intItems xs))
    (h : ∀ h' tk t', (∀ b o, s.heap.get? b = some o → h'.get? b = some o) → Q (.int (preSum (PySem.numAt xs) xs.size) t') { s with heap := h', toks := tk }) :
    wpAny (model prog w) A (call (.builtin "sum") [.ref l]) Q E s := by
  have hlt : l < s.heap.objs.size := by obtain ⟨_, e, _⟩ := hl; exact Heap.lt_size e
  refine call_sum_walkG (wpAny_pyIter_tuple hl ?_)
  refine ⟨_, [_, l], [_], _, _, _, PySem.numAt xs, rfl, Walks.tuple (A := A.in1) hh _ l (Nat.ne_of_lt hlt) (intItems xs), ⟨⟨_, Heap.get?_push_size _ rfl, rfl, rfl⟩, hl.push _⟩, fun c hc => ?_, (fun _ _ => intItems_at), fun h' tk t' hk => ?_⟩
  · show c < (s.heap.push _).objs.size
    rw [Heap.size_push]
    rcases List.mem_cons.mp hc with rfl | hc
    · exact Nat.lt_succ_self _
    · rcases List.mem_cons.mp hc with rfl | hc
      · exact Nat.lt_succ_of_lt hlt
      · cases hc
  · have hold : ∀ c o, s.heap.get? c = some o → h'.get? c = some o := fun c o e => by
      refine hk c o (fun hm => ?_) (Heap.get?_push_of_some _ e)
      rcases List.mem_cons.mp hm with e1 | hm
      · exact absurd (e1 ▸ Heap.lt_size e) (Nat.lt_irrefl _)
      · cases hm
    have := h h' tk t' hold
    simpa [intItems] using this
end
section
variable {X : Cx} {B : Bs} {e : Expr} {es : List Expr} {wa : WA} {pos : Pos}
def rSumT (K : PySem.W.Frag) : List V → Hp → VK → Prop := fun vs H Q => ∃ (a : Addr) (ns : List Int), vs = [V.ref a] ∧ SqT K H a (ns.map V.int) ∧ Q (.int ns.sum) H
theorem cr_sumT (hc : X.calm = true) : CallR X (.builtin "sum") (rSumT X.K) := by
  intro pins s σ H vs us Q I r h
  obtain ⟨a, ns, rfl, hs, q⟩ := h
  obtain ⟨its, rv, hl, _⟩ := I.tuple hs
  rw [Vals.ref1 r]
  have hi := rv.ints
  obtain ⟨xs, e⟩ := hi.allInts.items
  have hn : numsOf (intItems xs).toList = ns := by rw [← e]; exact hi.numsOf
  rw [nums_intItems] at hn
  rw [e] at hl
  refine sum_tupG (I.ok.hd hc) hl fun h' tk t' hk => ?_
  rw [preSum_eq, List.take_of_length_le (by simp), hn]
  exact ⟨.int _, H, I.kept hk, ⟨_, rfl⟩, q⟩
def fSumA (ds : List D) (h : MH) (Q : MQ) : Prop := match ds with
  | [.tup xs] => match intsOf xs with
    | some ns => Q (.int ns.sum) h
    | none => False
  | ds => fSum ds h Q
theorem fSumA_d {K : PySem.W.Frag} : CallD K (fun vs H Q => rSum K vs H Q ∨ rSumT K vs H Q) fSumA := fun F H h ds vs Q' Q s rs t c => by
  unfold fSumA at t
  split at t
  · rename_i xs
    obtain ⟨v, rfl, r⟩ := rds_one rs
    split at t
    · rename_i ns eb
      cases r with
      | tup q r2 =>
        have := ints_rd r2 eb
        subst this
        exact .inr ⟨_, ns, rfl, Same.sqT s.fr q, c.same s (.int _) t⟩
    · exact t.elim
  · unfold fSum at t
    split at t
    · obtain ⟨v, rfl, r⟩ := rds_one rs
      split at t
      · rename_i bs eb
        simp only [Option.bind_eq_some_iff] at eb
        obtain ⟨xs, ex, eb⟩ := eb
        obtain ⟨p, ys, rfl, q, r2⟩ := ls_rd s r ex
        have := ints_rd r2 eb
        subst this
        exact .inl ⟨p, bs, rfl, SqL.of q, c.same s (.int _) t⟩
      · exact t.elim
    · exact t.elim
theorem m_sumA {p : Pos} (hc : X.calm = true) (hm : X.mg "sum" = none) (ha : MA X B (e :: es) wa) (hg : Gl X "sum" := by rfl) (he : starEach (e :: es) X.env = (false, eval e X.env) :: starEach es X.env := by rfl) (hpl : (backTo pos (starEach es X.env)).any (·.1) = false := by rfl) :
    ME X B (.Call (.Name "sum" p) (e :: es) [] pos) (wCB fSumA wa) := m_callB ((cr_sum hc).or (cr_sumT hc)) fSumA_d hm (by decide +kernel) ha hg (by decide) (by decide) he hpl
end
section
variable {h : MH} {Q : MQ} {xs : List D}
@[simp] theorem o_sumT : fSumA [.tup xs] h Q = match intsOf xs with
    | some ns => Q (.int ns.sum) h
    | none => False := (rfl)
@[simp] theorem o_sumL : fSumA [.lst xs] h Q = fSum [.lst xs] h Q := (rfl)
end
end BP

set_option maxRecDepth 100000
set_option maxHeartbeats 400000
namespace BP
open PySem PySem.Spec PyProof.Rows L2
theorem wWhile_inv {c : WT} {tb : WS} {D0 : MEnds} (I : Nat → MSt → MH → Prop) {m : Nat} {σ : MSt} {h : MH} (i0 : I m σ h)
    (st : ∀ (m : Nat) (σ : MSt) (h : MH) (K : MSt → MH → Prop), I m σ h → (∀ m' σ' h', m' < m → I m' σ' h' → K σ' h') → c σ h fun b h1 => if b = true then tb { nx := K, ct := K, bk := D0.nx, rt := D0.rt } σ h1 else D0.nx σ h1) : wWhile c tb D0 σ h := by
  refine ⟨m + 1, ?_⟩
  have go : ∀ n m σ h, m < n → I m σ h → wWhileN c tb n D0 σ h := by
    intro n
    induction n with
    | zero => intro m σ h hm; omega
    | succ n ih =>
      intro m σ h hm im
      exact st m σ h _ im fun m' σ' h' hm' im' => ih m' σ' h' (by omega) im'
  exact go _ _ _ _ (Nat.lt_succ_self _) i0
theorem lc_over {α : Type} {put : MSt → D → Option MSt} {te : WE} {σ : MSt} {h : MH} {Q : List D → MH → Prop} (e g : α → D) (xs : List α) (hl : xs.length ≤ 16000000)
    (hs : ∀ x ∈ xs, ∀ K : MQ, K (g x) h → ∃ σ2, put σ (e x) = some σ2 ∧ te σ2 h K) (q : Q (xs.map g) h) : wLcGo put wYes te σ (xs.map e) [] h Q := by
  refine wLcGo_inv (fun i acc h' => h' = h ∧ acc = (xs.map g).take i) ⟨rfl, by simp⟩ ?_ ?_
  · rintro i d acc h' K ed ⟨rfl, rfl⟩ hK
    rw [List.getElem?_map] at ed
    cases ex : xs[i]? with
    | none => rw [ex] at ed; cases ed
    | some x =>
      rw [ex] at ed
      simp at ed
      subst ed
      have ln : ((xs.map g).take i).length < sizeLine := by
        have := szL
        have := (List.getElem?_eq_some_iff.mp ex).1
        simp; omega
      have nx : K ((xs.map g).take i ++ [g x]) h' := hK _ _ ⟨rfl, by
        rw [take_snoc (x := g x)]
        rw [List.getElem?_map, ex]; rfl⟩
      obtain ⟨σ2, e1, e2⟩ := hs x (List.mem_of_getElem? ex) (fun y h4 => ((xs.map g).take i).length < sizeLine ∧ K ((xs.map g).take i ++ [y]) h4) ⟨ln, nx⟩
      exact ⟨σ2, e1, by simpa using e2⟩
  · rintro acc h' ⟨rfl, rfl⟩
    rw [List.take_of_length_le (by simp)]
    exact q
theorem lc_rangeD {put : MSt → D → Option MSt} {te : WE} {σ : MSt} {h : MH} {Q : List D → MH → Prop} {lo : Int} (n : Nat) (g : Nat → D) (hl : n ≤ 16000000)
    (hs : ∀ i, i < n → ∀ K : MQ, K (g i) h → ∃ σ2, put σ (.int (lo + (i : Nat))) = some σ2 ∧ te σ2 h K) (q : Q ((List.range n).map g) h) : wLcGo put wYes te σ (rangeD lo n) [] h Q :=
  lc_over (fun i : Nat => D.int (lo + (i : Nat))) g (List.range n) (by simpa using hl) (fun i hi K k => hs i (by simpa using hi) K k) q
theorem lc_filter {α : Type} {put : MSt → D → Option MSt} {tt : WT} {te : WE} {σ : MSt} {h : MH} {Q : List D → MH → Prop} (e g : α → D) (p : α → Bool) (xs : List α) (hl : xs.length ≤ 16000000)
    (hs : ∀ x ∈ xs, ∃ σ2, put σ (e x) = some σ2 ∧ ∀ K : Bool → MH → Prop, K (p x) h → tt σ2 h K)
    (he : ∀ x ∈ xs, p x = true → ∀ σ2, put σ (e x) = some σ2 → ∀ K : MQ, K (g x) h → te σ2 h K) (q : Q ((xs.filter p).map g) h) : wLcGo put tt te σ (xs.map e) [] h Q := by
  refine wLcGo_inv (fun i acc h' => h' = h ∧ acc = ((xs.take i).filter p).map g ∧ acc.length ≤ i) ⟨rfl, by simp, by simp⟩ ?_ ?_
  · rintro i d acc h' K ed ⟨rfl, rfl, la⟩ hK
    rw [List.getElem?_map] at ed
    cases ex : xs[i]? with
    | none => rw [ex] at ed; cases ed
    | some x =>
      rw [ex] at ed
      simp at ed
      subst ed
      have hi := (List.getElem?_eq_some_iff.mp ex).1
      have := szL
      have mx := List.mem_of_getElem? ex
      obtain ⟨σ2, e1, e2⟩ := hs x mx
      refine ⟨σ2, e1, e2 _ ?_⟩
      cases hp : p x with
      | true =>
        rw [if_pos rfl]
        refine he x mx hp σ2 e1 _ ⟨by omega, hK _ _ ⟨rfl, ?_, ?_⟩⟩
        · rw [take_snoc ex, List.filter_append, List.map_append]; simp [hp]
        · simp at la ⊢; omega
      | false =>
        rw [if_neg Bool.false_ne_true]
        refine hK _ _ ⟨rfl, ?_, by omega⟩
        rw [take_snoc ex, List.filter_append, List.map_append]; simp [hp]
  · rintro acc h' ⟨rfl, rfl, la⟩
    rw [List.take_of_length_le (by simp)]
    exact q
theorem map_get {α : Type} {e : α → D} {xs : List α} {i : Nat} {d : D} (h : (xs.map e)[i]? = some d) : ∃ x, xs[i]? = some x ∧ d = e x := by
  rw [List.getElem?_map] at h
  cases ex : xs[i]? with
  | none => rw [ex] at h; cases h
  | some x => rw [ex] at h; simp at h; exact ⟨x, rfl, h.symm⟩
theorem bit_and1 {t : Nat} : Builtin.bitAnd (t : Int) 1 = ((t % 2 : Nat) : Int) := by
  have : Builtin.bitAnd (t : Int) 1 = ((t &&& 1 : Nat) : Int) := by rfl
  rw [this, Nat.and_one_is_mod]

@[simp] theorem szLs : (sizeLine : Nat) = 16777216 := szL
@[simp] theorem okR_is {i : Int} : okR i = (-4611686018427387904 ≤ i ∧ i < 4611686018427387904) := by
  unfold okR
  apply propext
  omega
@[simp] theorem modOk_is {i j : Int} : modOk i j = (0 < j) := (rfl)
@[simp] theorem shrOk_is {i j : Int} : shrOk i j = (0 ≤ j) := (rfl)
@[simp] theorem mulOk_l {i j : Int} (h1 : -18446744073709551616 < i) (h2 : i < 18446744073709551616) : mulOk i j = True := eq_true (small_mul (by omega))
@[simp] theorem mulOk_r {i j : Int} (h1 : -18446744073709551616 < j) (h2 : j < 18446744073709551616) : mulOk i j = True := eq_true (small_mulR (by omega))
@[simp] theorem divOk_r {i j : Int} (h1 : 0 < j) (h2 : j < 18446744073709551616) : divOk i j = True := eq_true (div_small h1 (by omega))
@[simp] theorem powOk_r {i j : Int} (h0 : 0 ≤ j) (h1 : j ≤ 1000000) (h2 : i.natAbs < 18446744073709551616) : powOk i j = True := eq_true ⟨h0, h1, h2⟩
@[simp] theorem shlOk_1 {j : Int} (h0 : 0 ≤ j) (h1 : j ≤ 100000) : shlOk 1 j = True := by
  refine eq_true ⟨h0, ?_⟩
  have : Builtin.Int.intBits 1 = 1 := by decide
  omega
theorem o_inF {neg : Bool} {x y : D} {xs : List D} {h : MH} {Q : MQ} (e : sqOf h y = some xs) (f1 : flatD x = true) (f2 : xs.all flatD = true) : opIn neg x y h Q = Q (.bl (if neg then !xs.any (fun z => eqv z x) else xs.any (fun z => eqv z x))) h := by
  unfold opIn
  rw [e]
  apply propext
  exact ⟨fun q => q.2, fun q => ⟨.inl ⟨f1, f2⟩, q⟩⟩
@[simp] theorem o_inT {neg : Bool} {x : D} {xs : List D} {h : MH} {Q : MQ} (f1 : flatD x = true) (f2 : xs.all flatD = true) : opIn neg x (.tup xs) h Q = Q (.bl (if neg then !xs.any (fun z => eqv z x) else xs.any (fun z => eqv z x))) h := o_inF rfl f1 f2
@[simp] theorem o_inL {neg : Bool} {x : D} {xs : List D} {h : MH} {Q : MQ} (f1 : flatD x = true) (f2 : xs.all flatD = true) : opIn neg x (.lst xs) h Q = Q (.bl (if neg then !xs.any (fun z => eqv z x) else xs.any (fun z => eqv z x))) h := o_inF rfl f1 f2
@[simp] theorem eqv_int {i j : Int} : eqv (.int i) (.int j) = (i == j) := by simp [eqv]
@[simp] theorem flat_int {i : Int} : flatD (.int i) = true := (rfl)
end BP

set_option maxRecDepth 100000
set_option maxHeartbeats 400000
namespace BP
open PySem PySem.Spec PyProof.Rows L2
def dz (h : MH) : List D → Option (List D × MH)
  | [] => some ([], h)
  | .ref a :: ds => match h a with
    | some (.lst xs) => (dz (mdel h a) ds).map fun r => (.lst xs :: r.1, r.2)
    | _ => none
  | d :: ds => (dz h ds).map fun r => (d :: r.1, r.2)
def wDz (i : Nat) (t : WS) : WS := fun D σ h => match σ[i]? with
  | some (some (.lst ds)) => match dz h ds with
    | some r => t D (σ.set i (some (.lst r.1))) r.2
    | none => False
  | _ => False
@[simp] theorem r_dz {i : Nat} {t : WS} {D0 : MEnds} {σ : MSt} {h : MH} : wDz i t D0 σ h = match σ[i]? with
  | some (some (.lst ds)) => match dz h ds with
    | some r => t D0 (σ.set i (some (.lst r.1))) r.2
    | none => False
  | _ => False := (rfl)
def cells (h : MH) (ps : List Addr) (f : Nat → List D) : MH := fun b => match ps.idxOf? b with
  | some i => some (.lst (f i))
  | none => h b
theorem lookup_relab {b : Str → Bool} : ∀ {names : List (Str × NameKind)} {x : Str} {k : NameKind}, names.lookup x = some k → (k = .cell ∨ k = .free) →
    (names.map fun (n, k) => if (k == NameKind.free && b n) = true then (n, NameKind.cell) else (n, k)).lookup x = some .cell ∨ (names.map fun (n, k) => if (k == NameKind.free && b n) = true then (n, NameKind.cell) else (n, k)).lookup x = some .free
  | [], _, _, h, _ => by simp at h
  | (n, k0) :: r, x, k, h, hk => by
    show List.lookup x ((if (k0 == NameKind.free && b n) = true then (n, NameKind.cell) else (n, k0)) :: _) = _ ∨ List.lookup x ((if (k0 == NameKind.free && b n) = true then (n, NameKind.cell) else (n, k0)) :: _) = _
    cases hx : x == n with
    | true =>
      simp only [List.lookup_cons, hx, Option.some.injEq] at h
      subst h
      by_cases hc : (k0 == NameKind.free && b n) = true
      · rw [if_pos hc]; left; simp [List.lookup_cons, hx]
      · rw [if_neg hc]
        rcases hk with rfl | rfl
        · left; simp [List.lookup_cons, hx]
        · right; simp [List.lookup_cons, hx]
    | false =>
      simp only [List.lookup_cons, hx] at h
      have ih := lookup_relab (b := b) h hk
      by_cases hc : (k0 == NameKind.free && b n) = true
      · rw [if_pos hc]; simp only [List.lookup_cons, hx]; exact ih
      · rw [if_neg hc]; simp only [List.lookup_cons, hx]; exact ih
theorem blkN {X : Cx} {N : List Str} {sc inner : Scope} {own : List (Str × Nat)} {s : Shared} {H : Hp} {cl : List (Str × Addr)} {C : Addr} {fp : List Addr} (hN : X.N = N) (h : BlkOk N sc inner own) :
    BlkOk (X.blk s H sc (compEnvC sc cl C X.env) fp).N (X.blk s H sc (compEnvC sc cl C X.env) fp).env.scope inner own := by
  subst hN
  show BlkOk X.N (compEnvC sc cl C X.env).scope inner own
  refine ⟨h.kind, h.uniq, h.ix, fun y hy e => ?_, h.own⟩
  have key : ∀ k, sc.names.lookup y.1 = some k → (k = .cell ∨ k = .free) → (relabel sc X.env).names.lookup y.1 = some .cell ∨ (relabel sc X.env).names.lookup y.1 = some .free := by
    intro k q hk
    have := lookup_relab (b := fun n => X.env.scope.kind == .function && X.env.kindOf n == some .cell) q hk
    simpa only [relabel, Bool.and_assoc] using this
  rcases h.free y hy e with q | q
  · exact key _ q (.inl rfl)
  · exact key _ q (.inr rfl)
def okE (h : MH) (d : D) : Bool := (clsD h d).isSome
def okRow (h : MH) (d : D) : Bool := match d with
  | .ref a => match h a with
    | some (.dct _) => true
    | _ => false
  | d => (clsD h d).isSome && match rowF d with
    | some xs => decide (xs.length ≤ 1000000) && xs.all (okE h)
    | none => true
theorem cls_ok {h : MH} {d : D} (o : okE h d = true) : ∃ c, clsD h d = some c := Option.isSome_iff_exists.mp o
theorem lc_list {put : MSt → D → Option MSt} {te : WE} {σ : MSt} {h : MH} {Q : List D → MH → Prop} (g : D → D) (xs : List D) (hl : xs.length ≤ 16000000)
    (hs : ∀ x ∈ xs, ∀ K : MQ, K (g x) h → ∃ σ2, put σ x = some σ2 ∧ te σ2 h K) (q : Q (xs.map g) h) : wLcGo put wYes te σ xs [] h Q := by
  have := lc_over (put := put) (te := te) (σ := σ) (h := h) (Q := Q) id g xs hl hs q
  simpa using this
theorem all_list {put : MSt → D → Option MSt} {te : WE} {σ : MSt} {h : MH} {Q : MQ} (p : D → Bool) (xs : List D) (hl : xs.length ≤ 16000000)
    (hs : ∀ x ∈ xs, ∀ K : MQ, K (.bl (p x)) h → ∃ σ2, put σ x = some σ2 ∧ te σ2 h K) (q : Q (.bl (xs.all p)) h) : wLcGo put wYes te σ xs [] h fun acc h2 => fAll [.lst acc] h2 Q := by
  refine lc_list (fun x => .bl (p x)) xs hl hs ?_
  show (match (lsOf h (.lst _)).bind bls with | some bs => Q (.bl (bs.all id)) h | none => False)
  simp only [ls_lst, Option.bind_some, bls_map]
  rw [List.all_map]
  exact q
end BP

set_option maxRecDepth 100000
set_option maxHeartbeats 1000000
namespace BP
open PySem PySem.Spec PyProof.Rows L2
def lexL : List Int → List Int → Bool
  | [], [] => false
  | [], _ :: _ => true
  | _ :: _, [] => false
  | x :: xs, y :: ys => if x = y then lexL xs ys else decide (x < y)
theorem lexL_asym : ∀ x y : List Int, lexL x y = true → lexL y x = false
  | [], [], h => by simp [lexL] at h
  | [], _ :: _, _ => rfl
  | _ :: _, [], h => by simp [lexL] at h
  | x :: xs, y :: ys, h => by
    unfold lexL at h ⊢
    by_cases e : x = y
    · rw [if_pos e] at h
      rw [if_pos e.symm]
      exact lexL_asym xs ys h
    · rw [if_neg e] at h
      rw [if_neg (fun z => e z.symm)]
      simp at h ⊢; omega
theorem lexL_tr : ∀ x y z : List Int, lexL y x = false → lexL z y = false → lexL z x = false
  | [], [], [], _, _ => rfl
  | [], [], _ :: _, _, _ => by simp [lexL]
  | [], _ :: _, [], _, h => by simp [lexL] at h
  | [], _ :: _, _ :: _, _, _ => by simp [lexL]
  | _ :: _, [], _, h, _ => by simp [lexL] at h
  | _ :: _, _ :: _, [], _, h => by simp [lexL] at h
  | x :: xs, y :: ys, z :: zs, h1, h2 => by
    unfold lexL at h1 h2 ⊢
    by_cases e1 : y = x
    · rw [if_pos e1] at h1
      by_cases e2 : z = y
      · rw [if_pos e2] at h2
        rw [if_pos (e2.trans e1)]
        exact lexL_tr xs ys zs h1 h2
      · rw [if_neg e2] at h2
        rw [if_neg (by omega)]
        simp at h2 ⊢; omega
    · rw [if_neg e1] at h1
      by_cases e2 : z = y
      · rw [if_neg (by omega)]
        simp at h1 ⊢; omega
      · rw [if_neg e2] at h2
        simp at h1 h2
        rw [if_neg (by omega)]
        simp; omega
theorem lexL_tot : ∀ x y : List Int, lexL x y = false → lexL y x = false → x = y
  | [], [], _, _ => rfl
  | [], _ :: _, h, _ => by simp [lexL] at h
  | _ :: _, [], _, h => by simp [lexL] at h
  | x :: xs, y :: ys, h1, h2 => by
    unfold lexL at h1 h2
    by_cases e : x = y
    · rw [if_pos e] at h1
      rw [if_pos e.symm] at h2
      rw [e, lexL_tot xs ys h1 h2]
    · rw [if_neg e] at h1
      rw [if_neg (fun z => e z.symm)] at h2
      simp at h1 h2
      exact absurd (Int.le_antisymm h2 h1) e
section
variable {prog : Program} {w : World} {A : Around} {E : Value → Shared → Prop} {s : Shared}
theorem swo_lexL {α : Type} (k : α → List Int) : SrtO.Swo fun v u => lexL (k v) (k u) := ⟨fun x y h => lexL_asym _ _ h, fun x y z h1 h2 => lexL_tr _ _ _ h1 h2⟩
theorem kat_ints : ∀ {xs ys : List Value} {ns ms : List Int} {i : Nat} {Q : Bool → Shared → Prop} {fin : Bool}, IntsAre xs ns → IntsAre ys ms → fin = decide (xs.length < ys.length) → Q (lexL ns ms) s → PySem.W.KatLex prog w A true fin Q (xs.zip ys) i s
  | [], [], _, _, _, Q, fin, .nil, .nil, e, q => by
    subst e
    exact PySem.W.kat_nil q
  | [], _, _, _, _, Q, fin, .nil, .cons _ _ _, e, q => by
    subst e
    refine PySem.W.kat_nil ?_
    simpa [lexL] using q
  | _, [], _, _, _, Q, fin, .cons _ _ _, .nil, e, q => by
    subst e
    refine PySem.W.kat_nil ?_
    simpa [lexL] using q
  | _, _, _, _, i, Q, fin, .cons n t rx, .cons m u ry, e, q => by
    refine PySem.W.kat_cons (SeqAt.EqAt.int_int n t m u prog w _ _ ?_)
    refine PySem.W.kat_go (fun e1 => ?_) (fun e1 => ?_)
    · have ex : n = m := by simpa using e1
      refine PySem.W.kat_yes (kat_ints rx ry (by rw [e]; simp) ?_)
      simpa [lexL, ex] using q
    · have ex : ¬ n = m := by simpa using e1
      refine PySem.W.kat_no (TS.oneLt_ints _ ?_)
      simpa [lexL, ex] using q
theorem tups_cmp {vs : List Value} {k : Value → List Int} (hp : ∀ v ∈ vs, TS.TupInts s.heap v (k v)) : SrtO.Cmp prog w A s (tuples' true) (fun p => p.1 ∈ vs) (SrtO.lt2 fun v u => lexL (k v) (k u)) := by
  intro p q hm hm'
  have h1 := hp _ hm
  have h2 := hp _ hm'
  show wpAny (model prog w) A (keyLt' (tuples' true) p.1 q.1) (fun r s' => s' = s ∧ r = lexL (k p.1) (k q.1)) (fun _ _ => False) s
  obtain ⟨a, xs, e, ⟨o, ho, hc, n, hd⟩, i1⟩ := h1
  obtain ⟨a', ys, e', ⟨o', ho', hc', n', hd'⟩, i2⟩ := h2
  rw [e, e'] at *
  refine PySem.W.kat_lt ho hd ho' hd' ?_
  exact kat_ints i1 i2 rfl ⟨rfl, rfl⟩
theorem tups_firsts {h : Heap} {k : Value → List Int} : ∀ {vs : List Value}, (∀ v ∈ vs, TS.TupInts h v (k v) ∧ k v ≠ []) → ∃ fs : List Value, PySem.W.KatTups h vs fs ∧ fs.length = vs.length ∧ ∀ f ∈ fs, ∃ x t, f = Value.int x t
  | [], _ => ⟨[], PySem.W.KatTups.nil, rfl, fun _ hm => by simp at hm⟩
  | v :: vs, hp => by
    obtain ⟨fs, h1, h2, h3⟩ := tups_firsts (vs := vs) fun v' hm => hp v' (List.mem_cons_of_mem _ hm)
    obtain ⟨⟨a, xs, e, ⟨o, ho, hc, n, hd⟩, i1⟩, hne⟩ := hp v (List.mem_cons_self ..)
    generalize k v = ns at i1 hne
    cases xs with
    | mk l =>
      simp only at i1
      cases i1 with
      | nil => exact absurd rfl hne
      | cons x t r =>
        subst e
        refine ⟨.int x t :: fs, PySem.W.KatTups.cons ho hc hd rfl h1, by rw [List.length_cons, List.length_cons, h2], fun f hm => ?_⟩
        rcases List.mem_cons.mp hm with rfl | hm
        · exact ⟨x, t, rfl⟩
        · exact h3 f hm
theorem tups_sortableO {a : Addr} {vs : List Value} {k : Value → List Int} (h0 : 0 < vs.length) (hp : ∀ v ∈ vs, TS.TupInts s.heap v (k v) ∧ k v ≠ []) (ha : ∀ o, s.heap.get? a = some o → o.cls ≠ .type "tuple") : SrtO.SortableO prog w A s a vs fun v u => lexL (k v) (k u) := by
  intro h' keep
  have hp' : ∀ v ∈ vs, TS.TupInts h' v (k v) ∧ k v ≠ [] := fun v hm => ⟨(hp v hm).1.keeps fun b o e c => keep b o (fun z => by subst z; exact ha o e c) e, (hp v hm).2⟩
  obtain ⟨fs, h1, h2, h3⟩ := tups_firsts hp'
  refine ⟨tuples' true, fun Q E hq => ?_, tups_cmp fun v hm => (hp' v hm).1⟩
  refine PySem.W.kat_kind (T := .type "int") h1 (by omega) (fun f hm => ?_) (by rfl) ?_
  · obtain ⟨x, t, rfl⟩ := h3 f hm
    exact PySem.W.Looks.now
  · have e : (Value.type "int" != Value.type "tuple") = true := by first | decide +kernel | rfl | decide
    rw [e]
    exact hq
end
def leI (a b : Int) : Bool := decide (a ≤ b)
def leL (a b : List Int) : Bool := !lexL b a
def sortI (ns : List Int) : List Int := ns.mergeSort leI
def sortL (ns : List (List Int)) : List (List Int) := ns.mergeSort leL
theorem sortI_uniq {ns ms : List Int} (p : ms.Perm ns) (s : ms.Pairwise (· ≤ ·)) : ms = sortI ns := by
  refine List.Perm.eq_of_pairwise (le := (· ≤ ·)) (fun a b _ _ h1 h2 => Int.le_antisymm h1 h2) s ?_ (p.trans (List.mergeSort_perm ns leI).symm)
  have := List.pairwise_mergeSort (le := leI) (fun a b c h1 h2 => by simp [leI] at *; omega) (fun a b => by simp [leI]; omega) ns
  exact this.imp fun h => by simpa [leI] using h
theorem sortL_uniq {ns ms : List (List Int)} (p : ms.Perm ns) (s : ms.Pairwise fun x y => lexL y x = false) : ms = sortL ns := by
  refine List.Perm.eq_of_pairwise (le := fun x y => lexL y x = false) (fun a b _ _ h1 h2 => lexL_tot _ _ h2 h1) s ?_ (p.trans (List.mergeSort_perm ns leL).symm)
  have := List.pairwise_mergeSort (le := leL) (fun a b c h1 h2 => by simp [leL] at *; exact lexL_tr _ _ _ h1 h2) (fun a b => by
    simp [leL]
    cases h : lexL b a with
    | false => exact .inl rfl
    | true => exact .inr (lexL_asym _ _ h)) ns
  exact this.imp fun h => by simpa [leL] using h

def RT (K : PySem.W.Frag) (H : Hp) (n : List Int) (x : V) : Prop := ∃ t, x = V.ref t ∧ SqT K H t (n.map V.int)
def RTU (K : PySem.W.Frag) (F : Hp) (n : List Int) (x : V) : Prop := ∃ t, x = V.ref t ∧ SqU K F t (n.map V.int)
def rSortedT (K : PySem.W.Frag) : List V → Hp → VK → Prop := fun vs H Q => ∃ (a : Addr) (xs : List V) (ts : List (List Int)) (R : List Int → V → Prop), vs = [V.ref a] ∧ SqL K H a xs ∧ (∀ n x, R n x → RT K H n x) ∧ Paired R ts xs ∧ (2 ≤ ts.length → ∀ t ∈ ts, t ≠ []) ∧
  ∀ ys p, Paired R (sortL ts) ys → H p = none → Q (.ref p) (upd H p (.lst ys))
theorem paired_memR {α β : Type} {R : α → β → Prop} : ∀ {xs : List α} {ys : List β}, Paired R xs ys → ∀ y ∈ ys, ∃ x ∈ xs, R x y
  | _, _, .nil, y, h => by cases h
  | _, _, .cons r rs, y, h => by
    rcases List.mem_cons.mp h with rfl | h
    · exact ⟨_, by simp, r⟩
    · obtain ⟨x, hx, q⟩ := paired_memR rs y h
      exact ⟨x, by simp [hx], q⟩
section
variable {X : Cx}
theorem cr_sortedT : CallR X (.builtin "sorted") (rSortedT X.K) := by
  intro pins s σ H vs us Q I r h
  obtain ⟨a, xs, ts, R, rfl, hs, hR, hx, hne, q⟩ := h
  obtain ⟨its, rv, hl, hz⟩ := I.list hs
  obtain ⟨u, rfl, ru⟩ := vals1 r
  obtain rfl : u = Value.ref a := ru
  obtain ⟨e1, e2⟩ := refs_back rv fun x m => by
    obtain ⟨_, _, z⟩ := paired_memR hx x m
    obtain ⟨t, e, _⟩ := hR _ _ z
    exact ⟨t, e⟩
  have tup : ∀ {t : Addr} {n : List Int}, SqT X.K H t (n.map V.int) → TS.TupInts s.heap (.ref t) n := fun {t n} ht => by
    obtain ⟨its2, r2, hT, _⟩ := I.tuple ht
    exact ⟨t, its2.toArray, rfl, hT, by simpa using r2.ints⟩
  have hk : ∀ v ∈ its, ∃ n ∈ ts, R n (backV v) ∧ RT X.K H n (backV v) ∧ TS.intsOf s.heap v = n := fun v hv => by
    obtain ⟨t, rfl⟩ := e2 v hv
    have hm : V.ref t ∈ xs := by rw [e1]; exact List.mem_map.mpr ⟨_, hv, rfl⟩
    obtain ⟨n, hn, z⟩ := paired_memR hx _ hm
    obtain ⟨t', e, ht⟩ := hR _ _ z
    cases e
    exact ⟨n, hn, z, ⟨t, rfl, ht⟩, (tup ht).ints⟩
  have hp : 2 ≤ ts.length → ∀ v ∈ its, TS.TupInts s.heap v (TS.intsOf s.heap v) ∧ TS.intsOf s.heap v ≠ [] := fun h2l v hv => by
    obtain ⟨n, hn, _, ⟨t, e, ht⟩, en⟩ := hk v hv
    obtain ⟨t', rfl⟩ := e2 v hv
    have : t' = t := by
      have : V.ref t' = V.ref t := e
      cases this; rfl
    subst this
    rw [en]
    exact ⟨tup ht, hne h2l n hn⟩
  have ek : its.map (TS.intsOf s.heap) = ts := by
    have : ∀ (its : List Value) (ts : List (List Int)), Paired R ts (its.map backV) → (∀ u ∈ its, ∃ a, u = Value.ref a) → its.map (TS.intsOf s.heap) = ts := by
      intro its
      induction its with
      | nil => intro ts h _; cases h; rfl
      | cons v its ih =>
        intro ts h hr
        cases h with
        | cons r rs =>
          obtain ⟨t, e, ht⟩ := hR _ _ r
          obtain ⟨t', rfl⟩ := hr v (by simp)
          have : t' = t := by
            have : V.ref t' = V.ref t := e
            cases this; rfl
          subst this
          rw [List.map_cons, ih _ rs fun u hu => hr u (by simp [hu]), (tup ht).ints]
    exact this its ts (by rw [← e1]; exact hx) e2
  refine SrtO.sorted_ord (swo_lexL fun u => TS.intsOf s.heap u) hl.isList (by rw [← rv.length]; exact hz) (fun h2 h₁ a' ha' kk => ?_) fun out h1 h2 => ?_
  · have h2l : 2 ≤ ts.length := by rw [← ek, List.length_map]; exact h2
    refine tups_sortableO (s := { s with heap := h₁ }) (by omega) (fun v hm => ⟨(hp h2l v hm).1.keeps fun b o e _ => (kk b o e).2, (hp h2l v hm).2⟩) fun o e => ?_
    have e' : some o = some (seqObj "list" its.toArray 0) := e.symm.trans ha'
    cases e'
    intro c
    exact absurd (Value.type.inj c) (by decide)
  · have h3 : ∀ u ∈ out, ∃ a, u = Value.ref a := fun u hu => e2 u (h2.perm.mem_iff.mp hu)
    obtain ⟨ep, he'⟩ := PyProof.Rows.sortedAll_at s.heap its out.toArray
    have hb : (out.map backV).Perm xs := by rw [e1]; exact h2.perm.map _
    have hlen : (out.map backV).length ≤ sizeLine := by rw [hb.length_eq]; exact hz
    have es : out.map (TS.intsOf s.heap) = sortL ts := by
      refine sortL_uniq (by rw [← ek]; exact h2.perm.map _) ?_
      rw [List.pairwise_map]
      exact h1
    have pr : Paired R (sortL ts) (out.map backV) := by
      rw [← es]
      have : ∀ out : List Value, (∀ u ∈ out, u ∈ its) → Paired R (out.map (TS.intsOf s.heap)) (out.map backV) := by
        intro out
        induction out with
        | nil => intro _; exact .nil
        | cons u out ih =>
          intro hu
          obtain ⟨n, _, hr, _, en⟩ := hk u (hu u (by simp))
          refine .cons (by rw [en]; exact hr) (ih fun v hv => hu v (by simp [hv]))
      exact this out fun u hu => h2.perm.mem_iff.mp hu
    exact ⟨.ref _, upd H (s.heap.objs.size + 1) (.lst (out.map backV)), I.laid (t' := s.toks) (fun _ _ => PyProof.Rows.sortedAll_old) (Nat.le_succ _) ⟨hlen, out, ep, vals_back h3, he'⟩, rfl, q _ _ pr (I.hok.fresh (Nat.le_succ _))⟩
end
def tupInts : D → Option (List Int)
  | .tup ds => intsOf ds
  | _ => none
def tupsOf : List D → Option (List (List Int))
  | [] => some []
  | d :: ds => match tupInts d, tupsOf ds with
    | some n, some ns => some (n :: ns)
    | _, _ => none
def dTup (ns : List Int) : D := .tup (ns.map .int)
def fSorted (ds : List D) (h : MH) (Q : MQ) : Prop := match ds with
  | [d] => match lsOf h d with
    | some xs => match intsOf xs with
      | some ns => Q (.lst ((sortI ns).map .int)) h
      | none => match tupsOf xs with
        | some ts => (2 ≤ ts.length → ∀ t ∈ ts, t ≠ []) ∧ Q (.lst ((sortL ts).map dTup)) h
        | none => False
    | none => False
  | _ => False
theorem intsOf_map {ds : List D} {ns : List Int} (e : intsOf ds = some ns) : ds = ns.map .int := by
  induction ds generalizing ns with
  | nil => simp only [intsOf, Option.some.injEq] at e; subst e; rfl
  | cons d ds ih =>
    cases d <;> simp only [intsOf, Option.map_eq_some_iff, reduceCtorEq] at e
    obtain ⟨ms, e, rfl⟩ := e
    rw [ih e]; rfl
theorem tupsOf_map {ds : List D} {ts : List (List Int)} (e : tupsOf ds = some ts) : ds = ts.map dTup := by
  induction ds generalizing ts with
  | nil => simp only [tupsOf, Option.some.injEq] at e; subst e; rfl
  | cons d ds ih =>
    simp only [tupsOf] at e
    split at e
    · rename_i n ns e1 e2
      simp only [Option.some.injEq] at e
      subst e
      cases d <;> simp only [tupInts, reduceCtorEq] at e1
      rw [ih e2, intsOf_map e1]; rfl
    · cases e
theorem intsOf_ints : ∀ ns : List Int, intsOf (ns.map D.int) = some ns
  | [] => rfl
  | n :: ns => by simp [intsOf, intsOf_ints ns]
theorem tups_rd {K : PySem.W.Frag} {F : Hp} : ∀ {ts : List (List Int)} {xs : List V}, RDs K F (ts.map dTup) xs → Paired (RTU K F) ts xs
  | [], _, .nil => .nil
  | t :: ts, _, .cons r rs => by
    refine .cons ?_ (tups_rd rs)
    cases r with
    | tup q r =>
      refine ⟨_, rfl, ?_⟩
      rw [ints_rd r (intsOf_ints t)] at q
      exact q
theorem rds_tups {K : PySem.W.Frag} {F : Hp} : ∀ {ts : List (List Int)} {ys : List V}, Paired (RTU K F) ts ys → RDs K F (ts.map dTup) ys
  | _, _, .nil => .nil
  | _, _, .cons ⟨t, e, q⟩ rs => by
    subst e
    exact .cons (.tup q (RDs.ints _)) (rds_tups rs)
theorem RT.mono {K : PySem.W.Frag} {F F' : Hp} (e : Same F F') {ts : List (List Int)} {ys : List V} (h : Paired (RTU K F) ts ys) : Paired (RTU K F') ts ys := by
  induction h with
  | nil => exact .nil
  | cons r _ ih =>
    obtain ⟨t, e1, q⟩ := r
    exact .cons ⟨t, e1, Same.sqU e q⟩ ih
theorem fSorted_d {K : PySem.W.Frag} : CallD K (fun vs H Q => rSortedI K vs H Q ∨ rSortedT K vs H Q) fSorted := fun F H h ds vs Q' Q s rs t c => by
  unfold fSorted at t
  split at t
  · obtain ⟨v, rfl, r⟩ := rds_one rs
    split at t
    · rename_i xs ex
      obtain ⟨p, ys, rfl, hp, r2⟩ := ls_rd s r ex
      split at t
      · rename_i ns en
        have := ints_rd r2 en
        subst this
        refine .inl ⟨p, ns, rfl, SqL.of hp, fun ns' q pr st nq => ?_⟩
        rw [sortI_uniq pr st]
        exact c.lst s nq (RDs.ints _) t
      · split at t
        · rename_i ts et
          rw [tupsOf_map et] at r2
          refine .inr ⟨p, ys, ts, RTU K F, rfl, SqL.of hp, fun n x ⟨a, e, q⟩ => ⟨a, e, Same.sqT s.fr q⟩, tups_rd r2, t.1, fun zs q pr nq => ?_⟩
          exact c.lst s nq (rds_tups pr) t.2
        · exact t.elim
    · exact t.elim
  · exact t.elim
section
variable {X : Cx} {B : Bs} {e : Expr} {es : List Expr} {wa : WA} {pos : Pos}
theorem m_sorted {p : Pos} (hm : X.mg "sorted" = none) (ha : MA X B (e :: es) wa) (hg : Gl X "sorted" := by rfl) (he : starEach (e :: es) X.env = (false, eval e X.env) :: starEach es X.env := by rfl) (hpl : (backTo pos (starEach es X.env)).any (·.1) = false := by rfl) :
    ME X B (.Call (.Name "sorted" p) (e :: es) [] pos) (wCB fSorted wa) := m_callB (cr_sortedI.or cr_sortedT) fSorted_d hm (by decide +kernel) ha hg (by decide) (by decide) he hpl
end
@[simp] theorem o_sortedI {ns : List Int} {h : MH} {Q : MQ} : fSorted [.lst (ns.map .int)] h Q = Q (.lst ((sortI ns).map .int)) h := by
  simp only [fSorted, ls_lst, intsOf_ints]
theorem tupsOf_tups : ∀ ts : List (List Int), tupsOf (ts.map dTup) = some ts
  | [] => rfl
  | t :: ts => by simp [tupsOf, tupInts, dTup, intsOf_ints, tupsOf_tups ts]
theorem o_sortedT {ts : List (List Int)} {h : MH} {Q : MQ} (h0 : ts ≠ []) (hn : ∀ t ∈ ts, t ≠ []) (q : Q (.lst ((sortL ts).map dTup)) h) : fSorted [.lst (ts.map dTup)] h Q := by
  cases ts with
  | nil => exact absurd rfl h0
  | cons t ts =>
    have : intsOf ((t :: ts).map dTup) = none := rfl
    unfold fSorted
    simp only [ls_lst, this, tupsOf_tups]
    exact ⟨fun _ => hn, q⟩
end BP

set_option maxRecDepth 100000
set_option maxHeartbeats 1000000
namespace BP
open PySem PySem.Spec PyProof.Rows L2 HT
section
variable {prog : Program} {w : World} {A : Around} {E : Value → Shared → Prop} {s : Shared}
theorem fm_map {α β : Type} {f : α → Option β} {g : α → β} : ∀ {l : List α}, (∀ m ∈ l, f m = some (g m)) → l.filterMap f = l.map g
  | [], _ => rfl
  | a :: l, h => by
    rw [List.filterMap_cons, h a (by simp), List.map_cons, fm_map fun m hm => h m (by simp [hm])]
theorem pick_rev (xs : Array Value) : ((List.range xs.size).filterMap fun (m : Nat) => xs[(((xs.size : Int) - 1) + (m : Int) * (-1)).toNat]?).toArray = xs.toList.reverse.toArray := by
  congr 1
  have e : ((List.range xs.size).filterMap fun (m : Nat) => xs[(((xs.size : Int) - 1) + (m : Int) * (-1)).toNat]?) = (List.range xs.size).map fun m => xs.toList.reverse.getD m .none := by
    apply fm_map
    intro m hm
    simp at hm
    have h1 : (((xs.size : Int) - 1) + (m : Int) * (-1)).toNat = xs.size - 1 - m := by omega
    have h2 : m < xs.toList.reverse.length := by simpa using hm
    rw [h1]
    simp [List.getD, h2, Array.getElem?_eq_getElem (show xs.size - 1 - m < xs.size by omega), hm]
  rw [e]
  apply List.ext_getElem
  · simp
  · intro i h1 h2
    simp at h1
    simp [List.getD, h1]
theorem sliceApplied_rev {sl : Addr} {vl vu vs : Value} {n : Nat} {Q : Int × Int × Nat → Shared → Prop} (hs : s.heap.IsSliceOf sl vl vu vs) (pl : IsPart vl none) (pu : IsPart vu none) (ps : IsPart vs (some (-1)))
    (h : Q ((n : Int) - 1, -1, n) s) : wpAny (model prog w) A (Builtin.Slice.sliceApplied (.ref sl) (pure (n : Int))) Q E s := by
  obtain ⟨os, hos, hcs, hds⟩ := id hs
  unfold Builtin.Slice.sliceApplied Builtin.Slice.sliceFields
  refine wpAny_bind (wpAny_bind (wpAny_field hos hds (x := vl) rfl (wpAny_bind (wpAny_field hos hds (x := vu) rfl (wpAny_bind (wpAny_field hos hds (x := vs) rfl (wpAny_pure ?_)))))))
  refine wpAny_bind (slicePart_ ps ?_)
  show wpAny _ _ (if ((-1 : Int) == 0) = true then _ else _) _ _ s
  rw [if_neg (by decide)]
  refine wpAny_bind (slicePart_ pl (wpAny_bind (slicePart_ pu (wpAny_bind (wpAny_pure ?_)))))
  show wpAny _ _ (match Builtin.Slice.sliceAdjust none none (-1) (n : Int) with | (lo, hi) => pure (lo, (-1 : Int), Builtin.Slice.slicePlaces lo hi (-1))) _ _ s
  have e1 : Builtin.Slice.sliceAdjust none none (-1) (n : Int) = ((n : Int) - 1, -1) := by
    unfold Builtin.Slice.sliceAdjust
    simp
  rw [e1]
  have e2 : Builtin.Slice.slicePlaces ((n : Int) - 1) (-1) (-1) = n := by
    unfold Builtin.Slice.slicePlaces
    simp
    omega
  show wpAny _ _ (pure ((n : Int) - 1, (-1 : Int), Builtin.Slice.slicePlaces ((n : Int) - 1) (-1) (-1))) _ _ s
  rw [e2]
  exact wpAny_pure h
theorem getItem_tuple_rev {t sl : Addr} {items : Array Value} {vl vu vs : Value} {Q : Value → Shared → Prop} (ht : IsTup s.heap t items) (hs : s.heap.IsSliceOf sl vl vu vs) (pl : IsPart vl none) (pu : IsPart vu none) (ps : IsPart vs (some (-1)))
    (h : Q (.ref s.heap.objs.size) { s with heap := s.heap.push { cls := .type "tuple", data := .seq items.toList.reverse.toArray } })
    (hsz : items.size ≤ sizeLine) : wpAny (model prog w) A (getItem (.ref t) (.ref sl)) Q E s := by
  have htake : sizeOk (.seq items.toList.reverse.toArray) := by
    show items.toList.reverse.toArray.size ≤ sizeLine
    rw [List.size_toArray, List.length_reverse, Array.length_toList]
    exact hsz
  obtain ⟨os, hos, hcs, hds⟩ := id hs
  have hTs : s.TypeIs (.ref sl) "slice" := ⟨os, hos, hcs⟩
  unfold getItem
  try with_reducible refine wpAny_holding ?_
  first | refine wpAny_bind (wpAny_pure ?_) | skip
  refine wpAny_bind (wpAny_sequenceKey ht.typeIs (by decide) ?_)
  refine wpAny_bind (wpAny_callSpecial?_slot (name := Str.ofString "__getitem__") ht.typeIs PyProof.Rows.slot_tuple_getitem
    (wpAny_call_entry PyProof.Rows.slot_tuple_getitem ht.typeIs entry_tuple_getitem ?_ (args_tuple_getitem _ _)))
  show wpAny _ _ (Builtin.Tuple.tupleItemsOf (.ref t) >>= _) _ _ s
  refine wpAny_bind (tupleItemsOf_ ht ?_)
  refine wpAny_bind (wpAny_typeOf hTs ?_)
  rw [if_pos (by decide)]
  refine wpAny_bind (sliceApplied_rev hs pl pu ps ?_)
  have hno : ¬ ((((items.size : Int) - 1) == 0 && (-1 : Int) == 1 && items.size == items.size) = true) := by
    intro q
    rw [Bool.and_eq_true, Bool.and_eq_true] at q
    exact absurd (eq_of_beq q.1.2) (by decide)
  show wpAny _ _ (if ((((items.size : Int) - 1) == 0 && (-1 : Int) == 1 && items.size == items.size) = true) then _ else _) _ _ s
  rw [if_neg hno, pick_rev]
  first
    | exact wpAny_bind (m := Builtin.Tuple.tupleExact _) (wpAny_newObj_type (wpAny_pure ⟨_, rfl, wpAny_pure h⟩) htake)
    | exact wpAny_bind (m := Builtin.Tuple.tupleExact _) (wpAny_newObj_type (wpAny_bind (wpAny_pure (wpAny_pure ⟨_, rfl, wpAny_pure h⟩))) htake)
    | exact wpAny_bind (wpAny_bind (m := Builtin.Tuple.tupleExact _) (wpAny_newObj_type (wpAny_pure (wpAny_pure ⟨_, rfl, wpAny_pure h⟩)) htake))
    | exact wpAny_bind (wpAny_bind (m := Builtin.Tuple.tupleExact _) (wpAny_newObj_type (wpAny_pure ⟨_, rfl, wpAny_pure h⟩) htake))
end
section
variable {X : Cx}
def tRevA (K : PySem.W.Frag) (te : TE) : TE := fun σ H Q => te σ H fun x H1 => (∃ a xs, x = .ref a ∧ SqL K H1 a xs ∧ ∀ p, H1 p = none → Q (.ref p) (upd H1 p (.lst xs.reverse))) ∨ (∃ a xs, x = .ref a ∧ SqT K H1 a xs ∧ ∀ p, H1 p = none → Q (.ref p) (upd H1 p (.tup xs.reverse)))
theorem pe_revA {e : Expr} {te : TE} {k : Nat} {p1 p2 p3 pos : Pos} (he : PE X e te) : PE X (.Subscript e (.Slice none none (some (.UnaryOp .USub (.Constant (.int 1) k p1) p2)) p3) pos) (tRevA X.K te) := by
  refine ⟨fun pins s σ H Q I h => ?_⟩
  refine Subscript_ (thn (he.run pins s σ H _ I h) fun v s1 ⟨x, H1, I1, r1, q1⟩ => ?_)
  have hst : PO X (some (.UnaryOp .USub (.Constant (.int 1) k p1) p2)) (tPart (tUn (rU fun i => .int (-i)) (tC (.int 1)))) := po_some (pe_un un_neg pe_int)
  refine wpAny_Slice (thn (po_none.run pins s1 σ H1 (fun o H2 => o = none ∧ H2 = H1) I1 ⟨rfl, rfl⟩) fun vl s2 ⟨l, H2, I2, pl, el, e2⟩ => ?_)
  subst el e2
  refine thn (po_none.run pins s2 σ H2 (fun o H3 => o = none ∧ H3 = H2) I2 ⟨rfl, rfl⟩) fun vu s3 ⟨u, H3, I3, pu, eu, e3⟩ => ?_
  subst eu e3
  refine thn (hst.run pins s3 σ H3 (fun o H4 => o = some (-1) ∧ H4 = H3) I3 ⟨1, rfl, -1, rfl, rfl, rfl⟩) fun vs s4 ⟨o, H4, I4, ps, eo, e4⟩ => ?_
  subst eo e4
  have I5 : Inv X pins σ H4 { s4 with heap := s4.heap.push { cls := .type "slice", data := .fields #[vl, vu, vs] } } := I4.kept (t' := s4.toks) fun b ob q => Heap.get?_push_of_some _ q
  rcases q1 with ⟨a, xs, ex, hx, q⟩ | ⟨a, xs, ex, hx, q⟩
  · subst ex
    cases r1
    obtain ⟨its, r, ht, hz⟩ := I5.list hx
    have hlen := r.length
    show wpAny (model X.prog X.w) X.A (subscriptTail e (.Slice none none (some (.UnaryOp .USub (.Constant (.int 1) k p1) p2)) p3) (.ref a) (.ref s4.heap.objs.size)) (EP X pins σ Q) X.xe { s4 with heap := s4.heap.push { cls := .type "slice", data := .fields #[vl, vu, vs] } }
    refine tail_any (ops := [.ref a, .ref s4.heap.objs.size]) ht.isList.typeIs (PySem.slot_list_getitem.lookup) ?_ (by with_unfolding_all rfl)
    refine wpAny_getItem_list_slice ht.isList (Heap.IsSliceOf.new _ vl vu vs) pl pu ps (by decide) ?_ (by rw [List.size_toArray]; omega)
    rw [PySem.W.krv_pick]
    refine ⟨.ref _, _, I5.laid (t' := s4.toks) (o := .lst xs.reverse) (fun b ob q => Heap.get?_push_of_some _ q) (Nat.le_refl _) ?_, rfl, q _ (I5.hok.fresh (Nat.le_refl _))⟩
    exact ⟨by rw [List.length_reverse]; exact hz, _, 0, r.reverse, Heap.get?_push_size _ rfl⟩
  · subst ex
    cases r1
    obtain ⟨its, r, ht, hz⟩ := I5.tuple hx
    have hlen := r.length
    show wpAny (model X.prog X.w) X.A (subscriptTail e (.Slice none none (some (.UnaryOp .USub (.Constant (.int 1) k p1) p2)) p3) (.ref a) (.ref s4.heap.objs.size)) (EP X pins σ Q) X.xe { s4 with heap := s4.heap.push { cls := .type "slice", data := .fields #[vl, vu, vs] } }
    refine tail_any (ops := [.ref a, .ref s4.heap.objs.size]) ht.typeIs (PyProof.Rows.slot_tuple_getitem.lookup) ?_ (by with_unfolding_all rfl)
    refine getItem_tuple_rev ht (Heap.IsSliceOf.new _ vl vu vs) pl pu ps ?_ (by rw [List.size_toArray]; omega)
    refine ⟨.ref _, _, I5.laid (t' := s4.toks) (o := .tup xs.reverse) (fun b ob q => Heap.get?_push_of_some _ q) (Nat.le_refl _) ?_, rfl, q _ (I5.hok.fresh (Nat.le_refl _))⟩
    exact ⟨by rw [List.length_reverse]; exact hz, _, r.reverse, IsTup.new _ _⟩
variable {B : Bs} {e : Expr} {ta : WE} {pos : Pos}
def unRevA (x : D) (h : MH) (Q : MQ) : Prop := match x with
  | .tup xs => Q (.tup xs.reverse) h
  | x => match lsOf h x with
    | some xs => Q (.lst xs.reverse) h
    | none => False
theorem m_revA {k : Nat} {p1 p2 p3 : Pos} (he : ME X B e ta) : ME X B (.Subscript e (.Slice none none (some (.UnaryOp .USub (.Constant (.int 1) k p1) p2)) p3) pos) (wUn unRevA ta) :=
  pe_mono (pe_revA he) fun σ H Q ⟨F, h, σd, Q', l, s, t, c⟩ => ⟨F, h, σd, _, l, s, t, fun F1 H1 h1 x u g1 rx t1 => by
    unfold unRevA at t1
    split at t1
    · cases rx with
      | tup q r => exact .inr ⟨_, _, rfl, Same.sqT g1.sr.fr q, fun p hp => (c.go g1).tup g1.sr hp r.rev t1⟩
    · split at t1
      · rename_i xs ex
        obtain ⟨q, ys, rfl, hq, r2⟩ := ls_rd g1.sr rx ex
        exact .inl ⟨q, ys, rfl, SqL.of hq, fun p hp => (c.go g1).lst g1.sr hp r2.rev t1⟩
      · exact t1.elim⟩
@[simp] theorem o_revT {xs : List D} {h : MH} {Q : MQ} : unRevA (.tup xs) h Q = Q (.tup xs.reverse) h := (rfl)
@[simp] theorem o_revL {xs : List D} {h : MH} {Q : MQ} : unRevA (.lst xs) h Q = Q (.lst xs.reverse) h := (rfl)
end
end BP

set_option maxRecDepth 100000
set_option maxHeartbeats 1000000
namespace BP
open PySem PySem.Spec PyProof.Rows L2
section
variable {X : Cx} {B : Bs} {a b : Expr} {ta tb : WE} {pos : Pos} {d : Addr} {tab : List (Str × D)}
def fInK (neg : Bool) (tab : List (Str × D)) (x : D) (h : MH) (Q : MQ) : Prop := match x with
  | .str z => Q (.bl (if neg then !(tab.lookup z).isSome else (tab.lookup z).isSome)) h
  | _ => False
def fGetK (tab : List (Str × D)) (x : D) (h : MH) (Q : MQ) : Prop := match x with
  | .str z => match tab.lookup z with
    | some dd => Q dd h
    | none => False
  | _ => False
@[simp] theorem o_inK {neg : Bool} {z : Str} {h : MH} {Q : MQ} : fInK neg tab (.str z) h Q = Q (.bl (if neg then !(tab.lookup z).isSome else (tab.lookup z).isSome)) h := (rfl)
@[simp] theorem o_getK {z : Str} {h : MH} {Q : MQ} : fGetK tab (.str z) h Q = match tab.lookup z with
    | some dd => Q dd h
    | none => False := (rfl)
end
section
variable {X : Cx} {B : Bs} {pos : Pos} {wa : WA}
def wPar3 (i j k : Nat) (t : WA) : WS := fun D σ h => t σ h fun ds h1 => match ds with
  | [d, e, f] => D.nx (((σ.set i (some d)).set j (some e)).set k (some f)) h1
  | _ => False
theorem rds_three {K : PySem.W.Frag} {F : Hp} {d e f : D} {vs : List V} (r : RDs K F [d, e, f] vs) : ∃ v w z, vs = [v, w, z] ∧ RD K F d v ∧ RD K F e w ∧ RD K F f z := by
  cases r with
  | cons q r =>
    obtain ⟨w, z, rfl, q2, q3⟩ := rds_two r
    exact ⟨_, _, _, rfl, q, q2, q3⟩
theorem ms_par3 (i j l : Nat) {x y z : Str} {a b c : Expr} {px py pz pt : Pos} {kt k2 pt2} (hc : X.calm = true) (hN : X.N.Nodup) (ha : MA X B [a, b, c] wa) (hi : X.N[i]? = some x := by rfl) (hj : X.N[j]? = some y := by rfl) (hl : X.N[l]? = some z := by rfl) (hij : i ≠ j := by decide) (hil : i ≠ l := by decide) (hjl : j ≠ l := by decide)
    (hx : X.env.scope.names.lookup x = some .local := by rfl) (hy : X.env.scope.names.lookup y = some .local := by rfl) (hz : X.env.scope.names.lookup z = some .local := by rfl)
    (hw : swappedStores [.Tuple [.Name x px, .Name y py, .Name z pz] kt pt] (.Tuple [a, b, c] k2 pt2) X.env = pure (some [x, y, z]) := by rfl)
    (hs : swapsWithSole [.Tuple [.Name x px, .Name y py, .Name z pz] kt pt] (.Tuple [a, b, c] k2 pt2) pos.line X.env = pure false := by rfl) :
    MS X B (.Assign [.Tuple [.Name x px, .Name y py, .Name z pz] kt pt] (.Tuple [a, b, c] k2 pt2) pos) (wPar3 i j l wa) :=
  ps_mono (ps_par3 hc hN hi hj hl hij hil hjl hx hy hz ha hw hs) fun E σ H ⟨F, h, σd, D', l', s, t, c⟩ => ⟨F, h, σd, _, l', s, t, fun F1 H1 h1 ds vs g1 rs t1 => by
    split at t1
    · obtain ⟨v, w, u, rfl, r1, r2, r3⟩ := rds_three rs
      exact ⟨v, w, u, rfl, c.nx F1 H1 h1 _ _ g1 ((((l'.mono g1.ss).set r1 i).set r2 j).set r3 l) t1⟩
    · exact t1.elim⟩
@[simp] theorem r_par3 {D0 : MEnds} {σ : MSt} {h : MH} {i j k : Nat} : wPar3 i j k wa D0 σ h = wa σ h fun ds h1 => match ds with
  | [d, e, f] => D0.nx (((σ.set i (some d)).set j (some e)).set k (some f)) h1
  | _ => False := (rfl)
end
end BP

set_option maxRecDepth 100000
set_option maxHeartbeats 1000000
namespace BP
open PySem PySem.Spec PyProof.Rows L2
def keyD : D → Option Key
  | .int i => some (.inl i)
  | .str x => some (.inr x)
  | _ => none
def kD : Key → D
  | .inl i => .int i
  | .inr x => .str x
def dcOf (h : MH) : D → Option (List (Key × D))
  | .dct kvs => some kvs
  | .ref a => match h a with
    | some (.dct kvs) => some kvs
    | _ => none
  | _ => none
def atD (kvs : List (Key × D)) (k : Key) : Option D := (kvs.find? fun kv => decide (kv.1 = k)).map (·.2)
def putD (kvs : List (Key × D)) (k : Key) (v : D) : List (Key × D) :=
  if (kvs.any fun kv => decide (kv.1 = k)) = true then kvs.map (fun kv => if kv.1 = k then (kv.1, v) else kv) else kvs ++ [(k, v)]
section
variable {K : PySem.W.Frag} {F H : Hp} {h : MH}
theorem key_rd {d : D} {v : V} {k : Key} (r : RD K F d v) (e : keyD d = some k) : v = kV k := by
  cases r <;> simp only [keyD, Option.some.injEq, reduceCtorEq] at e <;> subst e <;> rfl
theorem rd_key (k : Key) : RD K F (kD k) (kV k) := by
  cases k with
  | inl i => exact .int i
  | inr x => exact .str x
def dcR (h : MH) : D → Option (List (Key × D))
  | .dcl kvs => some kvs
  | d => dcOf h d
theorem dc_rd (s : SR K F H h) {d : D} {v : V} {kvs : List (Key × D)} (r : RD K F d v) (e : dcOf h d = some kvs) : ∃ a xs, v = .ref a ∧ H a = some (.dK xs) ∧ RDk K F kvs xs := by
  cases r with
  | dct q r => simp only [dcOf, Option.some.injEq] at e; subst e; exact ⟨_, _, rfl, s.fr _ _ q, r⟩
  | ref a =>
    simp only [dcOf] at e
    split at e <;> simp only [Option.some.injEq, reduceCtorEq] at e
    rename_i ds' em
    subst e
    obtain ⟨_, xs, q, r⟩ := s.cell a _ em
    exact ⟨a, xs, rfl, q, r⟩
  | _ => simp [dcOf] at e
theorem dcR_rd (s : SR K F H h) {d : D} {v : V} {kvs : List (Key × D)} (r : RD K F d v) (e : dcR h d = some kvs) : ∃ a xs, v = .ref a ∧ Rd H a (.dK xs) ∧ RDk K F kvs xs := by
  by_cases hd : ∃ kv, d = .dcl kv
  · obtain ⟨kv, rfl⟩ := hd
    cases r with
    | dcl q r => simp only [dcR, Option.some.injEq] at e; subst e; exact ⟨_, _, rfl, .inr ⟨_, s.fr _ _ q⟩, r⟩
  · have e2 : dcR h d = dcOf h d := by
      cases d with
      | dcl kv => exact absurd ⟨kv, rfl⟩ hd
      | _ => rfl
    rw [e2] at e
    obtain ⟨a, xs, h1, h2, h3⟩ := dc_rd s r e
    exact ⟨a, xs, h1, .inl h2, h3⟩
theorem DGet.kR {a : Addr} {xs : List (Key × V)} {k : Key} (e : Rd H a (.dK xs)) : DGet H a (kV k) (valV xs k) := .inl ⟨xs, k, e, rfl, rfl⟩
theorem val_rd {k : Key} : ∀ {kvs : List (Key × D)} {xs : List (Key × V)}, RDk K F kvs xs → (∀ d, atD kvs k = some d → ∃ v, valV xs k = some v ∧ RD K F d v) ∧ (atD kvs k = none → valV xs k = none)
  | _, _, .nil => ⟨fun d e => by simp [atD] at e, fun _ => rfl⟩
  | _, _, .cons (k := k0) (d := d0) (ds := ds) (vs := vs) r rs => by
    obtain ⟨i1, i2⟩ := val_rd (k := k) rs
    by_cases hk : k0 = k
    · subst hk
      refine ⟨fun d e => ?_, fun e => ?_⟩
      · simp [atD] at e
        subst e
        exact ⟨_, valV_pos rfl, r⟩
      · simp [atD] at e
    · refine ⟨fun d e => ?_, fun e => ?_⟩
      · have : atD ds k = some d := by simpa [atD, List.find?_cons, hk] using e
        obtain ⟨v, h1, h2⟩ := i1 d this
        exact ⟨v, by rw [valV_neg hk]; exact h1, h2⟩
      · have : atD ds k = none := by simpa [atD, List.find?_cons, hk] using e
        rw [valV_neg hk]; exact i2 this
theorem any_rd {k : Key} : ∀ {kvs : List (Key × D)} {xs : List (Key × V)}, RDk K F kvs xs → (kvs.any fun kv => decide (kv.1 = k)) = xs.any fun kv => decide (kv.1 = k)
  | _, _, .nil => rfl
  | _, _, .cons r rs => by rw [List.any_cons, List.any_cons, any_rd rs]
theorem put_rd1 {k : Key} {d : D} {v : V} (r : RD K F d v) : ∀ {kvs : List (Key × D)} {xs : List (Key × V)}, RDk K F kvs xs → RDk K F (kvs.map fun kv => if kv.1 = k then (kv.1, d) else kv) (xs.map fun kv => if kv.1 = k then (kv.1, v) else kv)
  | _, _, .nil => .nil
  | _, _, .cons (k := k0) q rs => by
    rw [List.map_cons, List.map_cons]
    by_cases hk : k0 = k
    · simp only [hk, if_true]; exact .cons r (put_rd1 r rs)
    · simp only [hk, if_false]; exact .cons q (put_rd1 r rs)
theorem put_rd2 {k : Key} {d : D} {v : V} (r : RD K F d v) : ∀ {kvs : List (Key × D)} {xs : List (Key × V)}, RDk K F kvs xs → RDk K F (kvs ++ [(k, d)]) (xs ++ [(k, v)])
  | _, _, .nil => .cons r .nil
  | _, _, .cons q rs => .cons q (put_rd2 r rs)
theorem put_rd {k : Key} {d : D} {v : V} (r : RD K F d v) {kvs : List (Key × D)} {xs : List (Key × V)} (rs : RDk K F kvs xs) : RDk K F (putD kvs k d) (putK xs k v) := by
  unfold putD putK
  rw [any_rd rs]
  split
  · exact put_rd1 r rs
  · exact put_rd2 r rs
theorem rdk_len : ∀ {kvs : List (Key × D)} {xs : List (Key × V)}, RDk K F kvs xs → kvs.length = xs.length
  | _, _, .nil => rfl
  | _, _, .cons _ rs => by rw [List.length_cons, List.length_cons, rdk_len rs]
end
section
variable {X : Cx} {B : Bs} {a b e o i v : Expr} {ta tb te to ti tv : WE} {pos pos' : Pos} {es : List Expr} {wa : WA}
def opInDc (neg : Bool) (x y : D) (h : MH) (Q : MQ) : Prop := match keyD x, dcR h y with
  | some k, some kvs => Q (.bl (if neg then !(atD kvs k).isSome else (atD kvs k).isSome)) h
  | _, _ => False
theorem inDc_core {K : PySem.W.Frag} {F H : Hp} {h : MH} (s : SR K F H h) {x y : D} {u w : V} {neg : Bool} {Q' : MQ} (rx : RD K F x u) (ry : RD K F y w) (t : opInDc neg x y h Q') : ∃ a r, w = .ref a ∧ DGet H a u r ∧ Q' (.bl (if neg then !r.isSome else r.isSome)) h := by
  unfold opInDc at t
  split at t
  · rename_i k kvs ek ed
    obtain ⟨p, xs, rfl, hp, rk⟩ := dcR_rd s ry ed
    cases key_rd rx ek
    refine ⟨p, valV xs k, rfl, DGet.kR hp, ?_⟩
    obtain ⟨h1, h2⟩ := val_rd (k := k) rk
    cases hv : atD kvs k with
    | none => rw [h2 hv]; rw [hv] at t; exact t
    | some d =>
      obtain ⟨v, e1, _⟩ := h1 d hv
      rw [e1]; rw [hv] at t; exact t
  · exact t.elim
theorem m_inDc (hu : X.A.units + 1 < cLine) (ha : ME X B a ta) (hb : ME X B b tb) (hm : behindInMarks .In b = false := by first | exact nomark _ | with_unfolding_all rfl) : ME X B (.Compare a [.In] [b] pos) (wOp (opInDc false) ta tb) :=
  pe_mono (pe_cmp (pc_din hu ha hb) hm) fun σ H Q ⟨F, h, σd, Q', l, s, t, c⟩ => ⟨F, h, σd, _, l, s, t, fun F1 H1 h1 x u g1 rx t1 => ⟨F1, h1, σd, _, l.mono g1.ss, s.go g1, t1, fun F2 H2 h2 y v g2 ry t2 => by
    obtain ⟨p, r, e, g, q⟩ := inDc_core g2.sr (rx.mono g2.ss) ry t2
    exact ⟨p, r, e, g, c F2 H2 h2 _ _ (g1.trans g2) (.bl _) q⟩⟩⟩
theorem mt_notinDc (hu : X.A.units + 1 < cLine) (ha : ME X B a ta) (hb : ME X B b tb) (hm : behindInMarks .NotIn b = false := by first | exact nomark _ | with_unfolding_all rfl) : MT X B (.Compare a [.NotIn] [b] pos) (wTest (wOp (opInDc true) ta tb)) :=
  pt_mono (pt_cmp (pc_dnotin hu ha hb) hm) fun σ H Q ⟨F, h, σd, Q', l, s, t, c⟩ => ⟨F, h, σd, _, l, s, t, fun F1 H1 h1 x u g1 rx t1 => ⟨F1, h1, σd, _, l.mono g1.ss, s.go g1, t1, fun F2 H2 h2 y v g2 ry t2 => by
    obtain ⟨p, r, e, g, q⟩ := inDc_core g2.sr (rx.mono g2.ss) ry t2
    exact ⟨p, r, e, g, _, rfl, c F2 H2 h2 _ (g1.trans g2) q⟩⟩⟩
def opGetDc (x y : D) (h : MH) (Q : MQ) : Prop := match dcR h x, keyD y with
  | some kvs, some k => match atD kvs k with
    | some d => Q d h
    | none => False
  | _, _ => False
theorem m_getDc (hu : X.A.units + 1 < cLine) (ha : ME X B a ta) (hb : ME X B b tb) (hs : NoSl b := by intro _ _; rfl) : ME X B (.Subscript a b pos) (wOp opGetDc ta tb) :=
  pe_mono (pe_dget hu ha hb hs) fun σ H Q ⟨F, h, σd, Q', l, s, t, c⟩ => ⟨F, h, σd, _, l, s, t, fun F1 H1 h1 x u g1 rx t1 => ⟨F1, h1, σd, _, l.mono g1.ss, s.go g1, t1, fun F2 H2 h2 y v g2 ry t2 => by
    unfold opGetDc at t2
    split at t2
    · rename_i kvs k ed ek
      split at t2
      · rename_i d hv
        obtain ⟨p, xs, rfl, hp, rk⟩ := dcR_rd g2.sr (rx.mono g2.ss) ed
        cases key_rd ry ek
        obtain ⟨w, e1, rw'⟩ := (val_rd (k := k) rk).1 d hv
        refine ⟨p, w, rfl, ?_, c F2 H2 h2 _ _ (g1.trans g2) rw' t2⟩
        rw [← e1]
        exact DGet.kR hp
      · exact t2.elim
    · exact t2.elim⟩⟩
def wPutDc (to ti tv : WE) : WS := fun D σ h => tv σ h fun d h1 => to σ h1 fun x h2 => ti σ h2 fun y h3 => match x, keyD y with
  | .ref a, some k => match h3 a with
    | some (.dct kvs) => kvs.length < sizeLine ∧ D.nx σ (mupd h3 a (.dct (putD kvs k d)))
    | _ => False
  | _, _ => False
theorem ms_putDc (hu : X.A.units + 1 < cLine) (ho : ME X B o to) (hi : ME X B i ti) (hv : ME X B v tv) (hs : swapsWith v (some (.Subscript o i pos')) pos.line X.env = pure false := by rfl) : MS X B (.Assign [.Subscript o i pos'] v pos) (wPutDc to ti tv) :=
  ps_mono (ps_dput hu ho hi hv hs) fun E σ H ⟨F, h, σd, D', l, s, t, c⟩ => ⟨F, h, σd, _, l, s, t, fun F1 H1 h1 d w g1 rd t1 => ⟨F1, h1, σd, _, l.mono g1.ss, s.go g1, t1, fun F2 H2 h2 x u g2 rx t2 => ⟨F2, h2, σd, _, l.mono (g1.trans g2).ss, s.go (g1.trans g2), t2, fun F3 H3 h3 y z g3 ry t3 => by
    split at t3
    · rename_i p k ek
      have rx3 := rx.mono g3.ss
      cases rx3
      cases key_rd ry ek
      split at t3
      · rename_i kvs em
        obtain ⟨_, xs, q, rk⟩ := g3.sr.cell _ _ em
        refine ⟨p, _, rfl, DPut.k q (by rw [← rdk_len rk]; exact t3.1), ?_⟩
        exact c.nx _ _ _ _ _ (((g1.trans g2).trans g3).trans (Go.write (c := .dct (putD kvs k d)) g3.sr em ⟨_, upd_same, put_rd ((rd.mono g2.ss).mono g3.ss) rk⟩)) (l.mono ((g1.trans g2).trans g3).ss) t3.2
      · exact t3.elim
    · exact t3.elim⟩⟩⟩
def wFzD (i : Nat) (t : WS) : WS := fun D σ h => match σ[i]? with
  | some (some (.ref a)) => match h a with
    | some (.dct kvs) => t D (σ.set i (some (.dct kvs))) (mdel h a)
    | _ => False
  | some (some (.dct _)) => t D σ h
  | _ => False
theorem ms_fzD {sts : List Stmt} {t : WS} (i : Nat) (h : MSs X B sts t) : MSs X B sts (wFzD i t) := pss_mono h fun E σ H ⟨F, h, σd, D', l, s, t, c⟩ => by
  unfold wFzD at t
  split at t
  · rename_i a ea
    split at t
    · rename_i kvs em
      obtain ⟨v, ev, rv⟩ := l.get _ _ ea
      cases rv
      obtain ⟨_, xs, q, r⟩ := s.cell _ _ em
      have g := Go.settle s.sr em q
      exact ⟨_, _, _, D', (l.mono g.ss).setD (.dct upd_same (r.mono g.ss)) ev, s.go g, t, c.go g⟩
    · exact t.elim
  · exact ⟨F, h, σd, D', l, s, t, c⟩
  · exact t.elim
end
section
variable {h : MH} {Q : MQ} {x y : D} {a : Addr} {kvs : List (Key × D)} {k : Key} {i : Int} {neg : Bool} {D0 : MEnds} {σ : MSt}
@[simp] theorem k_int : keyD (.int i) = some (.inl i) := (rfl)
@[simp] theorem k_str {z : Str} : keyD (.str z) = some (.inr z) := (rfl)
@[simp] theorem dc_dct : dcOf h (.dct kvs) = some kvs := (rfl)
@[simp] theorem dc_ref : dcOf h (.ref a) = match h a with
  | some (.dct kvs) => some kvs
  | _ => none := (rfl)
@[simp] theorem o_inDc : opInDc neg x y h Q = match keyD x, dcR h y with
  | some k, some kvs => Q (.bl (if neg then !(atD kvs k).isSome else (atD kvs k).isSome)) h
  | _, _ => False := (rfl)
@[simp] theorem o_getDc : opGetDc x y h Q = match dcR h x, keyD y with
  | some kvs, some k => match atD kvs k with
    | some d => Q d h
    | none => False
  | _, _ => False := (rfl)
@[simp] theorem r_putDc {to ti tv : WE} : wPutDc to ti tv D0 σ h = tv σ h fun d h1 => to σ h1 fun x h2 => ti σ h2 fun y h3 => match x, keyD y with
  | .ref a, some k => match h3 a with
    | some (.dct kvs) => kvs.length < sizeLine ∧ D0.nx σ (mupd h3 a (.dct (putD kvs k d)))
    | _ => False
  | _, _ => False := (rfl)
@[simp] theorem r_fzD {i : Nat} {t : WS} : wFzD i t D0 σ h = match σ[i]? with
  | some (some (.ref a)) => match h a with
    | some (.dct kvs) => t D0 (σ.set i (some (.dct kvs))) (mdel h a)
    | _ => False
  | some (some (.dct _)) => t D0 σ h
  | _ => False := (rfl)
theorem putD_new (e : atD kvs k = none) {v : D} : putD kvs k v = kvs ++ [(k, v)] := by
  unfold putD
  rw [if_neg]
  intro hz
  rw [List.any_eq_true] at hz
  obtain ⟨kv, h1, h2⟩ := hz
  unfold atD at e
  simp at e h2
  exact e kv.1 kv.2 h1 h2
end
end BP

set_option maxRecDepth 100000
set_option maxHeartbeats 1000000
namespace BP
open PySem PySem.Spec PyProof.Rows L2
section
variable {M : Model} {A : Around} {E : Value → Shared → Prop} {s : Shared} {env : Env}
theorem callWith_type_kwB {pos : Pos} {T : String} {first : List Value} {args : List (Bool × Sem Value)} {keywords : List (Option Str × Sem Value)} {Q : Value → Shared → Prop}
    (hplain : args.any (·.1) = false) (hkw : keywords.any (·.1.isNone) = false)
    (h : wpAny M A (evalArgs (.type T) true args keywords) (fun a s₁ => wpAny M A (call (.type T) (first ++ a.pos) a.kw) Q E s₁) E s) :
    wpAny M A (callWith pos (.type T) first args keywords) Q E s := by
  unfold callWith
  refine wpAny_bind (wpAny_holding (wpAny_mono h (fun a s₁ h₁ => wpAny_bind (wpAny_standAt ?_)) fun _ _ x => x))
  simp only [hplain, hkw, Bool.or_false]
  refine wpAny_bind (wpAny_pure ?_)
  exact wpAny_bind (wpAny_mono h₁ (fun r s₂ hr => wpAny_bind (wpAny_holding (wpAny_point (wpAny_pure hr)))) fun _ _ x => x)
end
def iEnumS (K : PySem.W.Frag) (k0 : Int) (ta : TA) : TI := fun σ H R => ta σ H fun vs H1 => ∃ k a xs, vs = [.ref a] ∧ Sq K k H1 a xs ∧ R (ItE K k a k0) H1
theorem pi_enumS {X : Cx} {e : Expr} {ta : TA} {k0 : Int} {j : Nat} {cp kpos : Pos} {p pos tpos : Pos} {elts : List Expr} {kk : Nat} (h0 : -(2 ^ 63) ≤ k0) (h1 : k0 < 2 ^ 63) (hg : Gl X "enumerate") (hm : X.mg "enumerate" = none) (ha : PA X [e] ta) (hs : starEach [e] X.env = (false, eval e X.env) :: starEach [] X.env := by rfl) :
    PI X (.Tuple elts kk tpos) (.Call (.Name "enumerate" p) [e] [⟨some "start", .Constant (.int k0) j cp, kpos⟩] pos) (iEnumS X.K k0 ta) := by
  refine ⟨fun pins s σ H R I h => ?_⟩
  have hk : PK X [⟨some "start", .Constant (.int k0) j cp, kpos⟩] (tCons (tC (.int k0)) fun _ H Q => Q [] H) := pk_cons pe_int pk_nil
  refine wpAny_Call_Name_kw (ld_blt I hg hm boot_enumerate ?_)
  refine callWith_type_kwB (by rw [hs]; rfl) rfl (evalArgs_kw2 rfl (thn (ha.run pos pins s σ H _ I h) fun us s1 ⟨vs, H1, I1, r1, q1⟩ => ?_) hs)
  refine thn (hk.run pos pins s1 σ H1 (fun zs H2 => zs = [.int k0] ∧ H2 = H1) I1 ⟨rfl, rfl⟩) fun ws s2 ⟨zs, H2, I2, r2, ez, eh⟩ => ?_
  subst ez eh
  obtain ⟨k, a, xs, ex, hq, q⟩ := q1
  subst ex
  obtain ⟨w1, rfl, t, rfl⟩ := vals1 r2
  cases r1 with
  | cons r rr =>
    cases rr
    cases r
    obtain ⟨its, rv, p', hz⟩ := Inv.sq I2 hq
    exact PySem.enum_begins_start (begins_of k a its.toArray) p' h0 h1 fun h' he hit hsz hk => enum_pie I2 p' he hit hk q
section
variable {X : Cx} {B : Bs} {a b c e o : Expr} {ta tb tc to : WE} {pos p p2 q : Pos} {es : List Expr} {wa : WA}
theorem mi_enumS {elts : List Expr} {kk : Nat} {tpos : Pos} {k0 : Int} {j : Nat} {cp kpos : Pos} (hm : X.mg "enumerate" = none) (ha : ME X B e ta) (h0 : -(2 ^ 63) ≤ k0 := by decide) (h1 : k0 < 2 ^ 63 := by decide) (hg : Gl X "enumerate" := by rfl) (hs : starEach [e] X.env = (false, eval e X.env) :: starEach [] X.env := by rfl) :
    MI X B (.Tuple elts kk tpos) (.Call (.Name "enumerate" p) [e] [⟨some "start", .Constant (.int k0) j cp, kpos⟩] pos) (wEnum k0 ta) := pi_mono (pi_enumS h0 h1 hg hm (pa_cons ha pa_nil hs) hs) fun σ H R ⟨F, h, σd, Q', l, s, t, c⟩ => ⟨F, h, σd, _, l, s, t, fun F1 H1 h1 x u g1 rx t1 => by
  split at t1
  · rename_i ds ed
    obtain ⟨k, a, xs, rfl, q, r⟩ := rowF_rd rx ed
    refine ⟨k, a, xs, rfl, ?_, c F1 H1 h1 _ _ g1 (walkD_enum q r) t1⟩
    cases k with
    | true => exact Same.sqL g1.sr.fr q
    | false => exact Same.sqT g1.sr.fr q
  · exact t1.elim⟩
abbrev WR := MSt → MH → (Int → Int → MH → Prop) → Prop
def ContR (K : PySem.W.Frag) (F H : Hp) (h : MH) (Q' : Int → Int → MH → Prop) (Q : Int → Int → Hp → Prop) : Prop := ∀ F' H' h' i j, Go K F H h F' H' h' → Q' i j h' → Q i j H'
def liftR (K : PySem.W.Frag) (B : Bs) (t : WR) : L2.St → Hp → (Int → Int → Hp → Prop) → Prop := fun σ H Q => ∃ F h σd Q', LR K F σd σ ∧ Bd K B F H h ∧ t σd h Q' ∧ ContR K F H h Q' Q
abbrev MR (X : Cx) (B : Bs) (e : Expr) (t : WR) : Prop := PRg X e (liftR X.K B t)
def wRg1 (t : WE) : WR := fun σ h Q => t σ h fun x h1 => match x with
  | .int n => Q 0 n h1
  | _ => False
def wRg2 (t u : WE) : WR := fun σ h Q => t σ h fun x h1 => u σ h1 fun y h2 => match x, y with
  | .int i, .int j => Q i j h2
  | _, _ => False
theorem prg_mono {t t' : L2.St → Hp → (Int → Int → Hp → Prop) → Prop} (h : PRg X e t) (m : ∀ σ H Q, t' σ H Q → t σ H Q) : PRg X e t' := fun pins s σ H Q I q => h pins s σ H Q I (m σ H Q q)
theorem mr_1 (hm : X.mg "range" = none) (ha : ME X B a ta) (hg : Gl X "range" := by rfl) (na : starEach [a] X.env = (false, eval a X.env) :: starEach [] X.env := by rfl) : MR X B (.Call (.Name "range" p) [a] [] pos) (wRg1 ta) :=
  prg_mono (prg_1 hg hm ha na) fun σ H Q ⟨F, h, σd, Q', l, s, t, c⟩ => ⟨F, h, σd, _, l, s, t, fun F1 H1 h1 x u g1 rx t1 => by
    split at t1
    · cases rx; exact ⟨_, rfl, c F1 H1 h1 _ _ g1 t1⟩
    · exact t1.elim⟩
def rgD (i j : Int) : List D := (List.range (j - i).toNat).map fun k => .int (i + (k : Nat))
theorem rg_rd {K : PySem.W.Frag} {F : Hp} (i j : Int) : RDs K F (rgD i j) (rgV i j) := by
  unfold rgD rgV
  induction List.range (j - i).toNat with
  | nil => exact .nil
  | cons k l ih => exact .cons (.int _) ih
def rgOk (i j : Int) : Prop := -1000000000 ≤ i ∧ i ≤ 1000000000 ∧ -1000000000 ≤ j ∧ j ≤ 1000000000 ∧ j - i ≤ 16000000
theorem rgOk_of {i j : Int} (h : rgOk i j) : RgOk i j := by unfold rgOk at h; exact ⟨by omega, by omega, by omega, by omega, by omega⟩
def wLstRg (t : WR) : WE := fun σ h Q => t σ h fun i j h1 => rgOk i j ∧ Q (.lst (rgD i j)) h1
def wLstRgM (t : WR) : WE := fun σ h Q => t σ h fun i j h1 => rgOk i j ∧ ∀ p, h1 p = none → Q (.ref p) (mupd h1 p (.lst (rgD i j)))
def wTupRg (t : WR) : WE := fun σ h Q => t σ h fun i j h1 => rgOk i j ∧ Q (.tup (rgD i j)) h1
variable {wr : WR}
theorem m_lstRgM (hc : X.calm = true) (hm : X.mg "list" = none) (he : MR X B e wr) (hg : Gl X "list" := by rfl) (na : starEach [e] X.env = (false, eval e X.env) :: starEach [] X.env := by rfl) : ME X B (.Call (.Name "list" p) [e] [] pos) (wLstRgM wr) :=
  pe_mono (pe_listRg hc hg hm he na) fun σ H Q ⟨F, h, σd, Q', l, s, t, c⟩ => ⟨F, h, σd, _, l, s, t, fun F1 H1 h1 i j g1 t1 => ⟨rgOk_of t1.1, fun q hq => (c.go g1).newM g1.sr hq (rg_rd i j) t1.2⟩⟩
def fPopAt (x : D) (ds : List D) (h : MH) (Q : MQ) : Prop := match x, ds with
  | .ref a, [.int i] => match h a with
    | some (.lst xs) => match xs[i.toNat]? with
      | some d => 0 ≤ i ∧ i < 1000000000 ∧ Q d (mupd h a (.lst (xs.eraseIdx i.toNat)))
      | none => False
    | _ => False
  | _, _ => False
theorem RDs.erase {K : PySem.W.Frag} {F : Hp} : ∀ {ds : List D} {vs : List V} (i : Nat), RDs K F ds vs → RDs K F (ds.eraseIdx i) (vs.eraseIdx i)
  | _, _, _, .nil => .nil
  | _, _, 0, .cons _ r => r
  | _, _, i + 1, .cons q r => .cons q (RDs.erase i r)
theorem fPopAt_d {K : PySem.W.Frag} : MtD K rPopAt fPopAt := fun F H h x u ds vs Q' Q s rx rs t c => by
  unfold fPopAt at t
  split at t
  · rename_i a i
    cases rx
    obtain ⟨v, rfl, r⟩ := rds_one rs
    cases r
    split at t
    · rename_i xs em
      split at t
      · rename_i d ed
        obtain ⟨h0, h1, q⟩ := t
        obtain ⟨_, ys, hq, r2⟩ := s.cell _ _ em
        obtain ⟨w, ew, rw'⟩ := r2.get ed
        have hl := (List.getElem?_eq_some_iff.mp ew).1
        refine ⟨a, ys, i, i.toNat, w, rfl, rfl, hq, by omega, by omega, ?_, ew, c _ _ _ _ _ (Go.write (c := .lst (xs.eraseIdx i.toNat)) s em ⟨_, upd_same, r2.erase _⟩) rw' q⟩
        unfold seqIndex?
        simp
        omega
      · exact t.elim
    · exact t.elim
  · exact t.elim
end
section
variable {prog : Program} {w : World} {A : Around} {E : Value → Shared → Prop} {s : Shared}
end
section
variable {X : Cx} {B : Bs} {a b c e o : Expr} {ta tb tc to : WE} {pos p p2 q : Pos} {es : List Expr} {wa : WA}
def fMin4 (ds : List D) (h : MH) (Q : MQ) : Prop := match ds with
  | [.int i, .int j, .int k, .int l] => ∀ m, m ≤ i → m ≤ j → m ≤ k → m ≤ l → (m = i ∨ m = j ∨ m = k ∨ m = l) → Q (.int m) h
  | _ => False
@[simp] theorem o_min4 {i j k l : Int} {h : MH} {Q : MQ} : fMin4 [.int i, .int j, .int k, .int l] h Q = ∀ m, m ≤ i → m ≤ j → m ≤ k → m ≤ l → (m = i ∨ m = j ∨ m = k ∨ m = l) → Q (.int m) h := (rfl)
theorem nodup_sub : ∀ (ks ns : List Int), ks.Nodup → (∀ k ∈ ks, k ∈ ns) → ks.length ≤ ns.length ∧ (ns.length ≤ ks.length → ks.Perm ns)
  | [], ns, _, _ => ⟨Nat.zero_le _, fun h => by
    have : ns = [] := List.eq_nil_of_length_eq_zero (by simpa using h)
    rw [this]⟩
  | k :: ks, ns, hn, hs => by
    have hk : k ∈ ns := hs k (by simp)
    have p := List.perm_cons_erase hk
    have hl : ns.length = (ns.erase k).length + 1 := by rw [p.length_eq]; rfl
    obtain ⟨i1, i2⟩ := nodup_sub ks (ns.erase k) (List.nodup_cons.mp hn).2 fun x hx => by
      have hne : x ≠ k := fun z => (List.nodup_cons.mp hn).1 (z ▸ hx)
      exact (List.mem_erase_of_ne hne).mpr (hs x (by simp [hx]))
    refine ⟨by simp; omega, fun h => ?_⟩
    simp at h
    exact ((i2 (by omega)).cons k).trans p.symm
theorem set_len {ks ns : List Int} (h1 : ks.Nodup) (h2 : ∀ k, k ∈ ks ↔ k ∈ ns) : ks.length ≤ ns.length ∧ (ks.length = ns.length ↔ ns.Nodup) := by
  obtain ⟨i1, i2⟩ := nodup_sub ks ns h1 fun k hk => (h2 k).mp hk
  refine ⟨i1, fun e => (i2 (by omega)).nodup_iff.mp h1, fun hn => ?_⟩
  exact Nat.le_antisymm i1 (nodup_sub ns ks hn fun k hk => (h2 k).mpr hk).1
def tLenSetT (K : PySem.W.Frag) (ta : TE) : TE := fun σ H Q => ta σ H fun x H1 => ∃ (l : Addr) (ns : List Int), x = .ref l ∧ SqT K H1 l (ns.map V.int) ∧ ns.length ≤ 4090 ∧ ∀ c : Nat, c ≤ ns.length → (c = ns.length ↔ ns.Nodup) → Q (.int (c : Nat)) H1
theorem pe_lenSetT {a : Expr} {ta : TE} (hg : Gl X "len") (hm : X.mg "len" = none) (hg2 : Gl X "set") (hm2 : X.mg "set" = none) (ha : PE X a ta) (hc : X.calm = true := by rfl)
    (na : starEach [a] X.env = (false, eval a X.env) :: starEach [] X.env := by rfl) : PE X (.Call (.Name "len" p) [.Call (.Name "set" p2) [a] [] q] [] pos) (tLenSetT X.K ta) := by
  refine ⟨fun pins s σ H Q I h => ?_⟩
  refine Call_ (ld_blt I hg hm boot_len ?_)
  refine PyProof.Rows.callWith_builtin1 (PyProof.Rows.args_cons ?_ rfl) rfl rfl
  refine Call_ (ld_blt I hg2 hm2 boot_set ?_)
  refine PyProof.Rows.callWith_type1 (PyProof.Rows.args_cons (thn (ha.run pins s σ H _ I h) fun v s1 ⟨x, H1, I1, r1, q1⟩ => PyProof.Rows.args_nil ?_) na) na rfl
  obtain ⟨l, ns, rfl, hq, hl, q1⟩ := q1
  cases r1
  obtain ⟨its, r, pl, hz⟩ := I1.tuple hq
  refine call_set_tupI ns (I1.ok.hd hc) pl (by simpa using r.ints) (by unfold scanBound; omega) fun h' tk c hS hc hk => ?_
  refine PyProof.Rows.args_nil ?_
  obtain ⟨o, es, ep, t, ho, hex, hd, g, nd, hm', hb, hf, hn, hr, hl'⟩ := hS
  have I2 : Inv X pins σ H1 { s1 with heap := h', toks := tk } := I1.kept fun b o e => hk b o e
  have key := set_len (ns := ns) nd fun k => by rw [← hm' k]; simp
  have e1 : (es.toList.map keyOf).length = c := by rw [List.length_map, Array.length_toList, hn]
  rw [e1] at key
  exact call_len_set ho hex hd hf (by rw [hn] <;> omega) ⟨.int c, H1, I2.tok _, ⟨_, by rw [hn]⟩, q1 c key.1 key.2⟩
def fLenSet (x : D) (h : MH) (Q : MQ) : Prop := match x with
  | .tup xs => match intsOf xs with
    | some ns => ns.length ≤ 4090 ∧ ∀ c : Nat, c ≤ ns.length → (c = ns.length ↔ ns.Nodup) → Q (.int (c : Nat)) h
    | none => False
  | _ => False
theorem m_lenSet (hc : X.calm = true) (hm : X.mg "len" = none) (hm2 : X.mg "set" = none) (ha : ME X B a ta) (hg : Gl X "len" := by rfl) (hg2 : Gl X "set" := by rfl) (na : starEach [a] X.env = (false, eval a X.env) :: starEach [] X.env := by rfl) :
    ME X B (.Call (.Name "len" p) [.Call (.Name "set" p2) [a] [] q] [] pos) (wUn fLenSet ta) :=
  pe_mono (pe_lenSetT hg hm hg2 hm2 ha hc na) fun σ H Q ⟨F, h, σd, Q', l, s, t, c⟩ => ⟨F, h, σd, _, l, s, t, fun F1 H1 h1 x u g1 rx t1 => by
    unfold fLenSet at t1
    split at t1
    · split at t1
      · rename_i xs ns en
        cases rx with
        | tup q r =>
          rw [ints_rd r en] at q
          exact ⟨_, ns, rfl, Same.sqT g1.sr.fr q, t1.1, fun k h1' h2' => c F1 H1 h1 _ _ g1 (.int _) (t1.2 k h1' h2')⟩
      · exact t1.elim
    · exact t1.elim⟩
@[simp] theorem o_lenSet {ns : List Int} {h : MH} {Q : MQ} : fLenSet (.tup (ns.map .int)) h Q = (ns.length ≤ 4090 ∧ ∀ c : Nat, c ≤ ns.length → (c = ns.length ↔ ns.Nodup) → Q (.int (c : Nat)) h) := by
  simp only [fLenSet, intsOf_ints]
def wStar (t : WE) (r : WA) : WA := fun σ h Q => t σ h fun d h1 => match rowF d with
  | some xs => r σ h1 fun ds h2 => Q (xs ++ ds) h2
  | none => False
@[simp] theorem r_star {σ : MSt} {h : MH} {P : List D → MH → Prop} : wStar ta wa σ h P = ta σ h fun d h1 => match rowF d with
  | some xs => wa σ h1 fun ds h2 => P (xs ++ ds) h2
  | none => False := (rfl)
@[simp] theorem o_pop {h : MH} {Q : MQ} {a : Addr} {i : Int} : fPopAt (.ref a) [.int i] h Q = match h a with
    | some (.lst xs) => match xs[i.toNat]? with
      | some d => 0 ≤ i ∧ i < 1000000000 ∧ Q d (mupd h a (.lst (xs.eraseIdx i.toNat)))
      | none => False
    | _ => False := (rfl)
@[simp] theorem r_rg1 {σ : MSt} {h : MH} {P : Int → Int → MH → Prop} : wRg1 ta σ h P = ta σ h fun x h1 => match x with
  | .int n => P 0 n h1
  | _ => False := (rfl)
@[simp] theorem r_rg2 {σ : MSt} {h : MH} {P : Int → Int → MH → Prop} : wRg2 ta tb σ h P = ta σ h fun x h1 => tb σ h1 fun y h2 => match x, y with
  | .int i, .int j => P i j h2
  | _, _ => False := (rfl)
@[simp] theorem r_lstRg {wr : WR} {σ : MSt} {h : MH} {Q : MQ} : wLstRg wr σ h Q = wr σ h fun i j h1 => rgOk i j ∧ Q (.lst (rgD i j)) h1 := (rfl)
@[simp] theorem r_lstRgM {wr : WR} {σ : MSt} {h : MH} {Q : MQ} : wLstRgM wr σ h Q = wr σ h fun i j h1 => rgOk i j ∧ ∀ p, h1 p = none → Q (.ref p) (mupd h1 p (.lst (rgD i j))) := (rfl)
@[simp] theorem r_tupRg {wr : WR} {σ : MSt} {h : MH} {Q : MQ} : wTupRg wr σ h Q = wr σ h fun i j h1 => rgOk i j ∧ Q (.tup (rgD i j)) h1 := (rfl)
theorem enum_getS {ls : List D} {i : Nat} {d : D} {k : Int} (e : (enumD k ls)[i]? = some d) : ∃ x, ls[i]? = some x ∧ d = .tup [.int (k + (i : Nat)), x] := by
  unfold enumD at e
  rw [List.getElem?_mapIdx] at e
  cases q : ls[i]? with
  | none => rw [q] at e; cases e
  | some x =>
    rw [q] at e
    simp at e
    exact ⟨x, rfl, e.symm⟩
theorem enum_lenS {ls : List D} {k : Int} : (enumD k ls).length = ls.length := by unfold enumD; simp
end
end BP

set_option maxRecDepth 100000
set_option maxHeartbeats 1000000
namespace BP
open PySem PySem.Spec PyProof.Rows L2
section
variable {X : Cx}
end
def opMulT (x y : D) (h : MH) (Q : MQ) : Prop := match x, y with
  | .tup a, .int k => (a ≠ [] ∧ 0 ≤ k ∧ k ≤ 1000 ∧ a.length ≤ 1000) ∧ Q (.tup (List.replicate k.toNat a).flatten) h
  | _, _ => False
@[simp] theorem o_mulTT {a : List D} {k : Int} {h : MH} {Q : MQ} : opMulT (.tup a) (.int k) h Q = ((a ≠ [] ∧ 0 ≤ k ∧ k ≤ 1000 ∧ a.length ≤ 1000) ∧ Q (.tup (List.replicate k.toNat a).flatten) h) := (rfl)
section
variable {X : Cx}
end
def opIsB (neg : Bool) (x y : D) (h : MH) (Q : MQ) : Prop := match x, y with
  | .bl c, .bl b => Q (.bl (if neg then !(c == b) else c == b)) h
  | _, _ => False
section
variable {X : Cx} {B : Bs} {a b : Expr} {ta tb : WE} {pos : Pos}
end
@[simp] theorem o_isB {neg c b : Bool} {h : MH} {Q : MQ} : opIsB neg (.bl c) (.bl b) h Q = Q (.bl (if neg then !(c == b) else c == b)) h := (rfl)
theorem fn_mD {P : Program} {w : World} {K : PySem.W.Frag} {mg : Str → Option Value} {base : Heap} {x qual : Str} {st : Stmt} {f : Addr} {fd : FuncData} {N ps : List Str} {k : Nat} {sp : MSp} {dvs : List V} {kws : List (Str × V)} (F : FunD K x qual (defArgs st) (defBody st) (defScope st) dvs kws f fd) (S : FnScope N ps (defScope st)) (len : ∀ ds h Q E, sp ds h Q E → ds.length = ps.length)
    (hbody : ∀ (cdv : Value) (A : Around) (outer : List Env) (s : Shared) (H : Hp) (E : XK) (B : Bs) (ds : List D) (h : MH) (Q' : MQ) (E' : XQ), fd.code = cdv → Rm k (A.deeper (envOfC qual (defScope st) s.heap.objs.size f cdv)) →
      TkM (cxOf (L2.CX P w) P w K mg base N qual (defScope st) f cdv A outer s H E) B (fun _ => E') → sp ds h Q' E' →
      ∃ t, MSs (cxOf (L2.CX P w) P w K mg base N qual (defScope st) f cdv A outer s H E) B (defBody st) t ∧ t { nx := fun _ h' => Q' .non h', rt := Q' } (mstart N ds) h) : FnM P w K mg base (k + 1) f fd ps sp := by
  refine ⟨len, fun A outer s H args us vs Q E hr e0 hb r hsp => ?_⟩
  obtain ⟨oc, od, dV, kV, doc, pm, an, cdv, ct, osl, rfl, lk, hcd, _, _⟩ := F.ex
  obtain ⟨F, h, ds, Q', E', rd, sr, q, cv, cx⟩ := hsp
  refine LamX.run_ofS (k := k) (N := N) (ps := ps) lk hcd S hr.r e0 hb r (by rw [← rd.length]; exact len ds h Q' E' q) fun _ => ?_
  have tk : TkM (cxOf (L2.CX P w) P w K mg base N qual (defScope st) f cdv A outer s H E) ⟨F, H, h⟩ (fun _ => E') := by
    refine (takes_of (E := E) rfl rfl rfl rfl).imp fun c d σ H' ⟨F', h', σd, n, C, dd, fs, gs, e1, e2, e3, g, l, hd, rf, z⟩ => ?_
    subst e1 e2
    exact cx F' H' h' n C dd fs gs g e3 hd rf z
  obtain ⟨t, ht, hq⟩ := hbody cdv A outer s H E ⟨F, H, h⟩ ds h Q' E' rfl (hr.deeper _) tk q
  exact ⟨_, ht, F, h, mstart N ds, _, lr_start rd, ⟨Go.refl sr⟩, hq, ⟨fun F1 H1 h1 σd σ g l t1 => cv F1 H1 h1 _ _ g .non t1, cv, fun _ _ _ _ _ _ _ z => z.elim, fun _ _ _ _ _ _ _ z => z.elim⟩⟩
theorem funD_mk {K : PySem.W.Frag} {x qual : Str} {st : Stmt} {f T : Addr} {oc tc : Value} {od an td : Option Addr} {osl tsl : Array (Option Value)} {kV doc pm cdv ct : Value} {its : Array Value} {n : Nat} {dvs : List V} (l : K.lookup f = some ⟨oc, od, .func (PySem.W.fnOf x qual (defArgs st) (defBody st) (defScope st) (.ref T) kV doc pm an cdv ct), osl⟩)
    (c : PySem.W.codeIn K cdv qual = true) (k : PySem.W.keepIn K (.ref f) = true) (lt : K.lookup T = some ⟨tc, td, .seq its n, tsl⟩) (hd : dvs ≠ []) (r : Vals dvs its.toList) : FunD K x qual (defArgs st) (defBody st) (defScope st) dvs [] f (PySem.W.fnOf x qual (defArgs st) (defBody st) (defScope st) (.ref T) kV doc pm an cdv ct) :=
  ⟨⟨oc, od, .ref T, kV, doc, pm, an, cdv, ct, osl, rfl, l, c, .inr ⟨hd, T, _, its.toList, n, rfl, lt, rfl, r⟩, .inl rfl⟩, k⟩
theorem bindsD {K : PySem.W.Frag} {x qual : Str} {params : Arguments} {body : List Stmt} {scope : Scope} {dvs : List V} {f : Addr} {fd : FuncData} {ps : List Str} (F : FunD K x qual params body scope dvs [] f fd) (hd : dvs ≠ [])
    (h : ∀ (T : Addr) (kV doc pm : Value) (an : Option Addr) (cdv ct : Value) (us its : List Value), us.length = ps.length → its.length = dvs.length →
      ∃ k, bindArgs (PySem.W.fnOf x qual params body scope (.ref T) kV doc pm an cdv ct) ⟨us, []⟩ = seqItems? (.ref T) >>= k ∧ k (some its.toArray) = pure (ps.zip us)) : Binds K fd ps [] := by
  obtain ⟨ds, r, b⟩ := F.binds1 (ps := ps) ps.length dvs.length hd (by omega) fun T kV doc pm an cdv ct us its hu hi => by
    obtain ⟨k, e1, e2⟩ := h T kV doc pm an cdv ct us its hu hi
    exact ⟨k, e1, by rw [List.drop_eq_nil_of_le (by omega), List.append_nil]; exact e2⟩
  rw [List.drop_length] at r
  cases r
  exact b
end BP

set_option maxRecDepth 100000
set_option maxHeartbeats 1000000
namespace BP
open PySem PySem.Spec PyProof.Rows L2
def isTp : D → Bool
  | .tup _ => true
  | _ => false
def wMtT (f : D → List D → MH → MQ → Prop) (to : WE) (t : WA) : WE := fun σ h Q => to σ h fun x h1 => isTp x = true ∧ t σ h1 fun ds h2 => f x ds h2 Q
section
variable {X : Cx} {B : Bs} {o e : Expr} {es : List Expr} {to : WE} {wa : WA} {pos : Pos}
def strsOf : List D → Option (List Str)
  | [] => some []
  | .str z :: ds => (strsOf ds).map (z :: ·)
  | _ => none
def fIndexT (x : D) (ds : List D) (h : MH) (Q : MQ) : Prop := match x, ds with
  | .tup xs, [.str z] => match strsOf xs with
    | some ys => ∃ j : Nat, ys[j]? = some z ∧ (∀ m, m < j → ys[m]? ≠ some z) ∧ Q (.int (j : Nat)) h
    | none => False
  | _, _ => False
@[simp] theorem r_mtT {f : D → List D → MH → MQ → Prop} {σ : MSt} {h : MH} {Q : MQ} : wMtT f to wa σ h Q = to σ h fun x h1 => isTp x = true ∧ wa σ h1 fun ds h2 => f x ds h2 Q := (rfl)
@[simp] theorem o_idxT {xs : List D} {z : Str} {h : MH} {Q : MQ} : fIndexT (.tup xs) [.str z] h Q = match strsOf xs with
    | some ys => ∃ j : Nat, ys[j]? = some z ∧ (∀ m, m < j → ys[m]? ≠ some z) ∧ Q (.int (j : Nat)) h
    | none => False := (rfl)
@[simp] theorem tp_tup {xs : List D} : isTp (.tup xs) = true := (rfl)
end
end BP

set_option maxRecDepth 100000
set_option maxHeartbeats 400000
namespace BP
open PySem PySem.Spec PyProof.Rows L2
def Sub (h' h : MH) : Prop := ∀ a c, h' a = some c → h a = some c
theorem Go.sub {K : PySem.W.Frag} {F H : Hp} {h h' : MH} (s : SR K F H h) (e : Sub h' h) : Go K F H h F H h' :=
  ⟨Same.refl F, fun a o x f m => ⟨f, (by
    cases z : h' a with
    | none => rfl
    | some c => rw [e a c z] at m; cases m), x⟩, ⟨s.fr, fun a c z => s.cell a c (e a c z)⟩⟩
def wSub (t : WS) : WS := fun D σ h => ∃ h', Sub h' h ∧ t D σ h'
@[simp] theorem r_sub {t : WS} {D0 : MEnds} {σ : MSt} {h : MH} : wSub t D0 σ h = ∃ h', Sub h' h ∧ t D0 σ h' := (rfl)
theorem Sub.refl {h : MH} : Sub h h := fun _ _ e => e

def fzC (c : Option Cell) (p : Addr) (h : MH) (Q : MQ) : Prop := match c with
  | some (.lst ds) => Q (.lst ds) (mdel h p)
  | some (.dct ds) => Q (.dct ds) (mdel h p)
  | _ => False
def fzW (d : D) (h : MH) (Q : MQ) : Prop := match d with
  | .ref p => fzC (h p) p h Q
  | d => Q d h
def wFzV (t : WE) : WE := fun σ h Q => t σ h fun d h1 => fzW d h1 Q
theorem m_fzV {X : Cx} {B : Bs} {e : Expr} {t : WE} (h : ME X B e t) : ME X B e (wFzV t) :=
  pe_mono h fun σ H Q ⟨F, h0, σd, Q', l, s, t0, c⟩ => ⟨F, h0, σd, _, l, s, t0, fun F1 H1 h1 d v g rd q => by
    cases rd with
    | ref p =>
      have q : fzC (h1 p) p h1 Q' := q
      cases z : h1 p with
      | none => rw [z] at q; exact q.elim
      | some k =>
        rw [z] at q
        cases k with
        | lst ds =>
          obtain ⟨_, xs, e1, e2⟩ := g.sr.cell p _ z
          have g2 := Go.settle g.sr z e1
          exact c _ H1 _ _ _ (g.trans g2) (.lst (by rw [upd_same]) (e2.mono g2.ss)) q
        | dct ds =>
          obtain ⟨_, xs, e1, e2⟩ := g.sr.cell p _ z
          have g2 := Go.settle g.sr z e1
          exact c _ H1 _ _ _ (g.trans g2) (.dct (by rw [upd_same]) (e2.mono g2.ss)) q
        | ins C fs => exact q.elim
        | tbl z => exact q.elim
        | dcT z => exact q.elim
        | exv _ _ _ => exact q.elim
    | non => exact c F1 H1 h1 _ _ g .non q
    | bl b => exact c F1 H1 h1 _ _ g (.bl b) q
    | int i => exact c F1 H1 h1 _ _ g (.int i) q
    | str x => exact c F1 H1 h1 _ _ g (.str x) q
    | ty n => exact c F1 H1 h1 _ _ g (.ty n) q
    | tup a b => exact c F1 H1 h1 _ _ g (.tup a b) q
    | lst a b => exact c F1 H1 h1 _ _ g (.lst a b) q
    | scr a => exact c F1 H1 h1 _ _ g (.scr a) q
    | dct a b => exact c F1 H1 h1 _ _ g (.dct a b) q
    | dcl a b => exact c F1 H1 h1 _ _ g (.dcl a b) q
    | exc a b => exact c F1 H1 h1 _ _ g (.exc a b) q⟩
section
variable {h : MH} {Q : MQ} {p : Addr}
@[simp] theorem r_fzV {t : WE} {σ : MSt} : wFzV t σ h Q = t σ h fun d h1 => fzW d h1 Q := (rfl)
@[simp] theorem fz_ref : fzW (.ref p) h Q = fzC (h p) p h Q := (rfl)
@[simp] theorem fz_cl {ds : List D} : fzC (some (.lst ds)) p h Q = Q (.lst ds) (mdel h p) := (rfl)
@[simp] theorem fz_cd {ds : List (Key × D)} : fzC (some (.dct ds)) p h Q = Q (.dct ds) (mdel h p) := (rfl)
@[simp] theorem fz_int {i : Int} : fzW (.int i) h Q = Q (.int i) h := (rfl)
@[simp] theorem fz_bl {i : Bool} : fzW (.bl i) h Q = Q (.bl i) h := (rfl)
@[simp] theorem fz_str {i : Str} : fzW (.str i) h Q = Q (.str i) h := (rfl)
@[simp] theorem fz_non : fzW .non h Q = Q .non h := (rfl)
@[simp] theorem fz_tup {i : List D} : fzW (.tup i) h Q = Q (.tup i) h := (rfl)
@[simp] theorem fz_lst {i : List D} : fzW (.lst i) h Q = Q (.lst i) h := (rfl)
@[simp] theorem fz_dcl {i : List (Key × D)} : fzW (.dcl i) h Q = Q (.dcl i) h := (rfl)
@[simp] theorem fz_dct {i : List (Key × D)} : fzW (.dct i) h Q = Q (.dct i) h := (rfl)
end

def frzC (p : Addr) : Option Cell → D
  | some (.lst xs) => .lst xs
  | some (.dct xs) => .dct xs
  | _ => .ref p
def frzD (h : MH) : D → D
  | .ref p => frzC p (h p)
  | d => d
mutual
def plainD : D → Bool
  | .non => true
  | .bl _ => true
  | .int _ => true
  | .str _ => true
  | .ty _ => true
  | .tup ds => plainDs ds
  | _ => false
def plainDs : List D → Bool
  | [] => true
  | d :: ds => plainD d && plainDs ds
end
def isLent : Option Cell → Bool
  | some (.lst _) => true
  | some (.dct _) => true
  | _ => false
def lend (F H : Hp) (h : MH) : Hp := fun a => if isLent (h a) = true then H a else F a
def unlend (F : Hp) (h : MH) : Hp := fun a => if isLent (h a) = true then none else F a
section
variable {K : PySem.W.Frag} {F H F' H' : Hp} {h h' : MH}
theorem lend_cell {a : Addr} (e : isLent (h a) = true) : lend F H h a = H a := by unfold lend; rw [if_pos e]
theorem lent_obj {a : Addr} (s : SR K F H h) (e : isLent (h a) = true) : (∃ xs, H a = some (.lst xs)) ∨ ∃ xs, H a = some (.dK xs) := by
  cases z : h a with
  | none => rw [z] at e; cases e
  | some c =>
    obtain ⟨f, r⟩ := s.cell a c z
    cases c with
    | lst ds => obtain ⟨xs, q, _⟩ := r; exact .inl ⟨xs, q⟩
    | dct ds => obtain ⟨xs, q, _⟩ := r; exact .inr ⟨xs, q⟩
    | ins C fs => rw [z] at e; cases e
    | tbl q => rw [z] at e; cases e
    | dcT q => rw [z] at e; cases e
    | exv _ _ _ => rw [z] at e; cases e
theorem unlend_sqT {a : Addr} {xs : List V} (s : SR K F H h) (g : Go K (lend F H h) H (fun _ => none) F' H' h') (q : SqU K F' a xs) : SqU K (unlend F' h) a xs := by
  have ne : ∀ o, F' a = some o → (∀ ys, o ≠ .lst ys) → (∀ ys, o ≠ .dK ys) → unlend F' h a = some o := by
    intro o e n1 n2
    unfold unlend
    split
    · rename_i z
      have e1 : lend F H h a = H a := lend_cell z
      rcases lent_obj s z with ⟨ys, y⟩ | ⟨ys, y⟩
      · have := g.ss a _ (e1.trans y)
        rw [e] at this; cases this
        exact absurd rfl (n1 ys)
      · have := g.ss a _ (e1.trans y)
        rw [e] at this; cases this
        exact absurd rfl (n2 ys)
    · exact e
  rcases q with q | q
  · exact .inl (ne _ q (fun _ z => by cases z) (fun _ z => by cases z))
  · exact .inr q
mutual
theorem unlend_rd (s : SR K F H h) (g : Go K (lend F H h) H (fun _ => none) F' H' h') : ∀ {d : D} {v : V}, plainD d = true → RD K F' d v → RD K (unlend F' h) d v
  | _, _, _, .non => .non
  | _, _, _, .bl b => .bl b
  | _, _, _, .int i => .int i
  | _, _, _, .str x => .str x
  | _, _, _, .ty n => .ty n
  | .ref _, _, p, _ => by simp [plainD] at p
  | _, _, p, .tup a b => .tup (unlend_sqT s g a) (unlend_rds s g (by simpa [plainD] using p) b)
  | _, _, p, .lst a b => by simp [plainD] at p
  | _, _, p, .scr a => by simp [plainD] at p
  | _, _, p, .dct a b => by simp [plainD] at p
  | _, _, p, .dcl a b => by simp [plainD] at p
  | _, _, p, .exc a b => by simp [plainD] at p
theorem unlend_rds (s : SR K F H h) (g : Go K (lend F H h) H (fun _ => none) F' H' h') : ∀ {ds : List D} {vs : List V}, plainDs ds = true → RDs K F' ds vs → RDs K (unlend F' h) ds vs
  | _, _, _, .nil => .nil
  | _, _, p, .cons a b => by
    simp only [plainDs, Bool.and_eq_true] at p
    exact .cons (unlend_rd s g p.1 a) (unlend_rds s g p.2 b)
end
end
def lentQ (Q : MQ) (h : MH) : MQ := fun d _ => plainD d = true ∧ Q d h
def lentE (E : XQ) (h : MH) : XQ := fun n fs _ => fs.all (fun z => plainD z.2) = true ∧ E n fs h
def spL (sp : MSp) : MSp := fun ds h Q E => sp (ds.map (frzD h)) (fun _ => none) (lentQ Q h) (lentE E h)
@[simp] theorem s_lent {sp : MSp} {ds : List D} {h : MH} {Q : MQ} {E : XQ} : spL sp ds h Q E = sp (ds.map (frzD h)) (fun _ => none) (lentQ Q h) (lentE E h) := (rfl)
@[simp] theorem s_lentQ {Q : MQ} {h h' : MH} {d : D} : lentQ Q h d h' = (plainD d = true ∧ Q d h) := (rfl)
@[simp] theorem s_lentE {E : XQ} {h h' : MH} {n : String} {fs : List (Str × D)} : lentE E h n fs h' = (fs.all (fun z => plainD z.2) = true ∧ E n fs h) := (rfl)

structure KwD (K : PySem.W.Frag) (fd : FuncData) (ps : List Str) (n : Nat) (ks : List Str) (dds : List D) (g : {α : Type} → List α → List α → List α → List α) : Prop where
  ex : ∃ (its : List Value) (dvs : List V), Vals dvs its ∧ (∀ F, RDs K F dds dvs) ∧ ∀ (s : Shared) (us ws : List Value), K.In s.heap → us.length = n → ws.length = ks.length → BindsTo s fd ⟨us, ks.zip ws⟩ (ps.zip (g us its ws))
  rel : ∀ {vs ds zs : List V} {us its ws : List Value}, vs.length = n → ds.length = dds.length → zs.length = ks.length → Vals vs us → Vals ds its → Vals zs ws → Vals (g vs ds zs) (g us its ws)
  relD : ∀ {K : PySem.W.Frag} {F : Hp} {vs ds zs : List V} {us its ws : List D}, us.length = n → its.length = dds.length → ws.length = ks.length → RDs K F us vs → RDs K F its ds → RDs K F ws zs → RDs K F (g us its ws) (g vs ds zs)
section
variable {X : Cx} {B : Bs} {e : Expr} {es : List Expr} {wa wk : WA} {pos p : Pos} {k n : Nat} {f : Addr} {fd : FuncData} {ps ks : List Str} {sp : MSp} {x : Str} {Es : MSt → XQ} {dds : List D} {g : {α : Type} → List α → List α → List α → List α} {kws : List Keyword}
def wCallG (sp : MSp) (Es : MSt → XQ) (n m : Nat) (dds : List D) (g : {α : Type} → List α → List α → List α → List α) (t tk : WA) : WE := fun σ h Q => t σ h fun ds h1 => ds.length = n ∧ tk σ h1 fun es h2 => es.length = m ∧ sp (g ds dds es) h2 Q (Es σ)
@[simp] theorem r_callG {m : Nat} {σ : MSt} {h : MH} {Q : MQ} : wCallG sp Es n m dds g wa wk σ h Q = wa σ h fun ds h1 => ds.length = n ∧ wk σ h1 fun es h2 => es.length = m ∧ sp (g ds dds es) h2 Q (Es σ) := (rfl)
theorem run_mG {pins : List (Addr × Obj)} {σ : L2.St} {H : Hp} {s : Shared} {Q : VK} {us its ws : List Value} {vs dvs zs : List V} (G : FnM X.prog X.w X.K X.mg X.base k f fd ps sp) (hr : Rm k X.A) (hb : KwD X.K fd ps n ks dds g) (bt : ∀ (s : Shared) (us ws : List Value), X.K.In s.heap → us.length = n → ws.length = ks.length → BindsTo s fd ⟨us, ks.zip ws⟩ (ps.zip (g us its ws))) (tk : TkM X B Es) (I : Inv X pins σ H s)
    (r : Vals vs us) (ri : Vals dvs its) (rz : Vals zs ws) (l1 : vs.length = n) (ld : dvs.length = dds.length) (l2 : zs.length = ks.length) (q : liftSp X.K X.mg sp (g vs dvs zs) H Q fun cls d H' => WB X.K X.mg B Es cls d σ H') : wpAny (model X.prog X.w) X.A (call (.ref f) us (ks.zip ws)) (EP X pins σ Q) X.xe s := by
  refine wpAny_call (codeAny_mono (G.run X.A X.stack s H ⟨us, ks.zip ws⟩ (g us its ws) (g vs dvs zs) Q _ hr I.env0 (bt s us ws I.kIn (by rw [← r.length]; exact l1) (by rw [← rz.length]; exact l2)) (hb.rel l1 ld l2 r ri rz) q) fun x s' hq => ?_)
  cases x with
  | error e => exact passAt tk σ pins H s e s' I hq
  | ok fl =>
    cases fl with
    | ret u => exact I.after hq
    | next => exact False.elim hq
    | brk => exact False.elim hq
    | cont => exact False.elim hq
theorem m_callGp (G : FnM X.prog X.w X.K X.mg X.base k f fd ps sp) (hr : Rm k X.A) (hm : X.mg x = some (.ref f)) (hk : PySem.W.keepIn X.K (.ref f) = true) (hb : KwD X.K fd ps n [] dds g) (tk : TkM X B Es) (ha : MA X B (e :: es) wa) (hg : Gl X x := by rfl) (hdb : (x == ("__debug__" : Str)) = false := by decide)
    (he : starEach (e :: es) X.env = (false, eval e X.env) :: starEach es X.env := by rfl) (hpl : (backTo pos (starEach es X.env)).any (·.1) = false := by rfl) : ME X B (.Call (.Name x p) (e :: es) [] pos) (wCallG sp Es n 0 dds g wa wNil) := by
  obtain ⟨its, dvs, ri, rc, bt⟩ := hb.ex
  refine ⟨fun pins s σ H Q I ⟨F, h, σd, Q', l, s0, t, c⟩ => ?_⟩
  refine wpAny_Call_Name_kw (ld_glob I hg hm ?_ hdb)
  refine PySem.W.callWith_K (h₀ := X.base) I.ok.mod.kin hk (thn (ha.run pos pins s σ H (fun vs H1 => vs.length = n ∧ liftSp X.K X.mg sp (g vs dvs []) H1 Q fun cls d H' => WB X.K X.mg B Es cls d σ H') I ⟨F, h, σd, _, l, s0, t, fun F1 H1 h1 ds vs g1 rs t1 => ?_⟩) fun us s1 ⟨vs, H1, I1, r, l1, q⟩ => ⟨I1.kIn, ?_⟩) he hpl
  · exact ⟨by rw [← rs.length]; exact t1.1, sp_at s0 l c g1 (hb.relD t1.1 rfl rfl rs (rc _) .nil) t1.2.2⟩
  · exact run_mG (ks := []) (ws := []) (zs := []) G hr hb bt tk I1 r ri .nil l1 (rc (fun _ => none)).length.symm rfl q
end
theorem kwD_mk {K : PySem.W.Frag} {x qual : Str} {params : Arguments} {body : List Stmt} {scope : Scope} {dvs : List V} {dds : List D} {f : Addr} {fd : FuncData} {ps : List Str} (F : FunD K x qual params body scope dvs [] f fd) (n : Nat) (ks : List Str) (g : {α : Type} → List α → List α → List α → List α) (hd : dvs ≠ []) (rc : ∀ F, RDs K F dds dvs)
    (hrel : ∀ {vs ds zs : List V} {us its ws : List Value}, vs.length = n → ds.length = dds.length → zs.length = ks.length → Vals vs us → Vals ds its → Vals zs ws → Vals (g vs ds zs) (g us its ws))
    (hrelD : ∀ {K : PySem.W.Frag} {F : Hp} {vs ds zs : List V} {us its ws : List D}, us.length = n → its.length = dds.length → ws.length = ks.length → RDs K F us vs → RDs K F its ds → RDs K F ws zs → RDs K F (g us its ws) (g vs ds zs))
    (h : ∀ (T : Addr) (kV doc pm : Value) (an : Option Addr) (cdv ct : Value) (us its ws : List Value), us.length = n → its.length = dvs.length → ws.length = ks.length →
      ∃ k, bindArgs (PySem.W.fnOf x qual params body scope (.ref T) kV doc pm an cdv ct) ⟨us, ks.zip ws⟩ = seqItems? (.ref T) >>= k ∧ k (some its.toArray) = pure (ps.zip (g us its ws))) : KwD K fd ps n ks dds g := by
  obtain ⟨oc, od, dV, kV, doc, pm, an, cdv, ct, osl, rfl, lk, hcd, hD, hK⟩ := F.ex
  rcases hD with ⟨e, _⟩ | ⟨_, T, o, its, m, rfl, lT, oT, rT⟩
  · exact absurd e hd
  · refine ⟨⟨its, dvs, rT, rc, fun s us ws X l1 l2 => ?_⟩, hrel, hrelD⟩
    obtain ⟨k, e1, e2⟩ := h T kV doc pm an cdv ct us its ws l1 rT.length.symm l2
    refine BindsTo.of_looks fun M => ?_
    rw [e1]
    exact looks_items X lT oT (.of_pure e2)
theorem src_upd {h : MH} {s p : Addr} {c : Cell} (hs : Src h s) (n : p ≠ s) : Src (mupd h p c) s := by
  obtain ⟨x, y, z, e⟩ := hs
  exact ⟨x, y, z, by rw [mupd_ne (Ne.symm n)]; exact e⟩
theorem src_del {h : MH} {s p : Addr} (hs : Src h s) (n : p ≠ s) : Src (mdel h p) s := by
  obtain ⟨x, y, z, e⟩ := hs
  exact ⟨x, y, z, by unfold mdel; rw [if_neg (Ne.symm n)]; exact e⟩
structure Kept (h h' : MH) (s : Addr) : Prop where
  src : Src h' s
  oth : ∀ a c, a ≠ s → h a = some c → h' a = some c
theorem Kept.refl {h : MH} {s : Addr} (a : Src h s) : Kept h h s := ⟨a, fun _ _ _ e => e⟩
theorem Kept.trans {h h1 h2 : MH} {s : Addr} (a : Kept h h1 s) (b : Kept h1 h2 s) : Kept h h2 s := ⟨b.src, fun x c n e => b.oth x c n (a.oth x c n e)⟩
theorem Fro.kept {h h' : MH} {s : Addr} (f : Fro h h' s) : Kept h h' s := ⟨f.src, fun a c n e => by rw [f.oth a n]; exact e⟩
theorem Ext.kept {h h' : MH} {s : Addr} (e : Ext h h') (a : Src h s) : Kept h h' s := ⟨e.src a, fun x c _ q => e x c q⟩
theorem Kept.fro {h h1 h2 : MH} {s : Addr} (a : Kept h h1 s) (b : Fro h1 h2 s) : Kept h h2 s := a.trans b.kept
theorem Kept.ext {h h1 h2 : MH} {s : Addr} (a : Kept h h1 s) (b : Ext h1 h2) : Kept h h2 s := a.trans (b.kept a.src)
theorem Kept.ne {h h1 : MH} {s p : Addr} (a : Kept h h1 s) (hp : h1 p = none) : p ≠ s := by rintro rfl; exact a.src.some hp
theorem Kept.free {h h1 : MH} {s p : Addr} (a : Kept h h1 s) (hp : h1 p = none) : h p = none := by
  cases e : h p with
  | none => rfl
  | some c => rw [a.oth p c (a.ne hp) e] at hp; cases hp
theorem Kept.new {h h1 : MH} {s p : Addr} {c : Cell} (a : Kept h h1 s) (hp : h1 p = none) : Kept h (mupd h1 p c) s := a.ext (Ext.new hp)
structure Wk (h h' : MH) (s p : Addr) (xs : List D) : Prop where
  kp : Kept h h' s
  at_ : h' p = some (.lst xs)
  ps : p ≠ s
  new : h p = none
theorem Wk.src {h h' : MH} {s p : Addr} {xs : List D} (w : Wk h h' s p xs) : Src h' s := w.kp.src
theorem Kept.put {h h1 : MH} {s p : Addr} {ys : List D} (k : Kept h h1 s) (hp : h1 p = none) : Wk h (mupd h1 p (.lst ys)) s p ys := ⟨k.new hp, mupd_same, k.ne hp, k.free hp⟩
theorem Wk.put {h h1 : MH} {s p : Addr} {xs ys : List D} (b : Wk h h1 s p xs) : Wk h (mupd h1 p (.lst ys)) s p ys :=
  ⟨⟨src_upd b.src b.ps, fun a c h1 h2 => by rw [mupd_ne (by rintro rfl; rw [b.new] at h2; cases h2)]; exact b.kp.oth a c h1 h2⟩, mupd_same, b.ps, b.new⟩
theorem Wk.del {h h1 : MH} {s p : Addr} {xs : List D} (b : Wk h h1 s p xs) : Kept h (mdel h1 p) s :=
  ⟨src_del b.src b.ps, fun a c h1 h2 => by
    unfold mdel
    rw [if_neg (by rintro rfl; rw [b.new] at h2; cases h2)]; exact b.kp.oth a c h1 h2⟩
theorem Wk.step {h h1 h2 : MH} {s p : Addr} {xs : List D} (b : Wk h h1 s p xs) (k : Kept h1 h2 s) : Wk h h2 s p xs := ⟨b.kp.trans k, k.oth p _ b.ps b.at_, b.ps, b.new⟩
theorem Wk.fro {h h1 h2 : MH} {s p : Addr} {xs : List D} (b : Wk h h1 s p xs) (k : Fro h1 h2 s) : Wk h h2 s p xs := b.step k.kept
theorem Wk.ext {h h1 h2 : MH} {s p : Addr} {xs : List D} (b : Wk h h1 s p xs) (k : Ext h1 h2) : Wk h h2 s p xs := b.step (k.kept b.src)
theorem Ext.del {h h1 : MH} {p : Addr} (e : Ext h h1) (hp : h p = none) : Ext h (mdel h1 p) := fun a c q => by
  unfold mdel
  rw [if_neg (by rintro rfl; rw [hp] at q; cases q)]; exact e a c q
theorem Ext.free {h h1 : MH} {p : Addr} (e : Ext h h1) (hp : h1 p = none) : h p = none := by
  cases q : h p with
  | none => rfl
  | some c => rw [e p c q] at hp; cases hp
theorem Ext.put {h h1 : MH} {p : Addr} {c : Cell} (e : Ext h h1) (hp : h p = none) : Ext h (mupd h1 p c) := fun a d q => by
  rw [mupd_ne (by rintro rfl; rw [hp] at q; cases q)]; exact e a d q
theorem next_ok {h : MH} {s : Addr} {m : Int} {Q : MQ} {E : XQ} (hs : Src h s) (h0 : 0 < m) (h1 : m < 18446744073709551616) (q : ∀ (r : Int) (h' : MH), 0 ≤ r → r < m → Fro h h' s → Q (.int r) h') : spNext [.ref s, .int m] h Q E :=
  ⟨s, m, rfl, hs, h0, div_small h0 (by omega), q⟩
theorem one_ok {h : MH} {s : Addr} {xs : List D} {Q : MQ} {E : XQ} (hs : Src h s) (h0 : 0 < xs.length) (h1 : xs.length ≤ 1000000) (q : ∀ (x : D) (h' : MH), x ∈ xs → Fro h h' s → Q x h') : spOne [.ref s, .lst xs] h Q E :=
  ⟨s, xs, rfl, hs, h0, by omega, q⟩
end BP

set_option maxRecDepth 100000
set_option maxHeartbeats 400000
namespace BP
open PySem PySem.Spec PyProof.Rows L2
def itemD (z : Key × D) : D := .tup [kD z.1, z.2]
def itemsOf (o : Option (List (Key × D))) (h : MH) (Q : MQ) : Prop := match o with
  | some kvs => Q (.lst (kvs.map itemD)) h
  | none => False
def wItems (t : WE) : WE := fun σ h Q => t σ h fun d h1 => itemsOf (dcOf h1 d) h1 Q
section
variable {K : PySem.W.Frag} {F H H' : Hp} {h : MH}
end
@[simp] theorem r_items {t : WE} {σ : MSt} {h : MH} {Q : MQ} : wItems t σ h Q = t σ h fun d h1 => itemsOf (dcOf h1 d) h1 Q := (rfl)
@[simp] theorem items_some {kvs : List (Key × D)} {h : MH} {Q : MQ} : itemsOf (some kvs) h Q = Q (.lst (kvs.map itemD)) h := (rfl)
def clearD (c : Option Cell) (a : Addr) (h : MH) (Q : MQ) : Prop := match c with
  | some (.dct _) => Q .non (mupd h a (.dct []))
  | _ => False
def fClearD (x : D) (h : MH) (Q : MQ) : Prop := match x with
  | .ref a => clearD (h a) a h Q
  | _ => False
def wClearD (t : WE) : WE := fun σ h Q => t σ h fun d h1 => fClearD d h1 Q
@[simp] theorem r_clearD {t : WE} {σ : MSt} {h : MH} {Q : MQ} : wClearD t σ h Q = t σ h fun d h1 => fClearD d h1 Q := (rfl)
@[simp] theorem o_clearD {a : Addr} {h : MH} {Q : MQ} : fClearD (.ref a) h Q = clearD (h a) a h Q := (rfl)
@[simp] theorem o_clearC {ds : List (Key × D)} {a : Addr} {h : MH} {Q : MQ} : clearD (some (.dct ds)) a h Q = Q .non (mupd h a (.dct [])) := (rfl)
end BP

set_option maxRecDepth 100000
set_option maxHeartbeats 1000000
namespace BP
open PySem PySem.Spec PyProof.Rows L2
section
open PySem.AutoSeq1
end
def fExtendT (x : D) (ds : List D) (h : MH) (Q : MQ) : Prop := match x, ds with
  | .ref a, [.tup zs] => match h a with
    | some (.lst xs) => xs.length + zs.length ≤ sizeLine ∧ Q .non (mupd h a (.lst (xs ++ zs)))
    | _ => False
  | x, ds => fExtend x ds h Q
section
variable {h : MH} {Q : MQ} {a : Addr} {zs xs : List D}
@[simp] theorem o_extT : fExtendT (.ref a) [.tup zs] h Q = match h a with
    | some (.lst xs) => xs.length + zs.length ≤ sizeLine ∧ Q .non (mupd h a (.lst (xs ++ zs)))
    | _ => False := (rfl)
@[simp] theorem o_extL : fExtendT (.ref a) [.lst zs] h Q = fExtend (.ref a) [.lst zs] h Q := (rfl)
end
end BP

set_option maxRecDepth 100000
set_option maxHeartbeats 4000000
namespace BP
open PySem PySem.Spec PyProof.Rows L2
section
variable {P : Program} {w : World} {A : Around} {E : Value → Shared → Prop} {s : Shared}
end
section
variable {X : Cx} {B : Bs} {a e : Expr} {ta : WE} {p p2 q pos : Pos}
def ddI : List Int → List Int
  | [] => []
  | x :: xs => if x ∈ ddI xs then ddI xs else x :: ddI xs
def setI (ns : List Int) : List Int := sortI (ddI ns)
def fSrtSet (x : D) (h : MH) (Q : MQ) : Prop := match x with
  | .lst xs => match intsOf xs with
    | some ns => ns.length ≤ 4090 ∧ Q (.lst ((setI ns).map .int)) h
    | none => False
  | _ => False
@[simp] theorem o_srtSet {ns : List Int} {h : MH} {Q : MQ} : fSrtSet (.lst (ns.map .int)) h Q = (ns.length ≤ 4090 ∧ Q (.lst ((setI ns).map .int)) h) := by
  simp only [fSrtSet, intsOf_ints]
end
end BP

set_option maxRecDepth 100000
set_option maxHeartbeats 4000000
namespace BP
open PySem PySem.Spec PyProof.Rows L2
section
variable {X : Cx} {B : Bs} {a b c e : Expr} {pos p : Pos}
def wLcM (wi : WI) (put : MSt → D → Option MSt) (tt : WT) (te : WE) (vs : List Nat) : WE := fun σ h Q => wi σ h fun ds h1 => wLcGo put tt te (mwipe σ vs) ds [] h1 fun acc h2 => ∀ p, h2 p = none → Q (.ref p) (mupd h2 p (.lst acc))
theorem lift_lcM {wi : WI} {g : TG} {put : MSt → D → Option MSt} {tt : WT} {te : WE} {vs : List Nat} (hp : PutOk X.K g put vs) : ∀ σ H Q, lift X.K B (wLcM wi put tt te vs) σ H Q → tLc (liftI X.K B wi) g (liftT X.K B tt) (lift X.K B te) vs σ H Q := fun σ H Q ⟨F, h, σd, Q', l, s, t, c⟩ =>
  ⟨F, h, σd, _, l, s, t, fun F1 H1 h1 ds J g1 W t1 D nD => by
    have w1 : ∀ {F2}, Same F1 F2 → LR X.K F2 (mwipe σd vs) (L2.wipe σ vs) := fun e => ((l.mono g1.ss).mono e).wipe vs
    refine ⟨fun i m H2 => ∃ F2 h2 acc accV, Go X.K F1 H1 h1 F2 H2 h2 ∧ H2 D = some (.lst accV) ∧ F2 D = none ∧ h2 D = none ∧ RDs X.K F2 acc accV ∧ i ≤ ds.length ∧ m = ds.length - i ∧ wLcGo put tt te (mwipe σd vs) (ds.drop i) acc h2 fun acc h2 => ∀ p, h2 p = none → Q' (.ref p) (mupd h2 p (.lst acc)),
      ⟨ds.length, F1, h1, [], [], (Go.refl g1.sr).hidden nD (g1.sr.freeF nD) (g1.sr.freeM nD), upd_same, g1.sr.freeF nD, g1.sr.freeM nD, .nil, Nat.zero_le _, rfl, t1⟩, ?_⟩
    rintro i m H2 ⟨F2, h2, acc, accV, g2, eD, fD, mD, ra, hi, rfl, t2⟩
    by_cases hlt : i < ds.length
    · have ed : ds[i]? = some ds[i] := List.getElem?_eq_getElem hlt
      rw [drop_of_get ed] at t2
      unfold wLcGo at t2
      split at t2
      · rename_i σ3 e3
        refine .inr ⟨W.goes i H2 hlt (g2.ss.trans g2.sr.fr), fun H3 => ∃ F3 h3 acc accV, Go X.K F1 H1 h1 F3 H3 h3 ∧ H3 D = some (.lst accV) ∧ F3 D = none ∧ h3 D = none ∧ RDs X.K F3 acc accV ∧ wLcGo put tt te (mwipe σd vs) (ds.drop (i + 1)) acc h3 fun acc h2 => ∀ p, h2 p = none → Q' (.ref p) (mupd h2 p (.lst acc)),
          fun H3 ⟨F3, h3, acc, accV, g3, k1, k2, k3, k4, t3⟩ => ⟨ds.length - (i + 1), by omega, F3, h3, acc, accV, g3, k1, k2, k3, k4, hlt, rfl, t3⟩, fun x H3 y => ?_⟩
        obtain ⟨F3, g3, rx⟩ := W.yields i _ H2 x H3 ed (g2.ss.trans g2.sr.fr) y F2 h2 g2.ss g2.sr
        refine hp F3 H3 h2 _ _ _ _ _ _ (w1 (g2.ss.trans g3.ss)) g3.sr rx e3 fun σ4 l4 hw => ⟨hw.trans (wipe_wipe σ vs), F3, h2, σ3, _, l4, (s.go g1).go (g2.trans g3), t2, fun F5 H5 h5 b g5 t5 => ?_⟩
        obtain ⟨fD5, mD5, eD5⟩ := (g3.trans g5).hid D _ eD fD mD
        have g05 := (g2.trans g3).trans g5
        cases b with
        | false =>
          rw [if_neg Bool.false_ne_true] at t5
          exact iteF ⟨F5, h5, acc, accV, g05, eD5, fD5, mD5, ra.mono (g3.trans g5).ss, t5⟩
        | true =>
          rw [if_pos rfl] at t5
          refine iteT ⟨F5, h5, σ3, _, l4.mono g5.ss, (s.go g1).go g05, t5, fun F6 H6 h6 y6 v6 g6 r6 t6 => ?_⟩
          obtain ⟨fD6, mD6, eD6⟩ := g6.hid D _ eD5 fD5 mD5
          refine ⟨accV, eD6, by rw [← ra.length]; exact t6.1, F6, h6, acc ++ [y6], accV ++ [v6], (g05.trans g6).hidden nD fD6 mD6, upd_same, fD6, mD6, ?_, t6.2⟩
          exact (ra.mono ((g3.trans g5).trans g6).ss).append (.cons r6 .nil)
      · exact t2.elim
    · have e : i = ds.length := by omega
      subst e
      refine .inl ⟨W.stops H2 (g2.ss.trans g2.sr.fr), ?_⟩
      rw [List.drop_length] at t2
      have gM : Go X.K F1 H1 h1 F2 H2 (mupd h2 D (.lst acc)) := by
        refine ⟨g2.ss, fun b o eb f m => ?_, ⟨g2.sr.fr, fun b c eb => ?_⟩⟩
        · have hb : b ≠ D := fun z => by rw [z, nD] at eb; cases eb
          obtain ⟨x1, x2, x3⟩ := g2.hid b o eb f m
          exact ⟨x1, by rw [mupd_ne hb]; exact x2, x3⟩
        · by_cases hb : b = D
          · subst hb
            rw [mupd_same] at eb; cases eb
            exact ⟨fD, accV, eD, ra⟩
          · rw [mupd_ne hb] at eb
            exact g2.sr.cell b c eb
      exact c _ _ _ _ _ (g1.trans gM) (.ref D) (t2 D mD)⟩
theorem m_lcM {elt tg iter : Expr} {ifs : List Expr} {scope : Scope} {own : List (Str × Nat)} {wi : WI} {g : TG} {put : MSt → D → Option MSt} {tt : WT} {te : WE} (hc : X.calm = true) (hN : X.N.Nodup) (hi : MI X B tg iter wi) (ok : BlkOk X.N X.env.scope scope own) (hp : PutOk X.K g put (own.map (·.2)))
    (hg : ∀ (s : Shared) (H : Hp) (C : Addr) (cl : List (Str × Addr)) (fp : List Addr), PG (X.blk s H scope (compEnvC scope cl C X.env) fp) tg g) (ht : ∀ (s : Shared) (H : Hp) (C : Addr) (cl : List (Str × Addr)) (fp : List Addr), MTs (X.blk s H scope (compEnvC scope cl C X.env) fp) B ifs tt)
    (he : ∀ (s : Shared) (H : Hp) (C : Addr) (cl : List (Str × Addr)) (fp : List Addr), ME (X.blk s H scope (compEnvC scope cl C X.env) fp) B elt te) (hs : ∀ x, foldedSetIterable iter X.env x = pure x := by intro _; rfl) :
    ME X B (.ListComp elt [⟨tg, iter, ifs, 0⟩] scope pos) (wLcM wi put tt te (own.map (·.2))) := pe_mono (pe_lc hc hN hi ok hg ht he hs) (lift_lcM hp)
@[simp] theorem r_lcM {wi : WI} {put : MSt → D → Option MSt} {vs : List Nat} {ua : WT} {ta : WE} {σ : MSt} {h : MH} {Q : MQ} : wLcM wi put ua ta vs σ h Q = wi σ h fun ds h1 => wLcGo put ua ta (mwipe σ vs) ds [] h1 fun acc h2 => ∀ p, h2 p = none → Q (.ref p) (mupd h2 p (.lst acc)) := (rfl)
end
end BP

set_option maxRecDepth 100000
set_option maxHeartbeats 4000000
namespace BP
open PySem PySem.Spec PyProof.Rows L2
structure Own where
  x_Body : Addr
  x_Segment : Addr
  x_Interval : Addr
  x_Walker : Addr
  x_Picture : Addr
  x_Stream : Addr
  x_Rows : Addr
  x_Cut : Addr
  x_Source : Addr
  x_Refining : Addr
  x_Scan : Addr
  x_Reading : Addr
  x_Writing : Addr
  xc : String → Addr := fun _ => 0
theorem ofString_inj {a b : String} : Str.ofString a = Str.ofString b ↔ a = b := by
  constructor
  · intro h
    rw [Str.ofString_eq_toList, Str.ofString_eq_toList] at h
    have h := congrArg (fun s : Str => s.cps.toList) h
    simp only [List.toList_toArray] at h
    have inj : ∀ l m : List Char, l.map Char.toNat = m.map Char.toNat → l = m := by
      intro l
      induction l with
      | nil => intro m e; cases m with | nil => rfl | cons => cases e
      | cons x l ih =>
        intro m e
        cases m with
        | nil => cases e
        | cons y m =>
          simp only [List.map_cons, List.cons.injEq] at e
          rw [ih m e.2]
          have : x = y := Char.ext (UInt32.toNat_inj.mp e.1)
          rw [this]
    exact String.toList_inj.mp (inj _ _ h)
  · rintro rfl; rfl
@[simp] theorem ofString_eq {a b : String} : (Str.ofString a = Str.ofString b) = (a = b) := propext ofString_inj
@[simp] theorem ofString_beq {a b : String} : (Str.ofString a == Str.ofString b) = decide (a = b) := by
  by_cases h : a = b
  · subst h; simp
  · have : Str.ofString a ≠ Str.ofString b := fun e => h (ofString_inj.mp e)
    simp [h]
def putFd (f : Str) (d : D) : List (Str × D) → List (Str × D)
  | [] => [(f, d)]
  | (g, x) :: r => if g = f then (g, d) :: r else (g, x) :: putFd f d r
theorem RDf.put {K : PySem.W.Frag} {F : Hp} {f : Str} {d : D} {v : V} (r : RD K F d v) : ∀ {fs : List (Str × D)} {gs : List (Str × V)}, RDf K F fs gs → RDf K F (putFd f d fs) (L2.putF f v gs)
  | _, _, .nil => .cons r .nil
  | _, _, .cons (k := k) h t => by
    unfold putFd L2.putF
    by_cases e : k = f
    · rw [if_pos e, if_pos e]; exact .cons r t
    · rw [if_neg e, if_neg e]; exact .cons h (RDf.put r t)
theorem RDf.len {K : PySem.W.Frag} {F : Hp} : ∀ {fs : List (Str × D)} {gs : List (Str × V)}, RDf K F fs gs → fs.length = gs.length
  | _, _, .nil => rfl
  | _, _, .cons h t => by rw [List.length_cons, List.length_cons, RDf.len t]
theorem RDf.none {K : PySem.W.Frag} {F : Hp} {f : Str} : ∀ {fs : List (Str × D)} {gs : List (Str × V)}, RDf K F fs gs → fs.lookup f = none → gs.lookup f = none
  | _, _, .nil, _ => rfl
  | _, _, .cons (k := k) h t, e => by
    rw [List.lookup_cons] at e ⊢
    cases hk : f == k with
    | true => rw [hk] at e; cases e
    | false => rw [hk] at e; exact RDf.none t e
def insOf (C : Addr) (h : MH) (x : D) : Option (Addr × List (Str × D)) := match x with
  | .ref a => match h a with
    | some (.ins C' fs) => if C' = C then some (a, fs) else none
    | _ => none
  | _ => none
section
variable {X : Cx} {B : Bs} {e o value : Expr} {es : List Expr} {ta to tv : WE} {wa : WA} {pos pos' apos tpos p : Pos} {C f : Addr} {n m x : Str} {k : Nat} {fd : FuncData} {ps : List Str} {sp : MSp} {Es : MSt → XQ}
end
end BP

set_option maxRecDepth 100000
set_option maxHeartbeats 4000000
namespace BP
open PySem PySem.Spec PyProof.Rows L2
def zip3D (xs ys zs : List D) : List D := ((xs.zip ys).zip zs).map fun p => .tup [p.1.1, p.1.2, p.2]
def wZip3 (t : WA) : WI := fun σ h Q => t σ h fun ds h1 => match ds with
  | [.lst xs, .lst ys, .lst zs] => Q (zip3D xs ys zs) h1
  | _ => False
section
variable {X : Cx} {B : Bs} {a b c : Expr} {wa : WA} {p pos : Pos}
end
section
variable {wa : WA} {σ : MSt} {h : MH}
@[simp] theorem r_zip3 {P : List D → MH → Prop} : wZip3 wa σ h P = wa σ h fun ds h1 => match ds with
  | [.lst xs, .lst ys, .lst zs] => P (zip3D xs ys zs) h1
  | _ => False := (rfl)
end
end BP

set_option maxRecDepth 100000
set_option maxHeartbeats 4000000
namespace BP
open PySem PySem.Spec PyProof.Rows L2
def wZipR (t : WA) : WI := fun σ h Q => t σ h fun ds h1 => match ds with
  | [d0, d1] => match rowF d0, rowF d1 with
    | some ds, some es => Q (zipD ds es) h1
    | _, _ => False
  | _ => False
section
variable {X : Cx} {B : Bs} {a b c : Expr} {wa : WA} {p pos : Pos}
end
section
variable {wa : WA} {σ : MSt} {h : MH}
@[simp] theorem r_zipR {P : List D → MH → Prop} : wZipR wa σ h P = wa σ h fun ds h1 => match ds with
  | [d0, d1] => match rowF d0, rowF d1 with
    | some ds, some es => P (zipD ds es) h1
    | _, _ => False
  | _ => False := (rfl)
end
def wZipR3 (t : WA) : WI := fun σ h Q => t σ h fun ds h1 => match ds with
  | [d0, d1, d2] => match rowF d0, rowF d1, rowF d2 with
    | some ds, some es, some fs => Q (zip3D ds es fs) h1
    | _, _, _ => False
  | _ => False
section
variable {X : Cx} {B : Bs} {a b c : Expr} {wa : WA} {p pos : Pos}
end
section
variable {wa : WA} {σ : MSt} {h : MH}
@[simp] theorem r_zipR3 {P : List D → MH → Prop} : wZipR3 wa σ h P = wa σ h fun ds h1 => match ds with
  | [d0, d1, d2] => match rowF d0, rowF d1, rowF d2 with
    | some ds, some es, some fs => P (zip3D ds es fs) h1
    | _, _, _ => False
  | _ => False := (rfl)
end
end BP

set_option maxRecDepth 100000
set_option maxHeartbeats 4000000
namespace BP
open PySem PySem.Spec PyProof.Rows L2
section
variable {X : Cx} {pins : List (Addr × Obj)} {σ : L2.St} {H : Hp} {s : Shared} {h' : Heap}
def others (h : Heap) (L : Addr) : List (Addr × Obj) := (List.range h.objs.size).filterMap fun b => if b = L then none else (h.get? b).map fun o => (b, o)
end
def lenD (x : D) : Nat := match rowF x with
  | some ys => ys.length
  | none => 0
def minL : List D → D
  | [] => .non
  | x :: xs => xs.foldl (fun b y => if lenD y < lenD b then y else b) x
def fMinLen (ds : List D) (h : MH) (Q : MQ) : Prop := match ds with
  | [d] => match lsOf h d with
    | some xs => (xs ≠ [] ∧ xs.all (fun y => (rowF y).isSome) = true) ∧ Q (minL xs) h
    | none => False
  | _ => False
section
variable {X : Cx} {B : Bs} {e : Expr} {wa : WA} {p p2 p3 pos : Pos}
end
@[simp] theorem o_minLen {xs : List D} {h : MH} {Q : MQ} : fMinLen [.lst xs] h Q = ((xs ≠ [] ∧ xs.all (fun y => (rowF y).isSome) = true) ∧ Q (minL xs) h) := (rfl)
end BP

set_option maxRecDepth 100000
set_option maxHeartbeats 4000000
namespace BP
open PySem PySem.Spec PyProof.Rows L2
section
variable {X : Cx} {pins : List (Addr × Obj)} {σ : L2.St} {H : Hp} {s : Shared}
end
def wScGo (put : MSt → D → Option MSt) (te : WE) (σ : MSt) : List D → List Int → MH → (List Int → MH → Prop) → Prop
  | [], acc, h, Q => Q acc h
  | d :: ds, acc, h, Q => match put σ d with
    | some σ2 => te σ2 h fun y h2 => match y with
      | .int c => acc.length < 4090 ∧ wScGo put te σ ds (acc ++ [c]) h2 Q
      | _ => False
    | none => False
def wLenSc (wi : WI) (put : MSt → D → Option MSt) (te : WE) (vs : List Nat) : WE := fun σ h Q => wi σ h fun ds h1 => wScGo put te (mwipe σ vs) ds [] h1 fun ns h2 => ∀ c : Nat, c ≤ ns.length → (c = ns.length ↔ ns.Nodup) → Q (.int (c : Nat)) h2
section
variable {X : Cx} {B : Bs} {p p2 pos : Pos}
variable {wi : WI} {put : MSt → D → Option MSt} {te : WE} {vs : List Nat} {σ : MSt} {h : MH} {Q : MQ}
@[simp] theorem r_lenSc : wLenSc wi put te vs σ h Q = wi σ h fun ds h1 => wScGo put te (mwipe σ vs) ds [] h1 fun ns h2 => ∀ c : Nat, c ≤ ns.length → (c = ns.length ↔ ns.Nodup) → Q (.int (c : Nat)) h2 := (rfl)
end
end BP

set_option maxRecDepth 100000
set_option maxHeartbeats 4000000
namespace BP
open PySem PySem.Spec PyProof.Rows L2
def wLcGoR (p : Addr) (all : List D) (put : MSt → D → Option MSt) (tt : WT) (te : WE) (σ : MSt) : List D → List D → MH → (List D → MH → Prop) → Prop
  | [], acc, h, Q => h p = some (.lst all) ∧ Q acc h
  | d :: ds, acc, h, Q => h p = some (.lst all) ∧ match put σ d with
    | some σ2 => tt σ2 h fun b h3 => if b = true then te σ2 h3 fun y h4 => acc.length < sizeLine ∧ wLcGoR p all put tt te σ ds (acc ++ [y]) h4 Q else wLcGoR p all put tt te σ ds acc h3 Q
    | none => False
def wLcR (ta : WE) (put : MSt → D → Option MSt) (tt : WT) (te : WE) (vs : List Nat) : WE := fun σ h Q => ta σ h fun d h1 => match d with
  | .ref p => match h1 p with
    | some (.lst ds) => wLcGoR p ds put tt te (mwipe σ vs) ds [] h1 fun acc h2 => Q (.lst acc) h2
    | _ => False
  | _ => False
section
variable {X : Cx} {B : Bs} {pos : Pos}
end
section
variable {ta : WE} {put : MSt → D → Option MSt} {tt : WT} {te : WE} {vs : List Nat} {σ : MSt} {h : MH} {Q : MQ}
@[simp] theorem r_lcR : wLcR ta put tt te vs σ h Q = ta σ h fun d h1 => match d with
  | .ref p => match h1 p with
    | some (.lst ds) => wLcGoR p ds put tt te (mwipe σ vs) ds [] h1 fun acc h2 => Q (.lst acc) h2
    | _ => False
  | _ => False := (rfl)
end
def gR (n : Nat) (gs : WGs) : WG := fun d σ h Q => match rowF d with
  | some ds => ds.length = n ∧ gs ds σ h Q
  | none => False
section
variable {X : Cx} {B : Bs} {es : List Expr} {pos : Pos}
@[simp] theorem r_gR {n : Nat} {gs : WGs} {d : D} {σ : MSt} {h : MH} {P : MSt → MH → Prop} : gR n gs d σ h P = match rowF d with
  | some ds => ds.length = n ∧ gs ds σ h P
  | none => False := (rfl)
end
end BP

set_option maxRecDepth 100000
set_option maxHeartbeats 4000000
namespace BP
open PySem PySem.Spec PyProof.Rows L2
section
variable {P : Program} {w : World} {A : Around} {E : Value → Shared → Prop} {s : Shared}
end
section
variable {X : Cx} {B : Bs} {a e : Expr} {ta : WE} {p p2 q pos : Pos}
end
end BP

set_option maxRecDepth 100000
set_option maxHeartbeats 4000000
namespace BP
open PySem PySem.Spec PyProof.Rows L2
section
variable {prog : Program} {w : World} {A : Around} {E : Value → Shared → Prop} {s : Shared}
end
section
variable {X : Cx} {B : Bs} {pos p2 : Pos}
def putSl (d o : D) (lo hi : Option Int) (h : MH) (P : MH → Prop) : Prop := match o with
  | .ref p => match h p, lsOf h d with
    | some (.lst xs), some ys => (d ≠ .ref p ∧ HT.sIx xs.length 0 lo ≤ HT.sIx xs.length xs.length hi ∧ xs.length + ys.length ≤ sizeLine) ∧ P (mupd h p (.lst (xs.take (HT.sIx xs.length 0 lo) ++ ys ++ xs.drop (HT.sIx xs.length xs.length hi))))
    | _, _ => False
  | _ => False
def gSl (to : WE) (tl th : WO) : WG := fun d σ h Q => to σ h fun o h1 => tl σ h1 fun lo h2 => th σ h2 fun hi h3 => putSl d o lo hi h3 (Q σ)
end
@[simp] theorem r_gSl {to : WE} {tl th : WO} {d : D} {σ : MSt} {h : MH} {P : MSt → MH → Prop} : gSl to tl th d σ h P = to σ h fun o h1 => tl σ h1 fun lo h2 => th σ h2 fun hi h3 => putSl d o lo hi h3 (P σ) := (rfl)
end BP

set_option maxRecDepth 100000
set_option maxHeartbeats 4000000
namespace BP
open PySem PySem.Spec PyProof.Rows L2
def wLc2Go (put : MSt → D → Option MSt) (tt : WT) (wi1 : WI) (put' : MSt → D → Option MSt) (tt1 : WT) (te : WE) (vs1 : List Nat) (σ : MSt) : List D → List D → MH → (List D → MH → Prop) → Prop
  | [], acc, h, Q => Q acc h
  | d :: ds, acc, h, Q => match put σ d with
    | some σ2 => tt σ2 h fun b h3 => if b = true then wi1 σ2 h3 fun ds1 h4 => wLcGo put' tt1 te (mwipe σ2 vs1) ds1 acc h4 fun acc' h5 => wLc2Go put tt wi1 put' tt1 te vs1 σ ds acc' h5 Q
      else wLc2Go put tt wi1 put' tt1 te vs1 σ ds acc h3 Q
    | none => False
def wLc2 (wi : WI) (put : MSt → D → Option MSt) (tt : WT) (wi1 : WI) (put' : MSt → D → Option MSt) (tt1 : WT) (te : WE) (vs vs1 : List Nat) : WE := fun σ h Q => wi σ h fun ds h1 => wLc2Go put tt wi1 put' tt1 te vs1 (mwipe σ vs) ds [] h1 fun acc h2 => Q (.lst acc) h2
section
variable {X : Cx} {B : Bs} {pos : Pos}
end
@[simp] theorem r_lc2 {wi wi1 : WI} {put put' : MSt → D → Option MSt} {tt tt1 : WT} {te : WE} {vs vs1 : List Nat} {σ : MSt} {h : MH} {Q : MQ} : wLc2 wi put tt wi1 put' tt1 te vs vs1 σ h Q = wi σ h fun ds h1 => wLc2Go put tt wi1 put' tt1 te vs1 (mwipe σ vs) ds [] h1 fun acc h2 => Q (.lst acc) h2 := (rfl)
end BP

set_option maxRecDepth 100000
set_option maxHeartbeats 4000000
namespace BP
open PySem PySem.Spec PyProof.Rows L2 LamX
section
variable {X : Cx} {pins : List (Addr × Obj)} {σ : L2.St} {H : Hp} {s : Shared}
end
section
def wActS (i : Nat) (f : Addr) (tl : LTl) (Es : MSt → XQ) : WE := fun σ h Q => σ[i]? = some (some (.ref f)) ∧ tl h Q (Es σ)
end
abbrev LSp2 := LTl → D → MH → MQ → XQ → Prop
def wLam2 (P : Addr) (q : Str) (sp : LSp2) (Es : MSt → XQ) (t : (MSt → XQ) → WE) (te : WE) : WE := fun σ h Q => h P = some (.tbl q) ∧ te σ h fun d h1 => sp (fun h' Q' E' => t (fun _ => E') σ h' Q') d h1 Q (Es σ)
section
variable {X : Cx} {B : Bs} {Es : MSt → XQ}
end
@[simp] theorem r_lam2 {P : Addr} {q : Str} {sp : LSp2} {Es : MSt → XQ} {t : (MSt → XQ) → WE} {te : WE} {σ : MSt} {h : MH} {Q : MQ} : wLam2 P q sp Es t te σ h Q = (h P = some (.tbl q) ∧ te σ h fun d h1 => sp (fun h' Q' E' => t (fun _ => E') σ h' Q') d h1 Q (Es σ)) := (rfl)
def wLc2M (wi : WI) (put : MSt → D → Option MSt) (tt : WT) (wi1 : WI) (put' : MSt → D → Option MSt) (tt1 : WT) (te : WE) (vs vs1 : List Nat) : WE := fun σ h Q => wi σ h fun ds h1 => wLc2Go put tt wi1 put' tt1 te vs1 (mwipe σ vs) ds [] h1 fun acc h2 => ∀ p, h2 p = none → Q (.ref p) (mupd h2 p (.lst acc))
@[simp] theorem r_lc2M {wi wi1 : WI} {put put' : MSt → D → Option MSt} {tt tt1 : WT} {te : WE} {vs vs1 : List Nat} {σ : MSt} {h : MH} {Q : MQ} : wLc2M wi put tt wi1 put' tt1 te vs vs1 σ h Q = wi σ h fun ds h1 => wLc2Go put tt wi1 put' tt1 te vs1 (mwipe σ vs) ds [] h1 fun acc h2 => ∀ p, h2 p = none → Q (.ref p) (mupd h2 p (.lst acc)) := (rfl)
section
variable {X : Cx} {B : Bs} {pos : Pos}
end
@[simp] theorem r_actS {i : Nat} {f : Addr} {tl : LTl} {Es : MSt → XQ} {σ : MSt} {h : MH} {Q : MQ} : wActS i f tl Es σ h Q = (σ[i]? = some (some (.ref f)) ∧ tl h Q (Es σ)) := (rfl)
end BP

set_option maxRecDepth 100000
set_option maxHeartbeats 4000000
namespace BP
open PySem PySem.Spec PyProof.Rows L2
structure IsC (K : PySem.W.Frag) (C : Addr) : Prop where
  cl : Cls K C
  ha : PySem.W.findIn K (.ref C) "__class__" = some (some (.builtin "object.__class__"))
  hn : PySem.W.specialIn K (.builtin "object.__class__") "__get__" = some (some (.builtin "getset_descriptor.__get__"))
  htk : PySem.W.takesIn K (.builtin "object.__class__") = some true
  hm : PySem.W.mroIn K C (.type "object") = some true
  is : PySem.W.isClsIn K C = true
  ty : PySem.W.typeIn K (.ref C) = some (.type "type")
theorem IsC.no {K : PySem.W.Frag} {C : Addr} (i : IsC K C) {n : String} (h : n ∈ ["NoneType", "bool", "int", "str", "tuple", "list", "dict"]) : PySem.W.kitOne K (.type n) (.ref C) = some false := by
  have h2 : (PySem.W.clsIn K C).isSome = true := i.is
  unfold PySem.W.kitOne PySem.W.kitCls
  rw [if_neg (by simp)]
  simp only [h2, i.ty, beq_self_eq_true, Bool.and_self, if_true, PySem.W.subIn]
  simp only [List.mem_cons, List.not_mem_nil, or_false] at h
  rcases h with rfl | rfl | rfl | rfl | rfl | rfl | rfl <;> rfl
section
variable {X : Cx} {B : Bs} {a b e : Expr} {ta tb : WE} {pos p : Pos}
end
structure OwnCmp (K : PySem.W.Frag) (C f : Addr) : Prop where
  eq : PySem.W.findIn K (.ref C) "__eq__" = some (some (.ref f))
  fn : PySem.W.isFn K (.ref f) = true
  ne : PySem.W.findIn K (.ref C) "__ne__" = some (some (.builtin "object.__ne__"))
  mo : PySem.W.mroIn K C (.type "object") = some true
section
open PySem.W Builtin
variable {prog : Program} {w : World} {A : Around} {E : Value → Shared → Prop} {s : Shared} {K : Frag} {x C L f : Addr} {h₀ : Heap} {m : Str → Option Value} {ox : Obj} {od : Option Obj} {name : Str} {b tb : Value}
end
def opOwn (C : Addr) (sp : MSp) (neg : Bool) (x y : D) (h : MH) (Q : MQ) : Prop := (insOf C h x).isSome = true ∧ (insOf C h y).isSome = true ∧ sp [x, y] h (fun d h' => match d with
  | .bl c => Q (.bl (if neg = true then !c else c)) h'
  | _ => False) fun _ _ _ => False
section
variable {X : Cx} {B : Bs} {a b : Expr} {ta tb : WE} {pos : Pos} {C f : Addr} {fd : FuncData} {ps : List Str} {sp : MSp} {k : Nat}
end
def fGetKI (tab : List (Int × D)) (x : D) (h : MH) (Q : MQ) : Prop := match x with
  | .int z => match tab.lookup z with
    | some dd => Q dd h
    | none => False
  | _ => False
section
variable {X : Cx} {B : Bs} {a b : Expr} {ta tb : WE} {pos : Pos} {d : Addr} {tab : List (Int × D)}
end
@[simp] theorem o_getKI {tab : List (Int × D)} {z : Int} {h : MH} {Q : MQ} : fGetKI tab (.int z) h Q = match tab.lookup z with
    | some dd => Q dd h
    | none => False := (rfl)
@[simp] theorem o_own {C : Addr} {sp : MSp} {neg : Bool} {x y : D} {h : MH} {Q : MQ} : opOwn C sp neg x y h Q = ((insOf C h x).isSome = true ∧ (insOf C h y).isSome = true ∧ sp [x, y] h (fun d h' => match d with
  | .bl c => Q (.bl (if neg = true then !c else c)) h'
  | _ => False) fun _ _ _ => False) := (rfl)
end BP

set_option maxRecDepth 100000
set_option maxHeartbeats 4000000
namespace BP
open PySem PySem.Spec PyProof.Rows L2
section
variable {X : Cx} {B : Bs} {a b : Expr} {ta tb : WE} {pos : Pos} {C f : Addr} {fd : FuncData} {ps : List Str} {sp : MSp} {k : Nat}
end
end BP

set_option maxRecDepth 100000
set_option maxHeartbeats 4000000
namespace BP
open PySem PySem.Spec PyProof.Rows L2
def keysD : List D → Option (List Key)
  | [] => some []
  | d :: ds => match keyD d, keysD ds with
    | some k, some ks => some (k :: ks)
    | _, _ => none
def atTk (kvs : List (List Key × D)) (k : List Key) : Option D := (kvs.find? fun kv => decide (kv.1 = k)).map (·.2)
def putTk (kvs : List (List Key × D)) (k : List Key) (v : D) : List (List Key × D) :=
  if (kvs.any fun kv => decide (kv.1 = k)) = true then kvs.map (fun kv => if kv.1 = k then (kv.1, v) else kv) else kvs ++ [(k, v)]
section
variable {K : PySem.W.Frag} {F H : Hp} {h : MH}
end
section
variable {X : Cx} {B : Bs} {a b e o i v : Expr} {ta tb te to ti tv : WE} {pos pos' : Pos} {es : List Expr} {wa : WA}
def wDctT : WE := fun _ h Q => ∀ p, h p = none → Q (.ref p) (mupd h p (.dcT []))
def opGetDt (x : D) (ks : List D) (h : MH) (Q : MQ) : Prop := match x, keysD ks with
  | .ref a, some k => match h a with
    | some (.dcT kvs) => match atTk kvs k with
      | some d => Q d h
      | none => False
    | _ => False
  | _, _ => False
def wGetDt (ta : WE) (wa : WA) : WE := fun σ h Q => ta σ h fun x h1 => wa σ h1 fun ks h2 => ks.length ≤ sizeLine ∧ opGetDt x ks h2 Q
def wPutDt (to : WE) (wa : WA) (tv : WE) : WS := fun D σ h => tv σ h fun d h1 => to σ h1 fun x h2 => wa σ h2 fun ks h3 => ks.length ≤ sizeLine ∧ match x, keysD ks with
  | .ref a, some k => match h3 a with
    | some (.dcT kvs) => kvs.length < sizeLine ∧ D.nx σ (mupd h3 a (.dcT (putTk kvs k d)))
    | _ => False
  | _, _ => False
end
section
variable {h : MH} {Q : MQ} {x y : D} {a : Addr} {kvs : List (List Key × D)} {k : List Key} {D0 : MEnds} {σ : MSt}
@[simp] theorem kt_2 {i j : Int} : keysD [.int i, .int j] = some [.inl i, .inl j] := (rfl)
@[simp] theorem r_dctT : wDctT σ h Q = ∀ p, h p = none → Q (.ref p) (mupd h p (.dcT [])) := (rfl)
@[simp] theorem r_getDt {ta : WE} {wa : WA} : wGetDt ta wa σ h Q = ta σ h fun x h1 => wa σ h1 fun ks h2 => ks.length ≤ sizeLine ∧ opGetDt x ks h2 Q := (rfl)
@[simp] theorem o_getDt {ks : List D} : opGetDt (.ref a) ks h Q = match keysD ks with
  | some k => match h a with
    | some (.dcT kvs) => match atTk kvs k with
      | some d => Q d h
      | none => False
    | _ => False
  | none => False := by unfold opGetDt; cases keysD ks <;> rfl
@[simp] theorem r_putDt {to tv : WE} {wa : WA} : wPutDt to wa tv D0 σ h = tv σ h fun d h1 => to σ h1 fun x h2 => wa σ h2 fun ks h3 => ks.length ≤ sizeLine ∧ match x, keysD ks with
  | .ref a, some k => match h3 a with
    | some (.dcT kvs) => kvs.length < sizeLine ∧ D0.nx σ (mupd h3 a (.dcT (putTk kvs k d)))
    | _ => False
  | _, _ => False := (rfl)
end
end BP

set_option maxRecDepth 100000
set_option maxHeartbeats 4000000
namespace BP
open PySem PySem.Spec PyProof.Rows L2
section
variable {prog : Program} {w : World} {A : Around} {E : Value → Shared → Prop} {s : Shared} {l : Addr} {xs : Array (Int × Tok)} {its : List Value} {ns : List Int} {Q : Value → Shared → Prop}
end
section
variable {X : Cx} {B : Bs} {e : Expr} {es : List Expr} {wa : WA} {pos : Pos}
end
end BP

set_option maxRecDepth 100000
set_option maxHeartbeats 4000000
namespace BP
open PySem PySem.Spec PyProof.Rows L2
section
variable {X : Cx} {B : Bs} {o value : Expr} {to tv : WE} {pos tpos : Pos} {C : Addr} {n : Str}
def wAugFS (C : Addr) (n : Str) (to tv : WE) : WS := fun D σ h => to σ h fun x h1 => match insOf C h1 x with
  | some (a, fs) => match fs.lookup n with
    | some (.int i) => tv σ h1 fun y h2 => match y with
      | .int j => match insOf C h2 (.ref a) with
        | some (a', fs') => fs'.length < 1000 ∧ D.nx σ (mupd h2 a' (.ins C (putFd n (.int (i - j)) fs')))
        | none => False
      | _ => False
    | _ => False
  | none => False
def gFl (C : Addr) (n : Str) (to : WE) : WG := fun d σ h Q => to σ h fun x h1 => match insOf C h1 x with
  | some (a, fs) => fs.length < 1000 ∧ Q σ (mupd h1 a (.ins C (putFd n d fs)))
  | none => False
end
section
variable {h : MH} {D0 : MEnds} {σ : MSt} {C : Addr} {n : Str} {to tv : WE} {d : D} {P : MSt → MH → Prop}
@[simp] theorem r_augFS : wAugFS C n to tv D0 σ h = to σ h fun x h1 => match insOf C h1 x with
  | some (a, fs) => match fs.lookup n with
    | some (.int i) => tv σ h1 fun y h2 => match y with
      | .int j => match insOf C h2 (.ref a) with
        | some (a', fs') => fs'.length < 1000 ∧ D0.nx σ (mupd h2 a' (.ins C (putFd n (.int (i - j)) fs')))
        | none => False
      | _ => False
    | _ => False
  | none => False := (rfl)
@[simp] theorem r_gFl : gFl C n to d σ h P = to σ h fun x h1 => match insOf C h1 x with
  | some (a, fs) => fs.length < 1000 ∧ P σ (mupd h1 a (.ins C (putFd n d fs)))
  | none => False := (rfl)
end
end BP

set_option maxRecDepth 100000
set_option maxHeartbeats 1000000
namespace BP
open PySem PySem.Spec PyProof.Rows L2
def opGet2 (x y z : D) (h : MH) (Q : MQ) : Prop := match dcOf h x, keyD y with
  | some kvs, some k => Q ((atD kvs k).getD z) h
  | _, _ => False
def wGet2 (to ti tv : WE) : WE := fun σ h Q => to σ h fun x h1 => (dcOf h1 x).isSome = true ∧ ti σ h1 fun y h2 => tv σ h2 fun z h3 => opGet2 x y z h3 Q
section
variable {X : Cx} {B : Bs} {o i v : Expr} {to ti tv : WE} {apos cpos : Pos}
@[simp] theorem r_get2 {σ : MSt} {h : MH} {Q : MQ} : wGet2 to ti tv σ h Q = to σ h fun x h1 => (dcOf h1 x).isSome = true ∧ ti σ h1 fun y h2 => tv σ h2 fun z h3 => opGet2 x y z h3 Q := (rfl)
@[simp] theorem o_get2 {x y z : D} {h : MH} {Q : MQ} : opGet2 x y z h Q = match dcOf h x, keyD y with
  | some kvs, some k => Q ((atD kvs k).getD z) h
  | _, _ => False := (rfl)
end
end BP
namespace PySem.SeqAt
open AutoSeq1 (wpAny_loadPart')
open MeetsSeq MeetsSeq2 MeetsSeq3 SeqRoads2
end PySem.SeqAt
namespace BP
open PySem PySem.Spec PyProof.Rows L2
def SameDc (h : MH) (x y : D) : Prop := ∃ kvs, dcOf h x = some kvs ∧ dcOf h y = some kvs ∧ (kvs.map (·.1)).Nodup ∧ ∀ kv ∈ kvs, ∃ i : Int, kv.2 = .int i
def opNeTD (x y : D) (h : MH) (Q : MQ) : Prop := match x, y with
  | .tup as, .tup bs => Paired (SameDc h) as bs ∧ Q (.bl false) h
  | _, _ => False
section
variable {X : Cx} {B : Bs} {a b : Expr} {ta tb : WE} {pos : Pos}
@[simp] theorem o_neTD {as bs : List D} {h : MH} {Q : MQ} : opNeTD (.tup as) (.tup bs) h Q = (Paired (SameDc h) as bs ∧ Q (.bl false) h) := (rfl)
end
end BP
namespace BP
open PySem PySem.Spec PyProof.Rows L2
def fPop0 (x : D) (ds : List D) (h : MH) (Q : MQ) : Prop := match x, ds with
  | .ref a, [] => match h a with
    | some (.lst xs) => match xs[xs.length - 1]? with
      | some y => Q y (mupd h a (.lst xs.dropLast))
      | none => False
    | _ => False
  | _, _ => False
theorem RDs.dropLast {K : PySem.W.Frag} {F : Hp} {ds : List D} {vs : List V} (r : RDs K F ds vs) : RDs K F ds.dropLast vs.dropLast := by
  rw [List.dropLast_eq_take, List.dropLast_eq_take, r.length]
  exact RDs.take _ r
@[simp] theorem o_pop0 {a : Addr} {h : MH} {Q : MQ} : fPop0 (.ref a) [] h Q = match h a with
    | some (.lst xs) => match xs[xs.length - 1]? with
      | some y => Q y (mupd h a (.lst xs.dropLast))
      | none => False
    | _ => False := (rfl)
def wItemsL (t : WE) : WI := fun σ h Q => t σ h fun d h1 => match d with
  | .ref a => (match h1 a with
    | some (.dct kvs) => Q (kvs.map itemD) (mdel h1 a)
    | _ => False)
  | _ => False
theorem rdk_get {K : PySem.W.Frag} {F : Hp} : ∀ {kvs : List (Key × D)} {xs : List (Key × V)} {i : Nat} {k : Key} {v : V}, RDk K F kvs xs → xs[i]? = some (k, v) → ∃ d, kvs[i]? = some (k, d) ∧ RD K F d v
  | _, _, _, _, _, .nil, e => by simp at e
  | _, _, 0, _, _, .cons r _, e => by simp at e; obtain ⟨rfl, rfl⟩ := e; exact ⟨_, rfl, r⟩
  | _, _, i + 1, k, v, .cons _ r, e => by
    obtain ⟨d, h1, h2⟩ := rdk_get (i := i) (k := k) (v := v) r (by simpa using e)
    exact ⟨d, by simpa using h1, h2⟩
@[simp] theorem r_itemsL {t : WE} {σ : MSt} {h : MH} {Q : List D → MH → Prop} : wItemsL t σ h Q = t σ h fun d h1 => match d with
  | .ref a => (match h1 a with
    | some (.dct kvs) => Q (kvs.map itemD) (mdel h1 a)
    | _ => False)
  | _ => False := (rfl)
end BP

namespace BP
open PySem PySem.Spec PyProof.Rows L2
def frzN (h : MH) : Nat → D → D
  | 0, d => d
  | n + 1, .ref p => (match h p with
    | some (.lst xs) => .lst (xs.map (frzN h n))
    | some (.dct xs) => .dct xs
    | _ => .ref p)
  | n + 1, .tup ds => .tup (ds.map (frzN h n))
  | n + 1, .lst ds => .lst (ds.map (frzN h n))
  | _ + 1, d => d
section
variable {K : PySem.W.Frag} {F H : Hp} {h : MH}
end
def spN (sp : MSp) : MSp := fun ds h Q E => sp (ds.map (frzN h 4)) (fun _ => none) (lentQ Q h) (lentE E h)
@[simp] theorem s_lentN {sp : MSp} {ds : List D} {h : MH} {Q : MQ} {E : XQ} : spN sp ds h Q E = sp (ds.map (frzN h 4)) (fun _ => none) (lentQ Q h) (lentE E h) := (rfl)
end BP

set_option maxRecDepth 100000
set_option maxHeartbeats 4000000
namespace BP
open PySem PySem.Spec
section
variable {M : Model} {A : Around} {E : Value → Shared → Prop} {h : Heap} {g : Array GenState} {d : Drawn} {t : Nat} {os : OsState}
variable {nm q : Str} {C N : Addr} {bs bm bmB : List Value} {hdct : Bool} {sn : List Str} {sub : List Value} {ab : Bool} {col : Option Bool} {dd : Option Addr} {k0 k1 k2 k3 k5 : Option Value} {B newId initId : String}
end
section
variable {prog : Program} {w : World} {A : Around} {E : Value → Shared → Prop} {R : Result → Shared → Prop} {h : Heap} {g : Array GenState} {d : Drawn} {t : Nat} {os : OsState}
variable {nm q : Str} {C N : Addr} {bs bm bmB : List Value} {hdct : Bool} {sn : List Str} {sub : List Value} {ab : Bool} {col : Option Bool} {dd : Option Addr} {k0 k1 k2 k3 k5 : Option Value} {B newId initId : String}
end
end BP
namespace BP
open PySem PySem.Spec PyProof.Rows L2
structure XKw (K : PySem.W.Frag) (fI : Addr) (fs : List Str) : Prop where
  b : ∀ (fd : FuncData) (oc : Value) (od : Option Addr) (osl : Array (Option Value)), K.lookup fI = some ⟨oc, od, .func fd, osl⟩ → ∀ (x : Value) (us : List Value), us.length = fs.length → bindArgs fd ⟨[x], (fs.zip us).reverse⟩ = pure (((("self" : Str)) :: fs).zip (x :: us))
structure XAll (K : PySem.W.Frag) (C : Addr) : Prop where
  ex : PySem.W.subIn K (.ref C) (.type "BaseException") = some true
  gt : XGet K C
  is : XIs K C
section
variable {X : Cx} {B : Bs} {e c : Expr} {es : List Expr} {kws : List Keyword} {te : WE} {wa wk : WA} {n : String} {C fI : Addr} {fs ks : List Str} {k : Nat} {p pos : Pos} {xc : String → Addr} {known : String → Bool} {pins : List (Addr × Obj)} {σ : L2.St} {H1 : Hp}
def wExV (xc : String → Addr) (n : String) (fs : List Str) (wa : WA) : WE := fun σ h Q => wa σ h fun ds h1 => ds.length = fs.length ∧ ds.length ≤ 1000 ∧ ∀ p, h1 p = none → Q (.ref p) (mupd h1 p (.exv (xc n) n (fs.zip ds)))
def wExVr (xc : String → Addr) (n : String) (fs : List Str) (wa : WA) : WE := fun σ h Q => wa σ h fun ds h1 => ds.length = fs.length ∧ ds.length ≤ 1000 ∧ ∀ p, h1 p = none → Q (.ref p) (mupd h1 p (.exv (xc n) n (fs.zip ds.reverse)))
def wIsV (xc : String → Addr) (known r : String → Bool) (te : WE) : WE := fun σ h Q => te σ h fun x h1 => match x with
  | .ref p => match h1 p with
    | some (.exv C n _) => C = xc n ∧ known n = true ∧ Q (.bl (r n)) h1
    | _ => False
  | _ => False
def wFlV (xc : String → Addr) (hasF : String → Bool) (f : Str) (te : WE) : WE := fun σ h Q => te σ h fun x h1 => match x with
  | .ref p => match h1 p with
    | some (.exv C n fs) => C = xc n ∧ hasF n = true ∧ (match fs.lookup f with | some v => Q v h1 | none => False)
    | _ => False
  | _ => False
end
def fCntB (x : D) (ds : List D) (h : MH) (Q : MQ) : Prop := match lsOf h x, ds with
  | some xs, [.bl k] => match bls xs with
    | some bs => Q (.int (bs.count k : Nat)) h
    | none => False
  | _, _ => False
@[simp] theorem o_cntB {k : Bool} {xs : List D} {h : MH} {Q : MQ} : fCntB (.lst xs) [.bl k] h Q = match bls xs with
    | some bs => Q (.int (bs.count k : Nat)) h
    | none => False := (rfl)
def NewAt (h : MH) (p : Addr) (c : Cell) (h' : MH) : Prop := h p = none ∧ h' = mupd h p c
theorem newAt_all {h : MH} {c : Cell} {K : Addr → MH → Prop} : (∀ p, h p = none → K p (mupd h p c)) = ∀ p h', NewAt h p c h' → K p h' := propext ⟨fun k p h' ⟨a, b⟩ => b ▸ k p a, fun k p a => k p _ ⟨a, rfl⟩⟩
@[simp] theorem r_exV {xc : String → Addr} {n : String} {fs : List Str} {wa : WA} {σ : MSt} {h : MH} {Q : MQ} : wExV xc n fs wa σ h Q = wa σ h fun ds h1 => ds.length = fs.length ∧ ds.length ≤ 1000 ∧ ∀ p h', NewAt h1 p (.exv (xc n) n (fs.zip ds)) h' → Q (.ref p) h' := by
  unfold wExV
  simp only [newAt_all (K := fun p h' => Q (.ref p) h')]
@[simp] theorem r_exVr {xc : String → Addr} {n : String} {fs : List Str} {wa : WA} {σ : MSt} {h : MH} {Q : MQ} : wExVr xc n fs wa σ h Q = wa σ h fun ds h1 => ds.length = fs.length ∧ ds.length ≤ 1000 ∧ ∀ p h', NewAt h1 p (.exv (xc n) n (fs.zip ds.reverse)) h' → Q (.ref p) h' := by
  unfold wExVr
  simp only [newAt_all (K := fun p h' => Q (.ref p) h')]
def isV (xc : String → Addr) (known r : String → Bool) (x : D) (h : MH) (Q : MQ) : Prop := match x with
  | .ref p => match h p with
    | some (.exv C n _) => C = xc n ∧ known n = true ∧ Q (.bl (r n)) h
    | _ => False
  | _ => False
@[simp] theorem r_isV {xc : String → Addr} {known r : String → Bool} {te : WE} {σ : MSt} {h : MH} {Q : MQ} : wIsV xc known r te σ h Q = te σ h fun x h1 => isV xc known r x h1 Q := (rfl)
def flV (xc : String → Addr) (hasF : String → Bool) (f : Str) (x : D) (h : MH) (Q : MQ) : Prop := match x with
  | .ref p => match h p with
    | some (.exv C n fs) => C = xc n ∧ hasF n = true ∧ (match fs.lookup f with | some v => Q v h | none => False)
    | _ => False
  | _ => False
@[simp] theorem r_flV {xc : String → Addr} {hasF : String → Bool} {f : Str} {te : WE} {σ : MSt} {h : MH} {Q : MQ} : wFlV xc hasF f te σ h Q = te σ h fun x h1 => flV xc hasF f x h1 Q := (rfl)
end BP

set_option maxRecDepth 100000
set_option maxHeartbeats 4000000
namespace BP
open PySem PySem.Spec PyProof.Rows L2 LamX
section
variable {K : PySem.W.Frag} {F H : Hp} {c : Addr} {φ : Heap → Prop}
theorem rd_del {a : Addr} {u : HO} (e : F c = some (.ext φ)) (nu : ∀ ψ, u ≠ .ext ψ) (h : Rd F a u) : Rd (delH F c) a u := by
  rcases h with h | ⟨o, h⟩
  · left
    rw [delH_ne (by rintro rfl; rw [e] at h; cases h; exact nu _ rfl)]
    exact h
  · right
    refine ⟨o, ?_⟩
    rw [delH_ne (by rintro rfl; rw [e] at h; cases h)]
    exact h
theorem sqL_del {a : Addr} {xs : List V} (e : F c = some (.ext φ)) (h : SqL K F a xs) : SqL K (delH F c) a xs := by
  rcases h with h | h
  · exact .inl (rd_del e (fun _ z => nomatch z) h)
  · exact .inr h
theorem at_del {a : Addr} {u : HO} (e : F c = some (.ext φ)) (nu : ∀ ψ, u ≠ .ext ψ) (h : F a = some u) : delH F c a = some u := by
  rw [delH_ne (by rintro rfl; rw [e] at h; cases h; exact nu _ rfl)]
  exact h
theorem sqT_del {a : Addr} {xs : List V} (e : F c = some (.ext φ)) (h : SqU K F a xs) : SqU K (delH F c) a xs := by
  rcases h with h | h
  · exact .inl (at_del e (fun _ z => nomatch z) h)
  · exact .inr h
theorem ne_lst (xs : List V) (ψ : Heap → Prop) : HO.lst xs ≠ .ext ψ := fun z => nomatch z
theorem ne_dK (xs : List (Key × V)) (ψ : Heap → Prop) : HO.dK xs ≠ .ext ψ := fun z => nomatch z
theorem ne_frz (o : Obj) (u : HO) (ψ : Heap → Prop) : HO.frz o u ≠ .ext ψ := fun z => nomatch z
theorem ne_xd (xs : List (Str × V)) (ψ : Heap → Prop) : HO.xd xs ≠ .ext ψ := fun z => nomatch z
end
section
variable {K : PySem.W.Frag} {F : Hp} {c : Addr} {φ : Heap → Prop}
mutual
theorem RD.del (e : F c = some (.ext φ)) : ∀ {d : D} {v : V}, RD K F d v → RD K (delH F c) d v
  | _, _, .non => .non
  | _, _, .bl b => .bl b
  | _, _, .int i => .int i
  | _, _, .str x => .str x
  | _, _, .ty n => .ty n
  | _, _, .ref a => .ref a
  | _, _, .tup h r => .tup (sqT_del e h) (RDs.del e r)
  | _, _, .lst h r => .lst (at_del e (ne_lst _) h) (RDs.del e r)
  | _, _, .scr h => .scr (sqL_del e h)
  | _, _, .dct h r => .dct (at_del e (ne_dK _) h) (RDk.del e r)
  | _, _, .dcl h r => .dcl (at_del e (ne_frz _ _) h) (RDk.del e r)
  | _, _, .exc h r => .exc (at_del e (ne_xd _) h) (RDf.del e r)
theorem RDs.del (e : F c = some (.ext φ)) : ∀ {d : List D} {v : List V}, RDs K F d v → RDs K (delH F c) d v
  | _, _, .nil => .nil
  | _, _, .cons h r => .cons (RD.del e h) (RDs.del e r)
theorem RDk.del (e : F c = some (.ext φ)) : ∀ {d : List (Key × D)} {v : List (Key × V)}, RDk K F d v → RDk K (delH F c) d v
  | _, _, .nil => .nil
  | _, _, .cons h r => .cons (RD.del e h) (RDk.del e r)
theorem RDf.del (e : F c = some (.ext φ)) : ∀ {d : List (Str × D)} {v : List (Str × V)}, RDf K F d v → RDf K (delH F c) d v
  | _, _, .nil => .nil
  | _, _, .cons h r => .cons (RD.del e h) (RDf.del e r)
end
end
section
variable {K : PySem.W.Frag} {F H : Hp} {c : Addr} {φ : Heap → Prop}
theorem RDt.del (e : F c = some (.ext φ)) : ∀ {d : List (List Key × D)} {v : List (List Key × V)}, RDt K F d v → RDt K (delH F c) d v
  | _, _, .nil => .nil
  | _, _, .cons h r => .cons (h.del e) (RDt.del e r)
theorem cellR_del {a : Addr} {k : Cell} (eF : F c = some (.ext φ)) (ac : a ≠ c) (nc : ∀ q, HO.ext φ ≠ CodeO c q) (x : CellR K F H a k) : CellR K (delH F c) (delH H c) a k := by
  have t : ∀ {u}, H a = some u → delH H c a = some u := fun {u} h => by rw [delH_ne ac]; exact h
  cases k with
  | lst ds => obtain ⟨xs, h, r⟩ := x; exact ⟨xs, t h, r.del eF⟩
  | dct ds => obtain ⟨xs, h, r⟩ := x; exact ⟨xs, t h, r.del eF⟩
  | dcT ds => obtain ⟨xs, h, r⟩ := x; exact ⟨xs, t h, r.del eF⟩
  | ins C fs => obtain ⟨dx, gs, h, r⟩ := x; exact ⟨dx, gs, t h, r.del eF⟩
  | exv C n fs => obtain ⟨dd, gs, h, f, r⟩ := x; exact ⟨dd, gs, t h, at_del eF (fun _ z => nomatch z) f, r.del eF⟩
  | tbl q =>
    obtain ⟨ps, h, tr, r⟩ := x
    refine ⟨ps, t h, tr, fun pos cv z => ?_⟩
    obtain ⟨c0, e1, e2⟩ := r pos cv z
    refine ⟨c0, e1, ?_⟩
    rw [delH_ne (by rintro rfl; rw [eF] at e2; exact nc q (Option.some.inj e2))]
    exact e2
theorem SR.del {h : MH} (s : SR K F H h) (eF : F c = some (.ext φ)) (nc : ∀ q, HO.ext φ ≠ CodeO c q) : SR K (delH F c) (delH H c) h := by
  refine ⟨fun a o e => ?_, fun a k e => ?_⟩
  · have ac : a ≠ c := by rintro rfl; rw [delH_same] at e; cases e
    rw [delH_ne ac] at e ⊢
    exact s.fr a o e
  · obtain ⟨f, r⟩ := s.cell a k e
    have ac : a ≠ c := by rintro rfl; rw [eF] at f; cases f
    exact ⟨by rw [delH_ne ac]; exact f, cellR_del eF ac nc r⟩
theorem SR.pin {h : MH} {o : HO} (s : SR K F H h) (nH : H c = none) : SR K (upd F c o) (upd H c o) h := (Go.settled s nH).sr
theorem Go.del {h h3 : MH} {F3 H3 : Hp} (nF : F c = none) (nH : H c = none) (nc : ∀ q, HO.ext φ ≠ CodeO c q) (g : Go K (upd F c (.ext φ)) (upd H c (.ext φ)) h F3 H3 h3) : Go K F H h (delH F3 c) (delH H3 c) h3 := by
  refine ⟨fun a o e => ?_, fun a o e f m => ?_, g.sr.del (g.ss _ _ upd_same) nc⟩
  · have ac : a ≠ c := by rintro rfl; rw [nF] at e; cases e
    rw [delH_ne ac]
    exact g.ss a o (by rw [upd_ne ac]; exact e)
  · have ac : a ≠ c := by rintro rfl; rw [nH] at e; cases e
    obtain ⟨x, y, z⟩ := g.hid a o (by rw [upd_ne ac]; exact e) (by rw [upd_ne ac]; exact f) m
    exact ⟨by rw [delH_ne ac]; exact x, y, by rw [delH_ne ac]; exact z⟩
end
section
variable {P : Program} {w : World} {K : PySem.W.Frag} {mg : Str → Option Value} {base : Heap} {A : Around} {outer : List Env} {s : Shared} {H : Hp} {a : Addr}
end
def lamCxA (X : Cx) (A : Around) (outer : List Env) (s : Shared) (H : Hp) (E : XK) (scope : Scope) (f c' : Addr) (ys : List Str) : Cx := { lamCx X A outer s H E scope f c' with N := X.N ++ ys }
section
variable {X : Cx} {pins : List (Addr × Obj)} {σ : L2.St} {H G : Hp} {s s1 : Shared}
theorem lam_startA {A : Around} {outer : List Env} {E : XK} {scope : Scope} {f c' : Addr} {h1 : Heap} {tk : Nat} {ys : List Str} {us : List Value} {vs : List V} (I : Inv X pins σ H s) (L : LamG X.N X.env.scope scope) (e0 : Env0 X.prog X.w X.K X.mg X.base A outer s1 G) (hd : A.handled = none)
    (hcell : ∀ x c v, X.env.cells.lookup x = some c → s.heap.IsCell c v → h1.IsCell c v) (hfc : ∀ x c, X.env.cells.lookup x = some c → G c = none) (nd : ys.Nodup) (ly : ∀ y ∈ ys, scope.names.lookup y = some .local) (rv : Vals vs us) (hl : vs.length = ys.length) (ns : h1.Ns s1.heap.objs.size fun y => (ys.zip us).reverse.lookup y) (kp : ∀ b o, s1.heap.get? b = some o → h1.get? b = some o) :
    Inv (lamCxA X A outer s1 G E scope f c' ys) [] (σ ++ vs.map some) G { s1 with heap := h1, toks := tk } := by
  have hf := L.has I.ok
  have there : ∀ {y c}, (cloFrom X.env.cells scope.names []).lookup y = some c → X.env.cells.lookup y = some c := fun {y c} e => by
    rcases cloFrom_mem (PySem.mem_of_lookup e) with q | ⟨q1, q2⟩
    · cases q
    · obtain ⟨d, hd⟩ := hf _ q1 rfl
      have hd : X.env.cells.lookup y = some d := hd
      have ed : c = d := by rw [q2, hd] <;> rfl
      rw [ed]; exact hd
  have got : ∀ {y}, scope.names.lookup y = some .free → ∃ c, (cloFrom X.env.cells scope.names []).lookup y = some c := fun {y} q => mem_lookup (cloFrom_has (cells := X.env.cells) (acc := []) (PySem.mem_of_lookup q : (y, NameKind.free) ∈ scope.names))
  have nex : ∀ b : Addr, b ∉ (lamCxA X A outer s1 G E scope f c' ys).ex := fun b z => absurd (show b ∈ ([] : List Addr) from z) (by simp)
  have has' : ∀ y, scope.names.lookup y = some .cell ∨ scope.names.lookup y = some .free → ∃ c, (cloFrom X.env.cells scope.names []).lookup y = some c := fun y q => by
    rcases q with q | q
    · exact absurd rfl (L.own _ (PySem.mem_of_lookup q)).1
    · exact got q
  have lu : us.length = ys.length := by rw [← rv.length]; exact hl
  have mz : ((ys.zip us).map (·.1)).Nodup := by
    rw [List.map_fst_zip (by omega)]
    exact nd
  refine ⟨⟨e0.mod, L.kind, rfl, rfl, Nat.le_refl _, fun y z c e1 e2 => I.ok.inj y z c (there e1) (there e2), fun y q => has' y q, fun y c z _ => (by cases (show false = true from z)), fun _ => hd, Around.frames_deeper e0.frames, .inr ⟨rfl, rfl⟩, fun b z => absurd z (nex b), e0.bs, e0.bsz, fun b _ _ => nex b,
      fun b z => absurd z (nex b), e0.funs, e0.frf⟩, rfl, e0.bare, Un.kept kp, ⟨_, ns, fun i y v e1 e2 e3 => ?_⟩, fun y c e => ?_, e0.hok.fresh (Nat.le_refl _), fun y c e => ?_, fun q hq => absurd (show q ∈ ([] : List (Addr × Obj)) ++ [] from hq) (by simp), e0.hok.kept kp, ?_⟩
  · have e1 : (X.N ++ ys)[i]? = some y := e1
    by_cases hi : i < X.N.length
    · rw [List.getElem?_append_left hi] at e1
      rw [List.getElem?_append_left (by rw [I.len]; exact hi)] at e2
      rcases (show Vis scope y from e3) with k | k | k
      · exact absurd (List.mem_of_getElem? e1) ((L.own _ (PySem.mem_of_lookup k)).2 rfl)
      · exact absurd rfl (L.own _ (PySem.mem_of_lookup k)).1
      · obtain ⟨m, _, lk⟩ := I.loc
        have fr := L.free _ (PySem.mem_of_lookup k) rfl
        obtain ⟨u, r, q⟩ := lk i y v e1 e2 (fr.elim (fun z => .inr (.inl z)) fun z => .inr (.inr z))
        obtain ⟨c2, q2⟩ := got k
        refine ⟨u, r, .inr ⟨.inr k, c2, q2, ?_⟩⟩
        have q1 := there q2
        rcases q with ⟨k', _⟩ | ⟨_, c3, e', z⟩
        · have k' : X.env.scope.names.lookup y = some .local := k'
          rcases fr with z | z <;> rw [show X.env.scope.names.lookup y = _ from z] at k' <;> cases k'
        · rw [q1] at e'; cases e'
          exact hcell y _ _ q1 z
    · rw [List.getElem?_append_right (by omega)] at e1
      rw [List.getElem?_append_right (by rw [I.len]; omega), I.len, List.getElem?_map, Option.map_eq_some_iff] at e2
      obtain ⟨w, e2, ew⟩ := e2
      cases ew
      obtain ⟨u, hu, ru⟩ := rv.get e2
      refine ⟨u, ru, .inl ⟨ly y (List.mem_of_getElem? e1), ?_⟩⟩
      show (ys.zip us).reverse.lookup y = some u
      rw [lookup_rev mz]
      exact lookup_zip nd e1 hu
  · obtain ⟨u, z⟩ := I.cell y c (there e)
    exact ⟨u, hcell y c _ (there e) z⟩
  · exact hfc y c (there e)
  · show (σ ++ vs.map some).length = (X.N ++ ys).length
    rw [List.length_append, List.length_append, List.length_map, I.len, hl]
end
abbrev LTlA := D → D → MH → MQ → Prop
abbrev LSpA := LTlA → D → MH → MQ → XQ → Prop
def wActA (i : Nat) (f : Addr) (tl : LTlA) (wa : WA) : WE := fun σ h Q => σ[i]? = some (some (.ref f)) ∧ wa σ h fun ds h1 => match ds with
  | [x, y] => tl x y h1 Q
  | _ => False
def wLamA (P : Addr) (q : Str) (sp : LSpA) (te t : WE) : WE := fun σ h Q => te σ h fun d h1 => h1 P = some (.tbl q) ∧ sp (fun x y h' Q' => t (σ ++ [some x, some y]) h' Q') d h1 Q (fun _ _ _ => False)
theorem LR.app {K : PySem.W.Frag} {F : Hp} {σd : MSt} {σ : L2.St} {ds : List D} {vs : List V} (l : LR K F σd σ) (r : RDs K F ds vs) : LR K F (σd ++ ds.map some) (σ ++ vs.map some) := by
  refine ⟨by rw [List.length_append, List.length_append, List.length_map, List.length_map, l.len, r.length], fun i d e => ?_⟩
  by_cases hi : i < σd.length
  · rw [List.getElem?_append_left hi] at e
    obtain ⟨v, h1, h2⟩ := l.get i d e
    exact ⟨v, by rw [List.getElem?_append_left (by rw [← l.len]; exact hi)]; exact h1, h2⟩
  · rw [List.getElem?_append_right (by omega), List.getElem?_map, Option.map_eq_some_iff] at e
    obtain ⟨d', e, ed⟩ := e
    cases ed
    obtain ⟨v, h1, h2⟩ := r.get e
    exact ⟨v, by rw [List.getElem?_append_right (by rw [← l.len]; omega), ← l.len, List.getElem?_map, h1]; rfl, h2⟩
section
variable {X : Cx} {pins : List (Addr × Obj)} {σ : L2.St} {H : Hp} {s : Shared}
theorem lam_new3 {c P : Addr} {ps : Array Value} {params : Arguments} {body : Expr} {scope : Scope} {pos : Pos} {R : Value → Shared → Prop} {Q : Value → Shared → Prop} (I : Inv X pins σ H s) (TB : TabB X.base X.mg c P) (ec : X.env.code = .ref c) (eP : H P = some (.tbl ps)) (tr : TriplesOk ps.toList)
    (al : ∀ (z : Pos) (cv : Value), codeAmong z ps.toList = some cv → ∃ c, cv = .ref c ∧ H c = some (CodeO c (X.env.qual ++ "<lambda>"))) (df : defaultsOf params X.env = ([], [])) (fr : ∀ y ∈ scope.names, y.2 = .free → ∃ c, X.env.cells.lookup y.1 = some c)
    (k : ∀ (f c' : Addr) (pm ctv : Value) (H1 : Hp) (s' : Shared), s.heap.objs.size ≤ f → Inv X pins σ H1 s' → LamH (X.env.qual ++ "<lambda>") P ps c' H H1 →
      s'.heap.get? f = some (PySem.W.kla_obj "<lambda>" (X.env.qual ++ "<lambda>") params body scope (cloFrom X.env.cells scope.names []) pm c' ctv) → H1 f = none → f ∉ frs X.stack → H1 c' = some (CodeO c' (X.env.qual ++ "<lambda>")) → Q (.ref f) s') :
    wpAny (model X.prog X.w) X.A (eval (.Lambda params body scope pos) X.env) Q R s := by
  refine PySem.W.kla_eval df ?_
  have oP : s.heap.get? P = some { cls := .none, data := .fields ps } := I.hok P _ eP
  have bP := TB.bm.keeps I.bk
  have out : ∀ g, s.heap.objs.size ≤ g → g ∉ frs X.stack := fun g hg z => by
    rcases List.mem_cons.mp (I.stkSub _ z) with e | e
    · have lt := I.lt
      rw [← e] at lt
      exact Nat.lt_irrefl _ (Nat.lt_of_lt_of_le lt hg)
    · exact I.nofs hg e
  cases hit : codeAmong pos ps.toList with
  | some cv =>
    obtain ⟨c', rfl, hc'⟩ := al pos cv hit
    refine PySem.W.kla_makeFunctionHit (mg := X.mg) (c := c) (P := P) (ps := ps) (closure_ok fr) I.ok.glob (I.mod.glob.keeps I.bk) ec (TB.code.keeps I.bk) oP tr hit bP fun ctv h' tk hx hz => ?_
    exact k _ c' _ ctv H _ hz (I.kept fun b o e => Heap.get?_push_of_some _ (hx b o e)) (.inl ⟨rfl, pos, hit⟩) (Heap.get?_push_size _ rfl) (I.hok.fresh hz) (out _ hz) hc'
  | none =>
    refine PySem.W.kla_makeFunction (mg := X.mg) (c := c) (P := P) (ps := ps) (closure_ok fr) I.ok.glob (I.mod.glob.keeps I.bk) ec (TB.code.keeps I.bk) oP tr hit TB.gP bP fun c' ctv h' tk hx ge lt rec tb => ?_
    obtain ⟨c2, oc, vs, t, e2, g1, g2, g3⟩ := rec
    cases e2
    have big : s.heap.objs.size ≤ h'.objs.size := Nat.le_trans ge (Nat.le_of_lt lt)
    have nC : H c' = none := I.hok.fresh ge
    have J := inv_table (t' := tk) (more := #[rawInt pos.line, rawInt pos.col, .ref c']) (h' := h'.push (PySem.W.kla_obj "<lambda>" (X.env.qual ++ "<lambda>") params body scope (cloFrom X.env.cells scope.names []) ((X.mg "__name__").getD .none) c' ctv)) I eP
      (fun b o hb e => Heap.get?_push_of_some _ (hx b o hb e)) (Heap.get?_push_of_some _ tb) ge ⟨oc, vs, t, Heap.get?_push_of_some _ g1, g2, g3⟩
    have ll : (ps ++ #[rawInt pos.line, rawInt pos.col, .ref c']).toList = ps.toList ++ [rawInt pos.line, rawInt pos.col, .ref c'] := by simp
    refine k h'.objs.size c' ((X.mg "__name__").getD .none) ctv _ _ big J (.inr ⟨_, nC, ?_, fun z cv e => ?_, rfl⟩) (Heap.get?_push_size _ rfl) ?_ (out _ big) upd_same
    · rw [ll]; exact PySem.TriplesOk_snoc _ _ _ _ tr
    · rw [ll] at e; exact among_app _ tr e
    · have n1 : h'.objs.size ≠ c' := by omega
      have n2 : h'.objs.size ≠ P := Nat.ne_of_gt (Nat.lt_of_lt_of_le (Heap.lt_size oP) big)
      rw [upd_ne n1, upd_ne n2]
      exact I.hok.fresh big
end
section
variable {X : Cx} {B : Bs} {Es : MSt → XQ}
end
section
variable {X : Cx} {B : Bs} {e : Expr} {es : List Expr} {wa : WA} {pos p : Pos} {C f : Addr} {x : Str} {k n : Nat} {fd : FuncData} {ps : List Str} {sp : MSp} {Es : MSt → XQ} {dds : List D} {g : {α : Type} → List α → List α → List α → List α}
def wMakeG (C : Addr) (sp : MSp) (Es : MSt → XQ) (n : Nat) (dds : List D) (g : {α : Type} → List α → List α → List α → List α) (wa : WA) : WE := fun σ h Q => wa σ h fun ds h1 => ds.length + 1 = n ∧ ∀ a, h1 a = none → sp (g (.ref a :: ds) dds []) (mupd h1 a (.ins C [])) (fun v h2 => v = .non ∧ Q (.ref a) h2) (Es σ)
@[simp] theorem r_makeG {σ : MSt} {h : MH} {Q : MQ} : wMakeG C sp Es n dds g wa σ h Q = wa σ h fun ds h1 => ds.length + 1 = n ∧ ∀ a, h1 a = none → sp (g (.ref a :: ds) dds []) (mupd h1 a (.ins C [])) (fun v h2 => v = .non ∧ Q (.ref a) h2) (Es σ) := (rfl)
end
@[simp] theorem r_actA {i : Nat} {f : Addr} {tl : LTlA} {wa : WA} {σ : MSt} {h : MH} {Q : MQ} : wActA i f tl wa σ h Q = (σ[i]? = some (some (.ref f)) ∧ wa σ h fun ds h1 => match ds with
  | [x, y] => tl x y h1 Q
  | _ => False) := (rfl)
@[simp] theorem r_lamA {P : Addr} {q : Str} {sp : LSpA} {te t : WE} {σ : MSt} {h : MH} {Q : MQ} : wLamA P q sp te t σ h Q = te σ h fun d h1 => h1 P = some (.tbl q) ∧ sp (fun x y h' Q' => t (σ ++ [some x, some y]) h' Q') d h1 Q (fun _ _ _ => False) := (rfl)
end BP

set_option maxRecDepth 100000
set_option maxHeartbeats 4000000
namespace BP
open PySem PySem.Spec PyProof.Rows L2
structure FnN (P : Program) (w : World) (K : PySem.W.Frag) (mg : Str → Option Value) (base : Heap) (k : Nat) (f : Addr) (fd : FuncData) (ps : List Str) (sp : MSp) : Prop where
  len : ∀ ds h Q E, sp ds h Q E → ds.length = ps.length
  goes : ∀ (A : Around) (outer : List Env) (s : Shared) (H : Hp) (args : Args) (us : List Value) (vs : List V) (Q : VK) (E : XK), Rm k A → Env0 P w K mg base A outer s H → BindsTo s fd args (ps.zip us) → Vals vs us → liftSp K mg sp vs H Q E →
    codeAny (model P w) A (.call (.ref f) args) (CR (L2N.CX P w) outer P w H s Q E) s
section
variable {X : Cx} {B : Bs} {e o : Expr} {es : List Expr} {to : WE} {wa : WA} {pos p apos : Pos} {k : Nat} {C f : Addr} {fd : FuncData} {ps : List Str} {sp : MSp} {x m : Str} {Es : MSt → XQ}
end
section
variable {X : Cx} {B : Bs} {e : Expr} {es : List Expr} {ta : TA} {wa : WA} {n : String} {C fI : Addr} {fs : List Str} {k : Nat} {p pos pos2 : Pos} {Es : MSt → XQ}
end
section
variable {X : Cx} {B : Bs} {a : Addr} {pn : List (Addr × Obj)} {xe : Value → Shared → Prop} {e : Expr} {es : List Expr} {te : WE} {wa : WA}
end
section
variable {X : Cx} {pins : List (Addr × Obj)} {σ : L2.St} {H : Hp} {s : Shared}
end
section
variable {M : Model} {A A' : Around} {E E1 : Value → Shared → Prop} {s : Shared} {Z : Obj → Prop} {base : Heap} {env : Env} {outer : List Env} {L a : Addr}
end
section
variable {X : Cx} {W0 : WX} {n : Str} {i : Nat} {p2 : Pos} {a : Addr} {ob : Obj} {pins : List (Addr × Obj)}
end
section
variable {X : Cx} {known : String → Bool}
end
end BP

set_option maxRecDepth 100000
set_option maxHeartbeats 4000000
namespace BP
open PySem PySem.Spec PyProof.Rows L2
section
variable {X : Cx} {B : Bs} {a b e o : Expr} {es : List Expr} {ta tb te to : WE} {wa : WA} {pos p apos : Pos}
def fStrI (ds : List D) (h : MH) (Q : MQ) : Prop := match ds with
  | [.int i] => i.natAbs.log2 < 1920 ∧ Q (.str (toString i)) h
  | _ => False
def fIntS (ds : List D) (h : MH) (Q : MQ) : Prop := match ds with
  | [.str x] => match PySem.intText? x with
    | some n => x.length ≤ 640 ∧ Q (.int n) h
    | none => False
  | _ => False
def wM1 (f : Str → D → MH → MQ → Prop) (to te : WE) : WE := fun σ h Q => to σ h fun x h1 => match x with
  | .str a => te σ h1 fun y h2 => f a y h2 Q
  | _ => False
def fSplit (a : Str) (y : D) (h : MH) (Q : MQ) : Prop := match y with
  | .str b => ((b.length == 0) = false ∧ a.length + 2 ≤ sizeLine) ∧ Q (.lst ((Txt.split a b).map .str)) h
  | _ => False
def wFmt (t : WE) : WE := fun σ h Q => t σ h fun d h1 => match d with
  | .str y => y.length ≤ sizeLine ∧ Q (.str y) h1
  | .int i => i.natAbs.log2 < 1920 ∧ Q (.str (toString i)) h1
  | _ => False
def wJs : List WE → Str → MSt → MH → (Str → MH → Prop) → Prop
  | [], acc, _, h, Q => Q acc h
  | t :: ts, acc, σ, h, Q => t σ h fun x h1 => match x with
    | .str y => (acc ++ y).length ≤ sizeLine ∧ wJs ts (acc ++ y) σ h1 Q
    | _ => False
def wFs (ts : List WE) : WE := fun σ h Q => wJs ts Str.empty σ h fun out h1 => Q (.str out) h1
inductive MJ (X : Cx) (B : Bs) : List Expr → List WE → Prop where
  | nil : MJ X B [] []
  | cons {e : Expr} {t : WE} {es : List Expr} {ts : List WE} (h : ME X B e t) (r : MJ X B es ts) : MJ X B (e :: es) (t :: ts)
def opInS (neg : Bool) (x y : D) (h : MH) (Q : MQ) : Prop := match x, y with
  | .str a, .str z => ∃ c, a.cps.toList = [c] ∧ Q (.bl (if neg then !decide (c ∈ z.cps.toList) else decide (c ∈ z.cps.toList))) h
  | _, _ => False
def sgn (c : Nat) : D := .str ⟨#[c]⟩
def wItS (t : WE) : WI := fun σ h Q => t σ h fun d h1 => match d with
  | .str x => Q (x.cps.toList.map sgn) h1
  | _ => False
def opIxS (x y : D) (h : MH) (Q : MQ) : Prop := match x, y with
  | .str z, .int i => match atI z.cps.toList i with
    | some c => z.length ≤ sizeLine ∧ Q (sgn c) h
    | none => False
  | _, _ => False
def wAugS (i : Nat) (t : WE) : WS := fun D σ h => match σ[i]? with
  | some (some (.str x)) => t σ h fun d h1 => match d with
    | .str y => x.length + y.length ≤ sizeLine ∧ D.nx (σ.set i (some (.str (x ++ y)))) h1
    | _ => False
  | _ => False
variable {σ : MSt} {h : MH} {Q : MQ} {ts : List WE} {acc : Str} {R : Str → MH → Prop} {i : Nat} {D0 : MEnds}
@[simp] theorem r_m1 {f : Str → D → MH → MQ → Prop} : wM1 f to te σ h Q = to σ h fun x h1 => match x with
  | .str a => te σ h1 fun y h2 => f a y h2 Q
  | _ => False := (rfl)
@[simp] theorem o_strI {i : Int} : fStrI [.int i] h Q = (i.natAbs.log2 < 1920 ∧ Q (.str (toString i)) h) := (rfl)
@[simp] theorem o_intS {x : Str} : fIntS [.str x] h Q = match PySem.intText? x with
    | some n => x.length ≤ 640 ∧ Q (.int n) h
    | none => False := (rfl)
@[simp] theorem o_split {a b : Str} : fSplit a (.str b) h Q = (((b.length == 0) = false ∧ a.length + 2 ≤ sizeLine) ∧ Q (.lst ((Txt.split a b).map .str)) h) := (rfl)
@[simp] theorem r_fmt : wFmt te σ h Q = te σ h fun d h1 => match d with
  | .str y => y.length ≤ sizeLine ∧ Q (.str y) h1
  | .int i => i.natAbs.log2 < 1920 ∧ Q (.str (toString i)) h1
  | _ => False := (rfl)
@[simp] theorem r_fs : wFs ts σ h Q = wJs ts Str.empty σ h fun out h1 => Q (.str out) h1 := (rfl)
@[simp] theorem r_js0 : wJs [] acc σ h R = R acc h := (rfl)
@[simp] theorem r_js1 : wJs (te :: ts) acc σ h R = te σ h fun x h1 => match x with
    | .str y => (acc ++ y).length ≤ sizeLine ∧ wJs ts (acc ++ y) σ h1 R
    | _ => False := (rfl)
@[simp] theorem o_inS {n : Bool} {a z : Str} : opInS n (.str a) (.str z) h Q = ∃ c, a.cps.toList = [c] ∧ Q (.bl (if n then !decide (c ∈ z.cps.toList) else decide (c ∈ z.cps.toList))) h := (rfl)
@[simp] theorem r_itS {R : List D → MH → Prop} : wItS te σ h R = te σ h fun d h1 => match d with
  | .str x => R (x.cps.toList.map sgn) h1
  | _ => False := (rfl)
@[simp] theorem o_ixS {z : Str} {i : Int} : opIxS (.str z) (.int i) h Q = match atI z.cps.toList i with
    | some c => z.length ≤ sizeLine ∧ Q (sgn c) h
    | none => False := (rfl)
@[simp] theorem r_augS : wAugS i te D0 σ h = match σ[i]? with
  | some (some (.str x)) => te σ h fun d h1 => match d with
    | .str y => x.length + y.length ≤ sizeLine ∧ D0.nx (σ.set i (some (.str (x ++ y)))) h1
    | _ => False
  | _ => False := (rfl)
end
end BP

set_option maxRecDepth 100000
set_option maxHeartbeats 4000000
namespace BP
open PySem PySem.Spec PyProof.Rows L2
section
variable {X : Cx} {B : Bs} {a b e o : Expr} {es : List Expr} {ta tb te to : WE} {wa : WA} {pos p apos cpos : Pos}
def mergeD (kvs more : List (Key × D)) : List (Key × D) := more.foldl (fun acc kv => putD acc kv.1 kv.2) kvs
def fUpdD (x : D) (ds : List D) (h : MH) (Q : MQ) : Prop := match x, ds with
  | .ref a, [.dct more] => match h a with
    | some (.dct kvs) => kvs.length + more.length ≤ sizeLine ∧ Q .non (mupd h a (.dct (mergeD kvs more)))
    | _ => False
  | _, _ => False
def wUpdD (to : WE) (wa : WA) : WE := fun σ h Q => to σ h fun x h1 => (∃ a kvs, x = .ref a ∧ h1 a = some (.dct kvs)) ∧ wa σ h1 fun ds h2 => fUpdD x ds h2 Q
def wPairs : List (WE × WE) → MSt → MH → List (Key × D) → (List (Key × D) → MH → Prop) → Prop
  | [], _, h, acc, Q => Q acc h
  | (tk, tv) :: r, σ, h, acc, Q => tk σ h fun x h1 => tv σ h1 fun y h2 => match keyD x with
    | some k => wPairs r σ h2 (acc ++ [(k, y)]) Q
    | none => False
def wDisp (ts : List (WE × WE)) : WE := fun σ h Q => wPairs ts σ h [] fun kvs h1 => kvs.length ≤ 15 ∧ ∀ p, h1 p = none → Q (.ref p) (mupd h1 p (.dct (mergeD [] kvs)))
inductive MPs (X : Cx) (B : Bs) (pos : Pos) : List (Option Expr) → List Expr → List (WE × WE) → Prop where
  | nil : MPs X B pos [] [] []
  | cons {k v : Expr} {ks : List (Option Expr)} {vs : List Expr} {tk tv : WE} {ts : List (WE × WE)} (hk : ME X B k tk) (hv : ME X B v tv) (r : MPs X B pos ks vs ts) : MPs X B pos (some k :: ks) (v :: vs) ((tk, tv) :: ts)
def wDcGo (put : MSt → D → Option MSt) (tt : WT) (tk tv : WE) (σ : MSt) : List D → List (Key × D) → MH → (List (Key × D) → MH → Prop) → Prop
  | [], acc, h, Q => Q acc h
  | d :: ds, acc, h, Q => match put σ d with
    | some σ2 => tt σ2 h fun b h3 => if b = true then tk σ2 h3 fun y h4 => tv σ2 h4 fun z h5 => match keyD y with
        | some k => acc.length < sizeLine ∧ wDcGo put tt tk tv σ ds (putD acc k z) h5 Q
        | none => False
      else wDcGo put tt tk tv σ ds acc h3 Q
    | none => False
def wDc (wi : WI) (put : MSt → D → Option MSt) (tt : WT) (tk tv : WE) (vs : List Nat) : WE := fun σ h Q => wi σ h fun ds h1 => wDcGo put tt tk tv (mwipe σ vs) ds [] h1 fun acc h2 => Q (.dct acc) h2
def evens {α : Type} (xs : List α) : List α := (sliceRange 0 xs.length 2).filterMap (xs[·]?)
def unEv (x : D) (h : MH) (Q : MQ) : Prop := match lsOf h x with
  | some xs => Q (.lst (evens xs)) h
  | none => False
def opSlM (x : D) (lo hi : Option Int) (h : MH) (Q : MQ) : Prop := match lsOf h x with
  | some xs => ∀ p, h p = none → Q (.ref p) (mupd h p (.lst (cut xs lo hi)))
  | none => False
def wSlM (ta : WE) (tl th : WO) : WE := fun σ h Q => ta σ h fun x h1 => tl σ h1 fun lo h2 => th σ h2 fun hi h3 => opSlM x lo hi h3 Q
variable {σ : MSt} {h : MH} {Q : MQ} {i : Nat} {D0 : MEnds} {tl th : WO} {ts : List (WE × WE)} {acc : List (Key × D)} {R : List (Key × D) → MH → Prop}
@[simp] theorem r_updD : wUpdD to wa σ h Q = to σ h fun x h1 => (∃ a kvs, x = .ref a ∧ h1 a = some (.dct kvs)) ∧ wa σ h1 fun ds h2 => fUpdD x ds h2 Q := (rfl)
@[simp] theorem o_updD {a : Addr} {more : List (Key × D)} : fUpdD (.ref a) [.dct more] h Q = match h a with
    | some (.dct kvs) => kvs.length + more.length ≤ sizeLine ∧ Q .non (mupd h a (.dct (mergeD kvs more)))
    | _ => False := (rfl)
@[simp] theorem r_disp : wDisp ts σ h Q = wPairs ts σ h [] fun kvs h1 => kvs.length ≤ 15 ∧ ∀ p, h1 p = none → Q (.ref p) (mupd h1 p (.dct (mergeD [] kvs))) := (rfl)
@[simp] theorem r_pairs0 : wPairs [] σ h acc R = R acc h := (rfl)
@[simp] theorem r_pairs1 {tk tv : WE} : wPairs ((tk, tv) :: ts) σ h acc R = tk σ h fun x h1 => tv σ h1 fun y h2 => match keyD x with
    | some k => wPairs ts σ h2 (acc ++ [(k, y)]) R
    | none => False := (rfl)
@[simp] theorem r_dc {wi : WI} {put : MSt → D → Option MSt} {tt : WT} {tk tv : WE} {vs : List Nat} : wDc wi put tt tk tv vs σ h Q = wi σ h fun ds h1 => wDcGo put tt tk tv (mwipe σ vs) ds [] h1 fun acc h2 => Q (.dct acc) h2 := (rfl)
@[simp] theorem o_ev {xs : List D} : unEv (.lst xs) h Q = Q (.lst (evens xs)) h := (rfl)
@[simp] theorem r_slM : wSlM ta tl th σ h Q = ta σ h fun x h1 => tl σ h1 fun lo h2 => th σ h2 fun hi h3 => opSlM x lo hi h3 Q := (rfl)
@[simp] theorem o_slM {xs : List D} {lo hi : Option Int} : opSlM (.lst xs) lo hi h Q = ∀ p, h p = none → Q (.ref p) (mupd h p (.lst (cut xs lo hi))) := (rfl)
end
end BP

set_option maxRecDepth 100000
set_option maxHeartbeats 4000000
namespace BP
open PySem PySem.Spec PyProof.Rows L2
section
variable {X : Cx} {B : Bs} {a b e o : Expr} {ta tb te to : WE} {pos p apos : Pos}
def wM0 (f : Str → MH → MQ → Prop) (to : WE) : WE := fun σ h Q => to σ h fun x h1 => match x with
  | .str a => f a h1 Q
  | _ => False
def fDig (a : Str) (h : MH) (Q : MQ) : Prop := Q (.bl (Txt.isdigit a)) h
def fLow (a : Str) (h : MH) (Q : MQ) : Prop := a.length ≤ 5592405 ∧ Q (.str (Txt.lower a)) h
end
section
variable {to : WE} {σ : MSt} {h : MH} {Q : MQ}
@[simp] theorem r_m0 {f : Str → MH → MQ → Prop} : wM0 f to σ h Q = to σ h fun x h1 => match x with
  | .str a => f a h1 Q
  | _ => False := (rfl)
@[simp] theorem o_dig {a : Str} : fDig a h Q = Q (.bl (Txt.isdigit a)) h := (rfl)
@[simp] theorem o_low {a : Str} : fLow a h Q = (a.length ≤ 5592405 ∧ Q (.str (Txt.lower a)) h) := (rfl)
end
end BP

set_option maxRecDepth 100000
set_option maxHeartbeats 1000000
namespace BP
open PySem PySem.Spec PyProof.Rows L2
section
variable {X : Cx}
end
def opMulL (x y : D) (h : MH) (Q : MQ) : Prop := match x, y with
  | .tup a, .int k => (a ≠ [] ∧ 2 ≤ k ∧ a.length * k.toNat ≤ 1000000) ∧ Q (.tup (List.replicate k.toNat a).flatten) h
  | _, _ => False
@[simp] theorem o_mulLT {a : List D} {k : Int} {h : MH} {Q : MQ} : opMulL (.tup a) (.int k) h Q = ((a ≠ [] ∧ 2 ≤ k ∧ a.length * k.toNat ≤ 1000000) ∧ Q (.tup (List.replicate k.toNat a).flatten) h) := (rfl)
end BP

set_option maxRecDepth 100000
set_option maxHeartbeats 1000000
namespace BP
open PySem PySem.Spec PyProof.Rows L2
section
variable {X : Cx} {B : Bs} {e : Expr} {te : TE} {sep y z : Str} {j0 j k : Nat} {c0 c1 c2 apos pos apos2 pos2 : Pos}
def wJoinR (sep y z : Str) (te : WE) : WE := fun σ h Q => te σ h fun d h1 => match sqOf h1 d with
  | some ds => match strsOf ds with
    | some ys => (ys.map (·.length)).sum + ys.length * sep.length ≤ 16777216 ∧ (Txt.join sep ys).length + ((Txt.join sep ys).length + 1) * z.length ≤ 16777216 ∧ Q (.str (Txt.replace (Txt.join sep ys) y z)) h1
    | none => False
  | none => False
@[simp] theorem r_joinR {te : WE} {σ : MSt} {h : MH} {Q : MQ} : wJoinR sep y z te σ h Q = te σ h fun d h1 => match sqOf h1 d with
  | some ds => match strsOf ds with
    | some ys => (ys.map (·.length)).sum + ys.length * sep.length ≤ 16777216 ∧ (Txt.join sep ys).length + ((Txt.join sep ys).length + 1) * z.length ≤ 16777216 ∧ Q (.str (Txt.replace (Txt.join sep ys) y z)) h1
    | none => False
  | none => False := (rfl)
def opSlS (x : D) (lo hi : Option Int) (h : MH) (Q : MQ) : Prop := match x with
  | .str z => z.length ≤ sizeLine ∧ Q (.str (cutS z lo hi)) h
  | _ => False
def wSlS (ta : WE) (tl th : WO) : WE := fun σ h Q => ta σ h fun x h1 => tl σ h1 fun lo h2 => th σ h2 fun hi h3 => opSlS x lo hi h3 Q
@[simp] theorem r_slS {ta : WE} {tl th : WO} {σ : MSt} {h : MH} {Q : MQ} : wSlS ta tl th σ h Q = ta σ h fun x h1 => tl σ h1 fun lo h2 => th σ h2 fun hi h3 => opSlS x lo hi h3 Q := (rfl)
@[simp] theorem o_slS {z : Str} {lo hi : Option Int} {h : MH} {Q : MQ} : opSlS (.str z) lo hi h Q = (z.length ≤ sizeLine ∧ Q (.str (cutS z lo hi)) h) := (rfl)
end
end BP

set_option maxRecDepth 100000
set_option maxHeartbeats 1000000
namespace BP
open PySem PySem.Spec PyProof.Rows L2
section
variable {K : PySem.W.Frag} {F : Hp}
end
def isFF : List Key → Bool
  | .inl 255 :: _ => true
  | _ => false
section
variable {X : Cx} {B : Bs} {o i v : Expr} {to ti tv : WE} {apos cpos pos pos' : Pos}
def opGetN (x y z : D) (h : MH) (Q : MQ) : Prop := match x, y with
  | .ref a, .tup ds => match keysD ds, h a with
    | some ks, some (.dcT kvs) => isFF ks = true ∧ Q ((atTk kvs ks).getD z) h
    | _, _ => False
  | _, _ => False
def isDt (h : MH) (x : D) : Prop := match x with
  | .ref a => match h a with
    | some (.dcT _) => True
    | _ => False
  | _ => False
def wGetN (to ti tv : WE) : WE := fun σ h Q => to σ h fun x h1 => isDt h1 x ∧ ti σ h1 fun y h2 => tv σ h2 fun z h3 => opGetN x y z h3 Q
def wPutN (to ti tv : WE) : WS := fun D σ h => tv σ h fun d h1 => to σ h1 fun x h2 => ti σ h2 fun y h3 => match x, y with
  | .ref a, .tup ds => match keysD ds, h3 a with
    | some ks, some (.dcT kvs) => (isFF ks = true ∧ kvs.length < sizeLine) ∧ D.nx σ (mupd h3 a (.dcT (putTk kvs ks d)))
    | _, _ => False
  | _, _ => False
end
section
variable {to ti tv : WE} {σ : MSt} {h : MH} {Q : MQ} {D0 : MEnds} {a : Addr} {ds : List D} {z : D}
@[simp] theorem r_getN : wGetN to ti tv σ h Q = to σ h fun x h1 => isDt h1 x ∧ ti σ h1 fun y h2 => tv σ h2 fun z h3 => opGetN x y z h3 Q := (rfl)
@[simp] theorem o_getN : opGetN (.ref a) (.tup ds) z h Q = match keysD ds, h a with
  | some ks, some (.dcT kvs) => isFF ks = true ∧ Q ((atTk kvs ks).getD z) h
  | _, _ => False := (rfl)
@[simp] theorem r_putN : wPutN to ti tv D0 σ h = tv σ h fun d h1 => to σ h1 fun x h2 => ti σ h2 fun y h3 => match x, y with
  | .ref a, .tup ds => match keysD ds, h3 a with
    | some ks, some (.dcT kvs) => (isFF ks = true ∧ kvs.length < sizeLine) ∧ D0.nx σ (mupd h3 a (.dcT (putTk kvs ks d)))
    | _, _ => False
  | _, _ => False := (rfl)
end
end BP

set_option maxRecDepth 100000
set_option maxHeartbeats 4000000
namespace BP
open PySem PySem.Spec PyProof.Rows L2 LamX
theorem Rm.in1 {k : Nat} {A : Around} (x : Rm (k + 1) A) : Rm k A.in1 := ⟨x.r.in1, x.g⟩
def pyD : D → Option PyData
  | .int i => some (.int i)
  | .str x => some (.str x)
  | .tup ds => (intsOf ds).map fun ns => .tuple (ns.map .int)
  | _ => none
section
variable {X : Cx} {pins : List (Addr × Obj)} {σ : L2.St} {H : Hp} {s : Shared}
theorem lam_key {f c' : Addr} {pm ctv : Value} {params : Arguments} {body : Expr} {scope : Scope} {k : Nat} {y : Str} {tb : TE} {w : V} {v : Value} {Q : VK}
    (I : Inv X pins σ H s) (L : LamG X.N X.env.scope scope) (of0 : s.heap.get? f = some (PySem.W.kla_obj "<lambda>" (X.env.qual ++ "<lambda>") params body scope (cloFrom X.env.cells scope.names []) pm c' ctv)) (hco : H c' = some (CodeO c' (X.env.qual ++ "<lambda>")))
    (ly : scope.names.lookup y = some .local) (bnd : ∀ u : Value, bindArgs (PySem.W.kla_fn "<lambda>" (X.env.qual ++ "<lambda>") params body scope (cloFrom X.env.cells scope.names []) pm (.ref c') ctv) ⟨[u], []⟩ = pure [(y, u)]) (hr : Rm (k + 1) X.A.in1.in1)
    (hb : ∀ (A : Around) (outer : List Env) (s : Shared) (H : Hp) (E : XK), Rm k (A.deeper (lamEnv X scope s.heap.objs.size f c')) → PE (lamCxA X A outer s H E scope f c' [y]) body tb)
    (rv : RelV w v) (h3 : tb (σ ++ [some w]) H Q) : wpAny (model X.prog X.w) X.A.in1.in1 (call (.ref f) [v]) (EP X pins σ Q) (fun _ _ => False) s := by
  obtain ⟨⟨oc', vs', t, g1, g2, g3⟩, _, _⟩ := I.hok c' _ hco
  let EE : XK := fun _ _ _ => False
  have run : codeAny (model X.prog X.w) X.A.in1.in1 (.call (.ref f) ⟨[v], []⟩) (CR (L2.CX X.prog X.w) X.stack X.prog X.w H s Q EE) s := by
    refine PySem.W.kla_callFunE hr.r.depth of0 rfl L.co L.gen rfl ⟨c', oc', vs', t, rfl, g1, g2, g3⟩ ?_
    rw [bnd v]
    refine wpAny_pure (wpAny_newFunctionEnv (fun y hy => (L.own y hy).1) (fun z hz => by rw [List.mem_singleton.mp hz]; exact ly) (fun h₁ hns hsb => ⟨I.nolimit.fresh _ hsb, ?_⟩) L.kind)
    show codeAny _ _ (.expr body (lamEnv X scope s.heap.objs.size f c')) _ _
    have kp : ∀ b o, s.heap.get? b = some o → h₁.get? b = some o := fun b o e => hsb.extBut b o (Nat.ne_of_lt (Heap.lt_size e)) (Heap.get?_push_of_some _ e)
    have J3 := lam_startA (E := EE) (f := f) (c' := c') (tk := s.toks + [(y, v)].length) (ys := [y]) (us := [v]) (vs := [w]) I L (I.env0.in1.in1) hr.r.hd (fun x c1 v e ⟨o, q1, q2⟩ => ⟨o, kp _ _ q1, q2⟩) I.freeC (by simp) (fun z hz => by rw [List.mem_singleton.mp hz]; exact ly) (.cons rv .nil) rfl hns kp
    refine PySem.W.kla_codeExpr (wpAny_mono ((hb _ _ s _ EE (hr.deeper _)).run [] _ _ _ _ J3 h3) ?_ fun _ _ q => wpAny_mono q (fun _ _ ⟨_, _, _, _, _, _, _, _, _, _, _, _, z⟩ => z.elim) fun _ _ ⟨_, _, _, _, _, _, _, _, _, _, _, _, z⟩ => z.elim)
    rintro v s' ⟨w', G', J', rw', q⟩
    exact ⟨w', G', J'.os, J'.bare, J'.base, J'.hok, rw', q⟩
  refine wpAny_call (codeAny_mono run fun r s' hq => ?_)
  cases r with
  | error e =>
    obtain ⟨_, _, _, _, _, _, _, _, _, _, _, _, z⟩ := hq
    exact z.elim
  | ok fl =>
    cases fl with
    | ret u => exact I.after hq
    | _ => exact False.elim hq
theorem py_reads {F : Hp} {h : MH} (I : Inv X pins σ H s) (sr : SR X.K F H h) {d : D} {w : V} {v : Value} {p : PyData} (rd : RD X.K F d w) (rv : RelV w v) (e : pyD d = some p) : Reads s.heap v p [] := by
  cases rd with
  | int i => cases e; obtain ⟨t, rfl⟩ := rv; exact .int i t
  | str x => cases e; obtain ⟨t, rfl⟩ := rv; exact .str x t
  | tup q rs =>
    obtain ⟨ns, en, rfl⟩ := Option.map_eq_some_iff.mp e
    have er := ints_rd rs en
    subst er
    obtain rfl : v = .ref _ := rv
    obtain ⟨its, rvs, ⟨o, g, c, n, d⟩, _⟩ := I.tuple (Same.sqT sr.fr q)
    refine .tuple g c d ?_
    have go : ∀ (ns : List Int) (us : List Value), Vals (ns.map V.int) us → ReadsAll s.heap us (ns.map PyData.int) [] := by
      intro ns
      induction ns with
      | nil => intro us r; cases r; exact .nil
      | cons a ns ih =>
        intro us r
        cases r with
        | cons r rs =>
          obtain ⟨t, rfl⟩ := r
          exact .cons (as := []) (bs := []) (.int a t) (ih _ rs)
    simpa using go ns _ rvs
  | _ => cases e
open PySem.W in
theorem keyI_rest {a kS : Addr} {e1 : Nat} {vs : List Value} {xs : List D} {g : D → D} {kp : D → PyData} {F : Hp} {h : MH} {f : Addr} {ob : Obj} {P : PySem.Fin → Shared → Prop} {E : Value → Shared → Prop} {ws0 : List V}
    (I : Inv X pins σ H s) (sr : SR X.K F H h) (of0 : s.heap.get? f = some ob) (hofc : ∀ v, ob.data ≠ .cell v)
    (fpf : FpOk X pins H f) (fpa : FpOk X pins H a) (fpS : FpOk X pins H kS) (nk : s.heap.get? kS = some (seqObj "list" #[] 0)) (na : s.heap.get? a = some (seqObj "list" #[] e1)) (hka : kS ≠ a) (hfS : f ≠ kS) (hfa : f ≠ a)
    (rv : Vals ws0 vs) (rd : RDs X.K F xs ws0) (hZ : vs.length ≤ sizeLine)
    (hk : ∀ x ∈ xs, pyD (g x) = some (kp x)) (hal : AllAlike (xs.map kp)) (hsk : Sortable (xs.map kp)) (hu : ∀ x ∈ xs, X.A.units + 2 + (kp x).depth < cLine)
    (turn : ∀ (F1 H1 : Hp) (pins1 : List (Addr × Obj)) (s1 : Shared) (x : D) (w : V) (v : Value), x ∈ xs → Inv X pins1 σ H1 s1 → Go X.K F H h F1 H1 h → s1.heap.get? f = some ob → RD X.K F1 x w → RelV w v →
      wpAny (model X.prog X.w) X.A.in1.in1 (call (.ref f) [v]) (EP X pins1 σ fun kv H2 => ∃ F2, Go X.K F1 H1 h F2 H2 h ∧ RD X.K F2 (g x) kv) (fun _ _ => False) s1)
    (fin : ∀ (F3 H3 : Hp) (s3 : Shared) (zs : List V), Go X.K F H h F3 H3 h → H3 a = none → Inv X pins σ (upd H3 a (.lst zs)) s3 → RDs X.K F3 (xs.mergeSort (dataLe false kp)) zs → P (.done (.ret .none)) s3) :
    wpAny (model X.prog X.w) X.A.in1.in1 (ksk_rest a (.ref f) false vs.toArray e1 (.ref kS)) P E s := by
  have lw := rv.length
  have lx := rd.length
  have stat : ∀ {H1 : Hp}, H1 f = none → H1 a = none → H1 kS = none → ∀ b ∈ [kS, a, f], FpOk X pins H1 b := fun h1 h2 h3 b hb => by
    simp only [List.mem_cons, List.not_mem_nil, or_false] at hb
    rcases hb with rfl | rfl | rfl
    · exact ⟨h3, fpS.2⟩
    · exact ⟨h2, fpa.2⟩
    · exact ⟨h1, fpf.2⟩
  unfold ksk_rest
  refine wpAny_bind (wpAny_rule ?_)
  rw [List.forIn_toArray]
  refine wpAny_bind (ksk_fold (fun i s' => ∃ F1 H1 kA e ks, Inv X pins σ H1 s' ∧ Go X.K F H h F1 H1 h ∧ s'.heap.get? kS = some (seqObj "list" kA e) ∧ s'.heap.get? a = some (seqObj "list" #[] e1) ∧ s'.heap.get? f = some ob ∧ H1 f = none ∧ H1 a = none ∧ H1 kS = none ∧ Vals ks kA.toList ∧ RDs X.K F1 ((xs.take i).map g) ks) vs 0 s
    ⟨F, H, #[], 0, [], I, Go.refl sr, nk, na, of0, fpf.1, fpa.1, fpS.1, .nil, by rw [List.take_zero]; exact .nil⟩ ?step ?done)
  case step =>
    rintro j v s' hv ⟨F1, H1, kA, e, ks, I1, g1, nk1, na1, of1, nf1, nA1, nS1, rk, rdk⟩
    simp only [Nat.zero_add] at rdk ⊢
    have hj : j < vs.length := (List.getElem?_eq_some_iff.mp hv).1
    have hx : xs[j]? = some xs[j] := List.getElem?_eq_getElem (by omega)
    have mx : xs[j] ∈ xs := List.getElem_mem _
    obtain ⟨w, hw, rw1⟩ := rd.get hx
    obtain ⟨v', e2, rvv⟩ := rv.get hw
    rw [hv] at e2; cases e2
    have st := stat nf1 nA1 nS1
    have I1p := I1.pinned st fun b hb => by
      simp only [List.mem_cons, List.not_mem_nil, or_false] at hb
      rcases hb with rfl | rfl | rfl
      · exact ⟨_, nk1, fun v z => by cases z⟩
      · exact ⟨_, na1, fun v z => by cases z⟩
      · exact ⟨_, of1, hofc⟩
    have hz : kA.size ≤ vs.length := by
      have h1 := rk.length
      have h2 := rdk.length
      have h3 : kA.toList.length = kA.size := Array.length_toList
      rw [List.length_map, List.length_take] at h2
      omega
    refine wpAny_bind (wpAny_attempt (wpAny_mono (turn F1 H1 _ s' xs[j] w v mx I1p g1 of1 (rw1.mono g1.ss) rvv) (fun kv s2 he => ?_) fun _ _ hF => hF.elim))
    obtain ⟨w2, H2, I2, rw2, F2, g2, rd2⟩ := he
    try dsimp only
    have pk := fun (b : Addr) (o : Obj) (hb : b ∈ [kS, a, f]) (e : s'.heap.get? b = some o) => I2.pin (b, o) (List.mem_append_right _ (List.mem_append_right _ (mem_pinsAt hb e)))
    have pS := pk kS _ (by simp) nk1
    have pA := pk a _ (by simp) na1
    have pF := pk f _ (by simp) of1
    have I2u := I2.unpinned
    have nk2 : s2.heap.get? kS = some (seqObj "list" kA e) := pS.1
    have na2 : s2.heap.get? a = some (seqObj "list" #[] e1) := pA.1
    have s1 := Heap.SameBut.update s2.heap kS (Obj.mapSeq (·.push kv))
    obtain ⟨c2, hc2⟩ : ∃ c2, (s2.heap.update kS (Obj.mapSeq (·.push kv))).get? kS = some (seqObj "list" (kA.push kv) c2) := ⟨_, get?_update_seq nk2 (·.push kv)⟩
    refine wpAny_bind (listUpdate_at nk2 rfl ?_ (Nat.le_trans hz hZ) (Nat.le_trans (Nat.le_of_eq (Array.size_push ..)) (Nat.succ_le_succ (Nat.le_trans hz hZ))))
    have of2 : s2.heap.get? f = some ob := pF.1
    have ek : (xs.take (j + 1)).map g = (xs.take j).map g ++ [g xs[j]] := by rw [List.take_add_one, hx, List.map_append]; rfl
    have ea : (kA.push kv).toList = kA.toList ++ [kv] := by simp
    refine wpAny_pure ⟨rfl, F2, H2, kA.push kv, c2, ks ++ [w2], I2u.turnedL (ch := [kS]) (fun b o hb e => (s1.2 b fun z => hb (by simp [z])).trans e) (fun b hb => ?_), g1.trans g2, hc2, (s1.2 a hka.symm).trans na2, (s1.2 f hfS).trans of2, pF.2.1, pA.2.1, pS.2.1, ?_, ?_⟩
    · rw [List.mem_singleton.mp hb]; exact ⟨pS.2.1, fpS.2⟩
    · rw [ea]; exact rk.append (.cons rw2 .nil)
    · rw [ek]; exact (rdk.mono g2.ss).append (.cons rd2 .nil)
  case done =>
    rintro s' ⟨F1, H1, kA, e, ks, I1, g1, nk1, na1, of1, nf1, nA1, nS1, rk, rdk⟩
    rw [Nat.zero_add, List.take_of_length_le (by omega)] at rdk
    have st := stat nf1 nA1 nS1
    have hsz : kA.size = vs.length := by
      have h1 := rk.length
      have h2 := rdk.length
      have h3 : kA.toList.length = kA.size := Array.length_toList
      rw [List.length_map] at h2
      omega
    have reads : ∀ (ys : List D) (us : List V) (vals : List Value), (∀ x ∈ ys, x ∈ xs) → RDs X.K F1 (ys.map g) us → Vals us vals → EachIs (fun v k => ∃ as, Reads s'.heap v k as) vals (ys.map kp) := by
      intro ys
      induction ys with
      | nil => intro us vals _ r1 r2; cases r1; cases r2; exact .nil
      | cons y ys ih =>
        intro us vals hm r1 r2
        cases r1 with
        | cons q1 r1 =>
          cases r2 with
          | cons q2 r2 =>
            exact .cons ⟨[], py_reads I1 g1.sr q1 q2 (hk y (hm y (by simp)))⟩ (ih _ _ (fun x hx => hm x (by simp [hx])) r1 r2)
    have hk' := reads xs ks kA.toList (fun _ h => h) rdk rk
    try dsimp only
    refine wpAny_bind (listItems_at nk1 rfl ?_)
    obtain ⟨G, G1, G2⟩ := restrict s'.heap fun b => decide (b ≠ kS)
    have kpG : KeepsBut a G s'.heap := fun b o _ q => by
      by_cases hb : b = kS
      · rw [G2 b (by simp [hb])] at q; cases q
      · rw [G1 b (by simp [hb])] at q; exact q
    refine keyH_end (κ := dataKind s'.heap (xs.map kp)) (h₁ := G) kpG (G2 kS (by simp)) nk1 na1 hka (SortsAt.data (s := s') hk' hal hsk fun d hd => ?_) hsz hZ fun h3 tk3 c k3 n3 => ?_
    · obtain ⟨x, hx, rfl⟩ := List.mem_map.mp hd
      exact hu x hx
    · have hR : ∀ (ys : List D) (us : List V) (vals : List Value), RDs X.K F1 ys us → Vals us vals → EachIs (fun v d => ∃ w, RelV w v ∧ RD X.K F1 d w) vals ys := by
        intro ys
        induction ys with
        | nil => intro us vals r1 r2; cases r1; cases r2; exact .nil
        | cons y ys ih =>
          intro us vals r1 r2
          cases r1 with
          | cons q1 r1 =>
            cases r2 with
            | cons q2 r2 => exact .cons ⟨_, q2, q1⟩ (ih _ _ r1 r2)
      have out := keyedOut_each (rev := false) kp ⟨s'.heap, kA.toList, hal, rfl, hk'⟩ (hR xs ws0 vs (rd.mono g1.ss) rv)
      have back : ∀ (ys : List D) (vals : List Value), EachIs (fun v d => ∃ w, RelV w v ∧ RD X.K F1 d w) vals ys → ∃ zs, Vals zs vals ∧ RDs X.K F1 ys zs := by
        intro ys
        induction ys with
        | nil => intro vals r; cases r; exact ⟨[], .nil, .nil⟩
        | cons y ys ih =>
          intro vals r
          cases r with
          | cons q r =>
            obtain ⟨w, q1, q2⟩ := q
            obtain ⟨zs, z1, z2⟩ := ih _ r
            exact ⟨w :: zs, .cons q1 z1, .cons q2 z2⟩
      obtain ⟨zs, z1, z2⟩ := back _ _ out
      have I3 : Inv X pins σ H1 { s' with heap := h3, toks := tk3 } := I1.turnedL (ch := [kS, a]) (fun b o hb e => k3 b o (fun z => hb (by simp [z])) (by rw [G1 b (by simp; exact fun z => hb (by simp [z]))]; exact e)) fun b hb => by
        simp only [List.mem_cons, List.not_mem_nil, or_false] at hb
        rcases hb with rfl | rfl
        · exact ⟨nS1, fpS.2⟩
        · exact ⟨nA1, fpa.2⟩
      have zl := z1.length
      have zl2 := z2.length
      rw [List.length_mergeSort] at zl2
      refine fin F1 H1 _ zs g1 nA1 (Inv.take (s := { s' with heap := h3, toks := tk3 }) (h' := h3) (t' := tk3) I3 (fun _ _ _ e => e) ⟨nA1, fpa.2⟩ ⟨by omega, _, c, z1, n3⟩) z2
open PySem.W in
theorem keyI_tree {a : Addr} {n : Nat} {vs : List Value} {xs : List D} {g : D → D} {kp : D → PyData} {F : Hp} {h : MH} {f : Addr} {ob : Obj} {P : PySem.Fin → Shared → Prop} {E : Value → Shared → Prop} {ws0 : List V}
    (I : Inv X pins σ H s) (sr : SR X.K F H h) (ho : s.heap.get? a = some (seqObj "list" vs.toArray n)) (of0 : s.heap.get? f = some ob) (hofc : ∀ v, ob.data ≠ .cell v)
    (fpf : FpOk X pins H f) (fpa : FpOk X pins H a) (hfa : f ≠ a)
    (rv : Vals ws0 vs) (rd : RDs X.K F xs ws0) (hZ : vs.length ≤ sizeLine)
    (hk : ∀ x ∈ xs, pyD (g x) = some (kp x)) (hal : AllAlike (xs.map kp)) (hsk : Sortable (xs.map kp)) (hu : ∀ x ∈ xs, X.A.units + 2 + (kp x).depth < cLine)
    (turn : ∀ (F1 H1 : Hp) (pins1 : List (Addr × Obj)) (s1 : Shared) (x : D) (w : V) (v : Value), x ∈ xs → Inv X pins1 σ H1 s1 → Go X.K F H h F1 H1 h → s1.heap.get? f = some ob → RD X.K F1 x w → RelV w v →
      wpAny (model X.prog X.w) X.A.in1.in1 (call (.ref f) [v]) (EP X pins1 σ fun kv H2 => ∃ F2, Go X.K F1 H1 h F2 H2 h ∧ RD X.K F2 (g x) kv) (fun _ _ => False) s1)
    (fin : ∀ (F3 H3 : Hp) (s3 : Shared) (zs : List V), Go X.K F H h F3 H3 h → H3 a = none → Inv X pins σ (upd H3 a (.lst zs)) s3 → RDs X.K F3 (xs.mergeSort (dataLe false kp)) zs → P (.done (.ret .none)) s3) :
    wpAny (model X.prog X.w) X.A.in1.in1 (ksk_tree a (.ref f) false) P E s := by
  have ha : a < s.heap.objs.size := Heap.lt_size ho
  have hf : f < s.heap.objs.size := Heap.lt_size of0
  obtain ⟨e1, ho1⟩ : ∃ e1, (s.heap.update a (Obj.mapSeq fun _ => (#[] : Array Value))).get? a = some (seqObj "list" #[] e1) := ⟨_, get?_update_seq ho fun _ => #[]⟩
  have hkS : ((s.heap.update a (Obj.mapSeq fun _ => (#[] : Array Value))).push (seqObj "tuple" vs.toArray 0)).objs.size = s.heap.objs.size + 1 := by rw [size_push', Heap.size_update]
  unfold ksk_tree
  refine wpAny_bind (listItems_at ho rfl ?_)
  refine wpAny_bind (listUpdate_at ho rfl ?_ (by rw [List.size_toArray]; exact hZ) (Nat.zero_le _))
  refine wpAny_bind (seqEpoch_at ho1 rfl ?_)
  refine wpAny_bind (wpAny_newTuple ?_ (by show vs.length ≤ _; exact hZ))
  refine wpAny_bind (wpAny_newList ?_ (Nat.zero_le _))
  refine wpAny_holding ?_
  have keep : ∀ b o, b ≠ a → s.heap.get? b = some o → (sortingHeap s.heap a vs).get? b = some o := fun b o hb q => sortingHeap_old hb q
  have I1 : Inv X pins σ H { s with heap := sortingHeap s.heap a vs } := I.turnedL (t' := s.toks) (ch := [a]) (fun b o hb q => keep b o (fun z => hb (by simp [z])) q) fun b hb => by rw [List.mem_singleton.mp hb]; exact fpa
  have kb : s.heap.objs.size ≤ ((s.heap.update a (Obj.mapSeq fun _ => (#[] : Array Value))).push (seqObj "tuple" vs.toArray 0)).objs.size := by rw [hkS]; omega
  have nS : H ((s.heap.update a (Obj.mapSeq fun _ => (#[] : Array Value))).push (seqObj "tuple" vs.toArray 0)).objs.size = none := I.hok.fresh kb
  exact keyI_rest (s := { s with heap := sortingHeap s.heap a vs }) (kS := ((s.heap.update a (Obj.mapSeq fun _ => (#[] : Array Value))).push (seqObj "tuple" vs.toArray 0)).objs.size) I1 sr (keep f ob hfa of0) hofc fpf fpa (I.fpOk kb nS)
    (Heap.get?_push_size _ rfl) (Heap.get?_push_of_some _ (Heap.get?_push_of_some _ ho1)) (by rw [hkS]; exact Nat.ne_of_gt (Nat.lt_succ_of_lt ha)) (by rw [hkS]; exact Nat.ne_of_lt (Nat.lt_succ_of_lt hf)) hfa rv rd hZ hk hal hsk hu turn fin
end
theorem rdk_same {K : PySem.W.Frag} {F : Hp} : ∀ {ds : List (Key × D)} {xs : List (Key × V)}, RDk K F ds xs → xs.length = ds.length ∧ xs.map (·.1) = ds.map (·.1)
  | _, _, .nil => ⟨rfl, rfl⟩
  | _, _, .cons _ r => by
    obtain ⟨h1, h2⟩ := rdk_same r
    exact ⟨by simp [h1], by simp [h2]⟩
theorem rd_keys {K : PySem.W.Frag} {F : Hp} : ∀ ks : List Key, RDs K F (ks.map kD) (ks.map kV)
  | [] => .nil
  | k :: ks => .cons (by cases k with | inl i => exact .int i | inr x => exact .str x) (rd_keys ks)
def dcS : D → Option (List (Key × D))
  | .dct kvs => some kvs
  | .dcl kvs => some kvs
  | _ => none
theorem dcS_rd {K : PySem.W.Frag} {F : Hp} {d : D} {v : V} {kvs : List (Key × D)} (r : RD K F d v) (e : dcS d = some kvs) : ∃ a xs, v = .ref a ∧ Rd F a (.dK xs) ∧ RDk K F kvs xs := by
  cases r with
  | dct q r => cases e; exact ⟨_, _, rfl, .inl q, r⟩
  | dcl q r => cases e; exact ⟨_, _, rfl, .inr ⟨_, q⟩, r⟩
  | _ => cases e
theorem rd_mono {F H : Hp} {a : Addr} {u : HO} (s : Same F H) (r : Rd F a u) : Rd H a u := by
  rcases r with r | ⟨o, r⟩
  · exact .inl (s _ _ r)
  · exact .inr ⟨o, s _ _ r⟩
def keysD' (kvs : List (Key × D)) : List D := kvs.map fun z => kD z.1
def wSortK (P : Addr) (q : Str) (ta : WA) (tk : WE) : WE := fun σ h Q => ta σ h fun ds h1 => match ds with
  | [d] => match dcS d with
    | some kvs => h1 P = some (.tbl q) ∧ ∃ (g : D → D) (kp : D → PyData), (kvs.length ≤ 1000000 ∧ (∀ x ∈ keysD' kvs, pyD (g x) = some (kp x) ∧ (kp x).depth ≤ 30) ∧ PySem.W.AllAlike ((keysD' kvs).map kp) ∧ PySem.W.Sortable ((keysD' kvs).map kp)) ∧
    (∀ x ∈ keysD' kvs, tk (σ ++ [some x]) h1 fun k h2 => k = g x ∧ h2 = h1) ∧ Q (.lst ((keysD' kvs).mergeSort (PySem.W.dataLe false kp))) h1
    | none => False
  | _ => False
section
variable {X : Cx} {B : Bs}
theorem m_sortK {e1 : Expr} {c0 P : Addr} {k : Nat} {y : Str} {params : Arguments} {body : Expr} {scope : Scope} {ta : WA} {tk : WE} {p lpos kpos pos : Pos} {q : Str} (hm : X.mg "sorted" = none) (TB : TabB X.base X.mg c0 P) (ec : X.env.code = .ref c0) (hcalm : X.calm = true) (hr : Rm (k + 3) X.A)
    (L : lamGB X.N X.env.scope scope = true) (ly : scope.names.lookup y = some .local)
    (hbody : ∀ (A : Around) (outer : List Env) (s : Shared) (H : Hp) (E : XK) (f c' : Addr) (B' : Bs), Rm k (A.deeper (lamEnv X scope s.heap.objs.size f c')) → ME (lamCxA X A outer s H E scope f c' [y]) B' body tk)
    (ha : MA X B [e1] ta) (df : defaultsOf params X.env = ([], []) := by rfl) (hbind : ∀ (q : Str) (cl : List (Str × Addr)) (pm cv ctv u : Value), bindArgs (PySem.W.kla_fn "<lambda>" q params body scope cl pm cv ctv) ⟨[u], []⟩ = pure [(y, u)] := by intros; rfl)
    (hq : X.env.qual ++ "<lambda>" = q := by rfl) (hg : Gl X "sorted" := by rfl)
    (he : backTo pos (starEach [e1] X.env) = (false, eval e1 X.env) :: backTo pos (starEach [] X.env) := by rfl) (hpl : (backTo pos (starEach [e1] X.env)).any (·.1) = false := by rfl) :
    ME X B (.Call (.Name "sorted" p) [e1] [⟨some "key", .Lambda params body scope lpos, kpos⟩] pos) (wSortK P q ta tk) := by
  have L := lamG_by L
  subst hq
  refine ⟨fun pins s σ H Q I ⟨F, h, σd, Q', l, s0, t0, cQ⟩ => ?_⟩
  refine wpAny_Call_Name_kw (ld_blt I hg hm PyProof.Rows.boot_sorted ?_)
  refine PyProof.Rows.callWith_kw (thn (ha.run pos pins s σ H (fun vs H1 => ∃ F1 h1 ds, Go X.K F H h F1 H1 h1 ∧ RDs X.K F1 ds vs ∧ _) I ⟨F, h, σd, _, l, s0, t0, fun F1 H1 h1 ds vs g r tt => ⟨F1, h1, ds, g, r, tt⟩⟩) fun us s1 ⟨vs, H1, I1, r1, F1, h1, ds, g1, rds, tt⟩ => ?_) he hpl (by rfl) (by rfl)
  split at tt
  · rename_i dd0
    split at tt
    · rename_i kvs ed
      obtain ⟨mP, gg, kp, ⟨hz, hkx, hal, hsk⟩, tkx, tq⟩ := tt
      obtain ⟨v1, rfl, rd1⟩ := rds_one rds
      obtain ⟨u, rfl, rx⟩ := vals1 r1
      obtain ⟨a, xs, rfl, hF, rk⟩ := dcS_rd rd1 ed
      cases rx
      obtain ⟨nP, ps, eP, tr, al⟩ := g1.sr.cell P _ mP
      show wpAny _ _ (evalAll ((do let v ← eval (.Lambda params body scope lpos) X.env; standAt pos; pure v) :: [])) _ _ s1
      refine wpAny_evalAll_cons (wpAny_bind (lam_new3 I1 TB ec eP tr (fun z cv e => ?_) df (L.has I.ok) fun f c' pm' ctv H2 s2 fge I2 lh hf hfn hfr hco => wpAny_bind (wpAny_standAt (wpAny_pure ?_))))
      · obtain ⟨c, e1, e2⟩ := al z cv e
        exact ⟨c, e1, g1.sr.fr _ _ e2⟩
      refine wpAny_evalAll_nil ?_
      obtain ⟨F2, g2, hF2⟩ := lh.go g1.sr mP eP al
      show wpAny _ _ (call (.builtin "sorted") [.ref a] [(Str.ofString "key", .ref f)]) _ _ s2
      refine PyProof.Rows.call_function_entry_kw PyProof.Rows.kind_sorted PyProof.Rows.plain_sorted PyProof.Rows.entry_sorted (PyProof.Rows.ksk_s1 _ _) ?_
      unfold Builtin.«sorted»
      refine wpAny_bind (m := checkCount "sorted" 1 1 _) (wpAny_pure ?_)
      have hd2 : Rd H2 a (.dK xs) := rd_mono g2.sr.fr (rd_mono g2.ss hF)
      obtain ⟨z, lo, vsd, rel, dd⟩ := dk_rd I2.hok hd2
      obtain ⟨ep, hat⟩ := dd.dictAt
      have hkeys : xs.map (·.1) = vsd.map (·.1) := rel.keys
      obtain ⟨kl, kk⟩ := rdk_same rk
      have hl : vsd.length = kvs.length := by
        have e := congrArg List.length hkeys
        rw [List.length_map, List.length_map] at e
        omega
      have szl := szL
      have h16 : vsd.length ≤ sizeLine := by omega
      refine wpAny_bind (PySem.W.kdu_collect (A := X.A.in1) (PySem.W.kdl_dict (knd := mixKind X.prog X.w) (kvs := vsd) (ep := ep) lo) (I2.ok.hd hcalm) hat h16 fun h' t3 acc hkk hacc => ?_)
      have hal2 : acc.toList.length = kvs.length := by rw [Array.length_toList, hacc.1, hl]
      have I3 : Inv X pins σ H2 { s2 with heap := h', toks := t3 } := I2.kept hkk
      refine wpAny_bind (wpAny_newList ?_ (by rw [hal2]; omega))
      have hoL : (h'.push (seqObj "list" acc.toList.toArray 0)).get? h'.objs.size = some (seqObj "list" acc.toList.toArray 0) := Heap.get?_push_size _ rfl
      show wpAny _ _ _ _ _ { s2 with heap := h'.push (seqObj "list" acc.toList.toArray 0), toks := t3 }
      have I4 : Inv X pins σ H2 { s2 with heap := h'.push (seqObj "list" acc.toList.toArray 0), toks := t3 } := I3.kept fun b o e => Heap.get?_push_of_some _ e
      have kf := Heap.get?_push_of_some (seqObj "list" acc.toList.toArray 0) (hkk _ _ hf)
      have nA : H2 h'.objs.size = none := I3.hok.fresh (Nat.le_refl _)
      refine wpAny_bind (wpAny_holding (wpAny_call_entry_kw PyProof.Rows.slot_list_sort ⟨_, hoL, rfl⟩ PyProof.Rows.entry_list_sort ?_ (PyProof.Rows.ksk_l1 _ _)))
      rw [PyProof.Rows.ksk_t1]
      have go : ∀ (ks : List Key) (us : List Value), ks.length = us.length → (∀ (j : Nat) (k : Key) (v : Value), ks[j]? = some k → us[j]? = some v → keyIs k v = true) → Vals (ks.map kV) us := by
        intro ks
        induction ks with
        | nil => intro us hl _; cases us with
          | nil => exact .nil
          | cons u us => cases hl
        | cons k ks ih =>
          intro us hl hh
          cases us with
          | nil => cases hl
          | cons u us =>
            refine .cons ?_ (ih us (by simpa using hl) fun j k' v e1 e2 => hh (j + 1) k' v (by simpa using e1) (by simpa using e2))
            rcases keyIs_shape (hh 0 k u rfl rfl) with ⟨i, t, ek, ev⟩ | ⟨z, t, ek, ev⟩
            · subst ek; exact ⟨t, ev⟩
            · subst ek; exact ⟨t, ev⟩
      have rvs : Vals ((xs.map (·.1)).map kV) acc.toList := go _ _ (by rw [List.length_map, hal2, kl]) fun j k v e1 e2 => by
        obtain ⟨k', x, e3, e4⟩ := hacc.2 j v (by rw [← Array.getElem?_toList]; exact e2)
        rw [hkeys, List.getElem?_map, e3] at e1
        cases e1
        exact e4
      have rds2 : RDs X.K F2 (keysD' kvs) ((xs.map (·.1)).map kV) := by
        have e : keysD' kvs = (kvs.map (·.1)).map kD := by unfold keysD'; rw [List.map_map]; rfl
        rw [kk, e]
        exact rd_keys _
      have fne : f ≠ h'.objs.size := Nat.ne_of_lt (Heap.lt_size (hkk _ _ hf))
      refine keyI_tree I4 g2.sr hoL kf (fun v z => by cases z) (I1.fpOk fge hfn) (I3.fpOk (Nat.le_refl _) nA) fne rvs rds2 (by rw [hal2]; omega) (fun x hx => (hkx x hx).1) hal hsk (fun x hx => ?_) (fun F1' H1' pins1 s1' x w v mx I' go of1 rd rv => ?_) fun F3 H3 s3 zs g3 n3 I5 rz => ?_
      · have h1 := (hkx x hx).2
        have h2 := hr.more
        omega
      · have hc1 : H1' c' = some (CodeO c' (X.env.qual ++ "<lambda>")) := go.sr.fr _ _ (go.ss _ _ hF2)
        refine lam_key (k := k) (y := y) (tb := lift X.K ⟨F1', H1', h1⟩ tk) I' L of1 hc1 ly (fun u => hbind _ _ _ _ _ u) (Rm.in1 (Rm.in1 hr)) (fun A outer s H E hr2 => hbody A outer s H E f c' ⟨F1', H1', h1⟩ hr2) rv ?_
        exact ⟨F1', h1, σd ++ [some x], _, (l.mono ((g1.ss.trans g2.ss).trans go.ss)).app (.cons rd .nil), ⟨Go.refl go.sr⟩, tkx x mx, fun F' H' hh d v g r ⟨e1, e2⟩ => by subst e1; subst e2; exact ⟨F', g, r⟩⟩
      · exact ⟨_, rfl, wpAny_pure ⟨_, rfl, .ref h'.objs.size, _, I5, rfl, (cQ.go ((g1.trans g2).trans g3)).lst g3.sr n3 rz tq⟩⟩
    · exact tt.elim
  · exact tt.elim
@[simp] theorem r_sortK {P : Addr} {q : Str} {ta : WA} {tk : WE} {σ : MSt} {h : MH} {Q : MQ} : wSortK P q ta tk σ h Q = ta σ h fun ds h1 => match ds with
  | [d] => match dcS d with
    | some kvs => h1 P = some (.tbl q) ∧ ∃ (g : D → D) (kp : D → PyData), (kvs.length ≤ 1000000 ∧ (∀ x ∈ keysD' kvs, pyD (g x) = some (kp x) ∧ (kp x).depth ≤ 30) ∧ PySem.W.AllAlike ((keysD' kvs).map kp) ∧ PySem.W.Sortable ((keysD' kvs).map kp)) ∧
    (∀ x ∈ keysD' kvs, tk (σ ++ [some x]) h1 fun k h2 => k = g x ∧ h2 = h1) ∧ Q (.lst ((keysD' kvs).mergeSort (PySem.W.dataLe false kp))) h1
    | none => False
  | _ => False := (rfl)
end
section
variable {X : Cx} {B : Bs}
theorem Go.lock {K : PySem.W.Frag} {F H : Hp} {h : MH} {a : Addr} {o : Obj} {u : HO} {c0 : Cell} (s : SR K F H h) (m : h a = some c0) (e0 : H a = some u) : Go K F H h (upd F a (.frz o u)) (upd H a (.frz o u)) (mdel h a) := by
  have nF := (s.cell a c0 m).1
  refine ⟨same_upd nF, fun b x f m1 n => ?_, ⟨fun b x e => ?_, fun b d e => ?_⟩⟩
  · have hb : b ≠ a := fun z => by rw [z, m] at n; cases n
    exact ⟨by rw [upd_ne hb]; exact m1, by unfold mdel; rw [if_neg hb]; exact n, by rw [upd_ne hb]; exact f⟩
  · by_cases hb : b = a
    · subst hb; rw [upd_same] at e ⊢; exact e
    · rw [upd_ne hb] at e ⊢; exact s.fr b x e
  · have hb : b ≠ a := fun z => by unfold mdel at e; rw [if_pos z] at e; cases e
    unfold mdel at e
    rw [if_neg hb] at e
    obtain ⟨f, q'⟩ := s.cell b d e
    exact ⟨by rw [upd_ne hb]; exact f, q'.mono (same_upd nF) (upd_ne hb)⟩
def wFzL (i : Nat) (t : WS) : WS := fun D σ h => match σ[i]? with
  | some (some (.ref a)) => match h a with
    | some (.dct kvs) => t D (σ.set i (some (.dcl kvs))) (mdel h a)
    | _ => False
  | some (some (.dcl _)) => t D σ h
  | _ => False
theorem ms_fzL {sts : List Stmt} {t : WS} (i : Nat) (hs : MSs X B sts t) : MSs X B sts (wFzL i t) := ⟨fun pins s σ H E I q => by
  obtain ⟨F, h, σd, D', l, s0, t0, c⟩ := q
  unfold wFzL at t0
  split at t0
  · rename_i a ea
    split at t0
    · rename_i kvs em
      obtain ⟨v, ev, rv⟩ := l.get _ _ ea
      cases rv
      obtain ⟨_, xs, q, r⟩ := s0.cell _ _ em
      obtain ⟨od, I2⟩ := I.lock q True.intro
      have g := Go.lock (o := od) s0.sr em q
      exact hs.run pins s σ _ E I2 ⟨_, _, _, D', (l.mono g.ss).setD (.dcl upd_same (r.mono g.ss)) ev, s0.go g, t0, c.go g⟩
    · exact t0.elim
  · exact hs.run pins s σ H E I ⟨F, h, σd, D', l, s0, t0, c⟩
  · exact t0.elim⟩
def wFzVL (t : WE) : WE := fun σ h Q => t σ h fun d h1 => match d with
  | .ref a => match h1 a with
    | some (.dct kvs) => Q (.dcl kvs) (mdel h1 a)
    | _ => False
  | .dcl kvs => Q (.dcl kvs) h1
  | _ => False
def tLkO (t : TE) : TE := fun σ H Q => t σ H fun x H1 => (∃ d kvs, x = .ref d ∧ H1 d = some (.dK kvs) ∧ ∀ od, Q x (upd H1 d (.frz od (.dK kvs)))) ∨ Q x H1
theorem pe_lkO {e : Expr} {t : TE} (h : PE X e t) : PE X e (tLkO t) :=
  ⟨fun pins s σ H Q I hw => thn (h.run pins s σ H _ I hw) fun v s1 ⟨x, H1, I1, r, q⟩ => by
    rcases q with ⟨d, kvs, ex, hd, q⟩ | q
    · obtain ⟨od, I2⟩ := I1.lock hd True.intro
      exact ⟨x, _, I2, r, q od⟩
    · exact ⟨x, _, I1, r, q⟩⟩
theorem m_fzVL {e : Expr} {te : WE} (he : ME X B e te) : ME X B e (wFzVL te) :=
  pe_mono (pe_lkO he) fun σ H Q ⟨F, h, σd, Q', l, s, t, c⟩ => ⟨F, h, σd, _, l, s, t, fun F1 H1 h1 x u g1 rx t1 => by
    split at t1
    · rename_i a
      cases rx
      split at t1
      · rename_i kvs em
        obtain ⟨nF, xs, q, r⟩ := g1.sr.cell _ _ em
        exact .inl ⟨a, xs, rfl, q, fun od => c _ _ _ _ _ (g1.trans (Go.lock g1.sr em q)) (.dcl upd_same (r.mono (same_upd nF))) t1⟩
      · exact t1.elim
    · exact .inr (c _ _ _ _ _ g1 rx t1)
    · exact t1.elim⟩
theorem walkD_keys {K : PySem.W.Frag} {F : Hp} {a : Addr} {o : Obj} {xs : List (Key × V)} {kvs : List (Key × D)} (q : F a = some (.frz o (.dK xs))) (r : RDk K F kvs xs) : WalkD K (Itk a o xs) F (keysD' kvs) := by
  have hl : (keysD' kvs).length = xs.length := by unfold keysD'; rw [List.length_map, rdk_len r]
  refine ⟨fun i H hi sm => ⟨sm _ _ q, by rw [← hl]; exact hi⟩, fun H sm => ⟨sm _ _ q, by rw [hl]; exact Nat.le_refl _⟩, fun i d H x H' hd sm y F1 h s1 sr => ?_⟩
  obtain ⟨rfl, k, v, hx, rfl⟩ := y
  obtain ⟨d0, hk, rd⟩ := rdk_get r hx
  unfold keysD' at hd
  rw [List.getElem?_map, hk] at hd
  simp only [Option.map_some, Option.some.injEq] at hd
  subst hd
  exact ⟨F1, Go.refl sr, rd_key k⟩
def wItK (t : WE) : WI := fun σ h Q => t σ h fun d h1 => match d with
  | .dcl kvs => Q (keysD' kvs) h1
  | _ => False
theorem mi_keys {tg e : Expr} {te : WE} (he : ME X B e te) : MI X B tg e (wItK te) :=
  pi_mono (pi_keys he) fun σ H R ⟨F, h, σd, Q', l, s, t, c⟩ => ⟨F, h, σd, _, l, s, t, fun F1 H1 h1 x u g1 rx t1 => by
    split at t1
    · cases rx with
      | dcl q r => exact ⟨_, _, rfl, .inl ⟨_, g1.sr.fr _ _ q, c _ _ _ _ _ g1 (walkD_keys q r) t1⟩⟩
    · exact t1.elim⟩
def fSortDc (ds : List D) (h : MH) (Q : MQ) : Prop := match ds with
  | [d] => match dcS d with
    | some kvs => match intsOf (keysD' kvs) with
      | some ns => kvs.length ≤ 1000000 ∧ Q (.lst ((sortI ns).map .int)) h
      | none => False
    | none => False
  | _ => False
theorem call_sortedDR (hcalm : X.calm = true) : CallR X (.builtin "sorted") (fun xs H Q => ∃ (a : Addr) (kvs : List (Key × V)) (ks : List Int), xs = [.ref a] ∧ Rd H a (.dK kvs) ∧ kvs.map (·.1) = ks.map Sum.inl ∧ ks.length ≤ sizeLine ∧
    ∀ (ys : List Int) (p : Addr), ys.Perm ks → ys.Pairwise (· ≤ ·) → H p = none → Q (.ref p) (upd H p (.lst (ys.map V.int)))) := by
  intro pins s σ H xs us Q I r q
  obtain ⟨a, kvs, ks, ex, hd, hks, h64, q⟩ := q
  subst ex
  obtain ⟨u, eu, rx⟩ := vals1 r
  subst eu
  cases rx
  obtain ⟨z, lo, vs, rel, dd⟩ := dk_rd I.hok hd
  obtain ⟨ep, hat⟩ := dd.dictAt
  have hkeys : vs.map (·.1) = ks.map Sum.inl := rel.keys.symm.trans hks
  have hl : vs.length = ks.length := by
    have e := congrArg List.length hkeys
    rw [List.length_map, List.length_map] at e
    exact e
  have h16 : vs.length ≤ sizeLine := by omega
  refine Calls.call_function_entry PyProof.Rows.kind_sorted PyProof.Rows.plain_sorted PyProof.Rows.entry_sorted (PyProof.Rows.args_sorted1 _) ?_
  unfold Builtin.«sorted»
  refine wpAny_bind (m := checkCount "sorted" 1 1 _) (wpAny_pure ?_)
  refine wpAny_bind (PySem.W.kdu_collect (A := X.A.in1) (PySem.W.kdl_dict (knd := mixKind X.prog X.w) (kvs := vs) (ep := ep) lo) (I.ok.hd hcalm) hat h16 fun h' tk acc hk hacc => ?_)
  have hal : acc.toList.length = ks.length := by rw [Array.length_toList, hacc.1, hl]
  have hS : IntsAre acc.toList ks := ints_each hal fun j v e => by
    obtain ⟨k, x, e1, e2⟩ := hacc.2 j v (by rw [← Array.getElem?_toList]; exact e)
    have e3 : (vs.map (·.1))[j]? = some k := by rw [List.getElem?_map, e1]; rfl
    rw [hkeys, List.getElem?_map] at e3
    cases e4 : ks[j]? with
    | none => rw [e4] at e3; cases e3
    | some y =>
      rw [e4] at e3
      have e5 : Sum.inl y = k := Option.some.inj e3
      subst e5
      rcases keyIs_shape (show keyIs (Sum.inl y) v = true from e2) with ⟨i, t, ek, ev⟩ | ⟨z, t, ek, ev⟩
      · cases ek
        exact ⟨y, t, rfl, ev⟩
      · cases ek
  have I1 : Inv X pins σ H { s with heap := h', toks := tk } := I.kept hk
  refine wpAny_bind (wpAny_newList ?_ (by rw [hal]; omega))
  have hoL : (h'.push (seqObj "list" acc.toList.toArray 0)).get? h'.objs.size = some (seqObj "list" acc.toList.toArray 0) := Heap.get?_push_size _ rfl
  show wpAny _ _ _ _ _ { s with heap := h'.push (seqObj "list" acc.toList.toArray 0), toks := tk }
  refine wpAny_bind (wpAny_holding (wpAny_call_entry PyProof.Rows.slot_list_sort ⟨_, hoL, rfl⟩ PyProof.Rows.entry_list_sort
    (SrtO.list_sort_ord (s := { s with heap := h'.push (seqObj "list" acc.toList.toArray 0), toks := tk }) SrtO.swo_int hoL (by rw [hal]; exact h64) (fun h2 => SrtO.ints_sortable hS h2) fun out k1 k2 => ⟨_, rfl, ?_⟩) (PyProof.Rows.args_list_sort _)))
  obtain ⟨g1, g2, g3⟩ := SrtO.ints_out hS k1 k2
  obtain ⟨e', he'⟩ := PyProof.Rows.sortedHeap_at (vs := acc.toList) (out := out.toArray) hoL
  have hlen : ((out.map SrtO.iv).map V.int).length ≤ sizeLine := by
    rw [List.length_map, g2.length_eq]
    exact h64
  refine wpAny_pure ⟨_, rfl, .ref h'.objs.size, upd H h'.objs.size (.lst ((out.map SrtO.iv).map V.int)), I1.laid (t' := tk) (fun b u e => ?_) (Nat.le_refl _)
    (show ObjOk X.prog X.w _ _ _ (.lst ((out.map SrtO.iv).map V.int)) from ⟨hlen, out, e', vals_of_ints g1, by exact he'⟩), rfl, q _ _ g2 g3 (I1.hok.fresh (Nat.le_refl _))⟩
  have hb : b < h'.objs.size := Heap.lt_size e
  rw [PyProof.Rows.sortedHeap_old (Nat.ne_of_lt hb) (by rw [size_push']; exact Nat.lt_succ_of_lt hb)]
  exact Heap.get?_push_of_some _ e
theorem keys_ints {kvs : List (Key × D)} {ns : List Int} (e : intsOf (keysD' kvs) = some ns) : kvs.map (·.1) = ns.map Sum.inl := by
  have e := intsOf_map e
  unfold keysD' at e
  have go : ∀ (kvs : List (Key × D)) (ns : List Int), (kvs.map fun z => kD z.1) = ns.map D.int → kvs.map (·.1) = ns.map Sum.inl := by
    intro kvs
    induction kvs with
    | nil => intro ns e; cases ns with
      | nil => rfl
      | cons n ns => cases e
    | cons z kvs ih =>
      intro ns e
      cases ns with
      | nil => cases e
      | cons n ns =>
        simp only [List.map_cons, List.cons.injEq] at e ⊢
        refine ⟨?_, ih ns e.2⟩
        have e1 := e.1
        cases hz : z.1 with
        | inl i => rw [hz] at e1; cases e1; rfl
        | inr x => rw [hz] at e1; cases e1
  exact go kvs ns e
theorem m_sortedDc {e : Expr} {es : List Expr} {wa : WA} {p pos : Pos} (hcalm : X.calm = true) (hm : X.mg "sorted" = none) (ha : MA X B (e :: es) wa) (hg : Gl X "sorted" := by rfl) (he : starEach (e :: es) X.env = (false, eval e X.env) :: starEach es X.env := by rfl) (hpl : (backTo pos (starEach es X.env)).any (·.1) = false := by rfl) :
    ME X B (.Call (.Name "sorted" p) (e :: es) [] pos) (wCB fSortDc wa) := m_callB (call_sortedDR hcalm) (fun F H h ds vs Q' Q s rs t c => by
      unfold fSortDc at t
      split at t
      · obtain ⟨v, rfl, r⟩ := rds_one rs
        split at t
        · rename_i kvs ed
          split at t
          · rename_i ns en
            obtain ⟨a, xs, rfl, hF, rk⟩ := dcS_rd r ed
            have e1 := keys_ints en
            have e2 := (rdk_same rk).2
            have szl := szL
            have l1 := congrArg List.length e1
            rw [List.length_map, List.length_map] at l1
            refine ⟨a, xs, ns, rfl, rd_mono s.fr hF, e2.trans e1, by omega, fun ys p pr st nq => ?_⟩
            rw [sortI_uniq pr st]
            exact c.lst s nq (RDs.ints _) t.2
          · exact t.elim
        · exact t.elim
      · exact t.elim) hm (by decide +kernel) ha hg (by decide) (by decide) he hpl
def fLenDs (ds : List D) (h : MH) (Q : MQ) : Prop := match ds with
  | [d] => match dcR h d with
    | some kvs => Q (.int kvs.length) h
    | none => False
  | _ => False
theorem call_lenR : CallR X (.builtin "len") (fun xs H Q => ∃ a kvs, xs = [V.ref a] ∧ Rd H a (.dK kvs) ∧ Q (.int kvs.length) H) := by
  intro pins s σ H xs us Q I r h
  obtain ⟨a, kvs, rfl, ha, q⟩ := h
  obtain ⟨u, rfl, ru⟩ := vals1 r
  cases ru
  exact d_len I ha fun t s' I' => ⟨.int kvs.length, H, I', ⟨t, rfl⟩, q⟩
theorem m_lenDs {e : Expr} {es : List Expr} {wa : WA} {p pos : Pos} (hm : X.mg "len" = none) (ha : MA X B (e :: es) wa) (hg : Gl X "len" := by rfl) (he : starEach (e :: es) X.env = (false, eval e X.env) :: starEach es X.env := by rfl) (hpl : (backTo pos (starEach es X.env)).any (·.1) = false := by rfl) :
    ME X B (.Call (.Name "len" p) (e :: es) [] pos) (wCB fLenDs wa) := m_callB call_lenR (fun F H h ds vs Q' Q s rs t c => by
      unfold fLenDs at t
      split at t
      · obtain ⟨v, rfl, r⟩ := rds_one rs
        split at t
        · rename_i kvs ed
          obtain ⟨p, xs, rfl, hp, rk⟩ := dcR_rd s r ed
          refine ⟨p, xs, rfl, hp, ?_⟩
          rw [← rdk_len rk]
          exact c.same s (.int _) t
        · exact t.elim
      · exact t.elim) hm PySem.boot_len ha hg (by decide) (by decide) he hpl
@[simp] theorem dcR_dcl {kvs : List (Key × D)} {h : MH} : dcR h (.dcl kvs) = some kvs := (rfl)
@[simp] theorem dcR_dct {kvs : List (Key × D)} {h : MH} : dcR h (.dct kvs) = some kvs := (rfl)
@[simp] theorem dcR_ref {a : Addr} {h : MH} : dcR h (.ref a) = match h a with
  | some (.dct kvs) => some kvs
  | _ => none := (rfl)
@[simp] theorem dcS_dcl {kvs : List (Key × D)} : dcS (.dcl kvs) = some kvs := (rfl)
@[simp] theorem o_sortDc {kvs : List (Key × D)} {h : MH} {Q : MQ} : fSortDc [.dcl kvs] h Q = match intsOf (keysD' kvs) with
  | some ns => kvs.length ≤ 1000000 ∧ Q (.lst ((sortI ns).map .int)) h
  | none => False := (rfl)
@[simp] theorem o_lenDs {kvs : List (Key × D)} {h : MH} {Q : MQ} : fLenDs [.dcl kvs] h Q = Q (.int kvs.length) h := (rfl)
@[simp] theorem r_itK {t : WE} {σ : MSt} {h : MH} {Q : List D → MH → Prop} : wItK t σ h Q = t σ h fun d h1 => match d with
  | .dcl kvs => Q (keysD' kvs) h1
  | _ => False := (rfl)
@[simp] theorem r_fzVL {t : WE} {σ : MSt} {h : MH} {Q : MQ} : wFzVL t σ h Q = t σ h fun d h1 => match d with
  | .ref a => match h1 a with
    | some (.dct kvs) => Q (.dcl kvs) (mdel h1 a)
    | _ => False
  | .dcl kvs => Q (.dcl kvs) h1
  | _ => False := (rfl)
@[simp] theorem r_fzL {i : Nat} {t : WS} {D0 : MEnds} {σ : MSt} {h : MH} : wFzL i t D0 σ h = match σ[i]? with
  | some (some (.ref a)) => match h a with
    | some (.dct kvs) => t D0 (σ.set i (some (.dcl kvs))) (mdel h a)
    | _ => False
  | some (some (.dcl _)) => t D0 σ h
  | _ => False := (rfl)
end
section
variable {X : Cx} {B : Bs}
def wNotInRg (ta : WE) (tr : WR) : WE := fun σ h Q => ta σ h fun x h1 => tr σ h1 fun lo hi h2 => match x with
  | .int i => Q (.bl (!decide (lo ≤ i ∧ i < hi))) h2
  | _ => False
@[simp] theorem r_notInRg {ta : WE} {tr : WR} {σ : MSt} {h : MH} {Q : MQ} : wNotInRg ta tr σ h Q = ta σ h fun x h1 => tr σ h1 fun lo hi h2 => match x with
  | .int i => Q (.bl (!decide (lo ≤ i ∧ i < hi))) h2
  | _ => False := (rfl)
end
end BP

set_option maxRecDepth 100000
set_option maxHeartbeats 4000000
namespace BP
open PySem PySem.Spec PyProof.Rows L2 LamX
def noT (K : PySem.W.Frag) : PySem.W.Frag := K.filter fun p => match p.2.cls, p.2.data with
  | .none, .fields _ => false
  | _, _ => true
def upB : Nat → PySem.W.Frag → Bool
  | _, [] => true
  | n, p :: r => Nat.ble n p.1 && upB (p.1 + 1) r
theorem up_ge : ∀ {K : PySem.W.Frag} {n : Nat}, upB n K = true → ∀ p ∈ K, n ≤ p.1
  | [], _, _, p, h => by cases h
  | q :: r, n, e, p, h => by
    unfold upB at e
    rw [Bool.and_eq_true] at e
    have h1 := Nat.le_of_ble_eq_true e.1
    rcases List.mem_cons.mp h with rfl | h
    · exact h1
    · have := up_ge e.2 p h; omega
theorem up_look : ∀ {K : PySem.W.Frag} {n : Nat}, upB n K = true → ∀ p ∈ K, K.lookup p.1 = some p.2
  | [], _, _, p, h => by cases h
  | q :: r, n, e, p, h => by
    unfold upB at e
    rw [Bool.and_eq_true] at e
    rw [List.lookup_cons]
    rcases List.mem_cons.mp h with rfl | h
    · simp
    · have := up_ge e.2 p h
      have : (p.1 == q.1) = false := beq_false_of_ne (Nat.ne_of_gt this)
      rw [this]
      exact up_look e.2 p h
theorem noT_in {K : PySem.W.Frag} {h : Heap} (u : upB 0 K = true) (X : K.In h) : (noT K).In h := fun a o e => by
  have hm := PySem.W.mem_of_lookupK e
  exact X a o (up_look u _ (List.mem_filter.mp hm).1)
theorem of_K {K K' : PySem.W.Frag} (hK : K' = noT K) {α : Type} {f : PySem.W.Frag → α} {r : α} (h1 : f K = r) (h2 : f (noT K) = f K) : f K' = r := by
  subst hK
  exact h2.trans h1
def CodeT (K : PySem.W.Frag) (c P : Addr) : Prop := ∃ o vs file tf flags tg inF text tt, K.lookup c = some o ∧ o.cls = .type "code" ∧ o.data = .fields vs ∧ vs[11]? = some (.ref P) ∧ vs.getD 11 .none = .ref P ∧ vs.getD 18 .none = .str file tf ∧
    vs.getD 7 .none = .int flags tg ∧ vs.getD 9 .none = .bool inF ∧ vs.getD 10 .none = .int text tt ∧ c ≠ P ∧ K.lookup P = some { cls := .none, data := .fields #[] }
theorem CodeT.at {K : PySem.W.Frag} {h : Heap} {c P : Addr} (X : K.In h) (x : CodeT K c P) : PySem.W.CodeHd h c P ∧ h.get? P = some { cls := .none, data := .fields #[] } := by
  obtain ⟨o, vs, file, tf, flags, tg, inF, text, tt, e, r1, r2, r3, r4, r5, r6, r7, r8, r9, e2⟩ := x
  exact ⟨⟨o, vs, file, tf, flags, tg, inF, text, tt, X _ _ e, r1, r2, r3, r4, r5, r6, r7, r8, r9⟩, X _ _ e2⟩
def codeB (o : Obj) (c P : Addr) : Bool := match o.cls, o.data with
  | .type t, .fields vs => t == "code" && (match (vs[11]? : Option Value) with | some (.ref p) => p == P | _ => false) && (match vs.getD 18 .none with | .str _ _ => true | _ => false) &&
    (match vs.getD 7 .none with | .int _ _ => true | _ => false) && (match vs.getD 9 .none with | .bool _ => true | _ => false) && (match vs.getD 10 .none with | .int _ _ => true | _ => false) && c != P
  | _, _ => false
def tabB (o : Obj) : Bool := match o with
  | ⟨.none, none, .fields us, sl⟩ => us.size == 0 && sl.size == 0
  | _ => false
theorem codeT_mk {K : PySem.W.Frag} {c P : Addr} {o po : Obj} (h1 : K.lookup c = some o) (h2 : K.lookup P = some po) (b : codeB o c P = true) (t : tabB po = true) : CodeT K c P := by
  have ep : po = { cls := .none, data := .fields #[] } := by
    unfold tabB at t
    split at t
    · rename_i us sl
      rw [Bool.and_eq_true] at t
      have a1 : us = #[] := by simpa using t.1
      have a2 : sl = #[] := by simpa using t.2
      subst a1; subst a2; rfl
    · cases t
  subst ep
  unfold codeB at b
  split at b
  · rename_i tt vs e1 e2
    simp only [Bool.and_eq_true] at b
    obtain ⟨⟨⟨⟨⟨⟨b1, b2⟩, b3⟩, b4⟩, b5⟩, b6⟩, b7⟩ := b
    have t1 : tt = "code" := by simpa using b1
    subst t1
    split at b2
    · rename_i p hp
      have : p = P := by simpa using b2
      subst this
      split at b3
      · rename_i f1 f2 hf
        split at b4
        · rename_i g1 g2 hg
          split at b5
          · rename_i i1 hi
            split at b6
            · rename_i j1 j2 hj
              refine ⟨o, vs, f1, f2, g1, g2, i1, j1, j2, h1, e1, e2, hp, ?_, hf, hg, hi, hj, by simpa using b7, h2⟩
              rw [Array.getD_eq_getD_getElem?, hp]; rfl
            · cases b6
          · cases b5
        · cases b4
      · cases b3
    · cases b2
  · cases b
theorem walk_bpX {l : PySem.W.OpenLaw} {n k : Nat} {q : Program} {loose : List Str} {XP : (Str → Option Value) → Heap → Prop} {YP : World → Heap → Prop} {d : DefRec} {K : Params → PySem.W.Frag} {x : Str}
    (hn : l.most = some n) (hn2 : n ≤ sizeLine) (hdf : d.params.defaults = []) (hr : Room k callerA) (hY : ∀ (w : World) (h : Heap), YP w h → (K w.params).In h) (up : ∀ P : Params, upB 0 (K P) = true)
    (F : ∀ (w : World) (mg : Str → Option Value) (fa : Addr) (h : Heap) (K' : PySem.W.Frag) (CT : Addr → Addr → Prop), K' = noT (K w.params) → CT = CodeT (K w.params) → K'.In h → h.Ns mainGlobals mg → mg d.name = some (.ref fa) →
      ∃ (fd : FuncData) (ts : List Tb) (sp : MSp), (ts.map (·.P)).Nodup ∧ (∀ t ∈ ts, PySem.W.tabIn K' t.x = some (t.c, t.P) ∧ K'.lookup t.P = none ∧ CT t.c t.P) ∧ LawOkT n ts sp ∧
        (∀ (s : Shared) (u : Value), BindsTo s fd ⟨[u], []⟩ [(x, u)]) ∧ ∀ base : Heap, K'.In base → base.Ns mainGlobals mg → (∀ t ∈ ts, TabB base mg t.c t.P) → FnM l.prog w K' mg base k fa fd [x] sp) :
    PySem.W.WalkO q loose XP YP l.row.toRowW d [] (fun f vs => PySem.call f vs) := by
  refine Att.attach_callB hn hdf fun w s₀ s₁ mg mb fa o pm cd doc a vs ns G Y ho hd hcd hmg hobj hints hlen hbits hg => ?_
  have KB := hY w _ Y
  have KX := noT_in (up w.params) KB
  obtain ⟨fd, ts, sp, nd, ht, hsp, hb, hF⟩ := F w mg fa _ _ _ rfl rfl KX G.T.g hmg
  refine law_run KX G.T.g G.T.b G.T.builtins G.T.nolimit hg nd (fun t h => ?_) G.T.bmain hobj hints hlen hn2 hbits hr hF hb hsp
  obtain ⟨h1, h2, h3⟩ := ht t h
  obtain ⟨g1, g2⟩ := h3.at KB
  exact ⟨g1, g2, h2⟩
end BP

set_option maxRecDepth 100000
set_option maxHeartbeats 4000000
namespace BP
open PySem PySem.Spec PyProof.Rows L2 LamX
def dPr (z : Int × List Int) : D := .tup [.int z.1, .lst (z.2.map .int)]
section
variable {X : Cx}
end
def fSortP (ds : List D) (h : MH) (Q : MQ) : Prop := match ds with
  | [d] => ∃ ps : List (Int × List Int), lsOf h d = some (ps.map dPr) ∧ ∀ ys : List (Int × List Int), ys.length = ps.length → (∀ y ∈ ys, y ∈ ps) → Q (.lst (ys.map dPr)) h
  | _ => False
def fMinP (ds : List D) (h : MH) (Q : MQ) : Prop := match ds with
  | [d] => ∃ ps : List (Int × List Int), lsOf h d = some (ps.map dPr) ∧ ps ≠ [] ∧ ∀ z ∈ ps, (∀ y ∈ ps, z.1 ≤ y.1) → Q (dPr z) h
  | _ => False
section
variable {X : Cx} {B : Bs} {e : Expr} {es : List Expr} {wa : WA} {pos : Pos}
end
@[simp] theorem o_sortP {d : D} {h : MH} {Q : MQ} : fSortP [d] h Q = ∃ ps : List (Int × List Int), lsOf h d = some (ps.map dPr) ∧ ∀ ys : List (Int × List Int), ys.length = ps.length → (∀ y ∈ ys, y ∈ ps) → Q (.lst (ys.map dPr)) h := (rfl)
@[simp] theorem o_minP {d : D} {h : MH} {Q : MQ} : fMinP [d] h Q = ∃ ps : List (Int × List Int), lsOf h d = some (ps.map dPr) ∧ ps ≠ [] ∧ ∀ z ∈ ps, (∀ y ∈ ps, z.1 ≤ y.1) → Q (dPr z) h := (rfl)
section
variable {X : Cx}
theorem cr_sortedTu : CallR X (.builtin "sorted") (fun xs H Q => ∃ (a : Addr) (ks : List Int), xs = [.ref a] ∧ SqT X.K H a (ks.map V.int) ∧
    ∀ (ys : List Int) (p : Addr), ys.Perm ks → ys.Pairwise (· ≤ ·) → H p = none → Q (.ref p) (upd H p (.lst (ys.map V.int)))) := by
  intro pins s σ H xs us Q I r q
  obtain ⟨a, ks, ex, hd, q⟩ := q
  subst ex
  obtain ⟨u, eu, rx⟩ := vals1 r
  subst eu
  cases rx
  obtain ⟨its, rv, ⟨o, ho, hc, n, hd2⟩, hz⟩ := I.tuple hd
  have hS : IntsAre its ks := rv.ints
  have hal : its.length = ks.length := hS.length
  have h64 : ks.length ≤ sizeLine := by rw [List.length_map] at hz; exact hz
  refine Calls.call_function_entry PyProof.Rows.kind_sorted PyProof.Rows.plain_sorted PyProof.Rows.entry_sorted (PyProof.Rows.args_sorted1 _) ?_
  unfold Builtin.«sorted»
  refine wpAny_bind (m := checkCount "sorted" 1 1 _) (wpAny_pure ?_)
  refine wpAny_bind (wpAny_collect_seq a (.inr rfl) ho hc hd2 (fun h' hk => ?_) (by rw [List.size_toArray, hal]; exact h64))
  have I1 : Inv X pins σ H { s with heap := h' } := by
    have := I.kept (h' := h') (t' := s.toks) hk
    exact this
  simp only [List.toList_toArray]
  refine wpAny_bind (wpAny_newList ?_ (by rw [hal]; omega))
  have hoL : (h'.push (seqObj "list" its.toArray 0)).get? h'.objs.size = some (seqObj "list" its.toArray 0) := Heap.get?_push_size _ rfl
  show wpAny _ _ _ _ _ { s with heap := h'.push (seqObj "list" its.toArray 0) }
  refine wpAny_bind (wpAny_holding (wpAny_call_entry PyProof.Rows.slot_list_sort ⟨_, hoL, rfl⟩ PyProof.Rows.entry_list_sort
    (SrtO.list_sort_ord (s := { s with heap := h'.push (seqObj "list" its.toArray 0) }) SrtO.swo_int hoL (by rw [hal]; exact h64) (fun h2 => SrtO.ints_sortable hS h2) fun out k1 k2 => ⟨_, rfl, ?_⟩) (PyProof.Rows.args_list_sort _)))
  obtain ⟨g1, g2, g3⟩ := SrtO.ints_out hS k1 k2
  obtain ⟨e', he'⟩ := PyProof.Rows.sortedHeap_at (vs := its) (out := out.toArray) hoL
  have hlen : ((out.map SrtO.iv).map V.int).length ≤ sizeLine := by
    rw [List.length_map, g2.length_eq]
    exact h64
  refine wpAny_pure ⟨_, rfl, .ref h'.objs.size, upd H h'.objs.size (.lst ((out.map SrtO.iv).map V.int)), I1.laid (t' := s.toks) (fun b u e => ?_) (Nat.le_refl _)
    (show ObjOk X.prog X.w _ _ _ (.lst ((out.map SrtO.iv).map V.int)) from ⟨hlen, out, e', vals_of_ints g1, by exact he'⟩), rfl, q _ _ g2 g3 (I1.hok.fresh (Nat.le_refl _))⟩
  have hb : b < h'.objs.size := Heap.lt_size e
  rw [PyProof.Rows.sortedHeap_old (Nat.ne_of_lt hb) (by rw [size_push']; exact Nat.lt_succ_of_lt hb)]
  exact Heap.get?_push_of_some _ e
end
def fSortTu (ds : List D) (h : MH) (Q : MQ) : Prop := match ds with
  | [.tup xs] => match intsOf xs with
    | some ns => Q (.lst ((sortI ns).map .int)) h
    | none => False
  | _ => False
section
variable {X : Cx} {B : Bs} {e : Expr} {es : List Expr} {wa : WA} {pos : Pos}
theorem m_sortedTu {p : Pos} (hm : X.mg "sorted" = none) (ha : MA X B (e :: es) wa) (hg : Gl X "sorted" := by rfl) (he : starEach (e :: es) X.env = (false, eval e X.env) :: starEach es X.env := by rfl) (hpl : (backTo pos (starEach es X.env)).any (·.1) = false := by rfl) :
    ME X B (.Call (.Name "sorted" p) (e :: es) [] pos) (wCB fSortTu wa) := m_callB cr_sortedTu (fun F H h ds vs Q' Q s rs t c => by
      unfold fSortTu at t
      split at t
      · obtain ⟨v, rfl, r⟩ := rds_one rs
        split at t
        · rename_i ns en
          cases r with
          | tup q r2 =>
            have := ints_rd r2 en
            subst this
            refine ⟨_, ns, rfl, Same.sqT s.fr q, fun ys p pr st n => ?_⟩
            rw [sortI_uniq pr st]
            exact c.lst s n (RDs.ints _) t
        · exact t.elim
      · exact t.elim) hm (by decide +kernel) ha hg (by decide) (by decide) he hpl
end
@[simp] theorem o_sortTu {xs : List D} {h : MH} {Q : MQ} : fSortTu [.tup xs] h Q = match intsOf xs with
    | some ns => Q (.lst ((sortI ns).map .int)) h
    | none => False := (rfl)
end BP

set_option maxRecDepth 100000
set_option maxHeartbeats 4000000
namespace BP
open PySem PySem.Spec PyProof.Rows L2
section
variable {X : Cx}
end
end BP

set_option maxRecDepth 100000
set_option maxHeartbeats 4000000
namespace BP
open PySem PySem.Spec PyProof.Rows L2
section
variable {X : Cx} {B : Bs} {o : Expr} {p pos apos mpos : Pos} {td : TE}
def tMaxVals (td : TE) : TE := fun σ H Q => td σ H fun x H1 => ∃ a kvs is, x = V.ref a ∧ H1 a = some (.dK kvs) ∧ kvs.map (·.2) = is.map V.int ∧ is ≠ [] ∧ ∀ m, m ∈ is → (∀ j ∈ is, j ≤ m) → Q (.int m) H1
theorem pe_maxVals (hc : X.calm = true) (hg : Gl X "max") (hm : X.mg "max" = none) (hd : PE X o td) (hbase : attributeBase o "values" X.env (eval o X.env) = eval o X.env := by rfl) (hline : (apos.endLine == mpos.line) = true := by rfl)
    (hse : starEach [Expr.Call (.Attribute o "values" apos) [] [] mpos] X.env = [(false, eval (Expr.Call (.Attribute o "values" apos) [] [] mpos) X.env)] := by rfl) :
    PE X (.Call (.Name "max" p) [.Call (.Attribute o "values" apos) [] [] mpos] [] pos) (tMaxVals td) := by
  refine ⟨fun pins s σ H Q I h => ?_⟩
  refine wpAny_Call_Name_kw (ld_blt I hg hm (u := .builtin "max") (by first | rfl | decide +kernel) ?_ (by first | decide +kernel | decide) (by first | decide +kernel | decide))
  rw [hse]
  refine PySem.callWith_builtin1 (wpAny_Call_method0_late hbase hline (thn (hd.run pins s σ H _ I h) fun v s1 ⟨x, H1, I1, r1, a, kvs, is, ex, ha, hv, hne, q⟩ => ?_))
  subst ex
  obtain rfl : v = Value.ref a := r1
  obtain ⟨_, hsys, vs, rel, dof⟩ := dk_of I1.hok ha
  obtain ⟨ep, dat⟩ := dof.dictAt
  have dat' := dat
  obtain ⟨ob, es, ho, ex, hdat, hko, hpr, hnd⟩ := dat'
  refine ⟨"dict", "dict.values", F.plainAttrs_dict, F.slot_dict_values, F.type_dict_values, ⟨ob, ho, ex.1⟩, fun b e => ?_, Calls.callWith_builtin rfl (PySem.evalArgs_none ?_)⟩
  · cases e
    exact ⟨ob, ho, ex.2.1⟩
  refine call_meetsIn F.slot_dict_values ⟨ob, ho, ex.1⟩ F.entry_dict_values (F.args_dict_values_1 _) (meets_dict_values (mixKind X.prog X.w) a hsys) ⟨⟨vs, dof⟩, ?_⟩
  have k1 : ∀ b u, s1.heap.get? b = some u → (s1.heap.push { cls := .type "dict_values", data := .fields #[.ref a] }).get? b = some u := fun b u e => Heap.get?_push_of_some _ e
  have dat1 : (s1.heap.push { cls := .type "dict_values", data := .fields #[.ref a] }).DictAt (mixKind X.prog X.w) a vs ep := dat.keep k1
  have hlv : vs.length = is.length := by
    have e1 := congrArg List.length hv
    rw [List.length_map, List.length_map] at e1
    rw [← e1]
    exact (KV.length rel).symm
  have hlen : 0 < vs.length := by
    rw [hlv]
    exact List.length_pos_iff.mpr hne
  have hval : ∀ (i : Nat) (v : Value), (∃ k, vs[i]? = some (k, v)) → ∃ t, v = Value.int (is.getD i 0) t := fun i v ⟨k, hk⟩ => by
    obtain ⟨x, h1, h2⟩ := KV.at' rel hk
    have e1 : (kvs.map (·.2))[i]? = some x := by rw [List.getElem?_map, h1] <;> rfl
    rw [hv, List.getElem?_map] at e1
    obtain ⟨j, hj, e2⟩ := Option.map_eq_some_iff.mp e1
    subst e2
    obtain ⟨t, e3⟩ := h2
    refine ⟨t, ?_⟩
    rw [e3, List.getD_eq_getElem?_getD, hj] <;> rfl
  refine call_max_walk (wpAny_pyIter_values (v := s1.heap.objs.size) (d := a) ⟨_, Heap.get?_push_size _ rfl, rfl, rfl⟩ dat1 ?_)
  have hlt : a < s1.heap.objs.size := Heap.lt_size ho
  have hsz : (s1.heap.push { cls := .type "dict_values", data := .fields #[.ref a] }).objs.size = s1.heap.objs.size + 1 := Heap.size_push _ _
  refine ⟨_, _, _, _, _, _, _, rfl, Walks.dictValues (knd := mixKind X.prog X.w) (A := X.A.in1) (I.ok.hd hc) (s1.heap.push { cls := .type "dict_values", data := .fields #[.ref a] }).objs.size a (by rw [hsz]; exact Nat.ne_of_lt (Nat.lt_succ_of_lt hlt)) vs ep,
    ⟨⟨_, Heap.get?_push_size _ rfl, rfl, rfl⟩, dat1.keep fun b u e => Heap.get?_push_of_some _ e⟩, fun b hb => ?_, hlen, CmpOf.ints_gt (fun i => is.getD i 0) hval, fun v h' tk hP hk => ?_⟩
  · show b < ((s1.heap.push _).push _).objs.size
    rw [Heap.size_push, Heap.size_push]
    rw [hsz] at hb
    rcases List.mem_cons.mp hb with e | hb
    · rw [e]
      exact Nat.lt_succ_self _
    · have e : b = a := List.mem_singleton.mp hb
      rw [e]
      exact Nat.lt_succ_of_lt (Nat.lt_succ_of_lt hlt)
  · obtain ⟨t, rfl⟩ := hval _ v hP
    obtain ⟨b1, b2⟩ := argBest_gt (fun i => is.getD i 0) (vs.length - 1)
    refine ⟨.int _, H1, I1.kept (t' := tk) fun b u e => hk b u (fun hmem => ?_) (Heap.get?_push_of_some _ (k1 b u e)), ⟨t, rfl⟩, q _ ?_ fun j hj => ?_⟩
    · have e1 : b = (s1.heap.push { cls := .type "dict_values", data := .fields #[.ref a] }).objs.size := List.mem_singleton.mp hmem
      have e2 := Heap.lt_size e
      rw [hsz] at e1
      rw [e1] at e2
      exact absurd e2 (Nat.not_lt.mpr (Nat.le_succ _))
    · have hb : argBest (fun i j => decide (is.getD i 0 > is.getD j 0)) (vs.length - 1) < is.length := by omega
      rw [List.getD_eq_getElem?_getD, List.getElem?_eq_getElem hb]
      exact List.getElem_mem hb
    · obtain ⟨i, hi, e⟩ := List.mem_iff_getElem.mp hj
      have e2 : is.getD i 0 = j := by rw [List.getD_eq_getElem?_getD, List.getElem?_eq_getElem hi, ← e] <;> rfl
      rw [← e2]
      exact b2 i (by omega)
theorem rdk_ints {K : PySem.W.Frag} {F : Hp} : ∀ {ks : List (Key × D)} {xs : List (Key × V)} {is : List Int}, RDk K F ks xs → ks.map (·.2) = is.map D.int → xs.map (·.2) = is.map V.int
  | _, _, [], .nil, _ => rfl
  | _, _, i :: is, .nil, e => by cases e
  | _, _, [], .cons r t, e => by cases e
  | _, _, i :: is, .cons r t, e => by
    simp only [List.map_cons, List.cons.injEq] at e
    obtain ⟨e1, e2⟩ := e
    subst e1
    cases r
    simp only [List.map_cons, rdk_ints t e2]
def wMaxV (td : WE) : WE := fun σ h Q => td σ h fun d h1 => match d with
  | .dct kvs => ∃ is : List Int, kvs.map (·.2) = is.map D.int ∧ is ≠ [] ∧ ∀ m, m ∈ is → (∀ j ∈ is, j ≤ m) → Q (.int m) h1
  | _ => False
@[simp] theorem r_maxV {td : WE} {σ : MSt} {h : MH} {Q : MQ} : wMaxV td σ h Q = td σ h fun d h1 => match d with
  | .dct kvs => ∃ is : List Int, kvs.map (·.2) = is.map D.int ∧ is ≠ [] ∧ ∀ m, m ∈ is → (∀ j ∈ is, j ≤ m) → Q (.int m) h1
  | _ => False := (rfl)
theorem m_maxV {td : WE} (hc : X.calm = true) (hm : X.mg "max" = none) (hd : ME X B o td) (hg : Gl X "max" := by rfl) (hbase : attributeBase o "values" X.env (eval o X.env) = eval o X.env := by rfl) (hline : (apos.endLine == mpos.line) = true := by rfl)
    (hse : starEach [Expr.Call (.Attribute o "values" apos) [] [] mpos] X.env = [(false, eval (Expr.Call (.Attribute o "values" apos) [] [] mpos) X.env)] := by rfl) :
    ME X B (.Call (.Name "max" p) [.Call (.Attribute o "values" apos) [] [] mpos] [] pos) (wMaxV td) :=
  pe_mono (pe_maxVals hc hg hm hd hbase hline hse) fun σ H Q ⟨F, h0, σd, Q', l, s, t0, c⟩ => ⟨F, h0, σd, _, l, s, t0, fun F1 H1 h1 d v g rd q => by
    cases rd <;> first | exact q.elim | skip
    rename_i a xs ds e r
    obtain ⟨is, e1, ne, q⟩ := q
    exact ⟨a, xs, is, rfl, g.sr.fr _ _ e, rdk_ints r e1, ne, fun m h1 h2 => c _ _ _ _ _ g (.int m) (q m h1 h2)⟩⟩
end
section
variable {X : Cx} {B : Bs} {e : Expr} {es : List Expr} {wa : WA} {pos : Pos}
def rDictC : List V → Hp → VK → Prop := fun vs H Q => ∃ (a : Addr) (kvs : List (Key × V)), vs = [V.ref a] ∧ Rd H a (.dK kvs) ∧ ∀ p, H p = none → Q (.ref p) (upd H p (.dK kvs))
theorem call_dictC : CallR X (.type "dict") rDictC := by
  intro pins s σ H vs us Q I r h
  obtain ⟨a, kvs, rfl, e, q⟩ := h
  rw [Vals.ref1 r]
  exact d_copyOf I e fun p s' hp I' => ⟨.ref p, _, I', rfl, q p hp⟩
def fDictM (ds : List D) (h : MH) (Q : MQ) : Prop := match ds with
  | [d] => match dcR h d with
    | some kvs => ∀ p, h p = none → Q (.ref p) (mupd h p (.dct kvs))
    | none => False
  | _ => False
theorem m_dictM {p : Pos} (hm : X.mg "dict" = none) (ha : MA X B (e :: es) wa) (hg : Gl X "dict" := by rfl) (he : starEach (e :: es) X.env = (false, eval e X.env) :: starEach es X.env := by rfl) (hpl : (backTo pos (starEach es X.env)).any (·.1) = false := by rfl) :
    ME X B (.Call (.Name "dict" p) (e :: es) [] pos) (wCB fDictM wa) := m_callTy call_dictC (fun F H h ds vs Q' Q s rs t c => by
      unfold fDictM at t
      split at t
      · obtain ⟨v, rfl, r⟩ := rds_one rs
        split at t
        · rename_i kvs ed
          obtain ⟨a, xs, rfl, hp, rk⟩ := dcR_rd s r ed
          refine ⟨a, xs, rfl, hp, fun p hp => ?_⟩
          exact c _ _ _ _ _ (Go.fresh (c := .dct kvs) s hp ⟨_, upd_same, rk⟩) (.ref p) (t p (s.freeM hp))
        · exact t.elim
      · exact t.elim) hm (by decide +kernel) ha hg (by decide) (by decide) he hpl
@[simp] theorem o_dictM {d : D} {h : MH} {Q : MQ} : fDictM [d] h Q = match dcR h d with
    | some kvs => ∀ p, h p = none → Q (.ref p) (mupd h p (.dct kvs))
    | none => False := (rfl)
end
section
variable {X : Cx} {B : Bs} {o e : Expr} {apos cpos : Pos} {to ti : WE}
def dropD (kvs : List (Key × D)) (k : Key) : List (Key × D) := kvs.filter fun kv => decide (kv.1 ≠ k)
theorem drop_rd {K : PySem.W.Frag} {F : Hp} {k : Key} : ∀ {kvs : List (Key × D)} {xs : List (Key × V)}, RDk K F kvs xs → RDk K F (dropD kvs k) (dropK xs k)
  | _, _, .nil => .nil
  | _, _, .cons (k := k2) r t => by
    unfold dropD dropK
    by_cases h : k2 = k
    · rw [List.filter_cons_of_neg (by simp [h]), List.filter_cons_of_neg (by simp [h])]
      exact drop_rd t
    · rw [List.filter_cons_of_pos (by simp [h]), List.filter_cons_of_pos (by simp [h])]
      exact .cons r (drop_rd t)
def wPopDc (to ti : WE) : WE := fun σ h Q => to σ h fun x h1 => match x with
  | .ref a => (∃ kvs, h1 a = some (.dct kvs)) ∧ ti σ h1 fun y h2 => match h2 a, keyD y with
    | some (.dct kvs), some k => match atD kvs k with
      | some d => Q d (mupd h2 a (.dct (dropD kvs k)))
      | none => False
    | _, _ => False
  | _ => False
@[simp] theorem r_popDc {σ : MSt} {h : MH} {Q : MQ} : wPopDc to ti σ h Q = to σ h fun x h1 => match x with
  | .ref a => (∃ kvs, h1 a = some (.dct kvs)) ∧ ti σ h1 fun y h2 => match h2 a, keyD y with
    | some (.dct kvs), some k => match atD kvs k with
      | some d => Q d (mupd h2 a (.dct (dropD kvs k)))
      | none => False
    | _, _ => False
  | _ => False := (rfl)
theorem m_popDc (ho : ME X B o to) (hi : ME X B e ti) (m : M1 X o "pop" apos e cpos := by exact ⟨rfl, rfl, rfl, rfl⟩) : ME X B (.Call (.Attribute o "pop" apos) [e] [] cpos) (wPopDc to ti) :=
  pe_mono (pe_dpop1 ho hi m) fun σ H Q ⟨F, h, σd, Q', l, s, t, c⟩ => ⟨F, h, σd, _, l, s, t, fun F1 H1 h1 x u g1 rx t1 => by
    split at t1
    · rename_i a
      cases rx
      obtain ⟨⟨kvs, em⟩, t1⟩ := t1
      obtain ⟨_, xs, q, rk⟩ := g1.sr.cell _ _ em
      refine ⟨a, rfl, .inl ⟨xs, .inl q⟩, F1, h1, σd, _, l.mono g1.ss, s.go g1, t1, fun F2 H2 h2 y w g2 ry t2 => ?_⟩
      split at t2
      · rename_i kvs2 k em2 ek
        split at t2
        · rename_i d hv
          obtain ⟨_, xs2, q2, rk2⟩ := g2.sr.cell _ _ em2
          cases key_rd ry ek
          obtain ⟨v, e1, rv⟩ := (val_rd (k := k) rk2).1 d hv
          exact ⟨xs2, k, v, q2, rfl, e1, c _ _ _ _ _ ((g1.trans g2).trans (Go.write (c := .dct (dropD kvs2 k)) g2.sr em2 ⟨_, upd_same, drop_rd rk2⟩)) rv t2⟩
        · exact t2.elim
      · exact t2.elim
    · exact t1.elim⟩
end
end BP

set_option maxHeartbeats 1000000
namespace TB
open PySem PySem.Spec PyProof.Rows L2 BP
abbrev k_LONGEST : D := .int 16
abbrev k_WHOLE : D := .int 65536

def rowsOf (t : Nat) : List Nat := (List.range 8).filter fun r => decide (r ≤ t) && decide (t < r + 8)
def diag (t : Nat) : List D := (if t % 2 = 1 then rowsOf t else (rowsOf t).reverse).map fun r => .tup [.int (r : Nat), .int ((t : Int) - (r : Nat))]
def zzTo : Nat → List D
  | 0 => []
  | n + 1 => zzTo n ++ diag n
def zzD : List D := zzTo 15
def nD (n : Nat) : D := .int (n : Int)
def roomT (cs : List Nat) : Nat := (cs.mapIdx fun i n => n * 2 ^ (15 - i)).sum
def natsOf (ds : List D) : List Nat := ds.map fun d => (dInt d).toNat
def countsOk (cs : List D) : Bool := decide (cs.length = 16) && (cs.all (fun d => btw d 0 255) && decide (roomT (natsOf cs) < 65536))
def symsOk (ss : List D) (many : Int) : Bool := decide ((ss.length : Int) = many) && (ss.all (fun d => btw d 0 255) && decide ((ss.map dInt).Nodup))
def tabFault (v : D) : Str := match v with
  | .tup [.tup cs, .tup ss] => if countsOk cs = true then (if symsOk ss (cs.map dInt).sum = true then "" else "symbols") else "counts"
  | _ => "table"
def okPart (h : MH) (x : D) : Bool := okE h x && match x with
  | .tup ys => decide (ys.length ≤ 1000000) && ys.all (okE h)
  | _ => true
def okTab (h : MH) (v : D) : Bool := okE h v && match v with
  | .tup xs => decide (xs.length ≤ 1000000) && xs.all (okPart h)
  | _ => true
structure IsTab (v : D) (cs ss : List Nat) : Prop where
  eq : v = .tup [.tup (cs.map nD), .tup (ss.map nD)]
  l16 : cs.length = 16
  cb : ∀ c ∈ cs, c ≤ 255
  room : roomT cs < 65536
  sl : ss.length = cs.sum
  sb : ∀ x ∈ ss, x ≤ 255
  nd : ss.Nodup
theorem btw_nat {ds : List D} (h : ds.all (fun d => btw d 0 255) = true) : ds = (natsOf ds).map nD ∧ ∀ n ∈ natsOf ds, n ≤ 255 := by
  rw [List.all_eq_true] at h
  refine ⟨?_, fun n hn => ?_⟩
  · unfold natsOf
    rw [List.map_map]
    conv => lhs; rw [← List.map_id ds]
    apply List.map_congr_left
    intro d hd
    obtain ⟨i, rfl, h0, h1⟩ := btw_int (h d hd)
    simp [nD, dInt]; omega
  · unfold natsOf at hn
    obtain ⟨d, hd, rfl⟩ := List.mem_map.mp hn
    obtain ⟨i, rfl, h0, h1⟩ := btw_int (h d hd)
    simp [dInt]; omega
theorem nats_map (ns : List Nat) : natsOf (ns.map nD) = ns := by
  unfold natsOf
  rw [List.map_map]
  conv => rhs; rw [← List.map_id ns]
  apply List.map_congr_left
  intro n _
  simp [nD, dInt]
theorem all_btw {ns : List Nat} (h : ∀ n ∈ ns, n ≤ 255) : (ns.map nD).all (fun d => btw d 0 255) = true := by
  rw [List.all_eq_true]
  intro d hd
  obtain ⟨n, hn, rfl⟩ := List.mem_map.mp hd
  have := h n hn
  simp [nD, btw]; omega
theorem ints_sum (ns : List Nat) : ((ns.map nD).map dInt).sum = ((ns.sum : Nat) : Int) := by
  induction ns with
  | nil => rfl
  | cons n ns ih => simp only [List.map_cons, List.sum_cons, ih]; simp [nD, dInt]
theorem ints_nodup {ns : List Nat} : ((ns.map nD).map dInt).Nodup ↔ ns.Nodup := by
  rw [List.map_map]
  have : (dInt ∘ nD) = fun n : Nat => (n : Int) := by funext n; rfl
  rw [this]
  constructor
  · intro h
    exact List.Pairwise.of_map _ (fun a b hab => by intro z; exact hab (by simp [z])) h
  · intro h
    exact List.Pairwise.map _ (fun a b hab => by intro z; exact hab (by omega)) h
theorem isTab_fault {v : D} {cs ss : List Nat} (t : IsTab v cs ss) : tabFault v = "" := by
  rw [t.eq]
  have h1 : countsOk (cs.map nD) = true := by
    unfold countsOk
    rw [nats_map, all_btw t.cb]
    simp [t.l16, t.room]
  have h2 : symsOk (ss.map nD) ((cs.map nD).map dInt).sum = true := by
    unfold symsOk
    rw [ints_sum, all_btw t.sb]
    simp only [Bool.true_and, Bool.and_eq_true, decide_eq_true_eq]
    exact ⟨by simp [t.sl], ints_nodup.mpr t.nd⟩
  simp only [tabFault, h1, h2, if_true]
theorem fault_isTab {v : D} (h : tabFault v = "") : ∃ cs ss, IsTab v cs ss := by
  unfold tabFault at h
  split at h
  · rename_i cs ss
    by_cases h1 : countsOk cs = true
    · rw [if_pos h1] at h
      by_cases h2 : symsOk ss (cs.map dInt).sum = true
      · unfold countsOk at h1
        unfold symsOk at h2
        simp only [Bool.and_eq_true, decide_eq_true_eq] at h1 h2
        obtain ⟨e1, b1⟩ := btw_nat h1.2.1
        obtain ⟨e2, b2⟩ := btw_nat h2.2.1
        refine ⟨natsOf cs, natsOf ss, ⟨by rw [← e1, ← e2], by simpa [natsOf] using h1.1, b1, h1.2.2, ?_, b2, ?_⟩⟩
        · have := h2.1
          rw [e1, ints_sum] at this
          have : (ss.length : Int) = ((natsOf cs).sum : Nat) := this
          have hl : (natsOf ss).length = ss.length := by simp [natsOf]
          omega
        · have := h2.2.2
          rw [e2] at this
          exact ints_nodup.mp this
      · rw [if_neg h2] at h
        exact absurd h (by decide +kernel)
    · rw [if_neg h1] at h
      exact absurd h (by decide +kernel)
  · exact absurd h (by decide +kernel)
theorem tab_sum {v : D} {cs ss : List Nat} (t : IsTab v cs ss) : cs.sum ≤ 4080 := by
  have key : ∀ l : List Nat, (∀ c ∈ l, c ≤ 255) → l.sum ≤ 255 * l.length := by
    intro l
    induction l with
    | nil => intro _; simp
    | cons a l ih =>
      intro hl
      have := hl a (by simp)
      have := ih fun c hc => hl c (by simp [hc])
      simp; omega
  have := key cs t.cb
  rw [t.l16] at this; omega
theorem okE_nats {h : MH} (ns : List Nat) : (ns.map nD).all (okE h) = true := by
  rw [List.all_eq_true]
  intro d hd
  obtain ⟨n, _, rfl⟩ := List.mem_map.mp hd
  rfl
theorem isTab_ok {v : D} {cs ss : List Nat} {h : MH} (t : IsTab v cs ss) : okTab h v = true := by
  have sm := tab_sum t
  have l1 := t.l16
  have l2 := t.sl
  have p : ∀ ns : List Nat, ns.length ≤ 1000000 → okPart h (.tup (ns.map nD)) = true := by
    intro ns hl
    show (okE h (.tup (ns.map nD)) && (decide ((ns.map nD).length ≤ 1000000) && (ns.map nD).all (okE h))) = true
    rw [okE_nats]
    simp [okE, clsD, hl]
  rw [t.eq]
  unfold okTab
  simp [okE, clsD, p cs (by omega), p ss (by omega)]
def bitsAs (n len : Nat) : List Int := (List.range len).map fun i => ((n / 2 ^ (len - 1 - i) % 2 : Nat) : Int)
def bitD (n len : Nat) : D := .tup ((bitsAs n len).map .int)
def codesGo : Nat → Nat → List Nat → List Nat → List (Nat × List Int)
  | _, _, [], _ => []
  | len, n, c :: cs, ss => ((ss.take c).mapIdx fun i x => (x, bitsAs (2 * n + i) len)) ++ codesGo (len + 1) (2 * n + c) cs (ss.drop c)
def codesM (cs ss : List Nat) : List (Nat × List Int) := codesGo 1 0 cs ss
def codesD (l : List (Nat × List Int)) : List (Key × D) := l.map fun p => (.inl (p.1 : Int), .tup (p.2.map .int))
def sp_is_integer : MSp := fun ds h Q _ => match ds with
  | [d, .int lo, .int hi] => okE h d = true ∧ Q (.bl (btw d lo hi)) h
  | _ => False
@[simp] theorem s_is_integer {d : D} {lo hi : Int} {h : MH} {Q : MQ} {E : XQ} : sp_is_integer [d, .int lo, .int hi] h Q E = (okE h d = true ∧ Q (.bl (btw d lo hi)) h) := (rfl)
def sp_zigzag_places : MSp := fun ds h Q _ => ds = [] ∧ Q (.lst zzD) h
@[simp] theorem s_zigzag_places {h : MH} {Q : MQ} {E : XQ} : sp_zigzag_places [] h Q E = Q (.lst zzD) h := by simp [sp_zigzag_places]
def sp_is_row : MSp := fun ds h Q _ => match ds with
  | [d] => okRow h d = true ∧ Q (.bl (rowF d).isSome) h
  | _ => False
@[simp] theorem s_is_row {d : D} {h : MH} {Q : MQ} {E : XQ} : sp_is_row [d] h Q E = (okRow h d = true ∧ Q (.bl (rowF d).isSome) h) := (rfl)
def rowBad (d : D) (lo hi : Int) : Option Int := match rowF d with
  | none => some (-1)
  | some xs => (xs.findIdx? fun d => !btw d lo hi).map fun i => ((i : Nat) : Int)
def sp_check_bytes : MSp := fun ds h Q E => match ds with
  | [d] => okRow h d = true ∧ match rowBad d 0 255 with
    | some i => E "NoBytes" [("index", .int i)] h
    | none => Q .non h
  | _ => False
@[simp] theorem s_check_bytes {d : D} {h : MH} {Q : MQ} {E : XQ} : sp_check_bytes [d] h Q E = (okRow h d = true ∧ match rowBad d 0 255 with
    | some i => E "NoBytes" [("index", .int i)] h
    | none => Q .non h) := (rfl)
def sp_room_taken : MSp := fun ds h Q _ => ∃ cs : List Nat, ds = [.tup (cs.map nD)] ∧ cs.length ≤ 16 ∧ (∀ c ∈ cs, c ≤ 255) ∧ Q (nD (roomT cs)) h
def sp_are_counts : MSp := fun ds h Q _ => match ds with
  | [.tup cs] => okPart h (.tup cs) = true ∧ Q (.bl (countsOk cs)) h
  | _ => False
@[simp] theorem s_are_counts {cs : List D} {h : MH} {Q : MQ} {E : XQ} : sp_are_counts [.tup cs] h Q E = (okPart h (.tup cs) = true ∧ Q (.bl (countsOk cs)) h) := (rfl)
def sp_are_symbols : MSp := fun ds h Q _ => match ds with
  | [.tup ss, .int m] => okPart h (.tup ss) = true ∧ m ≤ 4080 ∧ Q (.bl (symsOk ss m)) h
  | _ => False
@[simp] theorem s_are_symbols {ss : List D} {m : Int} {h : MH} {Q : MQ} {E : XQ} : sp_are_symbols [.tup ss, .int m] h Q E = (okPart h (.tup ss) = true ∧ m ≤ 4080 ∧ Q (.bl (symsOk ss m)) h) := (rfl)
def sp_table_fault : MSp := fun ds h Q _ => match ds with
  | [v] => okTab h v = true ∧ Q (.str (tabFault v)) h
  | _ => False
@[simp] theorem s_table_fault {v : D} {h : MH} {Q : MQ} {E : XQ} : sp_table_fault [v] h Q E = (okTab h v = true ∧ Q (.str (tabFault v)) h) := (rfl)
def sp_is_table : MSp := fun ds h Q _ => match ds with
  | [v] => okTab h v = true ∧ Q (.bl (tabFault v == "")) h
  | _ => False
@[simp] theorem s_is_table {v : D} {h : MH} {Q : MQ} {E : XQ} : sp_is_table [v] h Q E = (okTab h v = true ∧ Q (.bl (tabFault v == "")) h) := (rfl)
def sp_check_table : MSp := fun ds h Q E => match ds with
  | [v] => okTab h v = true ∧ if tabFault v = "" then Q .non h else E "NoTable" [("part", .str (tabFault v))] h
  | _ => False
@[simp] theorem s_check_table {v : D} {h : MH} {Q : MQ} {E : XQ} : sp_check_table [v] h Q E = (okTab h v = true ∧ if tabFault v = "" then Q .non h else E "NoTable" [("part", .str (tabFault v))] h) := (rfl)
def sp_bits_as : MSp := fun ds h Q _ => ∃ n len : Nat, ds = [.int n, .int len] ∧ len ≤ 1000 ∧ Q (bitD n len) h
def sp_codes : MSp := fun ds h Q E => ∃ v, ds = [v] ∧ okTab h v = true ∧ (tabFault v ≠ "" → E "NoTable" [("part", .str (tabFault v))] h) ∧ ∀ cs ss, IsTab v cs ss → ∀ p, h p = none → Q (.ref p) (mupd h p (.dct (codesD (codesM cs ss))))
abbrev N_is_integer : List Str := ["value", "low", "high"]
def rd_is_integer : WS :=
 (wRet (wAndV (wIsi ["int"] (wVar 0)) (wAndV (wNotV (wIsi ["bool"] (wVar 0))) (wLeLe (wVar 1) (wVar 0) (wVar 2)))))

abbrev N_are_counts : List Str := ["value", "count"]
def rd_are_counts : WS :=
 (wSeq (wIfS (wOr (wNot (wTruth (wIsi ["tuple"] (wVar 0)))) (wTest (wOp (opEq true) (wCB fLen (wCons (wVar 0) wNil)) (wC k_LONGEST)))) (wRet (wC (.bl false))) wNext)
 (wSeq (wIfS (wNot (wTruth (wCB fAll (wCons (wLc (wIt (wVar 0)) (put1 1) wYes (wCall TB.sp_is_integer xF (wCons (wVar 1) (wCons (wC (.int 0)) (wCons (wC (.int 255)) wNil)))) [1]) wNil)))) (wRet (wC (.bl false))) wNext)
 (wRet (wLt (wCall TB.sp_room_taken xF (wCons (wVar 0) wNil)) (wC k_WHOLE)))))

abbrev N_room_taken : List Str := ["counts", "length", "count"]
def rd_room_taken : WS :=
 (wRet (wCB fSum (wCons (wLc (wEnum 1 (wVar 0)) (putT [1, 2]) wYes (wShl (wVar 2) (wOp opSub (wC k_LONGEST) (wVar 1))) [1, 2]) wNil)))

abbrev N_are_symbols : List Str := ["value", "many", "symbol"]
def rd_are_symbols : WS :=
 (wSeq (wIfS (wOr (wTest (wOp (opEq true) (wCB fLen (wCons (wVar 0) wNil)) (wVar 1))) (wNot (wTruth (wCB fAll (wCons (wLc (wIt (wVar 0)) (put1 2) wYes (wCall TB.sp_is_integer xF (wCons (wVar 2) (wCons (wC (.int 0)) (wCons (wC (.int 255)) wNil)))) [2]) wNil))))) (wRet (wC (.bl false))) wNext)
 (wRet (wOp (opEq false) (wUn fLenSet (wVar 0)) (wVar 1))))

abbrev N_table_fault : List Str := ["value", "part"]
def rd_table_fault : WS :=
 (wSeq (wIfS (wOr (wNot (wTruth (wIsi ["tuple"] (wVar 0)))) (wOr (wTest (wOp (opEq true) (wCB fLen (wCons (wVar 0) wNil)) (wC (.int 2)))) (wNot (wTruth (wCB fAll (wCons (wLc (wIt (wVar 0)) (put1 1) wYes (wIsi ["tuple"] (wVar 1)) [1]) wNil)))))) (wRet (wC (.str "table"))) wNext)
 (wSeq (wIfS (wNot (wTruth (wCall TB.sp_are_counts xF (wCons (wOp opIx (wVar 0) (wC (.int 0))) wNil)))) (wRet (wC (.str "counts"))) wNext)
 (wRet (wIf (wTruth (wCall TB.sp_are_symbols xF (wCons (wOp opIx (wVar 0) (wC (.int 1))) (wCons (wCB fSumA (wCons (wOp opIx (wVar 0) (wC (.int 0))) wNil)) wNil)))) (wC (.str "")) (wC (.str "symbols"))))))

abbrev N_is_table : List Str := ["value"]
def rd_is_table : WS :=
 (wRet (wOp (opEq false) (wCall TB.sp_table_fault xF (wCons (wVar 0) wNil)) (wC (.str ""))))

abbrev N_check_table : List Str := ["table", "fault"]
def rd_check_table (Es : MSt → XQ) : WS :=
 (wSeq (wSet 1 (wCall TB.sp_table_fault xF (wCons (wVar 0) wNil)))
 (wIfS (wTest (wOp (opEq true) (wVar 1) (wC (.str "")))) (wRaise Es "NoTable" ["part"] (wCons (wVar 1) wNil)) wNext))

abbrev N_bits_as : List Str := ["number", "length", "at"]
def rd_bits_as : WS :=
 (wRet (wCB fTup (wCons (wLc (wRange1 (wVar 1)) (put1 2) wYes (wOp opAnd (wShr (wVar 0) (wOp opSub (wOp opSub (wVar 1) (wC (.int 1))) (wVar 2))) (wC (.int 1))) [2]) wNil)))

def lb_codes_0 : WS :=
 (wSeq (wPutDc (wVar 1) (wVar 6) (wCall TB.sp_bits_as xF (wCons (wVar 2) (wCons (wVar 4) wNil))))
 (wAug 2 (wC (.int 1)) (fun i j => i + j)))
def lb_codes_1 : WS :=
 (wSeq (wSet 2 (wShl (wVar 2) (wC (.int 1))))
 (wSeq (wFor (wIt (wSl (wOp opIx (wVar 0) (wC (.int 1))) (wPart (wVar 3)) (wPart (wOp opAdd (wVar 3) (wVar 5))))) (gN 6) lb_codes_0)
 (wAug 3 (wVar 5) (fun i j => i + j))))
abbrev N_codes : List Str := ["table", "found", "number", "at", "length", "count", "symbol"]
def rd_codes (Es : MSt → XQ) : WS :=
 (wSeq (wDrop (wCall TB.sp_check_table Es (wCons (wVar 0) wNil)))
 (wSeq (wPar3 1 2 3 (wCons wDctM (wCons (wC (.int 0)) (wCons (wC (.int 0)) wNil))))
 (wSeq (wFor (wEnum 1 (wOp opIx (wVar 0) (wC (.int 0)))) (gT 2 (gC (gN 4) (gC (gN 5) gZ))) lb_codes_1)
 (wRet (wVar 1)))))

section
variable (ds : List D) (h : MH) (Q' : MQ) (E' : XQ)
theorem pure_is_integer (s : sp_is_integer ds h Q' E') : rd_is_integer { nx := fun _ h' => Q' .non h', rt := Q' } (mstart N_is_integer ds) h := by
  unfold sp_is_integer at s
  split at s
  · rename_i d lo hi
    obtain ⟨o, q⟩ := s
    obtain ⟨c, e⟩ := cls_ok o
    simp [rd_is_integer, mstart_eq, e]
    cases d with
    | ref a =>
      simp only [clsD] at e
      split at e
      · cases e; simpa [subT, btw] using q
      · cases e; simpa [subT, btw] using q
      · cases e
    | int i =>
      simp [clsD] at e
      subst e
      simp [subT]
      simp [btw] at q
      by_cases hl : lo ≤ i <;> simp [hl] at q ⊢ <;> exact q
    | _ => simp [clsD] at e <;> subst e <;> simpa [subT, btw] using q
  · exact s.elim
theorem ints_map {α : Type} (f : α → Int) : ∀ xs : List α, intsOf (xs.map fun x => D.int (f x)) = some (xs.map f)
  | [] => rfl
  | x :: xs => by simp [intsOf, ints_map f xs]
theorem pure_room_taken (s : sp_room_taken ds h Q' E') : rd_room_taken { nx := fun _ h' => Q' .non h', rt := Q' } (mstart N_room_taken ds) h := by
  obtain ⟨cs, rfl, hl, hb, q⟩ := s
  simp [rd_room_taken, mstart_eq, List.replicate, mwipe]
  refine lc_map (fun i d => .int ((((cs.getD i 0) * 2 ^ (15 - i) : Nat)) : Int)) (by simp [enum_lenS]; omega) (fun i d K e k => ?_) ?_
  · obtain ⟨x, ex, rfl⟩ := enum_getS e
    obtain ⟨n, en, rfl⟩ := map_get ex
    have hi := (List.getElem?_eq_some_iff.mp en).1
    have hn := hb n (List.mem_of_getElem? en)
    refine ⟨_, rfl, ?_⟩
    simp [msetAll, nD]
    refine ⟨shl_ok (n := 8) (by omega) (by omega) (by omega) (by omega), ?_⟩
    have e1 : (16 - (1 + (i : Int))).toNat = 15 - i := by omega
    rw [e1]
    have : cs.getD i 0 = n := by simp [List.getD, en]
    rw [this] at k
    simpa using k
  · have e1 : (enumD 1 (cs.map nD)).mapIdx (fun i d => D.int ((((cs.getD i 0) * 2 ^ (15 - i) : Nat)) : Int)) = (cs.mapIdx fun i n => n * 2 ^ (15 - i)).map fun n : Nat => D.int (n : Int) := by
      apply List.ext_getElem
      · simp [enum_lenS]
      · intro i h1 h2
        simp at h2
        simp [List.getD, h2]
    rw [e1]
    unfold fSum
    simp only [ls_lst, Option.bind_some, ints_map]
    have : ((cs.mapIdx fun i n => n * 2 ^ (15 - i)).map fun n : Nat => (n : Int)).sum = ((roomT cs : Nat) : Int) := by
      unfold roomT
      generalize cs.mapIdx (fun i n => n * 2 ^ (15 - i)) = l
      induction l with
      | nil => rfl
      | cons a l ih => simp [ih]
    rw [this]
    exact q
theorem okPart_tup {h : MH} {xs : List D} (o : okPart h (.tup xs) = true) : xs.length ≤ 1000000 ∧ ∀ x ∈ xs, okE h x = true := by
  unfold okPart at o
  simpa [okE, clsD] using o
theorem pure_are_counts (s : sp_are_counts ds h Q' E') : rd_are_counts { nx := fun _ h' => Q' .non h', rt := Q' } (mstart N_are_counts ds) h := by
  unfold sp_are_counts at s
  split at s
  · rename_i cs
    obtain ⟨o, q⟩ := s
    obtain ⟨ol, oe⟩ := okPart_tup o
    unfold countsOk at q
    simp [rd_are_counts, mstart_eq, clsD, subT]
    by_cases hl : cs.length = 16
    · have hl' : (cs.length : Int) = 16 := by omega
      simp only [hl, decide_true, Bool.true_and] at q
      simp [hl', mwipe]
      refine all_list (fun x => btw x 0 255) cs (by omega) (fun x hx K k => ⟨_, rfl, ?_⟩) ?_
      · simp
        exact ⟨oe x hx, k⟩
      · by_cases ha : cs.all (fun d => btw d 0 255) = true
        · rw [ha] at q ⊢
          obtain ⟨e1, b1⟩ := btw_nat ha
          simp at q ⊢
          refine ⟨natsOf cs, by rw [← e1], by simp [natsOf]; omega, b1, ?_⟩
          simp [nD]
          have : (((roomT (natsOf cs) : Nat) : Int) < 65536) ↔ roomT (natsOf cs) < 65536 := by omega
          simpa [this] using q
        · have ha : cs.all (fun d => btw d 0 255) = false := by simpa using ha
          rw [ha] at q ⊢
          simpa using q
    · have hl' : ¬ (cs.length : Int) = 16 := by omega
      simp [hl] at q
      simp [hl']
      exact q
  · exact s.elim
theorem pure_are_symbols (s : sp_are_symbols ds h Q' E') : rd_are_symbols { nx := fun _ h' => Q' .non h', rt := Q' } (mstart N_are_symbols ds) h := by
  unfold sp_are_symbols at s
  split at s
  · rename_i ss m
    obtain ⟨o, hm, q⟩ := s
    obtain ⟨ol, oe⟩ := okPart_tup o
    unfold symsOk at q
    simp [rd_are_symbols, mstart_eq]
    by_cases hl : (ss.length : Int) = m
    · simp only [hl, decide_true, Bool.true_and] at q
      simp [hl, mwipe]
      refine all_list (fun x => btw x 0 255) ss (by omega) (fun x hx K k => ⟨_, rfl, ?_⟩) ?_
      · simp
        exact ⟨oe x hx, k⟩
      · by_cases ha : ss.all (fun d => btw d 0 255) = true
        · rw [ha] at q ⊢
          obtain ⟨e1, b1⟩ := btw_nat ha
          simp only [Bool.true_and] at q
          have e2 : ss = (ss.map dInt).map D.int := by
            rw [List.map_map]
            conv => lhs; rw [← List.map_id ss]
            apply List.map_congr_left
            intro x hx
            obtain ⟨i, rfl, _, _⟩ := btw_int (List.all_eq_true.mp ha x hx)
            rfl
          have hlen : (ss.map dInt).length = ss.length := by simp
          generalize ss.map dInt = ns at e2 q hlen
          subst e2
          simp
          refine ⟨by omega, fun c hc he => ?_⟩
          have : ((c : Int) == m) = decide ns.Nodup := by
            rw [Bool.eq_iff_iff]
            simp only [beq_iff_eq, decide_eq_true_eq]
            rw [← he]
            omega
          rw [this]
          exact q
        · have ha : ss.all (fun d => btw d 0 255) = false := by simpa using ha
          rw [ha] at q ⊢
          simpa using q
    · simp [hl] at q
      simp [hl]
      exact q
  · exact s.elim

theorem okTab_tup {h : MH} {xs : List D} (o : okTab h (.tup xs) = true) : xs.length ≤ 1000000 ∧ ∀ x ∈ xs, okPart h x = true := by
  unfold okTab at o
  simpa [okE, clsD] using o
theorem okTab_e {h : MH} {v : D} (o : okTab h v = true) : okE h v = true := by
  unfold okTab at o
  simp only [Bool.and_eq_true] at o
  exact o.1
theorem okPart_e {h : MH} {v : D} (o : okPart h v = true) : okE h v = true := by
  unfold okPart at o
  simp only [Bool.and_eq_true] at o
  exact o.1
def isTup : D → Bool
  | .tup _ => true
  | _ => false
theorem isi_tup {h : MH} {d : D} {Q : MQ} (o : okE h d = true) : fIsi ["tuple"] d h Q = Q (.bl (isTup d)) h := by
  obtain ⟨c, e⟩ := cls_ok o
  rw [o_isi, e]
  cases d with
  | ref a =>
    simp only [clsD] at e
    split at e
    · cases e; simp [subT, isTup]
    · cases e; simp [subT, isTup]
    · cases e
  | _ => simp [clsD] at e <;> subst e <;> simp [subT, isTup]
theorem fault_not {v : D} (h : isTup v = false) : tabFault v = "table" := by
  cases v <;> first | rfl | (simp [isTup] at h)
theorem pure_table_fault (s : sp_table_fault ds h Q' E') : rd_table_fault { nx := fun _ h' => Q' .non h', rt := Q' } (mstart N_table_fault ds) h := by
  unfold sp_table_fault at s
  split at s
  · rename_i v
    obtain ⟨o, q⟩ := s
    simp [rd_table_fault, mstart_eq, -o_isi, isi_tup (okTab_e o)]
    by_cases ht : isTup v = true
    · cases v with
      | tup xs =>
        obtain ⟨ol, oe⟩ := okTab_tup o
        simp [isTup, -o_isi]
        by_cases hl : xs.length = 2
        · have hl' : (xs.length : Int) = 2 := by omega
          simp [hl', mwipe, -o_isi]
          refine all_list isTup xs (by omega) (fun x hx K k => ⟨_, rfl, ?_⟩) ?_
          · simp [-o_isi, isi_tup (okPart_e (oe x hx))]
            exact k
          · match xs, hl with
            | [a, b], _ =>
              by_cases hab : isTup a = true ∧ isTup b = true
              · obtain ⟨ha, hb⟩ := hab
                cases a with
                | tup cs =>
                  cases b with
                  | tup ss =>
                    have oc := oe (.tup cs) (by simp)
                    have os := oe (.tup ss) (by simp)
                    simp only [tabFault] at q
                    simp [isTup, atI, ixN]
                    refine ⟨oc, ?_⟩
                    by_cases hc : countsOk cs = true
                    · rw [if_pos hc] at q
                      have hc' := hc
                      unfold countsOk at hc'
                      simp only [Bool.and_eq_true, decide_eq_true_eq] at hc'
                      obtain ⟨e1, b1⟩ := btw_nat hc'.2.1
                      have ic : intsOf cs = some (cs.map dInt) := by
                        have : cs = (cs.map dInt).map D.int := by
                          rw [List.map_map]
                          conv => lhs; rw [← List.map_id cs]
                          apply List.map_congr_left
                          intro x hx
                          obtain ⟨i, rfl, _, _⟩ := btw_int (List.all_eq_true.mp hc'.2.1 x hx)
                          rfl
                        conv => lhs; rw [this]
                        exact intsOf_ints _
                      have sm : (cs.map dInt).sum ≤ 4080 := by
                        have key : ∀ l : List Nat, (∀ c ∈ l, c ≤ 255) → l.sum ≤ 255 * l.length := by
                          intro l
                          induction l with
                          | nil => intro _; simp
                          | cons a l ih =>
                            intro hl
                            have := hl a (by simp)
                            have := ih fun c hc => hl c (by simp [hc])
                            simp; omega
                        have k1 := key _ b1
                        have k2 : (natsOf cs).length = 16 := by simpa [natsOf] using hc'.1
                        rw [e1, ints_sum]
                        omega
                      simp [hc, ic]
                      refine ⟨os, sm, ?_⟩
                      by_cases hs : symsOk ss (cs.map dInt).sum = true
                      · simp [hs] at q ⊢
                        exact q
                      · simp [hs] at q ⊢
                        exact q
                    · rw [if_neg hc] at q
                      simp [hc]
                      exact q
                  | _ => simp [isTup] at hb
                | _ => simp [isTup] at ha
              · have e1 : tabFault (.tup [a, b]) = "table" := by
                  cases a <;> cases b <;> first | rfl | (exact absurd ⟨rfl, rfl⟩ hab)
                rw [e1] at q
                have e2 : (isTup a && isTup b) = false := by
                  cases h1 : isTup a <;> cases h2 : isTup b <;> simp [h1, h2] at hab ⊢
                simp [e2]
                exact q
        · have hl' : ¬ (xs.length : Int) = 2 := by omega
          have e1 : tabFault (.tup xs) = "table" := by
            unfold tabFault
            split
            · rename_i e; cases e; simp at hl
            · rfl
          rw [e1] at q
          simp [hl']
          exact q
      | _ => simp [isTup] at ht
    · have ht : isTup v = false := by simpa using ht
      rw [fault_not ht] at q
      simp [ht]
      exact q
  · exact s.elim
theorem fault_ok {v : D} : PyData.strOk (tabFault v) = true := by
  unfold tabFault
  split
  · split
    · split <;> decide +kernel
    · decide +kernel
  · decide +kernel
theorem eqS_run {n : Bool} {x y : Str} {h : MH} {Q : MQ} {b : Bool} (h1 : PyData.strOk x = true) (h2 : PyData.strOk y = true) (e : (x == y) = b) (q : Q (.bl (if n then !b else b)) h) : opEq n (.str x) (.str y) h Q := by
  have o : opEq n (.str x) (.str y) h Q = ((fit 64 (.str x) = true ∧ fit 64 (.str y) = true) ∧ Q (.bl (if n then !eqv (.str x) (.str y) else eqv (.str x) (.str y))) h) := (rfl)
  rw [o]
  refine ⟨⟨h1, h2⟩, ?_⟩
  simp only [eqv, e]
  exact q
theorem pure_is_table (s : sp_is_table ds h Q' E') : rd_is_table { nx := fun _ h' => Q' .non h', rt := Q' } (mstart N_is_table ds) h := by
  unfold sp_is_table at s
  split at s
  · rename_i v
    obtain ⟨o, q⟩ := s
    simp [rd_is_table, mstart_eq]
    exact ⟨o, eqS_run fault_ok (by decide +kernel) rfl q⟩
  · exact s.elim
theorem pure_check_table (s : sp_check_table ds h Q' E') : rd_check_table (fun _ => E') { nx := fun _ h' => Q' .non h', rt := Q' } (mstart N_check_table ds) h := by
  unfold sp_check_table at s
  split at s
  · rename_i v
    obtain ⟨o, q⟩ := s
    simp [rd_check_table, mstart_eq, List.replicate]
    refine ⟨o, ?_⟩
    by_cases hf : tabFault v = ""
    · rw [if_pos hf] at q
      refine eqS_run fault_ok (by decide +kernel) (b := true) (by simp [hf]) ?_
      simp
      exact q
    · rw [if_neg hf] at q
      refine eqS_run fault_ok (by decide +kernel) (b := false) (by simp [hf]) ?_
      simp
      exact q
  · exact s.elim
theorem bit1 {n : Nat} : Builtin.bitAnd (n : Int) 1 = ((n % 2 : Nat) : Int) := bit_and1
theorem pure_bits_as (s : sp_bits_as ds h Q' E') : rd_bits_as { nx := fun _ h' => Q' .non h', rt := Q' } (mstart N_bits_as ds) h := by
  obtain ⟨n, len, rfl, hl, q⟩ := s
  simp [rd_bits_as, mstart_eq, List.replicate, mwipe]
  refine ⟨by omega, ?_⟩
  refine lc_rangeD len (fun i => .int ((n / 2 ^ (len - 1 - i) % 2 : Nat) : Int)) (by omega) (fun i hi K k => ⟨_, rfl, ?_⟩) ?_
  · simp
    refine ⟨by omega, ?_⟩
    have e2 : (n : Int) / 2 ^ (len - 1 - i) = ((n / 2 ^ (len - 1 - i) : Nat) : Int) := by simp
    rw [e2, bit1]
    exact k
  · simp
    unfold bitD bitsAs at q
    rw [List.map_map] at q
    exact q

theorem codes_keys {l : List (Nat × List Int)} {x : Nat} (h : x ∉ l.map (·.1)) : atD (codesD l) (.inl (x : Int)) = none := by
  unfold atD codesD
  simp only [Option.map_eq_none_iff, List.find?_eq_none]
  intro kv hkv
  obtain ⟨p, hp, rfl⟩ := List.mem_map.mp hkv
  simp only [decide_eq_true_eq]
  intro z
  have z : (p.1 : Int) = x := by simpa using z
  exact h (List.mem_map.mpr ⟨p, hp, by omega⟩)
theorem codesD_snoc {l : List (Nat × List Int)} {x : Nat} {b : List Int} (h : x ∉ l.map (·.1)) : putD (codesD l) (.inl (x : Int)) (.tup (b.map .int)) = codesD (l ++ [(x, b)]) := by
  rw [putD_new (codes_keys h)]
  simp [codesD]
theorem nodup_take {ss : List Nat} (nd : ss.Nodup) {i : Nat} {x : Nat} (e : ss[i]? = some x) : x ∉ ss.take i := by
  intro hm
  obtain ⟨j, hj⟩ := List.mem_iff_getElem?.mp hm
  rw [List.getElem?_take] at hj
  by_cases hji : j < i
  · rw [if_pos hji] at hj
    obtain ⟨h1, h2⟩ := List.getElem?_eq_some_iff.mp hj
    obtain ⟨h3, h4⟩ := List.getElem?_eq_some_iff.mp e
    exact List.pairwise_iff_getElem.mp nd j i h1 h3 hji (by rw [h2, h4])
  · rw [if_neg hji] at hj; cases hj
theorem cut_nat {α : Type} {xs : List α} {a c : Nat} (h : a + c ≤ xs.length) : cut xs (some (a : Int)) (some ((a : Int) + (c : Int))) = (xs.drop a).take c := by
  have : (a : Int) + (c : Int) = ((a + c : Nat) : Int) := by omega
  rw [this, cut_mid (by omega) h]
  congr 1; omega
theorem sum_take_le (l : List Nat) (i : Nat) : (l.take i).sum ≤ l.sum := by
  have : l.sum = (l.take i).sum + (l.drop i).sum := by rw [← List.sum_append, List.take_append_drop]
  omega
theorem mapIdx_fst {α β : Type} (l : List α) (f : Nat → α → β) : (l.mapIdx fun k x => (x, f k x)).map (·.1) = l := by
  apply List.ext_getElem
  · simp
  · intro i h1 h2; simp
theorem pure_codes (s : sp_codes ds h Q' E') : rd_codes (fun _ => E') { nx := fun _ h' => Q' .non h', rt := Q' } (mstart N_codes ds) h := by
  obtain ⟨v, rfl, o, hE, q⟩ := s
  have szl := szL
  rw [show mstart N_codes [v] = [some v, none, none, none, none, none, none] from rfl]
  unfold rd_codes
  simp
  refine ⟨o, ?_⟩
  by_cases hf : tabFault v = ""
  · rw [if_pos hf]
    obtain ⟨cs, ss, t⟩ := fault_isTab hf
    have q := q cs ss t
    have sm := tab_sum t
    intro p hp
    rw [t.eq]
    simp [atI, ixN]
    refine wLoop_inv (fun i σ h' => ∃ (n a : Nat) (l : List (Nat × List Int)) (v4 v5 v6 : Option D), h' = mupd h p (.dct (codesD l)) ∧ σ = [some (.tup [.tup (cs.map nD), .tup (ss.map nD)]), some (.ref p), some (.int n), some (.int a), v4, v5, v6] ∧
      a = (cs.take i).sum ∧ n + 255 ≤ 255 * 2 ^ (i + 1) ∧ l.map (·.1) = ss.take a ∧ l ++ codesGo (i + 1) n (cs.drop i) (ss.drop a) = codesM cs ss) ⟨0, 0, [], none, none, none, rfl, rfl, rfl, by omega, by simp, by simp [codesM]⟩ ?_ ?_
    · rintro i d σ h' K e ⟨n, a, l, v4, v5, v6, rfl, rfl, ea, hn, hk, hl⟩ hK
      obtain ⟨x, ex, rfl⟩ := enum_getS e
      obtain ⟨c, ec, rfl⟩ := map_get ex
      have hi : i < 16 := by have := (List.getElem?_eq_some_iff.mp ec).1; rw [t.l16] at this; exact this
      have hc := t.cb c (List.mem_of_getElem? ec)
      have pw : 255 * 2 ^ (i + 1) ≤ 255 * 2 ^ 16 := Nat.mul_le_mul_left _ (Nat.pow_le_pow_right (by omega) (by omega))
      have hac : a + c = (cs.take (i + 1)).sum := by rw [take_snoc ec, List.sum_append, ea]; simp
      have hle := sum_take_le cs (i + 1)
      have hss : a + c ≤ ss.length := by rw [t.sl]; omega
      have ed : cs.drop i = c :: cs.drop (i + 1) := drop_of_get ec
      rw [ed] at hl
      simp only [codesGo] at hl
      unfold lb_codes_1
      simp [nD, atI, ixN]
      refine ⟨shl_ok (n := 30) (by omega) (by omega) (by omega) (by omega), ?_⟩
      rw [cut_nat (by simpa using hss)]
      have e2 : ((ss.map nD).drop a).take c = ((ss.drop a).take c).map nD := by rw [List.map_take, List.map_drop]
      have e2' : (List.take c (List.drop a (List.map (fun n : Nat => D.int (n : Int)) ss))) = ((ss.drop a).take c).map nD := e2
      have e3 : (n : Int) * 2 = ((2 * n : Nat) : Int) := by omega
      have e4 : (1 : Int) + (i : Int) = ((i + 1 : Nat) : Int) := by omega
      first | rw [e2] | rw [e2']
      rw [e3, e4]
      have lk : l.length = a := by have := congrArg List.length hk; simp at this; omega
      refine wLoop_inv (fun j σ h' => ∃ (v6 : Option D), h' = mupd h p (.dct (codesD (l ++ ((ss.drop a).take j).mapIdx fun k x => (x, bitsAs (2 * n + k) (i + 1))))) ∧ σ = [some (.tup [.tup (cs.map nD), .tup (ss.map nD)]), some (.ref p), some (.int ((2 * n + j : Nat) : Int)), some (.int a), some (.int ((i + 1 : Nat) : Int)), some (.int (c : Int)), v6]) ⟨v6, by simp, by simp [nD]⟩ ?_ ?_
      · rintro j d σ h' K e ⟨v6, rfl, rfl⟩ hK
        obtain ⟨x, ex, rfl⟩ := map_get e
        have hj : j < c := by
          have := (List.getElem?_eq_some_iff.mp ex).1
          simp at this; omega
        have ex2 : ss[a + j]? = some x := by
          rw [List.getElem?_take, if_pos hj, List.getElem?_drop] at ex
          exact ex
        have nk : x ∉ (l ++ ((ss.drop a).take j).mapIdx fun k x => (x, bitsAs (2 * n + k) (i + 1))).map (·.1) := by
          have : (l ++ ((ss.drop a).take j).mapIdx fun k x => (x, bitsAs (2 * n + k) (i + 1))).map (·.1) = ss.take (a + j) := by
            rw [List.map_append, hk, List.take_add]
            congr 1
            exact mapIdx_fst _ _
          rw [this]
          exact nodup_take t.nd ex2
        have lj : (((ss.drop a).take j).mapIdx fun k x => (x, bitsAs (2 * n + k) (i + 1))).length = j := by
          have := (List.getElem?_eq_some_iff.mp ex2).1
          simp; omega
        unfold lb_codes_0
        simp only [r_gN]
        simp [nD, -Int.natCast_add, -Int.natCast_mul]
        refine ⟨2 * n + j, i + 1, rfl, by omega, ?_⟩
        simp [-Int.natCast_add, -Int.natCast_mul]
        refine ⟨by simp [codesD]; omega, ?_⟩
        have cs' := codesD_snoc (b := bitsAs (2 * n + j) (i + 1)) nk
        unfold bitD
        rw [cs']
        refine hK _ _ ⟨some (.int (x : Int)), ?_, ?_⟩
        · congr 2
          rw [List.append_assoc]
          congr 2
          have ex3 : ((ss.drop a))[j]? = some x := by rw [List.getElem?_drop]; exact ex2
          rw [take_snoc ex3, List.mapIdx_concat]
          congr 3
          have : ((ss.drop a).take j).length = j := by have := (List.getElem?_eq_some_iff.mp ex2).1; simp; omega
          rw [this]
        · simp [nD]; omega
      · rintro σ h' ⟨v6, rfl, rfl⟩
        have hlen : (((ss.drop a).take c).map nD).length = c := by simp; omega
        rw [hlen]
        simp [-Int.natCast_add, -Int.natCast_mul]
        refine hK _ _ ⟨2 * n + c, a + c, l ++ ((ss.drop a).take c).mapIdx fun k x => (x, bitsAs (2 * n + k) (i + 1)), some (.int ((i + 1 : Nat) : Int)), some (.int (c : Int)), v6, rfl, by simp, hac, ?_, ?_, ?_⟩
        · have : 2 ^ (i + 1 + 1) = 2 * 2 ^ (i + 1) := by rw [Nat.pow_succ]; omega
          rw [this]; omega
        · rw [List.map_append, hk, List.take_add]
          congr 1
          exact mapIdx_fst _ _
        · rw [List.append_assoc, ← hl, List.drop_drop]
    · rintro σ h' ⟨n, a, l, v4, v5, v6, rfl, rfl, ea, hn, hk, hl⟩
      rw [enum_lenS, List.length_map] at hl ea
      rw [List.drop_length] at hl
      simp only [codesGo, List.append_nil] at hl
      subst hl
      simp
      exact q p hp
  · rw [if_neg hf]
    exact hE hf
end

end TB
namespace TY
open PySem PySem.Spec PyProof.Rows L2 BP


open TB
def Bits (bs : List Int) : Prop := ∀ b ∈ bs, b = 0 ∨ b = 1
def vN (bs : List Int) : Nat := (valI bs).toNat
theorem vN_val {bs : List Int} (h : Bits bs) : ((vN bs : Nat) : Int) = valI bs := by
  have := valI_range bs h
  unfold vN; omega
theorem vN_nil : vN [] = 0 := rfl
theorem vN_lt {bs : List Int} (h : Bits bs) : vN bs < 2 ^ bs.length := by
  have h1 := valI_range bs h
  have h2 := vN_val h
  have h3 : ((2 ^ bs.length : Nat) : Int) = 2 ^ bs.length := by simp
  omega
theorem vN_snoc {bs : List Int} {b : Int} (h : Bits bs) (hb : b = 0 ∨ b = 1) : vN (bs ++ [b]) = 2 * vN bs + b.toNat := by
  have h1 := vN_val h
  have h2 := vN_val (bs := bs ++ [b]) (fun x hx => by
    rcases List.mem_append.mp hx with z | z
    · exact h x z
    · simp at z; subst z; exact hb)
  rw [valI_snoc] at h2
  omega
theorem bitsAs_I (n k : Nat) : bitsAs n k = bitsI (n : Int) k := by
  rw [bitsI_map]
  unfold bitsAs
  apply List.map_congr_left
  intro i _
  simp
theorem bitsAs_len (n k : Nat) : (bitsAs n k).length = k := by rw [bitsAs_I, bitsI_len]
theorem bitsAs_b (n k : Nat) : Bits (bitsAs n k) := by rw [bitsAs_I]; exact bitsI_b _ _
theorem vN_bitsAs (n k : Nat) : vN (bitsAs n k) = n % 2 ^ k := by
  unfold vN
  rw [bitsAs_I, valI_bits]
  have : ((n : Int) % 2 ^ k) = ((n % 2 ^ k : Nat) : Int) := by simp
  rw [this]; rfl
theorem Bits.take {bs : List Int} (h : Bits bs) (k : Nat) : Bits (bs.take k) := fun b hb => h b (List.mem_of_mem_take hb)
theorem Bits.drop {bs : List Int} (h : Bits bs) (k : Nat) : Bits (bs.drop k) := fun b hb => h b (List.mem_of_mem_drop hb)
theorem vN_app {xs : List Int} (hx : Bits xs) : ∀ (n : Nat) (ys : List Int), ys.length = n → Bits ys → vN (xs ++ ys) = vN xs * 2 ^ n + vN ys
  | 0, ys, hl, _ => by
    have : ys = [] := List.length_eq_zero_iff.mp hl
    subst this
    simp [vN_nil]
  | n + 1, ys, hl, hy => by
    have hn : ys ≠ [] := by intro e; subst e; simp at hl
    have e := List.dropLast_concat_getLast hn
    have hd : Bits ys.dropLast := fun b hb => hy b ((List.dropLast_sublist ys).subset hb)
    have hg := hy (ys.getLast hn) (List.getLast_mem hn)
    have hx2 : Bits (xs ++ ys.dropLast) := fun b hb => by
      rcases List.mem_append.mp hb with z | z
      · exact hx b z
      · exact hd b z
    rw [← e, ← List.append_assoc, vN_snoc hx2 hg, vN_snoc hd hg, vN_app hx n ys.dropLast (by simp; omega) hd, Nat.pow_succ]
    have : vN xs * (2 ^ n * 2) = 2 * (vN xs * 2 ^ n) := by rw [← Nat.mul_assoc, Nat.mul_comm]
    omega
def lo (b : List Int) : Nat := vN b * 2 ^ (16 - b.length)
def wd (b : List Int) : Nat := 2 ^ (16 - b.length)
def Chain : Nat → Nat → List (List Int) → Prop
  | l, u, [] => l = u
  | l, u, b :: L => (b.length ≤ 16 ∧ Bits b ∧ lo b = l) ∧ Chain (l + wd b) u L
theorem Chain.app : ∀ {L M : List (List Int)} {l m u : Nat}, Chain l m L → Chain m u M → Chain l u (L ++ M)
  | [], _, _, _, _, h, k => by cases h; exact k
  | _ :: _, _, _, _, _, h, k => ⟨h.1, Chain.app h.2 k⟩
theorem Chain.all : ∀ {L : List (List Int)} {l u : Nat}, Chain l u L → l ≤ u ∧ ∀ b ∈ L, b.length ≤ 16 ∧ Bits b ∧ l ≤ lo b ∧ lo b + wd b ≤ u
  | [], _, _, h => ⟨Nat.le_of_eq h, fun b hb => by cases hb⟩
  | b :: L, l, u, h => by
    obtain ⟨i1, i2⟩ := Chain.all h.2
    obtain ⟨h1, h2, h3⟩ := h.1
    refine ⟨by omega, fun c hc => ?_⟩
    rcases List.mem_cons.mp hc with rfl | hc
    · exact ⟨h1, h2, by omega, by omega⟩
    · obtain ⟨a1, a2, a3, a4⟩ := i2 c hc
      exact ⟨a1, a2, by omega, a4⟩
theorem Chain.pw : ∀ {L : List (List Int)} {l u : Nat}, Chain l u L → L.Pairwise fun b c => lo b + wd b ≤ lo c
  | [], _, _, _ => .nil
  | b :: L, l, u, h => .cons (fun c hc => by
      have := ((Chain.all h.2).2 c hc).2.2.1
      have := h.1.2.2
      omega) (Chain.pw h.2)
theorem not_pre {b c : List Int} (hb : Bits b) (hc : Bits c) (lb : b.length ≤ 16) (lc : c.length ≤ 16) (h : lo b + wd b ≤ lo c) : c.take b.length ≠ b ∧ b.take c.length ≠ c := by
  have key : ∀ x y : List Int, Bits x → Bits y → (x ++ y).length ≤ 16 → lo x ≤ lo (x ++ y) ∧ lo (x ++ y) + wd (x ++ y) ≤ lo x + wd x := by
    intro x y hx hy hl
    have hl : x.length + y.length ≤ 16 := by simpa using hl
    have e1 := vN_app hx y.length y rfl hy
    have e2 := vN_lt hy
    have e3 : 2 ^ (16 - x.length) = 2 ^ y.length * 2 ^ (16 - (x.length + y.length)) := by rw [← Nat.pow_add]; congr 1; omega
    unfold lo wd
    rw [e1, List.length_append, e3]
    generalize 2 ^ (16 - (x.length + y.length)) = r
    generalize 2 ^ y.length = q at e2 ⊢
    generalize vN x = vx
    generalize vN y = vy at e2 ⊢
    have a1 : (vx * q + vy) * r = vx * (q * r) + vy * r := by rw [Nat.add_mul, Nat.mul_assoc]
    have a2 : vy * r + r ≤ q * r := by
      have : vy * r + r = (vy + 1) * r := by rw [Nat.add_mul, Nat.one_mul]
      rw [this]
      exact Nat.mul_le_mul_right _ e2
    omega
  constructor
  · intro e
    have hc2 : c = b ++ c.drop b.length := by conv => lhs; rw [← List.take_append_drop b.length c, e]
    have := (key b (c.drop b.length) hb (hc.drop _) (by rw [← hc2]; exact lc)).2
    rw [← hc2] at this
    have : 0 < wd c := Nat.pow_pos (by omega)
    omega
  · intro e
    have hb2 : b = c ++ b.drop c.length := by conv => lhs; rw [← List.take_append_drop c.length b, e]
    have := (key c (b.drop c.length) hc (hb.drop _) (by rw [← hb2]; exact lb)).1
    rw [← hb2] at this
    have : 0 < wd b := Nat.pow_pos (by omega)
    omega
theorem vN_cons {x : Int} {xs : List Int} (hx : x = 0 ∨ x = 1) (h : Bits xs) : vN (x :: xs) = x.toNat * 2 ^ xs.length + vN xs := by
  have := vN_app (xs := [x]) (fun b hb => by simp at hb; subst hb; exact hx) xs.length xs rfl h
  rw [List.singleton_append] at this
  rw [this]
  have : vN [x] = x.toNat := by
    have := vN_snoc (bs := []) (b := x) (fun b hb => by cases hb) hx
    simpa [vN_nil] using this
  rw [this]
theorem lex_lt : ∀ (w : Nat) (b c : List Int), Bits b → Bits c → b.length ≤ w → c.length ≤ w → vN b * 2 ^ (w - b.length) < vN c * 2 ^ (w - c.length) → c.take b.length ≠ b → lexL b c = true
  | _, [], c, _, _, _, _, _, hp => absurd (by simp) hp
  | w, x :: xs, [], _, _, _, _, h, _ => by simp [vN_nil] at h
  | 0, x :: xs, y :: ys, _, _, hl, _, _, _ => by simp at hl
  | w + 1, x :: xs, y :: ys, hb, hc, lb, lc, h, hp => by
    have hx := hb x (by simp)
    have hy := hc y (by simp)
    have hxs : Bits xs := fun b z => hb b (by simp [z])
    have hys : Bits ys := fun b z => hc b (by simp [z])
    have lx : xs.length ≤ w := by simpa using lb
    have ly : ys.length ≤ w := by simpa using lc
    rw [vN_cons hx hxs, vN_cons hy hys] at h
    simp only [List.length_cons, Nat.add_sub_add_right] at h
    have ex : (x.toNat * 2 ^ xs.length + vN xs) * 2 ^ (w - xs.length) = x.toNat * 2 ^ w + vN xs * 2 ^ (w - xs.length) := by
      rw [Nat.add_mul, Nat.mul_assoc, ← Nat.pow_add]; congr 3; omega
    have ey : (y.toNat * 2 ^ ys.length + vN ys) * 2 ^ (w - ys.length) = y.toNat * 2 ^ w + vN ys * 2 ^ (w - ys.length) := by
      rw [Nat.add_mul, Nat.mul_assoc, ← Nat.pow_add]; congr 3; omega
    rw [ex, ey] at h
    have bd : vN ys * 2 ^ (w - ys.length) < 2 ^ w := by
      have h1 := vN_lt hys
      have : 2 ^ w = 2 ^ ys.length * 2 ^ (w - ys.length) := by rw [← Nat.pow_add]; congr 1; omega
      rw [this]
      exact Nat.mul_lt_mul_of_pos_right h1 (Nat.pow_pos (by omega))
    unfold lexL
    by_cases e : x = y
    · rw [if_pos e]
      subst e
      refine lex_lt w xs ys hxs hys lx ly (by omega) fun z => hp ?_
      simp [z]
    · rw [if_neg e]
      have : x = 0 ∧ y = 1 := by
        rcases hx with rfl | rfl <;> rcases hy with rfl | rfl
        · exact absurd rfl e
        · exact ⟨rfl, rfl⟩
        · simp at h; omega
        · exact absurd rfl e
      rw [this.1, this.2]; decide
theorem lex_of {b c : List Int} (hb : Bits b) (hc : Bits c) (lb : b.length ≤ 16) (lc : c.length ≤ 16) (h : lo b + wd b ≤ lo c) : lexL b c = true := by
  have : 0 < wd b := Nat.pow_pos (by omega)
  exact lex_lt 16 b c hb hc lb lc (by unfold lo at h; omega) (not_pre hb hc lb lc h).1
theorem Chain.sorted {L : List (List Int)} {l u : Nat} (h : Chain l u L) : sortL L = L := by
  symm
  refine sortL_uniq (List.Perm.refl _) ?_
  have al := (Chain.all h).2
  have pw := Chain.pw h
  refine List.Pairwise.imp_of_mem (R := fun b c => lo b + wd b ≤ lo c) (fun {b c} hb hc hh => ?_) pw
  obtain ⟨b1, b2, _, _⟩ := al b hb
  obtain ⟨c1, c2, _, _⟩ := al c hc
  exact lexL_asym _ _ (lex_of b2 c2 b1 c1 hh)
def roomI : Nat → List Nat → Nat
  | _, [] => 0
  | i, c :: l => c * 2 ^ (15 - i) + roomI (i + 1) l
theorem roomI_mapIdx : ∀ (l : List Nat) (i : Nat), (l.mapIdx fun j c => c * 2 ^ (15 - (i + j))).sum = roomI i l
  | [], _ => rfl
  | c :: l, i => by
    rw [List.mapIdx_cons, List.sum_cons, roomI, ← roomI_mapIdx l (i + 1)]
    congr 3
    funext j c
    rw [show i + (j + 1) = i + 1 + j by omega]
theorem roomT_I (cs : List Nat) : roomT cs = roomI 0 cs := by
  rw [← roomI_mapIdx]
  unfold roomT
  congr 2
  funext j c
  rw [Nat.zero_add]
theorem chain_block (m k : Nat) (hk : k ≤ 16) : ∀ c, m + c ≤ 2 ^ k → Chain (m * 2 ^ (16 - k)) ((m + c) * 2 ^ (16 - k)) ((List.range c).map fun i => bitsAs (m + i) k)
  | 0, _ => rfl
  | c + 1, h => by
    rw [List.range_succ, List.map_append]
    refine Chain.app (chain_block m k hk c (by omega)) ⟨⟨by rw [bitsAs_len]; exact hk, bitsAs_b _ _, ?_⟩, ?_⟩
    · unfold lo
      rw [vN_bitsAs, bitsAs_len, Nat.mod_eq_of_lt (by omega)]
    · show _ + wd _ = _
      unfold wd
      rw [bitsAs_len, ← Nat.add_assoc, Nat.add_mul (m + c) 1, Nat.one_mul]
theorem block_snd (f : Nat → List Int) (l : List Nat) : (l.mapIdx fun i x => (x, f i)).map (·.2) = (List.range l.length).map f := by
  apply List.ext_getElem
  · simp
  · intro i h1 h2; simp
theorem chain_codes : ∀ (cs ss : List Nat) (l f : Nat), l + cs.length ≤ 16 → f * 2 ^ (16 - l) + roomI l cs ≤ 65536 → cs.sum ≤ ss.length →
    Chain (f * 2 ^ (16 - l)) (f * 2 ^ (16 - l) + roomI l cs) ((codesGo (l + 1) f cs ss).map (·.2))
  | [], _, _, _, _, _, _ => by simp [codesGo, Chain, roomI]
  | c :: cs, ss, l, f, hl, hr, hs => by
    have hl : l + (cs.length + 1) ≤ 16 := by simpa using hl
    have hs : c + cs.sum ≤ ss.length := by simpa using hs
    simp only [roomI] at hr ⊢
    have e1 : 2 ^ (16 - l) = 2 * 2 ^ (15 - l) := by rw [show 16 - l = 15 - l + 1 by omega, Nat.pow_succ, Nat.mul_comm]
    have e2 : 2 ^ 16 = 2 ^ (l + 1) * 2 ^ (15 - l) := by rw [← Nat.pow_add]; congr 1; omega
    have e3 : f * 2 ^ (16 - l) = 2 * f * 2 ^ (15 - l) := by rw [e1, ← Nat.mul_assoc, Nat.mul_comm f 2]
    have e4 : (2 * f + c) * 2 ^ (15 - l) = f * 2 ^ (16 - l) + c * 2 ^ (15 - l) := by rw [Nat.add_mul, e3]
    have hp : 0 < 2 ^ (15 - l) := Nat.pow_pos (by omega)
    have hb : 2 * f + c ≤ 2 ^ (l + 1) := by
      refine Nat.le_of_mul_le_mul_right ?_ hp
      rw [e4, ← e2]; omega
    simp only [codesGo, List.map_append]
    rw [block_snd]
    have ln : (ss.take c).length = c := by simp; omega
    rw [ln]
    have h1 := chain_block (2 * f) (l + 1) (by omega) c hb
    rw [show 16 - (l + 1) = 15 - l by omega, ← e3, e4] at h1
    have h2 := chain_codes cs (ss.drop c) (l + 1) (2 * f + c) (by omega) (by rw [show 16 - (l + 1) = 15 - l by omega, e4]; omega) (by simp; omega)
    rw [show 16 - (l + 1) = 15 - l by omega, e4] at h2
    rw [← Nat.add_assoc]
    exact Chain.app h1 h2
theorem chain_tab {v : D} {cs ss : List Nat} (t : IsTab v cs ss) : Chain 0 (roomT cs) ((codesM cs ss).map (·.2)) := by
  have h := chain_codes cs ss 0 0 (by rw [t.l16]; omega) (by rw [← roomT_I]; have := t.room; omega) (by rw [t.sl]; omega)
  rw [← roomT_I] at h
  simpa [codesM] using h
theorem mapIdx_one {α β : Type} (f : Nat → α → β) (l : List α) : (l.mapIdx fun i x => (x, f i x)).map (·.1) = l := by
  apply List.ext_getElem
  · simp
  · intro i h1 h2; simp
theorem codesGo_fst : ∀ (cs ss : List Nat) (k f : Nat), cs.sum ≤ ss.length → (codesGo k f cs ss).map (·.1) = ss.take cs.sum
  | [], _, _, _, _ => by simp [codesGo]
  | c :: cs, ss, k, f, h => by
    have h : c + cs.sum ≤ ss.length := by simpa using h
    simp only [codesGo, List.map_append, List.sum_cons]
    rw [codesGo_fst cs (ss.drop c) _ _ (by simp; omega), mapIdx_one (fun i _ => bitsAs (2 * f + i) k), List.take_add]
theorem codes_fst {v : D} {cs ss : List Nat} (t : IsTab v cs ss) : (codesM cs ss).map (·.1) = ss := by
  have := codesGo_fst cs ss 1 0 (by rw [t.sl]; omega)
  rw [← t.sl, List.take_length] at this
  exact this
section
variable (ds : List D) (h : MH) (Q' : MQ) (E' : XQ)
open TB
theorem tab_uniq {v : D} {cs ss cs' ss' : List Nat} (t : IsTab v cs ss) (t' : IsTab v cs' ss') : cs' = cs ∧ ss' = ss := by
  have := t'.eq.symm.trans t.eq
  simp only [D.tup.injEq, List.cons.injEq, and_true] at this
  have h1 := congrArg natsOf this.1
  have h2 := congrArg natsOf this.2
  rw [nats_map, nats_map] at h1 h2
  exact ⟨h1, h2⟩
theorem Bits.app {xs ys : List Int} (hx : Bits xs) (hy : Bits ys) : Bits (xs ++ ys) := fun b hb => by
  rcases List.mem_append.mp hb with z | z
  · exact hx b z
  · exact hy b z
end

end TY
namespace SB
open PySem PySem.Spec PyProof.Rows L2 BP


structure By (d : D) (bs : List Nat) : Prop where
  row : rowF d = some (bs.map TB.nD)
  b : ∀ x ∈ bs, x ≤ 255
  len : bs.length ≤ 1000000

open TB
def sp_is_byte : MSp := fun ds h Q _ => match ds with
  | [d] => okE h d = true ∧ Q (.bl (btw d 0 255)) h
  | _ => False
@[simp] theorem s_is_byte {d : D} {h : MH} {Q : MQ} {E : XQ} : sp_is_byte [d] h Q E = (okE h d = true ∧ Q (.bl (btw d 0 255)) h) := (rfl)
abbrev sp_is_row : MSp := TB.sp_is_row

section
variable (ds : List D) (h : MH) (Q' : MQ) (E' : XQ)
open TB
theorem By.get {d : D} {bs : List Nat} (y : By d bs) {h : MH} : sqOf h d = some (bs.map nD) := sq_row h y.row
end

end SB
namespace LM
open PySem PySem.Spec PyProof.Rows L2 BP
abbrev k_LONGEST : D := .int 16
abbrev k_MOST_WEIGHT : D := .int 1000000000000000000

open TB
theorem srt_perm (l : List Int) : (sortI l).Perm l := List.mergeSort_perm _ _
theorem srt_sorted (l : List Int) : (sortI l).Pairwise (· ≤ ·) := by
  have h := List.pairwise_mergeSort (le := leI) (fun a b c h1 h2 => by simp [leI] at *; omega) (fun a b => by simp [leI]; omega) l
  exact h.imp fun h => by simpa [leI] using h
theorem srt_len (l : List Int) : (sortI l).length = l.length := (srt_perm l).length_eq
theorem srt_of {ys l : List Int} (p : ys.Perm l) (s : ys.Pairwise (· ≤ ·)) : sortI l = ys := (sortI_uniq p s).symm
theorem srt_congr {a b : List Int} (p : a.Perm b) : sortI a = sortI b := srt_of ((srt_perm b).trans p.symm) (srt_sorted b)
theorem srt_self {a : List Int} (h : a.Pairwise (· ≤ ·)) : sortI a = a := srt_of (List.Perm.refl _) h
theorem srt_cons {a : Int} {l : List Int} (h : ∀ x ∈ l, a ≤ x) : sortI (a :: l) = a :: sortI l := srt_of ((srt_perm l).cons a) (List.pairwise_cons.mpr ⟨fun x hx => h x ((srt_perm l).mem_iff.mp hx), srt_sorted l⟩)
def pairsL : List Int → List Int
  | a :: b :: r => (a + b) :: pairsL r
  | _ => []
theorem pairs_len : ∀ r : List Int, (pairsL r).length = r.length / 2
  | [] => rfl
  | [_] => by simp [pairsL]
  | a :: b :: r => by
    have := pairs_len r
    simp only [pairsL, List.length_cons, this]
    omega
theorem pairs_take : ∀ (k : Nat) (r : List Int), 2 * k ≤ r.length → ((pairsL r).take k).sum = (r.take (2 * k)).sum
  | 0, _, _ => by simp
  | k + 1, [], h => by simp at h
  | k + 1, [_], h => by simp at h; omega
  | k + 1, a :: b :: r, h => by
    have := pairs_take k r (by simp at h; omega)
    rw [show 2 * (k + 1) = 2 * k + 1 + 1 by omega]
    simp only [pairsL, List.take_succ_cons, List.sum_cons, this]
    omega
theorem pairs_ge : ∀ (r : List Int) (m : Int), (∀ x ∈ r, m ≤ x) → 0 ≤ m → ∀ x ∈ pairsL r, m ≤ x
  | [], _, _, _, x, h => by simp [pairsL] at h
  | [_], _, _, _, x, h => by simp [pairsL] at h
  | a :: b :: r, m, hm, h0, x, h => by
    rcases List.mem_cons.mp h with rfl | h
    · have := hm a (by simp)
      have := hm b (by simp)
      omega
    · exact pairs_ge r m (fun y hy => hm y (by simp [hy])) h0 x h
theorem pairs_sorted : ∀ r : List Int, r.Pairwise (· ≤ ·) → (pairsL r).Pairwise (· ≤ ·)
  | [], _ => .nil
  | [_], _ => .nil
  | a :: b :: r, h => by
    have h1 := List.pairwise_cons.mp h
    have h2 := List.pairwise_cons.mp h1.2
    refine List.pairwise_cons.mpr ⟨fun x hx => ?_, pairs_sorted r h2.2⟩
    have key : ∀ (r : List Int), (∀ y ∈ r, b ≤ y) → ∀ x ∈ pairsL r, b + b ≤ x := by
      intro r
      induction r using pairsL.induct with
      | case1 c d r ih =>
        intro hb x hx
        rcases List.mem_cons.mp hx with rfl | hx
        · have := hb c (by simp)
          have := hb d (by simp)
          omega
        · exact ih (fun y hy => hb y (by simp [hy])) x hx
      | case2 r hr =>
        intro _ x hx
        cases r with
        | nil => simp [pairsL] at hx
        | cons c r => cases r with
          | nil => simp [pairsL] at hx
          | cons d r => exact absurd rfl (hr c d r)
    have := key r (fun y hy => h2.1 y hy) x hx
    have := h1.1 b (by simp)
    omega
def rowN (cs : List Int) : Nat → List Int
  | 0 => cs
  | k + 1 => sortI (cs ++ pairsL (rowN cs k))
def rowsL (cs : List Int) (k : Nat) : List (List Int) := (List.range k).map (rowN cs)
theorem rowN_sorted {cs : List Int} (h : cs.Pairwise (· ≤ ·)) : ∀ k, (rowN cs k).Pairwise (· ≤ ·)
  | 0 => h
  | _ + 1 => srt_sorted _
theorem rowN_len (cs : List Int) (k : Nat) : (rowN cs (k + 1)).length = cs.length + (rowN cs k).length / 2 := by rw [rowN, srt_len, List.length_append, pairs_len]
theorem rowN_room (cs : List Int) : ∀ (k y : Nat), cs.length ≤ y * 2 ^ k → 2 * cs.length ≤ (rowN cs k).length + y
  | 0, y, h => by
    rw [rowN]
    rw [Nat.pow_zero, Nat.mul_one] at h
    omega
  | k + 1, y, h => by
    have := rowN_room cs k (2 * y) (by rw [Nat.pow_succ] at h; rw [Nat.mul_comm 2 y, Nat.mul_assoc, Nat.mul_comm 2]; exact h)
    rw [rowN_len]
    omega
theorem rowN_top (cs : List Int) : ∀ k, (rowN cs k).length ≤ 2 * cs.length
  | 0 => by rw [rowN]; omega
  | k + 1 => by have := rowN_top cs k; rw [rowN_len]; omega
theorem rowN_ge {cs : List Int} (h : ∀ x ∈ cs, 0 ≤ x) : ∀ k, ∀ x ∈ rowN cs k, 0 ≤ x
  | 0 => h
  | k + 1 => fun x hx => by
    have hx := (srt_perm _).mem_iff.mp hx
    rcases List.mem_append.mp hx with hx | hx
    · exact h x hx
    · exact pairs_ge _ 0 (rowN_ge h k) (by omega) x hx
def amL : List Int → List Int → Nat → Nat
  | [], _, _ => 0
  | c :: cs, ps, m => if (ps.takeWhile fun p => decide (p < c)).length < m then 1 + amL cs (ps.dropWhile fun p => decide (p < c)) (m - (ps.takeWhile fun p => decide (p < c)).length - 1) else 0
theorem am_le : ∀ (cs ps : List Int) (m : Nat), amL cs ps m ≤ cs.length ∧ amL cs ps m ≤ m
  | [], _, _ => by simp [amL]
  | c :: cs, ps, m => by
    unfold amL
    split
    · have := am_le cs (ps.dropWhile fun p => decide (p < c)) (m - (ps.takeWhile fun p => decide (p < c)).length - 1)
      rw [List.length_cons]
      omega
    · simp
theorem srt_low (c : Int) (cs : List Int) : ∀ ps : List Int, (c :: cs).Pairwise (· ≤ ·) → ps.Pairwise (· ≤ ·) → sortI (c :: cs ++ ps) = (ps.takeWhile fun p => decide (p < c)) ++ c :: sortI (cs ++ ps.dropWhile fun p => decide (p < c))
  | [], h, _ => by
    have h1 := List.pairwise_cons.mp h
    simp only [List.append_nil, List.takeWhile_nil, List.dropWhile_nil, List.nil_append]
    rw [srt_self h, srt_self h1.2]
  | p :: ps, h, hp => by
    have h1 := List.pairwise_cons.mp h
    have h2 := List.pairwise_cons.mp hp
    by_cases hc : p < c
    · rw [List.takeWhile_cons_of_pos (by simpa using hc), List.dropWhile_cons_of_pos (by simpa using hc)]
      have ih := srt_low c cs ps h h2.2
      refine (srt_congr (b := p :: (c :: cs ++ ps)) List.perm_middle).trans ((srt_cons fun x hx => ?_).trans (by rw [ih]; rfl))
      rcases List.mem_append.mp hx with hx | hx
      · rcases List.mem_cons.mp hx with rfl | hx
        · omega
        · have := h1.1 x hx; omega
      · exact h2.1 x hx
    · rw [List.takeWhile_cons_of_neg (by simpa using hc), List.dropWhile_cons_of_neg (by simpa using hc), List.nil_append]
      refine srt_cons fun x hx => ?_
      rcases List.mem_append.mp hx with hx | hx
      · exact h1.1 x hx
      · rcases List.mem_cons.mp hx with rfl | hx
        · omega
        · have := h2.1 x hx; omega
theorem am_sum : ∀ (cs ps : List Int) (m : Nat), cs.Pairwise (· ≤ ·) → ps.Pairwise (· ≤ ·) → m ≤ cs.length + ps.length →
    ((sortI (cs ++ ps)).take m).sum = (cs.take (amL cs ps m)).sum + (ps.take (m - amL cs ps m)).sum ∧ m - amL cs ps m ≤ ps.length
  | [], ps, m, _, hp, hm => by
    rw [List.nil_append, srt_self hp]
    simp [amL] at hm ⊢
    exact hm
  | c :: cs, ps, m, hc, hp, hm => by
    have h1 := List.pairwise_cons.mp hc
    rw [srt_low c cs ps hc hp]
    obtain ⟨A, hA⟩ : ∃ A, A = ps.takeWhile fun p => decide (p < c) := ⟨_, rfl⟩
    obtain ⟨B, hB⟩ : ∃ B, B = ps.dropWhile fun p => decide (p < c) := ⟨_, rfl⟩
    have eP : ps = A ++ B := by rw [hA, hB]; exact (List.takeWhile_append_dropWhile).symm
    unfold amL
    rw [← hA, ← hB]
    have hB2 : B.Pairwise (· ≤ ·) := by rw [hB]; exact hp.sublist (List.dropWhile_sublist _)
    have lP : ps.length = A.length + B.length := by rw [eP, List.length_append]
    by_cases hl : A.length < m
    · rw [if_pos hl]
      obtain ⟨i1, i2⟩ := am_sum cs B (m - A.length - 1) h1.2 hB2 (by rw [List.length_cons] at hm; omega)
      have le := (am_le cs B (m - A.length - 1)).2
      have e1 : m = A.length + ((m - A.length - 1) + 1) := by omega
      have e2 : m - (1 + amL cs B (m - A.length - 1)) = A.length + ((m - A.length - 1) - amL cs B (m - A.length - 1)) := by omega
      refine ⟨?_, by omega⟩
      rw [e2, eP]
      conv => lhs; rw [e1]
      rw [List.take_length_add_append, List.take_length_add_append, List.take_succ_cons, Nat.add_comm 1, List.take_succ_cons, List.sum_append, List.sum_append, List.sum_cons, List.sum_cons, i1]
      omega
    · rw [if_neg hl]
      refine ⟨?_, by omega⟩
      rw [eP, List.take_append_of_le_length (by omega), Nat.sub_zero, List.take_append_of_le_length (by omega)]
      simp
def takenL (cs : List Int) : Nat → Nat → List Nat
  | 0, m => [amL cs [] m]
  | k + 1, m => amL cs (pairsL (rowN cs k)) m :: takenL cs k (2 * (m - amL cs (pairsL (rowN cs k)) m))
theorem taken_len (cs : List Int) : ∀ k m, (takenL cs k m).length = k + 1
  | 0, _ => rfl
  | k + 1, m => by rw [takenL, List.length_cons, taken_len cs k]
theorem taken_le (cs : List Int) : ∀ k m, ∀ t ∈ takenL cs k m, t ≤ cs.length
  | 0, m, t, h => by
    rw [takenL, List.mem_singleton] at h
    rw [h]; exact (am_le cs [] m).1
  | k + 1, m, t, h => by
    rw [takenL] at h
    rcases List.mem_cons.mp h with rfl | h
    · exact (am_le cs _ m).1
    · exact taken_le cs k _ t h
def vsum : List Nat → Nat
  | [] => 0
  | t :: r => t * 2 ^ r.length + vsum r
theorem taken_sum {cs : List Int} (hc : cs.Pairwise (· ≤ ·)) : ∀ k m, m ≤ (rowN cs k).length → ((rowN cs k).take m).sum = ((takenL cs k m).map fun t => (cs.take t).sum).sum ∧ vsum (takenL cs k m) = m * 2 ^ k
  | 0, m, hm => by
    have h := am_sum cs [] m hc .nil (by simpa [rowN] using hm)
    have le := (am_le cs [] m).2
    simp only [List.append_nil, List.take_nil, List.sum_nil, List.length_nil, srt_self hc] at h
    have e : amL cs [] m = m := by omega
    simp only [rowN, takenL, List.map_cons, List.map_nil, List.sum_cons, List.sum_nil, vsum, List.length_nil]
    rw [e]
    simp
  | k + 1, m, hm => by
    rw [rowN_len] at hm
    have h := am_sum cs (pairsL (rowN cs k)) m hc (pairs_sorted _ (rowN_sorted hc k)) (by rw [pairs_len]; omega)
    have le := (am_le cs (pairsL (rowN cs k)) m).2
    obtain ⟨t, ht⟩ : ∃ t, t = amL cs (pairsL (rowN cs k)) m := ⟨_, rfl⟩
    rw [← ht] at h le
    rw [pairs_len] at h
    have h2 : 2 * (m - t) ≤ (rowN cs k).length := by omega
    obtain ⟨i1, i2⟩ := taken_sum hc k (2 * (m - t)) h2
    rw [takenL, ← ht]
    simp only [List.map_cons, List.sum_cons, vsum]
    rw [taken_len, i2, ← i1, ← pairs_take _ _ h2]
    refine ⟨h.1, ?_⟩
    have e : 2 * (m - t) * 2 ^ k = (m - t) * 2 ^ (k + 1) := by rw [Nat.pow_succ, Nat.mul_comm 2, Nat.mul_assoc, Nat.mul_comm 2]
    rw [e, ← Nat.add_mul]
    congr 1
    omega
def lenJ (T : List Nat) (j : Nat) : Nat := T.countP fun t => decide (j < t)
theorem lenJ_cons (t : Nat) (T : List Nat) (j : Nat) : lenJ (t :: T) j = lenJ T j + if j < t then 1 else 0 := by
  unfold lenJ
  rw [List.countP_cons]
  simp
theorem lenJ_le (T : List Nat) (j : Nat) : lenJ T j ≤ T.length := List.countP_le_length
theorem lenJ_mono (T : List Nat) {i j : Nat} (h : i ≤ j) : lenJ T j ≤ lenJ T i := by
  unfold lenJ
  exact List.countP_mono_left fun t _ ht => by simp at ht ⊢; omega
def mulJ (T : List Nat) : Nat → List Int → Int
  | _, [] => 0
  | j, c :: cs => c * (lenJ T j : Int) + mulJ T (j + 1) cs
theorem mulJ_nil : ∀ (cs : List Int) (j : Nat), mulJ [] j cs = 0
  | [], _ => rfl
  | c :: cs, j => by rw [mulJ, mulJ_nil cs]; simp [lenJ]
theorem mulJ_cons (t : Nat) (T : List Nat) : ∀ (cs : List Int) (j : Nat), mulJ (t :: T) j cs = mulJ T j cs + (cs.take (t - j)).sum
  | [], j => by simp [mulJ]
  | c :: cs, j => by
    rw [mulJ, mulJ, mulJ_cons t T cs, lenJ_cons]
    by_cases h : j < t
    · rw [if_pos h]
      have e : t - j = (t - (j + 1)) + 1 := by omega
      rw [e, List.take_succ_cons, List.sum_cons]
      have : c * ((lenJ T j + 1 : Nat) : Int) = c * (lenJ T j : Int) + c := by rw [Int.natCast_add, Int.mul_add]; simp
      rw [this]
      omega
    · rw [if_neg h]
      have e1 : t - j = 0 := by omega
      have e2 : t - (j + 1) = 0 := by omega
      rw [e1, e2]
      simp
theorem mulJ_sum : ∀ (T : List Nat) (cs : List Int), (T.map fun t => (cs.take t).sum).sum = mulJ T 0 cs
  | [], cs => by rw [mulJ_nil]; rfl
  | t :: T, cs => by
    rw [mulJ_cons, List.map_cons, List.sum_cons, mulJ_sum T cs]
    simp
    omega
def ind (T : List Nat) (j : Nat) : Nat := vsum (T.map fun t => if j < t then 1 else 0)
theorem ind_len (T : List Nat) (j : Nat) : ind T j + 2 ^ (T.length - lenJ T j) ≤ 2 ^ T.length := by
  induction T with
  | nil => simp [ind, vsum, lenJ]
  | cons t T ih =>
    have l := lenJ_le T j
    have e : ind (t :: T) j = (if j < t then 1 else 0) * 2 ^ T.length + ind T j := by unfold ind; rw [List.map_cons, vsum, List.length_map]
    rw [e, lenJ_cons, List.length_cons]
    have p : 2 ^ (T.length + 1) = 2 ^ T.length + 2 ^ T.length := by rw [Nat.pow_succ]; omega
    by_cases h : j < t
    · rw [if_pos h, show T.length + 1 - (lenJ T j + 1) = T.length - lenJ T j by omega]
      omega
    · rw [if_neg h, show T.length + 1 - (lenJ T j + 0) = (T.length - lenJ T j) + 1 by omega]
      have p2 : 2 ^ (T.length - lenJ T j + 1) = 2 ^ (T.length - lenJ T j) + 2 ^ (T.length - lenJ T j) := by rw [Nat.pow_succ]; omega
      omega
def sumJ (f : Nat → Nat) : Nat → Nat
  | 0 => 0
  | n + 1 => sumJ f n + f n
theorem sumJ_add (f g : Nat → Nat) : ∀ n, sumJ (fun j => f j + g j) n = sumJ f n + sumJ g n
  | 0 => rfl
  | n + 1 => by rw [sumJ, sumJ, sumJ, sumJ_add f g n]; omega
theorem sumJ_le {f g : Nat → Nat} (h : ∀ j, f j ≤ g j) : ∀ n, sumJ f n ≤ sumJ g n
  | 0 => Nat.le_refl _
  | n + 1 => by have := sumJ_le h n; have := h n; rw [sumJ, sumJ]; omega
theorem sumJ_const (c : Nat) : ∀ n, sumJ (fun _ => c) n = n * c
  | 0 => by simp [sumJ]
  | n + 1 => by rw [sumJ, sumJ_const c n, Nat.succ_mul]
theorem sumJ_if (t c : Nat) : ∀ n, t ≤ n → sumJ (fun j => (if j < t then 1 else 0) * c) n = t * c
  | 0, h => by rw [show t = 0 by omega]; simp [sumJ]
  | n + 1, h => by
    rw [sumJ]
    by_cases e : t = n + 1
    · subst e
      have : sumJ (fun j => (if j < n + 1 then 1 else 0) * c) n = sumJ (fun _ => c) n := by
        have : ∀ m, m ≤ n → sumJ (fun j => (if j < n + 1 then 1 else 0) * c) m = sumJ (fun _ => c) m := by
          intro m
          induction m with
          | zero => intro _; rfl
          | succ m ih => intro hm; rw [sumJ, sumJ, ih (by omega), if_pos (by omega), Nat.one_mul]
        exact this n (Nat.le_refl _)
      rw [this, sumJ_const, if_pos (by omega), Nat.succ_mul n]; omega
    · rw [sumJ_if t c n (by omega), if_neg (by omega)]
      omega
theorem ind_sum : ∀ (T : List Nat) (n : Nat), (∀ t ∈ T, t ≤ n) → sumJ (ind T) n = vsum T
  | [], n, _ => by
    have : ind [] = fun _ => 0 := by funext j; rfl
    rw [this, sumJ_const]; simp [vsum]
  | t :: T, n, h => by
    have e : ind (t :: T) = fun j => (if j < t then 1 else 0) * 2 ^ T.length + ind T j := by funext j; unfold ind; rw [List.map_cons, vsum, List.length_map]
    rw [e, sumJ_add, ind_sum T n fun x hx => h x (by simp [hx]), sumJ_if t _ n (h t (by simp)), vsum]
theorem kraft (T : List Nat) (n : Nat) (h : ∀ t ∈ T, t ≤ n) : sumJ (fun j => 2 ^ (T.length - lenJ T j)) n + vsum T ≤ n * 2 ^ T.length := by
  rw [← ind_sum T n h, ← sumJ_add, ← sumJ_const]
  exact sumJ_le (fun j => by have := ind_len T j; omega) n
def countsL (ls : List Nat) : List Nat := (List.range 16).map fun i => ls.count (i + 1)
def kr (ls : List Nat) : Nat := (ls.map fun l => 2 ^ (16 - l)).sum
theorem counts_len (ls : List Nat) : (countsL ls).length = 16 := by simp [countsL]
theorem sum16 (f : Nat → Nat) : ((List.range 16).map f).sum = f 0 + f 1 + f 2 + f 3 + f 4 + f 5 + f 6 + f 7 + f 8 + f 9 + f 10 + f 11 + f 12 + f 13 + f 14 + f 15 := by
  simp [List.range, List.range.loop]
  omega
theorem room_range (f : Nat → Nat) : roomT ((List.range 16).map f) = ((List.range 16).map fun i => f i * 2 ^ (15 - i)).sum := by
  unfold roomT
  congr 1
theorem counts_room : ∀ ls : List Nat, (∀ l ∈ ls, 1 ≤ l ∧ l ≤ 16) → roomT (countsL ls) = kr ls ∧ (countsL ls).sum = ls.length
  | [], _ => by
    unfold countsL
    rw [room_range, sum16, sum16]
    simp [kr]
  | l :: ls, h => by
    obtain ⟨i1, i2⟩ := counts_room ls fun x hx => h x (by simp [hx])
    obtain ⟨h1, h2⟩ := h l (by simp)
    unfold countsL at i1 i2 ⊢
    rw [room_range, sum16] at i1 ⊢
    rw [sum16] at i2 ⊢
    have ek : kr (l :: ls) = 2 ^ (16 - l) + kr ls := by simp [kr]
    rw [ek, ← i1, List.length_cons, ← i2]
    simp only [List.count_cons]
    have : l = 1 ∨ l = 2 ∨ l = 3 ∨ l = 4 ∨ l = 5 ∨ l = 6 ∨ l = 7 ∨ l = 8 ∨ l = 9 ∨ l = 10 ∨ l = 11 ∨ l = 12 ∨ l = 13 ∨ l = 14 ∨ l = 15 ∨ l = 16 := by omega
    rcases this with rfl | rfl | rfl | rfl | rfl | rfl | rfl | rfl | rfl | rfl | rfl | rfl | rfl | rfl | rfl | rfl <;> simp <;> omega
def expL : Nat → List Nat → List Nat
  | _, [] => []
  | k, c :: cs => List.replicate c k ++ expL (k + 1) cs
theorem exp_codes : ∀ (cs ss : List Nat) (k n : Nat), cs.sum ≤ ss.length → (codesGo k n cs ss).map (fun z => z.2.length) = expL k cs
  | [], _, _, _, _ => rfl
  | c :: cs, ss, k, n, h => by
    rw [List.sum_cons] at h
    unfold codesGo
    rw [List.map_append, exp_codes cs (ss.drop c) _ _ (by rw [List.length_drop]; omega)]
    rw [expL]
    congr 1
    apply List.ext_getElem?
    intro i
    rw [List.getElem?_map, List.getElem?_mapIdx, List.getElem?_replicate, List.getElem?_take]
    by_cases hi : i < c
    · rw [if_pos hi, if_pos hi, List.getElem?_eq_getElem (by omega)]
      simp [bitsAs]
    · rw [if_neg hi, if_neg hi]; rfl
theorem exp_ge : ∀ (cs : List Nat) (k : Nat), ∀ x ∈ expL k cs, k ≤ x
  | [], _, x, h => by simp [expL] at h
  | c :: cs, k, x, h => by
    rw [expL] at h
    rcases List.mem_append.mp h with h | h
    · rw [(List.mem_replicate.mp h).2]; exact Nat.le_refl _
    · have := exp_ge cs (k + 1) x h; omega
theorem exp_sorted : ∀ (cs : List Nat) (k : Nat), (expL k cs).Pairwise (· ≤ ·)
  | [], _ => .nil
  | c :: cs, k => by
    rw [expL]
    refine List.pairwise_append.mpr ⟨List.pairwise_replicate.mpr (.inr (Nat.le_refl _)), exp_sorted cs (k + 1), fun x hx y hy => ?_⟩
    rw [(List.mem_replicate.mp hx).2]
    have := exp_ge cs (k + 1) y hy
    omega
theorem exp_count : ∀ (cs : List Nat) (k x : Nat), (expL k cs).count x = if k ≤ x then (cs[x - k]?).getD 0 else 0
  | [], k, x => by simp [expL]
  | c :: cs, k, x => by
    rw [expL, List.count_append, exp_count cs (k + 1) x, List.count_replicate]
    by_cases h : k = x
    · subst h
      have : ¬ k + 1 ≤ k := by omega
      simp [this]
    · by_cases h2 : k ≤ x
      · have e : x - k = (x - (k + 1)) + 1 := by omega
        have h3 : k + 1 ≤ x := by omega
        simp [h, h2, h3, e]
      · have h3 : ¬ k + 1 ≤ x := by omega
        simp [h, h2, h3]
theorem exp_perm {ls : List Nat} (h : ∀ l ∈ ls, 1 ≤ l ∧ l ≤ 16) : (expL 1 (countsL ls)).Perm ls := by
  rw [List.perm_iff_count]
  intro x
  rw [exp_count]
  unfold countsL
  by_cases h1 : 1 ≤ x
  · rw [if_pos h1, List.getElem?_map]
    by_cases h2 : x ≤ 16
    · rw [List.getElem?_range (by omega)]
      simp only [Option.map_some, Option.getD_some]
      rw [show x - 1 + 1 = x by omega]
    · rw [List.getElem?_eq_none (by simp; omega)]
      simp only [Option.map_none, Option.getD_none]
      exact (List.count_eq_zero.mpr fun hx => by have := h x hx; omega).symm
  · rw [if_neg h1]
    exact (List.count_eq_zero.mpr fun hx => by have := h x hx; omega).symm
theorem exp_rev {ls : List Nat} (h : ∀ l ∈ ls, 1 ≤ l ∧ l ≤ 16) (s : ls.Pairwise (fun a b => b ≤ a)) : expL 1 (countsL ls) = ls.reverse :=
  List.Perm.eq_of_pairwise (le := (· ≤ ·)) (fun a b _ _ h1 h2 => Nat.le_antisymm h1 h2) (exp_sorted _ 1) (List.pairwise_reverse.mpr s) ((exp_perm h).trans (List.reverse_perm ls).symm)
structure Wt (W : List (Nat × Nat)) : Prop where
  nd : (W.map (·.1)).Nodup
  sb : ∀ z ∈ W, z.1 ≤ 255
  wb : ∀ z ∈ W, 1 ≤ z.2 ∧ z.2 ≤ 1000000000000000000
  len : W.length ≤ 255
def wK (W : List (Nat × Nat)) : List (Key × D) := W.map fun z => (.inl (z.1 : Int), nD z.2)
def wD (W : List (Nat × Nat)) : D := .dcl (wK W)
def wtS (W : List (Nat × Nat)) (s : Nat) : Nat := (W.lookup s).getD 0
theorem wK_len (W : List (Nat × Nat)) : (wK W).length = W.length := List.length_map ..
theorem wK_keys (W : List (Nat × Nat)) : keysD' (wK W) = (W.map (·.1)).map nD := by
  unfold keysD' wK
  rw [List.map_map, List.map_map]
  rfl
theorem wK_at : ∀ (W : List (Nat × Nat)) (s : Nat), atD (wK W) (.inl (s : Int)) = (W.lookup s).map nD
  | [], _ => rfl
  | z :: W, s => by
    have ih := wK_at W s
    unfold atD wK at ih ⊢
    rw [List.map_cons, List.find?_cons, List.lookup_cons]
    by_cases h : z.1 = s
    · subst h; simp
    · have h1 : (s == z.1) = false := by simpa using fun e => h e.symm
      have h2 : decide ((Sum.inl ((z.1 : Nat) : Int) : Key) = .inl (s : Int)) = false := by simp; omega
      rw [h1]
      simp only [h2]
      exact ih
theorem lookup_in {W : List (Nat × Nat)} (nd : (W.map (·.1)).Nodup) {z : Nat × Nat} (h : z ∈ W) : W.lookup z.1 = some z.2 := by
  induction W with
  | nil => cases h
  | cons y W ih =>
    rw [List.map_cons, List.nodup_cons] at nd
    rw [List.lookup_cons]
    rcases List.mem_cons.mp h with rfl | h
    · simp
    · have : (z.1 == y.1) = false := by
        simp
        rintro e
        exact nd.1 (by rw [← e]; exact List.mem_map.mpr ⟨z, h, rfl⟩)
      rw [this]
      exact ih nd.2 h
theorem Wt.at {W : List (Nat × Nat)} (w : Wt W) {z : Nat × Nat} (h : z ∈ W) : wtS W z.1 = z.2 ∧ atD (wK W) (.inl (z.1 : Int)) = some (nD z.2) := by
  have e := lookup_in w.nd h
  exact ⟨by unfold wtS; rw [e]; rfl, by rw [wK_at, e]; rfl⟩
theorem Wt.vals {W : List (Nat × Nat)} (w : Wt W) : W.map (·.2) = (W.map (·.1)).map (wtS W) := by
  rw [List.map_map]
  exact List.map_congr_left fun z hz => (w.at hz).1.symm
def coinsW (W : List (Nat × Nat)) : List Int := sortI (0 :: W.map fun z => (z.2 : Int))
theorem coins_len (W : List (Nat × Nat)) : (coinsW W).length = W.length + 1 := by unfold coinsW; rw [srt_len]; simp
theorem coins_sorted (W : List (Nat × Nat)) : (coinsW W).Pairwise (· ≤ ·) := srt_sorted _
theorem coins_cons (W : List (Nat × Nat)) : coinsW W = 0 :: sortI (W.map fun z => (z.2 : Int)) := srt_cons fun x hx => by
  obtain ⟨z, _, rfl⟩ := List.mem_map.mp hx
  omega
theorem coins_ge (W : List (Nat × Nat)) : ∀ x ∈ coinsW W, 0 ≤ x := fun x hx => by
  rw [coins_cons] at hx
  rcases List.mem_cons.mp hx with rfl | hx
  · omega
  · obtain ⟨z, _, rfl⟩ := List.mem_map.mp ((srt_perm _).mem_iff.mp hx)
    omega
structure Lim (W : List (Nat × Nat)) (L : Nat) : Prop where
  l1 : 1 ≤ L
  l16 : L ≤ 16
  room : W.length < 2 ^ L
def fewL (W : List (Nat × Nat)) (L : Nat) : Int := ((rowN (coinsW W) (L - 1)).take (2 * W.length)).sum
def tkW (W : List (Nat × Nat)) (L : Nat) : List Nat := takenL (coinsW W) (L - 1) (2 * W.length)
def lensW (W : List (Nat × Nat)) (L : Nat) : List Nat := (List.range W.length).map fun i => lenJ (tkW W L) (i + 1)
theorem tk_len {W : List (Nat × Nat)} {L : Nat} (l : Lim W L) : (tkW W L).length = L := by unfold tkW; rw [taken_len]; have := l.l1; omega
theorem lens_len (W : List (Nat × Nat)) (L : Nat) : (lensW W L).length = W.length := by simp [lensW]
theorem Lim.rows {W : List (Nat × Nat)} {L : Nat} (l : Lim W L) : 2 * W.length ≤ (rowN (coinsW W) (L - 1)).length := by
  have h := rowN_room (coinsW W) (L - 1) 2 (by
    have h1 := l.room
    have h2 := l.l1
    have e : 2 ^ L = 2 * 2 ^ (L - 1) := by rw [← Nat.pow_succ']; congr 1; omega
    rw [coins_len]; omega)
  rw [coins_len] at h
  omega
theorem sumJ_range (f : Nat → Nat) : ∀ n, sumJ f (n + 1) = f 0 + ((List.range n).map fun i => f (i + 1)).sum
  | 0 => by simp [sumJ]
  | n + 1 => by
    rw [sumJ, sumJ_range f n, List.range_succ, List.map_append, List.sum_append]
    simp
    omega
theorem Lim.kraft {W : List (Nat × Nat)} {L : Nat} (l : Lim W L) : ((lensW W L).map fun x => 2 ^ (L - x)).sum < 2 ^ L := by
  have k := LM.kraft (tkW W L) (W.length + 1) (fun t ht => by have := taken_le _ _ _ t ht; rw [coins_len] at this; exact this)
  have v := (taken_sum (coins_sorted W) (L - 1) (2 * W.length) l.rows).2
  change vsum (tkW W L) = _ at v
  have l1 := l.l1
  have e : 2 * W.length * 2 ^ (L - 1) = W.length * 2 ^ L := by
    rw [show L = (L - 1) + 1 by omega, Nat.pow_succ, Nat.add_sub_cancel, Nat.mul_comm 2, Nat.mul_assoc, Nat.mul_comm 2]
  rw [tk_len l, v, e, sumJ_range, Nat.succ_mul] at k
  have p : 0 < 2 ^ (L - lenJ (tkW W L) 0) := Nat.two_pow_pos _
  have e2 : (lensW W L).map (fun x => 2 ^ (L - x)) = (List.range W.length).map fun i => 2 ^ (L - lenJ (tkW W L) (i + 1)) := by
    unfold lensW
    rw [List.map_map]
    rfl
  rw [e2]
  omega
theorem mem_le_sum {l : List Nat} {x : Nat} (h : x ∈ l) : x ≤ l.sum := by
  induction l with
  | nil => cases h
  | cons y l ih =>
    rw [List.sum_cons]
    rcases List.mem_cons.mp h with rfl | h
    · omega
    · have := ih h; omega
theorem Lim.lens {W : List (Nat × Nat)} {L : Nat} (l : Lim W L) : ∀ x ∈ lensW W L, 1 ≤ x ∧ x ≤ L := fun x hx => by
  have k := l.kraft
  have h1 := mem_le_sum (List.mem_map.mpr ⟨x, hx, rfl⟩ : 2 ^ (L - x) ∈ (lensW W L).map fun x => 2 ^ (L - x))
  refine ⟨?_, ?_⟩
  · by_cases h0 : x = 0
    · subst h0
      rw [Nat.sub_zero] at h1
      omega
    · omega
  · unfold lensW at hx
    obtain ⟨i, _, rfl⟩ := List.mem_map.mp hx
    have := lenJ_le (tkW W L) (i + 1)
    rw [tk_len l] at this
    exact this
theorem Lim.kr {W : List (Nat × Nat)} {L : Nat} (l : Lim W L) : LM.kr (lensW W L) < 65536 := by
  have k := l.kraft
  have h := l.lens
  have l16 := l.l16
  have e : LM.kr (lensW W L) = 2 ^ (16 - L) * ((lensW W L).map fun x => 2 ^ (L - x)).sum := by
    unfold LM.kr
    generalize lensW W L = ls at h ⊢
    induction ls with
    | nil => simp
    | cons x ls ih =>
      have hx := (h x (by simp)).2
      rw [List.map_cons, List.sum_cons, List.map_cons, List.sum_cons, ih fun y hy => h y (by simp [hy]), Nat.mul_add, ← Nat.pow_add]
      congr 2
      omega
  rw [e]
  have : 2 ^ (16 - L) * 2 ^ L = 65536 := by rw [← Nat.pow_add, show 16 - L + L = 16 by omega]
  rw [← this]
  exact Nat.mul_lt_mul_of_pos_left k (Nat.two_pow_pos _)
theorem lens_sorted (W : List (Nat × Nat)) (L : Nat) : (lensW W L).Pairwise fun a b => b ≤ a := by
  unfold lensW
  rw [List.pairwise_map]
  exact (List.pairwise_lt_range).imp fun h => lenJ_mono _ (by omega)
def dotI : List Int → List Nat → Int
  | c :: cs, l :: ls => c * (l : Int) + dotI cs ls
  | _, _ => 0
theorem mulJ_dot (T : List Nat) : ∀ (cs : List Int) (j : Nat), mulJ T j cs = dotI cs ((List.range cs.length).map fun i => lenJ T (i + j))
  | [], _ => rfl
  | c :: cs, j => by
    rw [mulJ, mulJ_dot T cs (j + 1), List.length_cons, List.range_succ_eq_map, List.map_cons, List.map_map]
    simp only [dotI, Nat.zero_add]
    congr 2
    exact List.map_congr_left fun i _ => by simp only [Function.comp]; congr 1; omega
theorem few_dot {W : List (Nat × Nat)} {L : Nat} (l : Lim W L) : fewL W L = dotI (sortI (W.map fun z => (z.2 : Int))) (lensW W L) := by
  have h := (taken_sum (coins_sorted W) (L - 1) (2 * W.length) l.rows).1
  unfold fewL
  rw [h, mulJ_sum]
  have e : ∀ T : List Nat, mulJ T 0 (coinsW W) = dotI (sortI (W.map fun z => (z.2 : Int))) ((List.range W.length).map fun i => lenJ T (i + 1)) := fun T => by
    rw [coins_cons, mulJ]
    simp only [Int.zero_mul, Int.zero_add]
    rw [mulJ_dot, srt_len, List.length_map]
  rw [e]
  rfl
def leW (W : List (Nat × Nat)) (a b : Nat) : Prop := wtS W b < wtS W a ∨ (wtS W a = wtS W b ∧ a ≤ b)
structure Sy (W : List (Nat × Nat)) (ss : List Nat) : Prop where
  pm : ss.Perm (W.map (·.1))
  st : ss.Pairwise (leW W)
theorem Sy.len {W : List (Nat × Nat)} {ss : List Nat} (y : Sy W ss) : ss.length = W.length := by rw [y.pm.length_eq, List.length_map]
def tabL (W : List (Nat × Nat)) (L : Nat) (ss : List Nat) : D := .tup [.tup ((countsL (lensW W L)).map nD), .tup (ss.map nD)]
theorem Lim.tab {W : List (Nat × Nat)} {L : Nat} {ss : List Nat} (l : Lim W L) (w : Wt W) (y : Sy W ss) : IsTab (tabL W L ss) (countsL (lensW W L)) ss := by
  have hl : ∀ x ∈ lensW W L, 1 ≤ x ∧ x ≤ 16 := fun x hx => by have := l.lens x hx; have := l.l16; omega
  obtain ⟨r1, r2⟩ := counts_room _ hl
  refine ⟨rfl, counts_len _, fun c hc => ?_, by rw [r1]; exact l.kr, by rw [y.len, r2, lens_len], fun x hx => ?_, y.pm.nodup_iff.mpr w.nd⟩
  · have := mem_le_sum hc
    rw [r2, lens_len] at this
    have := w.len
    omega
  · obtain ⟨z, hz, rfl⟩ := List.mem_map.mp (y.pm.mem_iff.mp hx)
    exact w.sb z hz
theorem Sy.vals {W : List (Nat × Nat)} {ss : List Nat} (w : Wt W) (y : Sy W ss) : (ss.map fun s => (wtS W s : Int)).reverse = sortI (W.map fun z => (z.2 : Int)) := by
  refine (srt_of ?_ ?_).symm
  · have h := (List.reverse_perm (ss.map fun s => (wtS W s : Int))).trans (y.pm.map fun s => (wtS W s : Int))
    refine h.trans (List.Perm.of_eq ?_)
    rw [List.map_map]
    exact List.map_congr_left fun z hz => by show ((wtS W z.1 : Nat) : Int) = z.2; rw [(w.at hz).1]
  · rw [List.pairwise_reverse, List.pairwise_map]
    exact y.st.imp fun h => by unfold leW at h; omega
theorem dotI_snoc : ∀ (cs : List Int) (ls : List Nat) (c : Int) (l : Nat), cs.length = ls.length → dotI (cs ++ [c]) (ls ++ [l]) = dotI cs ls + c * (l : Int)
  | [], [], c, l, _ => by simp [dotI]
  | a :: cs, b :: ls, c, l, h => by
    have := dotI_snoc cs ls c l (by simpa using h)
    simp only [List.cons_append, dotI, this]
    omega
  | [], _ :: _, _, _, h => by cases h
  | _ :: _, [], _, _, h => by cases h
theorem dotI_rev : ∀ (cs : List Int) (ls : List Nat), cs.length = ls.length → dotI cs.reverse ls.reverse = dotI cs ls
  | [], [], _ => rfl
  | a :: cs, b :: ls, h => by
    rw [List.reverse_cons, List.reverse_cons, dotI_snoc _ _ _ _ (by simpa using h), dotI_rev cs ls (by simpa using h)]
    simp only [dotI]
    omega
  | [], _ :: _, h => by cases h
  | _ :: _, [], h => by cases h
def bitsL (W : List (Nat × Nat)) (L : List (Nat × List Int)) : Int := (L.map fun z => (wtS W z.1 : Int) * (z.2.length : Int)).sum
theorem bits_dot (f : Nat → Int) : ∀ L : List (Nat × List Int), (L.map fun z => f z.1 * (z.2.length : Int)).sum = dotI (L.map fun z => f z.1) (L.map fun z => z.2.length)
  | [] => rfl
  | z :: L => by
    rw [List.map_cons, List.sum_cons, bits_dot f L]
    rfl
theorem codes_lens {v : D} {cs ss : List Nat} (t : IsTab v cs ss) : (codesM cs ss).map (fun z => z.2.length) = expL 1 cs := exp_codes cs ss 1 0 (by rw [t.sl]; exact Nat.le_refl _)
theorem Lim.few {W : List (Nat × Nat)} {L : Nat} {ss : List Nat} (l : Lim W L) (w : Wt W) (y : Sy W ss) (hf : (codesM (countsL (lensW W L)) ss).map (·.1) = ss) : bitsL W (codesM (countsL (lensW W L)) ss) = fewL W L := by
  have hl : ∀ x ∈ lensW W L, 1 ≤ x ∧ x ≤ 16 := fun x hx => by have := l.lens x hx; have := l.l16; omega
  unfold bitsL
  rw [bits_dot (fun s => (wtS W s : Int)), codes_lens (l.tab w y), exp_rev hl (lens_sorted W L), few_dot l, ← y.vals w]
  have e : (codesM (countsL (lensW W L)) ss).map (fun z => (wtS W z.1 : Int)) = ss.map fun s => (wtS W s : Int) := by
    conv => rhs; rw [← hf]
    rw [List.map_map]
    rfl
  rw [e, ← dotI_rev _ _ (by rw [List.length_map, List.length_reverse, lens_len, y.len]), List.reverse_reverse]
theorem Lim.codes_le {W : List (Nat × Nat)} {L : Nat} {ss : List Nat} (l : Lim W L) (w : Wt W) (y : Sy W ss) : ∀ z ∈ codesM (countsL (lensW W L)) ss, 1 ≤ z.2.length ∧ z.2.length ≤ L := fun z hz => by
  have hl : ∀ x ∈ lensW W L, 1 ≤ x ∧ x ≤ 16 := fun x hx => by have := l.lens x hx; have := l.l16; omega
  have h : z.2.length ∈ (codesM (countsL (lensW W L)) ss).map fun z => z.2.length := List.mem_map.mpr ⟨z, hz, rfl⟩
  rw [codes_lens (l.tab w y)] at h
  exact l.lens _ ((exp_perm hl).mem_iff.mp h)
def gW (W : List (Nat × Nat)) (x : D) : D := .tup [.int (-((wtS W (dInt x).toNat : Nat) : Int)), x]
def pW (W : List (Nat × Nat)) (x : D) : PyData := .tuple [.int (-((wtS W (dInt x).toNat : Nat) : Int)), .int (dInt x)]
theorem pW_ok (W : List (Nat × Nat)) (s : Nat) : pyD (gW W (nD s)) = some (pW W (nD s)) ∧ (pW W (nD s)).depth ≤ 30 := ⟨by simp [pyD, gW, pW, nD, intsOf, dInt], by simp [pW, PyData.depth, PyData.depthAll]⟩
theorem pW_alike (W : List (Nat × Nat)) (xs : List D) : PySem.W.AllAlike (xs.map (pW W)) ∧ PySem.W.Sortable (xs.map (pW W)) := ⟨PySem.W.AllAlike.of fun _ _ => by simp [PySem.W.alike, PySem.W.alikeAll, pW], PySem.W.Sortable.tuples fun _ => ⟨_, _, rfl⟩⟩
theorem srt_syms (W : List (Nat × Nat)) : ∃ ss, (keysD' (wK W)).mergeSort (PySem.W.dataLe false (pW W)) = ss.map nD ∧ Sy W ss := by
  have hp := List.mergeSort_perm (keysD' (wK W)) (PySem.W.dataLe false (pW W))
  rw [wK_keys] at hp ⊢
  obtain ⟨ss, h1, h2⟩ := L2.perm_lift nD hp _ rfl
  refine ⟨ss, h2.symm, h1, ?_⟩
  have e : PySem.W.dataLe false (pW W) = fun p q => decide (-((wtS W (dInt p).toNat : Nat) : Int) < -((wtS W (dInt q).toNat : Nat) : Int) ∨ (-((wtS W (dInt p).toNat : Nat) : Int) = -((wtS W (dInt q).toNat : Nat) : Int) ∧ dInt p ≤ dInt q)) := PySem.W.dataLe_ii _ _
  have hs := List.pairwise_mergeSort (le := PySem.W.dataLe false (pW W)) (fun a b c h1 h2 => by rw [e] at h1 h2 ⊢; simp only [decide_eq_true_eq] at h1 h2 ⊢; omega) (fun a b => by rw [e]; simp only [Bool.or_eq_true, decide_eq_true_eq]; omega) ((W.map (·.1)).map nD)
  rw [← h2, e, List.pairwise_map] at hs
  refine hs.imp fun {a b} h => ?_
  have h2 : -((wtS W a : Nat) : Int) < -((wtS W b : Nat) : Int) ∨ (-((wtS W a : Nat) : Int) = -((wtS W b : Nat) : Int) ∧ (a : Int) ≤ (b : Int)) := of_decide_eq_true h
  unfold leW
  omega
theorem srt_strs (xs : List D) (f : D → Str) : PySem.W.AllAlike (xs.map fun x => .str (f x)) ∧ PySem.W.Sortable (xs.map fun x => .str (f x)) := ⟨PySem.W.AllAlike.of fun _ _ => by simp [PySem.W.alike], PySem.W.Sortable.others fun _ => ⟨by simp, fun _ => by simp⟩⟩

def sp_is_weight : MSp := fun ds h Q _ => ∃ s w : Nat, ds = [nD s, nD w] ∧ s ≤ 255 ∧ 1 ≤ w ∧ w ≤ 1000000000000000000 ∧ Q (.bl true) h
def sp_check_limit : MSp := fun ds h Q _ => ∃ L : Nat, ds = [nD L] ∧ 1 ≤ L ∧ L ≤ 16 ∧ Q .non h
def sp_check_room : MSp := fun ds h Q _ => ∃ W L, ds = [wD W, nD L] ∧ Lim W L ∧ Q .non h
def intsD (ns : List Int) : D := .lst (ns.map .int)
def sp_coins_of : MSp := fun ds h Q _ => ∃ W, ds = [wD W] ∧ Wt W ∧ Q (intsD (coinsW W)) h
def sp_pairs_of : MSp := fun ds h Q _ => ∃ r : List Int, ds = [intsD r] ∧ r.length ≤ 1000000 ∧ Q (intsD (pairsL r)) h
def sp_rows_of : MSp := fun ds h Q _ => ∃ W L, ds = [wD W, nD L] ∧ Wt W ∧ Lim W L ∧ ∀ h', Ext h h' → Q (.lst ((rowsL (coinsW W) L).reverse.map intsD)) h'
def sp_fewest_bits : MSp := fun ds h Q _ => ∃ W L, ds = [wD W, nD L] ∧ Wt W ∧ Lim W L ∧ ∀ h', Ext h h' → Q (.int (fewL W L)) h'
def sp_coins_among : MSp := fun ds h Q _ => ∃ (cs ps : List Int) (m : Nat), ds = [intsD cs, intsD ps, nD m] ∧ cs.length ≤ 1000 ∧ ps.length ≤ 1000 ∧ Q (nD (amL cs ps m)) h
def sp_coins_taken : MSp := fun ds h Q _ => ∃ W L, ds = [wD W, nD L] ∧ Wt W ∧ Lim W L ∧ ∀ h', Ext h h' → Q (.lst ((tkW W L).map nD)) h'
def bitsW (W : List (Nat × Nat)) (C : List (Nat × List Int)) : Int := (W.map fun z => (z.2 : Int) * (((C.lookup z.1).getD []).length : Int)).sum
def sp_bits_by : MSp := fun ds h Q _ => ∃ W C, ds = [wD W, .dct (codesD C)] ∧ Wt W ∧ (∀ z ∈ W, z.1 ∈ C.map (·.1)) ∧ (∀ z ∈ C, z.2.length ≤ 1000) ∧ Q (.int (bitsW W C)) h

abbrev N_is_weight : List Str := ["symbol", "weight"]
def rd_is_weight : WS :=
 (wRet (wAndV (wCall TB.sp_is_integer xF (wCons (wVar 0) (wCons (wC (.int 0)) (wCons (wC (.int 255)) wNil)))) (wCall TB.sp_is_integer xF (wCons (wVar 1) (wCons (wC (.int 1)) (wCons (wC k_MOST_WEIGHT) wNil))))))

abbrev N_check_limit : List Str := ["limit"]
def rd_check_limit (Es : MSt → XQ) : WS :=
 (wIfS (wNot (wTruth (wCall TB.sp_is_integer xF (wCons (wVar 0) (wCons (wC (.int 1)) (wCons (wC k_LONGEST) wNil)))))) (wRaise Es "NoLimit" ["limit"] (wCons (wVar 0) wNil)) wNext)

abbrev N_check_room : List Str := ["weights", "limit"]
def rd_check_room (Es : MSt → XQ) : WS :=
 (wIfS (wTest (wGe (wCB fLenDs (wCons (wVar 0) wNil)) (wShl (wC (.int 1)) (wVar 1)))) (wRaise Es "NoRoom" ["limit"] (wCons (wVar 1) wNil)) wNext)

abbrev N_coins_of : List Str := ["weights", "symbol"]
def rd_coins_of : WS :=
 (wRet (wCB fSorted (wCons (wOp opAdd (wLst (wCons (wC (.int 0)) wNil)) (wLc (wItK (wVar 0)) (put1 1) wYes (wOp opGetDc (wVar 0) (wVar 1)) [1])) wNil)))

abbrev N_pairs_of : List Str := ["row", "at"]
def rd_pairs_of : WS :=
 (wRet (wLc (wRange3 (wCons (wC (.int 0)) (wCons (wOp opSub (wCB fLen (wCons (wVar 0) wNil)) (wC (.int 1))) (wCons (wC (.int 2)) wNil)))) (put1 1) wYes (wOp opAdd (wOp opIx (wVar 0) (wVar 1)) (wOp opIx (wVar 0) (wOp opAdd (wVar 1) (wC (.int 1))))) [1]))

def lb_rows_of_0 : WS :=
 (wDrop (wMt fAppend (wVar 3) (wCons (wCB fSorted (wCons (wOp opAdd (wVar 2) (wCall LM.sp_pairs_of xF (wCons (wOp opIx (wVar 3) (wUn unNeg (wC (.int 1)))) wNil))) wNil)) wNil)))
abbrev N_rows_of : List Str := ["weights", "limit", "coins", "found"]
def rd_rows_of : WS :=
 (wSeq (wSet 2 (wCall LM.sp_coins_of xF (wCons (wVar 0) wNil)))
 (wSeq (wSet 3 (wLstM (wCons (wVar 2) wNil)))
 (wSeq (wWhile (wTest (wLt (wCB fLen (wCons (wVar 3) wNil)) (wVar 1))) lb_rows_of_0)
 (wFz 3 (wRet (wUn unRevA (wVar 3)))))))

abbrev N_fewest_bits : List Str := ["weights", "limit"]
def rd_fewest_bits : WS :=
 (wRet (wCB fSum (wCons (wSl (wOp opIx (wCall LM.sp_rows_of xF (wCons (wVar 0) (wCons (wVar 1) wNil))) (wC (.int 0))) wNo (wPart (wOp opMul (wC (.int 2)) (wCB fLenDs (wCons (wVar 0) wNil))))) wNil)))

def lb_coins_among_0 : WS :=
 (wAug 4 (wC (.int 1)) (fun i j => i + j))
def lb_coins_among_1 : WS :=
 (wSeq (wWhile (wAnd (wTest (wLt (wVar 4) (wCB fLen (wCons (wVar 1) wNil)))) (wTest (wLt (wOp opIx (wVar 1) (wVar 4)) (wOp opIx (wVar 0) (wVar 3))))) lb_coins_among_0)
 (wSeq (wIfS (wTest (wGe (wOp opAdd (wVar 3) (wVar 4)) (wVar 2))) wBreak wNext)
 (wAug 3 (wC (.int 1)) (fun i j => i + j))))
abbrev N_coins_among : List Str := ["coins", "pairs", "many", "taken", "ahead"]
def rd_coins_among : WS :=
 (wSeq (wAsg (wTup (wCons (wC (.int 0)) (wCons (wC (.int 0)) wNil))) (gT 2 (gC (gN 3) (gC (gN 4) gZ))))
 (wSeq (wWhile (wTest (wLt (wVar 3) (wCB fLen (wCons (wVar 0) wNil)))) lb_coins_among_1)
 (wRet (wVar 3))))

def lb_coins_taken_0 : WS :=
 (wSeq (wSet 7 (wCall LM.sp_coins_among xF (wCons (wVar 3) (wCons (wCall LM.sp_pairs_of xF (wCons (wVar 2) wNil)) (wCons (wVar 6) wNil)))))
 (wSeq (wDrop (wMt fAppend (wVar 5) (wCons (wVar 7) wNil)))
 (wSet 6 (wOp opMul (wC (.int 2)) (wOp opSub (wVar 6) (wVar 7))))))
abbrev N_coins_taken : List Str := ["weights", "limit", "below", "coins", "rows", "found", "many", "taken"]
def rd_coins_taken : WS :=
 (wSeq (wPar 3 4 (wCons (wCall LM.sp_coins_of xF (wCons (wVar 0) wNil)) (wCons (wCall LM.sp_rows_of xF (wCons (wVar 0) (wCons (wVar 1) wNil))) wNil)))
 (wSeq (wPar 5 6 (wCons (wLstM wNil) (wCons (wOp opMul (wC (.int 2)) (wCB fLenDs (wCons (wVar 0) wNil))) wNil)))
 (wSeq (wFor (wIt (wOp opAdd (wSl (wVar 4) (wPart (wC (.int 1))) wNo) (wLst (wCons (wLst wNil) wNil)))) (gN 2) lb_coins_taken_0)
 (wFz 5 (wRet (wVar 5))))))

def lb_bits_by_0 (Es : MSt → XQ) : WS :=
 (wIfS (wTest (wOp (opInDc true) (wVar 2) (wVar 1))) (wRaise Es "NoSymbol" ["symbol"] (wCons (wVar 2) wNil)) wNext)
abbrev N_bits_by : List Str := ["weights", "known", "symbol"]
def rd_bits_by (Es : MSt → XQ) : WS :=
 (wSeq (wFor (wIt (wCB fSortDc (wCons (wVar 0) wNil))) (gN 2) (lb_bits_by_0 Es))
 (wRet (wCB fSum (wCons (wLc (wItK (wVar 0)) (put1 2) wYes (wOp opMul (wOp opGetDc (wVar 0) (wVar 2)) (wCB fLen (wCons (wOp opGetDc (wVar 1) (wVar 2)) wNil))) [2]) wNil))))


section
variable (ds : List D) (h : MH) (Q' : MQ) (E' : XQ)
theorem btw_nat1 {n : Nat} {lo hi : Int} (h1 : lo ≤ (n : Int)) (h2 : (n : Int) ≤ hi) : btw (nD n) lo hi = true := by
  show (decide (lo ≤ (n : Int)) && decide ((n : Int) ≤ hi)) = true
  simp [h1, h2]
theorem pure_is_weight (s : sp_is_weight ds h Q' E') : rd_is_weight { nx := fun _ h' => Q' .non h', rt := Q' } (mstart N_is_weight ds) h := by
  obtain ⟨s, w, rfl, hs, w1, w2, q⟩ := s
  have b1 := btw_nat1 (n := s) (lo := 0) (hi := 255) (by omega) (by omega)
  have b2 := btw_nat1 (n := w) (lo := 1) (hi := 1000000000000000000) (by omega) (by omega)
  rw [show mstart N_is_weight [nD s, nD w] = [some (nD s), some (nD w)] from rfl]
  unfold rd_is_weight
  unfold nD at b1 b2
  simp [nD, okE, clsD, b1, b2]
  exact q
theorem pure_check_limit (s : sp_check_limit ds h Q' E') : rd_check_limit (fun _ => E') { nx := fun _ h' => Q' .non h', rt := Q' } (mstart N_check_limit ds) h := by
  obtain ⟨L, rfl, l1, l2, q⟩ := s
  have b1 := btw_nat1 (n := L) (lo := 1) (hi := 16) (by omega) (by omega)
  rw [show mstart N_check_limit [nD L] = [some (nD L)] from rfl]
  unfold rd_check_limit
  unfold nD at b1
  simp [nD, okE, clsD, b1]
  exact q
theorem pure_check_room (s : sp_check_room ds h Q' E') : rd_check_room (fun _ => E') { nx := fun _ h' => Q' .non h', rt := Q' } (mstart N_check_room ds) h := by
  obtain ⟨W, L, rfl, l, q⟩ := s
  rw [show mstart N_check_room [wD W, nD L] = [some (wD W), some (nD L)] from rfl]
  unfold rd_check_room
  simp [nD, wD]
  have l16 := l.l16
  refine ⟨shl_ok (n := 1) (by decide) (by omega) (by omega) (by omega), ?_⟩
  have hr := l.room
  have : ¬ (2 : Int) ^ L ≤ ((wK W).length : Int) := by
    rw [wK_len]
    have e : ((2 ^ L : Nat) : Int) = (2 : Int) ^ L := by simp
    omega
  rw [if_neg this]
  exact q
theorem pure_coins_of (s : sp_coins_of ds h Q' E') : rd_coins_of { nx := fun _ h' => Q' .non h', rt := Q' } (mstart N_coins_of ds) h := by
  obtain ⟨W, rfl, w, q⟩ := s
  have szl := szL
  have wl := w.len
  rw [show mstart N_coins_of [wD W] = [some (wD W), none] from rfl]
  unfold rd_coins_of
  simp [nD, wD]
  rw [wK_keys, List.map_map]
  refine lc_over (fun z : Nat × Nat => nD z.1) (fun z => nD z.2) W (by omega) (fun z hz K k => ⟨_, rfl, ?_⟩) ?_
  · have e := (w.at hz).2
    simp [List.set, mwipe, nD]
    rw [e]
    exact k
  · refine ⟨by rw [List.length_map]; omega, ?_⟩
    have e : D.int 0 :: W.map (fun z => nD z.2) = (0 :: W.map fun z => (z.2 : Int)).map D.int := by rw [List.map_cons, List.map_map]; rfl
    rw [e, o_sortedI]
    exact q
theorem fits_long (i : Int) (h1 : -1000000000 ≤ i) (h2 : i ≤ 1000000000) : Builtin.Range.rangeFitsLong i = true := by
  unfold Builtin.Range.rangeFitsLong
  rw [Bool.and_eq_true, decide_eq_true_eq, decide_eq_true_eq]
  omega
theorem rgc2 {n : Nat} (h2 : n ≤ 10000000) : RgC 0 ((n : Int) - 1) 2 (n / 2) := by
  have e : Builtin.Range.rangeSize 0 ((n : Int) - 1) 2 = ((n / 2 : Nat) : Int) := by
    unfold Builtin.Range.rangeSize
    simp only [show (2 : Int) > 0 by decide, if_true]
    split <;> omega
  refine ⟨by decide, by decide, ?_, e⟩
  unfold Builtin.Range.small
  rw [e, fits_long 0 (by omega) (by omega), fits_long ((n : Int) - 1) (by omega) (by omega), fits_long 2 (by omega) (by omega), fits_long _ (by omega) (by omega), if_pos (by decide), fits_long _ (by omega) (by omega)]
  simp
theorem pairs_get : ∀ (r : List Int) (i : Nat), 2 * i + 1 < r.length → ∃ a b, r[2 * i]? = some a ∧ r[2 * i + 1]? = some b ∧ (pairsL r)[i]? = some (a + b)
  | [], i, h => by simp at h
  | [_], i, h => by simp at h
  | a :: b :: r, 0, h => ⟨a, b, rfl, rfl, rfl⟩
  | a :: b :: r, i + 1, h => by
    obtain ⟨x, y, h1, h2, h3⟩ := pairs_get r i (by simp at h; omega)
    refine ⟨x, y, ?_, ?_, ?_⟩
    · rw [show 2 * (i + 1) = 2 * i + 1 + 1 by omega]; simpa using h1
    · rw [show 2 * (i + 1) + 1 = (2 * i + 1) + 1 + 1 by omega]; simpa using h2
    · rw [pairsL]; simpa using h3
theorem pure_pairs_of (s : sp_pairs_of ds h Q' E') : rd_pairs_of { nx := fun _ h' => Q' .non h', rt := Q' } (mstart N_pairs_of ds) h := by
  obtain ⟨r, rfl, hr, q⟩ := s
  have szl := szL
  rw [show mstart N_pairs_of [intsD r] = [some (intsD r), none] from rfl]
  unfold rd_pairs_of
  simp [intsD]
  refine ⟨_, rgc2 (by omega), ?_⟩
  refine wLcGo_inv (fun i acc h' => h' = h ∧ acc = ((pairsL r).take i).map D.int) ⟨rfl, rfl⟩ ?_ ?_
  · rintro i d acc h' K e ⟨rfl, rfl⟩ hK
    obtain ⟨hi, rfl⟩ := step_get e
    obtain ⟨x, y, g1, g2, g3⟩ := pairs_get r i (by omega)
    refine ⟨_, rfl, ?_⟩
    have a1 : atI (r.map D.int) (0 + (i : Int) * 2) = some (D.int x) := by
      rw [show 0 + (i : Int) * 2 = ((2 * i : Nat) : Int) by omega, atI_of (by rw [List.length_map]; omega)]
      rw [List.getElem_map]
      rw [(List.getElem?_eq_some_iff.mp g1).2]
    have a2 : atI (r.map D.int) (0 + (i : Int) * 2 + 1) = some (D.int y) := by
      rw [show 0 + (i : Int) * 2 + 1 = ((2 * i + 1 : Nat) : Int) by omega, atI_of (by rw [List.length_map]; omega)]
      rw [List.getElem_map]
      rw [(List.getElem?_eq_some_iff.mp g2).2]
    have le := List.length_take_le i (pairsL r)
    simp only [r_yes, if_true, mwipe, List.foldl, List.set, r_op, r_var, r_c, List.getElem?_cons_succ, List.getElem?_cons_zero, o_ix, sq_lst, a1, a2, o_add]
    refine ⟨by rw [List.length_map]; omega, hK _ _ ⟨rfl, ?_⟩⟩
    rw [List.take_add_one, g3]
    simp
  · rintro acc h' ⟨rfl, rfl⟩
    have e : (stepD 0 2 (r.length / 2)).length = (pairsL r).length := by rw [pairs_len]; unfold stepD; simp
    rw [e, List.take_length]
    exact q
theorem lenM {h : MH} {p : Addr} {xs : List D} {Q : MQ} : fLen [.ref p] (mupd h p (.lst xs)) Q = Q (.int xs.length) (mupd h p (.lst xs)) := by
  unfold fLen
  simp [sqOf, mupd_same]
theorem atI_last {α : Type} {xs : List α} {x : α} : atI (xs ++ [x]) (-1) = some x := by
  unfold atI ixN
  rw [if_neg (by decide), List.length_append, List.length_singleton, if_pos (by omega)]
  have : ((-1 : Int) + ((xs.length + 1 : Nat) : Int)).toNat = xs.length := by omega
  simp only [Option.bind_some, this]
  simp
theorem rows_snoc (cs : List Int) (k : Nat) : rowsL cs (k + 1) = rowsL cs k ++ [rowN cs k] := by
  unfold rowsL
  rw [List.range_succ, List.map_append]
  rfl
theorem sum_ints {ns : List Int} {h : MH} {Q : MQ} (q : Q (.int ns.sum) h) : fSum [.lst (ns.map .int)] h Q := by
  unfold fSum
  simp only [ls_lst, Option.bind_some, intsOf_ints]
  exact q
theorem pure_rows_of (s : sp_rows_of ds h Q' E') : rd_rows_of { nx := fun _ h' => Q' .non h', rt := Q' } (mstart N_rows_of ds) h := by
  obtain ⟨W, L, rfl, w, l, q⟩ := s
  have szl := szL
  have wl := w.len
  have l16 := l.l16
  have cl := coins_len W
  rw [show mstart N_rows_of [wD W, nD L] = [some (wD W), some (nD L), none, none] from rfl]
  unfold rd_rows_of
  simp only [r_seq, r_set, r_call, r_lstM, r_cons, r_nil, r_var, List.getElem?_cons_succ, List.getElem?_cons_zero, List.set]
  refine ⟨W, rfl, w, by simp, fun p hp => ?_⟩
  have rl : ∀ k, (rowN (coinsW W) k).length ≤ 600 := fun k => by have := rowN_top (coinsW W) k; omega
  refine wWhile_inv (fun mm σ h' => ∃ k, σ = [some (wD W), some (nD L), some (intsD (coinsW W)), some (.ref p)] ∧ h' = mupd h p (.lst ((rowsL (coinsW W) k).map intsD)) ∧ 1 ≤ k ∧ k ≤ L ∧ mm = L - k) (m := L - 1) ⟨1, rfl, by simp [rowsL, rowN], by omega, l.l1, rfl⟩ ?_
  rintro mm σ h' K ⟨k, rfl, rfl, k1, kL, rfl⟩ hK
  have lk : ((rowsL (coinsW W) k).map intsD).length = k := by simp [rowsL]
  obtain ⟨k', rfl⟩ : ∃ k', k = k' + 1 := ⟨k - 1, by omega⟩
  simp only [r_test, r_cb, r_op, r_cons, r_nil, r_var, List.getElem?_cons_succ, List.getElem?_cons_zero, nD, lenM, lk, o_cmp]
  by_cases hk : k' + 1 < L
  · rw [decide_eq_true (by omega), if_pos rfl]
    unfold lb_rows_of_0
    have sq : sqOf (mupd h p (Cell.lst (List.map intsD (rowsL (coinsW W) (k' + 1))))) (.ref p) = some (List.map intsD (rowsL (coinsW W) (k' + 1))) := by simp [sqOf, mupd_same]
    have la : atI (List.map intsD (rowsL (coinsW W) (k' + 1))) (-1) = some (intsD (rowN (coinsW W) k')) := by rw [rows_snoc, List.map_append]; exact atI_last
    simp only [r_drop, r_mt, r_cb, r_op, r_call, r_un, r_c, r_cons, r_nil, r_var, List.getElem?_cons_succ, List.getElem?_cons_zero, o_neg, o_ix, sq, la]
    have r1 := rl k'
    have ls : (lsOf (mupd h p (Cell.lst (List.map intsD (rowsL (coinsW W) (k' + 1))))) (D.ref p)).isSome = true := by simp [lsOf, mupd_same]
    refine ⟨ls, rowN (coinsW W) k', rfl, by omega, ?_⟩
    simp only [intsD, o_addL]
    have pl := pairs_len (rowN (coinsW W) k')
    refine ⟨by rw [List.length_map, List.length_map]; omega, ?_⟩
    rw [← List.map_append, o_sortedI]
    simp [mupd_same, mupd_mupd]
    refine ⟨by simp [rowsL]; omega, hK _ _ _ ?_ ⟨k' + 2, rfl, ?_, by omega, by omega, rfl⟩⟩
    · omega
    · rw [rows_snoc _ (k' + 1), List.map_append]; rfl
  · rw [decide_eq_false (by omega)]
    have : k' + 1 = L := by omega
    subst this
    simp only [Bool.false_eq_true, if_false, r_fz, r_ret, r_un, r_var, List.getElem?_cons_succ, List.getElem?_cons_zero, mupd_same, List.set, o_revL]
    rw [← List.map_reverse]
    exact q _ fun b c e => by
      unfold mdel
      have : b ≠ p := fun z => by rw [z, hp] at e; cases e
      rw [if_neg this, mupd_ne this]; exact e
theorem pure_fewest_bits (s : sp_fewest_bits ds h Q' E') : rd_fewest_bits { nx := fun _ h' => Q' .non h', rt := Q' } (mstart N_fewest_bits ds) h := by
  obtain ⟨W, L, rfl, w, l, q⟩ := s
  have szl := szL
  rw [show mstart N_fewest_bits [wD W, nD L] = [some (wD W), some (nD L)] from rfl]
  unfold rd_fewest_bits
  simp only [r_ret, r_cb, r_sl, r_no, r_part, r_op, r_call, r_cons, r_nil, r_var, r_c, List.getElem?_cons_succ, List.getElem?_cons_zero]
  refine ⟨W, L, rfl, w, l, fun h1 x1 => ?_⟩
  have l1 := l.l1
  have e0 : ((rowsL (coinsW W) L).reverse.map intsD)[0]? = some (intsD (rowN (coinsW W) (L - 1))) := by
    unfold rowsL
    rw [← List.map_reverse, List.map_map, List.getElem?_map, List.getElem?_reverse (by simp; omega)]
    simp
    exact ⟨L - 1, by rw [List.getElem?_range (by omega)], rfl⟩
  have e1 : atI ((rowsL (coinsW W) L).reverse.map intsD) 0 = some (intsD (rowN (coinsW W) (L - 1))) := by
    have hl : 0 < ((rowsL (coinsW W) L).reverse.map intsD).length := by simp [rowsL]; omega
    rw [show (0 : Int) = ((0 : Nat) : Int) from rfl, atI_of hl]
    rw [List.getElem?_eq_getElem hl] at e0
    exact e0
  have hr := l.rows
  simp only [wD, nD, o_ix, sq_lst, e1, o_lenDs, wK_len, o_mul, intsD, o_slL]
  rw [cut_to (by omega) (by rw [List.length_map]; omega), ← List.map_take]
  refine ⟨small_mul (by omega), ?_⟩
  refine sum_ints ?_
  have e2 : ((2 : Int) * (W.length : Int)).toNat = 2 * W.length := by omega
  rw [e2]
  exact q _ x1
theorem pure_coins_among (s : sp_coins_among ds h Q' E') : rd_coins_among { nx := fun _ h' => Q' .non h', rt := Q' } (mstart N_coins_among ds) h := by
  obtain ⟨cs, ps, m, rfl, hc, hp, q⟩ := s
  have szl := szL
  rw [show mstart N_coins_among [intsD cs, intsD ps, nD m] = [some (intsD cs), some (intsD ps), some (nD m), none, none] from rfl]
  unfold rd_coins_among
  simp only [r_seq, r_asg, r_tup, r_c, r_cons, r_nil, r_gT, r_gC, r_gN, r_gZ, List.set, List.length_cons, List.length_nil]
  refine ⟨by omega, trivial, ?_⟩
  refine wWhile_inv (fun mm σ h' => ∃ t a : Nat, σ = [some (intsD cs), some (intsD ps), some (nD m), some (nD t), some (nD a)] ∧ h' = h ∧ t ≤ cs.length ∧ a ≤ ps.length ∧ t + a ≤ m ∧ mm = cs.length - t ∧ amL cs ps m = t + amL (cs.drop t) (ps.drop a) (m - t - a)) (m := cs.length) ⟨0, 0, rfl, rfl, by omega, by omega, by omega, by omega, by simp⟩ ?_
  rintro mm σ h' K ⟨t, a, rfl, rfl, ht, ha, hm, rfl, eq⟩ hK
  simp only [r_test, r_cb, r_op, r_cons, r_nil, r_var, List.getElem?_cons_succ, List.getElem?_cons_zero, nD, intsD, o_lenL, List.length_map]
  show (fun b : Bool => if b = true then lb_coins_among_1 { nx := K, rt := Q', bk := wRet (wVar 3) { nx := fun x h' => Q' D.non h', rt := Q' }, ct := K } [some (D.lst (List.map D.int cs)), some (D.lst (List.map D.int ps)), some (D.int ↑m), some (D.int ↑t), some (D.int ↑a)] h' else wRet (wVar 3) { nx := fun x h' => Q' D.non h', rt := Q' } [some (D.lst (List.map D.int cs)), some (D.lst (List.map D.int ps)), some (D.int ↑m), some (D.int ↑t), some (D.int ↑a)] h') (decide ((t : Int) < (cs.length : Int)))
  by_cases hc' : t < cs.length
  · rw [decide_eq_true (by omega)]
    simp only [if_true]
    obtain ⟨c, ec⟩ : ∃ c, cs[t]? = some c := ⟨cs[t], List.getElem?_eq_getElem hc'⟩
    have ac : atI (cs.map D.int) ((t : Nat) : Int) = some (D.int c) := by
      rw [atI_of (by rw [List.length_map]; omega), List.getElem_map, (List.getElem?_eq_some_iff.mp ec).2]
    have dt : cs.drop t = c :: cs.drop (t + 1) := by rw [List.drop_eq_getElem_cons hc', (List.getElem?_eq_some_iff.mp ec).2]
    unfold lb_coins_among_1
    simp only [r_seq]
    refine wWhile_inv (fun mm σ h2 => ∃ b : Nat, σ = [some (intsD cs), some (intsD ps), some (nD m), some (nD t), some (nD b)] ∧ h2 = h' ∧ a ≤ b ∧ b ≤ ps.length ∧ mm = ps.length - b ∧ ((ps.drop a).takeWhile fun p => decide (p < c)).length = (b - a) + ((ps.drop b).takeWhile fun p => decide (p < c)).length ∧ ((ps.drop a).dropWhile fun p => decide (p < c)) = (ps.drop b).dropWhile fun p => decide (p < c)) (m := ps.length - a) ⟨a, rfl, rfl, by omega, ha, rfl, by omega, rfl⟩ ?_
    rintro mm σ h2 K2 ⟨b, rfl, rfl, hab, hb, rfl, e1, e2⟩ hK2
    have fin : ((ps.drop a).takeWhile fun p => decide (p < c)).length = b - a → ((ps.drop a).dropWhile fun p => decide (p < c)) = ps.drop b → if (m : Int) ≤ (t : Int) + (b : Int) then Q' (D.int ↑t) h2 else K [some (D.lst (List.map D.int cs)), some (D.lst (List.map D.int ps)), some (D.int ↑m), some (D.int (↑t + 1)), some (D.int ↑b)] h2 := fun f1 f2 => by
      rw [dt, amL, f1, f2] at eq
      by_cases hm' : m ≤ t + b
      · rw [if_neg (by omega)] at eq
        rw [if_pos (by omega)]
        have : amL cs ps m = t := eq
        rw [this] at q
        exact q
      · rw [if_pos (by omega)] at eq
        rw [if_neg (by omega)]
        refine hK (cs.length - (t + 1)) _ _ (by omega) ⟨t + 1, b, ?_, rfl, by omega, hb, by omega, rfl, ?_⟩
        · simp [nD, intsD]
        · rw [eq, show m - t - a - (b - a) - 1 = m - (t + 1) - b by omega]
          omega
    by_cases hb' : b < ps.length
    · obtain ⟨p, ep⟩ : ∃ p, ps[b]? = some p := ⟨ps[b], List.getElem?_eq_getElem hb'⟩
      have ap : atI (ps.map D.int) ((b : Nat) : Int) = some (D.int p) := by
        rw [atI_of (by rw [List.length_map]; omega), List.getElem_map, (List.getElem?_eq_some_iff.mp ep).2]
      have db : ps.drop b = p :: ps.drop (b + 1) := by rw [List.drop_eq_getElem_cons hb', (List.getElem?_eq_some_iff.mp ep).2]
      rw [db] at e1 e2
      by_cases hp' : p < c
      · rw [List.takeWhile_cons_of_pos (by simpa using hp'), List.length_cons] at e1
        rw [List.dropWhile_cons_of_pos (by simpa using hp')] at e2
        simp [nD, intsD, hb', ap, ac, hp', lb_coins_among_0]
        refine hK2 (ps.length - (b + 1)) _ _ (by omega) ⟨b + 1, by simp [nD, intsD], rfl, by omega, by omega, rfl, by omega, e2⟩
      · rw [List.takeWhile_cons_of_neg (by simpa using hp'), List.length_nil] at e1
        rw [List.dropWhile_cons_of_neg (by simpa using hp'), ← db] at e2
        simp [nD, intsD, hb', ap, ac, hp']
        exact fin (by omega) e2
    · have bl : b = ps.length := by omega
      rw [bl, List.drop_length] at e1 e2
      simp [nD, intsD, hb']
      exact fin (by rw [e1, bl]; simp) (by rw [e2, bl, List.drop_length]; rfl)
  · rw [decide_eq_false (by omega)]
    have : t = cs.length := by omega
    subst this
    rw [List.drop_length] at eq
    simp [amL] at eq
    simp
    try unfold nD at q
    rw [← eq]
    exact q
theorem pure_coins_taken (s : sp_coins_taken ds h Q' E') : rd_coins_taken { nx := fun _ h' => Q' .non h', rt := Q' } (mstart N_coins_taken ds) h := by
  obtain ⟨W, L, rfl, w, l, q⟩ := s
  have szl := szL
  rw [show mstart N_coins_taken [wD W, nD L] = [some (wD W), some (nD L), none, none, none, none, none, none] from rfl]
  unfold rd_coins_taken
  simp only [r_seq, r_par, r_set, r_call, r_lstM, r_cons, r_nil, r_var, List.getElem?_cons_succ, List.getElem?_cons_zero, List.set]
  refine ⟨W, rfl, w, W, L, rfl, w, l, fun h1 x1 => ?_⟩
  refine ⟨by simp, fun p hp => ?_⟩
  have l1 := l.l1
  have l16 := l.l16
  have wl := w.len
  have cl := coins_len W
  have rl : ∀ k, (rowN (coinsW W) k).length ≤ 600 := fun k => by have := rowN_top (coinsW W) k; omega
  have ec : cut ((rowsL (coinsW W) L).reverse.map intsD) (some 1) none = (rowsL (coinsW W) (L - 1)).reverse.map intsD := by
    obtain ⟨k, rfl⟩ : ∃ k, L = k + 1 := ⟨L - 1, by omega⟩
    rw [cut_from (by omega) (by first | (simp [rowsL]; done) | (simp [rowsL]; omega)), rows_snoc, List.reverse_append]
    simp
  have ed : (rowsL (coinsW W) (L - 1)).reverse.map intsD ++ [D.lst []] = ((rowsL (coinsW W) (L - 1)).reverse ++ [[]]).map intsD := by rw [List.map_append]; rfl
  simp only [r_op, r_c, r_cb, r_cons, r_nil, r_var, List.getElem?_cons_succ, List.getElem?_cons_zero, wD, nD, o_lenDs, wK_len, o_mul, r_for, r_it, r_sl, r_no, r_part, r_lst, o_slL, List.length_nil, List.length_cons, ec, o_addL, List.length_map]
  refine ⟨small_mul (by omega), by omega, ?_⟩
  rw [ed]
  simp only [row_lst]
  refine ⟨by first | (simp [rowsL]; done) | (simp [rowsL]; omega), by first | (simp [rowsL]; done) | (simp [rowsL]; omega), ?_⟩
  refine wLoop_inv (fun i σ h' => ∃ v2 v7 : Option D, ∃ m : Nat, ∃ done : List Nat, σ = [some (wD W), some (nD L), v2, some (intsD (coinsW W)), some (.lst ((rowsL (coinsW W) L).reverse.map intsD)), some (.ref p), some (nD m), v7] ∧ h' = mupd h1 p (.lst (done.map nD)) ∧ done.length = i ∧ i ≤ L ∧ (∀ j, L = i + j + 1 → tkW W L = done ++ takenL (coinsW W) j m) ∧ (L = i → tkW W L = done)) ?_ ?_ ?_
  · refine ⟨none, none, 2 * W.length, [], ?_, rfl, rfl, by omega, fun j hj => ?_, fun h0 => by omega⟩
    · simp [wD, nD]
    · unfold tkW
      rw [show L - 1 = j by omega]; rfl
  · rintro i d σ h' K e ⟨v2, v7, m, done, rfl, rfl, dl, hi, inv, _⟩ hK
    have hi' : i < L := by
      have := (List.getElem?_eq_some_iff.mp e).1
      simp [rowsL] at this
      omega
    obtain ⟨j, hj⟩ : ∃ j, L = i + j + 1 := ⟨L - i - 1, by omega⟩
    have iv := inv j hj
    obtain ⟨r, er, hr, et⟩ : ∃ r : List Int, d = intsD r ∧ r.length ≤ 600 ∧ ∃ rest : List Nat, takenL (coinsW W) j m = amL (coinsW W) (pairsL r) m :: rest ∧ (∀ j2, j = j2 + 1 → rest = takenL (coinsW W) j2 (2 * (m - amL (coinsW W) (pairsL r) m))) ∧ (j = 0 → rest = []) := by
      rw [List.getElem?_map] at e
      cases j with
      | zero =>
        refine ⟨[], ?_, by simp, [], rfl, fun j2 h => by omega, fun _ => rfl⟩
        rw [List.getElem?_append_right (by simp [rowsL]; omega)] at e
        have : i - (rowsL (coinsW W) (L - 1)).reverse.length = 0 := by simp [rowsL]; omega
        rw [this] at e
        exact (Option.some.inj e).symm
      | succ j =>
        refine ⟨rowN (coinsW W) j, ?_, rl j, _, rfl, fun j2 h => ?_, fun h => by omega⟩
        · rw [List.getElem?_append_left (by simp [rowsL]; omega), List.getElem?_reverse (by simp [rowsL]; omega)] at e
          have : (rowsL (coinsW W) (L - 1)).length - 1 - i = j := by simp [rowsL]; omega
          rw [this] at e
          unfold rowsL at e
          rw [List.getElem?_map, List.getElem?_range (by omega)] at e
          exact (Option.some.inj e).symm
        · have : j2 = j := by omega
          rw [this]
    subst er
    obtain ⟨rest, t1, t2, t3⟩ := et
    have pl := pairs_len r
    have le := (am_le (coinsW W) (pairsL r) m).2
    unfold lb_coins_taken_0
    simp [nD]
    refine ⟨r, rfl, by omega, coinsW W, pairsL r, m, rfl, by omega, by omega, ?_⟩
    have m2 : mulOk 2 ((m : Int) - ((amL (coinsW W) (pairsL r) m : Nat) : Int)) := small_mul (by omega)
    simp [nD, mupd_same, mupd_mupd, m2]
    refine ⟨by omega, hK _ _ ⟨some (intsD r), some (nD (amL (coinsW W) (pairsL r) m)), 2 * (m - amL (coinsW W) (pairsL r) m), done ++ [amL (coinsW W) (pairsL r) m], ?_, ?_, ?_, hi', fun j2 h2 => ?_, fun h2 => ?_⟩⟩
    · simp only [nD, List.map_reverse]
      rw [show (2 : Int) * ((m : Int) - ((amL (coinsW W) (pairsL r) m : Nat) : Int)) = ((2 * (m - amL (coinsW W) (pairsL r) m) : Nat) : Int) by omega]
    · rw [List.map_append]; rfl
    · rw [List.length_append, dl]; rfl
    · rw [iv, t1, t2 j2 (by omega), List.append_assoc]; rfl
    · rw [iv, t1, t3 (by omega)]
  · rintro σ h' ⟨v2, v7, m, done, rfl, rfl, dl, hi, inv, inv0⟩
    have e : tkW W L = done := inv0 (by simp [rowsL]; omega)
    simp [mupd_same]
    rw [← e]
    refine q _ fun b c eb => ?_
    have eb := x1 b c eb
    unfold mdel
    have : b ≠ p := fun z => by rw [z, hp] at eb; cases eb
    rw [if_neg this, mupd_ne this]; exact eb
theorem codesD_at {C : List (Nat × List Int)} (x : Nat) : atD (codesD C) (.inl (x : Int)) = (C.lookup x).map fun b => .tup (b.map .int) := by
  induction C with
  | nil => rfl
  | cons z C ih =>
    unfold atD codesD at ih ⊢
    rw [List.map_cons, List.find?_cons, List.lookup_cons]
    by_cases h : z.1 = x
    · subst h; simp
    · have h1 : (x == z.1) = false := by simpa using fun e => h e.symm
      have h2 : decide ((Sum.inl ((z.1 : Nat) : Int) : Key) = .inl (x : Int)) = false := by simp; omega
      rw [h1]
      simp only [h2]
      exact ih
theorem look_mem {C : List (Nat × List Int)} {x : Nat} (h : x ∈ C.map (·.1)) : ∃ b, C.lookup x = some b ∧ (x, b) ∈ C := by
  induction C with
  | nil => cases h
  | cons z C ih =>
    rw [List.lookup_cons]
    by_cases e : z.1 = x
    · subst e; exact ⟨z.2, by simp, by simp⟩
    · have h1 : (x == z.1) = false := by simpa using fun e' => e e'.symm
      rw [h1]
      rw [List.map_cons] at h
      obtain ⟨b, h2, h3⟩ := ih ((List.mem_cons.mp h).resolve_left fun e' => e e'.symm)
      exact ⟨b, h2, by simp [h3]⟩
theorem pure_bits_by (s : sp_bits_by ds h Q' E') : rd_bits_by (fun _ => E') { nx := fun _ h' => Q' .non h', rt := Q' } (mstart N_bits_by ds) h := by
  obtain ⟨W, C, rfl, w, hin, hl, q⟩ := s
  have szl := szL
  rw [show mstart N_bits_by [wD W, .dct (codesD C)] = [some (wD W), some (.dct (codesD C)), none] from rfl]
  unfold rd_bits_by
  simp only [r_seq, r_for, r_it, r_cb, r_cons, r_nil, r_var, List.getElem?_cons_succ, List.getElem?_cons_zero]
  have ek : intsOf (keysD' (wK W)) = some (W.map fun z => (z.1 : Int)) := by
    rw [wK_keys, List.map_map]
    exact ints_map (fun z : Nat × Nat => (z.1 : Int)) W
  simp only [wD, o_sortDc, ek, wK_len]
  refine ⟨by have := w.len; omega, ?_⟩
  simp only [row_lst]
  refine wLoop_inv (fun i σ h' => ∃ v, σ = [some (.dcl (wK W)), some (.dct (codesD C)), v] ∧ h' = h) ⟨_, rfl, rfl⟩ ?_ ?_
  · rintro i d σ h' K e ⟨v, rfl, rfl⟩ hK
    rw [List.getElem?_map] at e
    cases ei : (sortI (W.map fun z => (z.1 : Int)))[i]? with
    | none => rw [ei] at e; cases e
    | some x =>
      rw [ei] at e
      cases e
      have hm := (srt_perm _).mem_iff.mp (List.mem_of_getElem? ei)
      obtain ⟨z, hz, rfl⟩ := List.mem_map.mp hm
      obtain ⟨y, hy, ey⟩ := List.mem_map.mp (hin z hz)
      obtain ⟨b, hb, _⟩ := look_mem (hin z hz)
      have ha : atD (codesD C) (.inl (z.1 : Int)) = some (.tup (b.map .int)) := by rw [codesD_at, hb]; rfl
      unfold lb_bits_by_0
      simp [ha]
      exact hK _ _ ⟨_, rfl, rfl⟩
  · rintro σ h' ⟨v, rfl, rfl⟩
    simp
    rw [wK_keys, List.map_map]
    refine lc_over (fun z : Nat × Nat => nD z.1) (fun z => .int ((z.2 : Int) * (((C.lookup z.1).getD []).length : Int))) W (by have := w.len; omega) (fun z hz K k => ⟨_, rfl, ?_⟩) ?_
    · have e := (w.at hz).2
      obtain ⟨b, hb, hbm⟩ := look_mem (hin z hz)
      have ha : atD (codesD C) (.inl (z.1 : Int)) = some (.tup (b.map .int)) := by rw [codesD_at, hb]; rfl
      have hbl := hl _ hbm
      simp [List.set, mwipe, nD]
      rw [e, ha]
      rw [hb] at k
      simp [nD]
      have mo : mulOk (z.2 : Int) (b.length : Int) := small_mulR (by simp at hbl; omega)
      exact ⟨mo, by simpa using k⟩
    · have e2 : (W.map fun z => D.int ((z.2 : Int) * (((C.lookup z.1).getD []).length : Int))) = (W.map fun z => (z.2 : Int) * (((C.lookup z.1).getD []).length : Int)).map D.int := by rw [List.map_map]; rfl
      rw [e2]
      exact sum_ints q
end

end LM
namespace LO
open PySem PySem.Spec PyProof.Rows L2 BP


open TB LM
theorem sumP {a b : List Int} (h : a.Perm b) : a.sum = b.sum := by
  induction h with
  | nil => rfl
  | cons x _ ih => rw [List.sum_cons, List.sum_cons, ih]
  | swap x y l => simp only [List.sum_cons]; omega
  | trans _ _ i1 i2 => exact i1.trans i2
theorem take_min : ∀ (l : List Int), l.Pairwise (· ≤ ·) → ∀ (s r : List Int), (s ++ r).Perm l → (l.take s.length).sum ≤ s.sum
  | [], _, s, r, p => by
    have := p.length_eq
    simp at this
    have : s = [] := this.1
    subst this; simp
  | a :: l, h, s, r, p => by
    have h1 := List.pairwise_cons.mp h
    by_cases ha : a ∈ s
    · have e := List.perm_cons_erase ha
      have ih := take_min l h1.2 (s.erase a) r ((List.Perm.cons_inv (a := a)) ((e.symm.append_right r).trans p))
      have el := e.length_eq
      have es : s.sum = a + (s.erase a).sum := sumP e
      rw [el, List.length_cons, List.take_succ_cons, List.sum_cons, es]
      omega
    · cases s with
      | nil => simp
      | cons x s =>
        have hr : a ∈ r := by
          have : a ∈ (x :: s) ++ r := p.mem_iff.mpr (by simp)
          rcases List.mem_append.mp this with h | h
          · exact absurd h ha
          · exact h
        have e := List.perm_cons_erase hr
        have hx : a ≤ x := by
          have : x ∈ a :: l := p.mem_iff.mp (by simp)
          rcases List.mem_cons.mp this with rfl | h
          · exact Int.le_refl _
          · exact h1.1 x h
        have p2 : (s ++ x :: r.erase a).Perm l := by
          refine List.Perm.cons_inv (a := a) (List.Perm.trans ?_ p)
          refine List.Perm.trans ?_ (e.symm.append_left (x :: s))
          refine List.Perm.trans ((List.perm_middle (a := x) (l₁ := s) (l₂ := r.erase a)).cons a) ?_
          refine List.Perm.trans (List.Perm.swap x a _) ?_
          rw [List.cons_append]
          exact (List.perm_middle (a := a) (l₁ := s) (l₂ := r.erase a)).symm.cons x
        have ih := take_min l h1.2 s (x :: r.erase a) p2
        rw [List.length_cons, List.take_succ_cons, List.sum_cons, List.sum_cons]
        omega
theorem sum_nn : ∀ {l : List Int}, (∀ x ∈ l, 0 ≤ x) → 0 ≤ l.sum
  | [], _ => by simp
  | x :: l, h => by
    have := sum_nn (l := l) fun y hy => h y (by simp [hy])
    have := h x (by simp)
    rw [List.sum_cons]; omega
theorem take_le {l s r : List Int} {m : Nat} (h : l.Pairwise (· ≤ ·)) (h0 : ∀ x ∈ l, 0 ≤ x) (p : (s ++ r).Perm l) (hm : m ≤ s.length) : (l.take m).sum ≤ s.sum := by
  have h1 := take_min l h (s.take m) (s.drop m ++ r) (by rw [← List.append_assoc, List.take_append_drop]; exact p)
  rw [List.length_take, Nat.min_eq_left hm] at h1
  have h2 : s.sum = (s.take m).sum + (s.drop m).sum := by conv => lhs; rw [← List.take_append_drop m s, List.sum_append]
  have h3 : 0 ≤ (s.drop m).sum := sum_nn fun x hx => h0 x (p.mem_iff.mp (List.mem_append_left _ (List.mem_of_mem_drop hx)))
  omega
theorem pm_opt {cs : List Int} (hc : cs.Pairwise (· ≤ ·)) (h0 : ∀ x ∈ cs, 0 ≤ x) : ∀ (k : Nat) (S : List (List Int)) (m : Nat), S.length = k + 1 → (∀ s ∈ S, ∃ r, (s ++ r).Perm cs) → m * 2 ^ k ≤ vsum (S.map List.length) →
    m ≤ (rowN cs k).length ∧ ((rowN cs k).take m).sum ≤ (S.map List.sum).sum
  | 0, [s], m, _, hS, hv => by
    obtain ⟨r, p⟩ := hS s (by simp)
    have hm : m ≤ s.length := by simpa [vsum] using hv
    have hl := p.length_eq
    rw [List.length_append] at hl
    refine ⟨by rw [rowN]; omega, ?_⟩
    rw [rowN]
    simpa using take_le hc h0 p hm
  | k + 1, s :: S, m, hl, hS, hv => by
    have hl : S.length = k + 1 := by simpa using hl
    obtain ⟨r, p⟩ := hS s (by simp)
    have pl := p.length_eq
    rw [List.length_append] at pl
    have rl := rowN_len cs k
    have rs := rowN_sorted hc (k + 1)
    have rg := rowN_ge h0 (k + 1)
    simp only [List.map_cons, List.sum_cons]
    have low : 0 ≤ (S.map List.sum).sum := sum_nn fun x hx => by
      obtain ⟨t, ht, rfl⟩ := List.mem_map.mp hx
      obtain ⟨r2, p2⟩ := hS t (by simp [ht])
      exact sum_nn fun y hy => h0 y (p2.mem_iff.mp (List.mem_append_left _ hy))
    by_cases ht : m ≤ s.length
    · refine ⟨by omega, ?_⟩
      have pr : (s ++ (r ++ pairsL (rowN cs k))).Perm (rowN cs (k + 1)) := by
        rw [rowN, ← List.append_assoc]
        exact (p.append_right _).trans (srt_perm _).symm
      have := take_le rs rg pr ht
      omega
    · have hv2 : 2 * (m - s.length) * 2 ^ k ≤ vsum (S.map List.length) := by
        simp only [List.map_cons, vsum, List.length_map, hl] at hv
        have e : 2 * (m - s.length) * 2 ^ k = (m - s.length) * 2 ^ (k + 1) := by rw [Nat.pow_succ, Nat.mul_comm 2, Nat.mul_assoc, Nat.mul_comm 2]
        rw [e, Nat.sub_mul]
        omega
      obtain ⟨i1, i2⟩ := pm_opt hc h0 k S (2 * (m - s.length)) hl (fun t ht => hS t (by simp [ht])) hv2
      have pt := pairs_take (m - s.length) (rowN cs k) i1
      have plen := LM.pairs_len (rowN cs k)
      refine ⟨by omega, ?_⟩
      have pr : ((s ++ (pairsL (rowN cs k)).take (m - s.length)) ++ (r ++ (pairsL (rowN cs k)).drop (m - s.length))).Perm (rowN cs (k + 1)) := by
        rw [rowN]
        refine List.Perm.trans ?_ (srt_perm _).symm
        refine List.Perm.trans ?_ (p.append_right (pairsL (rowN cs k)))
        conv => rhs; rw [← List.take_append_drop (m - s.length) (pairsL (rowN cs k))]
        simp only [List.append_assoc]
        refine List.Perm.append_left s ?_
        rw [← List.append_assoc, ← List.append_assoc]
        exact (List.perm_append_comm).append_right _
      have := take_le (m := m) rs rg pr (by rw [List.length_append, List.length_take, plen]; omega)
      rw [List.sum_append] at this
      omega
  | _, [], _, h, _, _ => by simp at h
  | 0, _ :: _ :: _, _, h, _, _ => by simp at h
def selD (P : List (Int × Nat)) (d : Nat) : List Int := (P.filter fun z => decide (d < z.2)).map (·.1)
theorem sel_sum : ∀ (P : List (Int × Nat)) (L : Nat), (∀ z ∈ P, z.2 ≤ L) → ((List.range L).map fun d => (selD P d).sum).sum = (P.map fun z => z.1 * (z.2 : Int)).sum
  | [], L, _ => by
    have : ((List.range L).map fun d => (selD [] d).sum) = (List.range L).map fun _ => (0 : Int) := by rfl
    rw [this]
    induction L with
    | zero => rfl
    | succ L ih => rw [List.range_succ, List.map_append, List.sum_append, ih (by simp) rfl]; simp
  | z :: P, L, h => by
    have ih := sel_sum P L fun y hy => h y (by simp [hy])
    rw [List.map_cons, List.sum_cons, ← ih]
    have hz := h z (by simp)
    have e : ∀ n, ((List.range n).map fun d => (selD (z :: P) d).sum).sum = z.1 * ((min n z.2 : Nat) : Int) + ((List.range n).map fun d => (selD P d).sum).sum := by
      intro n
      induction n with
      | zero => simp
      | succ n ihn =>
        rw [List.range_succ, List.map_append, List.sum_append, ihn, List.map_append, List.sum_append]
        simp only [List.map_cons, List.map_nil, List.sum_cons, List.sum_nil]
        unfold selD
        by_cases hn : n < z.2
        · rw [List.filter_cons_of_pos (by simpa using hn), List.map_cons, List.sum_cons, Nat.min_eq_left (by omega), Nat.min_eq_left (by omega)]
          have : z.1 * ((n + 1 : Nat) : Int) = z.1 * (n : Int) + z.1 := by rw [Int.natCast_add, Int.mul_add]; simp
          rw [this]; omega
        · rw [List.filter_cons_of_neg (by simpa using hn), Nat.min_eq_right (by omega), Nat.min_eq_right (by omega)]
          omega
    rw [e L, Nat.min_eq_right hz]
theorem sel_val : ∀ (P : List (Int × Nat)) (L : Nat), (∀ z ∈ P, z.2 ≤ L) → vsum ((List.range L).map fun d => (selD P d).length) + (P.map fun z => 2 ^ (L - z.2)).sum = P.length * 2 ^ L := by
  have vs : ∀ (xs ys : List Nat), xs.length = ys.length → vsum ((xs.zip ys).map fun z => z.1 + z.2) = vsum xs + vsum ys := by
    intro xs
    induction xs with
    | nil => intro ys h; cases ys with
      | nil => rfl
      | cons _ _ => cases h
    | cons x xs ih => intro ys h; cases ys with
      | nil => cases h
      | cons y ys =>
        have h : xs.length = ys.length := by simpa using h
        simp only [List.zip_cons_cons, List.map_cons, vsum, List.length_map, List.length_zip, ih ys h, h, Nat.min_self, Nat.add_mul]
        omega
  have snoc : ∀ (xs : List Nat) (x : Nat), vsum (xs ++ [x]) = 2 * vsum xs + x := by
    intro xs
    induction xs with
    | nil => intro x; simp [vsum]
    | cons y xs ih =>
      intro x
      simp only [List.cons_append, vsum, ih, List.length_append, List.length_cons, List.length_nil, Nat.pow_succ]
      have : y * (2 ^ xs.length * 2) = 2 * (y * 2 ^ xs.length) := by rw [← Nat.mul_assoc, Nat.mul_comm]
      omega
  have one : ∀ (l L : Nat), l ≤ L → vsum ((List.range L).map fun d => if d < l then 1 else 0) + 2 ^ (L - l) = 2 ^ L := by
    intro l L
    induction L with
    | zero => intro h; have : l = 0 := by omega
              subst this; rfl
    | succ L ih =>
      intro h
      rw [List.range_succ, List.map_append, List.map_cons, List.map_nil, snoc]
      by_cases hl : l = L + 1
      · subst hl
        rw [if_pos (by omega)]
        have e : ((List.range L).map fun d => if d < L + 1 then 1 else 0) = (List.range L).map fun d => if d < L then 1 else 0 := List.map_congr_left fun d hd => by
          have : d < L := by simpa using hd
          rw [if_pos (by omega), if_pos this]
        have o : vsum ((List.range L).map fun d => if d < L then 1 else 0) + 1 = 2 ^ L := by
          clear e ih h
          induction L with
          | zero => rfl
          | succ L ih2 =>
            rw [List.range_succ, List.map_append, List.map_cons, List.map_nil, snoc, if_pos (by omega)]
            have e : ((List.range L).map fun d => if d < L + 1 then 1 else 0) = (List.range L).map fun d => if d < L then 1 else 0 := List.map_congr_left fun d hd => by
              have : d < L := by simpa using hd
              rw [if_pos (by omega), if_pos this]
            rw [e, Nat.pow_succ]; omega
        rw [e, Nat.sub_self, Nat.pow_zero, Nat.pow_succ]; omega
      · rw [if_neg (by omega)]
        have := ih (by omega)
        rw [show L + 1 - l = (L - l) + 1 by omega, Nat.pow_succ, Nat.pow_succ]
        omega
  intro P L
  induction P with
  | nil =>
    intro _
    have : vsum ((List.range L).map fun d => (selD [] d).length) = 0 := by
      have : ((List.range L).map fun d => (selD [] d).length) = (List.range L).map fun _ => 0 := rfl
      rw [this]
      induction L with
      | zero => rfl
      | succ L ih => rw [List.range_succ, List.map_append, List.map_cons, List.map_nil, snoc, ih (by simp) rfl]
    rw [this]; simp
  | cons z P ih =>
    intro h
    have ih := ih fun y hy => h y (by simp [hy])
    have o := one z.2 L (h z (by simp))
    have e : ((List.range L).map fun d => (selD (z :: P) d).length) = (((List.range L).map fun d => if d < z.2 then 1 else 0).zip ((List.range L).map fun d => (selD P d).length)).map fun z => z.1 + z.2 := by
      rw [List.zip_map', List.map_map]
      refine List.map_congr_left fun d _ => ?_
      show _ = (if d < z.2 then 1 else 0) + (selD P d).length
      unfold selD
      by_cases hd : d < z.2
      · rw [if_pos hd, List.filter_cons_of_pos (by simpa using hd)]; simp; omega
      · rw [if_neg hd, List.filter_cons_of_neg (by simpa using hd)]; simp
    rw [e, vs _ _ (by simp), List.map_cons, List.sum_cons, List.length_cons, Nat.succ_mul]
    omega
theorem Lim.opt {W : List (Nat × Nat)} {L : Nat} (l : Lim W L) {P : List (Int × Nat)} (hp : (P.map (·.1)).Perm (W.map fun z => (z.2 : Int))) (hl : ∀ z ∈ P, z.2 ≤ L) (hk : (P.map fun z => 2 ^ (L - z.2)).sum < 2 ^ L) : fewL W L ≤ (P.map fun z => z.1 * (z.2 : Int)).sum := by
  have l1 := l.l1
  have hc := coins_sorted W
  have h0 := coins_ge W
  obtain ⟨P', hP⟩ : ∃ P', P' = (0, L) :: P := ⟨_, rfl⟩
  have hl' : ∀ z ∈ P', z.2 ≤ L := fun z hz => by
    rw [hP] at hz
    rcases List.mem_cons.mp hz with rfl | hz
    · exact Nat.le_refl _
    · exact hl z hz
  have len : P.length = W.length := by have := hp.length_eq; simpa using this
  have sv := sel_val P' L hl'
  have ss := sel_sum P' L hl'
  have pc : (P'.map (·.1)).Perm (coinsW W) := by
    rw [hP]
    exact (hp.cons 0).trans (srt_perm _).symm
  have e1 : (P'.map fun z => 2 ^ (L - z.2)).sum = 1 + (P.map fun z => 2 ^ (L - z.2)).sum := by rw [hP, List.map_cons, List.sum_cons]; simp
  have e2 : (P'.map fun z => z.1 * (z.2 : Int)).sum = (P.map fun z => z.1 * (z.2 : Int)).sum := by rw [hP, List.map_cons, List.sum_cons]; simp
  have e3 : P'.length = W.length + 1 := by rw [hP, List.length_cons, len]
  rw [e1, e3, Nat.succ_mul] at sv
  have hv : 2 * W.length * 2 ^ (L - 1) ≤ vsum (((List.range L).map fun d => selD P' d).map List.length) := by
    have e : 2 * W.length * 2 ^ (L - 1) = W.length * 2 ^ L := by
      rw [show L = (L - 1) + 1 by omega, Nat.pow_succ, Nat.add_sub_cancel, Nat.mul_comm 2, Nat.mul_assoc, Nat.mul_comm 2]
    rw [e, List.map_map]
    have : vsum ((List.range L).map (List.length ∘ fun d => selD P' d)) = vsum ((List.range L).map fun d => (selD P' d).length) := rfl
    rw [this]
    omega
  have := (pm_opt hc h0 (L - 1) ((List.range L).map fun d => selD P' d) (2 * W.length) (by simp; omega) (fun s hs => by
    obtain ⟨d, _, rfl⟩ := List.mem_map.mp hs
    refine ⟨(P'.filter fun z => !decide (d < z.2)).map (·.1), ?_⟩
    unfold selD
    rw [← List.map_append]
    exact ((List.filter_append_perm _ _).map _).trans pc) hv).2
  rw [List.map_map] at this
  have e4 : ((List.range L).map (List.sum ∘ fun d => selD P' d)).sum = ((List.range L).map fun d => (selD P' d).sum).sum := rfl
  rw [e4, ss, e2] at this
  exact this







end LO
namespace LK
open PySem PySem.Spec PyProof.Rows L2 BP


open TB TY LM LO
def codeL (C : List (Nat × List Int)) (s : Nat) : List Int := (C.lookup s).getD []
theorem look_in {C : List (Nat × List Int)} (nd : (C.map (·.1)).Nodup) {z : Nat × List Int} (h : z ∈ C) : C.lookup z.1 = some z.2 := by
  induction C with
  | nil => cases h
  | cons y C ih =>
    rw [List.map_cons, List.nodup_cons] at nd
    rw [List.lookup_cons]
    rcases List.mem_cons.mp h with rfl | h
    · simp
    · have : (z.1 == y.1) = false := by
        simp
        rintro e
        exact nd.1 (by rw [← e]; exact List.mem_map.mpr ⟨z, h, rfl⟩)
      rw [this]
      exact ih nd.2 h
structure Tb (S row ss : List Nat) : Prop where
  ex : ∃ ps : List (Nat × Nat), ps.Perm (row.zip S) ∧ ps.Pairwise (fun a b => a.1 ≤ b.1) ∧ ss = ps.map (·.2)
def tabD (row ss : List Nat) : D := .tup [.tup ((countsL row).map nD), .tup (ss.map nD)]
structure Sr (S row : List Nat) : Prop where
  nd : S.Nodup
  sb : ∀ s ∈ S, s ≤ 255
  ln : row.length = S.length
  l1 : ∀ l ∈ row, 1 ≤ l ∧ l ≤ 16
  rm : kr row < 65536
  few : S.length ≤ 255
theorem zip_fst {row S : List Nat} (h : row.length = S.length) : (row.zip S).map (·.1) = row := by
  rw [List.map_fst_zip (by omega)]
theorem zip_snd {row S : List Nat} (h : row.length = S.length) : (row.zip S).map (·.2) = S := by
  rw [List.map_snd_zip (by omega)]
theorem Sr.tab {S row ss : List Nat} (r : Sr S row) (t : Tb S row ss) : IsTab (tabD row ss) (countsL row) ss := by
  obtain ⟨ps, p1, p2, rfl⟩ := t.ex
  have pm : (ps.map (·.2)).Perm S := by
    have := p1.map (·.2)
    rw [zip_snd r.ln] at this; exact this
  obtain ⟨c1, c2⟩ := counts_room row r.l1
  refine ⟨rfl, counts_len _, fun c hc => ?_, by rw [c1]; exact r.rm, by rw [pm.length_eq, c2, r.ln], fun x hx => r.sb x (pm.mem_iff.mp hx), pm.nodup_iff.mpr r.nd⟩
  have := mem_le_sum hc
  rw [c2, r.ln] at this
  have := r.few
  omega
theorem Sr.lens {S row ss : List Nat} (r : Sr S row) (t : Tb S row ss) : ∀ z ∈ row.zip S, (z.2, codeL (codesM (countsL row) ss) z.2) ∈ codesM (countsL row) ss ∧ (codeL (codesM (countsL row) ss) z.2).length = z.1 := by
  have tb := r.tab t
  obtain ⟨ps, p1, p2, e⟩ := t.ex
  have hf := codes_fst tb
  have hl := codes_lens tb
  have ex : expL 1 (countsL row) = ps.map (·.1) := by
    have pf : (ps.map (·.1)).Perm row := by
      have := p1.map (·.1)
      rw [zip_fst r.ln] at this; exact this
    refine List.Perm.eq_of_pairwise (le := (· ≤ ·)) (fun a b _ _ h1 h2 => Nat.le_antisymm h1 h2) (exp_sorted _ 1) (List.pairwise_map.mpr p2) ((exp_perm r.l1).trans pf.symm)
  obtain ⟨C, hC⟩ : ∃ C, codesM (countsL row) ss = C := ⟨_, rfl⟩
  rw [hC] at hf hl ⊢
  have eC : C.map (fun z => (z.2.length, z.1)) = ps := by
    have z1 : C.map (fun z => (z.2.length, z.1)) = (C.map fun z => z.2.length).zip (C.map (·.1)) := by rw [List.zip_map']
    rw [z1, hl, hf, ex, e]
    have : (ps.map (·.1)).zip (ps.map (·.2)) = ps := by rw [List.zip_map']; simp
    exact this
  intro z hz
  have hz := p1.mem_iff.mpr hz
  rw [← eC] at hz
  obtain ⟨y, hy, rfl⟩ := List.mem_map.mp hz
  have nd : (C.map (·.1)).Nodup := by rw [hf]; exact tb.nd
  have lk := look_in nd hy
  unfold codeL
  rw [lk]
  exact ⟨hy, rfl⟩
def bitsS (W : List (Nat × Nat)) (S row : List Nat) : Int := ((row.zip S).map fun z => (wtS W z.2 : Int) * (z.1 : Int)).sum
theorem bitsW_eq {W : List (Nat × Nat)} (w : Wt W) (C : List (Nat × List Int)) : bitsW W C = ((W.map (·.1)).map fun s => (wtS W s : Int) * ((codeL C s).length : Int)).sum := by
  unfold bitsW
  rw [List.map_map]
  congr 1
  exact List.map_congr_left fun z hz => by
    show (z.2 : Int) * _ = (wtS W z.1 : Int) * _
    rw [(w.at hz).1]; rfl
theorem bits_by_zip {W : List (Nat × Nat)} (w : Wt W) {S row : List Nat} (pm : S.Perm (W.map (·.1))) (ln : row.length = S.length) {C : List (Nat × List Int)} (h : ∀ z ∈ row.zip S, (codeL C z.2).length = z.1) : bitsW W C = bitsS W S row := by
  rw [bitsW_eq w, ← sumP (pm.map fun s => (wtS W s : Int) * ((codeL C s).length : Int))]
  unfold bitsS
  have e : S = (row.zip S).map (·.2) := (zip_snd ln).symm
  conv => lhs; rw [e]
  rw [List.map_map]
  congr 1
  exact List.map_congr_left fun z hz => by
    show (wtS W z.2 : Int) * ((codeL C z.2).length : Int) = _
    rw [h z hz]
def leastR (W : List (Nat × Nat)) (L : Nat) (ss S : List Nat) : List Nat := S.map fun s => (codeL (codesM (countsL (lensW W L)) ss) s).length
theorem least_row {W : List (Nat × Nat)} {L : Nat} {ss S : List Nat} (l : Lim W L) (w : Wt W) (y : Sy W ss) (pm : S.Perm (W.map (·.1))) :
    (leastR W L ss S).length = S.length ∧ (∀ x ∈ leastR W L ss S, 1 ≤ x ∧ x ≤ L) ∧ kr (leastR W L ss S) < 65536 ∧ bitsS W S (leastR W L ss S) = fewL W L := by
  have t := l.tab w y
  have hf := codes_fst t
  have e := l.few w y hf
  have le := l.codes_le w y
  have cl := codes_lens t
  have kl := l.kr
  have ex := exp_perm (ls := lensW W L) fun x hx => by have := l.lens x hx; have := l.l16; omega
  unfold leastR
  obtain ⟨C, hC⟩ : ∃ C, codesM (countsL (lensW W L)) ss = C := ⟨_, rfl⟩
  rw [hC] at hf e le cl ⊢
  have nd : (C.map (·.1)).Nodup := by rw [hf]; exact t.nd
  have pc : S.Perm (C.map (·.1)) := by rw [hf]; exact pm.trans y.pm.symm
  have inC : ∀ s ∈ S, (s, codeL C s) ∈ C := fun s hs => by
    obtain ⟨z, hz, rfl⟩ := List.mem_map.mp (pc.mem_iff.mp hs)
    unfold codeL
    rw [look_in nd hz]; exact hz
  have ep : (S.map fun s => (codeL C s).length).Perm (lensW W L) := by
    refine (pc.map fun s => (codeL C s).length).trans ?_
    rw [List.map_map]
    have : (C.map ((fun s => (codeL C s).length) ∘ fun x => x.1)) = C.map fun z => z.2.length := List.map_congr_left fun z hz => by
      show (codeL C z.1).length = _
      unfold codeL
      rw [look_in nd hz]; rfl
    rw [this, cl]
    exact ex
  refine ⟨by simp, fun x hx => ?_, ?_, ?_⟩
  · obtain ⟨s, hs, rfl⟩ := List.mem_map.mp hx
    exact le _ (inC s hs)
  · unfold kr at kl ⊢
    rw [(ep.map fun l => 2 ^ (16 - l)).sum_nat]
    exact kl
  · rw [← bits_by_zip (C := C) w pm (by simp) fun z hz => ?_]
    · rw [bitsW_eq w, ← e]
      unfold bitsL
      rw [← sumP (pm.map fun s => (wtS W s : Int) * ((codeL C s).length : Int)), sumP (pc.map fun s => (wtS W s : Int) * ((codeL C s).length : Int)), List.map_map]
      congr 1
      exact List.map_congr_left fun z hz => by
        show (wtS W z.1 : Int) * ((codeL C z.1).length : Int) = _
        unfold codeL
        rw [look_in nd hz]; rfl
    · have : z ∈ S.map fun s => ((codeL C s).length, s) := by
        have : (S.map fun s => (codeL C s).length).zip S = S.map fun s => ((codeL C s).length, s) := by
          conv => lhs; rw [show (S.map fun s => (codeL C s).length).zip S = (S.map fun s => (codeL C s).length).zip (S.map id) by simp]
          rw [List.zip_map']; rfl
        rw [← this]; exact hz
      obtain ⟨s, hs, rfl⟩ := List.mem_map.mp this
      rfl
def isL (W : List (Nat × Nat)) (C : List (Nat × List Int)) (L : Nat) : Bool := (W.all fun z => decide (z.1 ∈ C.map (·.1)) && decide ((codeL C z.1).length ≤ L)) && decide (bitsW W C = fewL W L)
theorem isL_of {W : List (Nat × Nat)} {C : List (Nat × List Int)} {L : Nat} (h : ∀ z ∈ W, z.1 ∈ C.map (·.1) ∧ (codeL C z.1).length ≤ L) : isL W C L = decide (bitsW W C = fewL W L) := by
  have : (W.all fun z => decide (z.1 ∈ C.map (·.1)) && decide ((codeL C z.1).length ≤ L)) = true := by
    rw [List.all_eq_true]
    intro z hz
    rw [Bool.and_eq_true, decide_eq_true_eq, decide_eq_true_eq]
    exact h z hz
  unfold isL
  rw [this, Bool.true_and]
end LK
namespace HF
open PySem PySem.Spec PyProof.Rows L2 BP


open LM LO LK
abbrev WH := Int × Nat
theorem perm_pick {α β : Type} [DecidableEq α] {f : α → β} {Q : List α} {x : β} {r : List β} (h : (Q.map f).Perm (x :: r)) : ∃ q Q', Q.Perm (q :: Q') ∧ f q = x ∧ (Q'.map f).Perm r := by
  have hx : x ∈ Q.map f := h.mem_iff.mpr List.mem_cons_self
  obtain ⟨q, hq, rfl⟩ := List.mem_map.mp hx
  have p := List.perm_cons_erase hq
  refine ⟨q, Q.erase q, p, rfl, ?_⟩
  exact List.Perm.cons_inv (((p.map f).symm).trans h)
def costQ (Q : List (Int × Nat)) : Int := (Q.map fun z => z.1 * (z.2 : Int)).sum
def krQ (M : Nat) (Q : List (Int × Nat)) : Nat := (Q.map fun z => 2 ^ (M - z.2)).sum
theorem cost_perm {P Q : List (Int × Nat)} (h : P.Perm Q) : costQ P = costQ Q := by
  unfold costQ
  exact LO.sumP (h.map _)
theorem natsumP {a b : List Nat} (h : a.Perm b) : a.sum = b.sum := by
  induction h with
  | nil => rfl
  | cons x _ ih => simp [ih]
  | swap x y l => simp; omega
  | trans _ _ i1 i2 => exact i1.trans i2
theorem kr_perm {M : Nat} {P Q : List (Int × Nat)} (h : P.Perm Q) : krQ M P = krQ M Q := natsumP (h.map _)
theorem cost_cons (z : Int × Nat) (Q : List (Int × Nat)) : costQ (z :: Q) = z.1 * (z.2 : Int) + costQ Q := by simp [costQ]
theorem kr_cons (M : Nat) (z : Int × Nat) (Q : List (Int × Nat)) : krQ M (z :: Q) = 2 ^ (M - z.2) + krQ M Q := by simp [krQ]
theorem deepest : ∀ {Q : List (Int × Nat)}, Q ≠ [] → ∃ q ∈ Q, ∀ z ∈ Q, z.2 ≤ q.2
  | [], h => absurd rfl h
  | [z], _ => ⟨z, by simp, by simp⟩
  | z :: y :: Q, _ => by
    obtain ⟨q, hq, hm⟩ := deepest (Q := y :: Q) (by simp)
    by_cases h : z.2 ≤ q.2
    · refine ⟨q, List.mem_cons_of_mem _ hq, fun w hw => ?_⟩
      rcases List.mem_cons.mp hw with rfl | hw
      · exact h
      · exact hm w hw
    · refine ⟨z, List.mem_cons_self, fun w hw => ?_⟩
      rcases List.mem_cons.mp hw with rfl | hw
      · exact Nat.le_refl _
      · have := hm w hw; omega
theorem swap_deep {M : Nat} {Q : List (Int × Nat)} {a : Int} {r : List Int} (pm : (Q.map (·.1)).Perm (a :: r)) (ha : ∀ x ∈ r, a ≤ x) : ∃ (d : Nat) (Q' : List (Int × Nat)), (Q'.map (·.1)).Perm r ∧ (∀ z ∈ Q', z.2 ≤ d) ∧ (∃ z ∈ Q, z.2 = d) ∧ a * (d : Int) + costQ Q' ≤ costQ Q ∧ 2 ^ (M - d) + krQ M Q' = krQ M Q ∧ ((∀ z ∈ Q, z.2 ≤ M) → d ≤ M ∧ ∀ z ∈ Q', z.2 ≤ M) := by
  obtain ⟨⟨a', da⟩, Q1, p1, rfl, pm1⟩ := perm_pick pm
  simp only at *
  have hQ := fun (h : ∀ z ∈ Q, z.2 ≤ M) => (fun z (hz : z ∈ (a', da) :: Q1) => h z (p1.mem_iff.mpr hz))
  by_cases h : ∀ z ∈ Q1, z.2 ≤ da
  · refine ⟨da, Q1, pm1, h, ⟨_, p1.mem_iff.mpr List.mem_cons_self, rfl⟩, by rw [cost_perm p1, cost_cons]; exact Int.le_refl _, by rw [kr_perm p1, kr_cons], fun hm => ⟨hQ hm _ List.mem_cons_self, fun z hz => hQ hm z (List.mem_cons_of_mem _ hz)⟩⟩
  · have ne : Q1 ≠ [] := by rintro rfl; exact h (fun z hz => by cases hz)
    obtain ⟨⟨x, dx⟩, hq, hm⟩ := deepest ne
    have hlt : da < dx := by
      refine Nat.lt_of_not_le fun hle => h fun z hz => Nat.le_trans (hm z hz) hle
    have p2 := List.perm_cons_erase hq
    have hax : a' ≤ x := ha x (pm1.mem_iff.mp (List.mem_map.mpr ⟨_, hq, rfl⟩))
    refine ⟨dx, (x, da) :: Q1.erase (x, dx), ?_, ?_, ⟨_, p1.mem_iff.mpr (List.mem_cons_of_mem _ hq), rfl⟩, ?_, ?_, ?_⟩
    · exact (p2.map (·.1)).symm.trans pm1
    · intro z hz
      rcases List.mem_cons.mp hz with rfl | hz
      · exact Nat.le_of_lt hlt
      · exact hm z (List.mem_of_mem_erase hz)
    · have c1 : costQ Q = a' * (da : Int) + (x * (dx : Int) + costQ (Q1.erase (x, dx))) := by rw [cost_perm p1, cost_cons, cost_perm p2, cost_cons]
      rw [c1, cost_cons]
      simp only
      have e1 : (0 : Int) ≤ (x - a') * ((dx : Int) - da) := Int.mul_nonneg (by omega) (by omega)
      rw [Int.sub_mul, Int.mul_sub, Int.mul_sub] at e1
      omega
    · have c1 : krQ M Q = 2 ^ (M - da) + (2 ^ (M - dx) + krQ M (Q1.erase (x, dx))) := by rw [kr_perm p1, kr_cons, kr_perm p2, kr_cons]
      rw [c1, kr_cons]
      simp only
      omega
    · intro hM
      refine ⟨hQ hM _ (List.mem_cons_of_mem _ hq), fun z hz => ?_⟩
      rcases List.mem_cons.mp hz with rfl | hz
      · exact hQ hM (a', da) List.mem_cons_self
      · exact hQ hM z (List.mem_cons_of_mem _ (List.mem_of_mem_erase hz))
theorem kr_dvd {M d : Nat} {Q : List (Int × Nat)} (h : ∀ z ∈ Q, z.2 ≤ d) (hd : d ≤ M) : 2 ^ (M - d) ∣ krQ M Q := by
  induction Q with
  | nil => exact ⟨0, by simp [krQ]⟩
  | cons z Q ih =>
    rw [kr_cons]
    refine Nat.dvd_add (Nat.pow_dvd_pow 2 ?_) (ih fun y hy => h y (List.mem_cons_of_mem _ hy))
    have := h z List.mem_cons_self
    omega
def joinH (srt : List WH → List WH) : Nat → List WH → Int × List WH
  | 0, l => (0, l)
  | n + 1, a :: b :: r => (a.1 + b.1 + (joinH srt n (srt ((a.1 + b.1, 1 + max a.2 b.2) :: r))).1, (joinH srt n (srt ((a.1 + b.1, 1 + max a.2 b.2) :: r))).2)
  | _ + 1, l => (0, l)
structure Srt (srt : List WH → List WH) : Prop where
  perm : ∀ l, (srt l).Perm l
  ord : ∀ l, (srt l).Pairwise fun x y => x.1 ≤ y.1
theorem join_low {srt : List WH → List WH} (S : Srt srt) {M : Nat} : ∀ (n : Nat) (l : List WH) (Q : List (Int × Nat)), l.length = n + 1 → l.Pairwise (fun x y => x.1 ≤ y.1) → (∀ z ∈ l, 0 ≤ z.1) → (Q.map (·.1)).Perm (l.map (·.1)) → (∀ z ∈ Q, z.2 ≤ M) → krQ M Q ≤ 2 ^ M → (joinH srt n l).1 ≤ costQ Q
  | 0, l, Q, hl, _, h0, pm, _, _ => by
    show (0 : Int) ≤ costQ Q
    unfold costQ
    refine LO.sum_nn fun x hx => ?_
    obtain ⟨z, hz, rfl⟩ := List.mem_map.mp hx
    have : z.1 ∈ l.map (·.1) := pm.mem_iff.mp (List.mem_map.mpr ⟨z, hz, rfl⟩)
    obtain ⟨y, hy, e⟩ := List.mem_map.mp this
    have := h0 y hy
    exact Int.mul_nonneg (by omega) (by omega)
  | n + 1, a :: b :: r, Q, hl, ho, h0, pm, hM, hk => by
    simp only [List.map_cons] at pm
    rw [List.pairwise_cons] at ho
    obtain ⟨oa, ho⟩ := ho
    have ob := (List.pairwise_cons.mp ho).1
    obtain ⟨da, Q1, pm1, dm1, _, c1, k1, m1⟩ := swap_deep (M := M) pm (fun x hx => by
      rcases List.mem_cons.mp hx with rfl | hx
      · exact oa b List.mem_cons_self
      · obtain ⟨z, hz, rfl⟩ := List.mem_map.mp hx
        exact oa z (List.mem_cons_of_mem _ hz))
    obtain ⟨mda, mQ1⟩ := m1 hM
    obtain ⟨db, Q2, pm2, dm2, ⟨zb, hzb, ezb⟩, c2, k2, m2⟩ := swap_deep (M := M) pm1 (fun x hx => by
      obtain ⟨z, hz, rfl⟩ := List.mem_map.mp hx
      exact ob z hz)
    obtain ⟨mdb, mQ2⟩ := m2 mQ1
    have hba : db ≤ da := by rw [← ezb]; exact dm1 zb hzb
    obtain ⟨u, hu⟩ := kr_dvd dm2 mdb
    obtain ⟨v, hv⟩ : 2 ^ (M - db) ∣ 2 ^ M := Nat.pow_dvd_pow 2 (by omega)
    have pa : 0 < 2 ^ (M - da) := Nat.pow_pos (by decide)
    have pT : 0 < 2 ^ (M - db) := Nat.pow_pos (by decide)
    have hlt : 2 ^ (M - db) * (1 + u) < 2 ^ (M - db) * v := by
      rw [Nat.mul_add, Nat.mul_one, ← hu, ← hv]
      omega
    have huv := Nat.lt_of_mul_lt_mul_left hlt
    have hT2 : 2 * 2 ^ (M - db) + krQ M Q2 ≤ 2 ^ M := by
      rw [hv, hu]
      have := Nat.mul_le_mul_left (2 ^ (M - db)) (show 2 + u ≤ v by omega)
      rw [Nat.mul_add, Nat.mul_comm _ 2] at this
      exact this
    have db1 : 1 ≤ db := by
      cases db with
      | zero => rw [Nat.sub_zero] at hT2 pT; omega
      | succ d => omega
    have e2 : 2 ^ (M - (db - 1)) = 2 * 2 ^ (M - db) := by
      rw [show M - (db - 1) = (M - db) + 1 by omega, Nat.pow_succ, Nat.mul_comm]
    have ih := join_low S (M := M) n (srt ((a.1 + b.1, 1 + max a.2 b.2) :: r)) ((a.1 + b.1, db - 1) :: Q2) (by rw [(S.perm _).length_eq]; simpa using hl) (S.ord _) (fun z hz => by
      rcases List.mem_cons.mp ((S.perm _).mem_iff.mp hz) with rfl | hz
      · have h1 := h0 a List.mem_cons_self
        have h2 := h0 b (List.mem_cons_of_mem _ List.mem_cons_self)
        simp only; omega
      · exact h0 z (List.mem_cons_of_mem _ (List.mem_cons_of_mem _ hz))) (by
      have := ((S.perm ((a.1 + b.1, 1 + max a.2 b.2) :: r)).map (·.1)).symm
      simp only [List.map_cons] at this ⊢
      exact (List.Perm.cons _ pm2).trans this) (fun z hz => by
      rcases List.mem_cons.mp hz with rfl | hz
      · simp only; omega
      · exact mQ2 z hz) (by rw [kr_cons]; simp only; rw [e2]; exact hT2)
    rw [cost_cons] at ih
    simp only [joinH] at ih ⊢
    have ha0 := h0 a List.mem_cons_self
    have e3 : (a.1 + b.1) * ((db - 1 : Nat) : Int) = (a.1 + b.1) * (db : Int) - (a.1 + b.1) := by
      rw [show ((db - 1 : Nat) : Int) = (db : Int) - 1 by omega, Int.mul_sub, Int.mul_one]
    rw [e3, Int.add_mul] at ih
    have e4 : a.1 * (db : Int) ≤ a.1 * (da : Int) := Int.mul_le_mul_of_nonneg_left (by omega) ha0
    omega
theorem join_up {srt : List WH → List WH} (S : Srt srt) : ∀ (n : Nat) (l : List WH), l.length = n + 1 → ∃ (W : Int) (H : Nat) (Q : List (WH × Nat)), (joinH srt n l).2 = [(W, H)] ∧ (Q.map (·.1)).Perm l ∧ ((Q.map fun z => z.1.1 * (z.2 : Int)).sum = (joinH srt n l).1) ∧ (∀ z ∈ Q, z.1.2 + z.2 ≤ H) ∧ ∀ M, H ≤ M → (Q.map fun z => 2 ^ (M - z.2)).sum = 2 ^ M
  | 0, [(w, h)], _ => ⟨w, h, [((w, h), 0)], rfl, List.Perm.refl _, by simp [joinH], by simp, by simp⟩
  | n + 1, a :: b :: r, hl => by
    obtain ⟨W, H, Q, e1, pm, e2, hh, hk⟩ := join_up S n (srt ((a.1 + b.1, 1 + max a.2 b.2) :: r)) (by rw [(S.perm _).length_eq]; simpa using hl)
    obtain ⟨⟨q, d⟩, Q', p1, hq, pm2⟩ := perm_pick (pm.trans (S.perm _))
    simp only at hq
    subst hq
    have hd := hh _ (p1.mem_iff.mpr List.mem_cons_self)
    simp only at hd
    refine ⟨W, H, (a, d + 1) :: (b, d + 1) :: Q', e1, ?_, ?_, ?_, ?_⟩
    · exact (pm2.cons b).cons a
    · have e3 := LO.sumP (p1.map fun z => z.1.1 * (z.2 : Int))
      rw [e2] at e3
      simp only [List.map_cons, List.sum_cons] at e3 ⊢
      simp only [joinH]
      rw [e3, Int.add_mul]
      rw [show ((d + 1 : Nat) : Int) = (d : Int) + 1 by omega, Int.mul_add, Int.mul_add]
      omega
    · intro z hz
      rcases List.mem_cons.mp hz with rfl | hz
      · simp only; omega
      rcases List.mem_cons.mp hz with rfl | hz
      · simp only; omega
      · exact hh z (p1.mem_iff.mpr (List.mem_cons_of_mem _ hz))
    · intro M hM
      have e3 := natsumP (p1.map fun z => 2 ^ (M - z.2))
      rw [hk M hM] at e3
      simp only [List.map_cons, List.sum_cons] at e3 ⊢
      have : 2 ^ (M - d) = 2 ^ (M - (d + 1)) + 2 ^ (M - (d + 1)) := by
        rw [show M - d = (M - (d + 1)) + 1 by omega, Nat.pow_succ]; omega
      omega
theorem dot_zip : ∀ (cs : List Int) (ls : List Nat), dotI cs ls = costQ (cs.zip ls)
  | [], _ => by simp [dotI, costQ]
  | _ :: _, [] => by simp [dotI, costQ]
  | c :: cs, l :: ls => by
    rw [List.zip_cons_cons, cost_cons, ← dot_zip cs ls]
    rfl
theorem few_join {srt : List WH → List WH} (S : Srt srt) {W : List (Nat × Nat)} {L : Nat} (l : Lim W L) {l0 : List WH} (pm : l0.Perm ((0, 0) :: W.map fun z => ((z.2 : Int), 0))) (ho : l0.Pairwise fun x y => x.1 ≤ y.1) {w : Int} {H : Nat} (e : (joinH srt W.length l0).2 = [(w, H)]) (hH : H ≤ L) : (joinH srt W.length l0).1 = fewL W L := by
  have ll : l0.length = W.length + 1 := by rw [pm.length_eq]; simp
  have pf : (l0.map (·.1)).Perm (0 :: W.map fun z => (z.2 : Int)) := by
    have := pm.map (·.1)
    simpa [List.map_map, Function.comp_def] using this
  refine Int.le_antisymm ?_ ?_
  · have hlen := lens_len W L
    have sl : (sortI (W.map fun z => (z.2 : Int))).length = W.length := by rw [srt_len]; simp
    have h := join_low S (M := L) W.length l0 ((0, L) :: (sortI (W.map fun z => (z.2 : Int))).zip (lensW W L)) ll ho (fun z hz => by
      rcases List.mem_cons.mp (pm.mem_iff.mp hz) with rfl | hz
      · simp
      · obtain ⟨y, _, rfl⟩ := List.mem_map.mp hz
        simp) (by
      refine List.Perm.trans ?_ pf.symm
      simp only [List.map_cons]
      refine List.Perm.cons _ ?_
      rw [show ((sortI (W.map fun z => (z.2 : Int))).zip (lensW W L)).map (·.1) = sortI (W.map fun z => (z.2 : Int)) from List.map_fst_zip (by omega)]
      exact srt_perm _) (fun z hz => by
      rcases List.mem_cons.mp hz with rfl | hz
      · exact Nat.le_refl _
      · exact (l.lens z.2 (List.of_mem_zip hz).2).2) (by
      have hk := l.kraft
      rw [kr_cons]
      have : krQ L ((sortI (W.map fun z => (z.2 : Int))).zip (lensW W L)) = ((lensW W L).map fun x => 2 ^ (L - x)).sum := by
        unfold krQ
        have e2 : ((sortI (W.map fun z => (z.2 : Int))).zip (lensW W L)).map (·.2) = lensW W L := List.map_snd_zip (by omega)
        conv => rhs; rw [← e2, List.map_map]
        rfl
      rw [this]
      simp only [Nat.sub_self, Nat.pow_zero]
      omega)
    refine Int.le_trans h ?_
    rw [few_dot l, cost_cons]
    simp only [Int.zero_mul, Int.zero_add]
    rw [dot_zip]
    exact Int.le_refl _
  · obtain ⟨w', H', Q, e1, pq, e2, hh, hk⟩ := join_up S W.length l0 ll
    rw [e1] at e
    simp only [List.cons.injEq, Prod.mk.injEq, and_true] at e
    obtain ⟨rfl, rfl⟩ := e
    obtain ⟨⟨q, d⟩, Q', p1, hq, pm2⟩ := perm_pick (pq.trans pm)
    simp only at hq
    subst hq
    have hd := hh _ (p1.mem_iff.mpr List.mem_cons_self)
    simp only at hd
    have e3 := LO.sumP (p1.map fun z => z.1.1 * (z.2 : Int))
    rw [e2] at e3
    simp only [List.map_cons, List.sum_cons, Int.zero_mul, Int.zero_add] at e3
    rw [e3]
    have ek := natsumP (p1.map fun z => 2 ^ (L - z.2))
    rw [hk L hH] at ek
    simp only [List.map_cons, List.sum_cons] at ek
    have := LO.Lim.opt l (P := Q'.map fun z => (z.1.1, z.2)) (by
      have := pm2.map (·.1)
      simpa [List.map_map, Function.comp_def] using this) (fun z hz => by
      obtain ⟨y, hy, rfl⟩ := List.mem_map.mp hz
      have := hh y (p1.mem_iff.mpr (List.mem_cons_of_mem _ hy))
      simp only; omega) (by
      rw [List.map_map]
      have : 0 < 2 ^ (L - d) := Nat.pow_pos (by decide)
      simp only [Function.comp_def]
      omega)
    rw [List.map_map] at this
    exact this
theorem few_pairs {W : List (Nat × Nat)} {L : Nat} (l : Lim W L) : ∃ P : List (Int × Nat), (P.map (·.1)).Perm (W.map fun z => (z.2 : Int)) ∧ (∀ z ∈ P, z.2 ≤ L) ∧ krQ L P < 2 ^ L ∧ costQ P = fewL W L := by
  have hlen := lens_len W L
  have sl : (sortI (W.map fun z => (z.2 : Int))).length = W.length := by rw [srt_len]; simp
  refine ⟨(sortI (W.map fun z => (z.2 : Int))).zip (lensW W L), ?_, fun z hz => (l.lens z.2 (List.of_mem_zip hz).2).2, ?_, ?_⟩
  · rw [show ((sortI (W.map fun z => (z.2 : Int))).zip (lensW W L)).map (·.1) = sortI (W.map fun z => (z.2 : Int)) from List.map_fst_zip (by omega)]
    exact srt_perm _
  · have hk := l.kraft
    have : krQ L ((sortI (W.map fun z => (z.2 : Int))).zip (lensW W L)) = ((lensW W L).map fun x => 2 ^ (L - x)).sum := by
      unfold krQ
      have e2 : ((sortI (W.map fun z => (z.2 : Int))).zip (lensW W L)).map (·.2) = lensW W L := List.map_snd_zip (by omega)
      conv => rhs; rw [← e2, List.map_map]
      rfl
    rw [this]
    exact hk
  · rw [few_dot l, dot_zip]
theorem few_less {W W' : List (Nat × Nat)} {L : Nat} (l : Lim W L) (l' : Lim W' L) {x : Nat} (p : (W.map (·.2)).Perm (x :: W'.map (·.2))) : fewL W' L ≤ fewL W L := by
  obtain ⟨P, p1, hl, hk, hc⟩ := few_pairs l
  have p2 : (W.map fun z => (z.2 : Int)).Perm ((x : Int) :: W'.map fun z => (z.2 : Int)) := by
    have := p.map fun n : Nat => (n : Int)
    simpa [List.map_map, Function.comp_def] using this
  obtain ⟨⟨y, d⟩, P', p3, e, p4⟩ := perm_pick (p1.trans p2)
  simp only at e
  subst e
  have h := LO.Lim.opt l' p4 (fun z hz => hl z (p3.mem_iff.mpr (List.mem_cons_of_mem _ hz))) (by
    have := kr_perm (M := L) p3
    rw [kr_cons] at this
    show krQ L P' < 2 ^ L
    refine Nat.lt_of_le_of_lt ?_ hk
    rw [this]
    exact Nat.le_add_left _ _)
  have c := cost_perm p3
  rw [cost_cons] at c
  have : (0 : Int) ≤ (x : Int) * (d : Int) := Int.mul_nonneg (by omega) (by omega)
  show fewL W' L ≤ _
  have h : fewL W' L ≤ costQ P' := h
  simp only at c
  omega
theorem few_more {W W' : List (Nat × Nat)} {L : Nat} (l : Lim W L) (l' : Lim W' L) {x y : Nat} {R : List Nat} (p : (W.map (·.2)).Perm (x :: R)) (p' : (W'.map (·.2)).Perm (y :: R)) (hxy : x ≤ y) : fewL W L ≤ fewL W' L := by
  obtain ⟨P, p1, hl, hk, hc⟩ := few_pairs l'
  have p2 : (W'.map fun z => (z.2 : Int)).Perm ((y : Int) :: R.map fun n : Nat => (n : Int)) := by
    have := p'.map fun n : Nat => (n : Int)
    simpa [List.map_map, Function.comp_def] using this
  have p2' : (W.map fun z => (z.2 : Int)).Perm ((x : Int) :: R.map fun n : Nat => (n : Int)) := by
    have := p.map fun n : Nat => (n : Int)
    simpa [List.map_map, Function.comp_def] using this
  obtain ⟨⟨y', d⟩, P', p3, e, p4⟩ := perm_pick (p1.trans p2)
  simp only at e
  subst e
  have k3 := kr_perm (M := L) p3
  rw [kr_cons] at k3
  have h := LO.Lim.opt l (P := ((x : Int), d) :: P') (by simp only [List.map_cons]; exact (p4.cons _).trans p2'.symm) (fun z hz => by
    rcases List.mem_cons.mp hz with rfl | hz
    · exact hl ((y : Int), d) (p3.mem_iff.mpr List.mem_cons_self)
    · exact hl z (p3.mem_iff.mpr (List.mem_cons_of_mem _ hz))) (by
    have : krQ L (((x : Int), d) :: P') < 2 ^ L := by
      refine Nat.lt_of_le_of_lt ?_ hk
      rw [k3, kr_cons]
      exact Nat.le_refl _
    exact this)
  have h : fewL W L ≤ costQ (((x : Int), d) :: P') := h
  have c := cost_perm p3
  rw [cost_cons] at c h
  simp only at c h
  have : (x : Int) * (d : Int) ≤ (y : Int) * (d : Int) := Int.mul_le_mul_of_nonneg_right (by omega) (by omega)
  omega





end HF
namespace K23
open PySem PySem.Spec PyProof.Rows L2 BP
def top (i : Nat) : Stmt := PySem.Challenge.pw_blockpics_k23_whole_least_tables_of_many.main.body.getD i (.Pass ⟨0, 0, 0, 0⟩)
abbrev s_is_integer : Stmt := top 10
abbrev s_are_counts : Stmt := top 11
abbrev s_room_taken : Stmt := top 12
abbrev s_are_symbols : Stmt := top 13
abbrev s_table_fault : Stmt := top 14
abbrev s_is_table : Stmt := top 15
abbrev s_check_table : Stmt := top 16
abbrev s_bits_as : Stmt := top 17
abbrev s_codes : Stmt := top 18
abbrev s_is_weight : Stmt := top 21
abbrev s_check_weights : Stmt := top 22
abbrev s_check_limit : Stmt := top 23
abbrev s_check_room : Stmt := top 24
abbrev s_check_all : Stmt := top 25
abbrev s_coins_of : Stmt := top 26
abbrev s_pairs_of : Stmt := top 27
abbrev s_rows_of : Stmt := top 28
abbrev s_fewest_bits : Stmt := top 29
abbrev s_least_bits : Stmt := top 30
abbrev s_coins_among : Stmt := top 31
abbrev s_coins_taken : Stmt := top 32
abbrev s_least_table : Stmt := top 33
abbrev s_bits_by : Stmt := top 34
abbrev s_table_bits : Stmt := top 35
abbrev s_is_least : Stmt := top 36
abbrev s_by_limits : Stmt := top 37
abbrev s_law_cell_at : Stmt := top 39
abbrev s_law_source_of : Stmt := top 40
abbrev s_law_next : Stmt := top 41
abbrev s_law_one : Stmt := top 42
abbrev s_law_lengths : Stmt := top 43
abbrev s_law_weights : Stmt := top 44
abbrev s_law_free_bits : Stmt := top 45
abbrev s_law_bits_by : Stmt := top 46
abbrev s_law_right : Stmt := top 47
abbrev s_law : Stmt := top 48
def known (n : String) : Bool := n == "NoTable" || n == "NoSymbol" || n == "NoWeights" || n == "NoLimit" || n == "NoRoom"
def is_PicError (n : String) : Bool := true
def is_NoTable (n : String) : Bool := n == "NoTable"
def is_NoSymbol (n : String) : Bool := n == "NoSymbol"
def is_NoWeights (n : String) : Bool := n == "NoWeights"
def is_NoLimit (n : String) : Bool := n == "NoLimit"
def is_NoRoom (n : String) : Bool := n == "NoRoom"
abbrev k_LONGEST : D := .int 16
abbrev k_MOST_WEIGHT : D := .int 1000000000000000000
abbrev k_WHOLE : D := .int 65536
abbrev q_check_weights : Str := "check_weights.<locals>.<lambda>"
abbrev q_least_table : Str := "least_table.<locals>.<lambda>"
abbrev dd_least_bits : List D := [.int 16]
abbrev dd_least_table : List D := [.int 16]
def g_kd_least_bits_1 : {α : Type} → List α → List α → List α → List α := fun us its ws => match us, its, ws with | [u0], [t0], [] => [u0, t0] | _, _, _ => us
def g_kd_least_table_1 : {α : Type} → List α → List α → List α → List α := fun us its ws => match us, its, ws with | [u0], [t0], [] => [u0, t0] | _, _, _ => us
def g_kw_by_limits_weights : {α : Type} → List α → List α := fun l => match l with | [v0] => [v0] | _ => l
abbrev si_NoTable : Stmt := (clsBody (top 2)).getD 0 (.Pass ⟨0, 0, 0, 0⟩)
theorem xd_NoTable : XDef ["part"] si_NoTable where
  body := ⟨[("part", ⟨7, 25, 7, 29⟩)], [("part", ⟨8, 8, 8, 12⟩, ⟨8, 8, 8, 17⟩, ⟨8, 20, 8, 24⟩, ⟨8, 8, 8, 24⟩)], ⟨7, 8, 7, 13⟩, ⟨7, 8, 7, 15⟩, ⟨7, 8, 7, 24⟩, ⟨7, 8, 7, 30⟩, ⟨7, 8, 7, 30⟩, rfl, rfl, rfl, fun env => ⟨⟨_, rfl⟩, fun _ => rfl⟩⟩
  par := ⟨_, rfl, rfl⟩
  kind := rfl
  co := rfl
  gen := rfl
  cells := by decide +kernel
  sup := by decide +kernel
  cls := by decide +kernel
  slf := by decide +kernel
  loc := by decide +kernel
  nd := by decide +kernel
  ne := by decide
  bind := fun _ _ _ _ _ _ _ us hl => match us, hl with | [_, _], _ => rfl
abbrev si_NoSymbol : Stmt := (clsBody (top 3)).getD 0 (.Pass ⟨0, 0, 0, 0⟩)
theorem xd_NoSymbol : XDef ["symbol"] si_NoSymbol where
  body := ⟨[("symbol", ⟨12, 25, 12, 31⟩)], [("symbol", ⟨13, 8, 13, 12⟩, ⟨13, 8, 13, 19⟩, ⟨13, 22, 13, 28⟩, ⟨13, 8, 13, 28⟩)], ⟨12, 8, 12, 13⟩, ⟨12, 8, 12, 15⟩, ⟨12, 8, 12, 24⟩, ⟨12, 8, 12, 32⟩, ⟨12, 8, 12, 32⟩, rfl, rfl, rfl, fun env => ⟨⟨_, rfl⟩, fun _ => rfl⟩⟩
  par := ⟨_, rfl, rfl⟩
  kind := rfl
  co := rfl
  gen := rfl
  cells := by decide +kernel
  sup := by decide +kernel
  cls := by decide +kernel
  slf := by decide +kernel
  loc := by decide +kernel
  nd := by decide +kernel
  ne := by decide
  bind := fun _ _ _ _ _ _ _ us hl => match us, hl with | [_, _], _ => rfl
abbrev si_NoWeights : Stmt := (clsBody (top 4)).getD 0 (.Pass ⟨0, 0, 0, 0⟩)
theorem xd_NoWeights : XDef ["symbol"] si_NoWeights where
  body := ⟨[("symbol", ⟨17, 25, 17, 31⟩)], [("symbol", ⟨18, 8, 18, 12⟩, ⟨18, 8, 18, 19⟩, ⟨18, 22, 18, 28⟩, ⟨18, 8, 18, 28⟩)], ⟨17, 8, 17, 13⟩, ⟨17, 8, 17, 15⟩, ⟨17, 8, 17, 24⟩, ⟨17, 8, 17, 32⟩, ⟨17, 8, 17, 32⟩, rfl, rfl, rfl, fun env => ⟨⟨_, rfl⟩, fun _ => rfl⟩⟩
  par := ⟨_, rfl, rfl⟩
  kind := rfl
  co := rfl
  gen := rfl
  cells := by decide +kernel
  sup := by decide +kernel
  cls := by decide +kernel
  slf := by decide +kernel
  loc := by decide +kernel
  nd := by decide +kernel
  ne := by decide
  bind := fun _ _ _ _ _ _ _ us hl => match us, hl with | [_, _], _ => rfl
abbrev si_NoLimit : Stmt := (clsBody (top 5)).getD 0 (.Pass ⟨0, 0, 0, 0⟩)
theorem xd_NoLimit : XDef ["limit"] si_NoLimit where
  body := ⟨[("limit", ⟨22, 25, 22, 30⟩)], [("limit", ⟨23, 8, 23, 12⟩, ⟨23, 8, 23, 18⟩, ⟨23, 21, 23, 26⟩, ⟨23, 8, 23, 26⟩)], ⟨22, 8, 22, 13⟩, ⟨22, 8, 22, 15⟩, ⟨22, 8, 22, 24⟩, ⟨22, 8, 22, 31⟩, ⟨22, 8, 22, 31⟩, rfl, rfl, rfl, fun env => ⟨⟨_, rfl⟩, fun _ => rfl⟩⟩
  par := ⟨_, rfl, rfl⟩
  kind := rfl
  co := rfl
  gen := rfl
  cells := by decide +kernel
  sup := by decide +kernel
  cls := by decide +kernel
  slf := by decide +kernel
  loc := by decide +kernel
  nd := by decide +kernel
  ne := by decide
  bind := fun _ _ _ _ _ _ _ us hl => match us, hl with | [_, _], _ => rfl
abbrev si_NoRoom : Stmt := (clsBody (top 6)).getD 0 (.Pass ⟨0, 0, 0, 0⟩)
theorem xd_NoRoom : XDef ["limit"] si_NoRoom where
  body := ⟨[("limit", ⟨27, 25, 27, 30⟩)], [("limit", ⟨28, 8, 28, 12⟩, ⟨28, 8, 28, 18⟩, ⟨28, 21, 28, 26⟩, ⟨28, 8, 28, 26⟩)], ⟨27, 8, 27, 13⟩, ⟨27, 8, 27, 15⟩, ⟨27, 8, 27, 24⟩, ⟨27, 8, 27, 31⟩, ⟨27, 8, 27, 31⟩, rfl, rfl, rfl, fun env => ⟨⟨_, rfl⟩, fun _ => rfl⟩⟩
  par := ⟨_, rfl, rfl⟩
  kind := rfl
  co := rfl
  gen := rfl
  cells := by decide +kernel
  sup := by decide +kernel
  cls := by decide +kernel
  slf := by decide +kernel
  loc := by decide +kernel
  nd := by decide +kernel
  ne := by decide
  bind := fun _ _ _ _ _ _ _ us hl => match us, hl with | [_, _], _ => rfl
structure Ad where
  f_is_integer : Addr
  e_is_integer : FuncData
  f_are_counts : Addr
  e_are_counts : FuncData
  f_room_taken : Addr
  e_room_taken : FuncData
  f_are_symbols : Addr
  e_are_symbols : FuncData
  f_table_fault : Addr
  e_table_fault : FuncData
  f_is_table : Addr
  e_is_table : FuncData
  f_check_table : Addr
  e_check_table : FuncData
  f_bits_as : Addr
  e_bits_as : FuncData
  f_codes : Addr
  e_codes : FuncData
  f_is_weight : Addr
  e_is_weight : FuncData
  f_check_weights : Addr
  e_check_weights : FuncData
  f_check_limit : Addr
  e_check_limit : FuncData
  f_check_room : Addr
  e_check_room : FuncData
  f_check_all : Addr
  e_check_all : FuncData
  f_coins_of : Addr
  e_coins_of : FuncData
  f_pairs_of : Addr
  e_pairs_of : FuncData
  f_rows_of : Addr
  e_rows_of : FuncData
  f_fewest_bits : Addr
  e_fewest_bits : FuncData
  f_least_bits : Addr
  e_least_bits : FuncData
  f_coins_among : Addr
  e_coins_among : FuncData
  f_coins_taken : Addr
  e_coins_taken : FuncData
  f_least_table : Addr
  e_least_table : FuncData
  f_bits_by : Addr
  e_bits_by : FuncData
  f_table_bits : Addr
  e_table_bits : FuncData
  f_is_least : Addr
  e_is_least : FuncData
  f_by_limits : Addr
  e_by_limits : FuncData
  f_law_cell_at : Addr
  e_law_cell_at : FuncData
  f_law_source_of : Addr
  e_law_source_of : FuncData
  f_law_next : Addr
  e_law_next : FuncData
  f_law_one : Addr
  e_law_one : FuncData
  f_law_lengths : Addr
  e_law_lengths : FuncData
  f_law_weights : Addr
  e_law_weights : FuncData
  f_law_free_bits : Addr
  e_law_free_bits : FuncData
  f_law_bits_by : Addr
  e_law_bits_by : FuncData
  f_law_right : Addr
  e_law_right : FuncData
  f_law : Addr
  e_law : FuncData
  x_PicError : Addr
  i_PicError : Addr
  x_NoTable : Addr
  i_NoTable : Addr
  x_NoSymbol : Addr
  i_NoSymbol : Addr
  x_NoWeights : Addr
  i_NoWeights : Addr
  x_NoLimit : Addr
  i_NoLimit : Addr
  x_NoRoom : Addr
  i_NoRoom : Addr
  c_check_weights : Addr
  p_check_weights : Addr
  c_least_table : Addr
  p_least_table : Addr
  t_LONGEST : Tok
  t_MOST_WEIGHT : Tok
  t_WHOLE : Tok

abbrev sp_law_cell_at : MSp := spCell
abbrev sp_law_source_of : MSp := spSrcOf
abbrev sp_law_next : MSp := spNext
abbrev sp_law_one : MSp := spOne
abbrev sp_is_integer : MSp := TB.sp_is_integer
abbrev sp_are_counts : MSp := TB.sp_are_counts
abbrev sp_room_taken : MSp := TB.sp_room_taken
abbrev sp_are_symbols : MSp := TB.sp_are_symbols
abbrev sp_table_fault : MSp := TB.sp_table_fault
abbrev sp_is_table : MSp := TB.sp_is_table
abbrev sp_check_table : MSp := TB.sp_check_table
abbrev sp_bits_as : MSp := TB.sp_bits_as
abbrev sp_codes : MSp := TB.sp_codes
abbrev sp_is_weight : MSp := LM.sp_is_weight
abbrev sp_check_limit : MSp := LM.sp_check_limit
abbrev sp_check_room : MSp := LM.sp_check_room
abbrev sp_coins_of : MSp := LM.sp_coins_of
abbrev sp_pairs_of : MSp := LM.sp_pairs_of
abbrev sp_rows_of : MSp := LM.sp_rows_of
abbrev sp_fewest_bits : MSp := LM.sp_fewest_bits
abbrev sp_coins_among : MSp := LM.sp_coins_among
abbrev sp_coins_taken : MSp := LM.sp_coins_taken
abbrev sp_bits_by : MSp := LM.sp_bits_by

open TB TY LM LO LK HF
def symS (W : List (Nat × Nat)) : List Nat := (sortI (W.map fun z => (z.1 : Int))).map Int.toNat
theorem sym_perm (W : List (Nat × Nat)) : (symS W).Perm (W.map (·.1)) := by
  unfold symS
  refine ((srt_perm _).map _).trans (List.Perm.of_eq ?_)
  rw [List.map_map]
  exact List.map_congr_left fun z _ => by simp
theorem sym_ints (W : List (Nat × Nat)) : (sortI (W.map fun z => (z.1 : Int))).map D.int = (symS W).map nD := by
  unfold symS
  rw [List.map_map]
  refine List.map_congr_left fun x hx => ?_
  have := (srt_perm _).mem_iff.mp hx
  obtain ⟨z, _, rfl⟩ := List.mem_map.mp this
  rfl
theorem sym_len (W : List (Nat × Nat)) : (symS W).length = W.length := by rw [(sym_perm W).length_eq, List.length_map]
def tab1 (A : Ad) (h : MH) : Prop := h A.p_check_weights = some (.tbl q_check_weights)
def tab2 (A : Ad) (h : MH) : Prop := h A.p_least_table = some (.tbl q_least_table)
def sp_check_weights (A : Ad) : MSp := fun ds h Q _ => ∃ W, ds = [wD W] ∧ Wt W ∧ h A.p_check_weights = some (.tbl q_check_weights) ∧ Q .non h
def sp_check_all (A : Ad) : MSp := fun ds h Q _ => ∃ W L, ds = [wD W, nD L] ∧ Wt W ∧ Lim W L ∧ h A.p_check_weights = some (.tbl q_check_weights) ∧ Q .non h
def sp_least_bits (A : Ad) : MSp := fun ds h Q _ => ∃ W L, ds = [wD W, nD L] ∧ Wt W ∧ Lim W L ∧ h A.p_check_weights = some (.tbl q_check_weights) ∧ ∀ h', Ext h h' → Q (.int (fewL W L)) h'
def sp_least_table (A : Ad) : MSp := fun ds h Q _ => ∃ W L, ds = [wD W, nD L] ∧ Wt W ∧ Lim W L ∧ h A.p_check_weights = some (.tbl q_check_weights) ∧ h A.p_least_table = some (.tbl q_least_table) ∧ ∀ ss h', Sy W ss → Ext h h' → Q (tabL W L ss) h'
def sp_table_bits (A : Ad) : MSp := fun ds h Q _ => ∃ W v cs ss, ds = [wD W, v] ∧ Wt W ∧ IsTab v cs ss ∧ (∀ z ∈ W, z.1 ∈ ss) ∧ h A.p_check_weights = some (.tbl q_check_weights) ∧ Q (.int (bitsW W (codesM cs ss))) h
def sp_is_least (A : Ad) : MSp := fun ds h Q _ => ∃ W L v cs ss, ds = [wD W, v, nD L] ∧ Wt W ∧ Lim W L ∧ IsTab v cs ss ∧ h A.p_check_weights = some (.tbl q_check_weights) ∧ ∀ h', Ext h h' → Q (.bl (isL W (codesM cs ss) L)) h'
def lenP (cs ss : List Nat) : List (Nat × Nat) := ss.zip (expL 1 cs)
def sp_law_lengths : MSp := fun ds h Q _ => ∃ v cs ss, ds = [v] ∧ IsTab v cs ss ∧ Q (.dct (wK (lenP cs ss))) h
def limsW (W : List (Nat × Nat)) : List Nat := ((List.range 16).map (· + 1)).filter fun l => decide (W.length < 2 ^ l)
def limD (W : List (Nat × Nat)) (L : Nat) : D := .tup [nD L, .int (fewL W L)]
def sp_by_limits (A : Ad) : MSp := fun ds h Q _ => ∃ W, ds = [wD W] ∧ Wt W ∧ tab1 A h ∧ ∀ h' p, Ext h h' → h' p = none → Q (.ref p) (mupd h' p (.lst ((limsW W).map (limD W))))
def sp_law_weights : MSp := fun ds h Q _ => ∃ s, ds = [.ref s] ∧ Src h s ∧ ∀ W h', 6 ≤ W.length → W.length ≤ 255 → Wt W → Kept h h' s → Q (wD W) h'
def sp_law_free_bits : MSp := fun ds h Q _ => ∃ W, ds = [wD W] ∧ Wt W ∧ W.length ≤ 255 ∧ ∀ (f : Int) (H : Nat), (∀ L, Lim W L → H ≤ L → f = fewL W L) → Q (.tup [.int f, nD H]) h
def sp_law_bits_by : MSp := fun ds h Q _ => ∃ W L, ds = [wD W, nD L] ∧ Wt W ∧ Lim W L ∧ Q (.int (fewL W L)) h
def sp_law_right (A : Ad) : MSp := fun ds h Q _ => ∃ s, ds = [.ref s] ∧ Src h s ∧ tab1 A h ∧ tab2 A h ∧ ∀ h', Kept h h' s → Q (.bl true) h'
def sp_law (A : Ad) : MSp := fun ds h Q _ => ∃ ns : List Int, ds = [.scr ns] ∧ ns.length ≤ 63 ∧ h A.p_check_weights = some (.tbl q_check_weights) ∧ h A.p_least_table = some (.tbl q_least_table) ∧ ∀ h', Q (.bl true) h'

abbrev N_is_integer : List Str := ["value", "low", "high"]
def rd_is_integer : WS :=
 (wRet (wAndV (wIsi ["int"] (wVar 0)) (wAndV (wNotV (wIsi ["bool"] (wVar 0))) (wLeLe (wVar 1) (wVar 0) (wVar 2)))))

abbrev N_are_counts : List Str := ["value", "count"]
def rd_are_counts : WS :=
 (wSeq (wIfS (wOr (wNot (wTruth (wIsi ["tuple"] (wVar 0)))) (wTest (wOp (opEq true) (wCB fLen (wCons (wVar 0) wNil)) (wC k_LONGEST)))) (wRet (wC (.bl false))) wNext)
 (wSeq (wIfS (wNot (wTruth (wCB fAll (wCons (wLc (wIt (wVar 0)) (put1 1) wYes (wCall sp_is_integer xF (wCons (wVar 1) (wCons (wC (.int 0)) (wCons (wC (.int 255)) wNil)))) [1]) wNil)))) (wRet (wC (.bl false))) wNext)
 (wRet (wLt (wCall sp_room_taken xF (wCons (wVar 0) wNil)) (wC k_WHOLE)))))

abbrev N_room_taken : List Str := ["counts", "length", "count"]
def rd_room_taken : WS :=
 (wRet (wCB fSum (wCons (wLc (wEnum 1 (wVar 0)) (putT [1, 2]) wYes (wShl (wVar 2) (wOp opSub (wC k_LONGEST) (wVar 1))) [1, 2]) wNil)))

abbrev N_are_symbols : List Str := ["value", "many", "symbol"]
def rd_are_symbols : WS :=
 (wSeq (wIfS (wOr (wTest (wOp (opEq true) (wCB fLen (wCons (wVar 0) wNil)) (wVar 1))) (wNot (wTruth (wCB fAll (wCons (wLc (wIt (wVar 0)) (put1 2) wYes (wCall sp_is_integer xF (wCons (wVar 2) (wCons (wC (.int 0)) (wCons (wC (.int 255)) wNil)))) [2]) wNil))))) (wRet (wC (.bl false))) wNext)
 (wRet (wOp (opEq false) (wUn fLenSet (wVar 0)) (wVar 1))))

abbrev N_table_fault : List Str := ["value", "part"]
def rd_table_fault : WS :=
 (wSeq (wIfS (wOr (wNot (wTruth (wIsi ["tuple"] (wVar 0)))) (wOr (wTest (wOp (opEq true) (wCB fLen (wCons (wVar 0) wNil)) (wC (.int 2)))) (wNot (wTruth (wCB fAll (wCons (wLc (wIt (wVar 0)) (put1 1) wYes (wIsi ["tuple"] (wVar 1)) [1]) wNil)))))) (wRet (wC (.str "table"))) wNext)
 (wSeq (wIfS (wNot (wTruth (wCall sp_are_counts xF (wCons (wOp opIx (wVar 0) (wC (.int 0))) wNil)))) (wRet (wC (.str "counts"))) wNext)
 (wRet (wIf (wTruth (wCall sp_are_symbols xF (wCons (wOp opIx (wVar 0) (wC (.int 1))) (wCons (wCB fSumA (wCons (wOp opIx (wVar 0) (wC (.int 0))) wNil)) wNil)))) (wC (.str "")) (wC (.str "symbols"))))))

abbrev N_is_table : List Str := ["value"]
def rd_is_table : WS :=
 (wRet (wOp (opEq false) (wCall sp_table_fault xF (wCons (wVar 0) wNil)) (wC (.str ""))))

abbrev N_check_table : List Str := ["table", "fault"]
def rd_check_table (Es : MSt → XQ) : WS :=
 (wSeq (wSet 1 (wCall sp_table_fault xF (wCons (wVar 0) wNil)))
 (wIfS (wTest (wOp (opEq true) (wVar 1) (wC (.str "")))) (wRaise Es "NoTable" ["part"] (wCons (wVar 1) wNil)) wNext))

abbrev N_bits_as : List Str := ["number", "length", "at"]
def rd_bits_as : WS :=
 (wRet (wCB fTup (wCons (wLc (wRange1 (wVar 1)) (put1 2) wYes (wOp opAnd (wShr (wVar 0) (wOp opSub (wOp opSub (wVar 1) (wC (.int 1))) (wVar 2))) (wC (.int 1))) [2]) wNil)))

def lb_codes_0 : WS :=
 (wSeq (wPutDc (wVar 1) (wVar 6) (wCall sp_bits_as xF (wCons (wVar 2) (wCons (wVar 4) wNil))))
 (wAug 2 (wC (.int 1)) (fun i j => i + j)))
def lb_codes_1 : WS :=
 (wSeq (wSet 2 (wShl (wVar 2) (wC (.int 1))))
 (wSeq (wFor (wIt (wSl (wOp opIx (wVar 0) (wC (.int 1))) (wPart (wVar 3)) (wPart (wOp opAdd (wVar 3) (wVar 5))))) (gN 6) lb_codes_0)
 (wAug 3 (wVar 5) (fun i j => i + j))))
abbrev N_codes : List Str := ["table", "found", "number", "at", "length", "count", "symbol"]
def rd_codes (Es : MSt → XQ) : WS :=
 (wSeq (wDrop (wCall sp_check_table Es (wCons (wVar 0) wNil)))
 (wSeq (wPar3 1 2 3 (wCons wDctM (wCons (wC (.int 0)) (wCons (wC (.int 0)) wNil))))
 (wSeq (wFor (wEnum 1 (wOp opIx (wVar 0) (wC (.int 0)))) (gT 2 (gC (gN 4) (gC (gN 5) gZ))) lb_codes_1)
 (wRet (wVar 1)))))

abbrev N_is_weight : List Str := ["symbol", "weight"]
def rd_is_weight : WS :=
 (wRet (wAndV (wCall sp_is_integer xF (wCons (wVar 0) (wCons (wC (.int 0)) (wCons (wC (.int 255)) wNil)))) (wCall sp_is_integer xF (wCons (wVar 1) (wCons (wC (.int 1)) (wCons (wC k_MOST_WEIGHT) wNil))))))

def lb_check_weights_0 (Es : MSt → XQ) : WS :=
 (wIfS (wNot (wTruth (wCall sp_is_weight xF (wCons (wVar 1) (wCons (wOp opGetDc (wVar 0) (wVar 1)) wNil))))) (wRaise Es "NoWeights" ["symbol"] (wCons (wVar 1) wNil)) wNext)
abbrev N_check_weights : List Str := ["weights", "key"]
def rd_check_weights (A : Ad) (Es : MSt → XQ) : WS :=
 (wSeq (wIfS (wNot (wTruth (wIsi ["dict"] (wVar 0)))) (wRaise Es "NoWeights" ["symbol"] (wCons (wC .non) wNil)) wNext)
 (wFor (wIt (wSortK A.p_check_weights q_check_weights (wCons (wVar 0) wNil) (wCB fRepr (wCons (wVar 2) wNil)))) (gN 1) (lb_check_weights_0 Es)))

abbrev N_check_limit : List Str := ["limit"]
def rd_check_limit (Es : MSt → XQ) : WS :=
 (wIfS (wNot (wTruth (wCall sp_is_integer xF (wCons (wVar 0) (wCons (wC (.int 1)) (wCons (wC k_LONGEST) wNil)))))) (wRaise Es "NoLimit" ["limit"] (wCons (wVar 0) wNil)) wNext)

abbrev N_check_room : List Str := ["weights", "limit"]
def rd_check_room (Es : MSt → XQ) : WS :=
 (wIfS (wTest (wGe (wCB fLenDs (wCons (wVar 0) wNil)) (wShl (wC (.int 1)) (wVar 1)))) (wRaise Es "NoRoom" ["limit"] (wCons (wVar 1) wNil)) wNext)

abbrev N_check_all : List Str := ["weights", "limit"]
def rd_check_all (A : Ad) (Es : MSt → XQ) : WS :=
 (wSeq (wDrop (wCall (sp_check_weights A) Es (wCons (wVar 0) wNil)))
 (wSeq (wDrop (wCall sp_check_limit Es (wCons (wVar 1) wNil)))
 (wDrop (wCall sp_check_room Es (wCons (wVar 0) (wCons (wVar 1) wNil))))))

abbrev N_coins_of : List Str := ["weights", "symbol"]
def rd_coins_of : WS :=
 (wRet (wCB fSorted (wCons (wOp opAdd (wLst (wCons (wC (.int 0)) wNil)) (wLc (wItK (wVar 0)) (put1 1) wYes (wOp opGetDc (wVar 0) (wVar 1)) [1])) wNil)))

abbrev N_pairs_of : List Str := ["row", "at"]
def rd_pairs_of : WS :=
 (wRet (wLc (wRange3 (wCons (wC (.int 0)) (wCons (wOp opSub (wCB fLen (wCons (wVar 0) wNil)) (wC (.int 1))) (wCons (wC (.int 2)) wNil)))) (put1 1) wYes (wOp opAdd (wOp opIx (wVar 0) (wVar 1)) (wOp opIx (wVar 0) (wOp opAdd (wVar 1) (wC (.int 1))))) [1]))

def lb_rows_of_0 : WS :=
 (wDrop (wMt fAppend (wVar 3) (wCons (wCB fSorted (wCons (wOp opAdd (wVar 2) (wCall sp_pairs_of xF (wCons (wOp opIx (wVar 3) (wUn unNeg (wC (.int 1)))) wNil))) wNil)) wNil)))
abbrev N_rows_of : List Str := ["weights", "limit", "coins", "found"]
def rd_rows_of : WS :=
 (wSeq (wSet 2 (wCall sp_coins_of xF (wCons (wVar 0) wNil)))
 (wSeq (wSet 3 (wLstM (wCons (wVar 2) wNil)))
 (wSeq (wWhile (wTest (wLt (wCB fLen (wCons (wVar 3) wNil)) (wVar 1))) lb_rows_of_0)
 (wFz 3 (wRet (wUn unRevA (wVar 3)))))))

abbrev N_fewest_bits : List Str := ["weights", "limit"]
def rd_fewest_bits : WS :=
 (wRet (wCB fSum (wCons (wSl (wOp opIx (wCall sp_rows_of xF (wCons (wVar 0) (wCons (wVar 1) wNil))) (wC (.int 0))) wNo (wPart (wOp opMul (wC (.int 2)) (wCB fLenDs (wCons (wVar 0) wNil))))) wNil)))

abbrev N_least_bits : List Str := ["weights", "limit"]
def rd_least_bits (A : Ad) (Es : MSt → XQ) : WS :=
 (wSeq (wDrop (wCall (sp_check_all A) Es (wCons (wVar 0) (wCons (wVar 1) wNil))))
 (wRet (wCall sp_fewest_bits xF (wCons (wVar 0) (wCons (wVar 1) wNil)))))

def lb_coins_among_0 : WS :=
 (wAug 4 (wC (.int 1)) (fun i j => i + j))
def lb_coins_among_1 : WS :=
 (wSeq (wWhile (wAnd (wTest (wLt (wVar 4) (wCB fLen (wCons (wVar 1) wNil)))) (wTest (wLt (wOp opIx (wVar 1) (wVar 4)) (wOp opIx (wVar 0) (wVar 3))))) lb_coins_among_0)
 (wSeq (wIfS (wTest (wGe (wOp opAdd (wVar 3) (wVar 4)) (wVar 2))) wBreak wNext)
 (wAug 3 (wC (.int 1)) (fun i j => i + j))))
abbrev N_coins_among : List Str := ["coins", "pairs", "many", "taken", "ahead"]
def rd_coins_among : WS :=
 (wSeq (wAsg (wTup (wCons (wC (.int 0)) (wCons (wC (.int 0)) wNil))) (gT 2 (gC (gN 3) (gC (gN 4) gZ))))
 (wSeq (wWhile (wTest (wLt (wVar 3) (wCB fLen (wCons (wVar 0) wNil)))) lb_coins_among_1)
 (wRet (wVar 3))))

def lb_coins_taken_0 : WS :=
 (wSeq (wSet 7 (wCall sp_coins_among xF (wCons (wVar 3) (wCons (wCall sp_pairs_of xF (wCons (wVar 2) wNil)) (wCons (wVar 6) wNil)))))
 (wSeq (wDrop (wMt fAppend (wVar 5) (wCons (wVar 7) wNil)))
 (wSet 6 (wOp opMul (wC (.int 2)) (wOp opSub (wVar 6) (wVar 7))))))
abbrev N_coins_taken : List Str := ["weights", "limit", "below", "coins", "rows", "found", "many", "taken"]
def rd_coins_taken : WS :=
 (wSeq (wPar 3 4 (wCons (wCall sp_coins_of xF (wCons (wVar 0) wNil)) (wCons (wCall sp_rows_of xF (wCons (wVar 0) (wCons (wVar 1) wNil))) wNil)))
 (wSeq (wPar 5 6 (wCons (wLstM wNil) (wCons (wOp opMul (wC (.int 2)) (wCB fLenDs (wCons (wVar 0) wNil))) wNil)))
 (wSeq (wFor (wIt (wOp opAdd (wSl (wVar 4) (wPart (wC (.int 1))) wNo) (wLst (wCons (wLst wNil) wNil)))) (gN 2) lb_coins_taken_0)
 (wFz 5 (wRet (wVar 5))))))

abbrev N_least_table : List Str := ["weights", "limit", "taken", "lengths", "counts", "at", "length", "many", "one"]
def rd_least_table (A : Ad) (Es : MSt → XQ) : WS :=
 (wSeq (wDrop (wCall (sp_check_all A) Es (wCons (wVar 0) (wCons (wVar 1) wNil))))
 (wSeq (wSet 2 (wCall sp_coins_taken xF (wCons (wVar 0) (wCons (wVar 1) wNil))))
 (wSeq (wSet 3 (wLc (wRange2 (wC (.int 1)) (wOp opAdd (wCB fLenDs (wCons (wVar 0) wNil)) (wC (.int 1)))) (put1 5) wYes (wCB fSum (wCons (wLc (wIt (wVar 2)) (put1 7) wYes (wCB fInt (wCons (wGt (wVar 7) (wVar 5)) wNil)) [7]) wNil)) [5]))
 (wSeq (wSet 4 (wLc (wRange2 (wC (.int 1)) (wOp opAdd (wC k_LONGEST) (wC (.int 1)))) (put1 6) wYes (wCB fLen (wCons (wLc (wIt (wVar 3)) (put1 8) (wTest (wOp (opEq false) (wVar 8) (wVar 6))) (wVar 8) [8]) wNil)) [6]))
 (wRet (wTup (wCons (wCB fTup (wCons (wVar 4) wNil)) (wCons (wCB fTup (wCons (wSortK A.p_least_table q_least_table (wCons (wVar 0) wNil) (wTup (wCons (wUn unNeg (wOp opGetDc (wVar 0) (wVar 9))) (wCons (wVar 9) wNil)))) wNil)) wNil))))))))

def lb_bits_by_0 (Es : MSt → XQ) : WS :=
 (wIfS (wTest (wOp (opInDc true) (wVar 2) (wVar 1))) (wRaise Es "NoSymbol" ["symbol"] (wCons (wVar 2) wNil)) wNext)
abbrev N_bits_by : List Str := ["weights", "known", "symbol"]
def rd_bits_by (Es : MSt → XQ) : WS :=
 (wSeq (wFor (wIt (wCB fSortDc (wCons (wVar 0) wNil))) (gN 2) (lb_bits_by_0 Es))
 (wRet (wCB fSum (wCons (wLc (wItK (wVar 0)) (put1 2) wYes (wOp opMul (wOp opGetDc (wVar 0) (wVar 2)) (wCB fLen (wCons (wOp opGetDc (wVar 1) (wVar 2)) wNil))) [2]) wNil))))

abbrev N_table_bits : List Str := ["weights", "table"]
def rd_table_bits (A : Ad) (Es : MSt → XQ) : WS :=
 (wSeq (wDrop (wCall (sp_check_weights A) Es (wCons (wVar 0) wNil)))
 (wRet (wCall sp_bits_by Es (wCons (wVar 0) (wCons (wFzV (wCall sp_codes Es (wCons (wVar 1) wNil))) wNil)))))

abbrev N_is_least : List Str := ["weights", "table", "limit", "known", "symbol"]
def rd_is_least (A : Ad) (Es : MSt → XQ) : WS :=
 (wSeq (wDrop (wCall (sp_check_weights A) Es (wCons (wVar 0) wNil)))
 (wSeq (wDrop (wCall sp_check_table Es (wCons (wVar 1) wNil)))
 (wSeq (wDrop (wCall sp_check_limit Es (wCons (wVar 2) wNil)))
 (wSeq (wDrop (wCall sp_check_room Es (wCons (wVar 0) (wCons (wVar 2) wNil))))
 (wSeq (wSet 3 (wFzV (wCall sp_codes Es (wCons (wVar 1) wNil))))
 (wSeq (wIfS (wNot (wTruth (wCB fAll (wCons (wLc (wItK (wVar 0)) (put1 4) wYes (wAndV (wOp (opInDc false) (wVar 4) (wVar 3)) (wLe (wCB fLen (wCons (wOp opGetDc (wVar 3) (wVar 4)) wNil)) (wVar 2))) [4]) wNil)))) (wRet (wC (.bl false))) wNext)
 (wRet (wOp (opEq false) (wCall sp_bits_by Es (wCons (wVar 0) (wCons (wVar 3) wNil))) (wCall sp_fewest_bits xF (wCons (wVar 0) (wCons (wVar 2) wNil)))))))))))

abbrev N_by_limits : List Str := ["weights", "some", "limit"]
def rd_by_limits (A : Ad) (Es : MSt → XQ) : WS :=
 (wSeq (wDrop (wCall (sp_check_weights A) Es (wCons (wVar 0) wNil)))
 (wSeq (wSet 1 (wLc (wRange2 (wC (.int 1)) (wOp opAdd (wC k_LONGEST) (wC (.int 1)))) (put1 2) (wTest (wLt (wCB fLenDs (wCons (wVar 0) wNil)) (wShl (wC (.int 1)) (wVar 2)))) (wVar 2) [2]))
 (wRet (wLcM (wIt (wVar 1)) (put1 2) wYes (wTup (wCons (wVar 2) (wCons (wCall sp_fewest_bits xF (wCons (wVar 0) (wCons (wVar 2) wNil))) wNil))) [2]))))

abbrev N_law_cell_at : List Str := ["_law_script", "_law_k"]
def rd_law_cell_at : WS :=
 (wSeq (wIfS (wTest (wLt (wVar 1) (wCB fLen (wCons (wVar 0) wNil)))) (wRet (wOp opIx (wVar 0) (wVar 1))) wNext)
 (wRet (wC (.int 0))))

abbrev N_law_source_of : List Str := ["_law_cell"]
def rd_law_source_of : WS :=
 (wSeq (wSet 0 (wIf (wTest (wGe (wVar 0) (wC (.int 0)))) (wVar 0) (wOp opSub (wOp opSub (wC (.int 0)) (wOp opMul (wC (.int 3)) (wVar 0))) (wC (.int 1)))))
 (wRet (wLstM (wCons (wOp opMul (wVar 0) (wCB fInt (wCons (wGe (wVar 0) (wPow (wC (.int 10)) (wC (.int 18)))) wNil))) (wCons (wMod (wCB fInt (wCons (wVar 0) wNil)) (wC (.int 2147483647))) (wCons (wC (.int 0)) wNil))))))

abbrev N_law_next : List Str := ["_law_source", "_law_many", "_law_prime", "_law_number", "_law_found"]
def rd_law_next : WS :=
 (wSeq (wIfS (wTest (wGt (wOp opIx (wVar 0) (wC (.int 0))) (wC (.int 0)))) (wSeq (wSet 4 (wMod (wCB fInt (wCons (wOp opIx (wVar 0) (wC (.int 0))) wNil)) (wVar 1)))
 (wSeq (wAsg (wDiv (wOp opIx (wVar 0) (wC (.int 0))) (wVar 1)) (gSt (wVar 0) (wC (.int 0))))
 (wRet (wVar 4)))) wNext)
 (wSeq (wAsg (wOp opAdd (wOp opIx (wVar 0) (wC (.int 2))) (wC (.int 1))) (gSt (wVar 0) (wC (.int 2))))
 (wSeq (wSet 2 (wC (.int 2147483647)))
 (wSeq (wSet 3 (wMod (wCB fInt (wCons (wOp opAdd (wOp opAdd (wOp opIx (wVar 0) (wC (.int 1))) (wOp opMul (wC (.int 104729)) (wOp opIx (wVar 0) (wC (.int 2))))) (wC (.int 7919))) wNil)) (wVar 2)))
 (wSeq (wSet 3 (wMod (wCB fInt (wCons (wOp opMul (wVar 3) (wC (.int 48271))) wNil)) (wVar 2)))
 (wSeq (wSet 3 (wMod (wCB fInt (wCons (wOp opMul (wVar 3) (wOp opAdd (wDiv (wVar 3) (wC (.int 1009))) (wC (.int 69621)))) wNil)) (wVar 2)))
 (wSeq (wSet 3 (wMod (wCB fInt (wCons (wOp opMul (wVar 3) (wOp opAdd (wDiv (wVar 3) (wC (.int 2003))) (wC (.int 40692)))) wNil)) (wC (.int 2147483399))))
 (wRet (wMod (wCB fInt (wCons (wDiv (wVar 3) (wC (.int 7))) wNil)) (wVar 1))))))))))

abbrev N_law_one : List Str := ["_law_source", "_law_some"]
def rd_law_one : WS :=
 (wRet (wOp opIx (wVar 1) (wCall sp_law_next xF (wCons (wVar 0) (wCons (wCB fLen (wCons (wVar 1) wNil)) wNil)))))

def lb_law_lengths_0 : WS :=
 (wSeq (wPutDc (wVar 1) (wOp opIx (wOp opIx (wVar 0) (wC (.int 1))) (wVar 2)) (wOp opAdd (wVar 3) (wC (.int 1))))
 (wSet 2 (wOp opAdd (wVar 2) (wC (.int 1)))))
def lb_law_lengths_1 : WS :=
 (wFor (wRange1 (wVar 4)) (gN 5) lb_law_lengths_0)
abbrev N_law_lengths : List Str := ["_law_table", "_law_found", "_law_at", "_law_k", "_law_count", "_law_turn"]
def rd_law_lengths : WS :=
 (wSeq (wPar 1 2 (wCons wDctM (wCons (wC (.int 0)) wNil)))
 (wSeq (wFor (wEnum 0 (wOp opIx (wVar 0) (wC (.int 0)))) (gT 2 (gC (gN 3) (gC (gN 4) gZ))) lb_law_lengths_1)
 (wFzD 1 (wRet (wVar 1)))))

def lb_law_weights_0 : WS :=
 (wSeq (wSet 6 (wLst (wCons (wOp opIx (wVar 6) (wC (.int 1))) (wCons (wCB fMin2 (wCons (wOp opAdd (wOp opIx (wVar 6) (wC (.int 0))) (wOp opIx (wVar 6) (wC (.int 1)))) (wCons (wPow (wC (.int 10)) (wC (.int 18))) wNil))) wNil))))
 (wSeq (wSet 7 (wOp opAdd (wC (.int 1)) (wOp opMul (wCall sp_law_next xF (wCons (wVar 0) (wCons (wPow (wC (.int 10)) (wC (.int 9))) wNil))) (wCall sp_law_one xF (wCons (wVar 0) (wCons (wLst (wCons (wC (.int 0)) (wCons (wC (.int 1)) (wCons (wC (.int 1)) (wCons (wPow (wC (.int 10)) (wC (.int 9))) wNil))))) wNil))))))
 (wSeq (wSet 8 (wOp opIx (wLst (wCons (wVar 7) (wCons (wShl (wC (.int 1)) (wCB fMin2 (wCons (wVar 1) (wCons (wC (.int 59)) wNil)))) (wCons (wOp opIx (wVar 6) (wC (.int 0))) (wCons (wOp opAdd (wC (.int 1)) (wCall sp_law_next xF (wCons (wVar 0) (wCons (wC (.int 3)) wNil)))) wNil))))) (wVar 3)))
 (wPutDc (wVar 5) (wMt fPopAt (wVar 4) (wCons (wCall sp_law_next xF (wCons (wVar 0) (wCons (wCB fLen (wCons (wVar 4) wNil)) wNil))) wNil)) (wCB fMin2 (wCons (wVar 8) (wCons (wPow (wC (.int 10)) (wC (.int 18))) wNil)))))))
abbrev N_law_weights : List Str := ["_law_source", "_law_turn", "_law_many", "_law_way", "_law_some", "_law_found", "_law_before", "_law_drawn", "_law_load"]
def rd_law_weights : WS :=
 (wSeq (wPar 2 3 (wCons (wOp opAdd (wCall sp_law_one xF (wCons (wVar 0) (wCons (wLst (wCons (wC (.int 6)) (wCons (wC (.int 17)) (wCons (wC (.int 30)) (wCons (wC (.int 60)) (wCons (wC (.int 120)) (wCons (wC (.int 244)) wNil))))))) wNil))) (wCall sp_law_next xF (wCons (wVar 0) (wCons (wC (.int 12)) wNil)))) (wCons (wCall sp_law_next xF (wCons (wVar 0) (wCons (wC (.int 4)) wNil))) wNil)))
 (wSeq (wPar3 4 5 6 (wCons (wLstRgM (wRg1 (wC (.int 256)))) (wCons wDctM (wCons (wLst (wCons (wC (.int 1)) (wCons (wC (.int 1)) wNil))) wNil))))
 (wSeq (wFor (wRange1 (wVar 2)) (gN 1) lb_law_weights_0)
 (wFz 4 (wFzL 5 (wRet (wVar 5)))))))

def lb_law_free_bits_0 : WS :=
 (wSeq (wPar 4 5 (wCons (wOp opIx (wVar 2) (wC (.int 0))) (wCons (wOp opIx (wVar 2) (wC (.int 1))) wNil)))
 (wSeq (wSet 3 (wOp opAdd (wOp opAdd (wVar 3) (wOp opIx (wVar 4) (wC (.int 0)))) (wOp opIx (wVar 5) (wC (.int 0)))))
 (wSet 2 (wCB fSorted (wCons (wOp opAdd (wSl (wVar 2) (wPart (wC (.int 2))) wNo) (wLst (wCons (wTup (wCons (wOp opAdd (wOp opIx (wVar 4) (wC (.int 0))) (wOp opIx (wVar 5) (wC (.int 0)))) (wCons (wOp opAdd (wC (.int 1)) (wCB fMax2 (wCons (wOp opIx (wVar 4) (wC (.int 1))) (wCons (wOp opIx (wVar 5) (wC (.int 1))) wNil)))) wNil))) wNil))) wNil)))))
abbrev N_law_free_bits : List Str := ["_law_weights_so", "_law_turn", "_law_left", "_law_found", "_law_one_here", "_law_other", "_law_symbol"]
def rd_law_free_bits : WS :=
 (wSeq (wPar 2 3 (wCons (wCB fSorted (wCons (wOp opAdd (wLc (wItK (wVar 0)) (put1 6) wYes (wTup (wCons (wOp opGetDc (wVar 0) (wVar 6)) (wCons (wC (.int 0)) wNil))) [6]) (wLst (wCons (wTup (wCons (wC (.int 0)) (wCons (wC (.int 0)) wNil))) wNil))) wNil)) (wCons (wC (.int 0)) wNil)))
 (wSeq (wFor (wRange1 (wCB fLenDs (wCons (wVar 0) wNil))) (gN 1) lb_law_free_bits_0)
 (wRet (wTup (wCons (wVar 3) (wCons (wOp opIx (wOp opIx (wVar 2) (wC (.int 0))) (wC (.int 1))) wNil))))))

def lb_law_bits_by_0 : WS :=
 (wSeq (wSet 5 (wLc (wRange1 (wDiv (wCB fLen (wCons (wVar 3) wNil)) (wC (.int 2)))) (put1 6) wYes (wOp opAdd (wOp opIx (wVar 3) (wOp opMul (wC (.int 2)) (wVar 6))) (wOp opIx (wVar 3) (wOp opAdd (wOp opMul (wC (.int 2)) (wVar 6)) (wC (.int 1))))) [6]))
 (wSet 3 (wCB fSorted (wCons (wOp opAdd (wVar 2) (wVar 5)) wNil))))
abbrev N_law_bits_by : List Str := ["_law_weights_so", "_law_limit", "_law_coins", "_law_row", "_law_turn", "_law_pairs", "_law_k", "_law_symbol"]
def rd_law_bits_by : WS :=
 (wSeq (wSet 2 (wCB fSorted (wCons (wOp opAdd (wLc (wItK (wVar 0)) (put1 7) wYes (wOp opGetDc (wVar 0) (wVar 7)) [7]) (wLst (wCons (wC (.int 0)) wNil))) wNil)))
 (wSeq (wSet 3 (wLst wNil))
 (wSeq (wFor (wRange1 (wVar 1)) (gN 4) lb_law_bits_by_0)
 (wRet (wCB fSum (wCons (wSl (wVar 3) wNo (wPart (wOp opMul (wC (.int 2)) (wCB fLenDs (wCons (wVar 0) wNil))))) wNil))))))

def lb_law_right_0 (A : Ad) (Es : MSt → XQ) : WS :=
 (wSeq (wPar 4 14 (wCons (wCall (sp_least_table A) Es (wCons (wVar 1) (wCons (wVar 5) wNil))) (wCons (wOp opIx (wOp opIx (wVar 3) (wOp opSub (wVar 5) (wOp opIx (wVar 2) (wC (.int 0))))) (wC (.int 1))) wNil)))
 (wSeq (wSet 9 (wCall sp_law_lengths xF (wCons (wVar 4) wNil)))
 (wSeq (wIfS (wOr (wNot (wTruth (wCall sp_is_table xF (wCons (wVar 4) wNil)))) (wOr (wTest (wOp (opEq true) (wCB fSortTu (wCons (wOp opIx (wVar 4) (wC (.int 1))) wNil)) (wCB fSortDc (wCons (wVar 1) wNil)))) (wTest (wGt (wMaxV (wVar 9)) (wVar 5))))) (wRet (wC (.bl false))) wNext)
 (wSeq (wIfS (wOr (wTest (wOp (opEq true) (wCall (sp_least_bits A) Es (wCons (wVar 1) (wCons (wVar 5) wNil))) (wVar 14))) (wTest (wOp (opEq true) (wCall (sp_table_bits A) Es (wCons (wVar 1) (wCons (wVar 4) wNil))) (wVar 14)))) (wRet (wC (.bl false))) wNext)
 (wSeq (wIfS (wNot (wTruth (wCall (sp_is_least A) Es (wCons (wVar 1) (wCons (wVar 4) (wCons (wVar 5) wNil)))))) (wRet (wC (.bl false))) wNext)
 (wSeq (wSet 10 (wCB fSorted (wCons (wLc (wItK (wVar 1)) (put1 11) wYes (wTup (wCons (wOp opSub (wC (.int 0)) (wOp opGetDc (wVar 1) (wVar 11))) (wCons (wOp opGetDc (wVar 9) (wVar 11)) wNil))) [11]) wNil)))
 (wIfS (wTest (wOp (opEq true) (wCB fSorted (wCons (wLc (wIt (wVar 10)) (putT [15, 16]) wYes (wVar 16) [15, 16]) wNil)) (wLc (wIt (wVar 10)) (putT [15, 16]) wYes (wVar 16) [15, 16]))) (wRet (wC (.bl false))) wNext)))))))
def tl_law_right_13 (A : Ad) (Es : MSt → XQ) : WS :=
 (wFzL 6 (wRet (wLeLe (wCallG (sp_least_bits A) Es 1 0 dd_least_bits g_kd_least_bits_1 (wCons (wVar 6) wNil) wNil) (wOp opIx (wOp opIx (wVar 3) (wUn unNeg (wC (.int 1)))) (wC (.int 1))) (wCallG (sp_least_bits A) Es 1 0 dd_least_bits g_kd_least_bits_1 (wCons (wVar 12) wNil) wNil))))
def tl_law_right_12 (A : Ad) (Es : MSt → XQ) : WS :=
 (wSeq (wDrop (wPopDc (wVar 6) (wVar 11)))
 (tl_law_right_13 A Es))
def tl_law_right_11 (A : Ad) (Es : MSt → XQ) : WS :=
 (wFzL 12 (wSeq (wSet 6 (wCB fDictM (wCons (wVar 1) wNil)))
 (tl_law_right_12 A Es)))
def tl_law_right_10 (A : Ad) (Es : MSt → XQ) : WS :=
 (wSeq (wPutDc (wVar 12) (wVar 11) (wCB fMin2 (wCons (wOp opAdd (wOp opAdd (wOp opGetDc (wVar 12) (wVar 11)) (wC (.int 1))) (wCall sp_law_next xF (wCons (wVar 0) (wCons (wC (.int 100)) wNil)))) (wCons (wPow (wC (.int 10)) (wC (.int 18))) wNil))))
 (tl_law_right_11 A Es))
def tl_law_right_9 (A : Ad) (Es : MSt → XQ) : WS :=
 (wSeq (wPar 11 12 (wCons (wCall sp_law_one xF (wCons (wVar 0) (wCons (wCB fSortDc (wCons (wVar 1) wNil)) wNil))) (wCons (wCB fDictM (wCons (wVar 1) wNil)) wNil)))
 (tl_law_right_10 A Es))
def tl_law_right_8 (A : Ad) (Es : MSt → XQ) : WS :=
 (wSeq (wFor (wIt (wTup (wCons (wOp opIx (wVar 2) (wC (.int 0))) (wCons (wCall sp_law_one xF (wCons (wVar 0) (wCons (wVar 2) wNil))) (wCons (wC (.int 16)) wNil))))) (gN 5) (lb_law_right_0 A Es))
 (tl_law_right_9 A Es))
def tl_law_right_7 (A : Ad) (Es : MSt → XQ) : WS :=
 (wSeq (wIfS (wTest (wOp (opEq true) (wFzV (wCallK (sp_by_limits A) Es 1 g_kw_by_limits_weights (wCons (wVar 1) wNil))) (wVar 3))) (wRet (wC (.bl false))) wNext)
 (tl_law_right_8 A Es))
def tl_law_right_6 (A : Ad) (Es : MSt → XQ) : WS :=
 (wSeq (wDrop (wMt fAppend (wVar 4) (wCons (wC .non) wNil)))
 (tl_law_right_7 A Es))
def tl_law_right_5 (A : Ad) (Es : MSt → XQ) : WS :=
 (wSeq (wIfS (wTest (wOp (opEq true) (wVar 4) (wVar 3))) (wRet (wC (.bl false))) wNext)
 (tl_law_right_6 A Es))
def tl_law_right_4 (A : Ad) (Es : MSt → XQ) : WS :=
 (wSeq (wSet 4 (wCall (sp_by_limits A) Es (wCons (wVar 1) wNil)))
 (tl_law_right_5 A Es))
def tl_law_right_3 (A : Ad) (Es : MSt → XQ) : WS :=
 (wSeq (wSet 3 (wLc (wIt (wVar 2)) (put1 13) wYes (wTup (wCons (wVar 13) (wCons (wIf (wTest (wLe (wVar 8) (wVar 13))) (wVar 7) (wCall sp_law_bits_by xF (wCons (wVar 1) (wCons (wVar 13) wNil)))) wNil))) [13]))
 (tl_law_right_4 A Es))
def tl_law_right_2 (A : Ad) (Es : MSt → XQ) : WS :=
 (wSeq (wSet 2 (wLc (wRange2 (wC (.int 1)) (wC (.int 17))) (put1 13) (wTest (wLt (wCB fLenDs (wCons (wVar 1) wNil)) (wShl (wC (.int 1)) (wVar 13)))) (wVar 13) [13]))
 (tl_law_right_3 A Es))
def tl_law_right_1 (A : Ad) (Es : MSt → XQ) : WS :=
 (wSeq (wAsg (wCall sp_law_free_bits xF (wCons (wVar 1) wNil)) (gT 2 (gC (gN 7) (gC (gN 8) gZ))))
 (tl_law_right_2 A Es))
abbrev N_law_right : List Str := ["_law_source", "_law_weights_so", "_law_limits", "_law_due", "_law_told", "_law_limit", "_law_less", "_law_free", "_law_longest", "_law_lengths_here", "_law_pairs", "_law_symbol", "_law_more", "_law_one_here", "_law_bits", "_law_load", "_law_length"]
def rd_law_right (A : Ad) (Es : MSt → XQ) : WS :=
 (wSeq (wSet 1 (wCall sp_law_weights xF (wCons (wVar 0) wNil)))
 (tl_law_right_1 A Es))

def lb_law_0 (A : Ad) (Es : MSt → XQ) : WS :=
 (wIfS (wNot (wTruth (wCall (sp_law_right A) Es (wCons (wCall sp_law_source_of xF (wCons (wCall sp_law_cell_at xF (wCons (wVar 0) (wCons (wVar 1) wNil))) wNil)) wNil)))) (wRet (wC (.bl false))) wNext)
abbrev N_law : List Str := ["_law_script", "_law_k", "_law_one_here"]
def rd_law (A : Ad) (Es : MSt → XQ) : WS :=
 (wSeq (wIfS (wOr (wTest (wOp (opEq true) (wFzV (wCall (sp_by_limits A) Es (wCons (wFzVL wDctM) wNil))) (wLc (wRange2 (wC (.int 1)) (wC (.int 17))) (put1 2) wYes (wTup (wCons (wVar 2) (wCons (wC (.int 0)) wNil))) [2]))) (wTest (wOp (opEq true) (wCallG (sp_least_table A) Es 1 0 dd_least_table g_kd_least_table_1 (wCons (wFzVL wDctM) wNil) wNil) (wTup (wCons (wOp opMul (wTup (wCons (wC (.int 0)) wNil)) (wC (.int 16))) (wCons (wTup wNil) wNil)))))) (wRet (wC (.bl false))) wNext)
 (wSeq (wFor (wRange1 (wCB fMax2 (wCons (wC (.int 1)) (wCons (wCB fMin2 (wCons (wC (.int 2)) (wCons (wCB fLen (wCons (wVar 0) wNil)) wNil))) wNil)))) (gN 1) (lb_law_0 A Es))
 (wRet (wC (.bl true)))))


theorem pure_law_cell_at (ds : List D) (h : MH) (Q' : MQ) (E' : XQ) (s : sp_law_cell_at ds h Q' E') : rd_law_cell_at { nx := fun _ h' => Q' .non h', rt := Q' } (mstart N_law_cell_at ds) h := pureCell rfl ds h Q' E' s
theorem pure_law_source_of (ds : List D) (h : MH) (Q' : MQ) (E' : XQ) (s : sp_law_source_of ds h Q' E') : rd_law_source_of { nx := fun _ h' => Q' .non h', rt := Q' } (mstart N_law_source_of ds) h := pureSrcOf rfl ds h Q' E' s
theorem pure_law_next (ds : List D) (h : MH) (Q' : MQ) (E' : XQ) (s : sp_law_next ds h Q' E') : rd_law_next { nx := fun _ h' => Q' .non h', rt := Q' } (mstart N_law_next ds) h := pureNext rfl ds h Q' E' s
theorem pure_law_one (ds : List D) (h : MH) (Q' : MQ) (E' : XQ) (s : sp_law_one ds h Q' E') : rd_law_one { nx := fun _ h' => Q' .non h', rt := Q' } (mstart N_law_one ds) h := pureOne rfl ds h Q' E' s
theorem pure_is_integer (ds : List D) (h : MH) (Q' : MQ) (E' : XQ) (s : sp_is_integer ds h Q' E') : rd_is_integer { nx := fun _ h' => Q' .non h', rt := Q' } (mstart N_is_integer ds) h := TB.pure_is_integer ds h Q' E' s
theorem pure_are_counts (ds : List D) (h : MH) (Q' : MQ) (E' : XQ) (s : sp_are_counts ds h Q' E') : rd_are_counts { nx := fun _ h' => Q' .non h', rt := Q' } (mstart N_are_counts ds) h := TB.pure_are_counts ds h Q' E' s
theorem pure_room_taken (ds : List D) (h : MH) (Q' : MQ) (E' : XQ) (s : sp_room_taken ds h Q' E') : rd_room_taken { nx := fun _ h' => Q' .non h', rt := Q' } (mstart N_room_taken ds) h := TB.pure_room_taken ds h Q' E' s
theorem pure_are_symbols (ds : List D) (h : MH) (Q' : MQ) (E' : XQ) (s : sp_are_symbols ds h Q' E') : rd_are_symbols { nx := fun _ h' => Q' .non h', rt := Q' } (mstart N_are_symbols ds) h := TB.pure_are_symbols ds h Q' E' s
theorem pure_table_fault (ds : List D) (h : MH) (Q' : MQ) (E' : XQ) (s : sp_table_fault ds h Q' E') : rd_table_fault { nx := fun _ h' => Q' .non h', rt := Q' } (mstart N_table_fault ds) h := TB.pure_table_fault ds h Q' E' s
theorem pure_is_table (ds : List D) (h : MH) (Q' : MQ) (E' : XQ) (s : sp_is_table ds h Q' E') : rd_is_table { nx := fun _ h' => Q' .non h', rt := Q' } (mstart N_is_table ds) h := TB.pure_is_table ds h Q' E' s
theorem pure_check_table (ds : List D) (h : MH) (Q' : MQ) (E' : XQ) (s : sp_check_table ds h Q' E') : rd_check_table (fun _ => E') { nx := fun _ h' => Q' .non h', rt := Q' } (mstart N_check_table ds) h := TB.pure_check_table ds h Q' E' s
theorem pure_bits_as (ds : List D) (h : MH) (Q' : MQ) (E' : XQ) (s : sp_bits_as ds h Q' E') : rd_bits_as { nx := fun _ h' => Q' .non h', rt := Q' } (mstart N_bits_as ds) h := TB.pure_bits_as ds h Q' E' s
theorem pure_codes (ds : List D) (h : MH) (Q' : MQ) (E' : XQ) (s : sp_codes ds h Q' E') : rd_codes (fun _ => E') { nx := fun _ h' => Q' .non h', rt := Q' } (mstart N_codes ds) h := TB.pure_codes ds h Q' E' s
theorem pure_is_weight (ds : List D) (h : MH) (Q' : MQ) (E' : XQ) (s : sp_is_weight ds h Q' E') : rd_is_weight { nx := fun _ h' => Q' .non h', rt := Q' } (mstart N_is_weight ds) h := LM.pure_is_weight ds h Q' E' s
theorem pure_check_limit (ds : List D) (h : MH) (Q' : MQ) (E' : XQ) (s : sp_check_limit ds h Q' E') : rd_check_limit (fun _ => E') { nx := fun _ h' => Q' .non h', rt := Q' } (mstart N_check_limit ds) h := LM.pure_check_limit ds h Q' E' s
theorem pure_check_room (ds : List D) (h : MH) (Q' : MQ) (E' : XQ) (s : sp_check_room ds h Q' E') : rd_check_room (fun _ => E') { nx := fun _ h' => Q' .non h', rt := Q' } (mstart N_check_room ds) h := LM.pure_check_room ds h Q' E' s
theorem pure_coins_of (ds : List D) (h : MH) (Q' : MQ) (E' : XQ) (s : sp_coins_of ds h Q' E') : rd_coins_of { nx := fun _ h' => Q' .non h', rt := Q' } (mstart N_coins_of ds) h := LM.pure_coins_of ds h Q' E' s
theorem pure_pairs_of (ds : List D) (h : MH) (Q' : MQ) (E' : XQ) (s : sp_pairs_of ds h Q' E') : rd_pairs_of { nx := fun _ h' => Q' .non h', rt := Q' } (mstart N_pairs_of ds) h := LM.pure_pairs_of ds h Q' E' s
theorem pure_rows_of (ds : List D) (h : MH) (Q' : MQ) (E' : XQ) (s : sp_rows_of ds h Q' E') : rd_rows_of { nx := fun _ h' => Q' .non h', rt := Q' } (mstart N_rows_of ds) h := LM.pure_rows_of ds h Q' E' s
theorem pure_fewest_bits (ds : List D) (h : MH) (Q' : MQ) (E' : XQ) (s : sp_fewest_bits ds h Q' E') : rd_fewest_bits { nx := fun _ h' => Q' .non h', rt := Q' } (mstart N_fewest_bits ds) h := LM.pure_fewest_bits ds h Q' E' s
theorem pure_coins_among (ds : List D) (h : MH) (Q' : MQ) (E' : XQ) (s : sp_coins_among ds h Q' E') : rd_coins_among { nx := fun _ h' => Q' .non h', rt := Q' } (mstart N_coins_among ds) h := LM.pure_coins_among ds h Q' E' s
theorem pure_coins_taken (ds : List D) (h : MH) (Q' : MQ) (E' : XQ) (s : sp_coins_taken ds h Q' E') : rd_coins_taken { nx := fun _ h' => Q' .non h', rt := Q' } (mstart N_coins_taken ds) h := LM.pure_coins_taken ds h Q' E' s
theorem pure_bits_by (ds : List D) (h : MH) (Q' : MQ) (E' : XQ) (s : sp_bits_by ds h Q' E') : rd_bits_by (fun _ => E') { nx := fun _ h' => Q' .non h', rt := Q' } (mstart N_bits_by ds) h := LM.pure_bits_by ds h Q' E' s

section
variable (ds : List D) (h : MH) (Q' : MQ) (E' : XQ)
theorem shown_ok : ∀ n : Nat, n < 256 → ((PyData.int (n : Int)).showable && decide ((PyData.int (n : Int)).shown.length ≤ 1000)) = true := by decide +kernel
theorem keys_at {W : List (Nat × Nat)} {x : D} (h : x ∈ keysD' (wK W)) : ∃ z ∈ W, x = nD z.1 := by
  rw [wK_keys, List.map_map] at h
  obtain ⟨z, hz, rfl⟩ := List.mem_map.mp h
  exact ⟨z, hz, rfl⟩
theorem pure_check_weights (A : Ad) (s : sp_check_weights A ds h Q' E') : rd_check_weights A (fun _ => E') { nx := fun _ h' => Q' .non h', rt := Q' } (mstart N_check_weights ds) h := by
  obtain ⟨W, rfl, w, hP, q⟩ := s
  have szl := szL
  have wl := w.len
  rw [show mstart N_check_weights [wD W] = [some (wD W), none] from rfl]
  unfold rd_check_weights
  simp [wD, clsD, subT]
  have ss := srt_strs (keysD' (wK W)) fun x => (PyData.int (dInt x)).shown
  refine ⟨hP, fun x => .str (PyData.int (dInt x)).shown, fun x => .str (PyData.int (dInt x)).shown, ⟨by rw [wK_len]; omega, fun x hx => ⟨rfl, by simp [PyData.depth]⟩, ss.1, ss.2⟩, fun x hx => ?_, ?_⟩
  · obtain ⟨z, hz, rfl⟩ := keys_at hx
    have hz2 := w.sb z hz
    have sh := shown_ok z.1 (by omega)
    rw [Bool.and_eq_true, decide_eq_true_eq] at sh
    have d1 : (PyData.int (z.1 : Int)).depth ≤ 64 := by simp [PyData.depth]
    simp [toPx, toP, lsOf, nD, dInt, sh.1]
    exact ⟨by omega, d1⟩
  · refine wLoop_inv (fun i σ h' => h' = h ∧ ∃ v1, σ = [some (.dcl (wK W)), v1]) ⟨rfl, _, rfl⟩ ?_ ?_
    · rintro i d σ h' K e ⟨rfl, v1, rfl⟩ hK
      have hm := (List.mergeSort_perm _ _).mem_iff.mp (List.mem_of_getElem? e)
      obtain ⟨z, hz, rfl⟩ := keys_at hm
      have a := (w.at hz).2
      have b := w.wb z hz
      have c := w.sb z hz
      unfold lb_check_weights_0
      simp [nD]
      rw [a]
      simp
      refine ⟨z.1, z.2, rfl, c, b.1, b.2, ?_⟩
      exact hK _ _ ⟨rfl, _, rfl⟩
    · rintro σ h' ⟨rfl, v1, rfl⟩
      exact q
theorem pure_check_all (A : Ad) (s : sp_check_all A ds h Q' E') : rd_check_all A (fun _ => E') { nx := fun _ h' => Q' .non h', rt := Q' } (mstart N_check_all ds) h := by
  obtain ⟨W, L, rfl, w, l, hP, q⟩ := s
  rw [show mstart N_check_all [wD W, nD L] = [some (wD W), some (nD L)] from rfl]
  unfold rd_check_all
  simp
  exact ⟨W, rfl, w, hP, L, rfl, l.l1, l.l16, W, L, rfl, l, q⟩
theorem pure_least_bits (A : Ad) (s : sp_least_bits A ds h Q' E') : rd_least_bits A (fun _ => E') { nx := fun _ h' => Q' .non h', rt := Q' } (mstart N_least_bits ds) h := by
  obtain ⟨W, L, rfl, w, l, hP, q⟩ := s
  rw [show mstart N_least_bits [wD W, nD L] = [some (wD W), some (nD L)] from rfl]
  unfold rd_least_bits
  simp
  exact ⟨W, L, rfl, w, l, hP, W, L, rfl, w, l, q⟩
theorem len_sum (T : List Nat) (j : Nat) : (T.map fun t => if j < t then (1 : Int) else 0).sum = (lenJ T j : Int) := by
  induction T with
  | nil => rfl
  | cons t T ih => rw [List.map_cons, List.sum_cons, ih, lenJ_cons, Int.natCast_add, Int.add_comm]; split <;> rfl
theorem cnt_filter (ls : List Nat) (x : Nat) : ((ls.filter fun y => decide (y = x)).length : Nat) = ls.count x := by
  rw [List.count_eq_countP, List.countP_eq_length_filter]
  congr 1
theorem pure_least_table (A : Ad) (s : sp_least_table A ds h Q' E') : rd_least_table A (fun _ => E') { nx := fun _ h' => Q' .non h', rt := Q' } (mstart N_least_table ds) h := by
  obtain ⟨W, L, rfl, w, l, hP, hP2, q⟩ := s
  have szl := szL
  have wl := w.len
  have tl := tk_len l
  have l16 := l.l16
  rw [show mstart N_least_table [wD W, nD L] = [some (wD W), some (nD L), none, none, none, none, none, none, none] from rfl]
  unfold rd_least_table
  simp
  refine ⟨W, L, rfl, w, l, hP, W, L, rfl, w, l, fun h1 x1 => ?_⟩
  simp [wD, wK_len]
  refine ⟨⟨by omega, by omega⟩, ?_⟩
  refine lc_rangeD W.length (fun i => nD (lenJ (tkW W L) (i + 1))) (by omega) (fun i hi K k => ⟨_, rfl, ?_⟩) ?_
  · simp [mwipe, List.set]
    refine lc_over nD (fun t => D.int (if i + 1 < t then 1 else 0)) (tkW W L) (by omega) (fun t ht K2 k2 => ⟨_, rfl, ?_⟩) ?_
    · simp [mwipe, List.set, nD]
      have e : (1 + (i : Int) < (t : Int)) ↔ i + 1 < t := by omega
      simp only [e]
      exact k2
    · have e : ((tkW W L).map fun t => D.int (if i + 1 < t then 1 else 0)) = ((tkW W L).map fun t => if i + 1 < t then (1 : Int) else 0).map D.int := by rw [List.map_map]; rfl
      rw [e]
      refine sum_ints ?_
      rw [len_sum]
      exact k
  · have e : ((List.range W.length).map fun i => nD (lenJ (tkW W L) (i + 1))) = (lensW W L).map nD := by unfold lensW; rw [List.map_map]; rfl
    rw [e]
    have ll := lens_len W L
    obtain ⟨ls, hls⟩ : ∃ ls, lensW W L = ls := ⟨_, rfl⟩
    have et : tabL W L = fun ss => .tup [.tup ((countsL ls).map nD), .tup (ss.map nD)] := by funext ss; unfold tabL; rw [hls]
    rw [hls] at ll ⊢
    refine lc_rangeD 16 (fun i => nD (ls.count (i + 1))) (by omega) (fun i hi K k0 => ⟨_, rfl, ?_⟩) ?_
    · simp [mwipe, List.set]
      refine lc_filter nD nD (fun y => decide (y = i + 1)) ls (by omega) (fun y _ => ⟨_, rfl, fun K k => ?_⟩) (fun y _ _ σ2 e K k => ?_) ?_
      · have e : ((y : Int) == 1 + (i : Int)) = decide (y = i + 1) := by
          rw [Bool.eq_iff_iff]; simp; omega
        simp [nD, e]
        exact k
      · have e : some _ = some σ2 := e
        injection e with e
        subst e
        simp
        exact k
      · rw [List.length_map, cnt_filter]
        exact k0
    · have ec : ((List.range 16).map fun i => nD (ls.count (i + 1))) = (countsL ls).map nD := by unfold countsL; rw [List.map_map]; rfl
      rw [ec]
      obtain ⟨ss, hs, sy⟩ := srt_syms W
      have al := pW_alike W (keysD' (wK W))
      refine ⟨x1 _ _ hP2, gW W, pW W, ⟨by omega, fun x hx => ?_, al.1, al.2⟩, fun x hx => ?_, ?_⟩
      · obtain ⟨z, hz, rfl⟩ := keys_at hx
        exact pW_ok W z.1
      · obtain ⟨z, hz, rfl⟩ := keys_at hx
        have a := w.at hz
        have hk : keyD (nD z.1) = some (.inl (z.1 : Int)) := rfl
        simp only [hk, a.2]
        refine ⟨?_, rfl⟩
        unfold gW dInt nD
        simp only [Int.toNat_natCast, a.1]
      · rw [hs]
        have := q ss h1 sy x1
        unfold tabL at this
        rw [hls] at this
        exact this
theorem pure_table_bits (A : Ad) (s : sp_table_bits A ds h Q' E') : rd_table_bits A (fun _ => E') { nx := fun _ h' => Q' .non h', rt := Q' } (mstart N_table_bits ds) h := by
  obtain ⟨W, v, cs, ss, rfl, w, t, hin, hP, q⟩ := s
  rw [show mstart N_table_bits [wD W, v] = [some (wD W), some v] from rfl]
  unfold rd_table_bits
  have hf := codes_fst t
  have ch := chain_tab t
  simp
  refine ⟨W, rfl, w, hP, v, rfl, isTab_ok t, fun n => absurd (isTab_fault t) n, fun cs' ss' t' p hp => ?_⟩
  obtain ⟨rfl, rfl⟩ := tab_uniq t t'
  simp [fzW, mupd_same, mdel_mupd hp]
  exact ⟨W, _, rfl, w, fun z hz => by rw [hf]; exact hin z hz, fun z hz => by have := (ch.all.2 z.2 (List.mem_map.mpr ⟨z, hz, rfl⟩)).1; omega, q⟩
theorem look_none {C : List (Nat × List Int)} {x : Nat} (h : x ∉ C.map (·.1)) : C.lookup x = none := by
  induction C with
  | nil => rfl
  | cons z C ih =>
    rw [List.map_cons, List.mem_cons, not_or] at h
    rw [List.lookup_cons]
    have : (x == z.1) = false := by simpa using h.1
    rw [this]
    exact ih h.2
theorem pure_is_least (A : Ad) (s : sp_is_least A ds h Q' E') : rd_is_least A (fun _ => E') { nx := fun _ h' => Q' .non h', rt := Q' } (mstart N_is_least ds) h := by
  obtain ⟨W, L, v, cs, ss, rfl, w, l, t, hP, q⟩ := s
  have szl := szL
  have wl := w.len
  have hf := codes_fst t
  have ch := chain_tab t
  rw [show mstart N_is_least [wD W, v, nD L] = [some (wD W), some v, some (nD L), none, none] from rfl]
  unfold rd_is_least
  simp
  refine ⟨W, rfl, w, hP, isTab_ok t, ?_⟩
  rw [if_pos (isTab_fault t)]
  refine ⟨L, rfl, l.l1, l.l16, W, L, rfl, l, _, rfl, isTab_ok t, fun n => absurd (isTab_fault t) n, fun cs' ss' t' p hp => ?_⟩
  obtain ⟨rfl, rfl⟩ := tab_uniq t t'
  obtain ⟨C, hC⟩ : ∃ C, codesM cs' ss' = C := ⟨_, rfl⟩
  have cl : ∀ z ∈ C, z.2.length ≤ 1000 := fun z hz => by rw [← hC] at hz; have := (ch.all.2 z.2 (List.mem_map.mpr ⟨z, hz, rfl⟩)).1; omega
  rw [hC] at hf q ⊢
  simp [fzW, mupd_same, mdel_mupd hp, wD]
  rw [wK_keys, List.map_map]
  refine lc_over (fun z : Nat × Nat => nD z.1) (fun z => D.bl (decide (z.1 ∈ C.map (·.1)) && decide ((codeL C z.1).length ≤ L))) W (by omega) (fun z hz K k => ⟨_, rfl, ?_⟩) ?_
  · simp [mwipe, List.set, nD]
    rw [codesD_at]
    by_cases hm : z.1 ∈ C.map (·.1)
    · obtain ⟨b, hb, _⟩ := look_mem hm
      have e1 : codeL C z.1 = b := by unfold codeL; rw [hb]; rfl
      rw [e1, decide_eq_true hm, Bool.true_and] at k
      rw [hb]
      simpa using k
    · have hn : C.lookup z.1 = none := look_none hm
      rw [decide_eq_false hm, Bool.false_and] at k
      rw [hn]
      simpa using k
  · unfold fAll fBools
    have e := bls_map (fun z : Nat × Nat => decide (z.1 ∈ C.map (·.1)) && decide ((codeL C z.1).length ≤ L)) W
    simp only [ls_lst, Option.bind_some, e, List.all_map]
    have ea : (W.all (id ∘ fun z : Nat × Nat => decide (z.1 ∈ C.map (·.1)) && decide ((codeL C z.1).length ≤ L))) = W.all fun z => decide (z.1 ∈ C.map (·.1)) && decide ((codeL C z.1).length ≤ L) := rfl
    rw [ea]
    unfold LK.isL at q
    cases hb : (W.all fun z => decide (z.1 ∈ C.map (·.1)) && decide ((codeL C z.1).length ≤ L)) with
    | true =>
      rw [hb, Bool.true_and] at q
      have hb := List.all_eq_true.mp hb
      simp
      refine ⟨W, C, rfl, w, fun z hz => ?_, cl, W, L, rfl, w, l, fun h' x' => ?_⟩
      · have := hb z hz
        rw [Bool.and_eq_true, decide_eq_true_eq] at this
        exact this.1
      · simp
        have e2 : (bitsW W C == fewL W L) = decide (bitsW W C = fewL W L) := by
          rw [Bool.eq_iff_iff]; simp
        rw [e2]
        exact q h' x'
    | false =>
      rw [hb, Bool.false_and] at q
      simp
      exact q h Ext.refl
theorem exp_len : ∀ (cs : List Nat) (k : Nat), (expL k cs).length = cs.sum
  | [], _ => rfl
  | c :: cs, k => by unfold expL; rw [List.length_append, List.length_replicate, exp_len cs, List.sum_cons]
theorem exp_at : ∀ (cs : List Nat) (k i j c : Nat), cs[i]? = some c → j < c → (expL k cs)[(cs.take i).sum + j]? = some (k + i)
  | [], _, i, _, _, h, _ => by simp at h
  | c :: cs, k, 0, j, d, h, hj => by
    cases h
    unfold expL
    simp only [List.take_zero, List.sum_nil, Nat.zero_add]
    rw [List.getElem?_append_left (by simpa using hj), List.getElem?_replicate, if_pos hj]; rfl
  | c :: cs, k, i + 1, j, d, h, hj => by
    have ih := exp_at cs (k + 1) i j d (by simpa using h) hj
    unfold expL
    rw [List.take_succ_cons, List.sum_cons, List.getElem?_append_right (by simp; omega)]
    simp only [List.length_replicate]
    rw [show c + (cs.take i).sum + j - c = (cs.take i).sum + j by omega, ih]
    congr 1; omega
theorem put_new {P : List (Nat × Nat)} {s : Nat} (h : s ∉ P.map (·.1)) (l : Nat) : putD (wK P) (.inl (s : Int)) (nD l) = wK (P ++ [(s, l)]) := by
  unfold putD
  have : ((wK P).any fun kv => decide (kv.1 = .inl (s : Int))) = false := by
    rw [List.any_eq_false]
    intro kv hkv
    obtain ⟨z, hz, rfl⟩ := List.mem_map.mp hkv
    simp only [decide_eq_true_eq]
    intro e
    injection e with e
    exact h (List.mem_map.mpr ⟨z, hz, by omega⟩)
  rw [if_neg (by rw [this]; decide)]
  unfold wK
  rw [List.map_append]; rfl
theorem sum_le' {l : List Nat} {m : Nat} (h : ∀ c ∈ l, c ≤ m) : l.sum ≤ m * l.length := by
  induction l with
  | nil => simp
  | cons c l ih =>
    have := ih fun x hx => h x (by simp [hx])
    have := h c (by simp)
    rw [List.sum_cons, List.length_cons, Nat.mul_succ]; omega
theorem sum_take_le (cs : List Nat) (i : Nat) : (cs.take i).sum ≤ cs.sum := by
  conv => rhs; rw [← List.take_append_drop i cs, List.sum_append]
  omega
theorem sum_take_succ {cs : List Nat} {i c : Nat} (h : cs[i]? = some c) : (cs.take (i + 1)).sum = (cs.take i).sum + c := by
  rw [take_snoc h, List.sum_append]; simp
theorem pure_law_lengths (s : sp_law_lengths ds h Q' E') : rd_law_lengths { nx := fun _ h' => Q' .non h', rt := Q' } (mstart N_law_lengths ds) h := by
  obtain ⟨v, cs, ss, rfl, t, q⟩ := s
  have szl := szL
  rw [show mstart N_law_lengths [v] = [some v, none, none, none, none, none] from rfl]
  unfold rd_law_lengths
  have te := t.eq
  have tv : ∀ h, sqOf h v = some [D.tup (cs.map nD), D.tup (ss.map nD)] := fun h => by rw [te]; rfl
  have t0 : atI [D.tup (cs.map nD), D.tup (ss.map nD)] 0 = some (.tup (cs.map nD)) := rfl
  have t1 : atI [D.tup (cs.map nD), D.tup (ss.map nD)] 1 = some (.tup (ss.map nD)) := rfl
  simp [tv, t0]
  intro p hp
  have sl := t.sl
  have el := exp_len cs 1
  have smax := sum_le' t.cb
  rw [t.l16] at smax
  refine wLoop_inv (fun i σ h' => h' = mupd h p (.dct (wK ((lenP cs ss).take (cs.take i).sum))) ∧ ∃ v3 v4 v5, σ = [some v, some (.ref p), some (nD (cs.take i).sum), v3, v4, v5]) ⟨by simp [wK], none, none, none, by simp [nD]⟩ ?_ ?_
  · rintro i d σ h' K e ⟨rfl, v3, v4, v5, rfl⟩ hK
    obtain ⟨x, ex, rfl⟩ := enum_get e
    obtain ⟨c, ec, rfl⟩ := map_get ex
    have stl := sum_take_succ ec
    have sle := sum_take_le cs (i + 1)
    have cb := t.cb c (List.mem_of_getElem? ec)
    unfold lb_law_lengths_1
    simp [nD]
    refine ⟨by omega, ?_⟩
    refine wLoop_inv (fun j σ h2 => h2 = mupd h p (.dct (wK ((lenP cs ss).take ((cs.take i).sum + j)))) ∧ ∃ v5, σ = [some v, some (.ref p), some (nD ((cs.take i).sum + j)), some (.int i), some (.int c), v5]) ⟨by simp, v5, by simp [nD]⟩ ?_ ?_
    · rintro j d2 σ h2 K2 e2 ⟨rfl, v5, rfl⟩ hK2
      obtain ⟨hj, rfl⟩ := range_get e2
      have hlt : (cs.take i).sum + j < ss.length := by omega
      obtain ⟨s, es⟩ : ∃ s, ss[(cs.take i).sum + j]? = some s := ⟨_, List.getElem?_eq_getElem hlt⟩
      have ea := exp_at cs 1 i j c ec hj
      have ep : (lenP cs ss)[(cs.take i).sum + j]? = some (s, 1 + i) := by
        unfold lenP
        rw [List.getElem?_zip_eq_some]
        exact ⟨es, ea⟩
      have a1 : atI (ss.map nD) (((cs.take i).sum + j : Nat) : Int) = some (nD s) := by
        rw [atI_of (by simpa using hlt), List.getElem_map, (List.getElem?_eq_some_iff.mp es).2]
      have nw : s ∉ ((lenP cs ss).take ((cs.take i).sum + j)).map (·.1) := by
        unfold lenP
        rw [List.map_take, List.map_fst_zip (by omega)]
        intro hm
        obtain ⟨k, hk, e⟩ := List.getElem_of_mem hm
        rw [List.length_take] at hk
        rw [List.getElem_take] at e
        have := (List.pairwise_iff_getElem.mp t.nd) k ((cs.take i).sum + j) (by omega) hlt (by omega)
        exact this (e.trans (List.getElem?_eq_some_iff.mp es).2.symm)
      have pn := put_new nw (i + 1)
      unfold lb_law_lengths_0
      rw [Int.natCast_add] at a1
      have ks : keyD (nD s) = some (.inl (s : Int)) := rfl
      simp [nD, tv, t1, mupd_same, mupd_mupd, a1]
      simp only [nD, Int.natCast_add] at pn
      rw [show (D.int ((i : Int) + 1)) = D.int ((i : Int) + ((1 : Nat) : Int)) by rfl, pn]
      refine ⟨by rw [wK_len, List.length_take]; unfold lenP; rw [List.length_zip, el]; omega, hK2 _ _ ⟨?_, some (.int j), ?_⟩⟩
      · rw [← Nat.add_assoc, take_snoc ep, Nat.add_comm 1 i]
      · simp [Int.add_assoc, nD]
    · rintro σ h2 ⟨rfl, v5, rfl⟩
      rw [range_len]
      refine hK _ _ ⟨by rw [stl], some (.int i), some (.int c), v5, ?_⟩
      rw [stl]
  · rintro σ h' ⟨rfl, v3, v4, v5, rfl⟩
    rw [enum_len, List.length_map, List.take_length]
    have : (lenP cs ss).take cs.sum = lenP cs ss := by
      unfold lenP
      rw [List.take_of_length_le (by simp; omega)]
    rw [this]
    simp [mupd_same, mdel_mupd hp]
    exact q
theorem o_lenR {h : MH} {p : Addr} {xs : List D} {Q : MQ} (e : h p = some (.lst xs)) : fLen [.ref p] h Q = Q (.int xs.length) h := by
  simp [fLen, sqOf, e]
theorem pop_ok {h : MH} {p : Addr} {xs : List D} {Q : MQ} {r : Nat} {x : D} (e : h p = some (.lst xs)) (hx : xs[r]? = some x) (hr : r < 1000000000) (q : Q x (mupd h p (.lst (xs.eraseIdx r)))) : fPopAt (.ref p) [.int (r : Int)] h Q := by
  simp [e, hx]
  exact ⟨by omega, q⟩
theorem map_erase (rest : List Nat) (r : Nat) : (rest.map nD).eraseIdx r = (rest.eraseIdx r).map nD := by
  induction rest generalizing r with
  | nil => rfl
  | cons a l ih =>
    cases r with
    | zero => rfl
    | succ r => rw [List.map_cons, List.eraseIdx_cons_succ, List.eraseIdx_cons_succ, List.map_cons, ih]
theorem perm_erase {rest : List Nat} {r x : Nat} (hx : rest[r]? = some x) : List.Perm (x :: rest.eraseIdx r) rest := by
  induction rest generalizing r with
  | nil => simp at hx
  | cons a l ih =>
    cases r with
    | zero => simp at hx; subst hx; exact List.Perm.refl _
    | succ r =>
      rw [List.eraseIdx_cons_succ]
      exact (List.Perm.swap _ _ _).trans ((ih (by simpa using hx)).cons a)
theorem perm_pop {ss rest : List Nat} {r x : Nat} (hx : rest[r]? = some x) : List.Perm ((ss ++ [x]) ++ rest.eraseIdx r) (ss ++ rest) := by
  rw [List.append_assoc]
  exact List.Perm.append_left ss (perm_erase hx)
structure WB (h h' : MH) (s p p1 : Addr) (some : List Nat) (W : List (Nat × Nat)) : Prop where
  src : Src h' s
  atp : h' p = .some (.lst (some.map nD))
  atq : h' p1 = .some (.dct (wK W))
  oth : ∀ a c, a ≠ s → h a = .some c → h' a = .some c
theorem sort_pairs {ts : List (List Int)} {h : MH} {Q : MQ} (hn : ∀ t ∈ ts, t ≠ []) (q : Q (.lst ((sortL ts).map dTup)) h) : fSorted [.lst (ts.map dTup)] h Q := by
  cases ts with
  | nil =>
    have := o_sortedI (ns := []) (h := h) (Q := Q)
    simp only [List.map_nil] at this q ⊢
    rw [this]
    have s0 : sortI [] = [] := by unfold sortI; simp
    have s1 : sortL [] = [] := by unfold sortL; simp
    rw [s0]
    rw [s1] at q
    exact q
  | cons t ts => exact o_sortedT (by simp) hn q
theorem keys_ints (W : List (Nat × Nat)) : intsOf (keysD' (wK W)) = some (W.map fun z => (z.1 : Int)) := by
  rw [wK_keys, List.map_map]
  exact ints_map (fun z : Nat × Nat => (z.1 : Int)) W
theorem sym_sort (W : List (Nat × Nat)) : (sortI (W.map fun z => (z.1 : Int))).map D.int = (symS W).map nD := sym_ints W
theorem lenP_eq {v : D} {cs ss : List Nat} (t : IsTab v cs ss) : lenP cs ss = (codesM cs ss).map fun z => (z.1, z.2.length) := by
  have hf := codes_fst t
  have hl := codes_lens t
  have e : lenP cs ss = ((codesM cs ss).map (·.1)).zip ((codesM cs ss).map fun z => z.2.length) := by rw [hf, hl]; rfl
  rw [e, List.zip_map']
theorem lenP_look {v : D} {cs ss : List Nat} (t : IsTab v cs ss) {s : Nat} (hs : s ∈ ss) : atD (wK (lenP cs ss)) (.inl (s : Int)) = some (nD (codeL (codesM cs ss) s).length) ∧ (s, codeL (codesM cs ss) s) ∈ codesM cs ss := by
  have hf := codes_fst t
  have nd : ((codesM cs ss).map (·.1)).Nodup := by rw [hf]; exact t.nd
  rw [← hf] at hs
  obtain ⟨z, hz, rfl⟩ := List.mem_map.mp hs
  have lk := look_in nd hz
  have e : codeL (codesM cs ss) z.1 = z.2 := by unfold codeL; rw [lk]; rfl
  rw [e]
  refine ⟨?_, hz⟩
  rw [wK_at, lenP_eq t]
  have nd2 : (((codesM cs ss).map fun z => (z.1, z.2.length)).map (·.1)).Nodup := by rw [List.map_map]; exact nd
  have := lookup_in nd2 (z := (z.1, z.2.length)) (List.mem_map.mpr ⟨z, hz, rfl⟩)
  rw [this]; rfl
theorem least_bitsW {W : List (Nat × Nat)} (w : Wt W) {L : Nat} (l : Lim W L) {ss : List Nat} (y : Sy W ss) : bitsW W (codesM (countsL (lensW W L)) ss) = fewL W L := by
  obtain ⟨r1, _, _, r4⟩ := least_row l w y (sym_perm W)
  rw [← r4]
  refine bits_by_zip w (sym_perm W) r1 fun z hz => ?_
  unfold leastR at hz
  have : ((symS W).map fun s => (codeL (codesM (countsL (lensW W L)) ss) s).length).zip (symS W) = (symS W).map fun s => ((codeL (codesM (countsL (lensW W L)) ss) s).length, s) := by
    conv => lhs; rw [show ((symS W).map fun s => (codeL (codesM (countsL (lensW W L)) ss) s).length).zip (symS W) = ((symS W).map fun s => (codeL (codesM (countsL (lensW W L)) ss) s).length).zip ((symS W).map id) by simp]
    rw [List.zip_map']; rfl
  rw [this] at hz
  obtain ⟨s, _, rfl⟩ := List.mem_map.mp hz
  rfl
theorem lc_ext {α : Type} {put : MSt → D → Option MSt} {te : WE} {σ : MSt} {Q : List D → MH → Prop} {h0 : MH} (e g : α → D) (xs : List α) (hl : xs.length ≤ 16000000) {h : MH} (x0 : Ext h0 h)
    (hs : ∀ x ∈ xs, ∀ h2, Ext h0 h2 → ∀ K : MQ, (∀ h3, Ext h2 h3 → K (g x) h3) → ∃ σ2, put σ (e x) = some σ2 ∧ te σ2 h2 K) (q : ∀ h', Ext h0 h' → Q (xs.map g) h') : wLcGo put wYes te σ (xs.map e) [] h Q := by
  have szl := szL
  refine wLcGo_inv (fun i acc h' => Ext h0 h' ∧ acc = (xs.map g).take i) ⟨x0, by simp⟩ ?_ ?_
  · rintro i d acc h' K ed ⟨xe, rfl⟩ hK
    obtain ⟨x, ex, rfl⟩ := map_get ed
    have hi := (List.getElem?_eq_some_iff.mp ex).1
    obtain ⟨σ2, e1, e2⟩ := hs x (List.mem_of_getElem? ex) h' xe (fun y h4 => ((xs.map g).take i).length < sizeLine ∧ K ((xs.map g).take i ++ [y]) h4) (fun h3 x3 => ⟨by simp; omega, hK _ _ ⟨xe.trans x3, by
      rw [take_snoc (x := g x) (by rw [List.getElem?_map, ex]; rfl)]⟩⟩)
    exact ⟨σ2, e1, by simpa using e2⟩
  · rintro acc h' ⟨xe, rfl⟩
    rw [List.take_of_length_le (by simp)]
    exact q h' xe
theorem lims_mem {W : List (Nat × Nat)} {L : Nat} : L ∈ limsW W ↔ Lim W L := by
  unfold limsW
  rw [List.mem_filter, decide_eq_true_eq, List.mem_map]
  constructor
  · rintro ⟨⟨i, hi, rfl⟩, h⟩
    have hi : i < 16 := by simpa using hi
    exact ⟨by omega, by omega, h⟩
  · intro l
    have := l.l1
    have := l.l16
    exact ⟨⟨L - 1, by simp; omega, by omega⟩, l.room⟩
theorem lims_len (W : List (Nat × Nat)) : (limsW W).length ≤ 16 := by
  unfold limsW
  refine Nat.le_trans (List.length_filter_le _ _) ?_
  simp
theorem lims_lc {W : List (Nat × Nat)} {σ : MSt} {wi ki : Nat} {h : MH} {Q : List D → MH → Prop} (e1 : ∀ d, (σ.set ki (some d))[wi]? = some (some (.dcl (wK W)))) (e4 : ∀ d, (σ.set ki (some d))[ki]? = some (some d)) (e5 : ki < σ.length) (q : Q ((limsW W).map nD) h) :
    wLcGo (put1 ki) (wTest (wLt (wCB fLenDs (wCons (wVar wi) wNil)) (wShl (wC (.int 1)) (wVar ki)))) (wVar ki) σ (rangeD 1 16) [] h Q := by
  have er : rangeD 1 16 = ((List.range 16).map (· + 1)).map nD := by
    unfold rangeD
    rw [List.map_map]
    refine List.map_congr_left fun i _ => ?_
    simp only [Function.comp_def, nD, Int.natCast_add]
    rw [Int.add_comm]; rfl
  rw [er]
  refine lc_filter nD nD (fun l => decide (W.length < 2 ^ l)) _ (by simp) (fun l hl => ⟨σ.set ki (some (nD l)), by simp [put1, e5], fun K k => ?_⟩) (fun l _ _ σ2 e K k => ?_) q
  · obtain ⟨i, hi, rfl⟩ := List.mem_map.mp hl
    have hi : i < 16 := by simpa using hi
    have so : shlOk 1 ((i + 1 : Nat) : Int) := BP.shl_ok (n := 1) (by decide) (by omega) (by omega) (by omega)
    have e2 : ((W.length : Nat) : Int) < 2 ^ (i + 1) ↔ W.length < 2 ^ (i + 1) := by
      have : ((2 ^ (i + 1) : Nat) : Int) = 2 ^ (i + 1) := by simp
      rw [← this]; omega
    simp [e1, e4, nD, wK_len, e2] at so k ⊢
    exact ⟨so, k⟩
  · have e : List.set σ ki (some (nD l)) = σ2 := by simpa [put1, e5] using e
    subst e
    simp only [r_var, e4]
    exact k
theorem pure_by_limits (A : Ad) (s : sp_by_limits A ds h Q' E') : rd_by_limits A (fun _ => E') { nx := fun _ h' => Q' .non h', rt := Q' } (mstart N_by_limits ds) h := by
  obtain ⟨W, rfl, w, hP, q⟩ := s
  have szl := szL
  have wl := w.len
  rw [show mstart N_by_limits [wD W] = [some (wD W), none, none] from rfl]
  unfold rd_by_limits
  simp
  refine ⟨W, rfl, w, hP, ?_⟩
  simp only [wD]
  refine lims_lc (fun d => rfl) (fun d => rfl) (show 2 < 3 by decide) ?_
  refine lc_ext (h0 := h) nD (limD W) (limsW W) (by have := lims_len W; omega) Ext.refl (fun L hL h2 x2 K k => ⟨_, rfl, ?_⟩) fun h' x' p hp => q h' p x' hp
  have l := lims_mem.mp hL
  simp [mwipe, List.set, nD]
  refine ⟨W, L, rfl, w, l, fun h3 x3 => ?_⟩
  exact k h3 x3
theorem frob0 {h h1 h2 : MH} {s p p1 : Addr} {sm : List Nat} {W : List (Nat × Nat)} (ps : p ≠ s) (p2s : p1 ≠ s) (b : WB h h1 s p p1 sm W) (f : Fro h1 h2 s) : WB h h2 s p p1 sm W :=
  ⟨f.src, by rw [f.oth _ ps]; exact b.atp, by rw [f.oth _ p2s]; exact b.atq, fun a c n e => by rw [f.oth _ n]; exact b.oth a c n e⟩
theorem pure_law_weights (s : sp_law_weights ds h Q' E') : rd_law_weights { nx := fun _ h' => Q' .non h', rt := Q' } (mstart N_law_weights ds) h := by
  obtain ⟨s, rfl, hs, q⟩ := s
  have szl := szL
  rw [show mstart N_law_weights [.ref s] = [some (.ref s), none, none, none, none, none, none, none, none] from rfl]
  unfold rd_law_weights
  simp
  refine one_ok hs (by simp) (by simp) fun x h1 hx f1 => ?_
  obtain ⟨T, hT, rfl⟩ : ∃ T : Nat, (6 ≤ T ∧ T ≤ 244) ∧ x = nD T := by
    simp at hx
    rcases hx with rfl | rfl | rfl | rfl | rfl | rfl
    · exact ⟨6, by omega, rfl⟩
    · exact ⟨17, by omega, rfl⟩
    · exact ⟨30, by omega, rfl⟩
    · exact ⟨60, by omega, rfl⟩
    · exact ⟨120, by omega, rfl⟩
    · exact ⟨244, by omega, rfl⟩
  refine next_ok f1.src (by omega) (by omega) fun n h2 n0 n1 f2 => ?_
  obtain ⟨n, rfl⟩ := Int.eq_ofNat_of_zero_le n0
  simp [nD]
  refine next_ok f2.src (by omega) (by omega) fun y h3 y0 y1 f3 => ?_
  obtain ⟨y, rfl⟩ := Int.eq_ofNat_of_zero_le y0
  have f13 : Fro h h3 s := (f1.trans f2).trans f3
  refine ⟨by unfold rgOk; omega, fun p hp p1 hp1 => ?_⟩
  have hp0 : h p = none := by
    by_cases e : p = s
    · rw [e] at hp; exact absurd hp (by obtain ⟨a, b, c, hz⟩ := f13.src; rw [hz]; simp)
    · rw [← f13.oth _ e]; exact hp
  have ps : p ≠ s := by rintro rfl; exact f13.src.some hp
  have pq : p ≠ p1 := by rintro rfl; simp at hp1
  have hp3 : h3 p1 = none := by rw [mupd_ne (Ne.symm pq)] at hp1; exact hp1
  have p2s : p1 ≠ s := by rintro rfl; exact f13.src.some hp3
  have hp4 : h p1 = none := by rw [← f13.oth _ p2s]; exact hp3
  have e0 : rgD 0 256 = (List.range 256).map nD := by
    unfold rgD
    apply List.map_congr_left
    intro a _
    rw [Int.zero_add]; rfl
  rw [e0]
  have b0 : WB h (mupd (mupd h3 p (.lst ((List.range 256).map nD))) p1 (.dct [])) s p p1 (List.range 256) [] := ⟨src_upd (src_upd f13.src ps) p2s, by rw [mupd_ne pq, mupd_same], mupd_same, fun a c n e => by
    have n1 : a ≠ p := by rintro rfl; rw [hp0] at e; cases e
    have n2 : a ≠ p1 := by rintro rfl; rw [hp4] at e; cases e
    rw [mupd_ne n2, mupd_ne n1, f13.oth _ n]; exact e⟩
  have frob : ∀ {h1 h2 : MH} {sm : List Nat} {W : List (Nat × Nat)}, WB h h1 s p p1 sm W → Fro h1 h2 s → WB h h2 s p p1 sm W := frob0 ps p2s
  obtain ⟨m, hm⟩ : ∃ m : Nat, m = T + n := ⟨_, rfl⟩
  have em : (T : Int) + (n : Int) = (m : Int) := by omega
  rw [em]
  refine ⟨by omega, ?_⟩
  refine wLoop_inv (fun i σ h' => ∃ (rest : List Nat) (W : List (Nat × Nat)) (a b : Nat) (v1 v7 v8 : Option D), WB h h' s p p1 rest W ∧ σ = [some (.ref s), v1, some (nD m), some (nD y), some (.ref p), some (.ref p1), some (.lst [nD a, nD b]), v7, v8] ∧ (1 ≤ a ∧ a ≤ 1000000000000000000 ∧ 1 ≤ b ∧ b ≤ 1000000000000000000) ∧ W.length = i ∧ i ≤ m ∧ rest.length = 256 - i ∧ (W.map (·.1) ++ rest).Nodup ∧ (∀ c ∈ W.map (·.1) ++ rest, c ≤ 255) ∧ ∀ z ∈ W, 1 ≤ z.2 ∧ z.2 ≤ 1000000000000000000) ⟨List.range 256, [], 1, 1, none, none, none, b0, rfl, by omega, rfl, by omega, by simp, by simpa using List.nodup_range, by simp; intro c hc; omega, by simp⟩ ?_ ?_
  · rintro i d σ h' K e ⟨rest, W, a, b, v1, v7, v8, wb, rfl, hab, wl, him, rl, nd, hb, hw⟩ hK
    obtain ⟨hi, rfl⟩ := range_get e
    unfold lb_law_weights_0
    simp [nD]
    have t0 : atI [D.int (a : Int), D.int (b : Int)] 0 = some (D.int a) := rfl
    have t1 : atI [D.int (a : Int), D.int (b : Int)] 1 = some (D.int b) := rfl
    obtain ⟨c, ec, hc⟩ : ∃ c : Nat, (if (1000000000000000000 : Int) < (a : Int) + (b : Int) then (1000000000000000000 : Int) else (a : Int) + (b : Int)) = (c : Int) ∧ (1 ≤ c ∧ c ≤ 1000000000000000000) := by
      by_cases h : (1000000000000000000 : Int) < (a : Int) + (b : Int)
      · rw [if_pos h]; exact ⟨1000000000000000000, rfl, by omega⟩
      · rw [if_neg h]; exact ⟨a + b, by omega, by omega⟩
    simp [t0, t1, ec]
    refine next_ok wb.src (by omega) (by omega) fun g h4 g0 g1 f4 => ?_
    obtain ⟨g, rfl⟩ := Int.eq_ofNat_of_zero_le g0
    have wb4 := frob wb f4
    refine one_ok wb4.src (by simp) (by simp) fun x h5 hx f5 => ?_
    obtain ⟨u, hu, rfl⟩ : ∃ u : Nat, u ≤ 1000000000 ∧ x = nD u := by
      simp at hx
      rcases hx with rfl | rfl | rfl
      · exact ⟨0, by omega, rfl⟩
      · exact ⟨1, by omega, rfl⟩
      · exact ⟨1000000000, by omega, rfl⟩
    have wb5 := frob wb4 f5
    have mo : mulOk (g : Int) (u : Int) := small_mul (by omega)
    have t2 : atI [D.int (b : Int), D.int (c : Int)] 0 = some (D.int b) := rfl
    obtain ⟨sh, esh, hsh⟩ : ∃ sh : Nat, (if (59 : Int) < (i : Int) then (59 : Int) else (i : Int)) = (sh : Int) ∧ sh ≤ 59 := by
      by_cases h : (59 : Int) < (i : Int)
      · rw [if_pos h]; exact ⟨59, rfl, by omega⟩
      · rw [if_neg h]; exact ⟨i, rfl, by omega⟩
    have so : shlOk 1 (sh : Int) := BP.shl_ok (n := 1) (by decide) (by omega) (by omega) (by omega)
    simp [nD, t2, esh]
    refine ⟨mo, so, ?_⟩
    refine next_ok wb5.src (by omega) (by omega) fun e3 h6 e0 e1 f6 => ?_
    obtain ⟨e3, rfl⟩ := Int.eq_ofNat_of_zero_le e0
    have wb6 := frob wb5 f6
    obtain ⟨ld, hld, eld⟩ : ∃ ld : Nat, 1 ≤ ld ∧ atI [D.int (1 + (g : Int) * (u : Int)), D.int (2 ^ sh), D.int (b : Int), D.int (1 + (e3 : Int))] (y : Int) = some (D.int ld) := by
      have : y = 0 ∨ y = 1 ∨ y = 2 ∨ y = 3 := by omega
      rcases this with rfl | rfl | rfl | rfl
      · exact ⟨1 + g * u, by omega, by rw [Int.natCast_add, Int.natCast_mul]; rfl⟩
      · exact ⟨2 ^ sh, Nat.pow_pos (by decide), by rw [Int.natCast_pow]; rfl⟩
      · exact ⟨b, by omega, rfl⟩
      · exact ⟨1 + e3, by omega, by rw [Int.natCast_add]; rfl⟩
    obtain ⟨wt, ewt, hwt⟩ : ∃ wt : Nat, (if (1000000000000000000 : Int) < (ld : Int) then (1000000000000000000 : Int) else (ld : Int)) = (wt : Int) ∧ (1 ≤ wt ∧ wt ≤ 1000000000000000000) := by
      by_cases h : (1000000000000000000 : Int) < (ld : Int)
      · rw [if_pos h]; exact ⟨1000000000000000000, rfl, by omega⟩
      · rw [if_neg h]; exact ⟨ld, rfl, by omega⟩
    simp [eld, ewt]
    rw [o_lenR wb6.atp]
    refine ⟨by simp [wb6.atp], ?_⟩
    have rl2 : ((rest.map nD).length : Int) = 256 - i := by rw [List.length_map]; omega
    refine next_ok (m := ((rest.map nD).length : Int)) wb6.src (by omega) (by omega) fun r h7 r0 r1 f7 => ?_
    have wb7 := frob wb6 f7
    obtain ⟨r, rfl⟩ := Int.eq_ofNat_of_zero_le r0
    have hr : r < rest.length := by omega
    obtain ⟨x, hx⟩ : ∃ x, rest[r]? = some x := ⟨rest[r], by rw [List.getElem?_eq_getElem hr]⟩
    refine pop_ok wb7.atp (x := nD x) (by rw [List.getElem?_map, hx]; rfl) (by omega) ?_
    have kx : keyD (nD x) = some (.inl (x : Int)) := rfl
    have pm := perm_pop (ss := W.map (·.1)) hx
    have nx : x ∉ W.map (·.1) := by
      have := pm.nodup_iff.mpr nd
      rw [List.append_assoc] at this
      intro hm
      exact (List.nodup_append.mp this).2.2 x hm x (by simp) rfl
    have pn := put_new nx wt
    simp only [kx, mupd_ne (Ne.symm pq), wb7.atq]
    rw [show D.int (wt : Int) = nD wt from rfl, pn]
    refine ⟨by rw [wK_len]; omega, hK _ _ ⟨rest.eraseIdx r, W ++ [(x, wt)], b, c, _, _, _, ⟨?_, ?_, mupd_same, ?_⟩, rfl, by omega, by simp [wl], by omega, by rw [List.length_eraseIdx_of_lt hr]; omega, ?_, ?_, ?_⟩⟩
    · exact src_upd (src_upd wb7.src ps) p2s
    · rw [mupd_ne pq, mupd_same, map_erase]
    · intro a c n e
      have n1 : a ≠ p := by rintro rfl; rw [hp0] at e; cases e
      have n2 : a ≠ p1 := by rintro rfl; rw [hp4] at e; cases e
      rw [mupd_ne n2, mupd_ne n1]; exact wb7.oth a c n e
    · rw [List.map_append]; exact pm.nodup_iff.mpr nd
    · intro c hc
      rw [List.map_append] at hc
      exact hb c (pm.mem_iff.mp hc)
    · intro z hz
      rcases List.mem_append.mp hz with hz | hz
      · exact hw z hz
      · rw [List.mem_singleton] at hz
        rw [hz]
        exact hwt
  · rintro σ h' ⟨rest, W, a, b, v1, v7, v8, wb, rfl, hab, wl, him, rl, nd, hb, hw⟩
    rw [range_len] at wl
    have e1 : (mdel h' p) p1 = some (.dct (wK W)) := by
      unfold mdel
      rw [if_neg (Ne.symm pq)]; exact wb.atq
    simp [wb.atp, e1]
    refine q W _ (by omega) (by omega) ⟨(List.nodup_append.mp nd).1, fun z hz => hb _ (List.mem_append_left _ (List.mem_map.mpr ⟨z, hz, rfl⟩)), hw, by omega⟩ ⟨?_, fun a c n e => ?_⟩
    · exact src_del (src_del wb.src ps) p2s
    · have n1 : a ≠ p := by rintro rfl; rw [hp0] at e; cases e
      have n2 : a ≠ p1 := by rintro rfl; rw [hp4] at e; cases e
      unfold mdel
      rw [if_neg n2, if_neg n1]; exact wb.oth a c n e
def whL (z : WH) : List Int := [z.1, (z.2 : Int)]
def whD (z : WH) : D := dTup (whL z)
def unW (t : List Int) : WH := ((t[0]?).getD 0, ((t[1]?).getD 0).toNat)
theorem un_wh (z : WH) : unW (whL z) = z := by
  obtain ⟨a, b⟩ := z
  simp [unW, whL]
def srtW (l : List WH) : List WH := (sortL (l.map whL)).map unW
theorem sortL_perm (l : List (List Int)) : (sortL l).Perm l := List.mergeSort_perm _ _
theorem sortL_ord (l : List (List Int)) : (sortL l).Pairwise fun x y => lexL y x = false := by
  have st := List.pairwise_mergeSort (le := leL) (fun a b c h1 h2 => by simp [leL] at *; exact lexL_tr _ _ _ h1 h2) (fun a b => by
    simp [leL]
    cases h : lexL b a with
    | false => exact .inl rfl
    | true => exact .inr (lexL_asym _ _ h)) l
  change (sortL l).Pairwise _ at st
  exact st.imp fun {a b} h => by simpa [leL] using h
theorem srtW_map (l : List WH) : (srtW l).map whL = sortL (l.map whL) := by
  unfold srtW
  rw [List.map_map]
  conv => rhs; rw [← List.map_id (sortL (l.map whL))]
  refine List.map_congr_left fun t ht => ?_
  obtain ⟨z, _, rfl⟩ := List.mem_map.mp ((sortL_perm _).mem_iff.mp ht)
  simp only [Function.comp_def, un_wh]
  rfl
theorem srtW_perm (l : List WH) : (srtW l).Perm l := by
  have := (sortL_perm (l.map whL)).map unW
  rw [List.map_map] at this
  have e : l.map (unW ∘ whL) = l := by
    conv => rhs; rw [← List.map_id l]
    exact List.map_congr_left fun z _ => un_wh z
  rw [e] at this
  exact this
theorem lex_wh {x y : WH} (h : lexL (whL y) (whL x) = false) : x.1 ≤ y.1 ∧ (x.1 = y.1 → x.2 ≤ y.2) := by
  unfold whL at h
  rw [lexL] at h
  by_cases e : y.1 = x.1
  · rw [if_pos e] at h
    unfold lexL at h
    by_cases e2 : (y.2 : Int) = (x.2 : Int)
    · omega
    · rw [if_neg e2] at h
      have : ¬ ((y.2 : Int) < (x.2 : Int)) := by simpa using h
      omega
  · rw [if_neg e] at h
    have : ¬ (y.1 < x.1) := by simpa using h
    omega
theorem srtW_lex (l : List WH) : (srtW l).Pairwise fun x y => x.1 ≤ y.1 ∧ (x.1 = y.1 → x.2 ≤ y.2) := by
  have := sortL_ord (l.map whL)
  rw [← srtW_map, List.pairwise_map] at this
  exact this.imp lex_wh
theorem srtW_ok : Srt srtW := ⟨srtW_perm, fun l => (srtW_lex l).imp fun h => h.1⟩
theorem srtW_congr {a b : List WH} (p : a.Perm b) : srtW a = srtW b := by
  unfold srtW
  congr 1
  refine sortL_uniq (((sortL_perm _).trans (p.map whL))) (sortL_ord _)
theorem sort_whs {l : List WH} {h : MH} {Q : MQ} (q : Q (.lst ((srtW l).map whD)) h) : fSorted [.lst (l.map whD)] h Q := by
  have e : ∀ l : List WH, l.map whD = (l.map whL).map dTup := fun l => by rw [List.map_map]; rfl
  rw [e]
  refine sort_pairs (fun t ht => by obtain ⟨z, _, rfl⟩ := List.mem_map.mp ht; simp [whL]) ?_
  rw [← srtW_map, ← e]
  exact q
theorem pure_law_free_bits (s : sp_law_free_bits ds h Q' E') : rd_law_free_bits { nx := fun _ h' => Q' .non h', rt := Q' } (mstart N_law_free_bits ds) h := by
  obtain ⟨W, rfl, w, wl, q⟩ := s
  have szl := szL
  rw [show mstart N_law_free_bits [wD W] = [some (wD W), none, none, none, none, none, none] from rfl]
  unfold rd_law_free_bits
  simp [wD, wK_len]
  rw [wK_keys, List.map_map]
  refine lc_over (fun z : Nat × Nat => nD z.1) (fun z => whD ((z.2 : Int), 0)) W (by omega) (fun z hz K k => ⟨_, rfl, ?_⟩) ?_
  · have a := (w.at hz).2
    simp [mwipe, List.set, nD]
    rw [a]
    simpa [whD, dTup, whL, nD] using k
  obtain ⟨l0, hl0⟩ : ∃ l0 : List WH, l0 = W.map (fun z => ((z.2 : Int), 0)) ++ [(0, 0)] := ⟨_, rfl⟩
  have e0 : (W.map fun z => whD ((z.2 : Int), 0)) ++ [D.tup [.int 0, .int 0]] = l0.map whD := by
    rw [hl0, List.map_append, List.map_map]; rfl
  have ll0 : l0.length = W.length + 1 := by rw [hl0]; simp
  refine ⟨by simp; omega, ?_⟩
  rw [e0]
  refine sort_whs ?_
  refine ⟨by omega, ?_⟩
  have pm : (srtW l0).Perm ((0, 0) :: W.map fun z => ((z.2 : Int), 0)) := (srtW_perm l0).trans (by rw [hl0]; exact List.perm_append_comm)
  have len1 : (srtW l0).length = W.length + 1 := by rw [(srtW_perm l0).length_eq, ll0]
  refine wLoop_inv (fun i σ h' => h' = h ∧ ∃ (l : List WH) (f : Int) (v1 v4 v5 : Option D), σ = [some (.dcl (wK W)), v1, some (.lst (l.map whD)), some (.int f), v4, v5, none] ∧ l.length = W.length + 1 - i ∧ i ≤ W.length ∧ joinH srtW W.length (srtW l0) = (f + (joinH srtW (W.length - i) l).1, (joinH srtW (W.length - i) l).2)) ⟨rfl, srtW l0, 0, none, none, none, rfl, by omega, by omega, by simp⟩ ?_ ?_
  · rintro i d σ h' K e ⟨rfl, l, f, v1, v4, v5, rfl, hl, hi0, hj⟩ hK
    obtain ⟨hi, rfl⟩ := range_get e
    obtain ⟨a, b, r, rfl⟩ : ∃ a b r, l = a :: b :: r := by
      match l, hl with
      | [], hl => simp at hl; omega
      | [_], hl => simp at hl; omega
      | a :: b :: r, _ => exact ⟨a, b, r, rfl⟩
    unfold lb_law_free_bits_0
    have a0 : ∀ (x y : D) (l : List D), atI (x :: y :: l) 0 = some x := fun x y l => (atI_of (i := 0) (by simp)).trans rfl
    have a1 : ∀ (x y : D) (l : List D), atI (x :: y :: l) 1 = some y := fun x y l => (atI_of (i := 1) (by simp)).trans rfl
    have c2 : ∀ (x y : D) (l : List D), cut (x :: y :: l) (some 2) none = l := fun x y l => by rw [cut_from (by omega) (by simp; omega)]; rfl
    have lr : r.length ≤ 256 := by simp at hl; omega
    simp [whD, whL, dTup, a0, a1, c2]
    refine ⟨by omega, ?_⟩
    have e1 : (if a.2 < b.2 then (b.2 : Int) else (a.2 : Int)) = ((max a.2 b.2 : Nat) : Int) := by
      split <;> omega
    rw [e1]
    have e2 : List.map whD r ++ [D.tup [.int (a.1 + b.1), .int (1 + ((max a.2 b.2 : Nat) : Int))]] = (r ++ [(a.1 + b.1, 1 + max a.2 b.2)]).map whD := by
      rw [List.map_append]; simp [whD, whL, dTup]
    rw [e2]
    refine sort_whs ?_
    rw [srtW_congr (show (r ++ [(a.1 + b.1, 1 + max a.2 b.2)]).Perm ((a.1 + b.1, 1 + max a.2 b.2) :: r) from List.perm_append_comm)]
    refine hK _ _ ⟨rfl, _, _, _, _, _, rfl, ?_, by omega, ?_⟩
    · rw [(srtW_perm _).length_eq]; simp at hl ⊢; omega
    · rw [hj, show W.length - i = (W.length - (i + 1)) + 1 by omega]
      simp only [joinH]
      rw [Int.add_assoc, Int.add_assoc, Int.add_assoc]
  · rintro σ h' ⟨rfl, l, f, v1, v4, v5, rfl, hl, hi0, hj⟩
    rw [range_len] at hl hj
    have : l.length = 1 := by omega
    match l, this with
    | [(x, H)], _ =>
      rw [Nat.sub_self] at hj
      simp only [joinH, Int.add_zero] at hj
      simp [whD, whL, dTup]
      refine q f H fun L lm hH => ?_
      have := few_join srtW_ok lm pm ((srtW_lex l0).imp fun h => h.1) (w := x) (H := H) (by rw [hj]) hH
      rw [← this, hj]
theorem pairs_map : ∀ r : List Int, pairsL r = (List.range (r.length / 2)).map fun k => r.getD (2 * k) 0 + r.getD (2 * k + 1) 0
  | [] => rfl
  | [_] => by simp [pairsL]
  | a :: b :: r => by
    rw [pairsL, pairs_map r, show (a :: b :: r).length / 2 = r.length / 2 + 1 by simp; omega, List.range_succ_eq_map, List.map_cons, List.map_map]
    congr 1
def rowB (cs : List Int) : Nat → List Int
  | 0 => []
  | k + 1 => rowN cs k
theorem rowB_step {cs : List Int} (hc : cs.Pairwise (· ≤ ·)) (k : Nat) : sortI (cs ++ pairsL (rowB cs k)) = rowB cs (k + 1) := by
  cases k with
  | zero => simp [rowB, pairsL, rowN]; exact srt_self hc
  | succ k => rfl
theorem pure_law_bits_by (s : sp_law_bits_by ds h Q' E') : rd_law_bits_by { nx := fun _ h' => Q' .non h', rt := Q' } (mstart N_law_bits_by ds) h := by
  obtain ⟨W, L, rfl, w, l, q⟩ := s
  have szl := szL
  have wl := w.len
  have l16 := l.l16
  rw [show mstart N_law_bits_by [wD W, nD L] = [some (wD W), some (nD L), none, none, none, none, none, none] from rfl]
  unfold rd_law_bits_by
  simp [wD]
  rw [wK_keys, List.map_map]
  refine lc_over (fun z : Nat × Nat => nD z.1) (fun z : Nat × Nat => nD z.2) W (by omega) (fun z hz K k => ⟨_, rfl, ?_⟩) ?_
  · have a := (w.at hz).2
    simp [mwipe, List.set, nD]
    rw [a]
    exact k
  have e0 : (W.map fun z : Nat × Nat => nD z.2) ++ [D.int 0] = ((W.map fun z : Nat × Nat => (z.2 : Int)) ++ [0]).map D.int := by
    rw [List.map_append, List.map_map]; rfl
  refine ⟨by simp; omega, ?_⟩
  rw [e0]
  simp only [o_sortedI]
  rw [show sortI ((W.map fun z : Nat × Nat => (z.2 : Int)) ++ [0]) = coinsW W from srt_congr List.perm_append_comm]
  simp [nD]
  refine ⟨by omega, ?_⟩
  have top := rowN_top (coinsW W)
  have cl := coins_len W
  have tb : ∀ k, (rowB (coinsW W) k).length ≤ 2 * (W.length + 1) := fun k => by
    cases k with
    | zero => simp [rowB]
    | succ k => have := top k; rw [cl] at this; exact this
  refine wLoop_inv (fun i σ h' => h' = h ∧ ∃ v4 v5, σ = [some (.dcl (wK W)), some (nD L), some (.lst ((coinsW W).map D.int)), some (.lst ((rowB (coinsW W) i).map D.int)), v4, v5, none, none]) ⟨rfl, none, none, rfl⟩ ?_ ?_
  · rintro i d σ h' K e ⟨rfl, v4, v5, rfl⟩ hK
    obtain ⟨hi, rfl⟩ := range_get e
    obtain ⟨r, hr⟩ : ∃ r, rowB (coinsW W) i = r := ⟨_, rfl⟩
    have rb := tb i
    have st := rowB_step (coins_sorted W) i
    rw [hr] at rb st ⊢
    unfold lb_law_bits_by_0
    simp
    refine ⟨by omega, ?_⟩
    refine lc_rangeD (r.length / 2) (fun k => D.int (r.getD (2 * k) 0 + r.getD (2 * k + 1) 0)) (by omega) (fun k hk K2 k2 => ⟨_, rfl, ?_⟩) ?_
    · have at1 : ∀ j : Nat, j < r.length → atI (r.map D.int) (j : Int) = some (.int (r.getD j 0)) := fun j hj => by
        rw [atI_of (by simpa using hj), List.getElem_map, List.getD_eq_getElem?_getD, List.getElem?_eq_getElem hj]; rfl
      have a1 := at1 (2 * k) (by omega)
      have a2 := at1 (2 * k + 1) (by omega)
      simp only [Int.natCast_add, Int.natCast_mul] at a1 a2
      simp [mwipe, List.set] at a1 a2 k2 ⊢
      simp [a1, a2]
      exact k2
    have e1 : ((List.range (r.length / 2)).map fun k => D.int (r.getD (2 * k) 0 + r.getD (2 * k + 1) 0)) = (pairsL r).map D.int := by
      rw [pairs_map, List.map_map]; rfl
    rw [e1]
    have pl := LM.pairs_len r
    simp
    refine ⟨by omega, ?_⟩
    rw [← List.map_append]
    simp only [o_sortedI]
    rw [st]
    exact hK _ _ ⟨rfl, _, _, rfl⟩
  · rintro σ h' ⟨rfl, v4, v5, rfl⟩
    rw [range_len]
    have rw1 : rowB (coinsW W) L = rowN (coinsW W) (L - 1) := by
      have := l.l1
      obtain ⟨k, rfl⟩ : ∃ k, L = k + 1 := ⟨L - 1, by omega⟩
      rfl
    rw [rw1]
    have rm := l.rows
    have mo : mulOk 2 (W.length : Int) := small_mul (by omega)
    obtain ⟨r, hr⟩ : ∃ r, rowN (coinsW W) (L - 1) = r := ⟨_, rfl⟩
    have q1 : Q' (.int ((r.take (2 * W.length)).sum)) h' := by rw [← hr]; exact q
    rw [hr] at rm ⊢
    simp [wK_len]
    rw [cut_to (by omega) (by simp; omega), show (2 * (W.length : Int)).toNat = 2 * W.length by omega, ← List.map_take]
    exact sum_ints q1
theorem lims_ex {W : List (Nat × Nat)} (h6 : 6 ≤ W.length) (h : W.length ≤ 255) : ∃ k, 1 ≤ k ∧ k ≤ 8 ∧ limsW W = (List.range (17 - k)).map (· + k) := by
  obtain ⟨k, h1, h2, h3, h4⟩ : ∃ k, 1 ≤ k ∧ k ≤ 8 ∧ 2 ^ (k - 1) ≤ W.length ∧ W.length < 2 ^ k := by
    by_cases a : W.length < 8
    · exact ⟨3, by omega, by omega, by omega, by omega⟩
    by_cases b : W.length < 16
    · exact ⟨4, by omega, by omega, by omega, by omega⟩
    by_cases c : W.length < 32
    · exact ⟨5, by omega, by omega, by omega, by omega⟩
    by_cases d : W.length < 64
    · exact ⟨6, by omega, by omega, by omega, by omega⟩
    by_cases e : W.length < 128
    · exact ⟨7, by omega, by omega, by omega, by omega⟩
    · exact ⟨8, by omega, by omega, by omega, by omega⟩
  refine ⟨k, h1, h2, ?_⟩
  unfold limsW
  have e : (fun l => decide (W.length < 2 ^ l)) = fun l => decide (k ≤ l) := by
    funext l
    rw [Bool.eq_iff_iff, decide_eq_true_eq, decide_eq_true_eq]
    constructor
    · intro hl
      refine Nat.le_of_not_lt fun hk => ?_
      have := Nat.pow_le_pow_right (n := 2) (by omega) (show l ≤ k - 1 by omega)
      omega
    · intro hl
      exact Nat.lt_of_lt_of_le h4 (Nat.pow_le_pow_right (by omega) hl)
  rw [e]
  have : ∀ k : Nat, k < 9 → 1 ≤ k → (((List.range 16).map (· + 1)).filter fun l => decide (k ≤ l)) = (List.range (17 - k)).map (· + k) := by decide
  exact this k (by omega) h1
def setW (W : List (Nat × Nat)) (s v : Nat) : List (Nat × Nat) := W.map fun z => if z.1 = s then (s, v) else z
theorem set_keys (W : List (Nat × Nat)) (s v : Nat) : (setW W s v).map (·.1) = W.map (·.1) := by
  unfold setW
  rw [List.map_map]
  refine List.map_congr_left fun z _ => ?_
  simp only [Function.comp_def]
  split
  · rename_i e; exact e.symm
  · rfl
theorem put_old {W : List (Nat × Nat)} {s : Nat} (h : s ∈ W.map (·.1)) (v : Nat) : putD (wK W) (.inl (s : Int)) (nD v) = wK (setW W s v) := by
  unfold putD
  have : ((wK W).any fun kv => decide (kv.1 = .inl (s : Int))) = true := by
    obtain ⟨z, hz, rfl⟩ := List.mem_map.mp h
    rw [List.any_eq_true]
    exact ⟨_, List.mem_map.mpr ⟨z, hz, rfl⟩, by simp⟩
  rw [if_pos this]
  unfold wK setW
  rw [List.map_map, List.map_map]
  refine List.map_congr_left fun z _ => ?_
  simp only [Function.comp_def]
  by_cases e : z.1 = s
  · rw [if_pos e, if_pos (by rw [e]), e]
  · rw [if_neg e, if_neg (by intro h; injection h with h; omega)]
def lessW (W : List (Nat × Nat)) (s : Nat) : List (Nat × Nat) := W.filter fun z => decide (z.1 ≠ s)
theorem drop_less (W : List (Nat × Nat)) (s : Nat) : dropD (wK W) (.inl (s : Int)) = wK (lessW W s) := by
  unfold dropD wK lessW
  rw [List.filter_map]
  congr 1
  refine List.filter_congr fun z _ => ?_
  simp only [Function.comp_def]
  rw [Bool.eq_iff_iff, decide_eq_true_eq, decide_eq_true_eq]
  constructor
  · intro h e; exact h (by rw [e])
  · intro h e; injection e with e; exact h (by omega)
theorem less_perm {W : List (Nat × Nat)} (nd : (W.map (·.1)).Nodup) {z : Nat × Nat} (hz : z ∈ W) : W.Perm (z :: lessW W z.1) := by
  induction W with
  | nil => cases hz
  | cons y W ih =>
    rw [List.map_cons, List.nodup_cons] at nd
    unfold lessW
    rcases List.mem_cons.mp hz with rfl | hz
    · rw [List.filter_cons_of_neg (by simp)]
      have : (W.filter fun y => decide (y.1 ≠ z.1)) = W := List.filter_eq_self.mpr fun y hy => by
        simp only [decide_eq_true_eq]
        intro e
        exact nd.1 (by rw [← e]; exact List.mem_map.mpr ⟨y, hy, rfl⟩)
      rw [this]
    · have ne : y.1 ≠ z.1 := fun e => nd.1 (by rw [e]; exact List.mem_map.mpr ⟨z, hz, rfl⟩)
      rw [List.filter_cons_of_pos (by simpa using ne)]
      exact ((ih nd.2 hz).cons y).trans (List.Perm.swap _ _ _)
theorem set_perm {W : List (Nat × Nat)} (nd : (W.map (·.1)).Nodup) {z : Nat × Nat} (hz : z ∈ W) (v : Nat) : (setW W z.1 v).Perm ((z.1, v) :: lessW W z.1) := by
  have h := (less_perm nd hz).map fun y : Nat × Nat => if y.1 = z.1 then (z.1, v) else y
  rw [List.map_cons] at h
  simp only [if_true] at h
  have : (lessW W z.1).map (fun y : Nat × Nat => if y.1 = z.1 then (z.1, v) else y) = lessW W z.1 := by
    conv => rhs; rw [← List.map_id (lessW W z.1)]
    refine List.map_congr_left fun y hy => ?_
    have := (List.mem_filter.mp hy).2
    rw [decide_eq_true_eq] at this
    rw [if_neg this]; rfl
  rw [this] at h
  exact h
theorem Wt.set {W : List (Nat × Nat)} (w : Wt W) {s v : Nat} (hs : s ∈ W.map (·.1)) (hv : 1 ≤ v ∧ v ≤ 1000000000000000000) : Wt (setW W s v) where
  nd := by rw [set_keys]; exact w.nd
  sb y hy := by
    have : y.1 ∈ (setW W s v).map (·.1) := List.mem_map.mpr ⟨y, hy, rfl⟩
    rw [set_keys] at this
    obtain ⟨z, hz, e⟩ := List.mem_map.mp this
    rw [← e]; exact w.sb z hz
  wb y hy := by
    obtain ⟨z, hz, rfl⟩ := List.mem_map.mp hy
    split
    · exact hv
    · exact w.wb z hz
  len := by unfold setW; rw [List.length_map]; exact w.len
theorem Wt.less {W : List (Nat × Nat)} (w : Wt W) (s : Nat) : Wt (lessW W s) where
  nd := w.nd.sublist (List.Sublist.map _ List.filter_sublist)
  sb y hy := w.sb y (List.mem_filter.mp hy).1
  wb y hy := w.wb y (List.mem_filter.mp hy).1
  len := Nat.le_trans (List.length_filter_le _ _) w.len
theorem few_mono {W : List (Nat × Nat)} (w : Wt W) {z : Nat × Nat} (hz : z ∈ W) {v : Nat} (hv : z.2 ≤ v) : fewL (lessW W z.1) 16 ≤ fewL W 16 ∧ fewL W 16 ≤ fewL (setW W z.1 v) 16 := by
  have lm : ∀ {V : List (Nat × Nat)}, Wt V → Lim V 16 := fun {V} w => ⟨by omega, by omega, by have := w.len; omega⟩
  have p := less_perm w.nd hz
  have hs : z.1 ∈ W.map (·.1) := List.mem_map.mpr ⟨z, hz, rfl⟩
  have l2 : Lim (setW W z.1 v) 16 := ⟨by omega, by omega, by unfold setW; rw [List.length_map]; have := w.len; omega⟩
  refine ⟨few_less (lm w) (lm (Wt.less w z.1)) (x := z.2) (p.map (·.2)), ?_⟩
  exact few_more (lm w) l2 (p.map (·.2)) ((set_perm w.nd hz v).map (·.2)) hv
theorem lims_head {W : List (Nat × Nat)} {k : Nat} (e : limsW W = (List.range (17 - k)).map (· + k)) (h1 : 1 ≤ k) (h8 : k ≤ 8) : (limsW W)[0]? = some k ∧ (∀ L, Lim W L → (limsW W)[L - k]? = some L ∧ k ≤ L) ∧ (limsW W).getLast? = some 16 ∧ (limsW W).length = 17 - k := by
  have hk : 16 ∈ limsW W := by
    rw [e]
    exact List.mem_map.mpr ⟨16 - k, by simp; omega, by omega⟩
  refine ⟨?_, fun L l => ?_, ?_, by rw [e]; simp⟩
  · rw [e, List.getElem?_map, List.getElem?_range (by omega)]; simp
  · have hm := lims_mem.mpr l
    rw [e] at hm ⊢
    obtain ⟨i, hi, rfl⟩ := List.mem_map.mp hm
    have hi : i < 17 - k := by simpa using hi
    refine ⟨?_, by omega⟩
    rw [List.getElem?_map, show i + k - k = i by omega, List.getElem?_range hi]; rfl
  · rw [e, List.getLast?_eq_getElem?, List.length_map, List.length_range, List.getElem?_map, List.getElem?_range (by omega)]
    simp only [Option.map_some]
    congr 1; omega
theorem lens_ord {W : List (Nat × Nat)} (w : Wt W) {L : Nat} (l : Lim W L) {ss : List Nat} (y : Sy W ss) {C : List (Nat × List Int)} (hC : codesM (countsL (lensW W L)) ss = C) :
    ∀ a ∈ ss, ∀ b ∈ ss, wtS W b < wtS W a → (codeL C a).length ≤ (codeL C b).length := by
  have t := l.tab w y
  have hf := codes_fst t
  have cl := codes_lens t
  rw [hC] at hf cl
  have pl : C.Pairwise fun a b => a.2.length ≤ b.2.length := by
    have := exp_sorted (countsL (lensW W L)) 1
    rw [← cl, List.pairwise_map] at this
    exact this
  have nd : (C.map (·.1)).Nodup := by rw [hf]; exact t.nd
  have pl2 : ss.Pairwise fun a b => (codeL C a).length ≤ (codeL C b).length := by
    rw [← hf, List.pairwise_map]
    refine pl.imp_of_mem fun {a b} ha hb h => ?_
    have ea : codeL C a.1 = a.2 := by unfold codeL; rw [look_in nd ha]; rfl
    have eb : codeL C b.1 = b.2 := by unfold codeL; rw [look_in nd hb]; rfl
    rw [ea, eb]; exact h
  intro a ha b hb hab
  obtain ⟨i, hi, rfl⟩ := List.getElem_of_mem ha
  obtain ⟨j, hj, rfl⟩ := List.getElem_of_mem hb
  rcases Nat.lt_trichotomy i j with h | h | h
  · exact (List.pairwise_iff_getElem.mp pl2) i j hi hj h
  · subst h; exact Nat.le_refl _
  · have := (List.pairwise_iff_getElem.mp y.st) j i hj hi h
    unfold leW at this
    omega
theorem pairs_ord {W : List (Nat × Nat)} (w : Wt W) {L : Nat} (l : Lim W L) {ss : List Nat} (y : Sy W ss) {C : List (Nat × List Int)} (hC : codesM (countsL (lensW W L)) ss = C) :
    ((srtW (W.map fun z => (0 - (z.2 : Int), (codeL C z.1).length))).map (·.2)).Pairwise (· ≤ ·) := by
  rw [List.pairwise_map]
  refine (srtW_lex _).imp_of_mem fun {a b} ha hb h => ?_
  obtain ⟨x, hx, rfl⟩ := List.mem_map.mp ((srtW_perm _).mem_iff.mp ha)
  obtain ⟨z, hz, rfl⟩ := List.mem_map.mp ((srtW_perm _).mem_iff.mp hb)
  by_cases e : x.2 = z.2
  · exact h.2 (by simp only; omega)
  · have h1 := h.1
    simp only at h1
    refine lens_ord w l y hC x.1 (y.pm.mem_iff.mpr (List.mem_map.mpr ⟨x, hx, rfl⟩)) z.1 (y.pm.mem_iff.mpr (List.mem_map.mpr ⟨z, hz, rfl⟩)) ?_
    rw [(w.at hx).1, (w.at hz).1]
    omega
def dueD (W : List (Nat × Nat)) : D := .lst ((limsW W).map (limD W))
theorem lim_fit (W : List (Nat × Nat)) : fit 64 (dueD W) = true := by
  simp [dueD, fit, limD, nD]
theorem ne_cell {h : MH} {p : Addr} {xs : List D} {Q : MQ} (e : h p = some (.lst xs)) (hf : fit 64 (.lst xs) = true) (q : Q (.bl false) h) : opEq true (.ref p) (.lst xs) h Q := by
  have := ne_self (x := .lst xs) (h := h) (Q := Q) hf q
  unfold opEq at this ⊢
  simp only [ls_ref, e, ls_lst] at this ⊢
  exact this
theorem pure_law_right (A : Ad) (s : sp_law_right A ds h Q' E') : rd_law_right A (fun _ => E') { nx := fun _ h' => Q' .non h', rt := Q' } (mstart N_law_right ds) h := by
  obtain ⟨s, rfl, hs, hP, hP2, q⟩ := s
  have szl := szL
  unfold tab1 at hP
  unfold tab2 at hP2
  have ns : A.p_check_weights ≠ s := fun e => by obtain ⟨x, y, z, hz⟩ := hs; rw [e, hz] at hP; cases hP
  have ns2 : A.p_least_table ≠ s := fun e => by obtain ⟨x, y, z, hz⟩ := hs; rw [e, hz] at hP2; cases hP2
  rw [show mstart N_law_right [.ref s] = [some (.ref s), none, none, none, none, none, none, none, none, none, none, none, none, none, none, none, none] from rfl]
  unfold rd_law_right
  simp
  refine ⟨s, rfl, hs, fun W h1 w6 w255 w k1 => ?_⟩
  unfold tl_law_right_1
  simp
  refine ⟨W, rfl, w, w255, fun f H hfH => ?_⟩
  simp
  unfold tl_law_right_2
  simp [wD, nD]
  refine lims_lc (fun d => rfl) (fun d => rfl) (show 13 < 17 by decide) ?_
  obtain ⟨k, k_1, k_8, kl⟩ := lims_ex w6 w255
  obtain ⟨lh, lat, llast, llen⟩ := lims_head kl k_1 k_8
  unfold tl_law_right_3
  simp
  refine lc_over nD (limD W) (limsW W) (by omega) (fun L hL K kk => ⟨_, rfl, ?_⟩) ?_
  · have l := lims_mem.mp hL
    simp [mwipe, List.set, nD]
    by_cases hH : H ≤ L
    · rw [if_pos hH, hfH L l hH]; exact kk
    · rw [if_neg hH]; exact ⟨W, L, rfl, w, l, kk⟩
  unfold tl_law_right_4
  simp
  refine ⟨W, rfl, w, k1.oth _ _ ns hP, fun h2 p x2 hp => ?_⟩
  have k2 : Kept h (mupd h2 p (.lst ((limsW W).map (limD W)))) s := (k1.ext x2).ext (Ext.new hp)
  unfold tl_law_right_5
  simp
  refine ne_cell mupd_same (lim_fit W) ?_
  simp
  unfold tl_law_right_6
  simp
  refine ⟨by omega, ?_⟩
  obtain ⟨h3, eh3⟩ : ∃ h3, mupd h2 p (.lst ((limsW W).map (limD W) ++ [D.non])) = h3 := ⟨_, rfl⟩
  have x3 : Ext h2 h3 := by rw [← eh3]; exact Ext.new hp
  have k3 : Kept h h3 s := (k1.ext x2).ext x3
  rw [eh3]
  unfold tl_law_right_7
  simp [g_kw_by_limits_weights]
  refine ⟨W, rfl, w, k3.oth _ _ ns hP, fun h4 p2 x4 hp4 => ?_⟩
  simp [fzW, mupd_same, mdel_mupd hp4]
  refine ne_self (lim_fit W) ?_
  simp
  have k4 : Kept h h4 s := k3.ext x4
  unfold tl_law_right_8
  simp
  have at0 : atI ((limsW W).map nD) 0 = some (nD k) := by
    have h0 : (0 : Nat) < (limsW W).length := by omega
    have := (List.getElem?_eq_some_iff.mp lh).2
    have a := atI_of (xs := (limsW W).map nD) (i := 0) (by simpa using h0)
    rw [List.getElem_map, this] at a
    exact a
  have dueat : ∀ L, Lim W L → atI ((limsW W).map (limD W)) ((L : Int) - (k : Int)) = some (limD W L) := fun L l => by
    obtain ⟨e1, e2⟩ := lat L l
    obtain ⟨hi, e3⟩ := List.getElem?_eq_some_iff.mp e1
    have a := atI_of (xs := (limsW W).map (limD W)) (i := L - k) (by simpa using hi)
    rw [List.getElem_map, e3, show ((L - k : Nat) : Int) = (L : Int) - (k : Int) by omega] at a
    exact a
  have l16 : Lim W 16 := ⟨by omega, by omega, by omega⟩
  have lk : Lim W k := lims_mem.mp (List.mem_of_getElem? lh)
  simp only [at0]
  refine one_ok k4.src (by rw [List.length_map]; omega) (by rw [List.length_map]; omega) fun x h5 hx f5 => ?_
  have k5 := k4.fro f5
  obtain ⟨Lx, lx, rfl⟩ : ∃ L, Lim W L ∧ x = nD L := by
    obtain ⟨L, hL, rfl⟩ := List.mem_map.mp hx
    exact ⟨L, lims_mem.mp hL, rfl⟩
  have three : ∀ (i : Nat) (d : D), [nD k, nD Lx, D.int 16][i]? = some d → ∃ L, Lim W L ∧ d = nD L := fun i d e => by
    have := List.mem_of_getElem? e
    simp only [List.mem_cons, List.not_mem_nil, or_false] at this
    rcases this with rfl | rfl | rfl
    · exact ⟨k, lk, rfl⟩
    · exact ⟨Lx, lx, rfl⟩
    · exact ⟨16, l16, rfl⟩
  refine wLoop_inv (fun i σ h' => Kept h h' s ∧ ∃ v4 v5 v9 v10 v11 v14 v15 v16, σ = [some (.ref s), some (.dcl (wK W)), some (.lst ((limsW W).map nD)), some (.lst ((limsW W).map (limD W))), v4, v5, none, some (.int f), some (.int H), v9, v10, v11, none, none, v14, v15, v16]) ⟨k5, _, _, _, _, _, _, _, _, rfl⟩ ?_ ?_
  · rintro i d σ h6 K e ⟨k6, v4, v5, v9, v10, v11, v14, v15, v16, rfl⟩ hK
    obtain ⟨L, l, rfl⟩ := three i d e
    unfold lb_law_right_0
    simp [at0, nD, dueat L l, limD]
    refine ⟨W, L, rfl, w, l, k6.oth _ _ ns hP, k6.oth _ _ ns2 hP2, fun ss h7 y x7 => ?_⟩
    have k7 := k6.ext x7
    have t := l.tab w y
    have hf := codes_fst t
    have le := l.codes_le w y
    have d1 : atI [D.int (L : Int), D.int (fewL W L)] 1 = some (.int (fewL W L)) := rfl
    simp only [d1]
    refine ⟨_, _, _, rfl, t, ?_⟩
    refine ⟨isTab_ok t, ?_⟩
    rw [if_pos (isTab_fault t)]
    have tv : ∀ h, sqOf h (tabL W L ss) = some [D.tup ((countsL (lensW W L)).map nD), D.tup (ss.map nD)] := fun h => rfl
    have t1 : atI [D.tup ((countsL (lensW W L)).map nD), D.tup (ss.map nD)] 1 = some (.tup (ss.map nD)) := rfl
    have ei : intsOf (ss.map nD) = some (ss.map fun n : Nat => (n : Int)) := ints_map (fun n : Nat => (n : Int)) ss
    have es : sortI (ss.map fun n : Nat => (n : Int)) = sortI (W.map fun z => (z.1 : Int)) := by
      refine srt_congr ((y.pm.map fun n : Nat => (n : Int)).trans (List.Perm.of_eq ?_))
      rw [List.map_map]; rfl
    simp only [tv, t1, o_sortTu, ei, keys_ints, es, sym_sort, wK_len]
    refine ⟨by omega, ?_⟩
    refine ne_self (by simp [fit, nD]) ?_
    obtain ⟨C, hC⟩ : ∃ C, codesM (countsL (lensW W L)) ss = C := ⟨_, rfl⟩
    have look : ∀ sm ∈ ss, atD (wK (lenP (countsL (lensW W L)) ss)) (.inl (sm : Int)) = some (nD (codeL C sm).length) ∧ (sm, codeL C sm) ∈ C := fun sm hs => by
      have := lenP_look t hs
      rw [hC] at this; exact this
    have bw := least_bitsW w l y
    have lpe := lenP_eq t
    have po := pairs_ord w l y hC
    rw [hC] at le bw hf lpe
    obtain ⟨P, hPd⟩ : ∃ P, lenP (countsL (lensW W L)) ss = P := ⟨_, rfl⟩
    rw [hPd] at look lpe ⊢
    have inS : ∀ z ∈ W, z.1 ∈ ss := fun z hz => y.pm.mem_iff.mpr (List.mem_map.mpr ⟨z, hz, rfl⟩)
    simp
    refine ⟨P.map fun z => (z.2 : Int), ?_, ?_, fun m hm _ => ?_⟩
    · unfold wK; rw [List.map_map, List.map_map]; rfl
    · rw [lpe]
      have yl := y.len
      intro e
      have := congrArg List.length e
      rw [List.length_map, List.length_map, List.length_nil] at this
      have h2 := congrArg List.length hf
      rw [List.length_map] at h2
      omega
    have hmL : ¬ ((L : Int) < m) := by
      rw [lpe, List.map_map] at hm
      obtain ⟨z, hz, rfl⟩ := List.mem_map.mp hm
      have := (le z hz).2
      simp only [Function.comp_def]
      omega
    rw [if_neg hmL]
    refine ⟨W, L, rfl, w, l, k7.oth _ _ ns hP, fun h8 x8 => ?_⟩
    have k8 := k7.ext x8
    simp
    refine ⟨W, _, _, _, rfl, w, t, inS, k8.oth _ _ ns hP, ?_⟩
    rw [hC, bw]
    simp
    refine ⟨W, L, _, _, _, rfl, w, l, t, k8.oth _ _ ns hP, fun h9 x9 => ?_⟩
    have k9 := k8.ext x9
    have it : LK.isL W (codesM (countsL (lensW W L)) ss) L = true := by
      rw [hC, isL_of fun z hz => ?_, bw]
      · simp
      · have := look z.1 (inS z hz)
        exact ⟨List.mem_map.mpr ⟨_, this.2, rfl⟩, (le _ this.2).2⟩
    rw [it]
    simp
    rw [wK_keys, List.map_map]
    refine lc_over (fun z : Nat × Nat => nD z.1) (fun z : Nat × Nat => whD (0 - (z.2 : Int), (codeL C z.1).length)) W (by omega) (fun z hz K kk => ⟨_, rfl, ?_⟩) ?_
    · have wa := (w.at hz).2
      have lk := (look z.1 (inS z hz)).1
      simp [mwipe, List.set, nD]
      rw [wa, lk]
      simp [nD]
      simpa [whD, whL, dTup] using kk
    rw [show (W.map fun z : Nat × Nat => whD (0 - (z.2 : Int), (codeL C z.1).length)) = (W.map fun z : Nat × Nat => (0 - (z.2 : Int), (codeL C z.1).length)).map whD by rw [List.map_map]; rfl]
    refine sort_whs ?_
    have pl : (srtW (W.map fun z : Nat × Nat => (0 - (z.2 : Int), (codeL C z.1).length))).length ≤ 255 := by rw [(srtW_perm _).length_eq, List.length_map]; exact w255
    obtain ⟨S, hS⟩ : ∃ S, srtW (W.map fun z : Nat × Nat => (0 - (z.2 : Int), (codeL C z.1).length)) = S := ⟨_, rfl⟩
    rw [hS] at po pl ⊢
    simp
    have el : (S.map fun z : WH => D.int (z.2 : Int)) = (S.map fun z : WH => (z.2 : Int)).map D.int := by rw [List.map_map]; rfl
    have es2 : sortI (S.map fun z : WH => (z.2 : Int)) = S.map fun z : WH => (z.2 : Int) := by
      refine srt_self ?_
      rw [List.pairwise_map] at po ⊢
      exact po.imp fun h => by omega
    refine lc_over whD (fun z : WH => D.int (z.2 : Int)) S (by omega) (fun z hz K kk => ⟨_, rfl, ?_⟩) ?_
    · simp [mwipe]
      exact kk
    rw [el]
    simp only [o_sortedI]
    rw [es2]
    refine lc_over whD (fun z : WH => D.int (z.2 : Int)) S (by omega) (fun z hz K kk => ⟨_, rfl, ?_⟩) ?_
    · simp [mwipe]
      exact kk
    rw [el]
    refine ne_self (by simp [fit]) ?_
    simp
    exact hK _ _ ⟨k9, _, _, _, _, _, _, _, _, rfl⟩
  · rintro σ h6 ⟨k6, v4, v5, v9, v10, v11, v14, v15, v16, rfl⟩
    unfold tl_law_right_9
    simp
    rw [keys_ints]
    simp only [sym_sort, wK_len]
    refine ⟨by omega, ?_⟩
    have sl := sym_len W
    refine one_ok k6.src (by rw [List.length_map]; omega) (by rw [List.length_map]; omega) fun x h7 hx f7 => ?_
    obtain ⟨z, hz, rfl⟩ : ∃ z ∈ W, x = nD z.1 := by
      obtain ⟨sm, hs, rfl⟩ := List.mem_map.mp hx
      obtain ⟨z, hz, rfl⟩ := List.mem_map.mp ((sym_perm W).mem_iff.mp hs)
      exact ⟨z, hz, rfl⟩
    have k7 := k6.fro f7
    intro p3 hp3
    have kz : keyD (nD z.1) = some (.inl (z.1 : Int)) := rfl
    have wa := (w.at hz).2
    have wb := w.wb z hz
    have zin : z.1 ∈ W.map (·.1) := List.mem_map.mpr ⟨z, hz, rfl⟩
    have p3s : p3 ≠ s := by rintro rfl; exact k7.src.some hp3
    unfold tl_law_right_10
    simp [mupd_same, kz, wa]
    rw [show nD z.2 = D.int (z.2 : Int) from rfl]
    simp only [o_add]
    refine next_ok (src_upd k7.src p3s) (by omega) (by omega) fun r h8 r0 r1 f8 => ?_
    have e8 : h8 p3 = some (.dct (wK W)) := by rw [f8.oth _ p3s, mupd_same]
    obtain ⟨v, ev, hv1, hv2⟩ : ∃ v : Nat, (if (1000000000000000000 : Int) < (z.2 : Int) + 1 + r then (1000000000000000000 : Int) else (z.2 : Int) + 1 + r) = (v : Int) ∧ z.2 ≤ v ∧ v ≤ 1000000000000000000 := by
      by_cases h : (1000000000000000000 : Int) < (z.2 : Int) + 1 + r
      · rw [if_pos h]; exact ⟨1000000000000000000, rfl, by omega, by omega⟩
      · rw [if_neg h]; exact ⟨((z.2 : Int) + 1 + r).toNat, by omega, by omega, by omega⟩
    simp [ev, e8]
    refine ⟨by rw [wK_len]; omega, ?_⟩
    rw [show D.int (v : Int) = nD v from rfl, put_old zin]
    have k8 : ∀ c, Kept h (mdel (mupd h8 p3 c) p3) s := fun c => ⟨src_del (src_upd f8.src p3s) p3s, fun a c2 n e => by
      have e1 := k7.oth _ _ n e
      have n3 : a ≠ p3 := by rintro rfl; rw [hp3] at e1; cases e1
      have e2 : h8 a = some c2 := by rw [f8.oth _ n, mupd_ne n3]; exact e1
      unfold mdel
      rw [if_neg n3, mupd_ne n3]; exact e2⟩
    unfold tl_law_right_11
    simp [mupd_same]
    have k9 := k8 (.dct (wK (setW W z.1 v)))
    obtain ⟨h9, eh9⟩ : ∃ h9, mdel (mupd h8 p3 (.dct (wK (setW W z.1 v)))) p3 = h9 := ⟨_, rfl⟩
    rw [eh9] at k9 ⊢
    intro p4 hp4
    have p4s : p4 ≠ s := by rintro rfl; exact k9.src.some hp4
    unfold tl_law_right_12
    simp [mupd_same, kz, wa]
    rw [drop_less]
    unfold tl_law_right_13
    simp [mupd_same, mdel_mupd hp4]
    have lm : ∀ {V : List (Nat × Nat)}, Wt V → Lim V 16 := fun {V} w => ⟨by omega, by omega, by have := w.len; omega⟩
    have fm := few_mono w hz (v := v) hv1
    have w1 := Wt.set w zin (v := v) ⟨by omega, hv2⟩
    have w2 := Wt.less w z.1
    have am : atI ((limsW W).map (limD W)) (-1) = some (limD W 16) := by
      obtain ⟨xs, e⟩ := List.getLast?_eq_some_iff.mp llast
      rw [e, List.map_append]
      exact LM.atI_last
    have d1 : atI [nD 16, D.int (fewL W 16)] 1 = some (.int (fewL W 16)) := rfl
    simp only [am]
    refine ⟨lessW W z.1, 16, rfl, w2, lm w2, k9.oth _ _ ns hP, fun h10 x10 => ?_⟩
    have k10 := k9.ext x10
    have c1 : decide (fewL (lessW W z.1) 16 ≤ fewL W 16) = true := decide_eq_true fm.1
    have c2 : decide (fewL W 16 ≤ fewL (setW W z.1 v) 16) = true := decide_eq_true fm.2
    simp only [limD, sq_tup, d1, o_cmp, c1]
    refine ⟨setW W z.1 v, 16, rfl, w1, lm w1, k10.oth _ _ ns hP, fun h11 x11 => ?_⟩
    simp only [o_cmp, c2]
    exact q _ (k10.ext x11)
theorem pure_law (A : Ad) (s : sp_law A ds h Q' E') : rd_law A (fun _ => E') { nx := fun _ h' => Q' .non h', rt := Q' } (mstart N_law ds) h := by
  obtain ⟨ns, rfl, hl, hP, hP2, q⟩ := s
  rw [show mstart N_law [D.scr ns] = [some (.scr ns), none, none] from rfl]
  unfold rd_law
  simp
  intro p0 hp0
  simp [mupd_same, mdel_mupd hp0]
  have w0 : Wt [] := ⟨by simp, by simp, by simp, by simp⟩
  have f0 : ∀ L, fewL [] L = 0 := fun L => by simp [fewL]
  have l0 : limsW [] = (List.range 16).map (· + 1) := by
    unfold limsW
    refine List.filter_eq_self.mpr fun x _ => ?_
    rw [decide_eq_true_eq]
    exact Nat.pow_pos (by decide)
  refine ⟨[], rfl, w0, hP, fun h1 p x1 hp => ?_⟩
  simp [fzW, mupd_same, mdel_mupd hp]
  have rg : rangeD 1 16 = ((List.range 16).map (· + 1)).map nD := by
    unfold rangeD
    rw [List.map_map]
    refine List.map_congr_left fun i _ => ?_
    simp only [Function.comp_def, nD, Int.natCast_add]
    rw [Int.add_comm]; rfl
  rw [rg]
  refine lc_over nD (limD []) ((List.range 16).map (· + 1)) (by simp) (fun L _ K kk => ⟨_, rfl, ?_⟩) ?_
  · simp [mwipe, List.set]
    simpa [limD, f0] using kk
  rw [← l0]
  refine ne_self (lim_fit []) ?_
  simp only [Bool.false_eq_true, if_false]
  intro p2 hp2
  rw [mdel_mupd hp2]
  refine ⟨[], 16, rfl, w0, ⟨by omega, by omega, by simp⟩, x1 _ _ hP, x1 _ _ hP2, fun ss h3 y x3 => ?_⟩
  have x13 := x1.trans x3
  obtain rfl : ss = [] := List.length_eq_zero_iff.mp y.len
  have et : tabL [] 16 [] = D.tup [D.tup [D.int 0, D.int 0, D.int 0, D.int 0, D.int 0, D.int 0, D.int 0, D.int 0, D.int 0, D.int 0, D.int 0, D.int 0, D.int 0, D.int 0, D.int 0, D.int 0], D.tup []] := rfl
  rw [et]
  refine ne_self (by decide) ?_
  simp only [Bool.false_eq_true, if_false]
  refine ⟨⟨by split <;> (try split) <;> omega, by split <;> (try split) <;> omega⟩, ?_⟩
  refine wLoop_inv (fun i σ h' => h' A.p_check_weights = some (.tbl q_check_weights) ∧ h' A.p_least_table = some (.tbl q_least_table) ∧ ∃ v1, σ = [some (.scr ns), v1, none]) ⟨x13 _ _ hP, x13 _ _ hP2, _, rfl⟩ ?_ ?_
  · rintro i d σ h' K e ⟨hP, hP2, v1, rfl⟩ hK
    obtain ⟨hi, rfl⟩ := range_get e
    unfold lb_law_0
    simp
    refine ⟨ns, _, rfl, by omega, fun z => ⟨z, rfl, fun p a b c hp => ?_⟩⟩
    have n1 : A.p_check_weights ≠ p := fun e => by rw [e, hp] at hP; cases hP
    have n2 : A.p_least_table ≠ p := fun e => by rw [e, hp] at hP2; cases hP2
    refine ⟨p, rfl, ⟨a, b, c, mupd_same⟩, by unfold tab1; rw [mupd_ne n1]; exact hP, by unfold tab2; rw [mupd_ne n2]; exact hP2, fun h3 k3 => ?_⟩
    simp
    exact hK _ _ ⟨k3.oth _ _ n1 (by rw [mupd_ne n1]; exact hP), k3.oth _ _ n2 (by rw [mupd_ne n2]; exact hP2), _, rfl⟩
  · rintro σ h' ⟨hP, hP2, v1, rfl⟩
    simp
    exact q _
theorem law_true (A : Ad) : LawOkT 63 [⟨"check_weights", A.c_check_weights, A.p_check_weights, q_check_weights⟩, ⟨"least_table", A.c_least_table, A.p_least_table, q_least_table⟩] (sp_law A) := fun ns h hl hb ht => ⟨ns, rfl, hl, ht _ List.mem_cons_self, ht _ (List.mem_cons_of_mem _ List.mem_cons_self), fun _ => rfl⟩
end

structure Txt (P : Program) (w : World) (K : PySem.W.Frag) (mg : Str → Option Value) (A : Ad) : Prop where
  g_is_integer : mg "is_integer" = some (.ref A.f_is_integer)
  F_is_integer : Fun K "is_integer" "is_integer" s_is_integer A.f_is_integer A.e_is_integer
  g_are_counts : mg "are_counts" = some (.ref A.f_are_counts)
  F_are_counts : Fun K "are_counts" "are_counts" s_are_counts A.f_are_counts A.e_are_counts
  g_room_taken : mg "room_taken" = some (.ref A.f_room_taken)
  F_room_taken : Fun K "room_taken" "room_taken" s_room_taken A.f_room_taken A.e_room_taken
  g_are_symbols : mg "are_symbols" = some (.ref A.f_are_symbols)
  F_are_symbols : Fun K "are_symbols" "are_symbols" s_are_symbols A.f_are_symbols A.e_are_symbols
  g_table_fault : mg "table_fault" = some (.ref A.f_table_fault)
  F_table_fault : Fun K "table_fault" "table_fault" s_table_fault A.f_table_fault A.e_table_fault
  g_is_table : mg "is_table" = some (.ref A.f_is_table)
  F_is_table : Fun K "is_table" "is_table" s_is_table A.f_is_table A.e_is_table
  g_check_table : mg "check_table" = some (.ref A.f_check_table)
  F_check_table : Fun K "check_table" "check_table" s_check_table A.f_check_table A.e_check_table
  g_bits_as : mg "bits_as" = some (.ref A.f_bits_as)
  F_bits_as : Fun K "bits_as" "bits_as" s_bits_as A.f_bits_as A.e_bits_as
  g_codes : mg "codes" = some (.ref A.f_codes)
  F_codes : Fun K "codes" "codes" s_codes A.f_codes A.e_codes
  g_is_weight : mg "is_weight" = some (.ref A.f_is_weight)
  F_is_weight : Fun K "is_weight" "is_weight" s_is_weight A.f_is_weight A.e_is_weight
  g_check_weights : mg "check_weights" = some (.ref A.f_check_weights)
  F_check_weights : Fun K "check_weights" "check_weights" s_check_weights A.f_check_weights A.e_check_weights
  g_check_limit : mg "check_limit" = some (.ref A.f_check_limit)
  F_check_limit : Fun K "check_limit" "check_limit" s_check_limit A.f_check_limit A.e_check_limit
  g_check_room : mg "check_room" = some (.ref A.f_check_room)
  F_check_room : Fun K "check_room" "check_room" s_check_room A.f_check_room A.e_check_room
  g_check_all : mg "check_all" = some (.ref A.f_check_all)
  F_check_all : Fun K "check_all" "check_all" s_check_all A.f_check_all A.e_check_all
  g_coins_of : mg "coins_of" = some (.ref A.f_coins_of)
  F_coins_of : Fun K "coins_of" "coins_of" s_coins_of A.f_coins_of A.e_coins_of
  g_pairs_of : mg "pairs_of" = some (.ref A.f_pairs_of)
  F_pairs_of : Fun K "pairs_of" "pairs_of" s_pairs_of A.f_pairs_of A.e_pairs_of
  g_rows_of : mg "rows_of" = some (.ref A.f_rows_of)
  F_rows_of : Fun K "rows_of" "rows_of" s_rows_of A.f_rows_of A.e_rows_of
  g_fewest_bits : mg "fewest_bits" = some (.ref A.f_fewest_bits)
  F_fewest_bits : Fun K "fewest_bits" "fewest_bits" s_fewest_bits A.f_fewest_bits A.e_fewest_bits
  g_least_bits : mg "least_bits" = some (.ref A.f_least_bits)
  F_least_bits : FunD K "least_bits" "least_bits" (defArgs s_least_bits) (defBody s_least_bits) (defScope s_least_bits) [.int 16] [] A.f_least_bits A.e_least_bits
  g_coins_among : mg "coins_among" = some (.ref A.f_coins_among)
  F_coins_among : Fun K "coins_among" "coins_among" s_coins_among A.f_coins_among A.e_coins_among
  g_coins_taken : mg "coins_taken" = some (.ref A.f_coins_taken)
  F_coins_taken : Fun K "coins_taken" "coins_taken" s_coins_taken A.f_coins_taken A.e_coins_taken
  g_least_table : mg "least_table" = some (.ref A.f_least_table)
  F_least_table : FunD K "least_table" "least_table" (defArgs s_least_table) (defBody s_least_table) (defScope s_least_table) [.int 16] [] A.f_least_table A.e_least_table
  g_bits_by : mg "bits_by" = some (.ref A.f_bits_by)
  F_bits_by : Fun K "bits_by" "bits_by" s_bits_by A.f_bits_by A.e_bits_by
  g_table_bits : mg "table_bits" = some (.ref A.f_table_bits)
  F_table_bits : Fun K "table_bits" "table_bits" s_table_bits A.f_table_bits A.e_table_bits
  g_is_least : mg "is_least" = some (.ref A.f_is_least)
  F_is_least : FunD K "is_least" "is_least" (defArgs s_is_least) (defBody s_is_least) (defScope s_is_least) [.int 16] [] A.f_is_least A.e_is_least
  g_by_limits : mg "by_limits" = some (.ref A.f_by_limits)
  F_by_limits : Fun K "by_limits" "by_limits" s_by_limits A.f_by_limits A.e_by_limits
  g_law_cell_at : mg "_law_cell_at" = some (.ref A.f_law_cell_at)
  F_law_cell_at : Fun K "_law_cell_at" "_law_cell_at" s_law_cell_at A.f_law_cell_at A.e_law_cell_at
  g_law_source_of : mg "_law_source_of" = some (.ref A.f_law_source_of)
  F_law_source_of : Fun K "_law_source_of" "_law_source_of" s_law_source_of A.f_law_source_of A.e_law_source_of
  g_law_next : mg "_law_next" = some (.ref A.f_law_next)
  F_law_next : Fun K "_law_next" "_law_next" s_law_next A.f_law_next A.e_law_next
  g_law_one : mg "_law_one" = some (.ref A.f_law_one)
  F_law_one : Fun K "_law_one" "_law_one" s_law_one A.f_law_one A.e_law_one
  g_law_lengths : mg "_law_lengths" = some (.ref A.f_law_lengths)
  F_law_lengths : Fun K "_law_lengths" "_law_lengths" s_law_lengths A.f_law_lengths A.e_law_lengths
  g_law_weights : mg "_law_weights" = some (.ref A.f_law_weights)
  F_law_weights : Fun K "_law_weights" "_law_weights" s_law_weights A.f_law_weights A.e_law_weights
  g_law_free_bits : mg "_law_free_bits" = some (.ref A.f_law_free_bits)
  F_law_free_bits : Fun K "_law_free_bits" "_law_free_bits" s_law_free_bits A.f_law_free_bits A.e_law_free_bits
  g_law_bits_by : mg "_law_bits_by" = some (.ref A.f_law_bits_by)
  F_law_bits_by : Fun K "_law_bits_by" "_law_bits_by" s_law_bits_by A.f_law_bits_by A.e_law_bits_by
  g_law_right : mg "_law_right" = some (.ref A.f_law_right)
  F_law_right : Fun K "_law_right" "_law_right" s_law_right A.f_law_right A.e_law_right
  g_law : mg "law" = some (.ref A.f_law)
  F_law : Fun K "law" "law" s_law A.f_law A.e_law
  n_all : mg "all" = none
  n_bool : mg "bool" = none
  n_dict : mg "dict" = none
  n_enumerate : mg "enumerate" = none
  n_int : mg "int" = none
  n_isinstance : mg "isinstance" = none
  n_len : mg "len" = none
  n_list : mg "list" = none
  n_max : mg "max" = none
  n_min : mg "min" = none
  n_range : mg "range" = none
  n_repr : mg "repr" = none
  n_set : mg "set" = none
  n_sorted : mg "sorted" = none
  n_sum : mg "sum" = none
  n_tuple : mg "tuple" = none
  c_LONGEST : mg "LONGEST" = some (.int 16 A.t_LONGEST)
  c_MOST_WEIGHT : mg "MOST_WEIGHT" = some (.int 1000000000000000000 A.t_MOST_WEIGHT)
  c_WHOLE : mg "WHOLE" = some (.int 65536 A.t_WHOLE)
  gx_PicError : mg "PicError" = some (.ref A.x_PicError)
  ex_PicError : ∀ c ∈ [("NoTable", A.x_NoTable), ("NoSymbol", A.x_NoSymbol), ("NoWeights", A.x_NoWeights), ("NoLimit", A.x_NoLimit), ("NoRoom", A.x_NoRoom)], PySem.W.exmOne K (.ref c.2) (.ref A.x_PicError) = some (is_PicError c.1)
  gx_NoTable : mg "NoTable" = some (.ref A.x_NoTable)
  x_NoTable : XCls P K mg "NoTable" A.x_NoTable A.i_NoTable ["part"]
  y_NoTable : XGet K A.x_NoTable
  ex_NoTable : ∀ c ∈ [("NoTable", A.x_NoTable), ("NoSymbol", A.x_NoSymbol), ("NoWeights", A.x_NoWeights), ("NoLimit", A.x_NoLimit), ("NoRoom", A.x_NoRoom)], PySem.W.exmOne K (.ref c.2) (.ref A.x_NoTable) = some (is_NoTable c.1)
  gx_NoSymbol : mg "NoSymbol" = some (.ref A.x_NoSymbol)
  x_NoSymbol : XCls P K mg "NoSymbol" A.x_NoSymbol A.i_NoSymbol ["symbol"]
  y_NoSymbol : XGet K A.x_NoSymbol
  ex_NoSymbol : ∀ c ∈ [("NoTable", A.x_NoTable), ("NoSymbol", A.x_NoSymbol), ("NoWeights", A.x_NoWeights), ("NoLimit", A.x_NoLimit), ("NoRoom", A.x_NoRoom)], PySem.W.exmOne K (.ref c.2) (.ref A.x_NoSymbol) = some (is_NoSymbol c.1)
  gx_NoWeights : mg "NoWeights" = some (.ref A.x_NoWeights)
  x_NoWeights : XCls P K mg "NoWeights" A.x_NoWeights A.i_NoWeights ["symbol"]
  y_NoWeights : XGet K A.x_NoWeights
  ex_NoWeights : ∀ c ∈ [("NoTable", A.x_NoTable), ("NoSymbol", A.x_NoSymbol), ("NoWeights", A.x_NoWeights), ("NoLimit", A.x_NoLimit), ("NoRoom", A.x_NoRoom)], PySem.W.exmOne K (.ref c.2) (.ref A.x_NoWeights) = some (is_NoWeights c.1)
  gx_NoLimit : mg "NoLimit" = some (.ref A.x_NoLimit)
  x_NoLimit : XCls P K mg "NoLimit" A.x_NoLimit A.i_NoLimit ["limit"]
  y_NoLimit : XGet K A.x_NoLimit
  ex_NoLimit : ∀ c ∈ [("NoTable", A.x_NoTable), ("NoSymbol", A.x_NoSymbol), ("NoWeights", A.x_NoWeights), ("NoLimit", A.x_NoLimit), ("NoRoom", A.x_NoRoom)], PySem.W.exmOne K (.ref c.2) (.ref A.x_NoLimit) = some (is_NoLimit c.1)
  gx_NoRoom : mg "NoRoom" = some (.ref A.x_NoRoom)
  x_NoRoom : XCls P K mg "NoRoom" A.x_NoRoom A.i_NoRoom ["limit"]
  y_NoRoom : XGet K A.x_NoRoom
  ex_NoRoom : ∀ c ∈ [("NoTable", A.x_NoTable), ("NoSymbol", A.x_NoSymbol), ("NoWeights", A.x_NoWeights), ("NoLimit", A.x_NoLimit), ("NoRoom", A.x_NoRoom)], PySem.W.exmOne K (.ref c.2) (.ref A.x_NoRoom) = some (is_NoRoom c.1)
  cd_check_weights : A.e_check_weights.code = .ref A.c_check_weights
  cd_least_table : A.e_least_table.code = .ref A.c_least_table
structure Tbt (base : Heap) (mg : Str → Option Value) (A : Ad) : Prop where
  t_check_weights : LamX.TabB base mg A.c_check_weights A.p_check_weights
  t_least_table : LamX.TabB base mg A.c_least_table A.p_least_table
section
variable {P : Program} {w : World} {K : PySem.W.Frag} {mg : Str → Option Value} {base : Heap} {A : Ad}
theorem ex_PicError (T : Txt P w K mg A) (n : String) (C : Addr) (hm : mg (Str.ofString n) = some (.ref C)) (hk : known n = true) : PySem.W.exmOne K (.ref C) (.ref A.x_PicError) = some (is_PicError n) := by
  simp only [known, Bool.or_eq_true, beq_iff_eq, or_assoc] at hk
  rcases hk with rfl | rfl | rfl | rfl | rfl
  · rw [T.gx_NoTable] at hm
    cases hm
    exact T.ex_PicError ("NoTable", A.x_NoTable) (by simp)
  · rw [T.gx_NoSymbol] at hm
    cases hm
    exact T.ex_PicError ("NoSymbol", A.x_NoSymbol) (by simp)
  · rw [T.gx_NoWeights] at hm
    cases hm
    exact T.ex_PicError ("NoWeights", A.x_NoWeights) (by simp)
  · rw [T.gx_NoLimit] at hm
    cases hm
    exact T.ex_PicError ("NoLimit", A.x_NoLimit) (by simp)
  · rw [T.gx_NoRoom] at hm
    cases hm
    exact T.ex_PicError ("NoRoom", A.x_NoRoom) (by simp)
theorem ex_NoTable (T : Txt P w K mg A) (n : String) (C : Addr) (hm : mg (Str.ofString n) = some (.ref C)) (hk : known n = true) : PySem.W.exmOne K (.ref C) (.ref A.x_NoTable) = some (is_NoTable n) := by
  simp only [known, Bool.or_eq_true, beq_iff_eq, or_assoc] at hk
  rcases hk with rfl | rfl | rfl | rfl | rfl
  · rw [T.gx_NoTable] at hm
    cases hm
    exact T.ex_NoTable ("NoTable", A.x_NoTable) (by simp)
  · rw [T.gx_NoSymbol] at hm
    cases hm
    exact T.ex_NoTable ("NoSymbol", A.x_NoSymbol) (by simp)
  · rw [T.gx_NoWeights] at hm
    cases hm
    exact T.ex_NoTable ("NoWeights", A.x_NoWeights) (by simp)
  · rw [T.gx_NoLimit] at hm
    cases hm
    exact T.ex_NoTable ("NoLimit", A.x_NoLimit) (by simp)
  · rw [T.gx_NoRoom] at hm
    cases hm
    exact T.ex_NoTable ("NoRoom", A.x_NoRoom) (by simp)
theorem ex_NoSymbol (T : Txt P w K mg A) (n : String) (C : Addr) (hm : mg (Str.ofString n) = some (.ref C)) (hk : known n = true) : PySem.W.exmOne K (.ref C) (.ref A.x_NoSymbol) = some (is_NoSymbol n) := by
  simp only [known, Bool.or_eq_true, beq_iff_eq, or_assoc] at hk
  rcases hk with rfl | rfl | rfl | rfl | rfl
  · rw [T.gx_NoTable] at hm
    cases hm
    exact T.ex_NoSymbol ("NoTable", A.x_NoTable) (by simp)
  · rw [T.gx_NoSymbol] at hm
    cases hm
    exact T.ex_NoSymbol ("NoSymbol", A.x_NoSymbol) (by simp)
  · rw [T.gx_NoWeights] at hm
    cases hm
    exact T.ex_NoSymbol ("NoWeights", A.x_NoWeights) (by simp)
  · rw [T.gx_NoLimit] at hm
    cases hm
    exact T.ex_NoSymbol ("NoLimit", A.x_NoLimit) (by simp)
  · rw [T.gx_NoRoom] at hm
    cases hm
    exact T.ex_NoSymbol ("NoRoom", A.x_NoRoom) (by simp)
theorem ex_NoWeights (T : Txt P w K mg A) (n : String) (C : Addr) (hm : mg (Str.ofString n) = some (.ref C)) (hk : known n = true) : PySem.W.exmOne K (.ref C) (.ref A.x_NoWeights) = some (is_NoWeights n) := by
  simp only [known, Bool.or_eq_true, beq_iff_eq, or_assoc] at hk
  rcases hk with rfl | rfl | rfl | rfl | rfl
  · rw [T.gx_NoTable] at hm
    cases hm
    exact T.ex_NoWeights ("NoTable", A.x_NoTable) (by simp)
  · rw [T.gx_NoSymbol] at hm
    cases hm
    exact T.ex_NoWeights ("NoSymbol", A.x_NoSymbol) (by simp)
  · rw [T.gx_NoWeights] at hm
    cases hm
    exact T.ex_NoWeights ("NoWeights", A.x_NoWeights) (by simp)
  · rw [T.gx_NoLimit] at hm
    cases hm
    exact T.ex_NoWeights ("NoLimit", A.x_NoLimit) (by simp)
  · rw [T.gx_NoRoom] at hm
    cases hm
    exact T.ex_NoWeights ("NoRoom", A.x_NoRoom) (by simp)
theorem ex_NoLimit (T : Txt P w K mg A) (n : String) (C : Addr) (hm : mg (Str.ofString n) = some (.ref C)) (hk : known n = true) : PySem.W.exmOne K (.ref C) (.ref A.x_NoLimit) = some (is_NoLimit n) := by
  simp only [known, Bool.or_eq_true, beq_iff_eq, or_assoc] at hk
  rcases hk with rfl | rfl | rfl | rfl | rfl
  · rw [T.gx_NoTable] at hm
    cases hm
    exact T.ex_NoLimit ("NoTable", A.x_NoTable) (by simp)
  · rw [T.gx_NoSymbol] at hm
    cases hm
    exact T.ex_NoLimit ("NoSymbol", A.x_NoSymbol) (by simp)
  · rw [T.gx_NoWeights] at hm
    cases hm
    exact T.ex_NoLimit ("NoWeights", A.x_NoWeights) (by simp)
  · rw [T.gx_NoLimit] at hm
    cases hm
    exact T.ex_NoLimit ("NoLimit", A.x_NoLimit) (by simp)
  · rw [T.gx_NoRoom] at hm
    cases hm
    exact T.ex_NoLimit ("NoRoom", A.x_NoRoom) (by simp)
theorem ex_NoRoom (T : Txt P w K mg A) (n : String) (C : Addr) (hm : mg (Str.ofString n) = some (.ref C)) (hk : known n = true) : PySem.W.exmOne K (.ref C) (.ref A.x_NoRoom) = some (is_NoRoom n) := by
  simp only [known, Bool.or_eq_true, beq_iff_eq, or_assoc] at hk
  rcases hk with rfl | rfl | rfl | rfl | rfl
  · rw [T.gx_NoTable] at hm
    cases hm
    exact T.ex_NoRoom ("NoTable", A.x_NoTable) (by simp)
  · rw [T.gx_NoSymbol] at hm
    cases hm
    exact T.ex_NoRoom ("NoSymbol", A.x_NoSymbol) (by simp)
  · rw [T.gx_NoWeights] at hm
    cases hm
    exact T.ex_NoRoom ("NoWeights", A.x_NoWeights) (by simp)
  · rw [T.gx_NoLimit] at hm
    cases hm
    exact T.ex_NoRoom ("NoLimit", A.x_NoLimit) (by simp)
  · rw [T.gx_NoRoom] at hm
    cases hm
    exact T.ex_NoRoom ("NoRoom", A.x_NoRoom) (by simp)
theorem sc_is_integer : FnScope N_is_integer ["value", "low", "high"] (defScope s_is_integer) := ⟨rfl, rfl, rfl, by decide +kernel, rfl, by decide +kernel, by decide +kernel⟩
theorem len_is_integer : ∀ ds h Q E, sp_is_integer ds h Q E → ds.length = (["value", "low", "high"] : List Str).length := by
  intro ds h Q E s
  first | (obtain ⟨rfl, _⟩ := s; rfl) | (obtain ⟨_, rfl, _⟩ := s; rfl) | (obtain ⟨_, _, rfl, _⟩ := s; rfl) | (obtain ⟨_, _, _, rfl, _⟩ := s; rfl) | (obtain ⟨_, _, _, _, rfl, _⟩ := s; rfl) | (obtain ⟨_, _, _, _, _, rfl, _⟩ := s; rfl) | (obtain ⟨_, _, _, _, _, _, rfl, _⟩ := s; rfl) | (obtain ⟨_, _, _, _, _, _, _, rfl, _⟩ := s; rfl) | (obtain ⟨_, _, _, _, _, _, _, _, rfl, _⟩ := s; rfl) | (obtain ⟨_, _, _, _, _, _, _, _, _, rfl, _⟩ := s; rfl) | (obtain ⟨_, _, _, _, _, _, _, _, _, _, rfl, _⟩ := s; rfl) | (obtain ⟨_, _, _, _, _, _, _, _, _, _, _, rfl, _⟩ := s; rfl) | (obtain ⟨_, _, _, _, _, _, _, _, _, _, _, _, rfl, _⟩ := s; rfl) | (obtain ⟨_, _, _, _, _, _, _, _, _, _, _, _, _, rfl, _⟩ := s; rfl) | (obtain ⟨_, _, _, _, _, _, _, _, _, _, _, _, _, _, rfl, _⟩ := s; rfl) | (obtain ⟨_, _, _, _, _, _, _, _, _, _, _, _, _, _, _, rfl, _⟩ := s; rfl) | (obtain ⟨_, _, _, _, _, _, _, _, _, _, _, _, _, _, _, _, rfl, _⟩ := s; rfl) | (obtain ⟨_, _, _, _, _, _, _, _, _, _, _, _, _, _, _, _, _, rfl, _⟩ := s; rfl) | (unfold sp_is_integer TB.sp_is_integer at s; split at s; all_goals first | rfl | exact s.elim) | exact False.elim s | (rcases ds with _ | ⟨_, _ | ⟨_, _ | ⟨_, _ | ⟨_, _⟩⟩⟩⟩ <;> first | rfl | exact False.elim s)
theorem bd_is_integer (T : Txt P w K mg A) : Binds K A.e_is_integer ["value", "low", "high"] [] := T.F_is_integer.binds fun _ _ _ _ _ _ us hl => match us, hl with | [_, _, _], _ => rfl
theorem ok_is_integer (T : Txt P w K mg A) (U : Tbt base mg A) : FnM P w K mg base 2 A.f_is_integer A.e_is_integer ["value", "low", "high"] sp_is_integer :=
  fn_m T.F_is_integer sc_is_integer (len_is_integer) fun cdv Ar outer s H E B ds h Q' E' hcd hr tk hsp => ⟨rd_is_integer , by
    exact (ms_one (ms_ret (m_and (m_isi T.n_isinstance (by decide) (m_var 0) (pe_ty T.n_int rfl)) (m_and (m_not (m_isi T.n_isinstance (by decide) (m_var 0) (pe_ty T.n_bool rfl))) (m_one (m_lele (m_var 1) (m_var 0) (m_var 2))))))), pure_is_integer ds h Q' E' hsp⟩
theorem sc_room_taken : FnScope N_room_taken ["counts"] (defScope s_room_taken) := ⟨rfl, rfl, rfl, by decide +kernel, rfl, by decide +kernel, by decide +kernel⟩
theorem len_room_taken : ∀ ds h Q E, sp_room_taken ds h Q E → ds.length = (["counts"] : List Str).length := by
  intro ds h Q E s
  first | (obtain ⟨rfl, _⟩ := s; rfl) | (obtain ⟨_, rfl, _⟩ := s; rfl) | (obtain ⟨_, _, rfl, _⟩ := s; rfl) | (obtain ⟨_, _, _, rfl, _⟩ := s; rfl) | (obtain ⟨_, _, _, _, rfl, _⟩ := s; rfl) | (obtain ⟨_, _, _, _, _, rfl, _⟩ := s; rfl) | (obtain ⟨_, _, _, _, _, _, rfl, _⟩ := s; rfl) | (obtain ⟨_, _, _, _, _, _, _, rfl, _⟩ := s; rfl) | (obtain ⟨_, _, _, _, _, _, _, _, rfl, _⟩ := s; rfl) | (obtain ⟨_, _, _, _, _, _, _, _, _, rfl, _⟩ := s; rfl) | (obtain ⟨_, _, _, _, _, _, _, _, _, _, rfl, _⟩ := s; rfl) | (obtain ⟨_, _, _, _, _, _, _, _, _, _, _, rfl, _⟩ := s; rfl) | (obtain ⟨_, _, _, _, _, _, _, _, _, _, _, _, rfl, _⟩ := s; rfl) | (obtain ⟨_, _, _, _, _, _, _, _, _, _, _, _, _, rfl, _⟩ := s; rfl) | (obtain ⟨_, _, _, _, _, _, _, _, _, _, _, _, _, _, rfl, _⟩ := s; rfl) | (obtain ⟨_, _, _, _, _, _, _, _, _, _, _, _, _, _, _, rfl, _⟩ := s; rfl) | (obtain ⟨_, _, _, _, _, _, _, _, _, _, _, _, _, _, _, _, rfl, _⟩ := s; rfl) | (obtain ⟨_, _, _, _, _, _, _, _, _, _, _, _, _, _, _, _, _, rfl, _⟩ := s; rfl) | (unfold sp_room_taken TB.sp_room_taken at s; split at s; all_goals first | rfl | exact s.elim) | exact False.elim s | (rcases ds with _ | ⟨_, _ | ⟨_, _⟩⟩ <;> first | rfl | exact False.elim s)
theorem bd_room_taken (T : Txt P w K mg A) : Binds K A.e_room_taken ["counts"] [] := T.F_room_taken.binds fun _ _ _ _ _ _ us hl => match us, hl with | [_], _ => rfl
theorem ok_room_taken (T : Txt P w K mg A) (U : Tbt base mg A) : FnM P w K mg base 2 A.f_room_taken A.e_room_taken ["counts"] sp_room_taken :=
  fn_m T.F_room_taken sc_room_taken (len_room_taken) fun cdv Ar outer s H E B ds h Q' E' hcd hr tk hsp => ⟨rd_room_taken , by
    exact (ms_one (ms_ret (m_sum rfl T.n_sum (ma_cons (m_lc (own := [("length", 1), ("count", 2)]) rfl sc_room_taken.nd (mi_enumS T.n_enumerate (m_var 0)) (show BlkOk N_room_taken (defScope s_room_taken) _ [("length", 1), ("count", 2)] from ⟨rfl, by decide +kernel, by decide +kernel, by decide +kernel, by decide +kernel⟩) (putT_ok rfl) (fun _ _ _ _ _ => pg_tup rfl (pgs_cons (pg_name (i := 1) sc_room_taken.nd rfl (by first | exact Or.inl rfl | exact Or.inr rfl)) (pgs_cons (pg_name (i := 2) sc_room_taken.nd rfl (by first | exact Or.inl rfl | exact Or.inr rfl)) pgs_nil))) (fun _ _ _ _ _ => mts_nil) (fun _ _ _ _ _ => (m_shl (m_var 2) (m_sub (m_glob (v := V.int 16) rfl T.c_LONGEST ⟨_, rfl⟩ (fun _ => .int _)) (m_var 1))))) ma_nil)))), pure_room_taken ds h Q' E' hsp⟩
theorem sc_bits_as : FnScope N_bits_as ["number", "length"] (defScope s_bits_as) := ⟨rfl, rfl, rfl, by decide +kernel, rfl, by decide +kernel, by decide +kernel⟩
theorem len_bits_as : ∀ ds h Q E, sp_bits_as ds h Q E → ds.length = (["number", "length"] : List Str).length := by
  intro ds h Q E s
  first | (obtain ⟨rfl, _⟩ := s; rfl) | (obtain ⟨_, rfl, _⟩ := s; rfl) | (obtain ⟨_, _, rfl, _⟩ := s; rfl) | (obtain ⟨_, _, _, rfl, _⟩ := s; rfl) | (obtain ⟨_, _, _, _, rfl, _⟩ := s; rfl) | (obtain ⟨_, _, _, _, _, rfl, _⟩ := s; rfl) | (obtain ⟨_, _, _, _, _, _, rfl, _⟩ := s; rfl) | (obtain ⟨_, _, _, _, _, _, _, rfl, _⟩ := s; rfl) | (obtain ⟨_, _, _, _, _, _, _, _, rfl, _⟩ := s; rfl) | (obtain ⟨_, _, _, _, _, _, _, _, _, rfl, _⟩ := s; rfl) | (obtain ⟨_, _, _, _, _, _, _, _, _, _, rfl, _⟩ := s; rfl) | (obtain ⟨_, _, _, _, _, _, _, _, _, _, _, rfl, _⟩ := s; rfl) | (obtain ⟨_, _, _, _, _, _, _, _, _, _, _, _, rfl, _⟩ := s; rfl) | (obtain ⟨_, _, _, _, _, _, _, _, _, _, _, _, _, rfl, _⟩ := s; rfl) | (obtain ⟨_, _, _, _, _, _, _, _, _, _, _, _, _, _, rfl, _⟩ := s; rfl) | (obtain ⟨_, _, _, _, _, _, _, _, _, _, _, _, _, _, _, rfl, _⟩ := s; rfl) | (obtain ⟨_, _, _, _, _, _, _, _, _, _, _, _, _, _, _, _, rfl, _⟩ := s; rfl) | (obtain ⟨_, _, _, _, _, _, _, _, _, _, _, _, _, _, _, _, _, rfl, _⟩ := s; rfl) | (unfold sp_bits_as TB.sp_bits_as at s; split at s; all_goals first | rfl | exact s.elim) | exact False.elim s | (rcases ds with _ | ⟨_, _ | ⟨_, _ | ⟨_, _⟩⟩⟩ <;> first | rfl | exact False.elim s)
theorem bd_bits_as (T : Txt P w K mg A) : Binds K A.e_bits_as ["number", "length"] [] := T.F_bits_as.binds fun _ _ _ _ _ _ us hl => match us, hl with | [_, _], _ => rfl
theorem ok_bits_as (T : Txt P w K mg A) (U : Tbt base mg A) : FnM P w K mg base 2 A.f_bits_as A.e_bits_as ["number", "length"] sp_bits_as :=
  fn_m T.F_bits_as sc_bits_as (len_bits_as) fun cdv Ar outer s H E B ds h Q' E' hcd hr tk hsp => ⟨rd_bits_as , by
    exact (ms_one (ms_ret (m_tuple T.n_tuple (ma_cons (m_lc (own := [("at", 2)]) rfl sc_bits_as.nd (mi_range1 T.n_range (m_var 1)) (show BlkOk N_bits_as (defScope s_bits_as) _ [("at", 2)] from ⟨rfl, by decide +kernel, by decide +kernel, by decide +kernel, by decide +kernel⟩) put1_ok (fun _ _ _ _ _ => pg_name (i := 2) sc_bits_as.nd rfl (by first | exact Or.inl rfl | exact Or.inr rfl)) (fun _ _ _ _ _ => mts_nil) (fun _ _ _ _ _ => (m_band (m_shr (m_var 0) (m_sub (m_sub (m_var 1) m_int) (m_var 2))) m_int))) ma_nil)))), pure_bits_as ds h Q' E' hsp⟩
theorem sc_coins_of : FnScope N_coins_of ["weights"] (defScope s_coins_of) := ⟨rfl, rfl, rfl, by decide +kernel, rfl, by decide +kernel, by decide +kernel⟩
theorem len_coins_of : ∀ ds h Q E, sp_coins_of ds h Q E → ds.length = (["weights"] : List Str).length := by
  intro ds h Q E s
  first | (obtain ⟨rfl, _⟩ := s; rfl) | (obtain ⟨_, rfl, _⟩ := s; rfl) | (obtain ⟨_, _, rfl, _⟩ := s; rfl) | (obtain ⟨_, _, _, rfl, _⟩ := s; rfl) | (obtain ⟨_, _, _, _, rfl, _⟩ := s; rfl) | (obtain ⟨_, _, _, _, _, rfl, _⟩ := s; rfl) | (obtain ⟨_, _, _, _, _, _, rfl, _⟩ := s; rfl) | (obtain ⟨_, _, _, _, _, _, _, rfl, _⟩ := s; rfl) | (obtain ⟨_, _, _, _, _, _, _, _, rfl, _⟩ := s; rfl) | (obtain ⟨_, _, _, _, _, _, _, _, _, rfl, _⟩ := s; rfl) | (obtain ⟨_, _, _, _, _, _, _, _, _, _, rfl, _⟩ := s; rfl) | (obtain ⟨_, _, _, _, _, _, _, _, _, _, _, rfl, _⟩ := s; rfl) | (obtain ⟨_, _, _, _, _, _, _, _, _, _, _, _, rfl, _⟩ := s; rfl) | (obtain ⟨_, _, _, _, _, _, _, _, _, _, _, _, _, rfl, _⟩ := s; rfl) | (obtain ⟨_, _, _, _, _, _, _, _, _, _, _, _, _, _, rfl, _⟩ := s; rfl) | (obtain ⟨_, _, _, _, _, _, _, _, _, _, _, _, _, _, _, rfl, _⟩ := s; rfl) | (obtain ⟨_, _, _, _, _, _, _, _, _, _, _, _, _, _, _, _, rfl, _⟩ := s; rfl) | (obtain ⟨_, _, _, _, _, _, _, _, _, _, _, _, _, _, _, _, _, rfl, _⟩ := s; rfl) | (unfold sp_coins_of LM.sp_coins_of at s; split at s; all_goals first | rfl | exact s.elim) | exact False.elim s | (rcases ds with _ | ⟨_, _ | ⟨_, _⟩⟩ <;> first | rfl | exact False.elim s)
theorem bd_coins_of (T : Txt P w K mg A) : Binds K A.e_coins_of ["weights"] [] := T.F_coins_of.binds fun _ _ _ _ _ _ us hl => match us, hl with | [_], _ => rfl
theorem ok_coins_of (T : Txt P w K mg A) (U : Tbt base mg A) : FnM P w K mg base 2 A.f_coins_of A.e_coins_of ["weights"] sp_coins_of :=
  fn_m T.F_coins_of sc_coins_of (len_coins_of) fun cdv Ar outer s H E B ds h Q' E' hcd hr tk hsp => ⟨rd_coins_of , by
    exact (ms_one (ms_ret (m_sorted T.n_sorted (ma_cons (m_add (m_lst (ma_cons m_int ma_nil)) (m_lc (own := [("symbol", 1)]) rfl sc_coins_of.nd (mi_keys (m_var 0)) (show BlkOk N_coins_of (defScope s_coins_of) _ [("symbol", 1)] from ⟨rfl, by decide +kernel, by decide +kernel, by decide +kernel, by decide +kernel⟩) put1_ok (fun _ _ _ _ _ => pg_name (i := 1) sc_coins_of.nd rfl (by first | exact Or.inl rfl | exact Or.inr rfl)) (fun _ _ _ _ _ => mts_nil) (fun _ _ _ _ _ => (m_getDc (Nat.lt_of_le_of_lt (Nat.add_le_add_left (show (1 : Nat) ≤ 64 by decide) _) hr.units) (m_var 0) (m_var 1))))) ma_nil)))), pure_coins_of ds h Q' E' hsp⟩
theorem sc_pairs_of : FnScope N_pairs_of ["row"] (defScope s_pairs_of) := ⟨rfl, rfl, rfl, by decide +kernel, rfl, by decide +kernel, by decide +kernel⟩
theorem len_pairs_of : ∀ ds h Q E, sp_pairs_of ds h Q E → ds.length = (["row"] : List Str).length := by
  intro ds h Q E s
  first | (obtain ⟨rfl, _⟩ := s; rfl) | (obtain ⟨_, rfl, _⟩ := s; rfl) | (obtain ⟨_, _, rfl, _⟩ := s; rfl) | (obtain ⟨_, _, _, rfl, _⟩ := s; rfl) | (obtain ⟨_, _, _, _, rfl, _⟩ := s; rfl) | (obtain ⟨_, _, _, _, _, rfl, _⟩ := s; rfl) | (obtain ⟨_, _, _, _, _, _, rfl, _⟩ := s; rfl) | (obtain ⟨_, _, _, _, _, _, _, rfl, _⟩ := s; rfl) | (obtain ⟨_, _, _, _, _, _, _, _, rfl, _⟩ := s; rfl) | (obtain ⟨_, _, _, _, _, _, _, _, _, rfl, _⟩ := s; rfl) | (obtain ⟨_, _, _, _, _, _, _, _, _, _, rfl, _⟩ := s; rfl) | (obtain ⟨_, _, _, _, _, _, _, _, _, _, _, rfl, _⟩ := s; rfl) | (obtain ⟨_, _, _, _, _, _, _, _, _, _, _, _, rfl, _⟩ := s; rfl) | (obtain ⟨_, _, _, _, _, _, _, _, _, _, _, _, _, rfl, _⟩ := s; rfl) | (obtain ⟨_, _, _, _, _, _, _, _, _, _, _, _, _, _, rfl, _⟩ := s; rfl) | (obtain ⟨_, _, _, _, _, _, _, _, _, _, _, _, _, _, _, rfl, _⟩ := s; rfl) | (obtain ⟨_, _, _, _, _, _, _, _, _, _, _, _, _, _, _, _, rfl, _⟩ := s; rfl) | (obtain ⟨_, _, _, _, _, _, _, _, _, _, _, _, _, _, _, _, _, rfl, _⟩ := s; rfl) | (unfold sp_pairs_of LM.sp_pairs_of at s; split at s; all_goals first | rfl | exact s.elim) | exact False.elim s | (rcases ds with _ | ⟨_, _ | ⟨_, _⟩⟩ <;> first | rfl | exact False.elim s)
theorem bd_pairs_of (T : Txt P w K mg A) : Binds K A.e_pairs_of ["row"] [] := T.F_pairs_of.binds fun _ _ _ _ _ _ us hl => match us, hl with | [_], _ => rfl
theorem ok_pairs_of (T : Txt P w K mg A) (U : Tbt base mg A) : FnM P w K mg base 2 A.f_pairs_of A.e_pairs_of ["row"] sp_pairs_of :=
  fn_m T.F_pairs_of sc_pairs_of (len_pairs_of) fun cdv Ar outer s H E B ds h Q' E' hcd hr tk hsp => ⟨rd_pairs_of , by
    exact (ms_one (ms_ret (m_lc (own := [("at", 1)]) rfl sc_pairs_of.nd (mi_range3 T.n_range (ma_cons m_int (ma_cons (m_sub (m_len T.n_len (ma_cons (m_var 0) ma_nil)) m_int) (ma_cons m_int ma_nil)))) (show BlkOk N_pairs_of (defScope s_pairs_of) _ [("at", 1)] from ⟨rfl, by decide +kernel, by decide +kernel, by decide +kernel, by decide +kernel⟩) put1_ok (fun _ _ _ _ _ => pg_name (i := 1) sc_pairs_of.nd rfl (by first | exact Or.inl rfl | exact Or.inr rfl)) (fun _ _ _ _ _ => mts_nil) (fun _ _ _ _ _ => (m_add (m_ix (m_var 0) (m_var 1)) (m_ix (m_var 0) (m_add (m_var 1) m_int))))))), pure_pairs_of ds h Q' E' hsp⟩
theorem sc_coins_among : FnScope N_coins_among ["coins", "pairs", "many"] (defScope s_coins_among) := ⟨rfl, rfl, rfl, by decide +kernel, rfl, by decide +kernel, by decide +kernel⟩
theorem len_coins_among : ∀ ds h Q E, sp_coins_among ds h Q E → ds.length = (["coins", "pairs", "many"] : List Str).length := by
  intro ds h Q E s
  first | (obtain ⟨rfl, _⟩ := s; rfl) | (obtain ⟨_, rfl, _⟩ := s; rfl) | (obtain ⟨_, _, rfl, _⟩ := s; rfl) | (obtain ⟨_, _, _, rfl, _⟩ := s; rfl) | (obtain ⟨_, _, _, _, rfl, _⟩ := s; rfl) | (obtain ⟨_, _, _, _, _, rfl, _⟩ := s; rfl) | (obtain ⟨_, _, _, _, _, _, rfl, _⟩ := s; rfl) | (obtain ⟨_, _, _, _, _, _, _, rfl, _⟩ := s; rfl) | (obtain ⟨_, _, _, _, _, _, _, _, rfl, _⟩ := s; rfl) | (obtain ⟨_, _, _, _, _, _, _, _, _, rfl, _⟩ := s; rfl) | (obtain ⟨_, _, _, _, _, _, _, _, _, _, rfl, _⟩ := s; rfl) | (obtain ⟨_, _, _, _, _, _, _, _, _, _, _, rfl, _⟩ := s; rfl) | (obtain ⟨_, _, _, _, _, _, _, _, _, _, _, _, rfl, _⟩ := s; rfl) | (obtain ⟨_, _, _, _, _, _, _, _, _, _, _, _, _, rfl, _⟩ := s; rfl) | (obtain ⟨_, _, _, _, _, _, _, _, _, _, _, _, _, _, rfl, _⟩ := s; rfl) | (obtain ⟨_, _, _, _, _, _, _, _, _, _, _, _, _, _, _, rfl, _⟩ := s; rfl) | (obtain ⟨_, _, _, _, _, _, _, _, _, _, _, _, _, _, _, _, rfl, _⟩ := s; rfl) | (obtain ⟨_, _, _, _, _, _, _, _, _, _, _, _, _, _, _, _, _, rfl, _⟩ := s; rfl) | (unfold sp_coins_among LM.sp_coins_among at s; split at s; all_goals first | rfl | exact s.elim) | exact False.elim s | (rcases ds with _ | ⟨_, _ | ⟨_, _ | ⟨_, _ | ⟨_, _⟩⟩⟩⟩ <;> first | rfl | exact False.elim s)
theorem bd_coins_among (T : Txt P w K mg A) : Binds K A.e_coins_among ["coins", "pairs", "many"] [] := T.F_coins_among.binds fun _ _ _ _ _ _ us hl => match us, hl with | [_, _, _], _ => rfl
theorem ok_coins_among (T : Txt P w K mg A) (U : Tbt base mg A) : FnM P w K mg base 2 A.f_coins_among A.e_coins_among ["coins", "pairs", "many"] sp_coins_among :=
  fn_m T.F_coins_among sc_coins_among (len_coins_among) fun cdv Ar outer s H E B ds h Q' E' hcd hr tk hsp => ⟨rd_coins_among , by
    exact (ms_cons (ms_asg (m_tup (ma_cons m_int (ma_cons m_int ma_nil))) (mg_tup rfl (mgs_cons (mg_name 3 sc_coins_among.nd) (mgs_cons (mg_name 4 sc_coins_among.nd) mgs_nil))))
 (ms_cons (ms_while (passes_of rfl) (mt_lt (m_var 3) (m_len T.n_len (ma_cons (m_var 0) ma_nil)))
 (ms_cons (ms_while (passes_of rfl) (mt_w (mw_and (mt_lt (m_var 4) (m_len T.n_len (ma_cons (m_var 1) ma_nil))) (mw_and1 (mt_lt (m_ix (m_var 1) (m_var 4)) (m_ix (m_var 0) (m_var 3))))))
 (ms_one (ms_aug 4 sc_coins_among.nd m_int ip_add)))
 (ms_cons (ms_if (mt_ge (m_add (m_var 3) (m_var 4)) (m_var 2)) (ms_one ms_break) ms_nil)
 (ms_one (ms_aug 3 sc_coins_among.nd m_int ip_add)))))
 (ms_one (ms_ret (m_var 3))))), pure_coins_among ds h Q' E' hsp⟩
theorem sc_law_cell_at : FnScope N_law_cell_at ["_law_script", "_law_k"] (defScope s_law_cell_at) := ⟨rfl, rfl, rfl, by decide +kernel, rfl, by decide +kernel, by decide +kernel⟩
theorem len_law_cell_at : ∀ ds h Q E, sp_law_cell_at ds h Q E → ds.length = (["_law_script", "_law_k"] : List Str).length := by
  intro ds h Q E s
  first | (obtain ⟨rfl, _⟩ := s; rfl) | (obtain ⟨_, rfl, _⟩ := s; rfl) | (obtain ⟨_, _, rfl, _⟩ := s; rfl) | (obtain ⟨_, _, _, rfl, _⟩ := s; rfl) | (obtain ⟨_, _, _, _, rfl, _⟩ := s; rfl) | (obtain ⟨_, _, _, _, _, rfl, _⟩ := s; rfl) | (obtain ⟨_, _, _, _, _, _, rfl, _⟩ := s; rfl) | (obtain ⟨_, _, _, _, _, _, _, rfl, _⟩ := s; rfl) | (obtain ⟨_, _, _, _, _, _, _, _, rfl, _⟩ := s; rfl) | (obtain ⟨_, _, _, _, _, _, _, _, _, rfl, _⟩ := s; rfl) | (obtain ⟨_, _, _, _, _, _, _, _, _, _, rfl, _⟩ := s; rfl) | (obtain ⟨_, _, _, _, _, _, _, _, _, _, _, rfl, _⟩ := s; rfl) | (obtain ⟨_, _, _, _, _, _, _, _, _, _, _, _, rfl, _⟩ := s; rfl) | (obtain ⟨_, _, _, _, _, _, _, _, _, _, _, _, _, rfl, _⟩ := s; rfl) | (obtain ⟨_, _, _, _, _, _, _, _, _, _, _, _, _, _, rfl, _⟩ := s; rfl) | (obtain ⟨_, _, _, _, _, _, _, _, _, _, _, _, _, _, _, rfl, _⟩ := s; rfl) | (obtain ⟨_, _, _, _, _, _, _, _, _, _, _, _, _, _, _, _, rfl, _⟩ := s; rfl) | (obtain ⟨_, _, _, _, _, _, _, _, _, _, _, _, _, _, _, _, _, rfl, _⟩ := s; rfl) | (unfold sp_law_cell_at at s; split at s; all_goals first | rfl | exact s.elim) | exact False.elim s | (rcases ds with _ | ⟨_, _ | ⟨_, _ | ⟨_, _⟩⟩⟩ <;> first | rfl | exact False.elim s)
theorem bd_law_cell_at (T : Txt P w K mg A) : Binds K A.e_law_cell_at ["_law_script", "_law_k"] [] := T.F_law_cell_at.binds fun _ _ _ _ _ _ us hl => match us, hl with | [_, _], _ => rfl
theorem ok_law_cell_at (T : Txt P w K mg A) (U : Tbt base mg A) : FnM P w K mg base 2 A.f_law_cell_at A.e_law_cell_at ["_law_script", "_law_k"] sp_law_cell_at :=
  fn_m T.F_law_cell_at sc_law_cell_at (len_law_cell_at) fun cdv Ar outer s H E B ds h Q' E' hcd hr tk hsp => ⟨rd_law_cell_at , by
    exact (ms_cons (ms_if (mt_lt (m_var 1) (m_len T.n_len (ma_cons (m_var 0) ma_nil))) (ms_one (ms_ret (m_ix (m_var 0) (m_var 1)))) ms_nil)
 (ms_one (ms_ret m_int))), pure_law_cell_at ds h Q' E' hsp⟩
theorem sc_law_source_of : FnScope N_law_source_of ["_law_cell"] (defScope s_law_source_of) := ⟨rfl, rfl, rfl, by decide +kernel, rfl, by decide +kernel, by decide +kernel⟩
theorem len_law_source_of : ∀ ds h Q E, sp_law_source_of ds h Q E → ds.length = (["_law_cell"] : List Str).length := by
  intro ds h Q E s
  first | (obtain ⟨rfl, _⟩ := s; rfl) | (obtain ⟨_, rfl, _⟩ := s; rfl) | (obtain ⟨_, _, rfl, _⟩ := s; rfl) | (obtain ⟨_, _, _, rfl, _⟩ := s; rfl) | (obtain ⟨_, _, _, _, rfl, _⟩ := s; rfl) | (obtain ⟨_, _, _, _, _, rfl, _⟩ := s; rfl) | (obtain ⟨_, _, _, _, _, _, rfl, _⟩ := s; rfl) | (obtain ⟨_, _, _, _, _, _, _, rfl, _⟩ := s; rfl) | (obtain ⟨_, _, _, _, _, _, _, _, rfl, _⟩ := s; rfl) | (obtain ⟨_, _, _, _, _, _, _, _, _, rfl, _⟩ := s; rfl) | (obtain ⟨_, _, _, _, _, _, _, _, _, _, rfl, _⟩ := s; rfl) | (obtain ⟨_, _, _, _, _, _, _, _, _, _, _, rfl, _⟩ := s; rfl) | (obtain ⟨_, _, _, _, _, _, _, _, _, _, _, _, rfl, _⟩ := s; rfl) | (obtain ⟨_, _, _, _, _, _, _, _, _, _, _, _, _, rfl, _⟩ := s; rfl) | (obtain ⟨_, _, _, _, _, _, _, _, _, _, _, _, _, _, rfl, _⟩ := s; rfl) | (obtain ⟨_, _, _, _, _, _, _, _, _, _, _, _, _, _, _, rfl, _⟩ := s; rfl) | (obtain ⟨_, _, _, _, _, _, _, _, _, _, _, _, _, _, _, _, rfl, _⟩ := s; rfl) | (obtain ⟨_, _, _, _, _, _, _, _, _, _, _, _, _, _, _, _, _, rfl, _⟩ := s; rfl) | (unfold sp_law_source_of at s; split at s; all_goals first | rfl | exact s.elim) | exact False.elim s | (rcases ds with _ | ⟨_, _ | ⟨_, _⟩⟩ <;> first | rfl | exact False.elim s)
theorem bd_law_source_of (T : Txt P w K mg A) : Binds K A.e_law_source_of ["_law_cell"] [] := T.F_law_source_of.binds fun _ _ _ _ _ _ us hl => match us, hl with | [_], _ => rfl
theorem ok_law_source_of (T : Txt P w K mg A) (U : Tbt base mg A) : FnM P w K mg base 2 A.f_law_source_of A.e_law_source_of ["_law_cell"] sp_law_source_of :=
  fn_m T.F_law_source_of sc_law_source_of (len_law_source_of) fun cdv Ar outer s H E B ds h Q' E' hcd hr tk hsp => ⟨rd_law_source_of , by
    exact (ms_cons (ms_set 0 sc_law_source_of.nd (m_if (mt_ge (m_var 0) m_int) (m_var 0) (m_sub (m_sub m_int (m_mul m_int (m_var 0))) m_int)))
 (ms_one (ms_ret (m_lstM (ma_cons (m_mul (m_var 0) (m_intc T.n_int (ma_cons (m_ge (m_var 0) (m_pow m_int m_int)) ma_nil))) (ma_cons (m_mod (m_intc T.n_int (ma_cons (m_var 0) ma_nil)) m_int) (ma_cons m_int ma_nil))))))), pure_law_source_of ds h Q' E' hsp⟩
theorem sc_law_next : FnScope N_law_next ["_law_source", "_law_many"] (defScope s_law_next) := ⟨rfl, rfl, rfl, by decide +kernel, rfl, by decide +kernel, by decide +kernel⟩
theorem len_law_next : ∀ ds h Q E, sp_law_next ds h Q E → ds.length = (["_law_source", "_law_many"] : List Str).length := by
  intro ds h Q E s
  first | (obtain ⟨rfl, _⟩ := s; rfl) | (obtain ⟨_, rfl, _⟩ := s; rfl) | (obtain ⟨_, _, rfl, _⟩ := s; rfl) | (obtain ⟨_, _, _, rfl, _⟩ := s; rfl) | (obtain ⟨_, _, _, _, rfl, _⟩ := s; rfl) | (obtain ⟨_, _, _, _, _, rfl, _⟩ := s; rfl) | (obtain ⟨_, _, _, _, _, _, rfl, _⟩ := s; rfl) | (obtain ⟨_, _, _, _, _, _, _, rfl, _⟩ := s; rfl) | (obtain ⟨_, _, _, _, _, _, _, _, rfl, _⟩ := s; rfl) | (obtain ⟨_, _, _, _, _, _, _, _, _, rfl, _⟩ := s; rfl) | (obtain ⟨_, _, _, _, _, _, _, _, _, _, rfl, _⟩ := s; rfl) | (obtain ⟨_, _, _, _, _, _, _, _, _, _, _, rfl, _⟩ := s; rfl) | (obtain ⟨_, _, _, _, _, _, _, _, _, _, _, _, rfl, _⟩ := s; rfl) | (obtain ⟨_, _, _, _, _, _, _, _, _, _, _, _, _, rfl, _⟩ := s; rfl) | (obtain ⟨_, _, _, _, _, _, _, _, _, _, _, _, _, _, rfl, _⟩ := s; rfl) | (obtain ⟨_, _, _, _, _, _, _, _, _, _, _, _, _, _, _, rfl, _⟩ := s; rfl) | (obtain ⟨_, _, _, _, _, _, _, _, _, _, _, _, _, _, _, _, rfl, _⟩ := s; rfl) | (obtain ⟨_, _, _, _, _, _, _, _, _, _, _, _, _, _, _, _, _, rfl, _⟩ := s; rfl) | (unfold sp_law_next at s; split at s; all_goals first | rfl | exact s.elim) | exact False.elim s | (rcases ds with _ | ⟨_, _ | ⟨_, _ | ⟨_, _⟩⟩⟩ <;> first | rfl | exact False.elim s)
theorem bd_law_next (T : Txt P w K mg A) : Binds K A.e_law_next ["_law_source", "_law_many"] [] := T.F_law_next.binds fun _ _ _ _ _ _ us hl => match us, hl with | [_, _], _ => rfl
theorem ok_law_next (T : Txt P w K mg A) (U : Tbt base mg A) : FnM P w K mg base 2 A.f_law_next A.e_law_next ["_law_source", "_law_many"] sp_law_next :=
  fn_m T.F_law_next sc_law_next (len_law_next) fun cdv Ar outer s H E B ds h Q' E' hcd hr tk hsp => ⟨rd_law_next , by
    exact (ms_cons (ms_if (mt_gt (m_ix (m_var 0) m_int) m_int) (ms_cons (ms_set 4 sc_law_next.nd (m_mod (m_intc T.n_int (ma_cons (m_ix (m_var 0) m_int) ma_nil)) (m_var 1)))
 (ms_cons (ms_asg (m_fdiv (m_ix (m_var 0) m_int) (m_var 1)) (mg_sub (m_var 0) m_int))
 (ms_one (ms_ret (m_var 4))))) ms_nil)
 (ms_cons (ms_asg (m_add (m_ix (m_var 0) m_int) m_int) (mg_sub (m_var 0) m_int))
 (ms_cons (ms_set 2 sc_law_next.nd m_int)
 (ms_cons (ms_set 3 sc_law_next.nd (m_mod (m_intc T.n_int (ma_cons (m_add (m_add (m_ix (m_var 0) m_int) (m_mul m_int (m_ix (m_var 0) m_int))) m_int) ma_nil)) (m_var 2)))
 (ms_cons (ms_set 3 sc_law_next.nd (m_mod (m_intc T.n_int (ma_cons (m_mul (m_var 3) m_int) ma_nil)) (m_var 2)))
 (ms_cons (ms_set 3 sc_law_next.nd (m_mod (m_intc T.n_int (ma_cons (m_mul (m_var 3) (m_add (m_fdiv (m_var 3) m_int) m_int)) ma_nil)) (m_var 2)))
 (ms_cons (ms_set 3 sc_law_next.nd (m_mod (m_intc T.n_int (ma_cons (m_mul (m_var 3) (m_add (m_fdiv (m_var 3) m_int) m_int)) ma_nil)) m_int))
 (ms_one (ms_ret (m_mod (m_intc T.n_int (ma_cons (m_fdiv (m_var 3) m_int) ma_nil)) (m_var 1))))))))))), pure_law_next ds h Q' E' hsp⟩
theorem sc_law_lengths : FnScope N_law_lengths ["_law_table"] (defScope s_law_lengths) := ⟨rfl, rfl, rfl, by decide +kernel, rfl, by decide +kernel, by decide +kernel⟩
theorem len_law_lengths : ∀ ds h Q E, sp_law_lengths ds h Q E → ds.length = (["_law_table"] : List Str).length := by
  intro ds h Q E s
  first | (obtain ⟨rfl, _⟩ := s; rfl) | (obtain ⟨_, rfl, _⟩ := s; rfl) | (obtain ⟨_, _, rfl, _⟩ := s; rfl) | (obtain ⟨_, _, _, rfl, _⟩ := s; rfl) | (obtain ⟨_, _, _, _, rfl, _⟩ := s; rfl) | (obtain ⟨_, _, _, _, _, rfl, _⟩ := s; rfl) | (obtain ⟨_, _, _, _, _, _, rfl, _⟩ := s; rfl) | (obtain ⟨_, _, _, _, _, _, _, rfl, _⟩ := s; rfl) | (obtain ⟨_, _, _, _, _, _, _, _, rfl, _⟩ := s; rfl) | (obtain ⟨_, _, _, _, _, _, _, _, _, rfl, _⟩ := s; rfl) | (obtain ⟨_, _, _, _, _, _, _, _, _, _, rfl, _⟩ := s; rfl) | (obtain ⟨_, _, _, _, _, _, _, _, _, _, _, rfl, _⟩ := s; rfl) | (obtain ⟨_, _, _, _, _, _, _, _, _, _, _, _, rfl, _⟩ := s; rfl) | (obtain ⟨_, _, _, _, _, _, _, _, _, _, _, _, _, rfl, _⟩ := s; rfl) | (obtain ⟨_, _, _, _, _, _, _, _, _, _, _, _, _, _, rfl, _⟩ := s; rfl) | (obtain ⟨_, _, _, _, _, _, _, _, _, _, _, _, _, _, _, rfl, _⟩ := s; rfl) | (obtain ⟨_, _, _, _, _, _, _, _, _, _, _, _, _, _, _, _, rfl, _⟩ := s; rfl) | (obtain ⟨_, _, _, _, _, _, _, _, _, _, _, _, _, _, _, _, _, rfl, _⟩ := s; rfl) | (unfold sp_law_lengths at s; split at s; all_goals first | rfl | exact s.elim) | exact False.elim s | (rcases ds with _ | ⟨_, _ | ⟨_, _⟩⟩ <;> first | rfl | exact False.elim s)
theorem bd_law_lengths (T : Txt P w K mg A) : Binds K A.e_law_lengths ["_law_table"] [] := T.F_law_lengths.binds fun _ _ _ _ _ _ us hl => match us, hl with | [_], _ => rfl
theorem ok_law_lengths (T : Txt P w K mg A) (U : Tbt base mg A) : FnM P w K mg base 2 A.f_law_lengths A.e_law_lengths ["_law_table"] sp_law_lengths :=
  fn_m T.F_law_lengths sc_law_lengths (len_law_lengths) fun cdv Ar outer s H E B ds h Q' E' hcd hr tk hsp => ⟨rd_law_lengths , by
    exact (ms_cons (ms_par 1 2 rfl sc_law_lengths.nd (ma_cons m_dct0M (ma_cons m_int ma_nil)))
 (ms_cons (ms_for (passes_of rfl) rfl (mi_enum T.n_enumerate (m_ix (m_var 0) m_int)) (mg_tup rfl (mgs_cons (mg_name 3 sc_law_lengths.nd) (mgs_cons (mg_name 4 sc_law_lengths.nd) mgs_nil)))
 (ms_one (ms_for (passes_of rfl) rfl (mi_range1 T.n_range (m_var 4)) (mg_name 5 sc_law_lengths.nd)
 (ms_cons (ms_putDc (Nat.lt_of_le_of_lt (Nat.add_le_add_left (show (1 : Nat) ≤ 64 by decide) _) hr.units) (m_var 1) (m_ix (m_ix (m_var 0) m_int) (m_var 2)) (m_add (m_var 3) m_int))
 (ms_one (ms_set 2 sc_law_lengths.nd (m_add (m_var 2) m_int)))))))
 (ms_fzD 1 (ms_one (ms_ret (m_var 1)))))), pure_law_lengths ds h Q' E' hsp⟩
theorem sc_law_free_bits : FnScope N_law_free_bits ["_law_weights_so"] (defScope s_law_free_bits) := ⟨rfl, rfl, rfl, by decide +kernel, rfl, by decide +kernel, by decide +kernel⟩
theorem len_law_free_bits : ∀ ds h Q E, sp_law_free_bits ds h Q E → ds.length = (["_law_weights_so"] : List Str).length := by
  intro ds h Q E s
  first | (obtain ⟨rfl, _⟩ := s; rfl) | (obtain ⟨_, rfl, _⟩ := s; rfl) | (obtain ⟨_, _, rfl, _⟩ := s; rfl) | (obtain ⟨_, _, _, rfl, _⟩ := s; rfl) | (obtain ⟨_, _, _, _, rfl, _⟩ := s; rfl) | (obtain ⟨_, _, _, _, _, rfl, _⟩ := s; rfl) | (obtain ⟨_, _, _, _, _, _, rfl, _⟩ := s; rfl) | (obtain ⟨_, _, _, _, _, _, _, rfl, _⟩ := s; rfl) | (obtain ⟨_, _, _, _, _, _, _, _, rfl, _⟩ := s; rfl) | (obtain ⟨_, _, _, _, _, _, _, _, _, rfl, _⟩ := s; rfl) | (obtain ⟨_, _, _, _, _, _, _, _, _, _, rfl, _⟩ := s; rfl) | (obtain ⟨_, _, _, _, _, _, _, _, _, _, _, rfl, _⟩ := s; rfl) | (obtain ⟨_, _, _, _, _, _, _, _, _, _, _, _, rfl, _⟩ := s; rfl) | (obtain ⟨_, _, _, _, _, _, _, _, _, _, _, _, _, rfl, _⟩ := s; rfl) | (obtain ⟨_, _, _, _, _, _, _, _, _, _, _, _, _, _, rfl, _⟩ := s; rfl) | (obtain ⟨_, _, _, _, _, _, _, _, _, _, _, _, _, _, _, rfl, _⟩ := s; rfl) | (obtain ⟨_, _, _, _, _, _, _, _, _, _, _, _, _, _, _, _, rfl, _⟩ := s; rfl) | (obtain ⟨_, _, _, _, _, _, _, _, _, _, _, _, _, _, _, _, _, rfl, _⟩ := s; rfl) | (unfold sp_law_free_bits at s; split at s; all_goals first | rfl | exact s.elim) | exact False.elim s | (rcases ds with _ | ⟨_, _ | ⟨_, _⟩⟩ <;> first | rfl | exact False.elim s)
theorem bd_law_free_bits (T : Txt P w K mg A) : Binds K A.e_law_free_bits ["_law_weights_so"] [] := T.F_law_free_bits.binds fun _ _ _ _ _ _ us hl => match us, hl with | [_], _ => rfl
theorem ok_law_free_bits (T : Txt P w K mg A) (U : Tbt base mg A) : FnM P w K mg base 2 A.f_law_free_bits A.e_law_free_bits ["_law_weights_so"] sp_law_free_bits :=
  fn_m T.F_law_free_bits sc_law_free_bits (len_law_free_bits) fun cdv Ar outer s H E B ds h Q' E' hcd hr tk hsp => ⟨rd_law_free_bits , by
    exact (ms_cons (ms_par 2 3 rfl sc_law_free_bits.nd (ma_cons (m_sorted T.n_sorted (ma_cons (m_add (m_lc (own := [("_law_symbol", 6)]) rfl sc_law_free_bits.nd (mi_keys (m_var 0)) (show BlkOk N_law_free_bits (defScope s_law_free_bits) _ [("_law_symbol", 6)] from ⟨rfl, by decide +kernel, by decide +kernel, by decide +kernel, by decide +kernel⟩) put1_ok (fun _ _ _ _ _ => pg_name (i := 6) sc_law_free_bits.nd rfl (by first | exact Or.inl rfl | exact Or.inr rfl)) (fun _ _ _ _ _ => mts_nil) (fun _ _ _ _ _ => (m_tup (ma_cons (m_getDc (Nat.lt_of_le_of_lt (Nat.add_le_add_left (show (1 : Nat) ≤ 64 by decide) _) hr.units) (m_var 0) (m_var 6)) (ma_cons m_int ma_nil))))) (m_lst (ma_cons (m_tup (ma_cons m_int (ma_cons m_int ma_nil))) ma_nil))) ma_nil)) (ma_cons m_int ma_nil)))
 (ms_cons (ms_for (passes_of rfl) rfl (mi_range1 T.n_range (m_lenDs T.n_len (ma_cons (m_var 0) ma_nil))) (mg_name 1 sc_law_free_bits.nd)
 (ms_cons (ms_par 4 5 rfl sc_law_free_bits.nd (ma_cons (m_ix (m_var 2) m_int) (ma_cons (m_ix (m_var 2) m_int) ma_nil)))
 (ms_cons (ms_set 3 sc_law_free_bits.nd (m_add (m_add (m_var 3) (m_ix (m_var 4) m_int)) (m_ix (m_var 5) m_int)))
 (ms_one (ms_set 2 sc_law_free_bits.nd (m_sorted T.n_sorted (ma_cons (m_add (m_sl (m_var 2) (mo_some m_int) mo_none) (m_lst (ma_cons (m_tup (ma_cons (m_add (m_ix (m_var 4) m_int) (m_ix (m_var 5) m_int)) (ma_cons (m_add m_int (m_max2 rfl T.n_max (ma_cons (m_ix (m_var 4) m_int) (ma_cons (m_ix (m_var 5) m_int) ma_nil)))) ma_nil))) ma_nil))) ma_nil)))))))
 (ms_one (ms_ret (m_tup (ma_cons (m_var 3) (ma_cons (m_ix (m_ix (m_var 2) m_int) m_int) ma_nil))))))), pure_law_free_bits ds h Q' E' hsp⟩
theorem sc_law_bits_by : FnScope N_law_bits_by ["_law_weights_so", "_law_limit"] (defScope s_law_bits_by) := ⟨rfl, rfl, rfl, by decide +kernel, rfl, by decide +kernel, by decide +kernel⟩
theorem len_law_bits_by : ∀ ds h Q E, sp_law_bits_by ds h Q E → ds.length = (["_law_weights_so", "_law_limit"] : List Str).length := by
  intro ds h Q E s
  first | (obtain ⟨rfl, _⟩ := s; rfl) | (obtain ⟨_, rfl, _⟩ := s; rfl) | (obtain ⟨_, _, rfl, _⟩ := s; rfl) | (obtain ⟨_, _, _, rfl, _⟩ := s; rfl) | (obtain ⟨_, _, _, _, rfl, _⟩ := s; rfl) | (obtain ⟨_, _, _, _, _, rfl, _⟩ := s; rfl) | (obtain ⟨_, _, _, _, _, _, rfl, _⟩ := s; rfl) | (obtain ⟨_, _, _, _, _, _, _, rfl, _⟩ := s; rfl) | (obtain ⟨_, _, _, _, _, _, _, _, rfl, _⟩ := s; rfl) | (obtain ⟨_, _, _, _, _, _, _, _, _, rfl, _⟩ := s; rfl) | (obtain ⟨_, _, _, _, _, _, _, _, _, _, rfl, _⟩ := s; rfl) | (obtain ⟨_, _, _, _, _, _, _, _, _, _, _, rfl, _⟩ := s; rfl) | (obtain ⟨_, _, _, _, _, _, _, _, _, _, _, _, rfl, _⟩ := s; rfl) | (obtain ⟨_, _, _, _, _, _, _, _, _, _, _, _, _, rfl, _⟩ := s; rfl) | (obtain ⟨_, _, _, _, _, _, _, _, _, _, _, _, _, _, rfl, _⟩ := s; rfl) | (obtain ⟨_, _, _, _, _, _, _, _, _, _, _, _, _, _, _, rfl, _⟩ := s; rfl) | (obtain ⟨_, _, _, _, _, _, _, _, _, _, _, _, _, _, _, _, rfl, _⟩ := s; rfl) | (obtain ⟨_, _, _, _, _, _, _, _, _, _, _, _, _, _, _, _, _, rfl, _⟩ := s; rfl) | (unfold sp_law_bits_by at s; split at s; all_goals first | rfl | exact s.elim) | exact False.elim s | (rcases ds with _ | ⟨_, _ | ⟨_, _ | ⟨_, _⟩⟩⟩ <;> first | rfl | exact False.elim s)
theorem bd_law_bits_by (T : Txt P w K mg A) : Binds K A.e_law_bits_by ["_law_weights_so", "_law_limit"] [] := T.F_law_bits_by.binds fun _ _ _ _ _ _ us hl => match us, hl with | [_, _], _ => rfl
theorem ok_law_bits_by (T : Txt P w K mg A) (U : Tbt base mg A) : FnM P w K mg base 2 A.f_law_bits_by A.e_law_bits_by ["_law_weights_so", "_law_limit"] sp_law_bits_by :=
  fn_m T.F_law_bits_by sc_law_bits_by (len_law_bits_by) fun cdv Ar outer s H E B ds h Q' E' hcd hr tk hsp => ⟨rd_law_bits_by , by
    exact (ms_cons (ms_set 2 sc_law_bits_by.nd (m_sorted T.n_sorted (ma_cons (m_add (m_lc (own := [("_law_symbol", 7)]) rfl sc_law_bits_by.nd (mi_keys (m_var 0)) (show BlkOk N_law_bits_by (defScope s_law_bits_by) _ [("_law_symbol", 7)] from ⟨rfl, by decide +kernel, by decide +kernel, by decide +kernel, by decide +kernel⟩) put1_ok (fun _ _ _ _ _ => pg_name (i := 7) sc_law_bits_by.nd rfl (by first | exact Or.inl rfl | exact Or.inr rfl)) (fun _ _ _ _ _ => mts_nil) (fun _ _ _ _ _ => (m_getDc (Nat.lt_of_le_of_lt (Nat.add_le_add_left (show (1 : Nat) ≤ 64 by decide) _) hr.units) (m_var 0) (m_var 7)))) (m_lst (ma_cons m_int ma_nil))) ma_nil)))
 (ms_cons (ms_set 3 sc_law_bits_by.nd (m_lst ma_nil))
 (ms_cons (ms_for (passes_of rfl) rfl (mi_range1 T.n_range (m_var 1)) (mg_name 4 sc_law_bits_by.nd)
 (ms_cons (ms_setLc 5 (own := [("_law_k", 6)]) rfl sc_law_bits_by.nd (mi_range1 T.n_range (m_fdiv (m_len T.n_len (ma_cons (m_var 3) ma_nil)) m_int)) (show BlkOk N_law_bits_by (defScope s_law_bits_by) _ [("_law_k", 6)] from ⟨rfl, by decide +kernel, by decide +kernel, by decide +kernel, by decide +kernel⟩) put1_ok (fun _ _ _ _ _ => pg_name (i := 6) sc_law_bits_by.nd rfl (by first | exact Or.inl rfl | exact Or.inr rfl)) (fun _ _ _ _ _ => mts_nil) (fun _ _ _ _ _ => (m_add (m_ix (m_var 3) (m_mul m_int (m_var 6))) (m_ix (m_var 3) (m_add (m_mul m_int (m_var 6)) m_int)))))
 (ms_one (ms_set 3 sc_law_bits_by.nd (m_sorted T.n_sorted (ma_cons (m_add (m_var 2) (m_var 5)) ma_nil))))))
 (ms_one (ms_ret (m_sum rfl T.n_sum (ma_cons (m_sl (m_var 3) mo_none (mo_some (m_mul m_int (m_lenDs T.n_len (ma_cons (m_var 0) ma_nil))))) ma_nil))))))), pure_law_bits_by ds h Q' E' hsp⟩
theorem sc_are_counts : FnScope N_are_counts ["value"] (defScope s_are_counts) := ⟨rfl, rfl, rfl, by decide +kernel, rfl, by decide +kernel, by decide +kernel⟩
theorem len_are_counts : ∀ ds h Q E, sp_are_counts ds h Q E → ds.length = (["value"] : List Str).length := by
  intro ds h Q E s
  first | (obtain ⟨rfl, _⟩ := s; rfl) | (obtain ⟨_, rfl, _⟩ := s; rfl) | (obtain ⟨_, _, rfl, _⟩ := s; rfl) | (obtain ⟨_, _, _, rfl, _⟩ := s; rfl) | (obtain ⟨_, _, _, _, rfl, _⟩ := s; rfl) | (obtain ⟨_, _, _, _, _, rfl, _⟩ := s; rfl) | (obtain ⟨_, _, _, _, _, _, rfl, _⟩ := s; rfl) | (obtain ⟨_, _, _, _, _, _, _, rfl, _⟩ := s; rfl) | (obtain ⟨_, _, _, _, _, _, _, _, rfl, _⟩ := s; rfl) | (obtain ⟨_, _, _, _, _, _, _, _, _, rfl, _⟩ := s; rfl) | (obtain ⟨_, _, _, _, _, _, _, _, _, _, rfl, _⟩ := s; rfl) | (obtain ⟨_, _, _, _, _, _, _, _, _, _, _, rfl, _⟩ := s; rfl) | (obtain ⟨_, _, _, _, _, _, _, _, _, _, _, _, rfl, _⟩ := s; rfl) | (obtain ⟨_, _, _, _, _, _, _, _, _, _, _, _, _, rfl, _⟩ := s; rfl) | (obtain ⟨_, _, _, _, _, _, _, _, _, _, _, _, _, _, rfl, _⟩ := s; rfl) | (obtain ⟨_, _, _, _, _, _, _, _, _, _, _, _, _, _, _, rfl, _⟩ := s; rfl) | (obtain ⟨_, _, _, _, _, _, _, _, _, _, _, _, _, _, _, _, rfl, _⟩ := s; rfl) | (obtain ⟨_, _, _, _, _, _, _, _, _, _, _, _, _, _, _, _, _, rfl, _⟩ := s; rfl) | (unfold sp_are_counts TB.sp_are_counts at s; split at s; all_goals first | rfl | exact s.elim) | exact False.elim s | (rcases ds with _ | ⟨_, _ | ⟨_, _⟩⟩ <;> first | rfl | exact False.elim s)
theorem bd_are_counts (T : Txt P w K mg A) : Binds K A.e_are_counts ["value"] [] := T.F_are_counts.binds fun _ _ _ _ _ _ us hl => match us, hl with | [_], _ => rfl
theorem ok_are_counts (T : Txt P w K mg A) (U : Tbt base mg A) : FnM P w K mg base 3 A.f_are_counts A.e_are_counts ["value"] sp_are_counts :=
  fn_m T.F_are_counts sc_are_counts (len_are_counts) fun cdv Ar outer s H E B ds h Q' E' hcd hr tk hsp => ⟨rd_are_counts , by
    exact (ms_cons (ms_if (mt_w (mw_or (mt_not (mt_val (m_isi T.n_isinstance (by decide) (m_var 0) (pe_ty T.n_tuple rfl)))) (mw_or1 (mt_ne hr.units (m_len T.n_len (ma_cons (m_var 0) ma_nil)) (m_glob (v := V.int 16) rfl T.c_LONGEST ⟨_, rfl⟩ (fun _ => .int _)))))) (ms_one (ms_ret m_bl)) ms_nil)
 (ms_cons (ms_if (mt_not (mt_val (m_all rfl T.n_all (ma_cons (m_lc (own := [("count", 1)]) rfl sc_are_counts.nd (mi_row (m_var 0)) (show BlkOk N_are_counts (defScope s_are_counts) _ [("count", 1)] from ⟨rfl, by decide +kernel, by decide +kernel, by decide +kernel, by decide +kernel⟩) put1_ok (fun _ _ _ _ _ => pg_name (i := 1) sc_are_counts.nd rfl (by first | exact Or.inl rfl | exact Or.inr rfl)) (fun _ _ _ _ _ => mts_nil) (fun _ _ _ _ _ => (m_call (ok_is_integer T U) (hr.mono (by decide)) T.g_is_integer T.F_is_integer.kp (bd_is_integer T) tkF (ma_cons (m_var 1) (ma_cons m_int (ma_cons m_int ma_nil)))))) ma_nil)))) (ms_one (ms_ret m_bl)) ms_nil)
 (ms_one (ms_ret (m_lt (m_call (ok_room_taken T U) (hr.mono (by decide)) T.g_room_taken T.F_room_taken.kp (bd_room_taken T) tkF (ma_cons (m_var 0) ma_nil)) (m_glob (v := V.int 65536) rfl T.c_WHOLE ⟨_, rfl⟩ (fun _ => .int _))))))), pure_are_counts ds h Q' E' hsp⟩
theorem sc_are_symbols : FnScope N_are_symbols ["value", "many"] (defScope s_are_symbols) := ⟨rfl, rfl, rfl, by decide +kernel, rfl, by decide +kernel, by decide +kernel⟩
theorem len_are_symbols : ∀ ds h Q E, sp_are_symbols ds h Q E → ds.length = (["value", "many"] : List Str).length := by
  intro ds h Q E s
  first | (obtain ⟨rfl, _⟩ := s; rfl) | (obtain ⟨_, rfl, _⟩ := s; rfl) | (obtain ⟨_, _, rfl, _⟩ := s; rfl) | (obtain ⟨_, _, _, rfl, _⟩ := s; rfl) | (obtain ⟨_, _, _, _, rfl, _⟩ := s; rfl) | (obtain ⟨_, _, _, _, _, rfl, _⟩ := s; rfl) | (obtain ⟨_, _, _, _, _, _, rfl, _⟩ := s; rfl) | (obtain ⟨_, _, _, _, _, _, _, rfl, _⟩ := s; rfl) | (obtain ⟨_, _, _, _, _, _, _, _, rfl, _⟩ := s; rfl) | (obtain ⟨_, _, _, _, _, _, _, _, _, rfl, _⟩ := s; rfl) | (obtain ⟨_, _, _, _, _, _, _, _, _, _, rfl, _⟩ := s; rfl) | (obtain ⟨_, _, _, _, _, _, _, _, _, _, _, rfl, _⟩ := s; rfl) | (obtain ⟨_, _, _, _, _, _, _, _, _, _, _, _, rfl, _⟩ := s; rfl) | (obtain ⟨_, _, _, _, _, _, _, _, _, _, _, _, _, rfl, _⟩ := s; rfl) | (obtain ⟨_, _, _, _, _, _, _, _, _, _, _, _, _, _, rfl, _⟩ := s; rfl) | (obtain ⟨_, _, _, _, _, _, _, _, _, _, _, _, _, _, _, rfl, _⟩ := s; rfl) | (obtain ⟨_, _, _, _, _, _, _, _, _, _, _, _, _, _, _, _, rfl, _⟩ := s; rfl) | (obtain ⟨_, _, _, _, _, _, _, _, _, _, _, _, _, _, _, _, _, rfl, _⟩ := s; rfl) | (unfold sp_are_symbols TB.sp_are_symbols at s; split at s; all_goals first | rfl | exact s.elim) | exact False.elim s | (rcases ds with _ | ⟨_, _ | ⟨_, _ | ⟨_, _⟩⟩⟩ <;> first | rfl | exact False.elim s)
theorem bd_are_symbols (T : Txt P w K mg A) : Binds K A.e_are_symbols ["value", "many"] [] := T.F_are_symbols.binds fun _ _ _ _ _ _ us hl => match us, hl with | [_, _], _ => rfl
theorem ok_are_symbols (T : Txt P w K mg A) (U : Tbt base mg A) : FnM P w K mg base 3 A.f_are_symbols A.e_are_symbols ["value", "many"] sp_are_symbols :=
  fn_m T.F_are_symbols sc_are_symbols (len_are_symbols) fun cdv Ar outer s H E B ds h Q' E' hcd hr tk hsp => ⟨rd_are_symbols , by
    exact (ms_cons (ms_if (mt_w (mw_or (mt_ne hr.units (m_len T.n_len (ma_cons (m_var 0) ma_nil)) (m_var 1)) (mw_or1 (mt_not (mt_val (m_all rfl T.n_all (ma_cons (m_lc (own := [("symbol", 2)]) rfl sc_are_symbols.nd (mi_row (m_var 0)) (show BlkOk N_are_symbols (defScope s_are_symbols) _ [("symbol", 2)] from ⟨rfl, by decide +kernel, by decide +kernel, by decide +kernel, by decide +kernel⟩) put1_ok (fun _ _ _ _ _ => pg_name (i := 2) sc_are_symbols.nd rfl (by first | exact Or.inl rfl | exact Or.inr rfl)) (fun _ _ _ _ _ => mts_nil) (fun _ _ _ _ _ => (m_call (ok_is_integer T U) (hr.mono (by decide)) T.g_is_integer T.F_is_integer.kp (bd_is_integer T) tkF (ma_cons (m_var 2) (ma_cons m_int (ma_cons m_int ma_nil)))))) ma_nil))))))) (ms_one (ms_ret m_bl)) ms_nil)
 (ms_one (ms_ret (m_eq hr.units (m_lenSet rfl T.n_len T.n_set (m_var 0)) (m_var 1))))), pure_are_symbols ds h Q' E' hsp⟩
theorem sc_is_weight : FnScope N_is_weight ["symbol", "weight"] (defScope s_is_weight) := ⟨rfl, rfl, rfl, by decide +kernel, rfl, by decide +kernel, by decide +kernel⟩
theorem len_is_weight : ∀ ds h Q E, sp_is_weight ds h Q E → ds.length = (["symbol", "weight"] : List Str).length := by
  intro ds h Q E s
  first | (obtain ⟨rfl, _⟩ := s; rfl) | (obtain ⟨_, rfl, _⟩ := s; rfl) | (obtain ⟨_, _, rfl, _⟩ := s; rfl) | (obtain ⟨_, _, _, rfl, _⟩ := s; rfl) | (obtain ⟨_, _, _, _, rfl, _⟩ := s; rfl) | (obtain ⟨_, _, _, _, _, rfl, _⟩ := s; rfl) | (obtain ⟨_, _, _, _, _, _, rfl, _⟩ := s; rfl) | (obtain ⟨_, _, _, _, _, _, _, rfl, _⟩ := s; rfl) | (obtain ⟨_, _, _, _, _, _, _, _, rfl, _⟩ := s; rfl) | (obtain ⟨_, _, _, _, _, _, _, _, _, rfl, _⟩ := s; rfl) | (obtain ⟨_, _, _, _, _, _, _, _, _, _, rfl, _⟩ := s; rfl) | (obtain ⟨_, _, _, _, _, _, _, _, _, _, _, rfl, _⟩ := s; rfl) | (obtain ⟨_, _, _, _, _, _, _, _, _, _, _, _, rfl, _⟩ := s; rfl) | (obtain ⟨_, _, _, _, _, _, _, _, _, _, _, _, _, rfl, _⟩ := s; rfl) | (obtain ⟨_, _, _, _, _, _, _, _, _, _, _, _, _, _, rfl, _⟩ := s; rfl) | (obtain ⟨_, _, _, _, _, _, _, _, _, _, _, _, _, _, _, rfl, _⟩ := s; rfl) | (obtain ⟨_, _, _, _, _, _, _, _, _, _, _, _, _, _, _, _, rfl, _⟩ := s; rfl) | (obtain ⟨_, _, _, _, _, _, _, _, _, _, _, _, _, _, _, _, _, rfl, _⟩ := s; rfl) | (unfold sp_is_weight LM.sp_is_weight at s; split at s; all_goals first | rfl | exact s.elim) | exact False.elim s | (rcases ds with _ | ⟨_, _ | ⟨_, _ | ⟨_, _⟩⟩⟩ <;> first | rfl | exact False.elim s)
theorem bd_is_weight (T : Txt P w K mg A) : Binds K A.e_is_weight ["symbol", "weight"] [] := T.F_is_weight.binds fun _ _ _ _ _ _ us hl => match us, hl with | [_, _], _ => rfl
theorem ok_is_weight (T : Txt P w K mg A) (U : Tbt base mg A) : FnM P w K mg base 3 A.f_is_weight A.e_is_weight ["symbol", "weight"] sp_is_weight :=
  fn_m T.F_is_weight sc_is_weight (len_is_weight) fun cdv Ar outer s H E B ds h Q' E' hcd hr tk hsp => ⟨rd_is_weight , by
    exact (ms_one (ms_ret (m_and (m_call (ok_is_integer T U) (hr.mono (by decide)) T.g_is_integer T.F_is_integer.kp (bd_is_integer T) tkF (ma_cons (m_var 0) (ma_cons m_int (ma_cons m_int ma_nil)))) (m_one (m_call (ok_is_integer T U) (hr.mono (by decide)) T.g_is_integer T.F_is_integer.kp (bd_is_integer T) tkF (ma_cons (m_var 1) (ma_cons m_int (ma_cons (m_glob (v := V.int 1000000000000000000) rfl T.c_MOST_WEIGHT ⟨_, rfl⟩ (fun _ => .int _)) ma_nil)))))))), pure_is_weight ds h Q' E' hsp⟩
theorem sc_check_limit : FnScope N_check_limit ["limit"] (defScope s_check_limit) := ⟨rfl, rfl, rfl, by decide +kernel, rfl, by decide +kernel, by decide +kernel⟩
theorem len_check_limit : ∀ ds h Q E, sp_check_limit ds h Q E → ds.length = (["limit"] : List Str).length := by
  intro ds h Q E s
  first | (obtain ⟨rfl, _⟩ := s; rfl) | (obtain ⟨_, rfl, _⟩ := s; rfl) | (obtain ⟨_, _, rfl, _⟩ := s; rfl) | (obtain ⟨_, _, _, rfl, _⟩ := s; rfl) | (obtain ⟨_, _, _, _, rfl, _⟩ := s; rfl) | (obtain ⟨_, _, _, _, _, rfl, _⟩ := s; rfl) | (obtain ⟨_, _, _, _, _, _, rfl, _⟩ := s; rfl) | (obtain ⟨_, _, _, _, _, _, _, rfl, _⟩ := s; rfl) | (obtain ⟨_, _, _, _, _, _, _, _, rfl, _⟩ := s; rfl) | (obtain ⟨_, _, _, _, _, _, _, _, _, rfl, _⟩ := s; rfl) | (obtain ⟨_, _, _, _, _, _, _, _, _, _, rfl, _⟩ := s; rfl) | (obtain ⟨_, _, _, _, _, _, _, _, _, _, _, rfl, _⟩ := s; rfl) | (obtain ⟨_, _, _, _, _, _, _, _, _, _, _, _, rfl, _⟩ := s; rfl) | (obtain ⟨_, _, _, _, _, _, _, _, _, _, _, _, _, rfl, _⟩ := s; rfl) | (obtain ⟨_, _, _, _, _, _, _, _, _, _, _, _, _, _, rfl, _⟩ := s; rfl) | (obtain ⟨_, _, _, _, _, _, _, _, _, _, _, _, _, _, _, rfl, _⟩ := s; rfl) | (obtain ⟨_, _, _, _, _, _, _, _, _, _, _, _, _, _, _, _, rfl, _⟩ := s; rfl) | (obtain ⟨_, _, _, _, _, _, _, _, _, _, _, _, _, _, _, _, _, rfl, _⟩ := s; rfl) | (unfold sp_check_limit LM.sp_check_limit at s; split at s; all_goals first | rfl | exact s.elim) | exact False.elim s | (rcases ds with _ | ⟨_, _ | ⟨_, _⟩⟩ <;> first | rfl | exact False.elim s)
theorem bd_check_limit (T : Txt P w K mg A) : Binds K A.e_check_limit ["limit"] [] := T.F_check_limit.binds fun _ _ _ _ _ _ us hl => match us, hl with | [_], _ => rfl
theorem ok_check_limit (T : Txt P w K mg A) (U : Tbt base mg A) : FnM P w K mg base 3 A.f_check_limit A.e_check_limit ["limit"] sp_check_limit :=
  fn_m T.F_check_limit sc_check_limit (len_check_limit) fun cdv Ar outer s H E B ds h Q' E' hcd hr tk hsp => ⟨rd_check_limit (fun _ => E'), by
    exact (ms_one (ms_if (mt_not (mt_val (m_call (ok_is_integer T U) (hr.mono (by decide)) T.g_is_integer T.F_is_integer.kp (bd_is_integer T) tkF (ma_cons (m_var 0) (ma_cons m_int (ma_cons (m_glob (v := V.int 16) rfl T.c_LONGEST ⟨_, rfl⟩ (fun _ => .int _)) ma_nil)))))) (ms_one (ms_raise rfl T.x_NoLimit (hr.mono (by decide) : Rm 1 _).r tk (ma_cons (m_var 0) ma_nil))) ms_nil)), pure_check_limit ds h Q' E' hsp⟩
theorem sc_check_room : FnScope N_check_room ["weights", "limit"] (defScope s_check_room) := ⟨rfl, rfl, rfl, by decide +kernel, rfl, by decide +kernel, by decide +kernel⟩
theorem len_check_room : ∀ ds h Q E, sp_check_room ds h Q E → ds.length = (["weights", "limit"] : List Str).length := by
  intro ds h Q E s
  first | (obtain ⟨rfl, _⟩ := s; rfl) | (obtain ⟨_, rfl, _⟩ := s; rfl) | (obtain ⟨_, _, rfl, _⟩ := s; rfl) | (obtain ⟨_, _, _, rfl, _⟩ := s; rfl) | (obtain ⟨_, _, _, _, rfl, _⟩ := s; rfl) | (obtain ⟨_, _, _, _, _, rfl, _⟩ := s; rfl) | (obtain ⟨_, _, _, _, _, _, rfl, _⟩ := s; rfl) | (obtain ⟨_, _, _, _, _, _, _, rfl, _⟩ := s; rfl) | (obtain ⟨_, _, _, _, _, _, _, _, rfl, _⟩ := s; rfl) | (obtain ⟨_, _, _, _, _, _, _, _, _, rfl, _⟩ := s; rfl) | (obtain ⟨_, _, _, _, _, _, _, _, _, _, rfl, _⟩ := s; rfl) | (obtain ⟨_, _, _, _, _, _, _, _, _, _, _, rfl, _⟩ := s; rfl) | (obtain ⟨_, _, _, _, _, _, _, _, _, _, _, _, rfl, _⟩ := s; rfl) | (obtain ⟨_, _, _, _, _, _, _, _, _, _, _, _, _, rfl, _⟩ := s; rfl) | (obtain ⟨_, _, _, _, _, _, _, _, _, _, _, _, _, _, rfl, _⟩ := s; rfl) | (obtain ⟨_, _, _, _, _, _, _, _, _, _, _, _, _, _, _, rfl, _⟩ := s; rfl) | (obtain ⟨_, _, _, _, _, _, _, _, _, _, _, _, _, _, _, _, rfl, _⟩ := s; rfl) | (obtain ⟨_, _, _, _, _, _, _, _, _, _, _, _, _, _, _, _, _, rfl, _⟩ := s; rfl) | (unfold sp_check_room LM.sp_check_room at s; split at s; all_goals first | rfl | exact s.elim) | exact False.elim s | (rcases ds with _ | ⟨_, _ | ⟨_, _ | ⟨_, _⟩⟩⟩ <;> first | rfl | exact False.elim s)
theorem bd_check_room (T : Txt P w K mg A) : Binds K A.e_check_room ["weights", "limit"] [] := T.F_check_room.binds fun _ _ _ _ _ _ us hl => match us, hl with | [_, _], _ => rfl
theorem ok_check_room (T : Txt P w K mg A) (U : Tbt base mg A) : FnM P w K mg base 3 A.f_check_room A.e_check_room ["weights", "limit"] sp_check_room :=
  fn_m T.F_check_room sc_check_room (len_check_room) fun cdv Ar outer s H E B ds h Q' E' hcd hr tk hsp => ⟨rd_check_room (fun _ => E'), by
    exact (ms_one (ms_if (mt_ge (m_lenDs T.n_len (ma_cons (m_var 0) ma_nil)) (m_shl m_int (m_var 1))) (ms_one (ms_raise rfl T.x_NoRoom (hr.mono (by decide) : Rm 1 _).r tk (ma_cons (m_var 1) ma_nil))) ms_nil)), pure_check_room ds h Q' E' hsp⟩
theorem sc_rows_of : FnScope N_rows_of ["weights", "limit"] (defScope s_rows_of) := ⟨rfl, rfl, rfl, by decide +kernel, rfl, by decide +kernel, by decide +kernel⟩
theorem len_rows_of : ∀ ds h Q E, sp_rows_of ds h Q E → ds.length = (["weights", "limit"] : List Str).length := by
  intro ds h Q E s
  first | (obtain ⟨rfl, _⟩ := s; rfl) | (obtain ⟨_, rfl, _⟩ := s; rfl) | (obtain ⟨_, _, rfl, _⟩ := s; rfl) | (obtain ⟨_, _, _, rfl, _⟩ := s; rfl) | (obtain ⟨_, _, _, _, rfl, _⟩ := s; rfl) | (obtain ⟨_, _, _, _, _, rfl, _⟩ := s; rfl) | (obtain ⟨_, _, _, _, _, _, rfl, _⟩ := s; rfl) | (obtain ⟨_, _, _, _, _, _, _, rfl, _⟩ := s; rfl) | (obtain ⟨_, _, _, _, _, _, _, _, rfl, _⟩ := s; rfl) | (obtain ⟨_, _, _, _, _, _, _, _, _, rfl, _⟩ := s; rfl) | (obtain ⟨_, _, _, _, _, _, _, _, _, _, rfl, _⟩ := s; rfl) | (obtain ⟨_, _, _, _, _, _, _, _, _, _, _, rfl, _⟩ := s; rfl) | (obtain ⟨_, _, _, _, _, _, _, _, _, _, _, _, rfl, _⟩ := s; rfl) | (obtain ⟨_, _, _, _, _, _, _, _, _, _, _, _, _, rfl, _⟩ := s; rfl) | (obtain ⟨_, _, _, _, _, _, _, _, _, _, _, _, _, _, rfl, _⟩ := s; rfl) | (obtain ⟨_, _, _, _, _, _, _, _, _, _, _, _, _, _, _, rfl, _⟩ := s; rfl) | (obtain ⟨_, _, _, _, _, _, _, _, _, _, _, _, _, _, _, _, rfl, _⟩ := s; rfl) | (obtain ⟨_, _, _, _, _, _, _, _, _, _, _, _, _, _, _, _, _, rfl, _⟩ := s; rfl) | (unfold sp_rows_of LM.sp_rows_of at s; split at s; all_goals first | rfl | exact s.elim) | exact False.elim s | (rcases ds with _ | ⟨_, _ | ⟨_, _ | ⟨_, _⟩⟩⟩ <;> first | rfl | exact False.elim s)
theorem bd_rows_of (T : Txt P w K mg A) : Binds K A.e_rows_of ["weights", "limit"] [] := T.F_rows_of.binds fun _ _ _ _ _ _ us hl => match us, hl with | [_, _], _ => rfl
theorem ok_rows_of (T : Txt P w K mg A) (U : Tbt base mg A) : FnM P w K mg base 3 A.f_rows_of A.e_rows_of ["weights", "limit"] sp_rows_of :=
  fn_m T.F_rows_of sc_rows_of (len_rows_of) fun cdv Ar outer s H E B ds h Q' E' hcd hr tk hsp => ⟨rd_rows_of , by
    exact (ms_cons (ms_set 2 sc_rows_of.nd (m_call (ok_coins_of T U) (hr.mono (by decide)) T.g_coins_of T.F_coins_of.kp (bd_coins_of T) tkF (ma_cons (m_var 0) ma_nil)))
 (ms_cons (ms_set 3 sc_rows_of.nd (m_lstM (ma_cons (m_var 2) ma_nil)))
 (ms_cons (ms_while (passes_of rfl) (mt_lt (m_len T.n_len (ma_cons (m_var 3) ma_nil)) (m_var 1))
 (ms_one (ms_expr (m_mt PySem.F.slot_list_append PySem.F.type_list_append mt_append fAppend_d (m_var 3) (ma_cons (m_sorted T.n_sorted (ma_cons (m_add (m_var 2) (m_call (ok_pairs_of T U) (hr.mono (by decide)) T.g_pairs_of T.F_pairs_of.kp (bd_pairs_of T) tkF (ma_cons (m_ix (m_var 3) (m_neg m_int)) ma_nil))) ma_nil)) ma_nil)))))
 (ms_fz 3 (ms_one (ms_ret (m_revA (m_var 3)))))))), pure_rows_of ds h Q' E' hsp⟩
theorem sc_bits_by : FnScope N_bits_by ["weights", "known"] (defScope s_bits_by) := ⟨rfl, rfl, rfl, by decide +kernel, rfl, by decide +kernel, by decide +kernel⟩
theorem len_bits_by : ∀ ds h Q E, sp_bits_by ds h Q E → ds.length = (["weights", "known"] : List Str).length := by
  intro ds h Q E s
  first | (obtain ⟨rfl, _⟩ := s; rfl) | (obtain ⟨_, rfl, _⟩ := s; rfl) | (obtain ⟨_, _, rfl, _⟩ := s; rfl) | (obtain ⟨_, _, _, rfl, _⟩ := s; rfl) | (obtain ⟨_, _, _, _, rfl, _⟩ := s; rfl) | (obtain ⟨_, _, _, _, _, rfl, _⟩ := s; rfl) | (obtain ⟨_, _, _, _, _, _, rfl, _⟩ := s; rfl) | (obtain ⟨_, _, _, _, _, _, _, rfl, _⟩ := s; rfl) | (obtain ⟨_, _, _, _, _, _, _, _, rfl, _⟩ := s; rfl) | (obtain ⟨_, _, _, _, _, _, _, _, _, rfl, _⟩ := s; rfl) | (obtain ⟨_, _, _, _, _, _, _, _, _, _, rfl, _⟩ := s; rfl) | (obtain ⟨_, _, _, _, _, _, _, _, _, _, _, rfl, _⟩ := s; rfl) | (obtain ⟨_, _, _, _, _, _, _, _, _, _, _, _, rfl, _⟩ := s; rfl) | (obtain ⟨_, _, _, _, _, _, _, _, _, _, _, _, _, rfl, _⟩ := s; rfl) | (obtain ⟨_, _, _, _, _, _, _, _, _, _, _, _, _, _, rfl, _⟩ := s; rfl) | (obtain ⟨_, _, _, _, _, _, _, _, _, _, _, _, _, _, _, rfl, _⟩ := s; rfl) | (obtain ⟨_, _, _, _, _, _, _, _, _, _, _, _, _, _, _, _, rfl, _⟩ := s; rfl) | (obtain ⟨_, _, _, _, _, _, _, _, _, _, _, _, _, _, _, _, _, rfl, _⟩ := s; rfl) | (unfold sp_bits_by LM.sp_bits_by at s; split at s; all_goals first | rfl | exact s.elim) | exact False.elim s | (rcases ds with _ | ⟨_, _ | ⟨_, _ | ⟨_, _⟩⟩⟩ <;> first | rfl | exact False.elim s)
theorem bd_bits_by (T : Txt P w K mg A) : Binds K A.e_bits_by ["weights", "known"] [] := T.F_bits_by.binds fun _ _ _ _ _ _ us hl => match us, hl with | [_, _], _ => rfl
theorem ok_bits_by (T : Txt P w K mg A) (U : Tbt base mg A) : FnM P w K mg base 3 A.f_bits_by A.e_bits_by ["weights", "known"] sp_bits_by :=
  fn_m T.F_bits_by sc_bits_by (len_bits_by) fun cdv Ar outer s H E B ds h Q' E' hcd hr tk hsp => ⟨rd_bits_by (fun _ => E'), by
    exact (ms_cons (ms_for (passes_of rfl) rfl (mi_row (m_sortedDc rfl T.n_sorted (ma_cons (m_var 0) ma_nil))) (mg_name 2 sc_bits_by.nd)
 (ms_one (ms_if (mt_notinDc (Nat.lt_of_le_of_lt (Nat.add_le_add_left (show (1 : Nat) ≤ 64 by decide) _) hr.units) (m_var 2) (m_var 1)) (ms_one (ms_raise rfl T.x_NoSymbol (hr.mono (by decide) : Rm 1 _).r tk (ma_cons (m_var 2) ma_nil))) ms_nil)))
 (ms_one (ms_ret (m_sum rfl T.n_sum (ma_cons (m_lc (own := [("symbol", 2)]) rfl sc_bits_by.nd (mi_keys (m_var 0)) (show BlkOk N_bits_by (defScope s_bits_by) _ [("symbol", 2)] from ⟨rfl, by decide +kernel, by decide +kernel, by decide +kernel, by decide +kernel⟩) put1_ok (fun _ _ _ _ _ => pg_name (i := 2) sc_bits_by.nd rfl (by first | exact Or.inl rfl | exact Or.inr rfl)) (fun _ _ _ _ _ => mts_nil) (fun _ _ _ _ _ => (m_mul (m_getDc (Nat.lt_of_le_of_lt (Nat.add_le_add_left (show (1 : Nat) ≤ 64 by decide) _) hr.units) (m_var 0) (m_var 2)) (m_len T.n_len (ma_cons (m_getDc (Nat.lt_of_le_of_lt (Nat.add_le_add_left (show (1 : Nat) ≤ 64 by decide) _) hr.units) (m_var 1) (m_var 2)) ma_nil))))) ma_nil))))), pure_bits_by ds h Q' E' hsp⟩
theorem sc_law_one : FnScope N_law_one ["_law_source", "_law_some"] (defScope s_law_one) := ⟨rfl, rfl, rfl, by decide +kernel, rfl, by decide +kernel, by decide +kernel⟩
theorem len_law_one : ∀ ds h Q E, sp_law_one ds h Q E → ds.length = (["_law_source", "_law_some"] : List Str).length := by
  intro ds h Q E s
  first | (obtain ⟨rfl, _⟩ := s; rfl) | (obtain ⟨_, rfl, _⟩ := s; rfl) | (obtain ⟨_, _, rfl, _⟩ := s; rfl) | (obtain ⟨_, _, _, rfl, _⟩ := s; rfl) | (obtain ⟨_, _, _, _, rfl, _⟩ := s; rfl) | (obtain ⟨_, _, _, _, _, rfl, _⟩ := s; rfl) | (obtain ⟨_, _, _, _, _, _, rfl, _⟩ := s; rfl) | (obtain ⟨_, _, _, _, _, _, _, rfl, _⟩ := s; rfl) | (obtain ⟨_, _, _, _, _, _, _, _, rfl, _⟩ := s; rfl) | (obtain ⟨_, _, _, _, _, _, _, _, _, rfl, _⟩ := s; rfl) | (obtain ⟨_, _, _, _, _, _, _, _, _, _, rfl, _⟩ := s; rfl) | (obtain ⟨_, _, _, _, _, _, _, _, _, _, _, rfl, _⟩ := s; rfl) | (obtain ⟨_, _, _, _, _, _, _, _, _, _, _, _, rfl, _⟩ := s; rfl) | (obtain ⟨_, _, _, _, _, _, _, _, _, _, _, _, _, rfl, _⟩ := s; rfl) | (obtain ⟨_, _, _, _, _, _, _, _, _, _, _, _, _, _, rfl, _⟩ := s; rfl) | (obtain ⟨_, _, _, _, _, _, _, _, _, _, _, _, _, _, _, rfl, _⟩ := s; rfl) | (obtain ⟨_, _, _, _, _, _, _, _, _, _, _, _, _, _, _, _, rfl, _⟩ := s; rfl) | (obtain ⟨_, _, _, _, _, _, _, _, _, _, _, _, _, _, _, _, _, rfl, _⟩ := s; rfl) | (unfold sp_law_one at s; split at s; all_goals first | rfl | exact s.elim) | exact False.elim s | (rcases ds with _ | ⟨_, _ | ⟨_, _ | ⟨_, _⟩⟩⟩ <;> first | rfl | exact False.elim s)
theorem bd_law_one (T : Txt P w K mg A) : Binds K A.e_law_one ["_law_source", "_law_some"] [] := T.F_law_one.binds fun _ _ _ _ _ _ us hl => match us, hl with | [_, _], _ => rfl
theorem ok_law_one (T : Txt P w K mg A) (U : Tbt base mg A) : FnM P w K mg base 3 A.f_law_one A.e_law_one ["_law_source", "_law_some"] sp_law_one :=
  fn_m T.F_law_one sc_law_one (len_law_one) fun cdv Ar outer s H E B ds h Q' E' hcd hr tk hsp => ⟨rd_law_one , by
    exact (ms_one (ms_ret (m_ix (m_var 1) (m_call (ok_law_next T U) (hr.mono (by decide)) T.g_law_next T.F_law_next.kp (bd_law_next T) tkF (ma_cons (m_var 0) (ma_cons (m_len T.n_len (ma_cons (m_var 1) ma_nil)) ma_nil)))))), pure_law_one ds h Q' E' hsp⟩
theorem sc_table_fault : FnScope N_table_fault ["value"] (defScope s_table_fault) := ⟨rfl, rfl, rfl, by decide +kernel, rfl, by decide +kernel, by decide +kernel⟩
theorem len_table_fault : ∀ ds h Q E, sp_table_fault ds h Q E → ds.length = (["value"] : List Str).length := by
  intro ds h Q E s
  first | (obtain ⟨rfl, _⟩ := s; rfl) | (obtain ⟨_, rfl, _⟩ := s; rfl) | (obtain ⟨_, _, rfl, _⟩ := s; rfl) | (obtain ⟨_, _, _, rfl, _⟩ := s; rfl) | (obtain ⟨_, _, _, _, rfl, _⟩ := s; rfl) | (obtain ⟨_, _, _, _, _, rfl, _⟩ := s; rfl) | (obtain ⟨_, _, _, _, _, _, rfl, _⟩ := s; rfl) | (obtain ⟨_, _, _, _, _, _, _, rfl, _⟩ := s; rfl) | (obtain ⟨_, _, _, _, _, _, _, _, rfl, _⟩ := s; rfl) | (obtain ⟨_, _, _, _, _, _, _, _, _, rfl, _⟩ := s; rfl) | (obtain ⟨_, _, _, _, _, _, _, _, _, _, rfl, _⟩ := s; rfl) | (obtain ⟨_, _, _, _, _, _, _, _, _, _, _, rfl, _⟩ := s; rfl) | (obtain ⟨_, _, _, _, _, _, _, _, _, _, _, _, rfl, _⟩ := s; rfl) | (obtain ⟨_, _, _, _, _, _, _, _, _, _, _, _, _, rfl, _⟩ := s; rfl) | (obtain ⟨_, _, _, _, _, _, _, _, _, _, _, _, _, _, rfl, _⟩ := s; rfl) | (obtain ⟨_, _, _, _, _, _, _, _, _, _, _, _, _, _, _, rfl, _⟩ := s; rfl) | (obtain ⟨_, _, _, _, _, _, _, _, _, _, _, _, _, _, _, _, rfl, _⟩ := s; rfl) | (obtain ⟨_, _, _, _, _, _, _, _, _, _, _, _, _, _, _, _, _, rfl, _⟩ := s; rfl) | (unfold sp_table_fault TB.sp_table_fault at s; split at s; all_goals first | rfl | exact s.elim) | exact False.elim s | (rcases ds with _ | ⟨_, _ | ⟨_, _⟩⟩ <;> first | rfl | exact False.elim s)
theorem bd_table_fault (T : Txt P w K mg A) : Binds K A.e_table_fault ["value"] [] := T.F_table_fault.binds fun _ _ _ _ _ _ us hl => match us, hl with | [_], _ => rfl
theorem ok_table_fault (T : Txt P w K mg A) (U : Tbt base mg A) : FnM P w K mg base 4 A.f_table_fault A.e_table_fault ["value"] sp_table_fault :=
  fn_m T.F_table_fault sc_table_fault (len_table_fault) fun cdv Ar outer s H E B ds h Q' E' hcd hr tk hsp => ⟨rd_table_fault , by
    exact (ms_cons (ms_if (mt_w (mw_or (mt_not (mt_val (m_isi T.n_isinstance (by decide) (m_var 0) (pe_ty T.n_tuple rfl)))) (mw_or (mt_ne hr.units (m_len T.n_len (ma_cons (m_var 0) ma_nil)) m_int) (mw_or1 (mt_not (mt_val (m_all rfl T.n_all (ma_cons (m_lc (own := [("part", 1)]) rfl sc_table_fault.nd (mi_row (m_var 0)) (show BlkOk N_table_fault (defScope s_table_fault) _ [("part", 1)] from ⟨rfl, by decide +kernel, by decide +kernel, by decide +kernel, by decide +kernel⟩) put1_ok (fun _ _ _ _ _ => pg_name (i := 1) sc_table_fault.nd rfl (by first | exact Or.inl rfl | exact Or.inr rfl)) (fun _ _ _ _ _ => mts_nil) (fun _ _ _ _ _ => (m_isi T.n_isinstance (by decide) (m_var 1) (pe_ty T.n_tuple rfl)))) ma_nil)))))))) (ms_one (ms_ret m_str)) ms_nil)
 (ms_cons (ms_if (mt_not (mt_val (m_call (ok_are_counts T U) (hr.mono (by decide)) T.g_are_counts T.F_are_counts.kp (bd_are_counts T) tkF (ma_cons (m_ix (m_var 0) m_int) ma_nil)))) (ms_one (ms_ret m_str)) ms_nil)
 (ms_one (ms_ret (m_if (mt_val (m_call (ok_are_symbols T U) (hr.mono (by decide)) T.g_are_symbols T.F_are_symbols.kp (bd_are_symbols T) tkF (ma_cons (m_ix (m_var 0) m_int) (ma_cons (m_sumA rfl T.n_sum (ma_cons (m_ix (m_var 0) m_int) ma_nil)) ma_nil)))) m_str m_str))))), pure_table_fault ds h Q' E' hsp⟩
theorem sc_fewest_bits : FnScope N_fewest_bits ["weights", "limit"] (defScope s_fewest_bits) := ⟨rfl, rfl, rfl, by decide +kernel, rfl, by decide +kernel, by decide +kernel⟩
theorem len_fewest_bits : ∀ ds h Q E, sp_fewest_bits ds h Q E → ds.length = (["weights", "limit"] : List Str).length := by
  intro ds h Q E s
  first | (obtain ⟨rfl, _⟩ := s; rfl) | (obtain ⟨_, rfl, _⟩ := s; rfl) | (obtain ⟨_, _, rfl, _⟩ := s; rfl) | (obtain ⟨_, _, _, rfl, _⟩ := s; rfl) | (obtain ⟨_, _, _, _, rfl, _⟩ := s; rfl) | (obtain ⟨_, _, _, _, _, rfl, _⟩ := s; rfl) | (obtain ⟨_, _, _, _, _, _, rfl, _⟩ := s; rfl) | (obtain ⟨_, _, _, _, _, _, _, rfl, _⟩ := s; rfl) | (obtain ⟨_, _, _, _, _, _, _, _, rfl, _⟩ := s; rfl) | (obtain ⟨_, _, _, _, _, _, _, _, _, rfl, _⟩ := s; rfl) | (obtain ⟨_, _, _, _, _, _, _, _, _, _, rfl, _⟩ := s; rfl) | (obtain ⟨_, _, _, _, _, _, _, _, _, _, _, rfl, _⟩ := s; rfl) | (obtain ⟨_, _, _, _, _, _, _, _, _, _, _, _, rfl, _⟩ := s; rfl) | (obtain ⟨_, _, _, _, _, _, _, _, _, _, _, _, _, rfl, _⟩ := s; rfl) | (obtain ⟨_, _, _, _, _, _, _, _, _, _, _, _, _, _, rfl, _⟩ := s; rfl) | (obtain ⟨_, _, _, _, _, _, _, _, _, _, _, _, _, _, _, rfl, _⟩ := s; rfl) | (obtain ⟨_, _, _, _, _, _, _, _, _, _, _, _, _, _, _, _, rfl, _⟩ := s; rfl) | (obtain ⟨_, _, _, _, _, _, _, _, _, _, _, _, _, _, _, _, _, rfl, _⟩ := s; rfl) | (unfold sp_fewest_bits LM.sp_fewest_bits at s; split at s; all_goals first | rfl | exact s.elim) | exact False.elim s | (rcases ds with _ | ⟨_, _ | ⟨_, _ | ⟨_, _⟩⟩⟩ <;> first | rfl | exact False.elim s)
theorem bd_fewest_bits (T : Txt P w K mg A) : Binds K A.e_fewest_bits ["weights", "limit"] [] := T.F_fewest_bits.binds fun _ _ _ _ _ _ us hl => match us, hl with | [_, _], _ => rfl
theorem ok_fewest_bits (T : Txt P w K mg A) (U : Tbt base mg A) : FnM P w K mg base 4 A.f_fewest_bits A.e_fewest_bits ["weights", "limit"] sp_fewest_bits :=
  fn_m T.F_fewest_bits sc_fewest_bits (len_fewest_bits) fun cdv Ar outer s H E B ds h Q' E' hcd hr tk hsp => ⟨rd_fewest_bits , by
    exact (ms_one (ms_ret (m_sum rfl T.n_sum (ma_cons (m_sl (m_ix (m_call (ok_rows_of T U) (hr.mono (by decide)) T.g_rows_of T.F_rows_of.kp (bd_rows_of T) tkF (ma_cons (m_var 0) (ma_cons (m_var 1) ma_nil))) m_int) mo_none (mo_some (m_mul m_int (m_lenDs T.n_len (ma_cons (m_var 0) ma_nil))))) ma_nil)))), pure_fewest_bits ds h Q' E' hsp⟩
theorem sc_coins_taken : FnScope N_coins_taken ["weights", "limit"] (defScope s_coins_taken) := ⟨rfl, rfl, rfl, by decide +kernel, rfl, by decide +kernel, by decide +kernel⟩
theorem len_coins_taken : ∀ ds h Q E, sp_coins_taken ds h Q E → ds.length = (["weights", "limit"] : List Str).length := by
  intro ds h Q E s
  first | (obtain ⟨rfl, _⟩ := s; rfl) | (obtain ⟨_, rfl, _⟩ := s; rfl) | (obtain ⟨_, _, rfl, _⟩ := s; rfl) | (obtain ⟨_, _, _, rfl, _⟩ := s; rfl) | (obtain ⟨_, _, _, _, rfl, _⟩ := s; rfl) | (obtain ⟨_, _, _, _, _, rfl, _⟩ := s; rfl) | (obtain ⟨_, _, _, _, _, _, rfl, _⟩ := s; rfl) | (obtain ⟨_, _, _, _, _, _, _, rfl, _⟩ := s; rfl) | (obtain ⟨_, _, _, _, _, _, _, _, rfl, _⟩ := s; rfl) | (obtain ⟨_, _, _, _, _, _, _, _, _, rfl, _⟩ := s; rfl) | (obtain ⟨_, _, _, _, _, _, _, _, _, _, rfl, _⟩ := s; rfl) | (obtain ⟨_, _, _, _, _, _, _, _, _, _, _, rfl, _⟩ := s; rfl) | (obtain ⟨_, _, _, _, _, _, _, _, _, _, _, _, rfl, _⟩ := s; rfl) | (obtain ⟨_, _, _, _, _, _, _, _, _, _, _, _, _, rfl, _⟩ := s; rfl) | (obtain ⟨_, _, _, _, _, _, _, _, _, _, _, _, _, _, rfl, _⟩ := s; rfl) | (obtain ⟨_, _, _, _, _, _, _, _, _, _, _, _, _, _, _, rfl, _⟩ := s; rfl) | (obtain ⟨_, _, _, _, _, _, _, _, _, _, _, _, _, _, _, _, rfl, _⟩ := s; rfl) | (obtain ⟨_, _, _, _, _, _, _, _, _, _, _, _, _, _, _, _, _, rfl, _⟩ := s; rfl) | (unfold sp_coins_taken LM.sp_coins_taken at s; split at s; all_goals first | rfl | exact s.elim) | exact False.elim s | (rcases ds with _ | ⟨_, _ | ⟨_, _ | ⟨_, _⟩⟩⟩ <;> first | rfl | exact False.elim s)
theorem bd_coins_taken (T : Txt P w K mg A) : Binds K A.e_coins_taken ["weights", "limit"] [] := T.F_coins_taken.binds fun _ _ _ _ _ _ us hl => match us, hl with | [_, _], _ => rfl
theorem ok_coins_taken (T : Txt P w K mg A) (U : Tbt base mg A) : FnM P w K mg base 4 A.f_coins_taken A.e_coins_taken ["weights", "limit"] sp_coins_taken :=
  fn_m T.F_coins_taken sc_coins_taken (len_coins_taken) fun cdv Ar outer s H E B ds h Q' E' hcd hr tk hsp => ⟨rd_coins_taken , by
    exact (ms_cons (ms_par 3 4 rfl sc_coins_taken.nd (ma_cons (m_call (ok_coins_of T U) (hr.mono (by decide)) T.g_coins_of T.F_coins_of.kp (bd_coins_of T) tkF (ma_cons (m_var 0) ma_nil)) (ma_cons (m_call (ok_rows_of T U) (hr.mono (by decide)) T.g_rows_of T.F_rows_of.kp (bd_rows_of T) tkF (ma_cons (m_var 0) (ma_cons (m_var 1) ma_nil))) ma_nil)))
 (ms_cons (ms_par 5 6 rfl sc_coins_taken.nd (ma_cons (m_lstM ma_nil) (ma_cons (m_mul m_int (m_lenDs T.n_len (ma_cons (m_var 0) ma_nil))) ma_nil)))
 (ms_cons (ms_for (passes_of rfl) rfl (mi_row (m_add (m_sl (m_var 4) (mo_some m_int) mo_none) (m_lst (ma_cons (m_lst ma_nil) ma_nil)))) (mg_name 2 sc_coins_taken.nd)
 (ms_cons (ms_set 7 sc_coins_taken.nd (m_call (ok_coins_among T U) (hr.mono (by decide)) T.g_coins_among T.F_coins_among.kp (bd_coins_among T) tkF (ma_cons (m_var 3) (ma_cons (m_call (ok_pairs_of T U) (hr.mono (by decide)) T.g_pairs_of T.F_pairs_of.kp (bd_pairs_of T) tkF (ma_cons (m_var 2) ma_nil)) (ma_cons (m_var 6) ma_nil)))))
 (ms_cons (ms_expr (m_mt PySem.F.slot_list_append PySem.F.type_list_append mt_append fAppend_d (m_var 5) (ma_cons (m_var 7) ma_nil)))
 (ms_one (ms_set 6 sc_coins_taken.nd (m_mul m_int (m_sub (m_var 6) (m_var 7))))))))
 (ms_fz 5 (ms_one (ms_ret (m_var 5))))))), pure_coins_taken ds h Q' E' hsp⟩
theorem sc_law_weights : FnScope N_law_weights ["_law_source"] (defScope s_law_weights) := ⟨rfl, rfl, rfl, by decide +kernel, rfl, by decide +kernel, by decide +kernel⟩
theorem len_law_weights : ∀ ds h Q E, sp_law_weights ds h Q E → ds.length = (["_law_source"] : List Str).length := by
  intro ds h Q E s
  first | (obtain ⟨rfl, _⟩ := s; rfl) | (obtain ⟨_, rfl, _⟩ := s; rfl) | (obtain ⟨_, _, rfl, _⟩ := s; rfl) | (obtain ⟨_, _, _, rfl, _⟩ := s; rfl) | (obtain ⟨_, _, _, _, rfl, _⟩ := s; rfl) | (obtain ⟨_, _, _, _, _, rfl, _⟩ := s; rfl) | (obtain ⟨_, _, _, _, _, _, rfl, _⟩ := s; rfl) | (obtain ⟨_, _, _, _, _, _, _, rfl, _⟩ := s; rfl) | (obtain ⟨_, _, _, _, _, _, _, _, rfl, _⟩ := s; rfl) | (obtain ⟨_, _, _, _, _, _, _, _, _, rfl, _⟩ := s; rfl) | (obtain ⟨_, _, _, _, _, _, _, _, _, _, rfl, _⟩ := s; rfl) | (obtain ⟨_, _, _, _, _, _, _, _, _, _, _, rfl, _⟩ := s; rfl) | (obtain ⟨_, _, _, _, _, _, _, _, _, _, _, _, rfl, _⟩ := s; rfl) | (obtain ⟨_, _, _, _, _, _, _, _, _, _, _, _, _, rfl, _⟩ := s; rfl) | (obtain ⟨_, _, _, _, _, _, _, _, _, _, _, _, _, _, rfl, _⟩ := s; rfl) | (obtain ⟨_, _, _, _, _, _, _, _, _, _, _, _, _, _, _, rfl, _⟩ := s; rfl) | (obtain ⟨_, _, _, _, _, _, _, _, _, _, _, _, _, _, _, _, rfl, _⟩ := s; rfl) | (obtain ⟨_, _, _, _, _, _, _, _, _, _, _, _, _, _, _, _, _, rfl, _⟩ := s; rfl) | (unfold sp_law_weights at s; split at s; all_goals first | rfl | exact s.elim) | exact False.elim s | (rcases ds with _ | ⟨_, _ | ⟨_, _⟩⟩ <;> first | rfl | exact False.elim s)
theorem bd_law_weights (T : Txt P w K mg A) : Binds K A.e_law_weights ["_law_source"] [] := T.F_law_weights.binds fun _ _ _ _ _ _ us hl => match us, hl with | [_], _ => rfl
theorem ok_law_weights (T : Txt P w K mg A) (U : Tbt base mg A) : FnM P w K mg base 4 A.f_law_weights A.e_law_weights ["_law_source"] sp_law_weights :=
  fn_m T.F_law_weights sc_law_weights (len_law_weights) fun cdv Ar outer s H E B ds h Q' E' hcd hr tk hsp => ⟨rd_law_weights , by
    exact (ms_cons (ms_par 2 3 rfl sc_law_weights.nd (ma_cons (m_add (m_call (ok_law_one T U) (hr.mono (by decide)) T.g_law_one T.F_law_one.kp (bd_law_one T) tkF (ma_cons (m_var 0) (ma_cons (m_lst (ma_cons m_int (ma_cons m_int (ma_cons m_int (ma_cons m_int (ma_cons m_int (ma_cons m_int ma_nil))))))) ma_nil))) (m_call (ok_law_next T U) (hr.mono (by decide)) T.g_law_next T.F_law_next.kp (bd_law_next T) tkF (ma_cons (m_var 0) (ma_cons m_int ma_nil)))) (ma_cons (m_call (ok_law_next T U) (hr.mono (by decide)) T.g_law_next T.F_law_next.kp (bd_law_next T) tkF (ma_cons (m_var 0) (ma_cons m_int ma_nil))) ma_nil)))
 (ms_cons (ms_par3 4 5 6 rfl sc_law_weights.nd (ma_cons (m_lstRgM rfl T.n_list (mr_1 T.n_range m_int)) (ma_cons m_dct0M (ma_cons (m_lst (ma_cons m_int (ma_cons m_int ma_nil))) ma_nil))))
 (ms_cons (ms_for (passes_of rfl) rfl (mi_range1 T.n_range (m_var 2)) (mg_name 1 sc_law_weights.nd)
 (ms_cons (ms_set 6 sc_law_weights.nd (m_lst (ma_cons (m_ix (m_var 6) m_int) (ma_cons (m_min2 rfl T.n_min (ma_cons (m_add (m_ix (m_var 6) m_int) (m_ix (m_var 6) m_int)) (ma_cons (m_pow m_int m_int) ma_nil))) ma_nil))))
 (ms_cons (ms_set 7 sc_law_weights.nd (m_add m_int (m_mul (m_call (ok_law_next T U) (hr.mono (by decide)) T.g_law_next T.F_law_next.kp (bd_law_next T) tkF (ma_cons (m_var 0) (ma_cons (m_pow m_int m_int) ma_nil))) (m_call (ok_law_one T U) (hr.mono (by decide)) T.g_law_one T.F_law_one.kp (bd_law_one T) tkF (ma_cons (m_var 0) (ma_cons (m_lst (ma_cons m_int (ma_cons m_int (ma_cons m_int (ma_cons (m_pow m_int m_int) ma_nil))))) ma_nil))))))
 (ms_cons (ms_set 8 sc_law_weights.nd (m_ix (m_lst (ma_cons (m_var 7) (ma_cons (m_shl m_int (m_min2 rfl T.n_min (ma_cons (m_var 1) (ma_cons m_int ma_nil)))) (ma_cons (m_ix (m_var 6) m_int) (ma_cons (m_add m_int (m_call (ok_law_next T U) (hr.mono (by decide)) T.g_law_next T.F_law_next.kp (bd_law_next T) tkF (ma_cons (m_var 0) (ma_cons m_int ma_nil)))) ma_nil))))) (m_var 3)))
 (ms_one (ms_putDc (Nat.lt_of_le_of_lt (Nat.add_le_add_left (show (1 : Nat) ≤ 64 by decide) _) hr.units) (m_var 5) (m_mt PySem.F.slot_list_pop PySem.F.type_list_pop mt_popAt fPopAt_d (m_var 4) (ma_cons (m_call (ok_law_next T U) (hr.mono (by decide)) T.g_law_next T.F_law_next.kp (bd_law_next T) tkF (ma_cons (m_var 0) (ma_cons (m_len T.n_len (ma_cons (m_var 4) ma_nil)) ma_nil))) ma_nil)) (m_min2 rfl T.n_min (ma_cons (m_var 8) (ma_cons (m_pow m_int m_int) ma_nil)))))))))
 (ms_fz 4 (ms_fzL 5 (ms_one (ms_ret (m_var 5)))))))), pure_law_weights ds h Q' E' hsp⟩
theorem sc_is_table : FnScope N_is_table ["value"] (defScope s_is_table) := ⟨rfl, rfl, rfl, by decide +kernel, rfl, by decide +kernel, by decide +kernel⟩
theorem len_is_table : ∀ ds h Q E, sp_is_table ds h Q E → ds.length = (["value"] : List Str).length := by
  intro ds h Q E s
  first | (obtain ⟨rfl, _⟩ := s; rfl) | (obtain ⟨_, rfl, _⟩ := s; rfl) | (obtain ⟨_, _, rfl, _⟩ := s; rfl) | (obtain ⟨_, _, _, rfl, _⟩ := s; rfl) | (obtain ⟨_, _, _, _, rfl, _⟩ := s; rfl) | (obtain ⟨_, _, _, _, _, rfl, _⟩ := s; rfl) | (obtain ⟨_, _, _, _, _, _, rfl, _⟩ := s; rfl) | (obtain ⟨_, _, _, _, _, _, _, rfl, _⟩ := s; rfl) | (obtain ⟨_, _, _, _, _, _, _, _, rfl, _⟩ := s; rfl) | (obtain ⟨_, _, _, _, _, _, _, _, _, rfl, _⟩ := s; rfl) | (obtain ⟨_, _, _, _, _, _, _, _, _, _, rfl, _⟩ := s; rfl) | (obtain ⟨_, _, _, _, _, _, _, _, _, _, _, rfl, _⟩ := s; rfl) | (obtain ⟨_, _, _, _, _, _, _, _, _, _, _, _, rfl, _⟩ := s; rfl) | (obtain ⟨_, _, _, _, _, _, _, _, _, _, _, _, _, rfl, _⟩ := s; rfl) | (obtain ⟨_, _, _, _, _, _, _, _, _, _, _, _, _, _, rfl, _⟩ := s; rfl) | (obtain ⟨_, _, _, _, _, _, _, _, _, _, _, _, _, _, _, rfl, _⟩ := s; rfl) | (obtain ⟨_, _, _, _, _, _, _, _, _, _, _, _, _, _, _, _, rfl, _⟩ := s; rfl) | (obtain ⟨_, _, _, _, _, _, _, _, _, _, _, _, _, _, _, _, _, rfl, _⟩ := s; rfl) | (unfold sp_is_table TB.sp_is_table at s; split at s; all_goals first | rfl | exact s.elim) | exact False.elim s | (rcases ds with _ | ⟨_, _ | ⟨_, _⟩⟩ <;> first | rfl | exact False.elim s)
theorem bd_is_table (T : Txt P w K mg A) : Binds K A.e_is_table ["value"] [] := T.F_is_table.binds fun _ _ _ _ _ _ us hl => match us, hl with | [_], _ => rfl
theorem ok_is_table (T : Txt P w K mg A) (U : Tbt base mg A) : FnM P w K mg base 5 A.f_is_table A.e_is_table ["value"] sp_is_table :=
  fn_m T.F_is_table sc_is_table (len_is_table) fun cdv Ar outer s H E B ds h Q' E' hcd hr tk hsp => ⟨rd_is_table , by
    exact (ms_one (ms_ret (m_eq hr.units (m_call (ok_table_fault T U) (hr.mono (by decide)) T.g_table_fault T.F_table_fault.kp (bd_table_fault T) tkF (ma_cons (m_var 0) ma_nil)) m_str))), pure_is_table ds h Q' E' hsp⟩
theorem sc_check_table : FnScope N_check_table ["table"] (defScope s_check_table) := ⟨rfl, rfl, rfl, by decide +kernel, rfl, by decide +kernel, by decide +kernel⟩
theorem len_check_table : ∀ ds h Q E, sp_check_table ds h Q E → ds.length = (["table"] : List Str).length := by
  intro ds h Q E s
  first | (obtain ⟨rfl, _⟩ := s; rfl) | (obtain ⟨_, rfl, _⟩ := s; rfl) | (obtain ⟨_, _, rfl, _⟩ := s; rfl) | (obtain ⟨_, _, _, rfl, _⟩ := s; rfl) | (obtain ⟨_, _, _, _, rfl, _⟩ := s; rfl) | (obtain ⟨_, _, _, _, _, rfl, _⟩ := s; rfl) | (obtain ⟨_, _, _, _, _, _, rfl, _⟩ := s; rfl) | (obtain ⟨_, _, _, _, _, _, _, rfl, _⟩ := s; rfl) | (obtain ⟨_, _, _, _, _, _, _, _, rfl, _⟩ := s; rfl) | (obtain ⟨_, _, _, _, _, _, _, _, _, rfl, _⟩ := s; rfl) | (obtain ⟨_, _, _, _, _, _, _, _, _, _, rfl, _⟩ := s; rfl) | (obtain ⟨_, _, _, _, _, _, _, _, _, _, _, rfl, _⟩ := s; rfl) | (obtain ⟨_, _, _, _, _, _, _, _, _, _, _, _, rfl, _⟩ := s; rfl) | (obtain ⟨_, _, _, _, _, _, _, _, _, _, _, _, _, rfl, _⟩ := s; rfl) | (obtain ⟨_, _, _, _, _, _, _, _, _, _, _, _, _, _, rfl, _⟩ := s; rfl) | (obtain ⟨_, _, _, _, _, _, _, _, _, _, _, _, _, _, _, rfl, _⟩ := s; rfl) | (obtain ⟨_, _, _, _, _, _, _, _, _, _, _, _, _, _, _, _, rfl, _⟩ := s; rfl) | (obtain ⟨_, _, _, _, _, _, _, _, _, _, _, _, _, _, _, _, _, rfl, _⟩ := s; rfl) | (unfold sp_check_table TB.sp_check_table at s; split at s; all_goals first | rfl | exact s.elim) | exact False.elim s | (rcases ds with _ | ⟨_, _ | ⟨_, _⟩⟩ <;> first | rfl | exact False.elim s)
theorem bd_check_table (T : Txt P w K mg A) : Binds K A.e_check_table ["table"] [] := T.F_check_table.binds fun _ _ _ _ _ _ us hl => match us, hl with | [_], _ => rfl
theorem ok_check_table (T : Txt P w K mg A) (U : Tbt base mg A) : FnM P w K mg base 5 A.f_check_table A.e_check_table ["table"] sp_check_table :=
  fn_m T.F_check_table sc_check_table (len_check_table) fun cdv Ar outer s H E B ds h Q' E' hcd hr tk hsp => ⟨rd_check_table (fun _ => E'), by
    exact (ms_cons (ms_set 1 sc_check_table.nd (m_call (ok_table_fault T U) (hr.mono (by decide)) T.g_table_fault T.F_table_fault.kp (bd_table_fault T) tkF (ma_cons (m_var 0) ma_nil)))
 (ms_one (ms_if (mt_ne hr.units (m_var 1) m_str) (ms_one (ms_raise rfl T.x_NoTable (hr.mono (by decide) : Rm 1 _).r tk (ma_cons (m_var 1) ma_nil))) ms_nil))), pure_check_table ds h Q' E' hsp⟩
theorem sc_check_weights : FnScope N_check_weights ["weights"] (defScope s_check_weights) := ⟨rfl, rfl, rfl, by decide +kernel, rfl, by decide +kernel, by decide +kernel⟩
theorem len_check_weights (A : Ad) : ∀ ds h Q E, (sp_check_weights A) ds h Q E → ds.length = (["weights"] : List Str).length := by
  intro ds h Q E s
  first | (obtain ⟨rfl, _⟩ := s; rfl) | (obtain ⟨_, rfl, _⟩ := s; rfl) | (obtain ⟨_, _, rfl, _⟩ := s; rfl) | (obtain ⟨_, _, _, rfl, _⟩ := s; rfl) | (obtain ⟨_, _, _, _, rfl, _⟩ := s; rfl) | (obtain ⟨_, _, _, _, _, rfl, _⟩ := s; rfl) | (obtain ⟨_, _, _, _, _, _, rfl, _⟩ := s; rfl) | (obtain ⟨_, _, _, _, _, _, _, rfl, _⟩ := s; rfl) | (obtain ⟨_, _, _, _, _, _, _, _, rfl, _⟩ := s; rfl) | (obtain ⟨_, _, _, _, _, _, _, _, _, rfl, _⟩ := s; rfl) | (obtain ⟨_, _, _, _, _, _, _, _, _, _, rfl, _⟩ := s; rfl) | (obtain ⟨_, _, _, _, _, _, _, _, _, _, _, rfl, _⟩ := s; rfl) | (obtain ⟨_, _, _, _, _, _, _, _, _, _, _, _, rfl, _⟩ := s; rfl) | (obtain ⟨_, _, _, _, _, _, _, _, _, _, _, _, _, rfl, _⟩ := s; rfl) | (obtain ⟨_, _, _, _, _, _, _, _, _, _, _, _, _, _, rfl, _⟩ := s; rfl) | (obtain ⟨_, _, _, _, _, _, _, _, _, _, _, _, _, _, _, rfl, _⟩ := s; rfl) | (obtain ⟨_, _, _, _, _, _, _, _, _, _, _, _, _, _, _, _, rfl, _⟩ := s; rfl) | (obtain ⟨_, _, _, _, _, _, _, _, _, _, _, _, _, _, _, _, _, rfl, _⟩ := s; rfl) | (unfold sp_check_weights at s; split at s; all_goals first | rfl | exact s.elim) | exact False.elim s | (rcases ds with _ | ⟨_, _ | ⟨_, _⟩⟩ <;> first | rfl | exact False.elim s)
theorem bd_check_weights (T : Txt P w K mg A) : Binds K A.e_check_weights ["weights"] [] := T.F_check_weights.binds fun _ _ _ _ _ _ us hl => match us, hl with | [_], _ => rfl
theorem ok_check_weights (T : Txt P w K mg A) (U : Tbt base mg A) : FnM P w K mg base 5 A.f_check_weights A.e_check_weights ["weights"] (sp_check_weights A) :=
  fn_m T.F_check_weights sc_check_weights (len_check_weights A) fun cdv Ar outer s H E B ds h Q' E' hcd hr tk hsp => ⟨rd_check_weights A (fun _ => E'), by
    exact (ms_cons (ms_if (mt_not (mt_val (m_isi T.n_isinstance (by decide) (m_var 0) (pe_ty T.n_dict rfl)))) (ms_one (ms_raise rfl T.x_NoWeights (hr.mono (by decide) : Rm 1 _).r tk (ma_cons m_non ma_nil))) ms_nil)
 (ms_one (ms_for (passes_of rfl) rfl (mi_row (m_sortK (k := 1) (y := "one") T.n_sorted U.t_check_weights (T.cd_check_weights ▸ hcd ▸ rfl) rfl (hr.mono (by decide)) (show lamGB N_check_weights (defScope s_check_weights) _ = true from by decide +kernel) (by decide +kernel) (fun A2 o2 s2 H2 E2 f2 c2 B2 hr => (m_repr hr.g hr.more T.n_repr (ma_cons (m_var 2) ma_nil))) (ma_cons (m_var 0) ma_nil))) (mg_name 1 sc_check_weights.nd)
 (ms_one (ms_if (mt_not (mt_val (m_call (ok_is_weight T U) (hr.mono (by decide)) T.g_is_weight T.F_is_weight.kp (bd_is_weight T) tkF (ma_cons (m_var 1) (ma_cons (m_getDc (Nat.lt_of_le_of_lt (Nat.add_le_add_left (show (1 : Nat) ≤ 64 by decide) _) hr.units) (m_var 0) (m_var 1)) ma_nil))))) (ms_one (ms_raise rfl T.x_NoWeights (hr.mono (by decide) : Rm 1 _).r tk (ma_cons (m_var 1) ma_nil))) ms_nil))))), pure_check_weights ds h Q' E' A hsp⟩
theorem sc_codes : FnScope N_codes ["table"] (defScope s_codes) := ⟨rfl, rfl, rfl, by decide +kernel, rfl, by decide +kernel, by decide +kernel⟩
theorem len_codes : ∀ ds h Q E, sp_codes ds h Q E → ds.length = (["table"] : List Str).length := by
  intro ds h Q E s
  first | (obtain ⟨rfl, _⟩ := s; rfl) | (obtain ⟨_, rfl, _⟩ := s; rfl) | (obtain ⟨_, _, rfl, _⟩ := s; rfl) | (obtain ⟨_, _, _, rfl, _⟩ := s; rfl) | (obtain ⟨_, _, _, _, rfl, _⟩ := s; rfl) | (obtain ⟨_, _, _, _, _, rfl, _⟩ := s; rfl) | (obtain ⟨_, _, _, _, _, _, rfl, _⟩ := s; rfl) | (obtain ⟨_, _, _, _, _, _, _, rfl, _⟩ := s; rfl) | (obtain ⟨_, _, _, _, _, _, _, _, rfl, _⟩ := s; rfl) | (obtain ⟨_, _, _, _, _, _, _, _, _, rfl, _⟩ := s; rfl) | (obtain ⟨_, _, _, _, _, _, _, _, _, _, rfl, _⟩ := s; rfl) | (obtain ⟨_, _, _, _, _, _, _, _, _, _, _, rfl, _⟩ := s; rfl) | (obtain ⟨_, _, _, _, _, _, _, _, _, _, _, _, rfl, _⟩ := s; rfl) | (obtain ⟨_, _, _, _, _, _, _, _, _, _, _, _, _, rfl, _⟩ := s; rfl) | (obtain ⟨_, _, _, _, _, _, _, _, _, _, _, _, _, _, rfl, _⟩ := s; rfl) | (obtain ⟨_, _, _, _, _, _, _, _, _, _, _, _, _, _, _, rfl, _⟩ := s; rfl) | (obtain ⟨_, _, _, _, _, _, _, _, _, _, _, _, _, _, _, _, rfl, _⟩ := s; rfl) | (obtain ⟨_, _, _, _, _, _, _, _, _, _, _, _, _, _, _, _, _, rfl, _⟩ := s; rfl) | (unfold sp_codes TB.sp_codes at s; split at s; all_goals first | rfl | exact s.elim) | exact False.elim s | (rcases ds with _ | ⟨_, _ | ⟨_, _⟩⟩ <;> first | rfl | exact False.elim s)
theorem bd_codes (T : Txt P w K mg A) : Binds K A.e_codes ["table"] [] := T.F_codes.binds fun _ _ _ _ _ _ us hl => match us, hl with | [_], _ => rfl
theorem ok_codes (T : Txt P w K mg A) (U : Tbt base mg A) : FnM P w K mg base 6 A.f_codes A.e_codes ["table"] sp_codes :=
  fn_m T.F_codes sc_codes (len_codes) fun cdv Ar outer s H E B ds h Q' E' hcd hr tk hsp => ⟨rd_codes (fun _ => E'), by
    exact (ms_cons (ms_expr (m_call (ok_check_table T U) (hr.mono (by decide)) T.g_check_table T.F_check_table.kp (bd_check_table T) tk (ma_cons (m_var 0) ma_nil)))
 (ms_cons (ms_par3 1 2 3 rfl sc_codes.nd (ma_cons m_dct0M (ma_cons m_int (ma_cons m_int ma_nil))))
 (ms_cons (ms_for (passes_of rfl) rfl (mi_enumS T.n_enumerate (m_ix (m_var 0) m_int)) (mg_tup rfl (mgs_cons (mg_name 4 sc_codes.nd) (mgs_cons (mg_name 5 sc_codes.nd) mgs_nil)))
 (ms_cons (ms_set 2 sc_codes.nd (m_shl (m_var 2) m_int))
 (ms_cons (ms_for (passes_of rfl) rfl (mi_row (m_sl (m_ix (m_var 0) m_int) (mo_some (m_var 3)) (mo_some (m_add (m_var 3) (m_var 5))))) (mg_name 6 sc_codes.nd)
 (ms_cons (ms_putDc (Nat.lt_of_le_of_lt (Nat.add_le_add_left (show (1 : Nat) ≤ 64 by decide) _) hr.units) (m_var 1) (m_var 6) (m_call (ok_bits_as T U) (hr.mono (by decide)) T.g_bits_as T.F_bits_as.kp (bd_bits_as T) tkF (ma_cons (m_var 2) (ma_cons (m_var 4) ma_nil))))
 (ms_one (ms_aug 2 sc_codes.nd m_int ip_add))))
 (ms_one (ms_aug 3 sc_codes.nd (m_var 5) ip_add)))))
 (ms_one (ms_ret (m_var 1)))))), pure_codes ds h Q' E' hsp⟩
theorem sc_check_all : FnScope N_check_all ["weights", "limit"] (defScope s_check_all) := ⟨rfl, rfl, rfl, by decide +kernel, rfl, by decide +kernel, by decide +kernel⟩
theorem len_check_all (A : Ad) : ∀ ds h Q E, (sp_check_all A) ds h Q E → ds.length = (["weights", "limit"] : List Str).length := by
  intro ds h Q E s
  first | (obtain ⟨rfl, _⟩ := s; rfl) | (obtain ⟨_, rfl, _⟩ := s; rfl) | (obtain ⟨_, _, rfl, _⟩ := s; rfl) | (obtain ⟨_, _, _, rfl, _⟩ := s; rfl) | (obtain ⟨_, _, _, _, rfl, _⟩ := s; rfl) | (obtain ⟨_, _, _, _, _, rfl, _⟩ := s; rfl) | (obtain ⟨_, _, _, _, _, _, rfl, _⟩ := s; rfl) | (obtain ⟨_, _, _, _, _, _, _, rfl, _⟩ := s; rfl) | (obtain ⟨_, _, _, _, _, _, _, _, rfl, _⟩ := s; rfl) | (obtain ⟨_, _, _, _, _, _, _, _, _, rfl, _⟩ := s; rfl) | (obtain ⟨_, _, _, _, _, _, _, _, _, _, rfl, _⟩ := s; rfl) | (obtain ⟨_, _, _, _, _, _, _, _, _, _, _, rfl, _⟩ := s; rfl) | (obtain ⟨_, _, _, _, _, _, _, _, _, _, _, _, rfl, _⟩ := s; rfl) | (obtain ⟨_, _, _, _, _, _, _, _, _, _, _, _, _, rfl, _⟩ := s; rfl) | (obtain ⟨_, _, _, _, _, _, _, _, _, _, _, _, _, _, rfl, _⟩ := s; rfl) | (obtain ⟨_, _, _, _, _, _, _, _, _, _, _, _, _, _, _, rfl, _⟩ := s; rfl) | (obtain ⟨_, _, _, _, _, _, _, _, _, _, _, _, _, _, _, _, rfl, _⟩ := s; rfl) | (obtain ⟨_, _, _, _, _, _, _, _, _, _, _, _, _, _, _, _, _, rfl, _⟩ := s; rfl) | (unfold sp_check_all at s; split at s; all_goals first | rfl | exact s.elim) | exact False.elim s | (rcases ds with _ | ⟨_, _ | ⟨_, _ | ⟨_, _⟩⟩⟩ <;> first | rfl | exact False.elim s)
theorem bd_check_all (T : Txt P w K mg A) : Binds K A.e_check_all ["weights", "limit"] [] := T.F_check_all.binds fun _ _ _ _ _ _ us hl => match us, hl with | [_, _], _ => rfl
theorem ok_check_all (T : Txt P w K mg A) (U : Tbt base mg A) : FnM P w K mg base 6 A.f_check_all A.e_check_all ["weights", "limit"] (sp_check_all A) :=
  fn_m T.F_check_all sc_check_all (len_check_all A) fun cdv Ar outer s H E B ds h Q' E' hcd hr tk hsp => ⟨rd_check_all A (fun _ => E'), by
    exact (ms_cons (ms_expr (m_call (ok_check_weights T U) (hr.mono (by decide)) T.g_check_weights T.F_check_weights.kp (bd_check_weights T) tk (ma_cons (m_var 0) ma_nil)))
 (ms_cons (ms_expr (m_call (ok_check_limit T U) (hr.mono (by decide)) T.g_check_limit T.F_check_limit.kp (bd_check_limit T) tk (ma_cons (m_var 1) ma_nil)))
 (ms_one (ms_expr (m_call (ok_check_room T U) (hr.mono (by decide)) T.g_check_room T.F_check_room.kp (bd_check_room T) tk (ma_cons (m_var 0) (ma_cons (m_var 1) ma_nil))))))), pure_check_all ds h Q' E' A hsp⟩
theorem sc_by_limits : FnScope N_by_limits ["weights"] (defScope s_by_limits) := ⟨rfl, rfl, rfl, by decide +kernel, rfl, by decide +kernel, by decide +kernel⟩
theorem len_by_limits (A : Ad) : ∀ ds h Q E, (sp_by_limits A) ds h Q E → ds.length = (["weights"] : List Str).length := by
  intro ds h Q E s
  first | (obtain ⟨rfl, _⟩ := s; rfl) | (obtain ⟨_, rfl, _⟩ := s; rfl) | (obtain ⟨_, _, rfl, _⟩ := s; rfl) | (obtain ⟨_, _, _, rfl, _⟩ := s; rfl) | (obtain ⟨_, _, _, _, rfl, _⟩ := s; rfl) | (obtain ⟨_, _, _, _, _, rfl, _⟩ := s; rfl) | (obtain ⟨_, _, _, _, _, _, rfl, _⟩ := s; rfl) | (obtain ⟨_, _, _, _, _, _, _, rfl, _⟩ := s; rfl) | (obtain ⟨_, _, _, _, _, _, _, _, rfl, _⟩ := s; rfl) | (obtain ⟨_, _, _, _, _, _, _, _, _, rfl, _⟩ := s; rfl) | (obtain ⟨_, _, _, _, _, _, _, _, _, _, rfl, _⟩ := s; rfl) | (obtain ⟨_, _, _, _, _, _, _, _, _, _, _, rfl, _⟩ := s; rfl) | (obtain ⟨_, _, _, _, _, _, _, _, _, _, _, _, rfl, _⟩ := s; rfl) | (obtain ⟨_, _, _, _, _, _, _, _, _, _, _, _, _, rfl, _⟩ := s; rfl) | (obtain ⟨_, _, _, _, _, _, _, _, _, _, _, _, _, _, rfl, _⟩ := s; rfl) | (obtain ⟨_, _, _, _, _, _, _, _, _, _, _, _, _, _, _, rfl, _⟩ := s; rfl) | (obtain ⟨_, _, _, _, _, _, _, _, _, _, _, _, _, _, _, _, rfl, _⟩ := s; rfl) | (obtain ⟨_, _, _, _, _, _, _, _, _, _, _, _, _, _, _, _, _, rfl, _⟩ := s; rfl) | (unfold sp_by_limits at s; split at s; all_goals first | rfl | exact s.elim) | exact False.elim s | (rcases ds with _ | ⟨_, _ | ⟨_, _⟩⟩ <;> first | rfl | exact False.elim s)
theorem bd_by_limits (T : Txt P w K mg A) : Binds K A.e_by_limits ["weights"] [] := T.F_by_limits.binds fun _ _ _ _ _ _ us hl => match us, hl with | [_], _ => rfl
theorem kw_by_limits_weights (T : Txt P w K mg A) : KwB K A.e_by_limits ["weights"] ["weights"] g_kw_by_limits_weights := by
  obtain ⟨oc, od, kV, doc, pm, an, cdv, ct, osl, e, lk, hcd⟩ := T.F_by_limits.ex
  rw [e]
  refine ⟨fun s ws _ hl => ?_, fun r => ?_, fun r => ?_⟩
  · match ws, hl with
    | [_], _ => exact .of_eq rfl
  · exact match r with
    | .nil => .nil
    | (.cons v0 .nil) => (.cons v0 .nil)
    | (.cons v0 (.cons w r)) => (.cons v0 (.cons w r))
  · exact match r with
    | .nil => .nil
    | (.cons v0 .nil) => (.cons v0 .nil)
    | (.cons v0 (.cons w r)) => (.cons v0 (.cons w r))
theorem ok_by_limits (T : Txt P w K mg A) (U : Tbt base mg A) : FnM P w K mg base 6 A.f_by_limits A.e_by_limits ["weights"] (sp_by_limits A) :=
  fn_m T.F_by_limits sc_by_limits (len_by_limits A) fun cdv Ar outer s H E B ds h Q' E' hcd hr tk hsp => ⟨rd_by_limits A (fun _ => E'), by
    exact (ms_cons (ms_expr (m_call (ok_check_weights T U) (hr.mono (by decide)) T.g_check_weights T.F_check_weights.kp (bd_check_weights T) tk (ma_cons (m_var 0) ma_nil)))
 (ms_cons (ms_setLc 1 (own := [("limit", 2)]) rfl sc_by_limits.nd (mi_range2 T.n_range m_int (m_add (m_glob (v := V.int 16) rfl T.c_LONGEST ⟨_, rfl⟩ (fun _ => .int _)) m_int)) (show BlkOk N_by_limits (defScope s_by_limits) _ [("limit", 2)] from ⟨rfl, by decide +kernel, by decide +kernel, by decide +kernel, by decide +kernel⟩) put1_ok (fun _ _ _ _ _ => pg_name (i := 2) sc_by_limits.nd rfl (by first | exact Or.inl rfl | exact Or.inr rfl)) (fun _ _ _ _ _ => (mts_one (mt_lt (m_lenDs T.n_len (ma_cons (m_var 0) ma_nil)) (m_shl m_int (m_var 2))))) (fun _ _ _ _ _ => (m_var 2)))
 (ms_one (ms_ret (m_lcM (own := [("limit", 2)]) rfl sc_by_limits.nd (mi_row (m_var 1)) (show BlkOk N_by_limits (defScope s_by_limits) _ [("limit", 2)] from ⟨rfl, by decide +kernel, by decide +kernel, by decide +kernel, by decide +kernel⟩) put1_ok (fun _ _ _ _ _ => pg_name (i := 2) sc_by_limits.nd rfl (by first | exact Or.inl rfl | exact Or.inr rfl)) (fun _ _ _ _ _ => mts_nil) (fun _ _ _ _ _ => (m_tup (ma_cons (m_var 2) (ma_cons (m_call (ok_fewest_bits T U) (hr.mono (by decide)) T.g_fewest_bits T.F_fewest_bits.kp (bd_fewest_bits T) tkF (ma_cons (m_var 0) (ma_cons (m_var 2) ma_nil))) ma_nil))))))))), pure_by_limits ds h Q' E' A hsp⟩
theorem sc_least_bits : FnScope N_least_bits ["weights", "limit"] (defScope s_least_bits) := ⟨rfl, rfl, rfl, by decide +kernel, rfl, by decide +kernel, by decide +kernel⟩
theorem len_least_bits (A : Ad) : ∀ ds h Q E, (sp_least_bits A) ds h Q E → ds.length = (["weights", "limit"] : List Str).length := by
  intro ds h Q E s
  first | (obtain ⟨rfl, _⟩ := s; rfl) | (obtain ⟨_, rfl, _⟩ := s; rfl) | (obtain ⟨_, _, rfl, _⟩ := s; rfl) | (obtain ⟨_, _, _, rfl, _⟩ := s; rfl) | (obtain ⟨_, _, _, _, rfl, _⟩ := s; rfl) | (obtain ⟨_, _, _, _, _, rfl, _⟩ := s; rfl) | (obtain ⟨_, _, _, _, _, _, rfl, _⟩ := s; rfl) | (obtain ⟨_, _, _, _, _, _, _, rfl, _⟩ := s; rfl) | (obtain ⟨_, _, _, _, _, _, _, _, rfl, _⟩ := s; rfl) | (obtain ⟨_, _, _, _, _, _, _, _, _, rfl, _⟩ := s; rfl) | (obtain ⟨_, _, _, _, _, _, _, _, _, _, rfl, _⟩ := s; rfl) | (obtain ⟨_, _, _, _, _, _, _, _, _, _, _, rfl, _⟩ := s; rfl) | (obtain ⟨_, _, _, _, _, _, _, _, _, _, _, _, rfl, _⟩ := s; rfl) | (obtain ⟨_, _, _, _, _, _, _, _, _, _, _, _, _, rfl, _⟩ := s; rfl) | (obtain ⟨_, _, _, _, _, _, _, _, _, _, _, _, _, _, rfl, _⟩ := s; rfl) | (obtain ⟨_, _, _, _, _, _, _, _, _, _, _, _, _, _, _, rfl, _⟩ := s; rfl) | (obtain ⟨_, _, _, _, _, _, _, _, _, _, _, _, _, _, _, _, rfl, _⟩ := s; rfl) | (obtain ⟨_, _, _, _, _, _, _, _, _, _, _, _, _, _, _, _, _, rfl, _⟩ := s; rfl) | (unfold sp_least_bits at s; split at s; all_goals first | rfl | exact s.elim) | exact False.elim s | (rcases ds with _ | ⟨_, _ | ⟨_, _ | ⟨_, _⟩⟩⟩ <;> first | rfl | exact False.elim s)
theorem bd_least_bits (T : Txt P w K mg A) : Binds K A.e_least_bits ["weights", "limit"] [] := bindsD T.F_least_bits (List.cons_ne_nil _ _) fun _ _ _ _ _ _ _ us its hu hi => match us, its, hu, hi with | [_, _], [_], _, _ => ⟨_, rfl, rfl⟩
theorem kd_least_bits_1 (T : Txt P w K mg A) : KwD K A.e_least_bits ["weights", "limit"] 1 [] dd_least_bits g_kd_least_bits_1 :=
  kwD_mk T.F_least_bits 1 [] g_kd_least_bits_1 (List.cons_ne_nil _ _) (fun _ => (.cons (.int _) .nil))
    (fun l1 l2 l3 r1 r2 r3 => match r1, r2, r3, l1, l2, l3 with | (.cons u0 .nil), (.cons t0 .nil), .nil, _, _, _ => (.cons u0 (.cons t0 .nil)))
    (fun l1 l2 l3 r1 r2 r3 => match r1, r2, r3, l1, l2, l3 with | (.cons u0 .nil), (.cons t0 .nil), .nil, _, _, _ => (.cons u0 (.cons t0 .nil)))
    fun _ _ _ _ _ _ _ us its ws hu hi hw => match us, its, ws, hu, hi, hw with | [_], [_], [], _, _, _ => ⟨_, rfl, rfl⟩
theorem ok_least_bits (T : Txt P w K mg A) (U : Tbt base mg A) : FnM P w K mg base 7 A.f_least_bits A.e_least_bits ["weights", "limit"] (sp_least_bits A) :=
  fn_mD T.F_least_bits sc_least_bits (len_least_bits A) fun cdv Ar outer s H E B ds h Q' E' hcd hr tk hsp => ⟨rd_least_bits A (fun _ => E'), by
    exact (ms_cons (ms_expr (m_call (ok_check_all T U) (hr.mono (by decide)) T.g_check_all T.F_check_all.kp (bd_check_all T) tk (ma_cons (m_var 0) (ma_cons (m_var 1) ma_nil))))
 (ms_one (ms_ret (m_call (ok_fewest_bits T U) (hr.mono (by decide)) T.g_fewest_bits T.F_fewest_bits.kp (bd_fewest_bits T) tkF (ma_cons (m_var 0) (ma_cons (m_var 1) ma_nil)))))), pure_least_bits ds h Q' E' A hsp⟩
theorem sc_least_table : FnScope N_least_table ["weights", "limit"] (defScope s_least_table) := ⟨rfl, rfl, rfl, by decide +kernel, rfl, by decide +kernel, by decide +kernel⟩
theorem len_least_table (A : Ad) : ∀ ds h Q E, (sp_least_table A) ds h Q E → ds.length = (["weights", "limit"] : List Str).length := by
  intro ds h Q E s
  first | (obtain ⟨rfl, _⟩ := s; rfl) | (obtain ⟨_, rfl, _⟩ := s; rfl) | (obtain ⟨_, _, rfl, _⟩ := s; rfl) | (obtain ⟨_, _, _, rfl, _⟩ := s; rfl) | (obtain ⟨_, _, _, _, rfl, _⟩ := s; rfl) | (obtain ⟨_, _, _, _, _, rfl, _⟩ := s; rfl) | (obtain ⟨_, _, _, _, _, _, rfl, _⟩ := s; rfl) | (obtain ⟨_, _, _, _, _, _, _, rfl, _⟩ := s; rfl) | (obtain ⟨_, _, _, _, _, _, _, _, rfl, _⟩ := s; rfl) | (obtain ⟨_, _, _, _, _, _, _, _, _, rfl, _⟩ := s; rfl) | (obtain ⟨_, _, _, _, _, _, _, _, _, _, rfl, _⟩ := s; rfl) | (obtain ⟨_, _, _, _, _, _, _, _, _, _, _, rfl, _⟩ := s; rfl) | (obtain ⟨_, _, _, _, _, _, _, _, _, _, _, _, rfl, _⟩ := s; rfl) | (obtain ⟨_, _, _, _, _, _, _, _, _, _, _, _, _, rfl, _⟩ := s; rfl) | (obtain ⟨_, _, _, _, _, _, _, _, _, _, _, _, _, _, rfl, _⟩ := s; rfl) | (obtain ⟨_, _, _, _, _, _, _, _, _, _, _, _, _, _, _, rfl, _⟩ := s; rfl) | (obtain ⟨_, _, _, _, _, _, _, _, _, _, _, _, _, _, _, _, rfl, _⟩ := s; rfl) | (obtain ⟨_, _, _, _, _, _, _, _, _, _, _, _, _, _, _, _, _, rfl, _⟩ := s; rfl) | (unfold sp_least_table at s; split at s; all_goals first | rfl | exact s.elim) | exact False.elim s | (rcases ds with _ | ⟨_, _ | ⟨_, _ | ⟨_, _⟩⟩⟩ <;> first | rfl | exact False.elim s)
theorem bd_least_table (T : Txt P w K mg A) : Binds K A.e_least_table ["weights", "limit"] [] := bindsD T.F_least_table (List.cons_ne_nil _ _) fun _ _ _ _ _ _ _ us its hu hi => match us, its, hu, hi with | [_, _], [_], _, _ => ⟨_, rfl, rfl⟩
theorem kd_least_table_1 (T : Txt P w K mg A) : KwD K A.e_least_table ["weights", "limit"] 1 [] dd_least_table g_kd_least_table_1 :=
  kwD_mk T.F_least_table 1 [] g_kd_least_table_1 (List.cons_ne_nil _ _) (fun _ => (.cons (.int _) .nil))
    (fun l1 l2 l3 r1 r2 r3 => match r1, r2, r3, l1, l2, l3 with | (.cons u0 .nil), (.cons t0 .nil), .nil, _, _, _ => (.cons u0 (.cons t0 .nil)))
    (fun l1 l2 l3 r1 r2 r3 => match r1, r2, r3, l1, l2, l3 with | (.cons u0 .nil), (.cons t0 .nil), .nil, _, _, _ => (.cons u0 (.cons t0 .nil)))
    fun _ _ _ _ _ _ _ us its ws hu hi hw => match us, its, ws, hu, hi, hw with | [_], [_], [], _, _, _ => ⟨_, rfl, rfl⟩
theorem ok_least_table (T : Txt P w K mg A) (U : Tbt base mg A) : FnM P w K mg base 7 A.f_least_table A.e_least_table ["weights", "limit"] (sp_least_table A) :=
  fn_mD T.F_least_table sc_least_table (len_least_table A) fun cdv Ar outer s H E B ds h Q' E' hcd hr tk hsp => ⟨rd_least_table A (fun _ => E'), by
    exact (ms_cons (ms_expr (m_call (ok_check_all T U) (hr.mono (by decide)) T.g_check_all T.F_check_all.kp (bd_check_all T) tk (ma_cons (m_var 0) (ma_cons (m_var 1) ma_nil))))
 (ms_cons (ms_set 2 sc_least_table.nd (m_call (ok_coins_taken T U) (hr.mono (by decide)) T.g_coins_taken T.F_coins_taken.kp (bd_coins_taken T) tkF (ma_cons (m_var 0) (ma_cons (m_var 1) ma_nil))))
 (ms_cons (ms_set 3 sc_least_table.nd (m_lc (own := [("at", 5)]) rfl sc_least_table.nd (mi_range2 T.n_range m_int (m_add (m_lenDs T.n_len (ma_cons (m_var 0) ma_nil)) m_int)) (show BlkOk N_least_table (defScope s_least_table) _ [("at", 5)] from ⟨rfl, by decide +kernel, by decide +kernel, by decide +kernel, by decide +kernel⟩) put1_ok (fun _ _ _ _ _ => pg_name (i := 5) sc_least_table.nd rfl (by first | exact Or.inl rfl | exact Or.inr rfl)) (fun _ _ _ _ _ => mts_nil) (fun _ _ _ _ _ => (m_sum rfl T.n_sum (ma_cons (m_lc (own := [("many", 7)]) rfl sc_least_table.nd (mi_row (m_var 2)) (blkN rfl (show BlkOk N_least_table _ _ [("many", 7)] from ⟨rfl, by decide +kernel, by decide +kernel, by decide +kernel, by decide +kernel⟩)) put1_ok (fun _ _ _ _ _ => pg_name (i := 7) sc_least_table.nd rfl (by first | exact Or.inl rfl | exact Or.inr rfl)) (fun _ _ _ _ _ => mts_nil) (fun _ _ _ _ _ => (m_intc T.n_int (ma_cons (m_gt (m_var 7) (m_var 5)) ma_nil)))) ma_nil)))))
 (ms_cons (ms_setLc 4 (own := [("length", 6)]) rfl sc_least_table.nd (mi_range2 T.n_range m_int (m_add (m_glob (v := V.int 16) rfl T.c_LONGEST ⟨_, rfl⟩ (fun _ => .int _)) m_int)) (show BlkOk N_least_table (defScope s_least_table) _ [("length", 6)] from ⟨rfl, by decide +kernel, by decide +kernel, by decide +kernel, by decide +kernel⟩) put1_ok (fun _ _ _ _ _ => pg_name (i := 6) sc_least_table.nd rfl (by first | exact Or.inl rfl | exact Or.inr rfl)) (fun _ _ _ _ _ => mts_nil) (fun _ _ _ _ _ => (m_len T.n_len (ma_cons (m_lc (own := [("one", 8)]) rfl sc_least_table.nd (mi_row (m_var 3)) (blkN rfl (show BlkOk N_least_table _ _ [("one", 8)] from ⟨rfl, by decide +kernel, by decide +kernel, by decide +kernel, by decide +kernel⟩)) put1_ok (fun _ _ _ _ _ => pg_name (i := 8) sc_least_table.nd rfl (by first | exact Or.inl rfl | exact Or.inr rfl)) (fun _ _ _ _ _ => (mts_one (mt_eq hr.units (m_var 8) (m_var 6)))) (fun _ _ _ _ _ => (m_var 8))) ma_nil))))
 (ms_one (ms_ret (m_tup (ma_cons (m_tuple T.n_tuple (ma_cons (m_var 4) ma_nil)) (ma_cons (m_tuple T.n_tuple (ma_cons (m_sortK (k := 1) (y := "symbol") T.n_sorted U.t_least_table (T.cd_least_table ▸ hcd ▸ rfl) rfl (hr.mono (by decide)) (show lamGB N_least_table (defScope s_least_table) _ = true from by decide +kernel) (by decide +kernel) (fun A2 o2 s2 H2 E2 f2 c2 B2 hr => (m_tup (ma_cons (m_neg (m_getDc (Nat.lt_of_le_of_lt (Nat.add_le_add_left (show (1 : Nat) ≤ 64 by decide) _) hr.units) (m_var 0) (m_var 9))) (ma_cons (m_var 9) ma_nil)))) (ma_cons (m_var 0) ma_nil)) ma_nil)) ma_nil))))))))), pure_least_table ds h Q' E' A hsp⟩
theorem sc_table_bits : FnScope N_table_bits ["weights", "table"] (defScope s_table_bits) := ⟨rfl, rfl, rfl, by decide +kernel, rfl, by decide +kernel, by decide +kernel⟩
theorem len_table_bits (A : Ad) : ∀ ds h Q E, (sp_table_bits A) ds h Q E → ds.length = (["weights", "table"] : List Str).length := by
  intro ds h Q E s
  first | (obtain ⟨rfl, _⟩ := s; rfl) | (obtain ⟨_, rfl, _⟩ := s; rfl) | (obtain ⟨_, _, rfl, _⟩ := s; rfl) | (obtain ⟨_, _, _, rfl, _⟩ := s; rfl) | (obtain ⟨_, _, _, _, rfl, _⟩ := s; rfl) | (obtain ⟨_, _, _, _, _, rfl, _⟩ := s; rfl) | (obtain ⟨_, _, _, _, _, _, rfl, _⟩ := s; rfl) | (obtain ⟨_, _, _, _, _, _, _, rfl, _⟩ := s; rfl) | (obtain ⟨_, _, _, _, _, _, _, _, rfl, _⟩ := s; rfl) | (obtain ⟨_, _, _, _, _, _, _, _, _, rfl, _⟩ := s; rfl) | (obtain ⟨_, _, _, _, _, _, _, _, _, _, rfl, _⟩ := s; rfl) | (obtain ⟨_, _, _, _, _, _, _, _, _, _, _, rfl, _⟩ := s; rfl) | (obtain ⟨_, _, _, _, _, _, _, _, _, _, _, _, rfl, _⟩ := s; rfl) | (obtain ⟨_, _, _, _, _, _, _, _, _, _, _, _, _, rfl, _⟩ := s; rfl) | (obtain ⟨_, _, _, _, _, _, _, _, _, _, _, _, _, _, rfl, _⟩ := s; rfl) | (obtain ⟨_, _, _, _, _, _, _, _, _, _, _, _, _, _, _, rfl, _⟩ := s; rfl) | (obtain ⟨_, _, _, _, _, _, _, _, _, _, _, _, _, _, _, _, rfl, _⟩ := s; rfl) | (obtain ⟨_, _, _, _, _, _, _, _, _, _, _, _, _, _, _, _, _, rfl, _⟩ := s; rfl) | (unfold sp_table_bits at s; split at s; all_goals first | rfl | exact s.elim) | exact False.elim s | (rcases ds with _ | ⟨_, _ | ⟨_, _ | ⟨_, _⟩⟩⟩ <;> first | rfl | exact False.elim s)
theorem bd_table_bits (T : Txt P w K mg A) : Binds K A.e_table_bits ["weights", "table"] [] := T.F_table_bits.binds fun _ _ _ _ _ _ us hl => match us, hl with | [_, _], _ => rfl
theorem ok_table_bits (T : Txt P w K mg A) (U : Tbt base mg A) : FnM P w K mg base 7 A.f_table_bits A.e_table_bits ["weights", "table"] (sp_table_bits A) :=
  fn_m T.F_table_bits sc_table_bits (len_table_bits A) fun cdv Ar outer s H E B ds h Q' E' hcd hr tk hsp => ⟨rd_table_bits A (fun _ => E'), by
    exact (ms_cons (ms_expr (m_call (ok_check_weights T U) (hr.mono (by decide)) T.g_check_weights T.F_check_weights.kp (bd_check_weights T) tk (ma_cons (m_var 0) ma_nil)))
 (ms_one (ms_ret (m_call (ok_bits_by T U) (hr.mono (by decide)) T.g_bits_by T.F_bits_by.kp (bd_bits_by T) tk (ma_cons (m_var 0) (ma_cons (m_fzV (m_call (ok_codes T U) (hr.mono (by decide)) T.g_codes T.F_codes.kp (bd_codes T) tk (ma_cons (m_var 1) ma_nil))) ma_nil)))))), pure_table_bits ds h Q' E' A hsp⟩
theorem sc_is_least : FnScope N_is_least ["weights", "table", "limit"] (defScope s_is_least) := ⟨rfl, rfl, rfl, by decide +kernel, rfl, by decide +kernel, by decide +kernel⟩
theorem len_is_least (A : Ad) : ∀ ds h Q E, (sp_is_least A) ds h Q E → ds.length = (["weights", "table", "limit"] : List Str).length := by
  intro ds h Q E s
  first | (obtain ⟨rfl, _⟩ := s; rfl) | (obtain ⟨_, rfl, _⟩ := s; rfl) | (obtain ⟨_, _, rfl, _⟩ := s; rfl) | (obtain ⟨_, _, _, rfl, _⟩ := s; rfl) | (obtain ⟨_, _, _, _, rfl, _⟩ := s; rfl) | (obtain ⟨_, _, _, _, _, rfl, _⟩ := s; rfl) | (obtain ⟨_, _, _, _, _, _, rfl, _⟩ := s; rfl) | (obtain ⟨_, _, _, _, _, _, _, rfl, _⟩ := s; rfl) | (obtain ⟨_, _, _, _, _, _, _, _, rfl, _⟩ := s; rfl) | (obtain ⟨_, _, _, _, _, _, _, _, _, rfl, _⟩ := s; rfl) | (obtain ⟨_, _, _, _, _, _, _, _, _, _, rfl, _⟩ := s; rfl) | (obtain ⟨_, _, _, _, _, _, _, _, _, _, _, rfl, _⟩ := s; rfl) | (obtain ⟨_, _, _, _, _, _, _, _, _, _, _, _, rfl, _⟩ := s; rfl) | (obtain ⟨_, _, _, _, _, _, _, _, _, _, _, _, _, rfl, _⟩ := s; rfl) | (obtain ⟨_, _, _, _, _, _, _, _, _, _, _, _, _, _, rfl, _⟩ := s; rfl) | (obtain ⟨_, _, _, _, _, _, _, _, _, _, _, _, _, _, _, rfl, _⟩ := s; rfl) | (obtain ⟨_, _, _, _, _, _, _, _, _, _, _, _, _, _, _, _, rfl, _⟩ := s; rfl) | (obtain ⟨_, _, _, _, _, _, _, _, _, _, _, _, _, _, _, _, _, rfl, _⟩ := s; rfl) | (unfold sp_is_least at s; split at s; all_goals first | rfl | exact s.elim) | exact False.elim s | (rcases ds with _ | ⟨_, _ | ⟨_, _ | ⟨_, _ | ⟨_, _⟩⟩⟩⟩ <;> first | rfl | exact False.elim s)
theorem bd_is_least (T : Txt P w K mg A) : Binds K A.e_is_least ["weights", "table", "limit"] [] := bindsD T.F_is_least (List.cons_ne_nil _ _) fun _ _ _ _ _ _ _ us its hu hi => match us, its, hu, hi with | [_, _, _], [_], _, _ => ⟨_, rfl, rfl⟩
theorem ok_is_least (T : Txt P w K mg A) (U : Tbt base mg A) : FnM P w K mg base 7 A.f_is_least A.e_is_least ["weights", "table", "limit"] (sp_is_least A) :=
  fn_mD T.F_is_least sc_is_least (len_is_least A) fun cdv Ar outer s H E B ds h Q' E' hcd hr tk hsp => ⟨rd_is_least A (fun _ => E'), by
    exact (ms_cons (ms_expr (m_call (ok_check_weights T U) (hr.mono (by decide)) T.g_check_weights T.F_check_weights.kp (bd_check_weights T) tk (ma_cons (m_var 0) ma_nil)))
 (ms_cons (ms_expr (m_call (ok_check_table T U) (hr.mono (by decide)) T.g_check_table T.F_check_table.kp (bd_check_table T) tk (ma_cons (m_var 1) ma_nil)))
 (ms_cons (ms_expr (m_call (ok_check_limit T U) (hr.mono (by decide)) T.g_check_limit T.F_check_limit.kp (bd_check_limit T) tk (ma_cons (m_var 2) ma_nil)))
 (ms_cons (ms_expr (m_call (ok_check_room T U) (hr.mono (by decide)) T.g_check_room T.F_check_room.kp (bd_check_room T) tk (ma_cons (m_var 0) (ma_cons (m_var 2) ma_nil))))
 (ms_cons (ms_set 3 sc_is_least.nd (m_fzV (m_call (ok_codes T U) (hr.mono (by decide)) T.g_codes T.F_codes.kp (bd_codes T) tk (ma_cons (m_var 1) ma_nil))))
 (ms_cons (ms_if (mt_not (mt_val (m_all rfl T.n_all (ma_cons (m_lc (own := [("symbol", 4)]) rfl sc_is_least.nd (mi_keys (m_var 0)) (show BlkOk N_is_least (defScope s_is_least) _ [("symbol", 4)] from ⟨rfl, by decide +kernel, by decide +kernel, by decide +kernel, by decide +kernel⟩) put1_ok (fun _ _ _ _ _ => pg_name (i := 4) sc_is_least.nd rfl (by first | exact Or.inl rfl | exact Or.inr rfl)) (fun _ _ _ _ _ => mts_nil) (fun _ _ _ _ _ => (m_and (m_inDc (Nat.lt_of_le_of_lt (Nat.add_le_add_left (show (1 : Nat) ≤ 64 by decide) _) hr.units) (m_var 4) (m_var 3)) (m_one (m_le (m_len T.n_len (ma_cons (m_getDc (Nat.lt_of_le_of_lt (Nat.add_le_add_left (show (1 : Nat) ≤ 64 by decide) _) hr.units) (m_var 3) (m_var 4)) ma_nil)) (m_var 2)))))) ma_nil)))) (ms_one (ms_ret m_bl)) ms_nil)
 (ms_one (ms_ret (m_eq hr.units (m_call (ok_bits_by T U) (hr.mono (by decide)) T.g_bits_by T.F_bits_by.kp (bd_bits_by T) tk (ma_cons (m_var 0) (ma_cons (m_var 3) ma_nil))) (m_call (ok_fewest_bits T U) (hr.mono (by decide)) T.g_fewest_bits T.F_fewest_bits.kp (bd_fewest_bits T) tkF (ma_cons (m_var 0) (ma_cons (m_var 2) ma_nil)))))))))))), pure_is_least ds h Q' E' A hsp⟩
theorem sc_law_right : FnScope N_law_right ["_law_source"] (defScope s_law_right) := ⟨rfl, rfl, rfl, by decide +kernel, rfl, by decide +kernel, by decide +kernel⟩
theorem len_law_right (A : Ad) : ∀ ds h Q E, (sp_law_right A) ds h Q E → ds.length = (["_law_source"] : List Str).length := by
  intro ds h Q E s
  first | (obtain ⟨rfl, _⟩ := s; rfl) | (obtain ⟨_, rfl, _⟩ := s; rfl) | (obtain ⟨_, _, rfl, _⟩ := s; rfl) | (obtain ⟨_, _, _, rfl, _⟩ := s; rfl) | (obtain ⟨_, _, _, _, rfl, _⟩ := s; rfl) | (obtain ⟨_, _, _, _, _, rfl, _⟩ := s; rfl) | (obtain ⟨_, _, _, _, _, _, rfl, _⟩ := s; rfl) | (obtain ⟨_, _, _, _, _, _, _, rfl, _⟩ := s; rfl) | (obtain ⟨_, _, _, _, _, _, _, _, rfl, _⟩ := s; rfl) | (obtain ⟨_, _, _, _, _, _, _, _, _, rfl, _⟩ := s; rfl) | (obtain ⟨_, _, _, _, _, _, _, _, _, _, rfl, _⟩ := s; rfl) | (obtain ⟨_, _, _, _, _, _, _, _, _, _, _, rfl, _⟩ := s; rfl) | (obtain ⟨_, _, _, _, _, _, _, _, _, _, _, _, rfl, _⟩ := s; rfl) | (obtain ⟨_, _, _, _, _, _, _, _, _, _, _, _, _, rfl, _⟩ := s; rfl) | (obtain ⟨_, _, _, _, _, _, _, _, _, _, _, _, _, _, rfl, _⟩ := s; rfl) | (obtain ⟨_, _, _, _, _, _, _, _, _, _, _, _, _, _, _, rfl, _⟩ := s; rfl) | (obtain ⟨_, _, _, _, _, _, _, _, _, _, _, _, _, _, _, _, rfl, _⟩ := s; rfl) | (obtain ⟨_, _, _, _, _, _, _, _, _, _, _, _, _, _, _, _, _, rfl, _⟩ := s; rfl) | (unfold sp_law_right at s; split at s; all_goals first | rfl | exact s.elim) | exact False.elim s | (rcases ds with _ | ⟨_, _ | ⟨_, _⟩⟩ <;> first | rfl | exact False.elim s)
theorem bd_law_right (T : Txt P w K mg A) : Binds K A.e_law_right ["_law_source"] [] := T.F_law_right.binds fun _ _ _ _ _ _ us hl => match us, hl with | [_], _ => rfl
theorem ok_law_right (T : Txt P w K mg A) (U : Tbt base mg A) : FnM P w K mg base 8 A.f_law_right A.e_law_right ["_law_source"] (sp_law_right A) :=
  fn_m T.F_law_right sc_law_right (len_law_right A) fun cdv Ar outer s H E B ds h Q' E' hcd hr tk hsp => ⟨rd_law_right A (fun _ => E'), by
    exact (ms_cons (ms_set 1 sc_law_right.nd (m_call (ok_law_weights T U) (hr.mono (by decide)) T.g_law_weights T.F_law_weights.kp (bd_law_weights T) tkF (ma_cons (m_var 0) ma_nil)))
 (ms_cons (ms_asg (m_call (ok_law_free_bits T U) (hr.mono (by decide)) T.g_law_free_bits T.F_law_free_bits.kp (bd_law_free_bits T) tkF (ma_cons (m_var 1) ma_nil)) (mg_tup rfl (mgs_cons (mg_name 7 sc_law_right.nd) (mgs_cons (mg_name 8 sc_law_right.nd) mgs_nil))))
 (ms_cons (ms_setLc 2 (own := [("_law_one_here", 13)]) rfl sc_law_right.nd (mi_range2 T.n_range m_int m_int) (show BlkOk N_law_right (defScope s_law_right) _ [("_law_one_here", 13)] from ⟨rfl, by decide +kernel, by decide +kernel, by decide +kernel, by decide +kernel⟩) put1_ok (fun _ _ _ _ _ => pg_name (i := 13) sc_law_right.nd rfl (by first | exact Or.inl rfl | exact Or.inr rfl)) (fun _ _ _ _ _ => (mts_one (mt_lt (m_lenDs T.n_len (ma_cons (m_var 1) ma_nil)) (m_shl m_int (m_var 13))))) (fun _ _ _ _ _ => (m_var 13)))
 (ms_cons (ms_setLc 3 (own := [("_law_one_here", 13)]) rfl sc_law_right.nd (mi_row (m_var 2)) (show BlkOk N_law_right (defScope s_law_right) _ [("_law_one_here", 13)] from ⟨rfl, by decide +kernel, by decide +kernel, by decide +kernel, by decide +kernel⟩) put1_ok (fun _ _ _ _ _ => pg_name (i := 13) sc_law_right.nd rfl (by first | exact Or.inl rfl | exact Or.inr rfl)) (fun _ _ _ _ _ => mts_nil) (fun _ _ _ _ _ => (m_tup (ma_cons (m_var 13) (ma_cons (m_if (mt_le (m_var 8) (m_var 13)) (m_var 7) (m_call (ok_law_bits_by T U) (hr.mono (by decide)) T.g_law_bits_by T.F_law_bits_by.kp (bd_law_bits_by T) tkF (ma_cons (m_var 1) (ma_cons (m_var 13) ma_nil)))) ma_nil)))))
 (ms_cons (ms_set 4 sc_law_right.nd (m_call (ok_by_limits T U) (hr.mono (by decide)) T.g_by_limits T.F_by_limits.kp (bd_by_limits T) tk (ma_cons (m_var 1) ma_nil)))
 (ms_cons (ms_if (mt_ne hr.units (m_var 4) (m_var 3)) (ms_one (ms_ret m_bl)) ms_nil)
 (ms_cons (ms_expr (m_mt PySem.F.slot_list_append PySem.F.type_list_append mt_append fAppend_d (m_var 4) (ma_cons m_non ma_nil)))
 (ms_cons (ms_if (mt_ne hr.units (m_fzV (m_callK (ok_by_limits T U) (hr.mono (by decide)) T.g_by_limits T.F_by_limits.kp (kw_by_limits_weights T) tk (mk_cons (m_var 1) mk_nil))) (m_var 3)) (ms_one (ms_ret m_bl)) ms_nil)
 (ms_cons (ms_for (passes_of rfl) rfl (mi_row (m_tup (ma_cons (m_ix (m_var 2) m_int) (ma_cons (m_call (ok_law_one T U) (hr.mono (by decide)) T.g_law_one T.F_law_one.kp (bd_law_one T) tkF (ma_cons (m_var 0) (ma_cons (m_var 2) ma_nil))) (ma_cons m_int ma_nil))))) (mg_name 5 sc_law_right.nd)
 (ms_cons (ms_par 4 14 rfl sc_law_right.nd (ma_cons (m_call (ok_least_table T U) (hr.mono (by decide)) T.g_least_table T.F_least_table.kp (bd_least_table T) tk (ma_cons (m_var 1) (ma_cons (m_var 5) ma_nil))) (ma_cons (m_ix (m_ix (m_var 3) (m_sub (m_var 5) (m_ix (m_var 2) m_int))) m_int) ma_nil)))
 (ms_cons (ms_set 9 sc_law_right.nd (m_call (ok_law_lengths T U) (hr.mono (by decide)) T.g_law_lengths T.F_law_lengths.kp (bd_law_lengths T) tkF (ma_cons (m_var 4) ma_nil)))
 (ms_cons (ms_if (mt_w (mw_or (mt_not (mt_val (m_call (ok_is_table T U) (hr.mono (by decide)) T.g_is_table T.F_is_table.kp (bd_is_table T) tkF (ma_cons (m_var 4) ma_nil)))) (mw_or (mt_ne hr.units (m_sortedTu T.n_sorted (ma_cons (m_ix (m_var 4) m_int) ma_nil)) (m_sortedDc rfl T.n_sorted (ma_cons (m_var 1) ma_nil))) (mw_or1 (mt_gt (m_maxV rfl T.n_max (m_var 9)) (m_var 5)))))) (ms_one (ms_ret m_bl)) ms_nil)
 (ms_cons (ms_if (mt_w (mw_or (mt_ne hr.units (m_call (ok_least_bits T U) (hr.mono (by decide)) T.g_least_bits T.F_least_bits.kp (bd_least_bits T) tk (ma_cons (m_var 1) (ma_cons (m_var 5) ma_nil))) (m_var 14)) (mw_or1 (mt_ne hr.units (m_call (ok_table_bits T U) (hr.mono (by decide)) T.g_table_bits T.F_table_bits.kp (bd_table_bits T) tk (ma_cons (m_var 1) (ma_cons (m_var 4) ma_nil))) (m_var 14))))) (ms_one (ms_ret m_bl)) ms_nil)
 (ms_cons (ms_if (mt_not (mt_val (m_call (ok_is_least T U) (hr.mono (by decide)) T.g_is_least T.F_is_least.kp (bd_is_least T) tk (ma_cons (m_var 1) (ma_cons (m_var 4) (ma_cons (m_var 5) ma_nil)))))) (ms_one (ms_ret m_bl)) ms_nil)
 (ms_cons (ms_set 10 sc_law_right.nd (m_sorted T.n_sorted (ma_cons (m_lc (own := [("_law_symbol", 11)]) rfl sc_law_right.nd (mi_keys (m_var 1)) (show BlkOk N_law_right (defScope s_law_right) _ [("_law_symbol", 11)] from ⟨rfl, by decide +kernel, by decide +kernel, by decide +kernel, by decide +kernel⟩) put1_ok (fun _ _ _ _ _ => pg_name (i := 11) sc_law_right.nd rfl (by first | exact Or.inl rfl | exact Or.inr rfl)) (fun _ _ _ _ _ => mts_nil) (fun _ _ _ _ _ => (m_tup (ma_cons (m_sub m_int (m_getDc (Nat.lt_of_le_of_lt (Nat.add_le_add_left (show (1 : Nat) ≤ 64 by decide) _) hr.units) (m_var 1) (m_var 11))) (ma_cons (m_getDc (Nat.lt_of_le_of_lt (Nat.add_le_add_left (show (1 : Nat) ≤ 64 by decide) _) hr.units) (m_var 9) (m_var 11)) ma_nil))))) ma_nil)))
 (ms_one (ms_if (mt_ne hr.units (m_sorted T.n_sorted (ma_cons (m_lc (own := [("_law_load", 15), ("_law_length", 16)]) rfl sc_law_right.nd (mi_row (m_var 10)) (show BlkOk N_law_right (defScope s_law_right) _ [("_law_load", 15), ("_law_length", 16)] from ⟨rfl, by decide +kernel, by decide +kernel, by decide +kernel, by decide +kernel⟩) (putT_ok rfl) (fun _ _ _ _ _ => pg_tup rfl (pgs_cons (pg_name (i := 15) sc_law_right.nd rfl (by first | exact Or.inl rfl | exact Or.inr rfl)) (pgs_cons (pg_name (i := 16) sc_law_right.nd rfl (by first | exact Or.inl rfl | exact Or.inr rfl)) pgs_nil))) (fun _ _ _ _ _ => mts_nil) (fun _ _ _ _ _ => (m_var 16))) ma_nil)) (m_lc (own := [("_law_load", 15), ("_law_length", 16)]) rfl sc_law_right.nd (mi_row (m_var 10)) (show BlkOk N_law_right (defScope s_law_right) _ [("_law_load", 15), ("_law_length", 16)] from ⟨rfl, by decide +kernel, by decide +kernel, by decide +kernel, by decide +kernel⟩) (putT_ok rfl) (fun _ _ _ _ _ => pg_tup rfl (pgs_cons (pg_name (i := 15) sc_law_right.nd rfl (by first | exact Or.inl rfl | exact Or.inr rfl)) (pgs_cons (pg_name (i := 16) sc_law_right.nd rfl (by first | exact Or.inl rfl | exact Or.inr rfl)) pgs_nil))) (fun _ _ _ _ _ => mts_nil) (fun _ _ _ _ _ => (m_var 16)))) (ms_one (ms_ret m_bl)) ms_nil)))))))))
 (ms_cons (ms_par 11 12 rfl sc_law_right.nd (ma_cons (m_call (ok_law_one T U) (hr.mono (by decide)) T.g_law_one T.F_law_one.kp (bd_law_one T) tkF (ma_cons (m_var 0) (ma_cons (m_sortedDc rfl T.n_sorted (ma_cons (m_var 1) ma_nil)) ma_nil))) (ma_cons (m_dictM T.n_dict (ma_cons (m_var 1) ma_nil)) ma_nil)))
 (ms_cons (ms_putDc (Nat.lt_of_le_of_lt (Nat.add_le_add_left (show (1 : Nat) ≤ 64 by decide) _) hr.units) (m_var 12) (m_var 11) (m_min2 rfl T.n_min (ma_cons (m_add (m_add (m_getDc (Nat.lt_of_le_of_lt (Nat.add_le_add_left (show (1 : Nat) ≤ 64 by decide) _) hr.units) (m_var 12) (m_var 11)) m_int) (m_call (ok_law_next T U) (hr.mono (by decide)) T.g_law_next T.F_law_next.kp (bd_law_next T) tkF (ma_cons (m_var 0) (ma_cons m_int ma_nil)))) (ma_cons (m_pow m_int m_int) ma_nil))))
 (ms_fzL 12 (ms_cons (ms_set 6 sc_law_right.nd (m_dictM T.n_dict (ma_cons (m_var 1) ma_nil)))
 (ms_cons (ms_expr (m_popDc (m_var 6) (m_var 11)))
 (ms_fzL 6 (ms_one (ms_ret (m_lele (m_callGp (ok_least_bits T U) (hr.mono (by decide)) T.g_least_bits T.F_least_bits.kp (kd_least_bits_1 T) tk (ma_cons (m_var 6) ma_nil)) (m_ix (m_ix (m_var 3) (m_neg m_int)) m_int) (m_callGp (ok_least_bits T U) (hr.mono (by decide)) T.g_least_bits T.F_least_bits.kp (kd_least_bits_1 T) tk (ma_cons (m_var 12) ma_nil)))))))))))))))))))), pure_law_right ds h Q' E' A hsp⟩
theorem sc_law : FnScope N_law ["_law_script"] (defScope s_law) := ⟨rfl, rfl, rfl, by decide +kernel, rfl, by decide +kernel, by decide +kernel⟩
theorem len_law (A : Ad) : ∀ ds h Q E, (sp_law A) ds h Q E → ds.length = (["_law_script"] : List Str).length := by
  intro ds h Q E s
  first | (obtain ⟨rfl, _⟩ := s; rfl) | (obtain ⟨_, rfl, _⟩ := s; rfl) | (obtain ⟨_, _, rfl, _⟩ := s; rfl) | (obtain ⟨_, _, _, rfl, _⟩ := s; rfl) | (obtain ⟨_, _, _, _, rfl, _⟩ := s; rfl) | (obtain ⟨_, _, _, _, _, rfl, _⟩ := s; rfl) | (obtain ⟨_, _, _, _, _, _, rfl, _⟩ := s; rfl) | (obtain ⟨_, _, _, _, _, _, _, rfl, _⟩ := s; rfl) | (obtain ⟨_, _, _, _, _, _, _, _, rfl, _⟩ := s; rfl) | (obtain ⟨_, _, _, _, _, _, _, _, _, rfl, _⟩ := s; rfl) | (obtain ⟨_, _, _, _, _, _, _, _, _, _, rfl, _⟩ := s; rfl) | (obtain ⟨_, _, _, _, _, _, _, _, _, _, _, rfl, _⟩ := s; rfl) | (obtain ⟨_, _, _, _, _, _, _, _, _, _, _, _, rfl, _⟩ := s; rfl) | (obtain ⟨_, _, _, _, _, _, _, _, _, _, _, _, _, rfl, _⟩ := s; rfl) | (obtain ⟨_, _, _, _, _, _, _, _, _, _, _, _, _, _, rfl, _⟩ := s; rfl) | (obtain ⟨_, _, _, _, _, _, _, _, _, _, _, _, _, _, _, rfl, _⟩ := s; rfl) | (obtain ⟨_, _, _, _, _, _, _, _, _, _, _, _, _, _, _, _, rfl, _⟩ := s; rfl) | (obtain ⟨_, _, _, _, _, _, _, _, _, _, _, _, _, _, _, _, _, rfl, _⟩ := s; rfl) | (unfold sp_law at s; split at s; all_goals first | rfl | exact s.elim) | exact False.elim s | (rcases ds with _ | ⟨_, _ | ⟨_, _⟩⟩ <;> first | rfl | exact False.elim s)
theorem ok_law (T : Txt P w K mg A) (U : Tbt base mg A) : FnM P w K mg base 9 A.f_law A.e_law ["_law_script"] (sp_law A) :=
  fn_m T.F_law sc_law (len_law A) fun cdv Ar outer s H E B ds h Q' E' hcd hr tk hsp => ⟨rd_law A (fun _ => E'), by
    exact (ms_cons (ms_if (mt_w (mw_or (mt_ne hr.units (m_fzV (m_call (ok_by_limits T U) (hr.mono (by decide)) T.g_by_limits T.F_by_limits.kp (bd_by_limits T) tk (ma_cons (m_fzVL m_dct0M) ma_nil))) (m_lc (own := [("_law_one_here", 2)]) rfl sc_law.nd (mi_range2 T.n_range m_int m_int) (show BlkOk N_law (defScope s_law) _ [("_law_one_here", 2)] from ⟨rfl, by decide +kernel, by decide +kernel, by decide +kernel, by decide +kernel⟩) put1_ok (fun _ _ _ _ _ => pg_name (i := 2) sc_law.nd rfl (by first | exact Or.inl rfl | exact Or.inr rfl)) (fun _ _ _ _ _ => mts_nil) (fun _ _ _ _ _ => (m_tup (ma_cons (m_var 2) (ma_cons m_int ma_nil)))))) (mw_or1 (mt_ne hr.units (m_callGp (ok_least_table T U) (hr.mono (by decide)) T.g_least_table T.F_least_table.kp (kd_least_table_1 T) tk (ma_cons (m_fzVL m_dct0M) ma_nil)) (m_tup (ma_cons (m_mul (m_tup (ma_cons m_int ma_nil)) m_int) (ma_cons (m_tup ma_nil) ma_nil))))))) (ms_one (ms_ret m_bl)) ms_nil)
 (ms_cons (ms_for (passes_of rfl) rfl (mi_range1 T.n_range (m_max2 rfl T.n_max (ma_cons m_int (ma_cons (m_min2 rfl T.n_min (ma_cons m_int (ma_cons (m_len T.n_len (ma_cons (m_var 0) ma_nil)) ma_nil))) ma_nil)))) (mg_name 1 sc_law.nd)
 (ms_one (ms_if (mt_not (mt_val (m_call (ok_law_right T U) (hr.mono (by decide)) T.g_law_right T.F_law_right.kp (bd_law_right T) tk (ma_cons (m_call (ok_law_source_of T U) (hr.mono (by decide)) T.g_law_source_of T.F_law_source_of.kp (bd_law_source_of T) tkF (ma_cons (m_call (ok_law_cell_at T U) (hr.mono (by decide)) T.g_law_cell_at T.F_law_cell_at.kp (bd_law_cell_at T) tkF (ma_cons (m_var 0) (ma_cons (m_var 1) ma_nil))) ma_nil)) ma_nil)))) (ms_one (ms_ret m_bl)) ms_nil)))
 (ms_one (ms_ret m_bl)))), pure_law ds h Q' E' A hsp⟩
end
theorem all_mk {CT : Addr → Addr → Prop} {w : World} {K : PySem.W.Frag} {h : Heap} {mg : Str → Option Value} {fa : Addr} (X : K.In h) (G : h.Ns mainGlobals mg) (hfa : mg "law" = some (.ref fa))
        {f_is_integer : Addr} {od_is_integer an_is_integer : Option Addr} {sl_is_integer : Array (Option Value)} {oc_is_integer kV_is_integer dc_is_integer pm_is_integer cd_is_integer ct_is_integer : Value}
    {f_are_counts : Addr} {od_are_counts an_are_counts : Option Addr} {sl_are_counts : Array (Option Value)} {oc_are_counts kV_are_counts dc_are_counts pm_are_counts cd_are_counts ct_are_counts : Value}
    {f_room_taken : Addr} {od_room_taken an_room_taken : Option Addr} {sl_room_taken : Array (Option Value)} {oc_room_taken kV_room_taken dc_room_taken pm_room_taken cd_room_taken ct_room_taken : Value}
    {f_are_symbols : Addr} {od_are_symbols an_are_symbols : Option Addr} {sl_are_symbols : Array (Option Value)} {oc_are_symbols kV_are_symbols dc_are_symbols pm_are_symbols cd_are_symbols ct_are_symbols : Value}
    {f_table_fault : Addr} {od_table_fault an_table_fault : Option Addr} {sl_table_fault : Array (Option Value)} {oc_table_fault kV_table_fault dc_table_fault pm_table_fault cd_table_fault ct_table_fault : Value}
    {f_is_table : Addr} {od_is_table an_is_table : Option Addr} {sl_is_table : Array (Option Value)} {oc_is_table kV_is_table dc_is_table pm_is_table cd_is_table ct_is_table : Value}
    {f_check_table : Addr} {od_check_table an_check_table : Option Addr} {sl_check_table : Array (Option Value)} {oc_check_table kV_check_table dc_check_table pm_check_table cd_check_table ct_check_table : Value}
    {f_bits_as : Addr} {od_bits_as an_bits_as : Option Addr} {sl_bits_as : Array (Option Value)} {oc_bits_as kV_bits_as dc_bits_as pm_bits_as cd_bits_as ct_bits_as : Value}
    {f_codes : Addr} {od_codes an_codes : Option Addr} {sl_codes : Array (Option Value)} {oc_codes kV_codes dc_codes pm_codes cd_codes ct_codes : Value}
    {f_is_weight : Addr} {od_is_weight an_is_weight : Option Addr} {sl_is_weight : Array (Option Value)} {oc_is_weight kV_is_weight dc_is_weight pm_is_weight cd_is_weight ct_is_weight : Value}
    {f_check_weights : Addr} {od_check_weights an_check_weights : Option Addr} {sl_check_weights : Array (Option Value)} {oc_check_weights kV_check_weights dc_check_weights pm_check_weights ct_check_weights : Value} {cA_check_weights pA_check_weights : Addr} {cv_check_weights : Array Value} {cl_check_weights : Value} {co_check_weights : Option Addr} {cs_check_weights : Array (Option Value)}
    {f_check_limit : Addr} {od_check_limit an_check_limit : Option Addr} {sl_check_limit : Array (Option Value)} {oc_check_limit kV_check_limit dc_check_limit pm_check_limit cd_check_limit ct_check_limit : Value}
    {f_check_room : Addr} {od_check_room an_check_room : Option Addr} {sl_check_room : Array (Option Value)} {oc_check_room kV_check_room dc_check_room pm_check_room cd_check_room ct_check_room : Value}
    {f_check_all : Addr} {od_check_all an_check_all : Option Addr} {sl_check_all : Array (Option Value)} {oc_check_all kV_check_all dc_check_all pm_check_all cd_check_all ct_check_all : Value}
    {f_coins_of : Addr} {od_coins_of an_coins_of : Option Addr} {sl_coins_of : Array (Option Value)} {oc_coins_of kV_coins_of dc_coins_of pm_coins_of cd_coins_of ct_coins_of : Value}
    {f_pairs_of : Addr} {od_pairs_of an_pairs_of : Option Addr} {sl_pairs_of : Array (Option Value)} {oc_pairs_of kV_pairs_of dc_pairs_of pm_pairs_of cd_pairs_of ct_pairs_of : Value}
    {f_rows_of : Addr} {od_rows_of an_rows_of : Option Addr} {sl_rows_of : Array (Option Value)} {oc_rows_of kV_rows_of dc_rows_of pm_rows_of cd_rows_of ct_rows_of : Value}
    {f_fewest_bits : Addr} {od_fewest_bits an_fewest_bits : Option Addr} {sl_fewest_bits : Array (Option Value)} {oc_fewest_bits kV_fewest_bits dc_fewest_bits pm_fewest_bits cd_fewest_bits ct_fewest_bits : Value}
    {f_least_bits : Addr} {od_least_bits an_least_bits : Option Addr} {sl_least_bits : Array (Option Value)} {oc_least_bits kV_least_bits dc_least_bits pm_least_bits cd_least_bits ct_least_bits : Value} {dT_least_bits : Addr} {dC_least_bits : Value} {dD_least_bits : Option Addr} {dI_least_bits : Array Value} {dN_least_bits : Nat} {dS_least_bits : Array (Option Value)}
    {f_coins_among : Addr} {od_coins_among an_coins_among : Option Addr} {sl_coins_among : Array (Option Value)} {oc_coins_among kV_coins_among dc_coins_among pm_coins_among cd_coins_among ct_coins_among : Value}
    {f_coins_taken : Addr} {od_coins_taken an_coins_taken : Option Addr} {sl_coins_taken : Array (Option Value)} {oc_coins_taken kV_coins_taken dc_coins_taken pm_coins_taken cd_coins_taken ct_coins_taken : Value}
    {f_least_table : Addr} {od_least_table an_least_table : Option Addr} {sl_least_table : Array (Option Value)} {oc_least_table kV_least_table dc_least_table pm_least_table ct_least_table : Value} {cA_least_table pA_least_table : Addr} {cv_least_table : Array Value} {cl_least_table : Value} {co_least_table : Option Addr} {cs_least_table : Array (Option Value)} {dT_least_table : Addr} {dC_least_table : Value} {dD_least_table : Option Addr} {dI_least_table : Array Value} {dN_least_table : Nat} {dS_least_table : Array (Option Value)}
    {f_bits_by : Addr} {od_bits_by an_bits_by : Option Addr} {sl_bits_by : Array (Option Value)} {oc_bits_by kV_bits_by dc_bits_by pm_bits_by cd_bits_by ct_bits_by : Value}
    {f_table_bits : Addr} {od_table_bits an_table_bits : Option Addr} {sl_table_bits : Array (Option Value)} {oc_table_bits kV_table_bits dc_table_bits pm_table_bits cd_table_bits ct_table_bits : Value}
    {f_is_least : Addr} {od_is_least an_is_least : Option Addr} {sl_is_least : Array (Option Value)} {oc_is_least kV_is_least dc_is_least pm_is_least cd_is_least ct_is_least : Value} {dT_is_least : Addr} {dC_is_least : Value} {dD_is_least : Option Addr} {dI_is_least : Array Value} {dN_is_least : Nat} {dS_is_least : Array (Option Value)}
    {f_by_limits : Addr} {od_by_limits an_by_limits : Option Addr} {sl_by_limits : Array (Option Value)} {oc_by_limits kV_by_limits dc_by_limits pm_by_limits cd_by_limits ct_by_limits : Value}
    {f_law_cell_at : Addr} {od_law_cell_at an_law_cell_at : Option Addr} {sl_law_cell_at : Array (Option Value)} {oc_law_cell_at kV_law_cell_at dc_law_cell_at pm_law_cell_at cd_law_cell_at ct_law_cell_at : Value}
    {f_law_source_of : Addr} {od_law_source_of an_law_source_of : Option Addr} {sl_law_source_of : Array (Option Value)} {oc_law_source_of kV_law_source_of dc_law_source_of pm_law_source_of cd_law_source_of ct_law_source_of : Value}
    {f_law_next : Addr} {od_law_next an_law_next : Option Addr} {sl_law_next : Array (Option Value)} {oc_law_next kV_law_next dc_law_next pm_law_next cd_law_next ct_law_next : Value}
    {f_law_one : Addr} {od_law_one an_law_one : Option Addr} {sl_law_one : Array (Option Value)} {oc_law_one kV_law_one dc_law_one pm_law_one cd_law_one ct_law_one : Value}
    {f_law_lengths : Addr} {od_law_lengths an_law_lengths : Option Addr} {sl_law_lengths : Array (Option Value)} {oc_law_lengths kV_law_lengths dc_law_lengths pm_law_lengths cd_law_lengths ct_law_lengths : Value}
    {f_law_weights : Addr} {od_law_weights an_law_weights : Option Addr} {sl_law_weights : Array (Option Value)} {oc_law_weights kV_law_weights dc_law_weights pm_law_weights cd_law_weights ct_law_weights : Value}
    {f_law_free_bits : Addr} {od_law_free_bits an_law_free_bits : Option Addr} {sl_law_free_bits : Array (Option Value)} {oc_law_free_bits kV_law_free_bits dc_law_free_bits pm_law_free_bits cd_law_free_bits ct_law_free_bits : Value}
    {f_law_bits_by : Addr} {od_law_bits_by an_law_bits_by : Option Addr} {sl_law_bits_by : Array (Option Value)} {oc_law_bits_by kV_law_bits_by dc_law_bits_by pm_law_bits_by cd_law_bits_by ct_law_bits_by : Value}
    {f_law_right : Addr} {od_law_right an_law_right : Option Addr} {sl_law_right : Array (Option Value)} {oc_law_right kV_law_right dc_law_right pm_law_right cd_law_right ct_law_right : Value}
    {f_law : Addr} {od_law an_law : Option Addr} {sl_law : Array (Option Value)} {oc_law kV_law dc_law pm_law cd_law ct_law : Value}
    {t_LONGEST : Tok}
    {t_MOST_WEIGHT : Tok}
    {t_WHOLE : Tok}
    {x_PicError : Addr}
    {x_NoTable : Addr}
    {x_NoSymbol : Addr}
    {x_NoWeights : Addr}
    {x_NoLimit : Addr}
    {x_NoRoom : Addr}
    {i_NoTable : Addr} {nm_NoTable q_NoTable : Str} {N_NoTable : Addr} {bs_NoTable : List Value} {sn_NoTable : List Str} {sub_NoTable : List Value} {ab_NoTable : Bool} {col_NoTable : Option Bool} {dd_NoTable : Option Addr} {m0_NoTable m1_NoTable m2_NoTable m3_NoTable m5_NoTable : Option Value}
    {oc_NoTable doc_NoTable pm_NoTable ct_NoTable : Value} {od_NoTable an_NoTable : Option Addr} {cda_NoTable cc_NoTable : Addr} {osl_NoTable : Array (Option Value)} {vs_NoTable : Array Value} {ccl_NoTable : Value} {cdd_NoTable : Option Addr} {ccs_NoTable : Array (Option Value)} {cl_NoTable : Value} {cld_NoTable : Option Addr} {csl_NoTable : Array (Option Value)} {tf_NoTable : Tok}
    {i_NoSymbol : Addr} {nm_NoSymbol q_NoSymbol : Str} {N_NoSymbol : Addr} {bs_NoSymbol : List Value} {sn_NoSymbol : List Str} {sub_NoSymbol : List Value} {ab_NoSymbol : Bool} {col_NoSymbol : Option Bool} {dd_NoSymbol : Option Addr} {m0_NoSymbol m1_NoSymbol m2_NoSymbol m3_NoSymbol m5_NoSymbol : Option Value}
    {oc_NoSymbol doc_NoSymbol pm_NoSymbol ct_NoSymbol : Value} {od_NoSymbol an_NoSymbol : Option Addr} {cda_NoSymbol cc_NoSymbol : Addr} {osl_NoSymbol : Array (Option Value)} {vs_NoSymbol : Array Value} {ccl_NoSymbol : Value} {cdd_NoSymbol : Option Addr} {ccs_NoSymbol : Array (Option Value)} {cl_NoSymbol : Value} {cld_NoSymbol : Option Addr} {csl_NoSymbol : Array (Option Value)} {tf_NoSymbol : Tok}
    {i_NoWeights : Addr} {nm_NoWeights q_NoWeights : Str} {N_NoWeights : Addr} {bs_NoWeights : List Value} {sn_NoWeights : List Str} {sub_NoWeights : List Value} {ab_NoWeights : Bool} {col_NoWeights : Option Bool} {dd_NoWeights : Option Addr} {m0_NoWeights m1_NoWeights m2_NoWeights m3_NoWeights m5_NoWeights : Option Value}
    {oc_NoWeights doc_NoWeights pm_NoWeights ct_NoWeights : Value} {od_NoWeights an_NoWeights : Option Addr} {cda_NoWeights cc_NoWeights : Addr} {osl_NoWeights : Array (Option Value)} {vs_NoWeights : Array Value} {ccl_NoWeights : Value} {cdd_NoWeights : Option Addr} {ccs_NoWeights : Array (Option Value)} {cl_NoWeights : Value} {cld_NoWeights : Option Addr} {csl_NoWeights : Array (Option Value)} {tf_NoWeights : Tok}
    {i_NoLimit : Addr} {nm_NoLimit q_NoLimit : Str} {N_NoLimit : Addr} {bs_NoLimit : List Value} {sn_NoLimit : List Str} {sub_NoLimit : List Value} {ab_NoLimit : Bool} {col_NoLimit : Option Bool} {dd_NoLimit : Option Addr} {m0_NoLimit m1_NoLimit m2_NoLimit m3_NoLimit m5_NoLimit : Option Value}
    {oc_NoLimit doc_NoLimit pm_NoLimit ct_NoLimit : Value} {od_NoLimit an_NoLimit : Option Addr} {cda_NoLimit cc_NoLimit : Addr} {osl_NoLimit : Array (Option Value)} {vs_NoLimit : Array Value} {ccl_NoLimit : Value} {cdd_NoLimit : Option Addr} {ccs_NoLimit : Array (Option Value)} {cl_NoLimit : Value} {cld_NoLimit : Option Addr} {csl_NoLimit : Array (Option Value)} {tf_NoLimit : Tok}
    {i_NoRoom : Addr} {nm_NoRoom q_NoRoom : Str} {N_NoRoom : Addr} {bs_NoRoom : List Value} {sn_NoRoom : List Str} {sub_NoRoom : List Value} {ab_NoRoom : Bool} {col_NoRoom : Option Bool} {dd_NoRoom : Option Addr} {m0_NoRoom m1_NoRoom m2_NoRoom m3_NoRoom m5_NoRoom : Option Value}
    {oc_NoRoom doc_NoRoom pm_NoRoom ct_NoRoom : Value} {od_NoRoom an_NoRoom : Option Addr} {cda_NoRoom cc_NoRoom : Addr} {osl_NoRoom : Array (Option Value)} {vs_NoRoom : Array Value} {ccl_NoRoom : Value} {cdd_NoRoom : Option Addr} {ccs_NoRoom : Array (Option Value)} {cl_NoRoom : Value} {cld_NoRoom : Option Addr} {csl_NoRoom : Array (Option Value)} {tf_NoRoom : Tok}
    (a_is_integer : PySem.W.nsIn K mainGlobals "is_integer" = some (some (.ref f_is_integer)))
    (l_is_integer : K.lookup f_is_integer = some ⟨oc_is_integer, od_is_integer, .func (PySem.W.fnOf "is_integer" "is_integer" (defArgs s_is_integer) (defBody s_is_integer) (defScope s_is_integer) .none kV_is_integer dc_is_integer pm_is_integer an_is_integer cd_is_integer ct_is_integer), sl_is_integer⟩)
    (c_is_integer : PySem.W.codeIn K cd_is_integer "is_integer" = true)
    (k_is_integer : PySem.W.keepIn K (.ref f_is_integer) = true)
    (a_are_counts : PySem.W.nsIn K mainGlobals "are_counts" = some (some (.ref f_are_counts)))
    (l_are_counts : K.lookup f_are_counts = some ⟨oc_are_counts, od_are_counts, .func (PySem.W.fnOf "are_counts" "are_counts" (defArgs s_are_counts) (defBody s_are_counts) (defScope s_are_counts) .none kV_are_counts dc_are_counts pm_are_counts an_are_counts cd_are_counts ct_are_counts), sl_are_counts⟩)
    (c_are_counts : PySem.W.codeIn K cd_are_counts "are_counts" = true)
    (k_are_counts : PySem.W.keepIn K (.ref f_are_counts) = true)
    (a_room_taken : PySem.W.nsIn K mainGlobals "room_taken" = some (some (.ref f_room_taken)))
    (l_room_taken : K.lookup f_room_taken = some ⟨oc_room_taken, od_room_taken, .func (PySem.W.fnOf "room_taken" "room_taken" (defArgs s_room_taken) (defBody s_room_taken) (defScope s_room_taken) .none kV_room_taken dc_room_taken pm_room_taken an_room_taken cd_room_taken ct_room_taken), sl_room_taken⟩)
    (c_room_taken : PySem.W.codeIn K cd_room_taken "room_taken" = true)
    (k_room_taken : PySem.W.keepIn K (.ref f_room_taken) = true)
    (a_are_symbols : PySem.W.nsIn K mainGlobals "are_symbols" = some (some (.ref f_are_symbols)))
    (l_are_symbols : K.lookup f_are_symbols = some ⟨oc_are_symbols, od_are_symbols, .func (PySem.W.fnOf "are_symbols" "are_symbols" (defArgs s_are_symbols) (defBody s_are_symbols) (defScope s_are_symbols) .none kV_are_symbols dc_are_symbols pm_are_symbols an_are_symbols cd_are_symbols ct_are_symbols), sl_are_symbols⟩)
    (c_are_symbols : PySem.W.codeIn K cd_are_symbols "are_symbols" = true)
    (k_are_symbols : PySem.W.keepIn K (.ref f_are_symbols) = true)
    (a_table_fault : PySem.W.nsIn K mainGlobals "table_fault" = some (some (.ref f_table_fault)))
    (l_table_fault : K.lookup f_table_fault = some ⟨oc_table_fault, od_table_fault, .func (PySem.W.fnOf "table_fault" "table_fault" (defArgs s_table_fault) (defBody s_table_fault) (defScope s_table_fault) .none kV_table_fault dc_table_fault pm_table_fault an_table_fault cd_table_fault ct_table_fault), sl_table_fault⟩)
    (c_table_fault : PySem.W.codeIn K cd_table_fault "table_fault" = true)
    (k_table_fault : PySem.W.keepIn K (.ref f_table_fault) = true)
    (a_is_table : PySem.W.nsIn K mainGlobals "is_table" = some (some (.ref f_is_table)))
    (l_is_table : K.lookup f_is_table = some ⟨oc_is_table, od_is_table, .func (PySem.W.fnOf "is_table" "is_table" (defArgs s_is_table) (defBody s_is_table) (defScope s_is_table) .none kV_is_table dc_is_table pm_is_table an_is_table cd_is_table ct_is_table), sl_is_table⟩)
    (c_is_table : PySem.W.codeIn K cd_is_table "is_table" = true)
    (k_is_table : PySem.W.keepIn K (.ref f_is_table) = true)
    (a_check_table : PySem.W.nsIn K mainGlobals "check_table" = some (some (.ref f_check_table)))
    (l_check_table : K.lookup f_check_table = some ⟨oc_check_table, od_check_table, .func (PySem.W.fnOf "check_table" "check_table" (defArgs s_check_table) (defBody s_check_table) (defScope s_check_table) .none kV_check_table dc_check_table pm_check_table an_check_table cd_check_table ct_check_table), sl_check_table⟩)
    (c_check_table : PySem.W.codeIn K cd_check_table "check_table" = true)
    (k_check_table : PySem.W.keepIn K (.ref f_check_table) = true)
    (a_bits_as : PySem.W.nsIn K mainGlobals "bits_as" = some (some (.ref f_bits_as)))
    (l_bits_as : K.lookup f_bits_as = some ⟨oc_bits_as, od_bits_as, .func (PySem.W.fnOf "bits_as" "bits_as" (defArgs s_bits_as) (defBody s_bits_as) (defScope s_bits_as) .none kV_bits_as dc_bits_as pm_bits_as an_bits_as cd_bits_as ct_bits_as), sl_bits_as⟩)
    (c_bits_as : PySem.W.codeIn K cd_bits_as "bits_as" = true)
    (k_bits_as : PySem.W.keepIn K (.ref f_bits_as) = true)
    (a_codes : PySem.W.nsIn K mainGlobals "codes" = some (some (.ref f_codes)))
    (l_codes : K.lookup f_codes = some ⟨oc_codes, od_codes, .func (PySem.W.fnOf "codes" "codes" (defArgs s_codes) (defBody s_codes) (defScope s_codes) .none kV_codes dc_codes pm_codes an_codes cd_codes ct_codes), sl_codes⟩)
    (c_codes : PySem.W.codeIn K cd_codes "codes" = true)
    (k_codes : PySem.W.keepIn K (.ref f_codes) = true)
    (a_is_weight : PySem.W.nsIn K mainGlobals "is_weight" = some (some (.ref f_is_weight)))
    (l_is_weight : K.lookup f_is_weight = some ⟨oc_is_weight, od_is_weight, .func (PySem.W.fnOf "is_weight" "is_weight" (defArgs s_is_weight) (defBody s_is_weight) (defScope s_is_weight) .none kV_is_weight dc_is_weight pm_is_weight an_is_weight cd_is_weight ct_is_weight), sl_is_weight⟩)
    (c_is_weight : PySem.W.codeIn K cd_is_weight "is_weight" = true)
    (k_is_weight : PySem.W.keepIn K (.ref f_is_weight) = true)
    (a_check_weights : PySem.W.nsIn K mainGlobals "check_weights" = some (some (.ref f_check_weights)))
    (l_check_weights : K.lookup f_check_weights = some ⟨oc_check_weights, od_check_weights, .func (PySem.W.fnOf "check_weights" "check_weights" (defArgs s_check_weights) (defBody s_check_weights) (defScope s_check_weights) .none kV_check_weights dc_check_weights pm_check_weights an_check_weights (.ref cA_check_weights) ct_check_weights), sl_check_weights⟩)
    (c_check_weights : PySem.W.codeIn K (.ref cA_check_weights) "check_weights" = true)
    (tl_check_weights : K.lookup cA_check_weights = some ⟨cl_check_weights, co_check_weights, .fields cv_check_weights, cs_check_weights⟩)
    (tv_check_weights : cv_check_weights[11]? = some (.ref pA_check_weights))
    (tn_check_weights : K.lookup pA_check_weights = none)
    (k_check_weights : PySem.W.keepIn K (.ref f_check_weights) = true)
    (a_check_limit : PySem.W.nsIn K mainGlobals "check_limit" = some (some (.ref f_check_limit)))
    (l_check_limit : K.lookup f_check_limit = some ⟨oc_check_limit, od_check_limit, .func (PySem.W.fnOf "check_limit" "check_limit" (defArgs s_check_limit) (defBody s_check_limit) (defScope s_check_limit) .none kV_check_limit dc_check_limit pm_check_limit an_check_limit cd_check_limit ct_check_limit), sl_check_limit⟩)
    (c_check_limit : PySem.W.codeIn K cd_check_limit "check_limit" = true)
    (k_check_limit : PySem.W.keepIn K (.ref f_check_limit) = true)
    (a_check_room : PySem.W.nsIn K mainGlobals "check_room" = some (some (.ref f_check_room)))
    (l_check_room : K.lookup f_check_room = some ⟨oc_check_room, od_check_room, .func (PySem.W.fnOf "check_room" "check_room" (defArgs s_check_room) (defBody s_check_room) (defScope s_check_room) .none kV_check_room dc_check_room pm_check_room an_check_room cd_check_room ct_check_room), sl_check_room⟩)
    (c_check_room : PySem.W.codeIn K cd_check_room "check_room" = true)
    (k_check_room : PySem.W.keepIn K (.ref f_check_room) = true)
    (a_check_all : PySem.W.nsIn K mainGlobals "check_all" = some (some (.ref f_check_all)))
    (l_check_all : K.lookup f_check_all = some ⟨oc_check_all, od_check_all, .func (PySem.W.fnOf "check_all" "check_all" (defArgs s_check_all) (defBody s_check_all) (defScope s_check_all) .none kV_check_all dc_check_all pm_check_all an_check_all cd_check_all ct_check_all), sl_check_all⟩)
    (c_check_all : PySem.W.codeIn K cd_check_all "check_all" = true)
    (k_check_all : PySem.W.keepIn K (.ref f_check_all) = true)
    (a_coins_of : PySem.W.nsIn K mainGlobals "coins_of" = some (some (.ref f_coins_of)))
    (l_coins_of : K.lookup f_coins_of = some ⟨oc_coins_of, od_coins_of, .func (PySem.W.fnOf "coins_of" "coins_of" (defArgs s_coins_of) (defBody s_coins_of) (defScope s_coins_of) .none kV_coins_of dc_coins_of pm_coins_of an_coins_of cd_coins_of ct_coins_of), sl_coins_of⟩)
    (c_coins_of : PySem.W.codeIn K cd_coins_of "coins_of" = true)
    (k_coins_of : PySem.W.keepIn K (.ref f_coins_of) = true)
    (a_pairs_of : PySem.W.nsIn K mainGlobals "pairs_of" = some (some (.ref f_pairs_of)))
    (l_pairs_of : K.lookup f_pairs_of = some ⟨oc_pairs_of, od_pairs_of, .func (PySem.W.fnOf "pairs_of" "pairs_of" (defArgs s_pairs_of) (defBody s_pairs_of) (defScope s_pairs_of) .none kV_pairs_of dc_pairs_of pm_pairs_of an_pairs_of cd_pairs_of ct_pairs_of), sl_pairs_of⟩)
    (c_pairs_of : PySem.W.codeIn K cd_pairs_of "pairs_of" = true)
    (k_pairs_of : PySem.W.keepIn K (.ref f_pairs_of) = true)
    (a_rows_of : PySem.W.nsIn K mainGlobals "rows_of" = some (some (.ref f_rows_of)))
    (l_rows_of : K.lookup f_rows_of = some ⟨oc_rows_of, od_rows_of, .func (PySem.W.fnOf "rows_of" "rows_of" (defArgs s_rows_of) (defBody s_rows_of) (defScope s_rows_of) .none kV_rows_of dc_rows_of pm_rows_of an_rows_of cd_rows_of ct_rows_of), sl_rows_of⟩)
    (c_rows_of : PySem.W.codeIn K cd_rows_of "rows_of" = true)
    (k_rows_of : PySem.W.keepIn K (.ref f_rows_of) = true)
    (a_fewest_bits : PySem.W.nsIn K mainGlobals "fewest_bits" = some (some (.ref f_fewest_bits)))
    (l_fewest_bits : K.lookup f_fewest_bits = some ⟨oc_fewest_bits, od_fewest_bits, .func (PySem.W.fnOf "fewest_bits" "fewest_bits" (defArgs s_fewest_bits) (defBody s_fewest_bits) (defScope s_fewest_bits) .none kV_fewest_bits dc_fewest_bits pm_fewest_bits an_fewest_bits cd_fewest_bits ct_fewest_bits), sl_fewest_bits⟩)
    (c_fewest_bits : PySem.W.codeIn K cd_fewest_bits "fewest_bits" = true)
    (k_fewest_bits : PySem.W.keepIn K (.ref f_fewest_bits) = true)
    (a_least_bits : PySem.W.nsIn K mainGlobals "least_bits" = some (some (.ref f_least_bits)))
    (l_least_bits : K.lookup f_least_bits = some ⟨oc_least_bits, od_least_bits, .func (PySem.W.fnOf "least_bits" "least_bits" (defArgs s_least_bits) (defBody s_least_bits) (defScope s_least_bits) (.ref dT_least_bits) kV_least_bits dc_least_bits pm_least_bits an_least_bits cd_least_bits ct_least_bits), sl_least_bits⟩)
    (c_least_bits : PySem.W.codeIn K cd_least_bits "least_bits" = true)
    (k_least_bits : PySem.W.keepIn K (.ref f_least_bits) = true)
    (dl_least_bits : K.lookup dT_least_bits = some ⟨dC_least_bits, dD_least_bits, .seq dI_least_bits dN_least_bits, dS_least_bits⟩)
    (dr_least_bits : Vals [.int 16] dI_least_bits.toList)
    (a_coins_among : PySem.W.nsIn K mainGlobals "coins_among" = some (some (.ref f_coins_among)))
    (l_coins_among : K.lookup f_coins_among = some ⟨oc_coins_among, od_coins_among, .func (PySem.W.fnOf "coins_among" "coins_among" (defArgs s_coins_among) (defBody s_coins_among) (defScope s_coins_among) .none kV_coins_among dc_coins_among pm_coins_among an_coins_among cd_coins_among ct_coins_among), sl_coins_among⟩)
    (c_coins_among : PySem.W.codeIn K cd_coins_among "coins_among" = true)
    (k_coins_among : PySem.W.keepIn K (.ref f_coins_among) = true)
    (a_coins_taken : PySem.W.nsIn K mainGlobals "coins_taken" = some (some (.ref f_coins_taken)))
    (l_coins_taken : K.lookup f_coins_taken = some ⟨oc_coins_taken, od_coins_taken, .func (PySem.W.fnOf "coins_taken" "coins_taken" (defArgs s_coins_taken) (defBody s_coins_taken) (defScope s_coins_taken) .none kV_coins_taken dc_coins_taken pm_coins_taken an_coins_taken cd_coins_taken ct_coins_taken), sl_coins_taken⟩)
    (c_coins_taken : PySem.W.codeIn K cd_coins_taken "coins_taken" = true)
    (k_coins_taken : PySem.W.keepIn K (.ref f_coins_taken) = true)
    (a_least_table : PySem.W.nsIn K mainGlobals "least_table" = some (some (.ref f_least_table)))
    (l_least_table : K.lookup f_least_table = some ⟨oc_least_table, od_least_table, .func (PySem.W.fnOf "least_table" "least_table" (defArgs s_least_table) (defBody s_least_table) (defScope s_least_table) (.ref dT_least_table) kV_least_table dc_least_table pm_least_table an_least_table (.ref cA_least_table) ct_least_table), sl_least_table⟩)
    (c_least_table : PySem.W.codeIn K (.ref cA_least_table) "least_table" = true)
    (tl_least_table : K.lookup cA_least_table = some ⟨cl_least_table, co_least_table, .fields cv_least_table, cs_least_table⟩)
    (tv_least_table : cv_least_table[11]? = some (.ref pA_least_table))
    (tn_least_table : K.lookup pA_least_table = none)
    (k_least_table : PySem.W.keepIn K (.ref f_least_table) = true)
    (dl_least_table : K.lookup dT_least_table = some ⟨dC_least_table, dD_least_table, .seq dI_least_table dN_least_table, dS_least_table⟩)
    (dr_least_table : Vals [.int 16] dI_least_table.toList)
    (a_bits_by : PySem.W.nsIn K mainGlobals "bits_by" = some (some (.ref f_bits_by)))
    (l_bits_by : K.lookup f_bits_by = some ⟨oc_bits_by, od_bits_by, .func (PySem.W.fnOf "bits_by" "bits_by" (defArgs s_bits_by) (defBody s_bits_by) (defScope s_bits_by) .none kV_bits_by dc_bits_by pm_bits_by an_bits_by cd_bits_by ct_bits_by), sl_bits_by⟩)
    (c_bits_by : PySem.W.codeIn K cd_bits_by "bits_by" = true)
    (k_bits_by : PySem.W.keepIn K (.ref f_bits_by) = true)
    (a_table_bits : PySem.W.nsIn K mainGlobals "table_bits" = some (some (.ref f_table_bits)))
    (l_table_bits : K.lookup f_table_bits = some ⟨oc_table_bits, od_table_bits, .func (PySem.W.fnOf "table_bits" "table_bits" (defArgs s_table_bits) (defBody s_table_bits) (defScope s_table_bits) .none kV_table_bits dc_table_bits pm_table_bits an_table_bits cd_table_bits ct_table_bits), sl_table_bits⟩)
    (c_table_bits : PySem.W.codeIn K cd_table_bits "table_bits" = true)
    (k_table_bits : PySem.W.keepIn K (.ref f_table_bits) = true)
    (a_is_least : PySem.W.nsIn K mainGlobals "is_least" = some (some (.ref f_is_least)))
    (l_is_least : K.lookup f_is_least = some ⟨oc_is_least, od_is_least, .func (PySem.W.fnOf "is_least" "is_least" (defArgs s_is_least) (defBody s_is_least) (defScope s_is_least) (.ref dT_is_least) kV_is_least dc_is_least pm_is_least an_is_least cd_is_least ct_is_least), sl_is_least⟩)
    (c_is_least : PySem.W.codeIn K cd_is_least "is_least" = true)
    (k_is_least : PySem.W.keepIn K (.ref f_is_least) = true)
    (dl_is_least : K.lookup dT_is_least = some ⟨dC_is_least, dD_is_least, .seq dI_is_least dN_is_least, dS_is_least⟩)
    (dr_is_least : Vals [.int 16] dI_is_least.toList)
    (a_by_limits : PySem.W.nsIn K mainGlobals "by_limits" = some (some (.ref f_by_limits)))
    (l_by_limits : K.lookup f_by_limits = some ⟨oc_by_limits, od_by_limits, .func (PySem.W.fnOf "by_limits" "by_limits" (defArgs s_by_limits) (defBody s_by_limits) (defScope s_by_limits) .none kV_by_limits dc_by_limits pm_by_limits an_by_limits cd_by_limits ct_by_limits), sl_by_limits⟩)
    (c_by_limits : PySem.W.codeIn K cd_by_limits "by_limits" = true)
    (k_by_limits : PySem.W.keepIn K (.ref f_by_limits) = true)
    (a_law_cell_at : PySem.W.nsIn K mainGlobals "_law_cell_at" = some (some (.ref f_law_cell_at)))
    (l_law_cell_at : K.lookup f_law_cell_at = some ⟨oc_law_cell_at, od_law_cell_at, .func (PySem.W.fnOf "_law_cell_at" "_law_cell_at" (defArgs s_law_cell_at) (defBody s_law_cell_at) (defScope s_law_cell_at) .none kV_law_cell_at dc_law_cell_at pm_law_cell_at an_law_cell_at cd_law_cell_at ct_law_cell_at), sl_law_cell_at⟩)
    (c_law_cell_at : PySem.W.codeIn K cd_law_cell_at "_law_cell_at" = true)
    (k_law_cell_at : PySem.W.keepIn K (.ref f_law_cell_at) = true)
    (a_law_source_of : PySem.W.nsIn K mainGlobals "_law_source_of" = some (some (.ref f_law_source_of)))
    (l_law_source_of : K.lookup f_law_source_of = some ⟨oc_law_source_of, od_law_source_of, .func (PySem.W.fnOf "_law_source_of" "_law_source_of" (defArgs s_law_source_of) (defBody s_law_source_of) (defScope s_law_source_of) .none kV_law_source_of dc_law_source_of pm_law_source_of an_law_source_of cd_law_source_of ct_law_source_of), sl_law_source_of⟩)
    (c_law_source_of : PySem.W.codeIn K cd_law_source_of "_law_source_of" = true)
    (k_law_source_of : PySem.W.keepIn K (.ref f_law_source_of) = true)
    (a_law_next : PySem.W.nsIn K mainGlobals "_law_next" = some (some (.ref f_law_next)))
    (l_law_next : K.lookup f_law_next = some ⟨oc_law_next, od_law_next, .func (PySem.W.fnOf "_law_next" "_law_next" (defArgs s_law_next) (defBody s_law_next) (defScope s_law_next) .none kV_law_next dc_law_next pm_law_next an_law_next cd_law_next ct_law_next), sl_law_next⟩)
    (c_law_next : PySem.W.codeIn K cd_law_next "_law_next" = true)
    (k_law_next : PySem.W.keepIn K (.ref f_law_next) = true)
    (a_law_one : PySem.W.nsIn K mainGlobals "_law_one" = some (some (.ref f_law_one)))
    (l_law_one : K.lookup f_law_one = some ⟨oc_law_one, od_law_one, .func (PySem.W.fnOf "_law_one" "_law_one" (defArgs s_law_one) (defBody s_law_one) (defScope s_law_one) .none kV_law_one dc_law_one pm_law_one an_law_one cd_law_one ct_law_one), sl_law_one⟩)
    (c_law_one : PySem.W.codeIn K cd_law_one "_law_one" = true)
    (k_law_one : PySem.W.keepIn K (.ref f_law_one) = true)
    (a_law_lengths : PySem.W.nsIn K mainGlobals "_law_lengths" = some (some (.ref f_law_lengths)))
    (l_law_lengths : K.lookup f_law_lengths = some ⟨oc_law_lengths, od_law_lengths, .func (PySem.W.fnOf "_law_lengths" "_law_lengths" (defArgs s_law_lengths) (defBody s_law_lengths) (defScope s_law_lengths) .none kV_law_lengths dc_law_lengths pm_law_lengths an_law_lengths cd_law_lengths ct_law_lengths), sl_law_lengths⟩)
    (c_law_lengths : PySem.W.codeIn K cd_law_lengths "_law_lengths" = true)
    (k_law_lengths : PySem.W.keepIn K (.ref f_law_lengths) = true)
    (a_law_weights : PySem.W.nsIn K mainGlobals "_law_weights" = some (some (.ref f_law_weights)))
    (l_law_weights : K.lookup f_law_weights = some ⟨oc_law_weights, od_law_weights, .func (PySem.W.fnOf "_law_weights" "_law_weights" (defArgs s_law_weights) (defBody s_law_weights) (defScope s_law_weights) .none kV_law_weights dc_law_weights pm_law_weights an_law_weights cd_law_weights ct_law_weights), sl_law_weights⟩)
    (c_law_weights : PySem.W.codeIn K cd_law_weights "_law_weights" = true)
    (k_law_weights : PySem.W.keepIn K (.ref f_law_weights) = true)
    (a_law_free_bits : PySem.W.nsIn K mainGlobals "_law_free_bits" = some (some (.ref f_law_free_bits)))
    (l_law_free_bits : K.lookup f_law_free_bits = some ⟨oc_law_free_bits, od_law_free_bits, .func (PySem.W.fnOf "_law_free_bits" "_law_free_bits" (defArgs s_law_free_bits) (defBody s_law_free_bits) (defScope s_law_free_bits) .none kV_law_free_bits dc_law_free_bits pm_law_free_bits an_law_free_bits cd_law_free_bits ct_law_free_bits), sl_law_free_bits⟩)
    (c_law_free_bits : PySem.W.codeIn K cd_law_free_bits "_law_free_bits" = true)
    (k_law_free_bits : PySem.W.keepIn K (.ref f_law_free_bits) = true)
    (a_law_bits_by : PySem.W.nsIn K mainGlobals "_law_bits_by" = some (some (.ref f_law_bits_by)))
    (l_law_bits_by : K.lookup f_law_bits_by = some ⟨oc_law_bits_by, od_law_bits_by, .func (PySem.W.fnOf "_law_bits_by" "_law_bits_by" (defArgs s_law_bits_by) (defBody s_law_bits_by) (defScope s_law_bits_by) .none kV_law_bits_by dc_law_bits_by pm_law_bits_by an_law_bits_by cd_law_bits_by ct_law_bits_by), sl_law_bits_by⟩)
    (c_law_bits_by : PySem.W.codeIn K cd_law_bits_by "_law_bits_by" = true)
    (k_law_bits_by : PySem.W.keepIn K (.ref f_law_bits_by) = true)
    (a_law_right : PySem.W.nsIn K mainGlobals "_law_right" = some (some (.ref f_law_right)))
    (l_law_right : K.lookup f_law_right = some ⟨oc_law_right, od_law_right, .func (PySem.W.fnOf "_law_right" "_law_right" (defArgs s_law_right) (defBody s_law_right) (defScope s_law_right) .none kV_law_right dc_law_right pm_law_right an_law_right cd_law_right ct_law_right), sl_law_right⟩)
    (c_law_right : PySem.W.codeIn K cd_law_right "_law_right" = true)
    (k_law_right : PySem.W.keepIn K (.ref f_law_right) = true)
    (a_law : PySem.W.nsIn K mainGlobals "law" = some (some (.ref f_law)))
    (l_law : K.lookup f_law = some ⟨oc_law, od_law, .func (PySem.W.fnOf "law" "law" (defArgs s_law) (defBody s_law) (defScope s_law) .none kV_law dc_law pm_law an_law cd_law ct_law), sl_law⟩)
    (c_law : PySem.W.codeIn K cd_law "law" = true)
    (k_law : PySem.W.keepIn K (.ref f_law) = true)
    (b_all : PySem.W.nsIn K mainGlobals "all" = some none)
    (b_bool : PySem.W.nsIn K mainGlobals "bool" = some none)
    (b_dict : PySem.W.nsIn K mainGlobals "dict" = some none)
    (b_enumerate : PySem.W.nsIn K mainGlobals "enumerate" = some none)
    (b_int : PySem.W.nsIn K mainGlobals "int" = some none)
    (b_isinstance : PySem.W.nsIn K mainGlobals "isinstance" = some none)
    (b_len : PySem.W.nsIn K mainGlobals "len" = some none)
    (b_list : PySem.W.nsIn K mainGlobals "list" = some none)
    (b_max : PySem.W.nsIn K mainGlobals "max" = some none)
    (b_min : PySem.W.nsIn K mainGlobals "min" = some none)
    (b_range : PySem.W.nsIn K mainGlobals "range" = some none)
    (b_repr : PySem.W.nsIn K mainGlobals "repr" = some none)
    (b_set : PySem.W.nsIn K mainGlobals "set" = some none)
    (b_sorted : PySem.W.nsIn K mainGlobals "sorted" = some none)
    (b_sum : PySem.W.nsIn K mainGlobals "sum" = some none)
    (b_tuple : PySem.W.nsIn K mainGlobals "tuple" = some none)
    (v_LONGEST : PySem.W.nsIn K mainGlobals "LONGEST" = some (some (.int 16 t_LONGEST)))
    (v_MOST_WEIGHT : PySem.W.nsIn K mainGlobals "MOST_WEIGHT" = some (some (.int 1000000000000000000 t_MOST_WEIGHT)))
    (v_WHOLE : PySem.W.nsIn K mainGlobals "WHOLE" = some (some (.int 65536 t_WHOLE)))
    (xa_PicError : PySem.W.nsIn K mainGlobals "PicError" = some (some (.ref x_PicError)))
    (xe_PicError : PySem.W.subIn K (.ref x_PicError) (.type "BaseException") = some true)
    (xt_PicError : PySem.W.typeIn K (.ref x_PicError) = some (.type "type"))
    (xi_PicError : PySem.W.isClsIn K x_PicError = true)
    (xa_NoTable : PySem.W.nsIn K mainGlobals "NoTable" = some (some (.ref x_NoTable)))
    (xe_NoTable : PySem.W.subIn K (.ref x_NoTable) (.type "BaseException") = some true)
    (xt_NoTable : PySem.W.typeIn K (.ref x_NoTable) = some (.type "type"))
    (xi_NoTable : PySem.W.isClsIn K x_NoTable = true)
    (xa_NoSymbol : PySem.W.nsIn K mainGlobals "NoSymbol" = some (some (.ref x_NoSymbol)))
    (xe_NoSymbol : PySem.W.subIn K (.ref x_NoSymbol) (.type "BaseException") = some true)
    (xt_NoSymbol : PySem.W.typeIn K (.ref x_NoSymbol) = some (.type "type"))
    (xi_NoSymbol : PySem.W.isClsIn K x_NoSymbol = true)
    (xa_NoWeights : PySem.W.nsIn K mainGlobals "NoWeights" = some (some (.ref x_NoWeights)))
    (xe_NoWeights : PySem.W.subIn K (.ref x_NoWeights) (.type "BaseException") = some true)
    (xt_NoWeights : PySem.W.typeIn K (.ref x_NoWeights) = some (.type "type"))
    (xi_NoWeights : PySem.W.isClsIn K x_NoWeights = true)
    (xa_NoLimit : PySem.W.nsIn K mainGlobals "NoLimit" = some (some (.ref x_NoLimit)))
    (xe_NoLimit : PySem.W.subIn K (.ref x_NoLimit) (.type "BaseException") = some true)
    (xt_NoLimit : PySem.W.typeIn K (.ref x_NoLimit) = some (.type "type"))
    (xi_NoLimit : PySem.W.isClsIn K x_NoLimit = true)
    (xa_NoRoom : PySem.W.nsIn K mainGlobals "NoRoom" = some (some (.ref x_NoRoom)))
    (xe_NoRoom : PySem.W.subIn K (.ref x_NoRoom) (.type "BaseException") = some true)
    (xt_NoRoom : PySem.W.typeIn K (.ref x_NoRoom) = some (.type "type"))
    (xi_NoRoom : PySem.W.isClsIn K x_NoRoom = true)
    (xop : PySem.W.nsIn K PySem.cStatics "thirdparty.any" = some none)
    (xms : PySem.W.nsIn K mainGlobals "super" = some none)
    (xL_NoTable : K.lookup x_NoTable = some (excClassObj nm_NoTable q_NoTable x_NoTable N_NoTable bs_NoTable [.ref x_PicError, .type "ValueError", .type "Exception", .type "BaseException", .type "object"] true sn_NoTable sub_NoTable ab_NoTable col_NoTable dd_NoTable m0_NoTable m1_NoTable m2_NoTable m3_NoTable m5_NoTable "ValueError.__new__"))
    (sa_NoTable : PySem.W.findIn K (.ref x_NoTable) "__setattr__" = some (some (.builtin "object.__setattr__")))
    (ga_NoTable : PySem.W.findIn K (.ref x_NoTable) "__getattribute__" = some (some (.builtin "BaseException.__getattribute__")))
    (gg_NoTable : PySem.W.findIn K (.ref x_NoTable) "__getattr__" = some none)
    (no_NoTable_part : PySem.W.findIn K (.ref x_NoTable) "part" = some none)
    (kC_NoTable : PySem.W.keepIn K (.ref x_NoTable) = true)
    (hC_NoTable : PySem.W.hasDictIn K x_NoTable = true)
    (iC_NoTable : PySem.W.findIn K (.ref x_NoTable) "__init__" = some (some (.ref i_NoTable)))
    (tI_NoTable : PySem.W.typeIn K (.ref i_NoTable) = some (.type "function"))
    (lI_NoTable : K.lookup i_NoTable = some ⟨oc_NoTable, od_NoTable, .func (PySem.W.fnX "__init__" "NoTable.__init__" (defArgs si_NoTable) (defBody si_NoTable) (defScope si_NoTable) [("__class__", cc_NoTable)] .none .none doc_NoTable pm_NoTable an_NoTable (.ref cda_NoTable) ct_NoTable), osl_NoTable⟩)
    (cI_NoTable : PySem.W.codeIn K (.ref cda_NoTable) "NoTable.__init__" = true)
    (lc_NoTable : K.lookup cda_NoTable = some ⟨ccl_NoTable, cdd_NoTable, .fields vs_NoTable, ccs_NoTable⟩)
    (vf_NoTable : vs_NoTable[2]? = some (.str "/claim/cut.py" tf_NoTable))
    (lcc_NoTable : K.lookup cc_NoTable = some ⟨cl_NoTable, cld_NoTable, .cell (some (.ref x_NoTable)), csl_NoTable⟩)
    (su_NoTable : PySem.W.ks_superIn K x_NoTable x_NoTable "__init__" = some (some (.builtin "ValueError.__init__")))
    (sv_NoTable : PySem.W.subIn K (.ref x_NoTable) (.type "ValueError") = some true)
    (ss_NoTable : PySem.W.mroIn K x_NoTable (.ref x_NoTable) = some true)
    (s_NoTable_PicError : PySem.W.subIn K (.ref x_NoTable) (.ref x_PicError) = some true)
    (s_NoTable_NoTable : PySem.W.subIn K (.ref x_NoTable) (.ref x_NoTable) = some true)
    (s_NoTable_NoSymbol : PySem.W.subIn K (.ref x_NoTable) (.ref x_NoSymbol) = some false)
    (s_NoTable_NoWeights : PySem.W.subIn K (.ref x_NoTable) (.ref x_NoWeights) = some false)
    (s_NoTable_NoLimit : PySem.W.subIn K (.ref x_NoTable) (.ref x_NoLimit) = some false)
    (s_NoTable_NoRoom : PySem.W.subIn K (.ref x_NoTable) (.ref x_NoRoom) = some false)
    (xL_NoSymbol : K.lookup x_NoSymbol = some (excClassObj nm_NoSymbol q_NoSymbol x_NoSymbol N_NoSymbol bs_NoSymbol [.ref x_PicError, .type "ValueError", .type "Exception", .type "BaseException", .type "object"] true sn_NoSymbol sub_NoSymbol ab_NoSymbol col_NoSymbol dd_NoSymbol m0_NoSymbol m1_NoSymbol m2_NoSymbol m3_NoSymbol m5_NoSymbol "ValueError.__new__"))
    (sa_NoSymbol : PySem.W.findIn K (.ref x_NoSymbol) "__setattr__" = some (some (.builtin "object.__setattr__")))
    (ga_NoSymbol : PySem.W.findIn K (.ref x_NoSymbol) "__getattribute__" = some (some (.builtin "BaseException.__getattribute__")))
    (gg_NoSymbol : PySem.W.findIn K (.ref x_NoSymbol) "__getattr__" = some none)
    (no_NoSymbol_symbol : PySem.W.findIn K (.ref x_NoSymbol) "symbol" = some none)
    (kC_NoSymbol : PySem.W.keepIn K (.ref x_NoSymbol) = true)
    (hC_NoSymbol : PySem.W.hasDictIn K x_NoSymbol = true)
    (iC_NoSymbol : PySem.W.findIn K (.ref x_NoSymbol) "__init__" = some (some (.ref i_NoSymbol)))
    (tI_NoSymbol : PySem.W.typeIn K (.ref i_NoSymbol) = some (.type "function"))
    (lI_NoSymbol : K.lookup i_NoSymbol = some ⟨oc_NoSymbol, od_NoSymbol, .func (PySem.W.fnX "__init__" "NoSymbol.__init__" (defArgs si_NoSymbol) (defBody si_NoSymbol) (defScope si_NoSymbol) [("__class__", cc_NoSymbol)] .none .none doc_NoSymbol pm_NoSymbol an_NoSymbol (.ref cda_NoSymbol) ct_NoSymbol), osl_NoSymbol⟩)
    (cI_NoSymbol : PySem.W.codeIn K (.ref cda_NoSymbol) "NoSymbol.__init__" = true)
    (lc_NoSymbol : K.lookup cda_NoSymbol = some ⟨ccl_NoSymbol, cdd_NoSymbol, .fields vs_NoSymbol, ccs_NoSymbol⟩)
    (vf_NoSymbol : vs_NoSymbol[2]? = some (.str "/claim/cut.py" tf_NoSymbol))
    (lcc_NoSymbol : K.lookup cc_NoSymbol = some ⟨cl_NoSymbol, cld_NoSymbol, .cell (some (.ref x_NoSymbol)), csl_NoSymbol⟩)
    (su_NoSymbol : PySem.W.ks_superIn K x_NoSymbol x_NoSymbol "__init__" = some (some (.builtin "ValueError.__init__")))
    (sv_NoSymbol : PySem.W.subIn K (.ref x_NoSymbol) (.type "ValueError") = some true)
    (ss_NoSymbol : PySem.W.mroIn K x_NoSymbol (.ref x_NoSymbol) = some true)
    (s_NoSymbol_PicError : PySem.W.subIn K (.ref x_NoSymbol) (.ref x_PicError) = some true)
    (s_NoSymbol_NoTable : PySem.W.subIn K (.ref x_NoSymbol) (.ref x_NoTable) = some false)
    (s_NoSymbol_NoSymbol : PySem.W.subIn K (.ref x_NoSymbol) (.ref x_NoSymbol) = some true)
    (s_NoSymbol_NoWeights : PySem.W.subIn K (.ref x_NoSymbol) (.ref x_NoWeights) = some false)
    (s_NoSymbol_NoLimit : PySem.W.subIn K (.ref x_NoSymbol) (.ref x_NoLimit) = some false)
    (s_NoSymbol_NoRoom : PySem.W.subIn K (.ref x_NoSymbol) (.ref x_NoRoom) = some false)
    (xL_NoWeights : K.lookup x_NoWeights = some (excClassObj nm_NoWeights q_NoWeights x_NoWeights N_NoWeights bs_NoWeights [.ref x_PicError, .type "ValueError", .type "Exception", .type "BaseException", .type "object"] true sn_NoWeights sub_NoWeights ab_NoWeights col_NoWeights dd_NoWeights m0_NoWeights m1_NoWeights m2_NoWeights m3_NoWeights m5_NoWeights "ValueError.__new__"))
    (sa_NoWeights : PySem.W.findIn K (.ref x_NoWeights) "__setattr__" = some (some (.builtin "object.__setattr__")))
    (ga_NoWeights : PySem.W.findIn K (.ref x_NoWeights) "__getattribute__" = some (some (.builtin "BaseException.__getattribute__")))
    (gg_NoWeights : PySem.W.findIn K (.ref x_NoWeights) "__getattr__" = some none)
    (no_NoWeights_symbol : PySem.W.findIn K (.ref x_NoWeights) "symbol" = some none)
    (kC_NoWeights : PySem.W.keepIn K (.ref x_NoWeights) = true)
    (hC_NoWeights : PySem.W.hasDictIn K x_NoWeights = true)
    (iC_NoWeights : PySem.W.findIn K (.ref x_NoWeights) "__init__" = some (some (.ref i_NoWeights)))
    (tI_NoWeights : PySem.W.typeIn K (.ref i_NoWeights) = some (.type "function"))
    (lI_NoWeights : K.lookup i_NoWeights = some ⟨oc_NoWeights, od_NoWeights, .func (PySem.W.fnX "__init__" "NoWeights.__init__" (defArgs si_NoWeights) (defBody si_NoWeights) (defScope si_NoWeights) [("__class__", cc_NoWeights)] .none .none doc_NoWeights pm_NoWeights an_NoWeights (.ref cda_NoWeights) ct_NoWeights), osl_NoWeights⟩)
    (cI_NoWeights : PySem.W.codeIn K (.ref cda_NoWeights) "NoWeights.__init__" = true)
    (lc_NoWeights : K.lookup cda_NoWeights = some ⟨ccl_NoWeights, cdd_NoWeights, .fields vs_NoWeights, ccs_NoWeights⟩)
    (vf_NoWeights : vs_NoWeights[2]? = some (.str "/claim/cut.py" tf_NoWeights))
    (lcc_NoWeights : K.lookup cc_NoWeights = some ⟨cl_NoWeights, cld_NoWeights, .cell (some (.ref x_NoWeights)), csl_NoWeights⟩)
    (su_NoWeights : PySem.W.ks_superIn K x_NoWeights x_NoWeights "__init__" = some (some (.builtin "ValueError.__init__")))
    (sv_NoWeights : PySem.W.subIn K (.ref x_NoWeights) (.type "ValueError") = some true)
    (ss_NoWeights : PySem.W.mroIn K x_NoWeights (.ref x_NoWeights) = some true)
    (s_NoWeights_PicError : PySem.W.subIn K (.ref x_NoWeights) (.ref x_PicError) = some true)
    (s_NoWeights_NoTable : PySem.W.subIn K (.ref x_NoWeights) (.ref x_NoTable) = some false)
    (s_NoWeights_NoSymbol : PySem.W.subIn K (.ref x_NoWeights) (.ref x_NoSymbol) = some false)
    (s_NoWeights_NoWeights : PySem.W.subIn K (.ref x_NoWeights) (.ref x_NoWeights) = some true)
    (s_NoWeights_NoLimit : PySem.W.subIn K (.ref x_NoWeights) (.ref x_NoLimit) = some false)
    (s_NoWeights_NoRoom : PySem.W.subIn K (.ref x_NoWeights) (.ref x_NoRoom) = some false)
    (xL_NoLimit : K.lookup x_NoLimit = some (excClassObj nm_NoLimit q_NoLimit x_NoLimit N_NoLimit bs_NoLimit [.ref x_PicError, .type "ValueError", .type "Exception", .type "BaseException", .type "object"] true sn_NoLimit sub_NoLimit ab_NoLimit col_NoLimit dd_NoLimit m0_NoLimit m1_NoLimit m2_NoLimit m3_NoLimit m5_NoLimit "ValueError.__new__"))
    (sa_NoLimit : PySem.W.findIn K (.ref x_NoLimit) "__setattr__" = some (some (.builtin "object.__setattr__")))
    (ga_NoLimit : PySem.W.findIn K (.ref x_NoLimit) "__getattribute__" = some (some (.builtin "BaseException.__getattribute__")))
    (gg_NoLimit : PySem.W.findIn K (.ref x_NoLimit) "__getattr__" = some none)
    (no_NoLimit_limit : PySem.W.findIn K (.ref x_NoLimit) "limit" = some none)
    (kC_NoLimit : PySem.W.keepIn K (.ref x_NoLimit) = true)
    (hC_NoLimit : PySem.W.hasDictIn K x_NoLimit = true)
    (iC_NoLimit : PySem.W.findIn K (.ref x_NoLimit) "__init__" = some (some (.ref i_NoLimit)))
    (tI_NoLimit : PySem.W.typeIn K (.ref i_NoLimit) = some (.type "function"))
    (lI_NoLimit : K.lookup i_NoLimit = some ⟨oc_NoLimit, od_NoLimit, .func (PySem.W.fnX "__init__" "NoLimit.__init__" (defArgs si_NoLimit) (defBody si_NoLimit) (defScope si_NoLimit) [("__class__", cc_NoLimit)] .none .none doc_NoLimit pm_NoLimit an_NoLimit (.ref cda_NoLimit) ct_NoLimit), osl_NoLimit⟩)
    (cI_NoLimit : PySem.W.codeIn K (.ref cda_NoLimit) "NoLimit.__init__" = true)
    (lc_NoLimit : K.lookup cda_NoLimit = some ⟨ccl_NoLimit, cdd_NoLimit, .fields vs_NoLimit, ccs_NoLimit⟩)
    (vf_NoLimit : vs_NoLimit[2]? = some (.str "/claim/cut.py" tf_NoLimit))
    (lcc_NoLimit : K.lookup cc_NoLimit = some ⟨cl_NoLimit, cld_NoLimit, .cell (some (.ref x_NoLimit)), csl_NoLimit⟩)
    (su_NoLimit : PySem.W.ks_superIn K x_NoLimit x_NoLimit "__init__" = some (some (.builtin "ValueError.__init__")))
    (sv_NoLimit : PySem.W.subIn K (.ref x_NoLimit) (.type "ValueError") = some true)
    (ss_NoLimit : PySem.W.mroIn K x_NoLimit (.ref x_NoLimit) = some true)
    (s_NoLimit_PicError : PySem.W.subIn K (.ref x_NoLimit) (.ref x_PicError) = some true)
    (s_NoLimit_NoTable : PySem.W.subIn K (.ref x_NoLimit) (.ref x_NoTable) = some false)
    (s_NoLimit_NoSymbol : PySem.W.subIn K (.ref x_NoLimit) (.ref x_NoSymbol) = some false)
    (s_NoLimit_NoWeights : PySem.W.subIn K (.ref x_NoLimit) (.ref x_NoWeights) = some false)
    (s_NoLimit_NoLimit : PySem.W.subIn K (.ref x_NoLimit) (.ref x_NoLimit) = some true)
    (s_NoLimit_NoRoom : PySem.W.subIn K (.ref x_NoLimit) (.ref x_NoRoom) = some false)
    (xL_NoRoom : K.lookup x_NoRoom = some (excClassObj nm_NoRoom q_NoRoom x_NoRoom N_NoRoom bs_NoRoom [.ref x_PicError, .type "ValueError", .type "Exception", .type "BaseException", .type "object"] true sn_NoRoom sub_NoRoom ab_NoRoom col_NoRoom dd_NoRoom m0_NoRoom m1_NoRoom m2_NoRoom m3_NoRoom m5_NoRoom "ValueError.__new__"))
    (sa_NoRoom : PySem.W.findIn K (.ref x_NoRoom) "__setattr__" = some (some (.builtin "object.__setattr__")))
    (ga_NoRoom : PySem.W.findIn K (.ref x_NoRoom) "__getattribute__" = some (some (.builtin "BaseException.__getattribute__")))
    (gg_NoRoom : PySem.W.findIn K (.ref x_NoRoom) "__getattr__" = some none)
    (no_NoRoom_limit : PySem.W.findIn K (.ref x_NoRoom) "limit" = some none)
    (kC_NoRoom : PySem.W.keepIn K (.ref x_NoRoom) = true)
    (hC_NoRoom : PySem.W.hasDictIn K x_NoRoom = true)
    (iC_NoRoom : PySem.W.findIn K (.ref x_NoRoom) "__init__" = some (some (.ref i_NoRoom)))
    (tI_NoRoom : PySem.W.typeIn K (.ref i_NoRoom) = some (.type "function"))
    (lI_NoRoom : K.lookup i_NoRoom = some ⟨oc_NoRoom, od_NoRoom, .func (PySem.W.fnX "__init__" "NoRoom.__init__" (defArgs si_NoRoom) (defBody si_NoRoom) (defScope si_NoRoom) [("__class__", cc_NoRoom)] .none .none doc_NoRoom pm_NoRoom an_NoRoom (.ref cda_NoRoom) ct_NoRoom), osl_NoRoom⟩)
    (cI_NoRoom : PySem.W.codeIn K (.ref cda_NoRoom) "NoRoom.__init__" = true)
    (lc_NoRoom : K.lookup cda_NoRoom = some ⟨ccl_NoRoom, cdd_NoRoom, .fields vs_NoRoom, ccs_NoRoom⟩)
    (vf_NoRoom : vs_NoRoom[2]? = some (.str "/claim/cut.py" tf_NoRoom))
    (lcc_NoRoom : K.lookup cc_NoRoom = some ⟨cl_NoRoom, cld_NoRoom, .cell (some (.ref x_NoRoom)), csl_NoRoom⟩)
    (su_NoRoom : PySem.W.ks_superIn K x_NoRoom x_NoRoom "__init__" = some (some (.builtin "ValueError.__init__")))
    (sv_NoRoom : PySem.W.subIn K (.ref x_NoRoom) (.type "ValueError") = some true)
    (ss_NoRoom : PySem.W.mroIn K x_NoRoom (.ref x_NoRoom) = some true)
    (s_NoRoom_PicError : PySem.W.subIn K (.ref x_NoRoom) (.ref x_PicError) = some true)
    (s_NoRoom_NoTable : PySem.W.subIn K (.ref x_NoRoom) (.ref x_NoTable) = some false)
    (s_NoRoom_NoSymbol : PySem.W.subIn K (.ref x_NoRoom) (.ref x_NoSymbol) = some false)
    (s_NoRoom_NoWeights : PySem.W.subIn K (.ref x_NoRoom) (.ref x_NoWeights) = some false)
    (s_NoRoom_NoLimit : PySem.W.subIn K (.ref x_NoRoom) (.ref x_NoLimit) = some false)
    (s_NoRoom_NoRoom : PySem.W.subIn K (.ref x_NoRoom) (.ref x_NoRoom) = some true)
    (rec : CT cA_check_weights pA_check_weights ∧ CT cA_least_table pA_least_table)
    (ndp : [pA_check_weights, pA_least_table].Nodup) :
    ∃ (fd : FuncData) (ts : List Tb) (sp : MSp), (ts.map (·.P)).Nodup ∧ (∀ t ∈ ts, PySem.W.tabIn K t.x = some (t.c, t.P) ∧ K.lookup t.P = none ∧ CT t.c t.P) ∧ LawOkT 63 ts sp ∧
      (∀ (s : Shared) (v : Value), BindsTo s fd ⟨[v], []⟩ [("_law_script", v)]) ∧ ∀ base : Heap, K.In base → base.Ns mainGlobals mg → (∀ t ∈ ts, LamX.TabB base mg t.c t.P) → FnM PySem.Challenge.rw_blockpics_k23_whole_least_tables_of_many.prog w K mg base 9 fa fd ["_law_script"] sp := by
  have e : f_law = fa := by
    have z := hfa.symm.trans (PySem.W.mg_of X G a_law)
    cases z
    rfl
  subst e
  have nof_NoTable : ∀ f ∈ (["part"] : List Str), PySem.W.findIn K (.ref x_NoTable) f = some none := by
    intro f hf
    simp only [List.mem_cons, List.not_mem_nil, or_false] at hf
    subst hf
    · exact no_NoTable_part
  have nof_NoSymbol : ∀ f ∈ (["symbol"] : List Str), PySem.W.findIn K (.ref x_NoSymbol) f = some none := by
    intro f hf
    simp only [List.mem_cons, List.not_mem_nil, or_false] at hf
    subst hf
    · exact no_NoSymbol_symbol
  have nof_NoWeights : ∀ f ∈ (["symbol"] : List Str), PySem.W.findIn K (.ref x_NoWeights) f = some none := by
    intro f hf
    simp only [List.mem_cons, List.not_mem_nil, or_false] at hf
    subst hf
    · exact no_NoWeights_symbol
  have nof_NoLimit : ∀ f ∈ (["limit"] : List Str), PySem.W.findIn K (.ref x_NoLimit) f = some none := by
    intro f hf
    simp only [List.mem_cons, List.not_mem_nil, or_false] at hf
    subst hf
    · exact no_NoLimit_limit
  have nof_NoRoom : ∀ f ∈ (["limit"] : List Str), PySem.W.findIn K (.ref x_NoRoom) f = some none := by
    intro f hf
    simp only [List.mem_cons, List.not_mem_nil, or_false] at hf
    subst hf
    · exact no_NoRoom_limit
  have T : Txt PySem.Challenge.rw_blockpics_k23_whole_least_tables_of_many.prog w K mg { f_is_integer := f_is_integer, e_is_integer := (PySem.W.fnOf "is_integer" "is_integer" (defArgs s_is_integer) (defBody s_is_integer) (defScope s_is_integer) .none kV_is_integer dc_is_integer pm_is_integer an_is_integer cd_is_integer ct_is_integer), f_are_counts := f_are_counts, e_are_counts := (PySem.W.fnOf "are_counts" "are_counts" (defArgs s_are_counts) (defBody s_are_counts) (defScope s_are_counts) .none kV_are_counts dc_are_counts pm_are_counts an_are_counts cd_are_counts ct_are_counts), f_room_taken := f_room_taken, e_room_taken := (PySem.W.fnOf "room_taken" "room_taken" (defArgs s_room_taken) (defBody s_room_taken) (defScope s_room_taken) .none kV_room_taken dc_room_taken pm_room_taken an_room_taken cd_room_taken ct_room_taken), f_are_symbols := f_are_symbols, e_are_symbols := (PySem.W.fnOf "are_symbols" "are_symbols" (defArgs s_are_symbols) (defBody s_are_symbols) (defScope s_are_symbols) .none kV_are_symbols dc_are_symbols pm_are_symbols an_are_symbols cd_are_symbols ct_are_symbols), f_table_fault := f_table_fault, e_table_fault := (PySem.W.fnOf "table_fault" "table_fault" (defArgs s_table_fault) (defBody s_table_fault) (defScope s_table_fault) .none kV_table_fault dc_table_fault pm_table_fault an_table_fault cd_table_fault ct_table_fault), f_is_table := f_is_table, e_is_table := (PySem.W.fnOf "is_table" "is_table" (defArgs s_is_table) (defBody s_is_table) (defScope s_is_table) .none kV_is_table dc_is_table pm_is_table an_is_table cd_is_table ct_is_table), f_check_table := f_check_table, e_check_table := (PySem.W.fnOf "check_table" "check_table" (defArgs s_check_table) (defBody s_check_table) (defScope s_check_table) .none kV_check_table dc_check_table pm_check_table an_check_table cd_check_table ct_check_table), f_bits_as := f_bits_as, e_bits_as := (PySem.W.fnOf "bits_as" "bits_as" (defArgs s_bits_as) (defBody s_bits_as) (defScope s_bits_as) .none kV_bits_as dc_bits_as pm_bits_as an_bits_as cd_bits_as ct_bits_as), f_codes := f_codes, e_codes := (PySem.W.fnOf "codes" "codes" (defArgs s_codes) (defBody s_codes) (defScope s_codes) .none kV_codes dc_codes pm_codes an_codes cd_codes ct_codes), f_is_weight := f_is_weight, e_is_weight := (PySem.W.fnOf "is_weight" "is_weight" (defArgs s_is_weight) (defBody s_is_weight) (defScope s_is_weight) .none kV_is_weight dc_is_weight pm_is_weight an_is_weight cd_is_weight ct_is_weight), f_check_weights := f_check_weights, e_check_weights := (PySem.W.fnOf "check_weights" "check_weights" (defArgs s_check_weights) (defBody s_check_weights) (defScope s_check_weights) .none kV_check_weights dc_check_weights pm_check_weights an_check_weights (.ref cA_check_weights) ct_check_weights), c_check_weights := cA_check_weights, p_check_weights := pA_check_weights, f_check_limit := f_check_limit, e_check_limit := (PySem.W.fnOf "check_limit" "check_limit" (defArgs s_check_limit) (defBody s_check_limit) (defScope s_check_limit) .none kV_check_limit dc_check_limit pm_check_limit an_check_limit cd_check_limit ct_check_limit), f_check_room := f_check_room, e_check_room := (PySem.W.fnOf "check_room" "check_room" (defArgs s_check_room) (defBody s_check_room) (defScope s_check_room) .none kV_check_room dc_check_room pm_check_room an_check_room cd_check_room ct_check_room), f_check_all := f_check_all, e_check_all := (PySem.W.fnOf "check_all" "check_all" (defArgs s_check_all) (defBody s_check_all) (defScope s_check_all) .none kV_check_all dc_check_all pm_check_all an_check_all cd_check_all ct_check_all), f_coins_of := f_coins_of, e_coins_of := (PySem.W.fnOf "coins_of" "coins_of" (defArgs s_coins_of) (defBody s_coins_of) (defScope s_coins_of) .none kV_coins_of dc_coins_of pm_coins_of an_coins_of cd_coins_of ct_coins_of), f_pairs_of := f_pairs_of, e_pairs_of := (PySem.W.fnOf "pairs_of" "pairs_of" (defArgs s_pairs_of) (defBody s_pairs_of) (defScope s_pairs_of) .none kV_pairs_of dc_pairs_of pm_pairs_of an_pairs_of cd_pairs_of ct_pairs_of), f_rows_of := f_rows_of, e_rows_of := (PySem.W.fnOf "rows_of" "rows_of" (defArgs s_rows_of) (defBody s_rows_of) (defScope s_rows_of) .none kV_rows_of dc_rows_of pm_rows_of an_rows_of cd_rows_of ct_rows_of), f_fewest_bits := f_fewest_bits, e_fewest_bits := (PySem.W.fnOf "fewest_bits" "fewest_bits" (defArgs s_fewest_bits) (defBody s_fewest_bits) (defScope s_fewest_bits) .none kV_fewest_bits dc_fewest_bits pm_fewest_bits an_fewest_bits cd_fewest_bits ct_fewest_bits), f_least_bits := f_least_bits, e_least_bits := (PySem.W.fnOf "least_bits" "least_bits" (defArgs s_least_bits) (defBody s_least_bits) (defScope s_least_bits) (.ref dT_least_bits) kV_least_bits dc_least_bits pm_least_bits an_least_bits cd_least_bits ct_least_bits), f_coins_among := f_coins_among, e_coins_among := (PySem.W.fnOf "coins_among" "coins_among" (defArgs s_coins_among) (defBody s_coins_among) (defScope s_coins_among) .none kV_coins_among dc_coins_among pm_coins_among an_coins_among cd_coins_among ct_coins_among), f_coins_taken := f_coins_taken, e_coins_taken := (PySem.W.fnOf "coins_taken" "coins_taken" (defArgs s_coins_taken) (defBody s_coins_taken) (defScope s_coins_taken) .none kV_coins_taken dc_coins_taken pm_coins_taken an_coins_taken cd_coins_taken ct_coins_taken), f_least_table := f_least_table, e_least_table := (PySem.W.fnOf "least_table" "least_table" (defArgs s_least_table) (defBody s_least_table) (defScope s_least_table) (.ref dT_least_table) kV_least_table dc_least_table pm_least_table an_least_table (.ref cA_least_table) ct_least_table), c_least_table := cA_least_table, p_least_table := pA_least_table, f_bits_by := f_bits_by, e_bits_by := (PySem.W.fnOf "bits_by" "bits_by" (defArgs s_bits_by) (defBody s_bits_by) (defScope s_bits_by) .none kV_bits_by dc_bits_by pm_bits_by an_bits_by cd_bits_by ct_bits_by), f_table_bits := f_table_bits, e_table_bits := (PySem.W.fnOf "table_bits" "table_bits" (defArgs s_table_bits) (defBody s_table_bits) (defScope s_table_bits) .none kV_table_bits dc_table_bits pm_table_bits an_table_bits cd_table_bits ct_table_bits), f_is_least := f_is_least, e_is_least := (PySem.W.fnOf "is_least" "is_least" (defArgs s_is_least) (defBody s_is_least) (defScope s_is_least) (.ref dT_is_least) kV_is_least dc_is_least pm_is_least an_is_least cd_is_least ct_is_least), f_by_limits := f_by_limits, e_by_limits := (PySem.W.fnOf "by_limits" "by_limits" (defArgs s_by_limits) (defBody s_by_limits) (defScope s_by_limits) .none kV_by_limits dc_by_limits pm_by_limits an_by_limits cd_by_limits ct_by_limits), f_law_cell_at := f_law_cell_at, e_law_cell_at := (PySem.W.fnOf "_law_cell_at" "_law_cell_at" (defArgs s_law_cell_at) (defBody s_law_cell_at) (defScope s_law_cell_at) .none kV_law_cell_at dc_law_cell_at pm_law_cell_at an_law_cell_at cd_law_cell_at ct_law_cell_at), f_law_source_of := f_law_source_of, e_law_source_of := (PySem.W.fnOf "_law_source_of" "_law_source_of" (defArgs s_law_source_of) (defBody s_law_source_of) (defScope s_law_source_of) .none kV_law_source_of dc_law_source_of pm_law_source_of an_law_source_of cd_law_source_of ct_law_source_of), f_law_next := f_law_next, e_law_next := (PySem.W.fnOf "_law_next" "_law_next" (defArgs s_law_next) (defBody s_law_next) (defScope s_law_next) .none kV_law_next dc_law_next pm_law_next an_law_next cd_law_next ct_law_next), f_law_one := f_law_one, e_law_one := (PySem.W.fnOf "_law_one" "_law_one" (defArgs s_law_one) (defBody s_law_one) (defScope s_law_one) .none kV_law_one dc_law_one pm_law_one an_law_one cd_law_one ct_law_one), f_law_lengths := f_law_lengths, e_law_lengths := (PySem.W.fnOf "_law_lengths" "_law_lengths" (defArgs s_law_lengths) (defBody s_law_lengths) (defScope s_law_lengths) .none kV_law_lengths dc_law_lengths pm_law_lengths an_law_lengths cd_law_lengths ct_law_lengths), f_law_weights := f_law_weights, e_law_weights := (PySem.W.fnOf "_law_weights" "_law_weights" (defArgs s_law_weights) (defBody s_law_weights) (defScope s_law_weights) .none kV_law_weights dc_law_weights pm_law_weights an_law_weights cd_law_weights ct_law_weights), f_law_free_bits := f_law_free_bits, e_law_free_bits := (PySem.W.fnOf "_law_free_bits" "_law_free_bits" (defArgs s_law_free_bits) (defBody s_law_free_bits) (defScope s_law_free_bits) .none kV_law_free_bits dc_law_free_bits pm_law_free_bits an_law_free_bits cd_law_free_bits ct_law_free_bits), f_law_bits_by := f_law_bits_by, e_law_bits_by := (PySem.W.fnOf "_law_bits_by" "_law_bits_by" (defArgs s_law_bits_by) (defBody s_law_bits_by) (defScope s_law_bits_by) .none kV_law_bits_by dc_law_bits_by pm_law_bits_by an_law_bits_by cd_law_bits_by ct_law_bits_by), f_law_right := f_law_right, e_law_right := (PySem.W.fnOf "_law_right" "_law_right" (defArgs s_law_right) (defBody s_law_right) (defScope s_law_right) .none kV_law_right dc_law_right pm_law_right an_law_right cd_law_right ct_law_right), f_law := f_law, e_law := (PySem.W.fnOf "law" "law" (defArgs s_law) (defBody s_law) (defScope s_law) .none kV_law dc_law pm_law an_law cd_law ct_law), t_LONGEST := t_LONGEST, t_MOST_WEIGHT := t_MOST_WEIGHT, t_WHOLE := t_WHOLE, x_PicError := x_PicError, i_PicError := 0, x_NoTable := x_NoTable, i_NoTable := i_NoTable, x_NoSymbol := x_NoSymbol, i_NoSymbol := i_NoSymbol, x_NoWeights := x_NoWeights, i_NoWeights := i_NoWeights, x_NoLimit := x_NoLimit, i_NoLimit := i_NoLimit, x_NoRoom := x_NoRoom, i_NoRoom := i_NoRoom } := {
    g_is_integer := PySem.W.mg_of X G a_is_integer
    F_is_integer := fun_mk (st := s_is_integer) l_is_integer c_is_integer k_is_integer
    g_are_counts := PySem.W.mg_of X G a_are_counts
    F_are_counts := fun_mk (st := s_are_counts) l_are_counts c_are_counts k_are_counts
    g_room_taken := PySem.W.mg_of X G a_room_taken
    F_room_taken := fun_mk (st := s_room_taken) l_room_taken c_room_taken k_room_taken
    g_are_symbols := PySem.W.mg_of X G a_are_symbols
    F_are_symbols := fun_mk (st := s_are_symbols) l_are_symbols c_are_symbols k_are_symbols
    g_table_fault := PySem.W.mg_of X G a_table_fault
    F_table_fault := fun_mk (st := s_table_fault) l_table_fault c_table_fault k_table_fault
    g_is_table := PySem.W.mg_of X G a_is_table
    F_is_table := fun_mk (st := s_is_table) l_is_table c_is_table k_is_table
    g_check_table := PySem.W.mg_of X G a_check_table
    F_check_table := fun_mk (st := s_check_table) l_check_table c_check_table k_check_table
    g_bits_as := PySem.W.mg_of X G a_bits_as
    F_bits_as := fun_mk (st := s_bits_as) l_bits_as c_bits_as k_bits_as
    g_codes := PySem.W.mg_of X G a_codes
    F_codes := fun_mk (st := s_codes) l_codes c_codes k_codes
    g_is_weight := PySem.W.mg_of X G a_is_weight
    F_is_weight := fun_mk (st := s_is_weight) l_is_weight c_is_weight k_is_weight
    cd_check_weights := rfl
    g_check_weights := PySem.W.mg_of X G a_check_weights
    F_check_weights := fun_mk (st := s_check_weights) l_check_weights c_check_weights k_check_weights
    g_check_limit := PySem.W.mg_of X G a_check_limit
    F_check_limit := fun_mk (st := s_check_limit) l_check_limit c_check_limit k_check_limit
    g_check_room := PySem.W.mg_of X G a_check_room
    F_check_room := fun_mk (st := s_check_room) l_check_room c_check_room k_check_room
    g_check_all := PySem.W.mg_of X G a_check_all
    F_check_all := fun_mk (st := s_check_all) l_check_all c_check_all k_check_all
    g_coins_of := PySem.W.mg_of X G a_coins_of
    F_coins_of := fun_mk (st := s_coins_of) l_coins_of c_coins_of k_coins_of
    g_pairs_of := PySem.W.mg_of X G a_pairs_of
    F_pairs_of := fun_mk (st := s_pairs_of) l_pairs_of c_pairs_of k_pairs_of
    g_rows_of := PySem.W.mg_of X G a_rows_of
    F_rows_of := fun_mk (st := s_rows_of) l_rows_of c_rows_of k_rows_of
    g_fewest_bits := PySem.W.mg_of X G a_fewest_bits
    F_fewest_bits := fun_mk (st := s_fewest_bits) l_fewest_bits c_fewest_bits k_fewest_bits
    g_least_bits := PySem.W.mg_of X G a_least_bits
    F_least_bits := funD_mk (st := s_least_bits) l_least_bits c_least_bits k_least_bits dl_least_bits (List.cons_ne_nil _ _) dr_least_bits
    g_coins_among := PySem.W.mg_of X G a_coins_among
    F_coins_among := fun_mk (st := s_coins_among) l_coins_among c_coins_among k_coins_among
    g_coins_taken := PySem.W.mg_of X G a_coins_taken
    F_coins_taken := fun_mk (st := s_coins_taken) l_coins_taken c_coins_taken k_coins_taken
    cd_least_table := rfl
    g_least_table := PySem.W.mg_of X G a_least_table
    F_least_table := funD_mk (st := s_least_table) l_least_table c_least_table k_least_table dl_least_table (List.cons_ne_nil _ _) dr_least_table
    g_bits_by := PySem.W.mg_of X G a_bits_by
    F_bits_by := fun_mk (st := s_bits_by) l_bits_by c_bits_by k_bits_by
    g_table_bits := PySem.W.mg_of X G a_table_bits
    F_table_bits := fun_mk (st := s_table_bits) l_table_bits c_table_bits k_table_bits
    g_is_least := PySem.W.mg_of X G a_is_least
    F_is_least := funD_mk (st := s_is_least) l_is_least c_is_least k_is_least dl_is_least (List.cons_ne_nil _ _) dr_is_least
    g_by_limits := PySem.W.mg_of X G a_by_limits
    F_by_limits := fun_mk (st := s_by_limits) l_by_limits c_by_limits k_by_limits
    g_law_cell_at := PySem.W.mg_of X G a_law_cell_at
    F_law_cell_at := fun_mk (st := s_law_cell_at) l_law_cell_at c_law_cell_at k_law_cell_at
    g_law_source_of := PySem.W.mg_of X G a_law_source_of
    F_law_source_of := fun_mk (st := s_law_source_of) l_law_source_of c_law_source_of k_law_source_of
    g_law_next := PySem.W.mg_of X G a_law_next
    F_law_next := fun_mk (st := s_law_next) l_law_next c_law_next k_law_next
    g_law_one := PySem.W.mg_of X G a_law_one
    F_law_one := fun_mk (st := s_law_one) l_law_one c_law_one k_law_one
    g_law_lengths := PySem.W.mg_of X G a_law_lengths
    F_law_lengths := fun_mk (st := s_law_lengths) l_law_lengths c_law_lengths k_law_lengths
    g_law_weights := PySem.W.mg_of X G a_law_weights
    F_law_weights := fun_mk (st := s_law_weights) l_law_weights c_law_weights k_law_weights
    g_law_free_bits := PySem.W.mg_of X G a_law_free_bits
    F_law_free_bits := fun_mk (st := s_law_free_bits) l_law_free_bits c_law_free_bits k_law_free_bits
    g_law_bits_by := PySem.W.mg_of X G a_law_bits_by
    F_law_bits_by := fun_mk (st := s_law_bits_by) l_law_bits_by c_law_bits_by k_law_bits_by
    g_law_right := PySem.W.mg_of X G a_law_right
    F_law_right := fun_mk (st := s_law_right) l_law_right c_law_right k_law_right
    g_law := PySem.W.mg_of X G a_law
    F_law := fun_mk (st := s_law) l_law c_law k_law
    n_all := PySem.W.mg_none_of X G b_all
    n_bool := PySem.W.mg_none_of X G b_bool
    n_dict := PySem.W.mg_none_of X G b_dict
    n_enumerate := PySem.W.mg_none_of X G b_enumerate
    n_int := PySem.W.mg_none_of X G b_int
    n_isinstance := PySem.W.mg_none_of X G b_isinstance
    n_len := PySem.W.mg_none_of X G b_len
    n_list := PySem.W.mg_none_of X G b_list
    n_max := PySem.W.mg_none_of X G b_max
    n_min := PySem.W.mg_none_of X G b_min
    n_range := PySem.W.mg_none_of X G b_range
    n_repr := PySem.W.mg_none_of X G b_repr
    n_set := PySem.W.mg_none_of X G b_set
    n_sorted := PySem.W.mg_none_of X G b_sorted
    n_sum := PySem.W.mg_none_of X G b_sum
    n_tuple := PySem.W.mg_none_of X G b_tuple
    c_LONGEST := PySem.W.mg_of X G v_LONGEST
    c_MOST_WEIGHT := PySem.W.mg_of X G v_MOST_WEIGHT
    c_WHOLE := PySem.W.mg_of X G v_WHOLE
    gx_PicError := PySem.W.mg_of X G xa_PicError
    gx_NoTable := PySem.W.mg_of X G xa_NoTable
    gx_NoSymbol := PySem.W.mg_of X G xa_NoSymbol
    gx_NoWeights := PySem.W.mg_of X G xa_NoWeights
    gx_NoLimit := PySem.W.mg_of X G xa_NoLimit
    gx_NoRoom := PySem.W.mg_of X G xa_NoRoom
    x_NoTable := { gC := PySem.W.mg_of X G xa_NoTable, ox := ⟨⟨_, _, _, _, _, _, _, _, _, _, _, _, _, _, _, xL_NoTable, rfl⟩, sa_NoTable, xe_NoTable, xt_NoTable, kC_NoTable⟩, iC := iC_NoTable, tI := tI_NoTable, su := su_NoTable, sv := sv_NoTable, ss := ss_NoTable, op := xop, ms := PySem.W.mg_none_of X G xms, tp := (by decide +kernel), fn := ⟨si_NoTable, _, _, _, _, _, _, _, _, _, _, _, _, _, _, _, _, _, _, _, xd_NoTable, lI_NoTable, cI_NoTable, lc_NoTable, vf_NoTable, (by decide +kernel), lcc_NoTable⟩, noF := nof_NoTable }
    y_NoTable := ⟨ga_NoTable, gg_NoTable, hC_NoTable⟩
    x_NoSymbol := { gC := PySem.W.mg_of X G xa_NoSymbol, ox := ⟨⟨_, _, _, _, _, _, _, _, _, _, _, _, _, _, _, xL_NoSymbol, rfl⟩, sa_NoSymbol, xe_NoSymbol, xt_NoSymbol, kC_NoSymbol⟩, iC := iC_NoSymbol, tI := tI_NoSymbol, su := su_NoSymbol, sv := sv_NoSymbol, ss := ss_NoSymbol, op := xop, ms := PySem.W.mg_none_of X G xms, tp := (by decide +kernel), fn := ⟨si_NoSymbol, _, _, _, _, _, _, _, _, _, _, _, _, _, _, _, _, _, _, _, xd_NoSymbol, lI_NoSymbol, cI_NoSymbol, lc_NoSymbol, vf_NoSymbol, (by decide +kernel), lcc_NoSymbol⟩, noF := nof_NoSymbol }
    y_NoSymbol := ⟨ga_NoSymbol, gg_NoSymbol, hC_NoSymbol⟩
    x_NoWeights := { gC := PySem.W.mg_of X G xa_NoWeights, ox := ⟨⟨_, _, _, _, _, _, _, _, _, _, _, _, _, _, _, xL_NoWeights, rfl⟩, sa_NoWeights, xe_NoWeights, xt_NoWeights, kC_NoWeights⟩, iC := iC_NoWeights, tI := tI_NoWeights, su := su_NoWeights, sv := sv_NoWeights, ss := ss_NoWeights, op := xop, ms := PySem.W.mg_none_of X G xms, tp := (by decide +kernel), fn := ⟨si_NoWeights, _, _, _, _, _, _, _, _, _, _, _, _, _, _, _, _, _, _, _, xd_NoWeights, lI_NoWeights, cI_NoWeights, lc_NoWeights, vf_NoWeights, (by decide +kernel), lcc_NoWeights⟩, noF := nof_NoWeights }
    y_NoWeights := ⟨ga_NoWeights, gg_NoWeights, hC_NoWeights⟩
    x_NoLimit := { gC := PySem.W.mg_of X G xa_NoLimit, ox := ⟨⟨_, _, _, _, _, _, _, _, _, _, _, _, _, _, _, xL_NoLimit, rfl⟩, sa_NoLimit, xe_NoLimit, xt_NoLimit, kC_NoLimit⟩, iC := iC_NoLimit, tI := tI_NoLimit, su := su_NoLimit, sv := sv_NoLimit, ss := ss_NoLimit, op := xop, ms := PySem.W.mg_none_of X G xms, tp := (by decide +kernel), fn := ⟨si_NoLimit, _, _, _, _, _, _, _, _, _, _, _, _, _, _, _, _, _, _, _, xd_NoLimit, lI_NoLimit, cI_NoLimit, lc_NoLimit, vf_NoLimit, (by decide +kernel), lcc_NoLimit⟩, noF := nof_NoLimit }
    y_NoLimit := ⟨ga_NoLimit, gg_NoLimit, hC_NoLimit⟩
    x_NoRoom := { gC := PySem.W.mg_of X G xa_NoRoom, ox := ⟨⟨_, _, _, _, _, _, _, _, _, _, _, _, _, _, _, xL_NoRoom, rfl⟩, sa_NoRoom, xe_NoRoom, xt_NoRoom, kC_NoRoom⟩, iC := iC_NoRoom, tI := tI_NoRoom, su := su_NoRoom, sv := sv_NoRoom, ss := ss_NoRoom, op := xop, ms := PySem.W.mg_none_of X G xms, tp := (by decide +kernel), fn := ⟨si_NoRoom, _, _, _, _, _, _, _, _, _, _, _, _, _, _, _, _, _, _, _, xd_NoRoom, lI_NoRoom, cI_NoRoom, lc_NoRoom, vf_NoRoom, (by decide +kernel), lcc_NoRoom⟩, noF := nof_NoRoom }
    y_NoRoom := ⟨ga_NoRoom, gg_NoRoom, hC_NoRoom⟩
    ex_PicError := fun c hc => by
      simp only [List.mem_cons, List.not_mem_nil, or_false] at hc
      rcases hc with rfl | rfl | rfl | rfl | rfl
      · exact exm_of xe_PicError xi_PicError xt_PicError s_NoTable_PicError
      · exact exm_of xe_PicError xi_PicError xt_PicError s_NoSymbol_PicError
      · exact exm_of xe_PicError xi_PicError xt_PicError s_NoWeights_PicError
      · exact exm_of xe_PicError xi_PicError xt_PicError s_NoLimit_PicError
      · exact exm_of xe_PicError xi_PicError xt_PicError s_NoRoom_PicError
    ex_NoTable := fun c hc => by
      simp only [List.mem_cons, List.not_mem_nil, or_false] at hc
      rcases hc with rfl | rfl | rfl | rfl | rfl
      · exact exm_of xe_NoTable xi_NoTable xt_NoTable s_NoTable_NoTable
      · exact exm_of xe_NoTable xi_NoTable xt_NoTable s_NoSymbol_NoTable
      · exact exm_of xe_NoTable xi_NoTable xt_NoTable s_NoWeights_NoTable
      · exact exm_of xe_NoTable xi_NoTable xt_NoTable s_NoLimit_NoTable
      · exact exm_of xe_NoTable xi_NoTable xt_NoTable s_NoRoom_NoTable
    ex_NoSymbol := fun c hc => by
      simp only [List.mem_cons, List.not_mem_nil, or_false] at hc
      rcases hc with rfl | rfl | rfl | rfl | rfl
      · exact exm_of xe_NoSymbol xi_NoSymbol xt_NoSymbol s_NoTable_NoSymbol
      · exact exm_of xe_NoSymbol xi_NoSymbol xt_NoSymbol s_NoSymbol_NoSymbol
      · exact exm_of xe_NoSymbol xi_NoSymbol xt_NoSymbol s_NoWeights_NoSymbol
      · exact exm_of xe_NoSymbol xi_NoSymbol xt_NoSymbol s_NoLimit_NoSymbol
      · exact exm_of xe_NoSymbol xi_NoSymbol xt_NoSymbol s_NoRoom_NoSymbol
    ex_NoWeights := fun c hc => by
      simp only [List.mem_cons, List.not_mem_nil, or_false] at hc
      rcases hc with rfl | rfl | rfl | rfl | rfl
      · exact exm_of xe_NoWeights xi_NoWeights xt_NoWeights s_NoTable_NoWeights
      · exact exm_of xe_NoWeights xi_NoWeights xt_NoWeights s_NoSymbol_NoWeights
      · exact exm_of xe_NoWeights xi_NoWeights xt_NoWeights s_NoWeights_NoWeights
      · exact exm_of xe_NoWeights xi_NoWeights xt_NoWeights s_NoLimit_NoWeights
      · exact exm_of xe_NoWeights xi_NoWeights xt_NoWeights s_NoRoom_NoWeights
    ex_NoLimit := fun c hc => by
      simp only [List.mem_cons, List.not_mem_nil, or_false] at hc
      rcases hc with rfl | rfl | rfl | rfl | rfl
      · exact exm_of xe_NoLimit xi_NoLimit xt_NoLimit s_NoTable_NoLimit
      · exact exm_of xe_NoLimit xi_NoLimit xt_NoLimit s_NoSymbol_NoLimit
      · exact exm_of xe_NoLimit xi_NoLimit xt_NoLimit s_NoWeights_NoLimit
      · exact exm_of xe_NoLimit xi_NoLimit xt_NoLimit s_NoLimit_NoLimit
      · exact exm_of xe_NoLimit xi_NoLimit xt_NoLimit s_NoRoom_NoLimit
    ex_NoRoom := fun c hc => by
      simp only [List.mem_cons, List.not_mem_nil, or_false] at hc
      rcases hc with rfl | rfl | rfl | rfl | rfl
      · exact exm_of xe_NoRoom xi_NoRoom xt_NoRoom s_NoTable_NoRoom
      · exact exm_of xe_NoRoom xi_NoRoom xt_NoRoom s_NoSymbol_NoRoom
      · exact exm_of xe_NoRoom xi_NoRoom xt_NoRoom s_NoWeights_NoRoom
      · exact exm_of xe_NoRoom xi_NoRoom xt_NoRoom s_NoLimit_NoRoom
      · exact exm_of xe_NoRoom xi_NoRoom xt_NoRoom s_NoRoom_NoRoom }
  refine ⟨_, [⟨"check_weights", cA_check_weights, pA_check_weights, q_check_weights⟩, ⟨"least_table", cA_least_table, pA_least_table, q_least_table⟩], sp_law { f_is_integer := f_is_integer, e_is_integer := (PySem.W.fnOf "is_integer" "is_integer" (defArgs s_is_integer) (defBody s_is_integer) (defScope s_is_integer) .none kV_is_integer dc_is_integer pm_is_integer an_is_integer cd_is_integer ct_is_integer), f_are_counts := f_are_counts, e_are_counts := (PySem.W.fnOf "are_counts" "are_counts" (defArgs s_are_counts) (defBody s_are_counts) (defScope s_are_counts) .none kV_are_counts dc_are_counts pm_are_counts an_are_counts cd_are_counts ct_are_counts), f_room_taken := f_room_taken, e_room_taken := (PySem.W.fnOf "room_taken" "room_taken" (defArgs s_room_taken) (defBody s_room_taken) (defScope s_room_taken) .none kV_room_taken dc_room_taken pm_room_taken an_room_taken cd_room_taken ct_room_taken), f_are_symbols := f_are_symbols, e_are_symbols := (PySem.W.fnOf "are_symbols" "are_symbols" (defArgs s_are_symbols) (defBody s_are_symbols) (defScope s_are_symbols) .none kV_are_symbols dc_are_symbols pm_are_symbols an_are_symbols cd_are_symbols ct_are_symbols), f_table_fault := f_table_fault, e_table_fault := (PySem.W.fnOf "table_fault" "table_fault" (defArgs s_table_fault) (defBody s_table_fault) (defScope s_table_fault) .none kV_table_fault dc_table_fault pm_table_fault an_table_fault cd_table_fault ct_table_fault), f_is_table := f_is_table, e_is_table := (PySem.W.fnOf "is_table" "is_table" (defArgs s_is_table) (defBody s_is_table) (defScope s_is_table) .none kV_is_table dc_is_table pm_is_table an_is_table cd_is_table ct_is_table), f_check_table := f_check_table, e_check_table := (PySem.W.fnOf "check_table" "check_table" (defArgs s_check_table) (defBody s_check_table) (defScope s_check_table) .none kV_check_table dc_check_table pm_check_table an_check_table cd_check_table ct_check_table), f_bits_as := f_bits_as, e_bits_as := (PySem.W.fnOf "bits_as" "bits_as" (defArgs s_bits_as) (defBody s_bits_as) (defScope s_bits_as) .none kV_bits_as dc_bits_as pm_bits_as an_bits_as cd_bits_as ct_bits_as), f_codes := f_codes, e_codes := (PySem.W.fnOf "codes" "codes" (defArgs s_codes) (defBody s_codes) (defScope s_codes) .none kV_codes dc_codes pm_codes an_codes cd_codes ct_codes), f_is_weight := f_is_weight, e_is_weight := (PySem.W.fnOf "is_weight" "is_weight" (defArgs s_is_weight) (defBody s_is_weight) (defScope s_is_weight) .none kV_is_weight dc_is_weight pm_is_weight an_is_weight cd_is_weight ct_is_weight), f_check_weights := f_check_weights, e_check_weights := (PySem.W.fnOf "check_weights" "check_weights" (defArgs s_check_weights) (defBody s_check_weights) (defScope s_check_weights) .none kV_check_weights dc_check_weights pm_check_weights an_check_weights (.ref cA_check_weights) ct_check_weights), c_check_weights := cA_check_weights, p_check_weights := pA_check_weights, f_check_limit := f_check_limit, e_check_limit := (PySem.W.fnOf "check_limit" "check_limit" (defArgs s_check_limit) (defBody s_check_limit) (defScope s_check_limit) .none kV_check_limit dc_check_limit pm_check_limit an_check_limit cd_check_limit ct_check_limit), f_check_room := f_check_room, e_check_room := (PySem.W.fnOf "check_room" "check_room" (defArgs s_check_room) (defBody s_check_room) (defScope s_check_room) .none kV_check_room dc_check_room pm_check_room an_check_room cd_check_room ct_check_room), f_check_all := f_check_all, e_check_all := (PySem.W.fnOf "check_all" "check_all" (defArgs s_check_all) (defBody s_check_all) (defScope s_check_all) .none kV_check_all dc_check_all pm_check_all an_check_all cd_check_all ct_check_all), f_coins_of := f_coins_of, e_coins_of := (PySem.W.fnOf "coins_of" "coins_of" (defArgs s_coins_of) (defBody s_coins_of) (defScope s_coins_of) .none kV_coins_of dc_coins_of pm_coins_of an_coins_of cd_coins_of ct_coins_of), f_pairs_of := f_pairs_of, e_pairs_of := (PySem.W.fnOf "pairs_of" "pairs_of" (defArgs s_pairs_of) (defBody s_pairs_of) (defScope s_pairs_of) .none kV_pairs_of dc_pairs_of pm_pairs_of an_pairs_of cd_pairs_of ct_pairs_of), f_rows_of := f_rows_of, e_rows_of := (PySem.W.fnOf "rows_of" "rows_of" (defArgs s_rows_of) (defBody s_rows_of) (defScope s_rows_of) .none kV_rows_of dc_rows_of pm_rows_of an_rows_of cd_rows_of ct_rows_of), f_fewest_bits := f_fewest_bits, e_fewest_bits := (PySem.W.fnOf "fewest_bits" "fewest_bits" (defArgs s_fewest_bits) (defBody s_fewest_bits) (defScope s_fewest_bits) .none kV_fewest_bits dc_fewest_bits pm_fewest_bits an_fewest_bits cd_fewest_bits ct_fewest_bits), f_least_bits := f_least_bits, e_least_bits := (PySem.W.fnOf "least_bits" "least_bits" (defArgs s_least_bits) (defBody s_least_bits) (defScope s_least_bits) (.ref dT_least_bits) kV_least_bits dc_least_bits pm_least_bits an_least_bits cd_least_bits ct_least_bits), f_coins_among := f_coins_among, e_coins_among := (PySem.W.fnOf "coins_among" "coins_among" (defArgs s_coins_among) (defBody s_coins_among) (defScope s_coins_among) .none kV_coins_among dc_coins_among pm_coins_among an_coins_among cd_coins_among ct_coins_among), f_coins_taken := f_coins_taken, e_coins_taken := (PySem.W.fnOf "coins_taken" "coins_taken" (defArgs s_coins_taken) (defBody s_coins_taken) (defScope s_coins_taken) .none kV_coins_taken dc_coins_taken pm_coins_taken an_coins_taken cd_coins_taken ct_coins_taken), f_least_table := f_least_table, e_least_table := (PySem.W.fnOf "least_table" "least_table" (defArgs s_least_table) (defBody s_least_table) (defScope s_least_table) (.ref dT_least_table) kV_least_table dc_least_table pm_least_table an_least_table (.ref cA_least_table) ct_least_table), c_least_table := cA_least_table, p_least_table := pA_least_table, f_bits_by := f_bits_by, e_bits_by := (PySem.W.fnOf "bits_by" "bits_by" (defArgs s_bits_by) (defBody s_bits_by) (defScope s_bits_by) .none kV_bits_by dc_bits_by pm_bits_by an_bits_by cd_bits_by ct_bits_by), f_table_bits := f_table_bits, e_table_bits := (PySem.W.fnOf "table_bits" "table_bits" (defArgs s_table_bits) (defBody s_table_bits) (defScope s_table_bits) .none kV_table_bits dc_table_bits pm_table_bits an_table_bits cd_table_bits ct_table_bits), f_is_least := f_is_least, e_is_least := (PySem.W.fnOf "is_least" "is_least" (defArgs s_is_least) (defBody s_is_least) (defScope s_is_least) (.ref dT_is_least) kV_is_least dc_is_least pm_is_least an_is_least cd_is_least ct_is_least), f_by_limits := f_by_limits, e_by_limits := (PySem.W.fnOf "by_limits" "by_limits" (defArgs s_by_limits) (defBody s_by_limits) (defScope s_by_limits) .none kV_by_limits dc_by_limits pm_by_limits an_by_limits cd_by_limits ct_by_limits), f_law_cell_at := f_law_cell_at, e_law_cell_at := (PySem.W.fnOf "_law_cell_at" "_law_cell_at" (defArgs s_law_cell_at) (defBody s_law_cell_at) (defScope s_law_cell_at) .none kV_law_cell_at dc_law_cell_at pm_law_cell_at an_law_cell_at cd_law_cell_at ct_law_cell_at), f_law_source_of := f_law_source_of, e_law_source_of := (PySem.W.fnOf "_law_source_of" "_law_source_of" (defArgs s_law_source_of) (defBody s_law_source_of) (defScope s_law_source_of) .none kV_law_source_of dc_law_source_of pm_law_source_of an_law_source_of cd_law_source_of ct_law_source_of), f_law_next := f_law_next, e_law_next := (PySem.W.fnOf "_law_next" "_law_next" (defArgs s_law_next) (defBody s_law_next) (defScope s_law_next) .none kV_law_next dc_law_next pm_law_next an_law_next cd_law_next ct_law_next), f_law_one := f_law_one, e_law_one := (PySem.W.fnOf "_law_one" "_law_one" (defArgs s_law_one) (defBody s_law_one) (defScope s_law_one) .none kV_law_one dc_law_one pm_law_one an_law_one cd_law_one ct_law_one), f_law_lengths := f_law_lengths, e_law_lengths := (PySem.W.fnOf "_law_lengths" "_law_lengths" (defArgs s_law_lengths) (defBody s_law_lengths) (defScope s_law_lengths) .none kV_law_lengths dc_law_lengths pm_law_lengths an_law_lengths cd_law_lengths ct_law_lengths), f_law_weights := f_law_weights, e_law_weights := (PySem.W.fnOf "_law_weights" "_law_weights" (defArgs s_law_weights) (defBody s_law_weights) (defScope s_law_weights) .none kV_law_weights dc_law_weights pm_law_weights an_law_weights cd_law_weights ct_law_weights), f_law_free_bits := f_law_free_bits, e_law_free_bits := (PySem.W.fnOf "_law_free_bits" "_law_free_bits" (defArgs s_law_free_bits) (defBody s_law_free_bits) (defScope s_law_free_bits) .none kV_law_free_bits dc_law_free_bits pm_law_free_bits an_law_free_bits cd_law_free_bits ct_law_free_bits), f_law_bits_by := f_law_bits_by, e_law_bits_by := (PySem.W.fnOf "_law_bits_by" "_law_bits_by" (defArgs s_law_bits_by) (defBody s_law_bits_by) (defScope s_law_bits_by) .none kV_law_bits_by dc_law_bits_by pm_law_bits_by an_law_bits_by cd_law_bits_by ct_law_bits_by), f_law_right := f_law_right, e_law_right := (PySem.W.fnOf "_law_right" "_law_right" (defArgs s_law_right) (defBody s_law_right) (defScope s_law_right) .none kV_law_right dc_law_right pm_law_right an_law_right cd_law_right ct_law_right), f_law := f_law, e_law := (PySem.W.fnOf "law" "law" (defArgs s_law) (defBody s_law) (defScope s_law) .none kV_law dc_law pm_law an_law cd_law ct_law), t_LONGEST := t_LONGEST, t_MOST_WEIGHT := t_MOST_WEIGHT, t_WHOLE := t_WHOLE, x_PicError := x_PicError, i_PicError := 0, x_NoTable := x_NoTable, i_NoTable := i_NoTable, x_NoSymbol := x_NoSymbol, i_NoSymbol := i_NoSymbol, x_NoWeights := x_NoWeights, i_NoWeights := i_NoWeights, x_NoLimit := x_NoLimit, i_NoLimit := i_NoLimit, x_NoRoom := x_NoRoom, i_NoRoom := i_NoRoom }, ndp, fun t ht => ?_, law_true { f_is_integer := f_is_integer, e_is_integer := (PySem.W.fnOf "is_integer" "is_integer" (defArgs s_is_integer) (defBody s_is_integer) (defScope s_is_integer) .none kV_is_integer dc_is_integer pm_is_integer an_is_integer cd_is_integer ct_is_integer), f_are_counts := f_are_counts, e_are_counts := (PySem.W.fnOf "are_counts" "are_counts" (defArgs s_are_counts) (defBody s_are_counts) (defScope s_are_counts) .none kV_are_counts dc_are_counts pm_are_counts an_are_counts cd_are_counts ct_are_counts), f_room_taken := f_room_taken, e_room_taken := (PySem.W.fnOf "room_taken" "room_taken" (defArgs s_room_taken) (defBody s_room_taken) (defScope s_room_taken) .none kV_room_taken dc_room_taken pm_room_taken an_room_taken cd_room_taken ct_room_taken), f_are_symbols := f_are_symbols, e_are_symbols := (PySem.W.fnOf "are_symbols" "are_symbols" (defArgs s_are_symbols) (defBody s_are_symbols) (defScope s_are_symbols) .none kV_are_symbols dc_are_symbols pm_are_symbols an_are_symbols cd_are_symbols ct_are_symbols), f_table_fault := f_table_fault, e_table_fault := (PySem.W.fnOf "table_fault" "table_fault" (defArgs s_table_fault) (defBody s_table_fault) (defScope s_table_fault) .none kV_table_fault dc_table_fault pm_table_fault an_table_fault cd_table_fault ct_table_fault), f_is_table := f_is_table, e_is_table := (PySem.W.fnOf "is_table" "is_table" (defArgs s_is_table) (defBody s_is_table) (defScope s_is_table) .none kV_is_table dc_is_table pm_is_table an_is_table cd_is_table ct_is_table), f_check_table := f_check_table, e_check_table := (PySem.W.fnOf "check_table" "check_table" (defArgs s_check_table) (defBody s_check_table) (defScope s_check_table) .none kV_check_table dc_check_table pm_check_table an_check_table cd_check_table ct_check_table), f_bits_as := f_bits_as, e_bits_as := (PySem.W.fnOf "bits_as" "bits_as" (defArgs s_bits_as) (defBody s_bits_as) (defScope s_bits_as) .none kV_bits_as dc_bits_as pm_bits_as an_bits_as cd_bits_as ct_bits_as), f_codes := f_codes, e_codes := (PySem.W.fnOf "codes" "codes" (defArgs s_codes) (defBody s_codes) (defScope s_codes) .none kV_codes dc_codes pm_codes an_codes cd_codes ct_codes), f_is_weight := f_is_weight, e_is_weight := (PySem.W.fnOf "is_weight" "is_weight" (defArgs s_is_weight) (defBody s_is_weight) (defScope s_is_weight) .none kV_is_weight dc_is_weight pm_is_weight an_is_weight cd_is_weight ct_is_weight), f_check_weights := f_check_weights, e_check_weights := (PySem.W.fnOf "check_weights" "check_weights" (defArgs s_check_weights) (defBody s_check_weights) (defScope s_check_weights) .none kV_check_weights dc_check_weights pm_check_weights an_check_weights (.ref cA_check_weights) ct_check_weights), c_check_weights := cA_check_weights, p_check_weights := pA_check_weights, f_check_limit := f_check_limit, e_check_limit := (PySem.W.fnOf "check_limit" "check_limit" (defArgs s_check_limit) (defBody s_check_limit) (defScope s_check_limit) .none kV_check_limit dc_check_limit pm_check_limit an_check_limit cd_check_limit ct_check_limit), f_check_room := f_check_room, e_check_room := (PySem.W.fnOf "check_room" "check_room" (defArgs s_check_room) (defBody s_check_room) (defScope s_check_room) .none kV_check_room dc_check_room pm_check_room an_check_room cd_check_room ct_check_room), f_check_all := f_check_all, e_check_all := (PySem.W.fnOf "check_all" "check_all" (defArgs s_check_all) (defBody s_check_all) (defScope s_check_all) .none kV_check_all dc_check_all pm_check_all an_check_all cd_check_all ct_check_all), f_coins_of := f_coins_of, e_coins_of := (PySem.W.fnOf "coins_of" "coins_of" (defArgs s_coins_of) (defBody s_coins_of) (defScope s_coins_of) .none kV_coins_of dc_coins_of pm_coins_of an_coins_of cd_coins_of ct_coins_of), f_pairs_of := f_pairs_of, e_pairs_of := (PySem.W.fnOf "pairs_of" "pairs_of" (defArgs s_pairs_of) (defBody s_pairs_of) (defScope s_pairs_of) .none kV_pairs_of dc_pairs_of pm_pairs_of an_pairs_of cd_pairs_of ct_pairs_of), f_rows_of := f_rows_of, e_rows_of := (PySem.W.fnOf "rows_of" "rows_of" (defArgs s_rows_of) (defBody s_rows_of) (defScope s_rows_of) .none kV_rows_of dc_rows_of pm_rows_of an_rows_of cd_rows_of ct_rows_of), f_fewest_bits := f_fewest_bits, e_fewest_bits := (PySem.W.fnOf "fewest_bits" "fewest_bits" (defArgs s_fewest_bits) (defBody s_fewest_bits) (defScope s_fewest_bits) .none kV_fewest_bits dc_fewest_bits pm_fewest_bits an_fewest_bits cd_fewest_bits ct_fewest_bits), f_least_bits := f_least_bits, e_least_bits := (PySem.W.fnOf "least_bits" "least_bits" (defArgs s_least_bits) (defBody s_least_bits) (defScope s_least_bits) (.ref dT_least_bits) kV_least_bits dc_least_bits pm_least_bits an_least_bits cd_least_bits ct_least_bits), f_coins_among := f_coins_among, e_coins_among := (PySem.W.fnOf "coins_among" "coins_among" (defArgs s_coins_among) (defBody s_coins_among) (defScope s_coins_among) .none kV_coins_among dc_coins_among pm_coins_among an_coins_among cd_coins_among ct_coins_among), f_coins_taken := f_coins_taken, e_coins_taken := (PySem.W.fnOf "coins_taken" "coins_taken" (defArgs s_coins_taken) (defBody s_coins_taken) (defScope s_coins_taken) .none kV_coins_taken dc_coins_taken pm_coins_taken an_coins_taken cd_coins_taken ct_coins_taken), f_least_table := f_least_table, e_least_table := (PySem.W.fnOf "least_table" "least_table" (defArgs s_least_table) (defBody s_least_table) (defScope s_least_table) (.ref dT_least_table) kV_least_table dc_least_table pm_least_table an_least_table (.ref cA_least_table) ct_least_table), c_least_table := cA_least_table, p_least_table := pA_least_table, f_bits_by := f_bits_by, e_bits_by := (PySem.W.fnOf "bits_by" "bits_by" (defArgs s_bits_by) (defBody s_bits_by) (defScope s_bits_by) .none kV_bits_by dc_bits_by pm_bits_by an_bits_by cd_bits_by ct_bits_by), f_table_bits := f_table_bits, e_table_bits := (PySem.W.fnOf "table_bits" "table_bits" (defArgs s_table_bits) (defBody s_table_bits) (defScope s_table_bits) .none kV_table_bits dc_table_bits pm_table_bits an_table_bits cd_table_bits ct_table_bits), f_is_least := f_is_least, e_is_least := (PySem.W.fnOf "is_least" "is_least" (defArgs s_is_least) (defBody s_is_least) (defScope s_is_least) (.ref dT_is_least) kV_is_least dc_is_least pm_is_least an_is_least cd_is_least ct_is_least), f_by_limits := f_by_limits, e_by_limits := (PySem.W.fnOf "by_limits" "by_limits" (defArgs s_by_limits) (defBody s_by_limits) (defScope s_by_limits) .none kV_by_limits dc_by_limits pm_by_limits an_by_limits cd_by_limits ct_by_limits), f_law_cell_at := f_law_cell_at, e_law_cell_at := (PySem.W.fnOf "_law_cell_at" "_law_cell_at" (defArgs s_law_cell_at) (defBody s_law_cell_at) (defScope s_law_cell_at) .none kV_law_cell_at dc_law_cell_at pm_law_cell_at an_law_cell_at cd_law_cell_at ct_law_cell_at), f_law_source_of := f_law_source_of, e_law_source_of := (PySem.W.fnOf "_law_source_of" "_law_source_of" (defArgs s_law_source_of) (defBody s_law_source_of) (defScope s_law_source_of) .none kV_law_source_of dc_law_source_of pm_law_source_of an_law_source_of cd_law_source_of ct_law_source_of), f_law_next := f_law_next, e_law_next := (PySem.W.fnOf "_law_next" "_law_next" (defArgs s_law_next) (defBody s_law_next) (defScope s_law_next) .none kV_law_next dc_law_next pm_law_next an_law_next cd_law_next ct_law_next), f_law_one := f_law_one, e_law_one := (PySem.W.fnOf "_law_one" "_law_one" (defArgs s_law_one) (defBody s_law_one) (defScope s_law_one) .none kV_law_one dc_law_one pm_law_one an_law_one cd_law_one ct_law_one), f_law_lengths := f_law_lengths, e_law_lengths := (PySem.W.fnOf "_law_lengths" "_law_lengths" (defArgs s_law_lengths) (defBody s_law_lengths) (defScope s_law_lengths) .none kV_law_lengths dc_law_lengths pm_law_lengths an_law_lengths cd_law_lengths ct_law_lengths), f_law_weights := f_law_weights, e_law_weights := (PySem.W.fnOf "_law_weights" "_law_weights" (defArgs s_law_weights) (defBody s_law_weights) (defScope s_law_weights) .none kV_law_weights dc_law_weights pm_law_weights an_law_weights cd_law_weights ct_law_weights), f_law_free_bits := f_law_free_bits, e_law_free_bits := (PySem.W.fnOf "_law_free_bits" "_law_free_bits" (defArgs s_law_free_bits) (defBody s_law_free_bits) (defScope s_law_free_bits) .none kV_law_free_bits dc_law_free_bits pm_law_free_bits an_law_free_bits cd_law_free_bits ct_law_free_bits), f_law_bits_by := f_law_bits_by, e_law_bits_by := (PySem.W.fnOf "_law_bits_by" "_law_bits_by" (defArgs s_law_bits_by) (defBody s_law_bits_by) (defScope s_law_bits_by) .none kV_law_bits_by dc_law_bits_by pm_law_bits_by an_law_bits_by cd_law_bits_by ct_law_bits_by), f_law_right := f_law_right, e_law_right := (PySem.W.fnOf "_law_right" "_law_right" (defArgs s_law_right) (defBody s_law_right) (defScope s_law_right) .none kV_law_right dc_law_right pm_law_right an_law_right cd_law_right ct_law_right), f_law := f_law, e_law := (PySem.W.fnOf "law" "law" (defArgs s_law) (defBody s_law) (defScope s_law) .none kV_law dc_law pm_law an_law cd_law ct_law), t_LONGEST := t_LONGEST, t_MOST_WEIGHT := t_MOST_WEIGHT, t_WHOLE := t_WHOLE, x_PicError := x_PicError, i_PicError := 0, x_NoTable := x_NoTable, i_NoTable := i_NoTable, x_NoSymbol := x_NoSymbol, i_NoSymbol := i_NoSymbol, x_NoWeights := x_NoWeights, i_NoWeights := i_NoWeights, x_NoLimit := x_NoLimit, i_NoLimit := i_NoLimit, x_NoRoom := x_NoRoom, i_NoRoom := i_NoRoom }, fun s v => .of_eq rfl, fun base _ _ hU => ok_law T ⟨hU (⟨"check_weights", cA_check_weights, pA_check_weights, q_check_weights⟩ : Tb) (by simp), hU (⟨"least_table", cA_least_table, pA_least_table, q_least_table⟩ : Tb) (by simp)⟩⟩
  simp only [List.mem_cons, List.not_mem_nil, or_false] at ht
  rcases ht with rfl | rfl
  · exact ⟨tab_in a_check_weights l_check_weights rfl tl_check_weights tv_check_weights, tn_check_weights, rec.1⟩
  · exact ⟨tab_in a_least_table l_least_table rfl tl_least_table tv_least_table, tn_least_table, rec.2⟩

end K23
open PySem PySem.W PyProof.Rows in
set_option maxRecDepth 100000 in
set_option maxHeartbeats 0 in
theorem PySem.Challenge.cw_blockpics_k23_whole_least_tables_of_many_holds : PySem.Challenge.rw_blockpics_k23_whole_least_tables_of_many.Holds := by
  w_on; o_law; x_head; (case hw => w_witness2)
  k_fill
  refine BP.walk_bpX (l := PySem.Challenge.rw_blockpics_k23_whole_least_tables_of_many) (k := 9) (x := "_law_script") rfl (by decide) rfl ⟨rfl, by decide, by decide⟩ (fun w h Y => PySem.W.kIn_of Y) (fun _ => by kernel_rfl) ?F
  case F =>
    intro w mg fa h K' CT hK hCT KX G hmg
    refine' K23.all_mk KX G hmg ?a_is_integer ?l_is_integer ?c_is_integer ?k_is_integer ?a_are_counts ?l_are_counts ?c_are_counts ?k_are_counts ?a_room_taken ?l_room_taken ?c_room_taken ?k_room_taken ?a_are_symbols ?l_are_symbols ?c_are_symbols ?k_are_symbols ?a_table_fault ?l_table_fault ?c_table_fault ?k_table_fault ?a_is_table ?l_is_table ?c_is_table ?k_is_table ?a_check_table ?l_check_table ?c_check_table ?k_check_table ?a_bits_as ?l_bits_as ?c_bits_as ?k_bits_as ?a_codes ?l_codes ?c_codes ?k_codes ?a_is_weight ?l_is_weight ?c_is_weight ?k_is_weight ?a_check_weights ?l_check_weights ?c_check_weights ?tl_check_weights ?tv_check_weights ?tn_check_weights ?k_check_weights ?a_check_limit ?l_check_limit ?c_check_limit ?k_check_limit ?a_check_room ?l_check_room ?c_check_room ?k_check_room ?a_check_all ?l_check_all ?c_check_all ?k_check_all ?a_coins_of ?l_coins_of ?c_coins_of ?k_coins_of ?a_pairs_of ?l_pairs_of ?c_pairs_of ?k_pairs_of ?a_rows_of ?l_rows_of ?c_rows_of ?k_rows_of ?a_fewest_bits ?l_fewest_bits ?c_fewest_bits ?k_fewest_bits ?a_least_bits ?l_least_bits ?c_least_bits ?k_least_bits ?dl_least_bits ?dr_least_bits ?a_coins_among ?l_coins_among ?c_coins_among ?k_coins_among ?a_coins_taken ?l_coins_taken ?c_coins_taken ?k_coins_taken ?a_least_table ?l_least_table ?c_least_table ?tl_least_table ?tv_least_table ?tn_least_table ?k_least_table ?dl_least_table ?dr_least_table ?a_bits_by ?l_bits_by ?c_bits_by ?k_bits_by ?a_table_bits ?l_table_bits ?c_table_bits ?k_table_bits ?a_is_least ?l_is_least ?c_is_least ?k_is_least ?dl_is_least ?dr_is_least ?a_by_limits ?l_by_limits ?c_by_limits ?k_by_limits ?a_law_cell_at ?l_law_cell_at ?c_law_cell_at ?k_law_cell_at ?a_law_source_of ?l_law_source_of ?c_law_source_of ?k_law_source_of ?a_law_next ?l_law_next ?c_law_next ?k_law_next ?a_law_one ?l_law_one ?c_law_one ?k_law_one ?a_law_lengths ?l_law_lengths ?c_law_lengths ?k_law_lengths ?a_law_weights ?l_law_weights ?c_law_weights ?k_law_weights ?a_law_free_bits ?l_law_free_bits ?c_law_free_bits ?k_law_free_bits ?a_law_bits_by ?l_law_bits_by ?c_law_bits_by ?k_law_bits_by ?a_law_right ?l_law_right ?c_law_right ?k_law_right ?a_law ?l_law ?c_law ?k_law ?b_all ?b_bool ?b_dict ?b_enumerate ?b_int ?b_isinstance ?b_len ?b_list ?b_max ?b_min ?b_range ?b_repr ?b_set ?b_sorted ?b_sum ?b_tuple ?v_LONGEST ?v_MOST_WEIGHT ?v_WHOLE ?xa_PicError ?xe_PicError ?xt_PicError ?xi_PicError ?xa_NoTable ?xe_NoTable ?xt_NoTable ?xi_NoTable ?xa_NoSymbol ?xe_NoSymbol ?xt_NoSymbol ?xi_NoSymbol ?xa_NoWeights ?xe_NoWeights ?xt_NoWeights ?xi_NoWeights ?xa_NoLimit ?xe_NoLimit ?xt_NoLimit ?xi_NoLimit ?xa_NoRoom ?xe_NoRoom ?xt_NoRoom ?xi_NoRoom ?xop ?xms ?xL_NoTable ?sa_NoTable ?ga_NoTable ?gg_NoTable ?no_NoTable_part ?kC_NoTable ?hC_NoTable ?iC_NoTable ?tI_NoTable ?lI_NoTable ?cI_NoTable ?lc_NoTable ?vf_NoTable ?lcc_NoTable ?su_NoTable ?sv_NoTable ?ss_NoTable ?s_NoTable_PicError ?s_NoTable_NoTable ?s_NoTable_NoSymbol ?s_NoTable_NoWeights ?s_NoTable_NoLimit ?s_NoTable_NoRoom ?xL_NoSymbol ?sa_NoSymbol ?ga_NoSymbol ?gg_NoSymbol ?no_NoSymbol_symbol ?kC_NoSymbol ?hC_NoSymbol ?iC_NoSymbol ?tI_NoSymbol ?lI_NoSymbol ?cI_NoSymbol ?lc_NoSymbol ?vf_NoSymbol ?lcc_NoSymbol ?su_NoSymbol ?sv_NoSymbol ?ss_NoSymbol ?s_NoSymbol_PicError ?s_NoSymbol_NoTable ?s_NoSymbol_NoSymbol ?s_NoSymbol_NoWeights ?s_NoSymbol_NoLimit ?s_NoSymbol_NoRoom ?xL_NoWeights ?sa_NoWeights ?ga_NoWeights ?gg_NoWeights ?no_NoWeights_symbol ?kC_NoWeights ?hC_NoWeights ?iC_NoWeights ?tI_NoWeights ?lI_NoWeights ?cI_NoWeights ?lc_NoWeights ?vf_NoWeights ?lcc_NoWeights ?su_NoWeights ?sv_NoWeights ?ss_NoWeights ?s_NoWeights_PicError ?s_NoWeights_NoTable ?s_NoWeights_NoSymbol ?s_NoWeights_NoWeights ?s_NoWeights_NoLimit ?s_NoWeights_NoRoom ?xL_NoLimit ?sa_NoLimit ?ga_NoLimit ?gg_NoLimit ?no_NoLimit_limit ?kC_NoLimit ?hC_NoLimit ?iC_NoLimit ?tI_NoLimit ?lI_NoLimit ?cI_NoLimit ?lc_NoLimit ?vf_NoLimit ?lcc_NoLimit ?su_NoLimit ?sv_NoLimit ?ss_NoLimit ?s_NoLimit_PicError ?s_NoLimit_NoTable ?s_NoLimit_NoSymbol ?s_NoLimit_NoWeights ?s_NoLimit_NoLimit ?s_NoLimit_NoRoom ?xL_NoRoom ?sa_NoRoom ?ga_NoRoom ?gg_NoRoom ?no_NoRoom_limit ?kC_NoRoom ?hC_NoRoom ?iC_NoRoom ?tI_NoRoom ?lI_NoRoom ?cI_NoRoom ?lc_NoRoom ?vf_NoRoom ?lcc_NoRoom ?su_NoRoom ?sv_NoRoom ?ss_NoRoom ?s_NoRoom_PicError ?s_NoRoom_NoTable ?s_NoRoom_NoSymbol ?s_NoRoom_NoWeights ?s_NoRoom_NoLimit ?s_NoRoom_NoRoom ?rec ?ndp
    (case a_is_integer => apply BP.of_K hK; k_is; kernel_rfl)
    (case l_is_integer => apply BP.of_K hK; k_is; kernel_rfl)
    (case c_is_integer => apply BP.of_K hK; k_is; kernel_rfl)
    (case k_is_integer => apply BP.of_K hK; k_is; kernel_rfl)
    (case a_are_counts => apply BP.of_K hK; k_is; kernel_rfl)
    (case l_are_counts => apply BP.of_K hK; k_is; kernel_rfl)
    (case c_are_counts => apply BP.of_K hK; k_is; kernel_rfl)
    (case k_are_counts => apply BP.of_K hK; k_is; kernel_rfl)
    (case a_room_taken => apply BP.of_K hK; k_is; kernel_rfl)
    (case l_room_taken => apply BP.of_K hK; k_is; kernel_rfl)
    (case c_room_taken => apply BP.of_K hK; k_is; kernel_rfl)
    (case k_room_taken => apply BP.of_K hK; k_is; kernel_rfl)
    (case a_are_symbols => apply BP.of_K hK; k_is; kernel_rfl)
    (case l_are_symbols => apply BP.of_K hK; k_is; kernel_rfl)
    (case c_are_symbols => apply BP.of_K hK; k_is; kernel_rfl)
    (case k_are_symbols => apply BP.of_K hK; k_is; kernel_rfl)
    (case a_table_fault => apply BP.of_K hK; k_is; kernel_rfl)
    (case l_table_fault => apply BP.of_K hK; k_is; kernel_rfl)
    (case c_table_fault => apply BP.of_K hK; k_is; kernel_rfl)
    (case k_table_fault => apply BP.of_K hK; k_is; kernel_rfl)
    (case a_is_table => apply BP.of_K hK; k_is; kernel_rfl)
    (case l_is_table => apply BP.of_K hK; k_is; kernel_rfl)
    (case c_is_table => apply BP.of_K hK; k_is; kernel_rfl)
    (case k_is_table => apply BP.of_K hK; k_is; kernel_rfl)
    (case a_check_table => apply BP.of_K hK; k_is; kernel_rfl)
    (case l_check_table => apply BP.of_K hK; k_is; kernel_rfl)
    (case c_check_table => apply BP.of_K hK; k_is; kernel_rfl)
    (case k_check_table => apply BP.of_K hK; k_is; kernel_rfl)
    (case a_bits_as => apply BP.of_K hK; k_is; kernel_rfl)
    (case l_bits_as => apply BP.of_K hK; k_is; kernel_rfl)
    (case c_bits_as => apply BP.of_K hK; k_is; kernel_rfl)
    (case k_bits_as => apply BP.of_K hK; k_is; kernel_rfl)
    (case a_codes => apply BP.of_K hK; k_is; kernel_rfl)
    (case l_codes => apply BP.of_K hK; k_is; kernel_rfl)
    (case c_codes => apply BP.of_K hK; k_is; kernel_rfl)
    (case k_codes => apply BP.of_K hK; k_is; kernel_rfl)
    (case a_is_weight => apply BP.of_K hK; k_is; kernel_rfl)
    (case l_is_weight => apply BP.of_K hK; k_is; kernel_rfl)
    (case c_is_weight => apply BP.of_K hK; k_is; kernel_rfl)
    (case k_is_weight => apply BP.of_K hK; k_is; kernel_rfl)
    (case a_check_weights => apply BP.of_K hK; k_is; kernel_rfl)
    (case l_check_weights => apply BP.of_K hK; k_is; kernel_rfl)
    (case c_check_weights => apply BP.of_K hK; k_is; kernel_rfl)
    (case tl_check_weights => apply BP.of_K hK; k_is; kernel_rfl)
    (case tv_check_weights => rfl)
    (case tn_check_weights => subst hK; kernel_rfl)
    (case k_check_weights => apply BP.of_K hK; k_is; kernel_rfl)
    (case a_check_limit => apply BP.of_K hK; k_is; kernel_rfl)
    (case l_check_limit => apply BP.of_K hK; k_is; kernel_rfl)
    (case c_check_limit => apply BP.of_K hK; k_is; kernel_rfl)
    (case k_check_limit => apply BP.of_K hK; k_is; kernel_rfl)
    (case a_check_room => apply BP.of_K hK; k_is; kernel_rfl)
    (case l_check_room => apply BP.of_K hK; k_is; kernel_rfl)
    (case c_check_room => apply BP.of_K hK; k_is; kernel_rfl)
    (case k_check_room => apply BP.of_K hK; k_is; kernel_rfl)
    (case a_check_all => apply BP.of_K hK; k_is; kernel_rfl)
    (case l_check_all => apply BP.of_K hK; k_is; kernel_rfl)
    (case c_check_all => apply BP.of_K hK; k_is; kernel_rfl)
    (case k_check_all => apply BP.of_K hK; k_is; kernel_rfl)
    (case a_coins_of => apply BP.of_K hK; k_is; kernel_rfl)
    (case l_coins_of => apply BP.of_K hK; k_is; kernel_rfl)
    (case c_coins_of => apply BP.of_K hK; k_is; kernel_rfl)
    (case k_coins_of => apply BP.of_K hK; k_is; kernel_rfl)
    (case a_pairs_of => apply BP.of_K hK; k_is; kernel_rfl)
    (case l_pairs_of => apply BP.of_K hK; k_is; kernel_rfl)
    (case c_pairs_of => apply BP.of_K hK; k_is; kernel_rfl)
    (case k_pairs_of => apply BP.of_K hK; k_is; kernel_rfl)
    (case a_rows_of => apply BP.of_K hK; k_is; kernel_rfl)
    (case l_rows_of => apply BP.of_K hK; k_is; kernel_rfl)
    (case c_rows_of => apply BP.of_K hK; k_is; kernel_rfl)
    (case k_rows_of => apply BP.of_K hK; k_is; kernel_rfl)
    (case a_fewest_bits => apply BP.of_K hK; k_is; kernel_rfl)
    (case l_fewest_bits => apply BP.of_K hK; k_is; kernel_rfl)
    (case c_fewest_bits => apply BP.of_K hK; k_is; kernel_rfl)
    (case k_fewest_bits => apply BP.of_K hK; k_is; kernel_rfl)
    (case a_least_bits => apply BP.of_K hK; k_is; kernel_rfl)
    (case l_least_bits => apply BP.of_K hK; k_is; kernel_rfl)
    (case c_least_bits => apply BP.of_K hK; k_is; kernel_rfl)
    (case k_least_bits => apply BP.of_K hK; k_is; kernel_rfl)
    (case dl_least_bits => apply BP.of_K hK; k_is; kernel_rfl)
    (case dr_least_bits => exact (.cons ⟨_, rfl⟩ .nil))
    (case a_coins_among => apply BP.of_K hK; k_is; kernel_rfl)
    (case l_coins_among => apply BP.of_K hK; k_is; kernel_rfl)
    (case c_coins_among => apply BP.of_K hK; k_is; kernel_rfl)
    (case k_coins_among => apply BP.of_K hK; k_is; kernel_rfl)
    (case a_coins_taken => apply BP.of_K hK; k_is; kernel_rfl)
    (case l_coins_taken => apply BP.of_K hK; k_is; kernel_rfl)
    (case c_coins_taken => apply BP.of_K hK; k_is; kernel_rfl)
    (case k_coins_taken => apply BP.of_K hK; k_is; kernel_rfl)
    (case a_least_table => apply BP.of_K hK; k_is; kernel_rfl)
    (case l_least_table => apply BP.of_K hK; k_is; kernel_rfl)
    (case c_least_table => apply BP.of_K hK; k_is; kernel_rfl)
    (case tl_least_table => apply BP.of_K hK; k_is; kernel_rfl)
    (case tv_least_table => rfl)
    (case tn_least_table => subst hK; kernel_rfl)
    (case k_least_table => apply BP.of_K hK; k_is; kernel_rfl)
    (case dl_least_table => apply BP.of_K hK; k_is; kernel_rfl)
    (case dr_least_table => exact (.cons ⟨_, rfl⟩ .nil))
    (case a_bits_by => apply BP.of_K hK; k_is; kernel_rfl)
    (case l_bits_by => apply BP.of_K hK; k_is; kernel_rfl)
    (case c_bits_by => apply BP.of_K hK; k_is; kernel_rfl)
    (case k_bits_by => apply BP.of_K hK; k_is; kernel_rfl)
    (case a_table_bits => apply BP.of_K hK; k_is; kernel_rfl)
    (case l_table_bits => apply BP.of_K hK; k_is; kernel_rfl)
    (case c_table_bits => apply BP.of_K hK; k_is; kernel_rfl)
    (case k_table_bits => apply BP.of_K hK; k_is; kernel_rfl)
    (case a_is_least => apply BP.of_K hK; k_is; kernel_rfl)
    (case l_is_least => apply BP.of_K hK; k_is; kernel_rfl)
    (case c_is_least => apply BP.of_K hK; k_is; kernel_rfl)
    (case k_is_least => apply BP.of_K hK; k_is; kernel_rfl)
    (case dl_is_least => apply BP.of_K hK; k_is; kernel_rfl)
    (case dr_is_least => exact (.cons ⟨_, rfl⟩ .nil))
    (case a_by_limits => apply BP.of_K hK; k_is; kernel_rfl)
    (case l_by_limits => apply BP.of_K hK; k_is; kernel_rfl)
    (case c_by_limits => apply BP.of_K hK; k_is; kernel_rfl)
    (case k_by_limits => apply BP.of_K hK; k_is; kernel_rfl)
    (case a_law_cell_at => apply BP.of_K hK; k_is; kernel_rfl)
    (case l_law_cell_at => apply BP.of_K hK; k_is; kernel_rfl)
    (case c_law_cell_at => apply BP.of_K hK; k_is; kernel_rfl)
    (case k_law_cell_at => apply BP.of_K hK; k_is; kernel_rfl)
    (case a_law_source_of => apply BP.of_K hK; k_is; kernel_rfl)
    (case l_law_source_of => apply BP.of_K hK; k_is; kernel_rfl)
    (case c_law_source_of => apply BP.of_K hK; k_is; kernel_rfl)
    (case k_law_source_of => apply BP.of_K hK; k_is; kernel_rfl)
    (case a_law_next => apply BP.of_K hK; k_is; kernel_rfl)
    (case l_law_next => apply BP.of_K hK; k_is; kernel_rfl)
    (case c_law_next => apply BP.of_K hK; k_is; kernel_rfl)
    (case k_law_next => apply BP.of_K hK; k_is; kernel_rfl)
    (case a_law_one => apply BP.of_K hK; k_is; kernel_rfl)
    (case l_law_one => apply BP.of_K hK; k_is; kernel_rfl)
    (case c_law_one => apply BP.of_K hK; k_is; kernel_rfl)
    (case k_law_one => apply BP.of_K hK; k_is; kernel_rfl)
    (case a_law_lengths => apply BP.of_K hK; k_is; kernel_rfl)
    (case l_law_lengths => apply BP.of_K hK; k_is; kernel_rfl)
    (case c_law_lengths => apply BP.of_K hK; k_is; kernel_rfl)
    (case k_law_lengths => apply BP.of_K hK; k_is; kernel_rfl)
    (case a_law_weights => apply BP.of_K hK; k_is; kernel_rfl)
    (case l_law_weights => apply BP.of_K hK; k_is; kernel_rfl)
    (case c_law_weights => apply BP.of_K hK; k_is; kernel_rfl)
    (case k_law_weights => apply BP.of_K hK; k_is; kernel_rfl)
    (case a_law_free_bits => apply BP.of_K hK; k_is; kernel_rfl)
    (case l_law_free_bits => apply BP.of_K hK; k_is; kernel_rfl)
    (case c_law_free_bits => apply BP.of_K hK; k_is; kernel_rfl)
    (case k_law_free_bits => apply BP.of_K hK; k_is; kernel_rfl)
    (case a_law_bits_by => apply BP.of_K hK; k_is; kernel_rfl)
    (case l_law_bits_by => apply BP.of_K hK; k_is; kernel_rfl)
    (case c_law_bits_by => apply BP.of_K hK; k_is; kernel_rfl)
    (case k_law_bits_by => apply BP.of_K hK; k_is; kernel_rfl)
    (case a_law_right => apply BP.of_K hK; k_is; kernel_rfl)
    (case l_law_right => apply BP.of_K hK; k_is; kernel_rfl)
    (case c_law_right => apply BP.of_K hK; k_is; kernel_rfl)
    (case k_law_right => apply BP.of_K hK; k_is; kernel_rfl)
    (case a_law => apply BP.of_K hK; k_is; kernel_rfl)
    (case l_law => apply BP.of_K hK; k_is; kernel_rfl)
    (case c_law => apply BP.of_K hK; k_is; kernel_rfl)
    (case k_law => apply BP.of_K hK; k_is; kernel_rfl)
    (case b_all => apply BP.of_K hK; k_is; kernel_rfl)
    (case b_bool => apply BP.of_K hK; k_is; kernel_rfl)
    (case b_dict => apply BP.of_K hK; k_is; kernel_rfl)
    (case b_enumerate => apply BP.of_K hK; k_is; kernel_rfl)
    (case b_int => apply BP.of_K hK; k_is; kernel_rfl)
    (case b_isinstance => apply BP.of_K hK; k_is; kernel_rfl)
    (case b_len => apply BP.of_K hK; k_is; kernel_rfl)
    (case b_list => apply BP.of_K hK; k_is; kernel_rfl)
    (case b_max => apply BP.of_K hK; k_is; kernel_rfl)
    (case b_min => apply BP.of_K hK; k_is; kernel_rfl)
    (case b_range => apply BP.of_K hK; k_is; kernel_rfl)
    (case b_repr => apply BP.of_K hK; k_is; kernel_rfl)
    (case b_set => apply BP.of_K hK; k_is; kernel_rfl)
    (case b_sorted => apply BP.of_K hK; k_is; kernel_rfl)
    (case b_sum => apply BP.of_K hK; k_is; kernel_rfl)
    (case b_tuple => apply BP.of_K hK; k_is; kernel_rfl)
    (case v_LONGEST => apply BP.of_K hK; k_is; kernel_rfl)
    (case v_MOST_WEIGHT => apply BP.of_K hK; k_is; kernel_rfl)
    (case v_WHOLE => apply BP.of_K hK; k_is; kernel_rfl)
    (case xa_PicError => apply BP.of_K hK; k_is; kernel_rfl)
    (case xe_PicError => apply BP.of_K hK; k_is; kernel_rfl)
    (case xt_PicError => apply BP.of_K hK; k_is; kernel_rfl)
    (case xi_PicError => apply BP.of_K hK; k_is; kernel_rfl)
    (case xa_NoTable => apply BP.of_K hK; k_is; kernel_rfl)
    (case xe_NoTable => apply BP.of_K hK; k_is; kernel_rfl)
    (case xt_NoTable => apply BP.of_K hK; k_is; kernel_rfl)
    (case xi_NoTable => apply BP.of_K hK; k_is; kernel_rfl)
    (case xa_NoSymbol => apply BP.of_K hK; k_is; kernel_rfl)
    (case xe_NoSymbol => apply BP.of_K hK; k_is; kernel_rfl)
    (case xt_NoSymbol => apply BP.of_K hK; k_is; kernel_rfl)
    (case xi_NoSymbol => apply BP.of_K hK; k_is; kernel_rfl)
    (case xa_NoWeights => apply BP.of_K hK; k_is; kernel_rfl)
    (case xe_NoWeights => apply BP.of_K hK; k_is; kernel_rfl)
    (case xt_NoWeights => apply BP.of_K hK; k_is; kernel_rfl)
    (case xi_NoWeights => apply BP.of_K hK; k_is; kernel_rfl)
    (case xa_NoLimit => apply BP.of_K hK; k_is; kernel_rfl)
    (case xe_NoLimit => apply BP.of_K hK; k_is; kernel_rfl)
    (case xt_NoLimit => apply BP.of_K hK; k_is; kernel_rfl)
    (case xi_NoLimit => apply BP.of_K hK; k_is; kernel_rfl)
    (case xa_NoRoom => apply BP.of_K hK; k_is; kernel_rfl)
    (case xe_NoRoom => apply BP.of_K hK; k_is; kernel_rfl)
    (case xt_NoRoom => apply BP.of_K hK; k_is; kernel_rfl)
    (case xi_NoRoom => apply BP.of_K hK; k_is; kernel_rfl)
    (case xop => apply BP.of_K hK; k_is; kernel_rfl)
    (case xms => apply BP.of_K hK; k_is; kernel_rfl)
    (case xL_NoTable => apply BP.of_K hK; k_is; kernel_rfl)
    (case sa_NoTable => apply BP.of_K hK; k_is; kernel_rfl)
    (case ga_NoTable => apply BP.of_K hK; k_is; kernel_rfl)
    (case gg_NoTable => apply BP.of_K hK; k_is; kernel_rfl)
    (case no_NoTable_part => apply BP.of_K hK; k_is; kernel_rfl)
    (case kC_NoTable => apply BP.of_K hK; k_is; kernel_rfl)
    (case hC_NoTable => apply BP.of_K hK; k_is; kernel_rfl)
    (case iC_NoTable => apply BP.of_K hK; k_is; kernel_rfl)
    (case tI_NoTable => apply BP.of_K hK; k_is; kernel_rfl)
    (case lI_NoTable => apply BP.of_K hK; k_is; kernel_rfl)
    (case cI_NoTable => apply BP.of_K hK; k_is; kernel_rfl)
    (case lc_NoTable => apply BP.of_K hK; k_is; kernel_rfl)
    (case vf_NoTable => rfl)
    (case lcc_NoTable => apply BP.of_K hK; k_is; kernel_rfl)
    (case su_NoTable => apply BP.of_K hK; ks_is; kernel_rfl)
    (case sv_NoTable => apply BP.of_K hK; k_is; kernel_rfl)
    (case ss_NoTable => apply BP.of_K hK; k_is; kernel_rfl)
    (case s_NoTable_PicError => apply BP.of_K hK; k_is; kernel_rfl)
    (case s_NoTable_NoTable => apply BP.of_K hK; k_is; kernel_rfl)
    (case s_NoTable_NoSymbol => apply BP.of_K hK; k_is; kernel_rfl)
    (case s_NoTable_NoWeights => apply BP.of_K hK; k_is; kernel_rfl)
    (case s_NoTable_NoLimit => apply BP.of_K hK; k_is; kernel_rfl)
    (case s_NoTable_NoRoom => apply BP.of_K hK; k_is; kernel_rfl)
    (case xL_NoSymbol => apply BP.of_K hK; k_is; kernel_rfl)
    (case sa_NoSymbol => apply BP.of_K hK; k_is; kernel_rfl)
    (case ga_NoSymbol => apply BP.of_K hK; k_is; kernel_rfl)
    (case gg_NoSymbol => apply BP.of_K hK; k_is; kernel_rfl)
    (case no_NoSymbol_symbol => apply BP.of_K hK; k_is; kernel_rfl)
    (case kC_NoSymbol => apply BP.of_K hK; k_is; kernel_rfl)
    (case hC_NoSymbol => apply BP.of_K hK; k_is; kernel_rfl)
    (case iC_NoSymbol => apply BP.of_K hK; k_is; kernel_rfl)
    (case tI_NoSymbol => apply BP.of_K hK; k_is; kernel_rfl)
    (case lI_NoSymbol => apply BP.of_K hK; k_is; kernel_rfl)
    (case cI_NoSymbol => apply BP.of_K hK; k_is; kernel_rfl)
    (case lc_NoSymbol => apply BP.of_K hK; k_is; kernel_rfl)
    (case vf_NoSymbol => rfl)
    (case lcc_NoSymbol => apply BP.of_K hK; k_is; kernel_rfl)
    (case su_NoSymbol => apply BP.of_K hK; ks_is; kernel_rfl)
    (case sv_NoSymbol => apply BP.of_K hK; k_is; kernel_rfl)
    (case ss_NoSymbol => apply BP.of_K hK; k_is; kernel_rfl)
    (case s_NoSymbol_PicError => apply BP.of_K hK; k_is; kernel_rfl)
    (case s_NoSymbol_NoTable => apply BP.of_K hK; k_is; kernel_rfl)
    (case s_NoSymbol_NoSymbol => apply BP.of_K hK; k_is; kernel_rfl)
    (case s_NoSymbol_NoWeights => apply BP.of_K hK; k_is; kernel_rfl)
    (case s_NoSymbol_NoLimit => apply BP.of_K hK; k_is; kernel_rfl)
    (case s_NoSymbol_NoRoom => apply BP.of_K hK; k_is; kernel_rfl)
    (case xL_NoWeights => apply BP.of_K hK; k_is; kernel_rfl)
    (case sa_NoWeights => apply BP.of_K hK; k_is; kernel_rfl)
    (case ga_NoWeights => apply BP.of_K hK; k_is; kernel_rfl)
    (case gg_NoWeights => apply BP.of_K hK; k_is; kernel_rfl)
    (case no_NoWeights_symbol => apply BP.of_K hK; k_is; kernel_rfl)
    (case kC_NoWeights => apply BP.of_K hK; k_is; kernel_rfl)
    (case hC_NoWeights => apply BP.of_K hK; k_is; kernel_rfl)
    (case iC_NoWeights => apply BP.of_K hK; k_is; kernel_rfl)
    (case tI_NoWeights => apply BP.of_K hK; k_is; kernel_rfl)
    (case lI_NoWeights => apply BP.of_K hK; k_is; kernel_rfl)
    (case cI_NoWeights => apply BP.of_K hK; k_is; kernel_rfl)
    (case lc_NoWeights => apply BP.of_K hK; k_is; kernel_rfl)
    (case vf_NoWeights => rfl)
    (case lcc_NoWeights => apply BP.of_K hK; k_is; kernel_rfl)
    (case su_NoWeights => apply BP.of_K hK; ks_is; kernel_rfl)
    (case sv_NoWeights => apply BP.of_K hK; k_is; kernel_rfl)
    (case ss_NoWeights => apply BP.of_K hK; k_is; kernel_rfl)
    (case s_NoWeights_PicError => apply BP.of_K hK; k_is; kernel_rfl)
    (case s_NoWeights_NoTable => apply BP.of_K hK; k_is; kernel_rfl)
    (case s_NoWeights_NoSymbol => apply BP.of_K hK; k_is; kernel_rfl)
    (case s_NoWeights_NoWeights => apply BP.of_K hK; k_is; kernel_rfl)
    (case s_NoWeights_NoLimit => apply BP.of_K hK; k_is; kernel_rfl)
    (case s_NoWeights_NoRoom => apply BP.of_K hK; k_is; kernel_rfl)
    (case xL_NoLimit => apply BP.of_K hK; k_is; kernel_rfl)
    (case sa_NoLimit => apply BP.of_K hK; k_is; kernel_rfl)
    (case ga_NoLimit => apply BP.of_K hK; k_is; kernel_rfl)
    (case gg_NoLimit => apply BP.of_K hK; k_is; kernel_rfl)
    (case no_NoLimit_limit => apply BP.of_K hK; k_is; kernel_rfl)
    (case kC_NoLimit => apply BP.of_K hK; k_is; kernel_rfl)
    (case hC_NoLimit => apply BP.of_K hK; k_is; kernel_rfl)
    (case iC_NoLimit => apply BP.of_K hK; k_is; kernel_rfl)
    (case tI_NoLimit => apply BP.of_K hK; k_is; kernel_rfl)
    (case lI_NoLimit => apply BP.of_K hK; k_is; kernel_rfl)
    (case cI_NoLimit => apply BP.of_K hK; k_is; kernel_rfl)
    (case lc_NoLimit => apply BP.of_K hK; k_is; kernel_rfl)
    (case vf_NoLimit => rfl)
    (case lcc_NoLimit => apply BP.of_K hK; k_is; kernel_rfl)
    (case su_NoLimit => apply BP.of_K hK; ks_is; kernel_rfl)
    (case sv_NoLimit => apply BP.of_K hK; k_is; kernel_rfl)
    (case ss_NoLimit => apply BP.of_K hK; k_is; kernel_rfl)
    (case s_NoLimit_PicError => apply BP.of_K hK; k_is; kernel_rfl)
    (case s_NoLimit_NoTable => apply BP.of_K hK; k_is; kernel_rfl)
    (case s_NoLimit_NoSymbol => apply BP.of_K hK; k_is; kernel_rfl)
    (case s_NoLimit_NoWeights => apply BP.of_K hK; k_is; kernel_rfl)
    (case s_NoLimit_NoLimit => apply BP.of_K hK; k_is; kernel_rfl)
    (case s_NoLimit_NoRoom => apply BP.of_K hK; k_is; kernel_rfl)
    (case xL_NoRoom => apply BP.of_K hK; k_is; kernel_rfl)
    (case sa_NoRoom => apply BP.of_K hK; k_is; kernel_rfl)
    (case ga_NoRoom => apply BP.of_K hK; k_is; kernel_rfl)
    (case gg_NoRoom => apply BP.of_K hK; k_is; kernel_rfl)
    (case no_NoRoom_limit => apply BP.of_K hK; k_is; kernel_rfl)
    (case kC_NoRoom => apply BP.of_K hK; k_is; kernel_rfl)
    (case hC_NoRoom => apply BP.of_K hK; k_is; kernel_rfl)
    (case iC_NoRoom => apply BP.of_K hK; k_is; kernel_rfl)
    (case tI_NoRoom => apply BP.of_K hK; k_is; kernel_rfl)
    (case lI_NoRoom => apply BP.of_K hK; k_is; kernel_rfl)
    (case cI_NoRoom => apply BP.of_K hK; k_is; kernel_rfl)
    (case lc_NoRoom => apply BP.of_K hK; k_is; kernel_rfl)
    (case vf_NoRoom => rfl)
    (case lcc_NoRoom => apply BP.of_K hK; k_is; kernel_rfl)
    (case su_NoRoom => apply BP.of_K hK; ks_is; kernel_rfl)
    (case sv_NoRoom => apply BP.of_K hK; k_is; kernel_rfl)
    (case ss_NoRoom => apply BP.of_K hK; k_is; kernel_rfl)
    (case s_NoRoom_PicError => apply BP.of_K hK; k_is; kernel_rfl)
    (case s_NoRoom_NoTable => apply BP.of_K hK; k_is; kernel_rfl)
    (case s_NoRoom_NoSymbol => apply BP.of_K hK; k_is; kernel_rfl)
    (case s_NoRoom_NoWeights => apply BP.of_K hK; k_is; kernel_rfl)
    (case s_NoRoom_NoLimit => apply BP.of_K hK; k_is; kernel_rfl)
    (case s_NoRoom_NoRoom => apply BP.of_K hK; k_is; kernel_rfl)
    (case rec => subst hCT; refine ⟨?_, ?_⟩ <;> exact BP.codeT_mk (by k_is) (by k_is) (by kernel_rfl) (by kernel_rfl))
    (case ndp => decide)

