import PyProof.Rows.All
import Wide.All
import OpenK.AllK
import Wide.FinOn
import PySem.Challenge.RW_colourhouse_k05_whole_paintings_counted
import HandS.ForMost
import HandS.ForExc
import HandS.TupAny
import HandS.TupMul
import HandS.Deep
import HandS.TupLe
import HandS.CallSlots
import HandS.Lambda
import HandS.SortRule
import HandS.ExcInit
import HandS.ExcField
import HandS.ExcIs
import HandS.TryMany
import HandS.IsInst
import HandS.Style
import HandS.More
import HandS.Keys
import HandS.Conv
import HandS.TupLen
import HandS.Small
import HandS.Flow
import HandS.Wide
import HandS.StrMore
import HandS.Steps
import HandS.DictComp
import KE.KTupSum
import KE.GoesEnum
import KE.GoesMore
import KE.GoesZip
import HandS.Iter
import HandS.Defaults
import HandS.WordsExc
import HandS.SortInts
import HandS.Head0
import HandS.Head1
import HandS.Head2
import HandS.HeadEnd
import HandS.HeadHook1
import HandS.HeadHook2
import HandS.HeadHook3
import HandS.HeadHook4
import HandS.HeadWalk
import KE.DataMinMax
import PyProof.Claim2Refuses
set_option Elab.async false
set_option linter.all false
set_option maxRecDepth 100000
set_option maxHeartbeats 0
/-! TL1: tree values, worlds, the canonical reading of a denotation. -/
namespace Twl
open PySem PySem.Spec PyProof.Rows L2

/-- a tree value -/
inductive T where
  | non | bl (b : Bool) | int (i : Int) | str (x : Str)
  | tup (ts : List T) | lst (ts : List T)
  | dk (ks : List Key) (ts : List T) | dt (ks : List (List Key)) (ts : List T)
  | ty (n : String) | glob (x : Str) | hand

structure Exn where
  cls : Str
  arg : Option (Str × T)

/-- what is fixed: the written part, the module's names, the tables of code objects -/
structure Kx where
  K : PySem.W.Frag
  mg : Str → Option Value
  tb : List (Addr × Str)
  /-- code objects that are known to stand -/
  cd : List (Addr × Str)

/-- a world: the draw state's place, the addresses that never change again, the heap -/
structure Wd where
  hp : Option Addr
  F : Addr → Prop
  H : Hp

def KTup (K : PySem.W.Frag) (p : Addr) (vs : List V) : Prop :=
  ∃ (o : Obj) (its : Array Value) (n : Nat), K.lookup p = some o ∧ o.cls = .type "tuple" ∧ o.data = .seq its n ∧ its.size ≤ sizeLine ∧ Vals vs its.toList
def TupAt (S : Kx) (w : Wd) (p : Addr) (vs : List V) : Prop := (w.F p ∧ w.H p = some (.tup vs)) ∨ KTup S.K p vs
def LstAt (w : Wd) (p : Addr) (vs : List V) : Prop := w.F p ∧ w.H p = some (.lst vs)
theorem TupAt.sq {S : Kx} {w : Wd} {p : Addr} {vs : List V} (h : TupAt S w p vs) : SqT S.K w.H p vs := by
  rcases h with h | h
  · exact .inl (.inl h.2)
  · exact .inr h
theorem LstAt.sq {K : PySem.W.Frag} {w : Wd} {p : Addr} {vs : List V} (h : LstAt w p vs) : SqL K w.H p vs := .inl (.inl h.2)

mutual
def Rep (S : Kx) (w : Wd) : T → V → Prop
  | .non, v => v = .non
  | .bl b, v => v = .bl b
  | .int i, v => v = .int i
  | .str x, v => v = .str x
  | .tup ts, v => ∃ p vs, v = .ref p ∧ TupAt S w p vs ∧ Reps S w ts vs
  | .lst ts, v => ∃ p vs, v = .ref p ∧ LstAt w p vs ∧ Reps S w ts vs
  | .dk ks ts, v => ∃ p vs, v = .ref p ∧ w.F p ∧ w.H p = some (.dK (ks.zip vs)) ∧ ks.length = ts.length ∧ Reps S w ts vs
  | .dt ks ts, v => ∃ p vs, v = .ref p ∧ w.F p ∧ w.H p = some (.dT (ks.zip vs)) ∧ ks.length = ts.length ∧ Reps S w ts vs
  | .ty n, v => v = .ty n
  | .glob x, v => ∃ u, S.mg x = some u ∧ RelV v u
  | .hand, v => ∃ p, w.hp = some p ∧ v = .ref p
termination_by structural t => t
def Reps (S : Kx) (w : Wd) : List T → List V → Prop
  | [], vs => vs = []
  | t :: ts, vs => ∃ v vs', vs = v :: vs' ∧ Rep S w t v ∧ Reps S w ts vs'
termination_by structural ts => ts
end

theorem Reps.nil {S : Kx} {w : Wd} : Reps S w [] [] := by rw [Reps]
theorem Reps.cons {S : Kx} {w : Wd} {t : T} {ts : List T} {v : V} {vs : List V} (h : Rep S w t v) (r : Reps S w ts vs) : Reps S w (t :: ts) (v :: vs) := by
  rw [Reps]; exact ⟨v, vs, rfl, h, r⟩
theorem Reps.nil_inv {S : Kx} {w : Wd} {vs : List V} (h : Reps S w [] vs) : vs = [] := by rw [Reps] at h; exact h
theorem Reps.cons_inv {S : Kx} {w : Wd} {t : T} {ts : List T} {vs : List V} (h : Reps S w (t :: ts) vs) : ∃ v vs', vs = v :: vs' ∧ Rep S w t v ∧ Reps S w ts vs' := by
  rw [Reps] at h; exact h
theorem Reps.length {S : Kx} {w : Wd} : ∀ {ts : List T} {vs : List V}, Reps S w ts vs → vs.length = ts.length
  | [], vs, h => by rw [h.nil_inv]; rfl
  | t :: ts, vs, h => by
    obtain ⟨v, vs', rfl, _, r⟩ := h.cons_inv
    simp [Reps.length r]
theorem Reps.get {S : Kx} {w : Wd} : ∀ {ts : List T} {vs : List V} {i : Nat} {t : T}, Reps S w ts vs → ts[i]? = some t → ∃ v, vs[i]? = some v ∧ Rep S w t v
  | [], _, _, _, _, e => by simp at e
  | t :: ts, vs, i, u, h, e => by
    obtain ⟨v, vs', rfl, r, q⟩ := h.cons_inv
    cases i with
    | zero => simp at e; subst e; exact ⟨v, rfl, r⟩
    | succ i => simp at e; obtain ⟨x, h1, h2⟩ := q.get e; exact ⟨x, by simpa using h1, h2⟩
theorem Reps.get' {S : Kx} {w : Wd} : ∀ {ts : List T} {vs : List V} {i : Nat} {v : V}, Reps S w ts vs → vs[i]? = some v → ∃ t, ts[i]? = some t ∧ Rep S w t v
  | [], vs, i, v, h, e => by rw [h.nil_inv] at e; simp at e
  | t :: ts, vs, i, v, h, e => by
    obtain ⟨x, vs', rfl, r, q⟩ := h.cons_inv
    cases i with
    | zero => simp at e; subst e; exact ⟨t, rfl, r⟩
    | succ i => simp at e; obtain ⟨x, h1, h2⟩ := q.get' e; exact ⟨x, by simpa using h1, h2⟩
theorem Reps.append {S : Kx} {w : Wd} : ∀ {ts us : List T} {vs ws : List V}, Reps S w ts vs → Reps S w us ws → Reps S w (ts ++ us) (vs ++ ws)
  | [], _, _, _, h, r => by rw [h.nil_inv]; exact r
  | t :: ts, us, vs, ws, h, r => by
    obtain ⟨x, vs', rfl, h1, h2⟩ := h.cons_inv
    exact .cons h1 (h2.append r)
theorem Reps.take {S : Kx} {w : Wd} : ∀ {ts : List T} {vs : List V} (n : Nat), Reps S w ts vs → Reps S w (ts.take n) (vs.take n)
  | _, _, 0, _ => by simpa using Reps.nil
  | [], _, n + 1, h => by rw [h.nil_inv]; simpa using Reps.nil
  | t :: ts, _, n + 1, h => by
    obtain ⟨x, vs', rfl, h1, h2⟩ := h.cons_inv
    simpa using Reps.cons h1 (h2.take n)
theorem Reps.drop {S : Kx} {w : Wd} : ∀ {ts : List T} {vs : List V} (n : Nat), Reps S w ts vs → Reps S w (ts.drop n) (vs.drop n)
  | _, _, 0, h => by simpa using h
  | [], _, n + 1, h => by rw [h.nil_inv]; simpa using Reps.nil
  | t :: ts, _, n + 1, h => by
    obtain ⟨x, vs', rfl, h1, h2⟩ := h.cons_inv
    simpa using h2.drop n
theorem Reps.reverse {S : Kx} {w : Wd} : ∀ {ts : List T} {vs : List V}, Reps S w ts vs → Reps S w ts.reverse vs.reverse
  | [], _, h => by rw [h.nil_inv]; simpa using Reps.nil
  | t :: ts, _, h => by
    obtain ⟨x, vs', rfl, h1, h2⟩ := h.cons_inv
    simpa using (h2.reverse).append (.cons h1 .nil)
theorem Reps.set {S : Kx} {w : Wd} {t : T} {v : V} (r : Rep S w t v) : ∀ {ts : List T} {vs : List V} (i : Nat), Reps S w ts vs → Reps S w (ts.set i t) (vs.set i v)
  | [], _, _, h => by rw [h.nil_inv]; simpa using Reps.nil
  | _ :: _, _, 0, h => by
    obtain ⟨x, vs', rfl, h1, h2⟩ := h.cons_inv
    simpa using Reps.cons r h2
  | _ :: _, _, i + 1, h => by
    obtain ⟨x, vs', rfl, h1, h2⟩ := h.cons_inv
    simpa using Reps.cons h1 (Reps.set r i h2)
theorem Reps.eraseIdx {S : Kx} {w : Wd} : ∀ {ts : List T} {vs : List V} (i : Nat), Reps S w ts vs → Reps S w (ts.eraseIdx i) (vs.eraseIdx i)
  | [], _, _, h => by rw [h.nil_inv]; simpa using Reps.nil
  | _ :: _, _, 0, h => by
    obtain ⟨x, vs', rfl, h1, h2⟩ := h.cons_inv
    simpa using h2
  | _ :: _, _, i + 1, h => by
    obtain ⟨x, vs', rfl, h1, h2⟩ := h.cons_inv
    simpa using Reps.cons h1 (Reps.eraseIdx i h2)

/-! ### worlds that follow one another -/
structure HandOk (S : Kx) (w : Wd) (p : Addr) : Prop where
  it : ∃ (c : Addr) (cells : List Int) (i r m k : Int), w.H p = some (.lst [.ref c, .int i, .int r, .int m, .int k]) ∧ 0 ≤ i ∧ LstAt w c (cells.map V.int)

def FzO : HO → Prop
  | .lst _ => True
  | .tup _ => True
  | .dK _ => True
  | .dT _ => True
  | .xd _ => True
  | .frz _ (.lst _) => True
  | _ => False

def TbOk (S : Kx) (H : Hp) : Prop := LamX.Tabs S.tb H ∧ ∀ p ∈ S.cd, H p.1 = some (LamX.CodeO p.1 p.2)
structure Wok (S : Kx) (w : Wd) : Prop where
  fz : ∀ b, w.F b → w.hp ≠ some b ∧ ∃ o, w.H b = some o ∧ FzO o
  hd : ∀ p, w.hp = some p → HandOk S w p
  tb : TbOk S w.H

structure Le (w w' : Wd) : Prop where
  hp : w'.hp = w.hp
  ff : ∀ b, w.F b → w'.F b
  fn : ∀ b, w'.F b → w.F b ∨ w.H b = none
  hh : ∀ b o, w.H b = some o → w.hp ≠ some b → (∀ ps, o ≠ .tbl ps) → w'.H b = some o
  no : ∀ b, w'.H b = none → w.H b = none

theorem Le.refl (w : Wd) : Le w w := ⟨rfl, fun _ h => h, fun _ h => .inl h, fun _ _ h _ _ => h, fun _ h => h⟩
theorem Le.trans {a b c : Wd} (x : Le a b) (y : Le b c) : Le a c :=
  ⟨y.hp.trans x.hp, fun d h => y.ff d (x.ff d h), fun d h => (y.fn d h).elim (fun q => x.fn d q) (fun q => .inr (x.no d q)),
    fun d o h1 h2 h3 => y.hh d o (x.hh d o h1 h2 h3) (by rw [x.hp]; exact h2) h3, fun d h => x.no d (y.no d h)⟩

/-- the frozen part is as it was (F may grow) -/
structure Agr (w w' : Wd) : Prop where
  hp : w'.hp = w.hp
  ff : ∀ b, w.F b → w'.F b
  at_ : ∀ b, w.F b → w'.H b = w.H b

theorem FzO.ntbl {o : HO} (h : FzO o) : ∀ ps, o ≠ .tbl ps := fun ps e => by subst e; exact h
theorem Le.agr {S : Kx} {w w' : Wd} (ok : Wok S w) (l : Le w w') : Agr w w' := by
  refine ⟨l.hp, l.ff, fun b h => ?_⟩
  obtain ⟨h1, o, h2, h3⟩ := ok.fz b h
  rw [h2]
  exact l.hh b o h2 h1 h3.ntbl
theorem Agr.lst {w w' : Wd} (a : Agr w w') {p : Addr} {vs : List V} (h : LstAt w p vs) : LstAt w' p vs := ⟨a.ff p h.1, by rw [a.at_ p h.1]; exact h.2⟩
theorem Agr.tup {S : Kx} {w w' : Wd} (a : Agr w w') {p : Addr} {vs : List V} (h : TupAt S w p vs) : TupAt S w' p vs := by
  rcases h with h | h
  · exact .inl ⟨a.ff p h.1, by rw [a.at_ p h.1]; exact h.2⟩
  · exact .inr h

mutual
theorem Rep.agr {S : Kx} {w w' : Wd} (a : Agr w w') : ∀ (t : T) (v : V), Rep S w t v → Rep S w' t v
  | .non, v, h => by rw [Rep] at h ⊢; exact h
  | .bl b, v, h => by rw [Rep] at h ⊢; exact h
  | .int i, v, h => by rw [Rep] at h ⊢; exact h
  | .str x, v, h => by rw [Rep] at h ⊢; exact h
  | .tup ts, v, h => by
    rw [Rep] at h ⊢
    obtain ⟨p, vs, e, h1, h2⟩ := h
    exact ⟨p, vs, e, a.tup h1, Reps.agr a ts vs h2⟩
  | .lst ts, v, h => by
    rw [Rep] at h ⊢
    obtain ⟨p, vs, e, h1, h2⟩ := h
    exact ⟨p, vs, e, a.lst h1, Reps.agr a ts vs h2⟩
  | .dk ks ts, v, h => by
    rw [Rep] at h ⊢
    obtain ⟨p, vs, e, h1, h2, h3, h4⟩ := h
    exact ⟨p, vs, e, a.ff p h1, by rw [a.at_ p h1]; exact h2, h3, Reps.agr a ts vs h4⟩
  | .dt ks ts, v, h => by
    rw [Rep] at h ⊢
    obtain ⟨p, vs, e, h1, h2, h3, h4⟩ := h
    exact ⟨p, vs, e, a.ff p h1, by rw [a.at_ p h1]; exact h2, h3, Reps.agr a ts vs h4⟩
  | .ty n, v, h => by rw [Rep] at h ⊢; exact h
  | .glob x, v, h => by rw [Rep] at h ⊢; exact h
  | .hand, v, h => by rw [Rep] at h ⊢; rw [a.hp]; exact h
theorem Reps.agr {S : Kx} {w w' : Wd} (a : Agr w w') : ∀ (ts : List T) (vs : List V), Reps S w ts vs → Reps S w' ts vs
  | [], vs, h => by rw [Reps] at h ⊢; exact h
  | t :: ts, vs, h => by
    obtain ⟨v, vs', rfl, h1, h2⟩ := h.cons_inv
    exact .cons (Rep.agr a t v h1) (Reps.agr a ts vs' h2)
end

/-! ### owned lists: the footprint is what may be changed -/
mutual
def RepO (S : Kx) (w : Wd) : Nat → T → V → List Addr → Prop
  | 0, t, v, fp => fp = [] ∧ Rep S w t v
  | d + 1, .lst ts, v, fp => ∃ p vs f, v = .ref p ∧ w.H p = some (.lst vs) ∧ fp = p :: f ∧ RepsO S w d ts vs f
  | _ + 1, .dk ks ts, v, fp => ∃ p vs, v = .ref p ∧ w.H p = some (.dK (ks.zip vs)) ∧ fp = [p] ∧ ks.length = ts.length ∧ Reps S w ts vs
  | _ + 1, .dt ks ts, v, fp => ∃ p vs, v = .ref p ∧ w.H p = some (.dT (ks.zip vs)) ∧ fp = [p] ∧ ks.length = ts.length ∧ Reps S w ts vs
  | _ + 1, t, v, fp => fp = [] ∧ Rep S w t v
def RepsO (S : Kx) (w : Wd) : Nat → List T → List V → List Addr → Prop
  | _, [], vs, fp => vs = [] ∧ fp = []
  | d, t :: ts, vs, fp => ∃ v vs' f f', vs = v :: vs' ∧ fp = f ++ f' ∧ RepO S w d t v f ∧ RepsO S w d ts vs' f'
end

theorem RepsO.nil_inv {S : Kx} {w : Wd} {d : Nat} {vs : List V} {fp : List Addr} (h : RepsO S w d [] vs fp) : vs = [] ∧ fp = [] := by rw [RepsO] at h; exact h
theorem RepsO.cons_inv {S : Kx} {w : Wd} {d : Nat} {t : T} {ts : List T} {vs : List V} {fp : List Addr} (h : RepsO S w d (t :: ts) vs fp) :
    ∃ v vs' f f', vs = v :: vs' ∧ fp = f ++ f' ∧ RepO S w d t v f ∧ RepsO S w d ts vs' f' := by rw [RepsO] at h; exact h
theorem RepO.zero {S : Kx} {w : Wd} {t : T} {v : V} (h : Rep S w t v) : RepO S w 0 t v [] := by rw [RepO]; exact ⟨rfl, h⟩
theorem RepO.zero_inv {S : Kx} {w : Wd} {t : T} {v : V} {fp : List Addr} (h : RepO S w 0 t v fp) : fp = [] ∧ Rep S w t v := by rw [RepO] at h; exact h
theorem RepsO.zero {S : Kx} {w : Wd} : ∀ {ts : List T} {vs : List V}, Reps S w ts vs → RepsO S w 0 ts vs []
  | [], vs, h => by rw [h.nil_inv, RepsO]; exact ⟨rfl, rfl⟩
  | t :: ts, vs, h => by
    obtain ⟨v, vs', rfl, h1, h2⟩ := h.cons_inv
    rw [RepsO]; exact ⟨v, vs', [], [], rfl, rfl, .zero h1, RepsO.zero h2⟩
theorem RepsO.zero_inv {S : Kx} {w : Wd} : ∀ {ts : List T} {vs : List V} {fp : List Addr}, RepsO S w 0 ts vs fp → fp = [] ∧ Reps S w ts vs
  | [], vs, fp, h => by obtain ⟨h1, h2⟩ := h.nil_inv; subst h1; subst h2; exact ⟨rfl, .nil⟩
  | t :: ts, vs, fp, h => by
    obtain ⟨v, vs', f, f', rfl, rfl, h1, h2⟩ := h.cons_inv
    obtain ⟨e1, r1⟩ := h1.zero_inv
    obtain ⟨e2, r2⟩ := h2.zero_inv
    subst e1; subst e2
    exact ⟨rfl, .cons r1 r2⟩
/-- an owned list of frozen items -/
theorem RepO.lst {S : Kx} {w : Wd} {p : Addr} {ts : List T} {vs : List V} (h : w.H p = some (.lst vs)) (r : Reps S w ts vs) : RepO S w 1 (.lst ts) (.ref p) [p] := by
  rw [RepO]; exact ⟨p, vs, [], rfl, h, rfl, .zero r⟩

mutual
theorem RepO.agr {S : Kx} {w w' : Wd} (a : Agr w w') : ∀ (d : Nat) (t : T) (v : V) (fp : List Addr), (∀ b ∈ fp, w'.H b = w.H b) → RepO S w d t v fp → RepO S w' d t v fp
  | 0, t, v, fp, _, h => by rw [RepO] at h ⊢; exact ⟨h.1, Rep.agr a t v h.2⟩
  | d + 1, .lst ts, v, fp, k, h => by
    rw [RepO] at h ⊢
    obtain ⟨p, vs, f, e, h1, rfl, h2⟩ := h
    exact ⟨p, vs, f, e, by rw [k p List.mem_cons_self]; exact h1, rfl, RepsO.agr a d ts vs f (fun b hb => k b (List.mem_cons_of_mem _ hb)) h2⟩
  | d + 1, .dk ks ts, v, fp, k, h => by
    rw [RepO] at h ⊢
    obtain ⟨p, vs, e, h1, rfl, h3, h2⟩ := h
    exact ⟨p, vs, e, by rw [k p List.mem_cons_self]; exact h1, rfl, h3, Reps.agr a ts vs h2⟩
  | d + 1, .dt ks ts, v, fp, k, h => by
    rw [RepO] at h ⊢
    obtain ⟨p, vs, e, h1, rfl, h3, h2⟩ := h
    exact ⟨p, vs, e, by rw [k p List.mem_cons_self]; exact h1, rfl, h3, Reps.agr a ts vs h2⟩
  | d + 1, .non, v, fp, _, h => by simp only [RepO] at h ⊢; exact ⟨h.1, Rep.agr a _ v h.2⟩
  | d + 1, .bl _, v, fp, _, h => by simp only [RepO] at h ⊢; exact ⟨h.1, Rep.agr a _ v h.2⟩
  | d + 1, .int _, v, fp, _, h => by simp only [RepO] at h ⊢; exact ⟨h.1, Rep.agr a _ v h.2⟩
  | d + 1, .str _, v, fp, _, h => by simp only [RepO] at h ⊢; exact ⟨h.1, Rep.agr a _ v h.2⟩
  | d + 1, .tup _, v, fp, _, h => by simp only [RepO] at h ⊢; exact ⟨h.1, Rep.agr a _ v h.2⟩
  | d + 1, .ty _, v, fp, _, h => by simp only [RepO] at h ⊢; exact ⟨h.1, Rep.agr a _ v h.2⟩
  | d + 1, .glob _, v, fp, _, h => by simp only [RepO] at h ⊢; exact ⟨h.1, Rep.agr a _ v h.2⟩
  | d + 1, .hand, v, fp, _, h => by simp only [RepO] at h ⊢; exact ⟨h.1, Rep.agr a _ v h.2⟩
theorem RepsO.agr {S : Kx} {w w' : Wd} (a : Agr w w') : ∀ (d : Nat) (ts : List T) (vs : List V) (fp : List Addr), (∀ b ∈ fp, w'.H b = w.H b) → RepsO S w d ts vs fp → RepsO S w' d ts vs fp
  | _, [], vs, fp, _, h => by rw [RepsO] at h ⊢; exact h
  | d, t :: ts, vs, fp, k, h => by
    obtain ⟨v, vs', f, f', rfl, rfl, h1, h2⟩ := h.cons_inv
    rw [RepsO]
    exact ⟨v, vs', f, f', rfl, rfl, RepO.agr a d t v f (fun b hb => k b (List.mem_append_left _ hb)) h1, RepsO.agr a d ts vs' f' (fun b hb => k b (List.mem_append_right _ hb)) h2⟩
end

/-! ### more code objects known -/
def Kx.more (S : Kx) (l : List (Addr × Str)) : Kx := { S with cd := l ++ S.cd }
mutual
theorem Rep.more {S : Kx} {w : Wd} {l : List (Addr × Str)} : ∀ (t : T) (v : V), Rep S w t v ↔ Rep (S.more l) w t v
  | .non, v => by rw [Rep, Rep]
  | .bl b, v => by rw [Rep, Rep]
  | .int i, v => by rw [Rep, Rep]
  | .str x, v => by rw [Rep, Rep]
  | .tup ts, v => by
    rw [Rep, Rep]
    exact ⟨fun ⟨p, vs, e, h1, h2⟩ => ⟨p, vs, e, h1, (Reps.more ts vs).mp h2⟩, fun ⟨p, vs, e, h1, h2⟩ => ⟨p, vs, e, h1, (Reps.more ts vs).mpr h2⟩⟩
  | .lst ts, v => by
    rw [Rep, Rep]
    exact ⟨fun ⟨p, vs, e, h1, h2⟩ => ⟨p, vs, e, h1, (Reps.more ts vs).mp h2⟩, fun ⟨p, vs, e, h1, h2⟩ => ⟨p, vs, e, h1, (Reps.more ts vs).mpr h2⟩⟩
  | .dk ks ts, v => by
    rw [Rep, Rep]
    exact ⟨fun ⟨p, vs, e, h1, h2, h3, h4⟩ => ⟨p, vs, e, h1, h2, h3, (Reps.more ts vs).mp h4⟩, fun ⟨p, vs, e, h1, h2, h3, h4⟩ => ⟨p, vs, e, h1, h2, h3, (Reps.more ts vs).mpr h4⟩⟩
  | .dt ks ts, v => by
    rw [Rep, Rep]
    exact ⟨fun ⟨p, vs, e, h1, h2, h3, h4⟩ => ⟨p, vs, e, h1, h2, h3, (Reps.more ts vs).mp h4⟩, fun ⟨p, vs, e, h1, h2, h3, h4⟩ => ⟨p, vs, e, h1, h2, h3, (Reps.more ts vs).mpr h4⟩⟩
  | .ty n, v => by rw [Rep, Rep]
  | .glob x, v => by rw [Rep, Rep]; exact Iff.rfl
  | .hand, v => by rw [Rep, Rep]
theorem Reps.more {S : Kx} {w : Wd} {l : List (Addr × Str)} : ∀ (ts : List T) (vs : List V), Reps S w ts vs ↔ Reps (S.more l) w ts vs
  | [], vs => by rw [Reps, Reps]
  | t :: ts, vs => by
    rw [Reps, Reps]
    exact ⟨fun ⟨v, vs', e, h1, h2⟩ => ⟨v, vs', e, (Rep.more t v).mp h1, (Reps.more ts vs').mp h2⟩, fun ⟨v, vs', e, h1, h2⟩ => ⟨v, vs', e, (Rep.more t v).mpr h1, (Reps.more ts vs').mpr h2⟩⟩
end
theorem Wok.less {S : Kx} {w : Wd} {l : List (Addr × Str)} (h : Wok (S.more l) w) : Wok S w :=
  ⟨h.fz, fun p e => ⟨(h.hd p e).it⟩, h.tb.1, fun p hp => h.tb.2 p (List.mem_append_right _ hp)⟩
theorem Wok.more {S : Kx} {w : Wd} {l : List (Addr × Str)} (h : Wok S w) (hl : ∀ p ∈ l, w.H p.1 = some (LamX.CodeO p.1 p.2)) : Wok (S.more l) w :=
  ⟨h.fz, fun p e => ⟨(h.hd p e).it⟩, h.tb.1, fun p hp => (List.mem_append.mp hp).elim (hl p) (h.tb.2 p)⟩
/-! ### argument lists, one step at a time -/
def isSt : Expr → Bool
  | .Starred .. => true
  | _ => false
theorem star_c {e : Expr} {es : List Expr} {env : PySem.Env} (h : isSt e = false) : starEach (e :: es) env = (false, eval e env) :: starEach es env := by
  cases e <;> first | rfl | cases h
theorem star_any {pos : Pos} {env : PySem.Env} : ∀ {es : List Expr}, es.all (fun e => !isSt e) = true → (backTo pos (starEach es env)).any (·.1) = false
  | [], _ => rfl
  | e :: es, h => by
    simp only [List.all_cons, Bool.and_eq_true, Bool.not_eq_true'] at h
    rw [star_c h.1]
    have := star_any (pos := pos) (env := env) h.2
    unfold backTo at this ⊢
    rw [List.map_cons, List.any_cons, this]
    rfl
end Twl

/-! TL2: slots, the monad, canonical readings of expressions, tests, argument lists. -/
namespace Twl
open PySem PySem.Spec PyProof.Rows L2

def RepX (S : Kx) (w : Wd) (x : Exn) (c : Value) (dd : Option Addr) : Prop :=
  ∃ C, S.mg x.cls = some (.ref C) ∧ c = .ref C ∧ match x.arg with
    | none => dd = none
    | some (f, t) => ∃ d v, dd = some d ∧ w.F d ∧ w.H d = some (.xd [(f, v)]) ∧ Rep S w t v
theorem RepX.agr {S : Kx} {w w' : Wd} (a : Agr w w') {x : Exn} {c : Value} {dd : Option Addr} (h : RepX S w x c dd) : RepX S w' x c dd := by
  obtain ⟨C, h1, h2, h3⟩ := h
  refine ⟨C, h1, h2, ?_⟩
  cases e : x.arg with
  | none => rw [e] at h3; exact h3
  | some p =>
    rw [e] at h3
    obtain ⟨d, v, q1, q2, q3, q4⟩ := h3
    exact ⟨d, v, q1, a.ff d q2, (a.at_ d q2).trans q3, Rep.agr a _ _ q4⟩
inductive Sl where
  | no | va (d : Nat) (t : T)
  /-- the exception that a suite holds at a -/
  | ob (a : Addr) (x : Exn) (c : Value) (dd : Option Addr)
  /-- a lambda's function object -/
  | fo (f : Addr)
  /-- the draw state's list, in the def that draws -/
  | hs (p : Addr) (ts : List T)
  /-- the script -/
  | sc (a : Addr) (ns : List Int)
abbrev Env := List Sl

def SlRep (S : Kx) (w : Wd) : Sl → Option V → List Addr → Prop
  | .no, _, fp => fp = []
  | .va d t, ov, fp => ∃ v, ov = some v ∧ RepO S w d t v fp
  | .ob a x c dd, ov, fp => fp = [] ∧ ov = some (.ref a) ∧ RepX S w x c dd
  | .fo f, ov, fp => fp = [] ∧ ov = some (.ref f)
  | .hs p ts, ov, fp => ov = some (.ref p) ∧ RepO S w 1 (.lst ts) (.ref p) fp
  | .sc a ns, ov, fp => fp = [] ∧ ov = some (.ref a) ∧ ((∃ o, w.F a ∧ w.H a = some (.frz o (.lst (ns.map V.int)))) ∨ (w.F a ∧ w.H a = some (.lst (ns.map V.int))) ∨ ∀ H, SqL S.K H a (ns.map V.int))
def EnvS (S : Kx) (w : Wd) : Env → L2.St → List Addr → Prop
  | [], [], fp => fp = []
  | s :: es, o :: os, fp => ∃ f f', fp = f ++ f' ∧ SlRep S w s o f ∧ EnvS S w es os f'
  | _, _, _ => False
structure EnvR (S : Kx) (w : Wd) (env : Env) (σ : L2.St) (fp : List Addr) : Prop where
  sl : EnvS S w env σ fp
  nd : fp.Nodup
  ow : ∀ a ∈ fp, ¬ w.F a ∧ w.hp ≠ some a ∧ ∃ o, w.H a = some o ∧ FzO o
theorem SlRep.agr {S : Kx} {w w' : Wd} (a : Agr w w') {s : Sl} {o : Option V} {fp : List Addr} (k : ∀ b ∈ fp, w'.H b = w.H b) (h : SlRep S w s o fp) : SlRep S w' s o fp := by
  cases s with
  | no => exact h
  | va d t => obtain ⟨v, e, r⟩ := h; exact ⟨v, e, r.agr a d t v fp k⟩
  | ob b x c dd => obtain ⟨e, e2, r⟩ := h; exact ⟨e, e2, r.agr a⟩
  | fo f => exact h
  | hs p ts => exact ⟨h.1, h.2.agr a 1 _ _ fp k⟩
  | sc b ns =>
    obtain ⟨e, e2, r⟩ := h
    refine ⟨e, e2, r.imp (fun ⟨o, h1, h2⟩ => ⟨o, a.ff b h1, by rw [a.at_ b h1]; exact h2⟩) (Or.imp (fun ⟨h1, h2⟩ => ⟨a.ff b h1, by rw [a.at_ b h1]; exact h2⟩) id)⟩
theorem EnvS.agr {S : Kx} {w w' : Wd} (a : Agr w w') : ∀ {env : Env} {σ : L2.St} {fp : List Addr}, (∀ b ∈ fp, w'.H b = w.H b) → EnvS S w env σ fp → EnvS S w' env σ fp
  | [], [], _, _, h => h
  | s :: es, o :: os, fp, k, h => by
    obtain ⟨f, f', rfl, h1, h2⟩ := h
    exact ⟨f, f', rfl, h1.agr a fun b hb => k b (List.mem_append_left _ hb), h2.agr a fun b hb => k b (List.mem_append_right _ hb)⟩
  | [], _ :: _, _, _, h => h.elim
  | _ :: _, [], _, _, h => h.elim
theorem EnvS.get {S : Kx} {w : Wd} : ∀ {env : Env} {σ : L2.St} {fp : List Addr} {i : Nat} {d : Nat} {t : T}, EnvS S w env σ fp → env[i]? = some (.va d t) →
    ∃ v f, σ[i]? = some (some v) ∧ RepO S w d t v f ∧ ∀ a ∈ f, a ∈ fp
  | [], [], _, i, d, t, h, e => by simp at e
  | s :: es, o :: os, fp, 0, d, t, h, e => by
    obtain ⟨f, f', rfl, h1, h2⟩ := h
    simp at e
    subst e
    obtain ⟨v, rfl, r⟩ := h1
    exact ⟨v, f, rfl, r, fun a ha => List.mem_append_left _ ha⟩
  | s :: es, o :: os, fp, i + 1, d, t, h, e => by
    obtain ⟨f, f', rfl, h1, h2⟩ := h
    obtain ⟨v, g, e1, r, k⟩ := h2.get (by simpa using e)
    exact ⟨v, g, by simpa using e1, r, fun a ha => List.mem_append_right _ (k a ha)⟩
  | [], _ :: _, _, _, _, _, h, _ => h.elim
  | _ :: _, [], _, _, _, _, h, _ => h.elim
theorem EnvS.length {S : Kx} {w : Wd} : ∀ {env : Env} {σ : L2.St} {fp : List Addr}, EnvS S w env σ fp → env.length = σ.length
  | [], [], _, h => rfl
  | s :: es, o :: os, fp, h => by
    obtain ⟨f, f', rfl, h1, h2⟩ := h
    simp [h2.length]
  | [], _ :: _, _, h => h.elim
  | _ :: _, [], _, h => h.elim
theorem EnvR.le {S : Kx} {w w' : Wd} {env : Env} {σ : L2.St} {fp : List Addr} (ok : Wok S w) (l : Le w w') (h : EnvR S w env σ fp) : EnvR S w' env σ fp := by
  have st : ∀ b ∈ fp, w'.H b = w.H b := fun b hb => by
    obtain ⟨_, h2, o, h3, h4⟩ := h.ow b hb
    rw [h3]
    exact l.hh b o h3 h2 h4.ntbl
  refine ⟨h.sl.agr (l.agr ok) st, h.nd, fun a ha => ?_⟩
  obtain ⟨h1, h2, o, h3, h4⟩ := h.ow a ha
  refine ⟨fun q => ?_, by rw [l.hp]; exact h2, o, by rw [st a ha]; exact h3, h4⟩
  rcases l.fn a q with q | q
  · exact h1 q
  · rw [h3] at q; cases q

/-! ### the monad -/
abbrev M (α : Type) := (α → Prop) → (Exn → Prop) → Prop
def ret {α : Type} (a : α) : M α := fun Q _ => Q a
def bnd {α β : Type} (m : M α) (f : α → M β) : M β := fun Q E => m (fun a => f a Q E) E
def stuck {α : Type} : M α := fun _ _ => False
/-- under a condition -/
def gd {α : Type} (p : Prop) (m : M α) : M α := fun Q E => p ∧ m Q E

structure Fresh (w w' : Wd) (fp : List Addr) : Prop where
  nd : fp.Nodup
  nw : ∀ a ∈ fp, w.H a = none ∧ ¬ w'.F a ∧ ∃ o, w'.H a = some o ∧ FzO o
theorem Fresh.nil {w w' : Wd} : Fresh w w' [] := ⟨List.nodup_nil, fun a h => by simp at h⟩
def Kont (S : Kx) (w : Wd) (d : Nat) (Q' : T → Prop) (Q : VK) : Prop :=
  ∀ r v w' fp, Wok S w' → Le w w' → RepO S w' d r v fp → Fresh w w' fp → Q' r → Q v w'.H
def KontX (S : Kx) (w : Wd) (QE : Exn → Prop) (W : WX) (σ : L2.St) : Prop :=
  ∀ x c dd w', Wok S w' → Le w w' → RepX S w' x c dd → QE x → W c dd σ w'.H
/-- the canonical reading of a denotation -/
def rd (S : Kx) (W : WX) (d : Nat) (m : Env → M T) : TE := fun σ H Q => ∃ w env fp Q' QE, w.H = H ∧ Wok S w ∧ EnvR S w env σ fp ∧ m env Q' QE ∧ Kont S w d Q' Q ∧ KontX S w QE W σ
def rdt (S : Kx) (W : WX) (m : Env → M Bool) : TT := fun σ H Q => ∃ w env fp Q' QE, w.H = H ∧ Wok S w ∧ EnvR S w env σ fp ∧ m env Q' QE ∧
  (∀ b w', Wok S w' → Le w w' → Q' b → Q b w'.H) ∧ KontX S w QE W σ
def rda (S : Kx) (W : WX) (m : Env → M (List T)) : TA := fun σ H Q => ∃ w env fp Q' QE, w.H = H ∧ Wok S w ∧ EnvR S w env σ fp ∧ m env Q' QE ∧
  (∀ rs vs w', Wok S w' → Le w w' → Reps S w' rs vs → Q' rs → Q vs w'.H) ∧ KontX S w QE W σ
/-- a value that is only looked at: an owned list or dict, or a frozen value -/
def RepB (S : Kx) (w : Wd) : T → V → Prop
  | .lst ts, v => ∃ p vs, v = .ref p ∧ w.hp ≠ some p ∧ w.H p = some (.lst vs) ∧ Reps S w ts vs
  | .dk ks ts, v => ∃ p vs, v = .ref p ∧ w.hp ≠ some p ∧ w.H p = some (.dK (ks.zip vs)) ∧ ks.length = ts.length ∧ Reps S w ts vs
  | .dt ks ts, v => ∃ p vs, v = .ref p ∧ w.hp ≠ some p ∧ w.H p = some (.dT (ks.zip vs)) ∧ ks.length = ts.length ∧ Reps S w ts vs
  | t, v => Rep S w t v
def RepsB (S : Kx) (w : Wd) : List T → List V → Prop
  | [], vs => vs = []
  | t :: ts, vs => ∃ v vs', vs = v :: vs' ∧ RepB S w t v ∧ RepsB S w ts vs'
def rdb (S : Kx) (W : WX) (m : Env → M T) : TE := fun σ H Q => ∃ w env fp Q' QE, w.H = H ∧ Wok S w ∧ EnvR S w env σ fp ∧ m env Q' QE ∧
  (∀ r v w', Wok S w' → Le w w' → RepB S w' r v → Q' r → Q v w'.H) ∧ KontX S w QE W σ
def rdab (S : Kx) (W : WX) (m : Env → M (List T)) : TA := fun σ H Q => ∃ w env fp Q' QE, w.H = H ∧ Wok S w ∧ EnvR S w env σ fp ∧ m env Q' QE ∧
  (∀ rs vs w', Wok S w' → Le w w' → RepsB S w' rs vs → Q' rs → Q vs w'.H) ∧ KontX S w QE W σ
def DE (X : Cx) (S : Kx) (W : WX) (d : Nat) (e : Expr) (m : Env → M T) : Prop := PE X e (rd S W d m)
def DT (X : Cx) (S : Kx) (W : WX) (e : Expr) (m : Env → M Bool) : Prop := PT X e (rdt S W m)
def DW (X : Cx) (S : Kx) (W : WX) (e : Expr) (m : Env → M Bool) : Prop := PW X e (rdt S W m)
def DA (X : Cx) (S : Kx) (W : WX) (es : List Expr) (m : Env → M (List T)) : Prop := PA X es (rda S W m)
def DB (X : Cx) (S : Kx) (W : WX) (e : Expr) (m : Env → M T) : Prop := PE X e (rdb S W m)
def DAB (X : Cx) (S : Kx) (W : WX) (es : List Expr) (m : Env → M (List T)) : Prop := PA X es (rdab S W m)

/-- what a context brings, also where an exception is handled -/
structure Eu (X : Cx) (S : Kx) : Prop where
  hK : X.K = S.K
  hmg : X.mg = S.mg
  un : X.A.units + 200 < cLine
structure Ex (X : Cx) (S : Kx) (W : WX) (k : Nat) : Prop extends Eu X S where
  calm : X.calm = true
  tk : Takes X W
  hr : Room k X.A

theorem PEmono {X : Cx} {e : Expr} {t t' : TE} (h : PE X e t) (k : ∀ σ H Q, t' σ H Q → t σ H Q) : PE X e t' := ⟨fun pins s σ H Q I q => h.run pins s σ H Q I (k σ H Q q)⟩
theorem PTmono {X : Cx} {e : Expr} {t t' : TT} (h : PT X e t) (k : ∀ σ H Q, t' σ H Q → t σ H Q) : PT X e t' := ⟨fun pins s σ H Q I q => h.run pins s σ H Q I (k σ H Q q)⟩
theorem PWmono {X : Cx} {e : Expr} {t t' : TT} (h : PW X e t) (k : ∀ σ H Q, t' σ H Q → t σ H Q) : PW X e t' := ⟨fun wh pins s σ H Q I q => h.run wh pins s σ H Q I (k σ H Q q)⟩
theorem PAmono {X : Cx} {e : List Expr} {t t' : TA} (h : PA X e t) (k : ∀ σ H Q, t' σ H Q → t σ H Q) : PA X e t' := ⟨fun ps pins s σ H Q I q => h.run ps pins s σ H Q I (k σ H Q q)⟩
theorem PSmono {X : Cx} {e : Stmt} {t t' : TS} (h : PS X e t) (k : ∀ D σ H, t' D σ H → t D σ H) : PS X e t' := ⟨fun pins s σ H D I q => h.run pins s σ H D I (k D σ H q)⟩
theorem PSsmono {X : Cx} {e : List Stmt} {t t' : TS} (h : PSs X e t) (k : ∀ D σ H, t' D σ H → t D σ H) : PSs X e t' := ⟨fun pins s σ H D I q => h.run pins s σ H D I (k D σ H q)⟩

section
variable {S : Kx} {W : WX} {w w' : Wd} {env : Env} {σ : L2.St} {fp : List Addr}
theorem KontX.le {QE : Exn → Prop} (l : Le w w') (k : KontX S w QE W σ) : KontX S w' QE W σ := fun x c dd w2 ok l2 r q => k x c dd w2 ok (l.trans l2) r q
theorem rd_use {d : Nat} {m : Env → M T} {Q' : T → Prop} {QE : Exn → Prop} {Q : VK} (ok : Wok S w) (er : EnvR S w env σ fp) (hm : m env Q' QE) (k : Kont S w d Q' Q) (kx : KontX S w QE W σ) : rd S W d m σ w.H Q :=
  ⟨w, env, fp, Q', QE, rfl, ok, er, hm, k, kx⟩
theorem rdt_use {m : Env → M Bool} {Q' : Bool → Prop} {QE : Exn → Prop} {Q : Bool → Hp → Prop} (ok : Wok S w) (er : EnvR S w env σ fp) (hm : m env Q' QE) (k : ∀ b w', Wok S w' → Le w w' → Q' b → Q b w'.H) (kx : KontX S w QE W σ) : rdt S W m σ w.H Q :=
  ⟨w, env, fp, Q', QE, rfl, ok, er, hm, k, kx⟩
theorem rda_use {m : Env → M (List T)} {Q' : List T → Prop} {QE : Exn → Prop} {Q : List V → Hp → Prop} (ok : Wok S w) (er : EnvR S w env σ fp) (hm : m env Q' QE) (k : ∀ rs vs w', Wok S w' → Le w w' → Reps S w' rs vs → Q' rs → Q vs w'.H) (kx : KontX S w QE W σ) : rda S W m σ w.H Q :=
  ⟨w, env, fp, Q', QE, rfl, ok, er, hm, k, kx⟩
/-- a frozen value: at depth 0 nothing is owned -/
theorem Kont.z {Q' : T → Prop} {Q : VK} (h : ∀ r v w', Wok S w' → Le w w' → Rep S w' r v → Q' r → Q v w'.H) : Kont S w 0 Q' Q := fun r v w' fp ok l rp _ q => h r v w' ok l rp.zero_inv.2 q
/-- an owned list may be frozen -/
theorem freezeL {w : Wd} {p : Addr} {o : HO} (ok : Wok S w) (hp : w.hp ≠ some p) (h : w.H p = some o) (z : FzO o) : Wok S { w with F := fun b => w.F b ∨ b = p } ∧ Agr w { w with F := fun b => w.F b ∨ b = p } := by
  have ag : Agr w { w with F := fun b => w.F b ∨ b = p } := ⟨rfl, fun b q => .inl q, fun b _ => rfl⟩
  refine ⟨⟨fun b q => ?_, fun q e => ?_, ok.tb⟩, ag⟩
  · rcases q with q | rfl
    · exact ok.fz b q
    · exact ⟨hp, o, h, z⟩
  · obtain ⟨c, cells, i, r, m, k, h1, h2, h3⟩ := (ok.hd q e).it
    exact ⟨c, cells, i, r, m, k, h1, h2, ag.lst h3⟩
end

/-! ### value-level simulation -/
/-- a new object laid at a free place, frozen -/
def Wd.add (w : Wd) (p : Addr) (o : HO) : Wd := { w with F := fun b => w.F b ∨ b = p, H := upd w.H p o }
/-- a new object, owned -/
def Wd.own (w : Wd) (p : Addr) (o : HO) : Wd := { w with H := upd w.H p o }
section
variable {S : Kx} {w : Wd} {p : Addr} {o : HO}
theorem handNone (ok : Wok S w) (hn : w.H p = none) : w.hp ≠ some p := fun e => by
  obtain ⟨c, cells, i, r, m, k, h1, _⟩ := (ok.hd p e).it
  rw [hn] at h1; cases h1
theorem own_agr (ok : Wok S w) (hn : w.H p = none) : Agr w (w.own p o) := ⟨rfl, fun _ h => h, fun b h => by
  obtain ⟨_, o', h2, _⟩ := ok.fz b h
  exact upd_ne (ne_of_none h2 hn)⟩
theorem own_le (hn : w.H p = none) : Le w (w.own p o) := ⟨rfl, fun _ h => h, fun _ h => .inl h, fun b o' h _ _ => by
    show upd w.H p o b = some o'
    rw [upd_ne (ne_of_none h hn)]; exact h, fun b h => by
    by_cases e : b = p
    · subst e; exact hn
    · have : upd w.H p o b = none := h
      rw [upd_ne e] at this; exact this⟩
theorem tabs_upd (t : TbOk S w.H) (hn : w.H p = none) : TbOk S (upd w.H p o) := ⟨t.1.ext fun b u h => by rw [upd_ne (ne_of_none h hn)]; exact h, fun q hq => by rw [upd_ne (ne_of_none (t.2 q hq) hn)]; exact t.2 q hq⟩
theorem own_ok (ok : Wok S w) (hn : w.H p = none) : Wok S (w.own p o) := by
  have ag := own_agr (o := o) ok hn
  refine ⟨fun b h => ?_, fun q e => ?_, tabs_upd ok.tb hn⟩
  · obtain ⟨h1, o', h2, h3⟩ := ok.fz b h
    exact ⟨h1, o', by rw [ag.at_ b h]; exact h2, h3⟩
  · obtain ⟨c, cells, i, r, m, k, h1, h2, h3⟩ := (ok.hd q e).it
    refine ⟨c, cells, i, r, m, k, ?_, h2, ag.lst h3⟩
    show upd w.H p o q = _
    rw [upd_ne (ne_of_none h1 hn)]; exact h1
theorem add_le (hn : w.H p = none) : Le w (w.add p o) := by
  have l := own_le (o := o) hn
  exact ⟨rfl, fun _ h => .inl h, fun b h => h.elim .inl (fun e => .inr (by rw [e]; exact hn)), l.hh, l.no⟩
theorem add_ok (ok : Wok S w) (hn : w.H p = none) (z : FzO o) : Wok S (w.add p o) :=
  (freezeL (w := w.own p o) (own_ok ok hn) (show w.hp ≠ some p from handNone ok hn) (show upd w.H p o p = some o from upd_same) z).1
theorem own_fresh (hn : w.H p = none) (ok : Wok S w) (z : FzO o) : Fresh w (w.own p o) [p] := by
  refine ⟨by simp, fun a ha => ?_⟩
  obtain rfl : a = p := by simpa using ha
  refine ⟨hn, fun q => ?_, o, upd_same, z⟩
  obtain ⟨_, o', h2, _⟩ := ok.fz a q
  rw [hn] at h2; cases h2
/-- a new tuple -/
theorem rep_tup {ts : List T} {vs : List V} (ok : Wok S w) (hn : w.H p = none) (r : Reps S w ts vs) : Rep S (w.add p (.tup vs)) (.tup ts) (.ref p) := by
  rw [Rep]
  exact ⟨p, vs, rfl, .inl ⟨.inr rfl, upd_same⟩, Reps.agr ((add_le hn).agr ok) _ _ r⟩
theorem rep_lst {ts : List T} {vs : List V} (ok : Wok S w) (hn : w.H p = none) (r : Reps S w ts vs) : Rep S (w.add p (.lst vs)) (.lst ts) (.ref p) := by
  rw [Rep]
  exact ⟨p, vs, rfl, ⟨.inr rfl, upd_same⟩, Reps.agr ((add_le hn).agr ok) _ _ r⟩
theorem repo_lst {ts : List T} {vs : List V} (ok : Wok S w) (hn : w.H p = none) (r : Reps S w ts vs) : RepO S (w.own p (.lst vs)) 1 (.lst ts) (.ref p) [p] :=
  .lst upd_same (Reps.agr (own_agr ok hn) _ _ r)
end
/-- a result at depth d of a new list: frozen, or owned -/
theorem kont_lst {S : Kx} {w : Wd} {d : Nat} {Q' : T → Prop} {Q : VK} {ts : List T} {vs : List V} (ok : Wok S w) (r : Reps S w ts vs) (hd : d ≤ 1) (k : Kont S w d Q' Q) (q : Q' (.lst ts)) : ∀ p, w.H p = none → Q (.ref p) (upd w.H p (.lst vs)) := fun p hn => by
  match d, hd with
  | 0, _ => exact k _ _ (w.add p (.lst vs)) [] (add_ok ok hn trivial) (add_le hn) (.zero (rep_lst ok hn r)) .nil q
  | 1, _ => exact k _ _ (w.own p (.lst vs)) [p] (own_ok ok hn) (own_le hn) (repo_lst ok hn r) (own_fresh hn ok trivial) q
theorem RepO.at0 {S : Kx} {w : Wd} {t : T} {v : V} (r : Rep S w t v) (h : ∀ ts, t ≠ .lst ts) (h1 : ∀ k ts, t ≠ .dk k ts) (h2 : ∀ k ts, t ≠ .dt k ts) (d : Nat) : RepO S w d t v [] := by
  cases d with
  | zero => exact .zero r
  | succ d =>
    cases t with
    | lst ts => exact (h ts rfl).elim
    | dk k ts => exact (h1 k ts rfl).elim
    | dt k ts => exact (h2 k ts rfl).elim
    | _ => simp only [RepO]; exact ⟨trivial, r⟩
theorem kont_tup {S : Kx} {w : Wd} {d : Nat} {Q' : T → Prop} {Q : VK} {ts : List T} {vs : List V} (ok : Wok S w) (r : Reps S w ts vs) (k : Kont S w d Q' Q) (q : Q' (.tup ts)) : ∀ p, w.H p = none → Q (.ref p) (upd w.H p (.tup vs)) := fun p hn =>
  k _ _ (w.add p (.tup vs)) [] (add_ok ok hn trivial) (add_le hn) (.at0 (rep_tup ok hn r) (fun _ e => by cases e) (fun _ _ e => by cases e) (fun _ _ e => by cases e) d) .nil q
/-- a result that is no new object -/
theorem kont_0 {S : Kx} {w : Wd} {d : Nat} {Q' : T → Prop} {Q : VK} {t : T} {v : V} (ok : Wok S w) (r : Rep S w t v) (hd : d = 0 ∨ ((∀ ts, t ≠ .lst ts) ∧ (∀ k ts, t ≠ .dk k ts) ∧ (∀ k ts, t ≠ .dt k ts))) (k : Kont S w d Q' Q) (q : Q' t) : Q v w.H := by
  rcases hd with rfl | ⟨h1, h2, h3⟩
  · exact k t v w [] ok (.refl w) (.zero r) .nil q
  · exact k t v w [] ok (.refl w) (.at0 r h1 h2 h3 d) .nil q
/-- a flat value -/
def T.flat : T → Bool
  | .non => true
  | .bl _ => true
  | .int _ => true
  | .str _ => true
  | _ => false
theorem kont_f {S : Kx} {w : Wd} {d : Nat} {Q' : T → Prop} {Q : VK} {t : T} {v : V} (ok : Wok S w) (r : Rep S w t v) (hd : t.flat = true) (k : Kont S w d Q' Q) (q : Q' t) : Q v w.H := by
  refine kont_0 ok r (.inr ?_) k q
  cases t <;> first | (simp [T.flat] at hd; done) | simp

theorem Rep.b {S : Kx} {w : Wd} (ok : Wok S w) {t : T} {v : V} (h : Rep S w t v) : RepB S w t v := by
  cases t with
  | lst ts => rw [Rep] at h; obtain ⟨p, vs, e, h1, h2⟩ := h; exact ⟨p, vs, e, (ok.fz p h1.1).1, h1.2, h2⟩
  | dk k ts => rw [Rep] at h; obtain ⟨p, vs, e, h0, h1, h2, h3⟩ := h; exact ⟨p, vs, e, (ok.fz p h0).1, h1, h2, h3⟩
  | dt k ts => rw [Rep] at h; obtain ⟨p, vs, e, h0, h1, h2, h3⟩ := h; exact ⟨p, vs, e, (ok.fz p h0).1, h1, h2, h3⟩
  | _ => exact h
theorem RepO.b {S : Kx} {w : Wd} (ok : Wok S w) {d : Nat} {t : T} {v : V} {fp : List Addr} (hd : d ≤ 1) (hp : ∀ a ∈ fp, w.hp ≠ some a) (h : RepO S w d t v fp) : RepB S w t v := by
  match d, hd with
  | 0, _ => exact h.zero_inv.2.b ok
  | 1, _ =>
    cases t with
    | lst ts =>
      rw [RepO] at h
      obtain ⟨p, vs, f, e, h1, rfl, h2⟩ := h
      exact ⟨p, vs, e, hp p List.mem_cons_self, h1, h2.zero_inv.2⟩
    | dk k ts => rw [RepO] at h; obtain ⟨p, vs, e, h1, rfl, h2, h3⟩ := h; exact ⟨p, vs, e, hp p List.mem_cons_self, h1, h2, h3⟩
    | dt k ts => rw [RepO] at h; obtain ⟨p, vs, e, h1, rfl, h2, h3⟩ := h; exact ⟨p, vs, e, hp p List.mem_cons_self, h1, h2, h3⟩
    | _ => simp only [RepO] at h; exact h.2
theorem RepB.le {S : Kx} {w w' : Wd} (ok : Wok S w) (l : Le w w') {t : T} {v : V} (h : RepB S w t v) : RepB S w' t v := by
  have ag := l.agr ok
  cases t with
  | lst ts => obtain ⟨p, vs, e, h0, h1, h2⟩ := h; exact ⟨p, vs, e, by rw [l.hp]; exact h0, l.hh p _ h1 h0 (by intro ps q; cases q), Reps.agr ag _ _ h2⟩
  | dk k ts => obtain ⟨p, vs, e, h0, h1, h2, h3⟩ := h; exact ⟨p, vs, e, by rw [l.hp]; exact h0, l.hh p _ h1 h0 (by intro ps q; cases q), h2, Reps.agr ag _ _ h3⟩
  | dt k ts => obtain ⟨p, vs, e, h0, h1, h2, h3⟩ := h; exact ⟨p, vs, e, by rw [l.hp]; exact h0, l.hh p _ h1 h0 (by intro ps q; cases q), h2, Reps.agr ag _ _ h3⟩
  | _ => exact Rep.agr ag _ _ h
theorem RepsB.le {S : Kx} {w w' : Wd} (ok : Wok S w) (l : Le w w') : ∀ {ts : List T} {vs : List V}, RepsB S w ts vs → RepsB S w' ts vs
  | [], _, h => h
  | t :: ts, _, h => by obtain ⟨v, vs', e, h1, h2⟩ := h; exact ⟨v, vs', e, h1.le ok l, RepsB.le ok l h2⟩
theorem Reps.b {S : Kx} {w : Wd} (ok : Wok S w) : ∀ {ts : List T} {vs : List V}, Reps S w ts vs → RepsB S w ts vs
  | [], _, h => h.nil_inv
  | t :: ts, _, h => by obtain ⟨v, vs', e, h1, h2⟩ := h.cons_inv; exact ⟨v, vs', e, h1.b ok, h2.b ok⟩
/-- r does what g says -/
def Sim2 (S : Kx) (d : Nat) (g : T → T → M T) (r : R2) : Prop :=
  ∀ (w : Wd) (t u : T) (x y : V) (Q' : T → Prop) (QE : Exn → Prop) (Q : VK), Wok S w → RepB S w t x → RepB S w u y → g t u Q' QE → Kont S w d Q' Q → r x y w.H Q
def Sim1 (S : Kx) (d : Nat) (g : T → M T) (r : V → Hp → VK → Prop) : Prop :=
  ∀ (w : Wd) (t : T) (x : V) (Q' : T → Prop) (QE : Exn → Prop) (Q : VK), Wok S w → RepB S w t x → g t Q' QE → Kont S w d Q' Q → r x w.H Q
def SimN (S : Kx) (d : Nat) (g : List T → M T) (r : List V → Hp → VK → Prop) : Prop :=
  ∀ (w : Wd) (ts : List T) (xs : List V) (Q' : T → Prop) (QE : Exn → Prop) (Q : VK), Wok S w → RepsB S w ts xs → g ts Q' QE → Kont S w d Q' Q → r xs w.H Q

def mBin (g : T → T → M T) (a b : Env → M T) : Env → M T := fun env => bnd (a env) fun x => bnd (b env) fun y => g x y
def mUn (g : T → M T) (a : Env → M T) : Env → M T := fun env => bnd (a env) g
def mCon (t : T) : Env → M T := fun _ => ret t
def mVar (i : Nat) : Env → M T := fun env Q _ => ∃ t, env[i]? = some (.va 0 t) ∧ Q t
/-- a name that is only looked at: owned or not -/
def mVarB (i : Nat) : Env → M T := fun env Q _ => ∃ d t, env[i]? = some (.va d t) ∧ d ≤ 1 ∧ Q t
def mNil : Env → M (List T) := fun _ => ret []
def mCons (a : Env → M T) (as : Env → M (List T)) : Env → M (List T) := fun env => bnd (a env) fun x => bnd (as env) fun xs => ret (x :: xs)
section
variable {X : Cx} {S : Kx} {W : WX} {k d : Nat} {a b : Expr} {ma mb : Env → M T} {w w' : Wd} {env : Env} {σ : L2.St} {fp : List Addr} {es : List Expr} {mas : Env → M (List T)}
theorem Kont.le {Q' : T → Prop} {Q : VK} (l : Le w w') (k : Kont S w d Q' Q) : Kont S w' d Q' Q := fun r v w2 fp ok l2 rp fr q =>
  k r v w2 fp ok (l.trans l2) rp ⟨fr.nd, fun a ha => ⟨l.no a (fr.nw a ha).1, (fr.nw a ha).2⟩⟩ q
theorem rdb_use {m : Env → M T} {Q' : T → Prop} {QE : Exn → Prop} {Q : VK} (ok : Wok S w) (er : EnvR S w env σ fp) (hm : m env Q' QE) (k : ∀ r v w', Wok S w' → Le w w' → RepB S w' r v → Q' r → Q v w'.H) (kx : KontX S w QE W σ) : rdb S W m σ w.H Q :=
  ⟨w, env, fp, Q', QE, rfl, ok, er, hm, k, kx⟩
theorem rdab_use {m : Env → M (List T)} {Q' : List T → Prop} {QE : Exn → Prop} {Q : List V → Hp → Prop} (ok : Wok S w) (er : EnvR S w env σ fp) (hm : m env Q' QE) (k : ∀ rs vs w', Wok S w' → Le w w' → RepsB S w' rs vs → Q' rs → Q vs w'.H) (kx : KontX S w QE W σ) : rdab S W m σ w.H Q :=
  ⟨w, env, fp, Q', QE, rfl, ok, er, hm, k, kx⟩
/-- both operands are run -/
theorem run2 {R : V → V → Hp → Prop} {QE : Exn → Prop} {P2 : T → T → Prop} (ok : Wok S w) (er : EnvR S w env σ fp) (hm : ma env (fun x => mb env (fun y => P2 x y) QE) QE) (kx : KontX S w QE W σ)
    (h : ∀ w2 t u x y, Wok S w2 → Le w w2 → RepB S w2 t x → RepB S w2 u y → P2 t u → R x y w2.H) : rdb S W ma σ w.H fun x H1 => rdb S W mb σ H1 fun y H2 => R x y H2 := by
  refine rdb_use ok er hm (fun t x w1 ok1 l1 r1 q1 => ?_) kx
  refine rdb_use ok1 (er.le ok l1) q1 (fun u y w2 ok2 l2 r2 q2 => ?_) (kx.le l1)
  exact h w2 t u x y ok2 (l1.trans l2) (r1.le ok1 l2) r2 q2
theorem de_bin {op : Operator} {r : R2} {g : T → T → M T} {pos : Pos} (ho : OpR X (binaryOp op) r) (sm : Sim2 S d g r) (ha : DB X S W a ma) (hb : DB X S W b mb) : DE X S W d (.BinOp a op b pos) (mBin g ma mb) := by
  refine PEmono (pe_op ho ha hb) fun σ H Q h => ?_
  obtain ⟨w, env, fp, Q', QE, rfl, ok, er, hm, kt, kx⟩ := h
  exact run2 ok er hm kx fun w2 t u x y ok2 l r1 r2 q => sm w2 t u x y Q' QE Q ok2 r1 r2 q (kt.le l)
theorem de_cmp {op : CmpOp} {r : R2} {g : T → T → M T} {pos : Pos} (ho : OpR X (compareOp op) r) (hm : behindInMarks op b = false) (sm : Sim2 S d g r) (ha : DB X S W a ma) (hb : DB X S W b mb) : DE X S W d (.Compare a [op] [b] pos) (mBin g ma mb) := by
  refine PEmono (pe_cmpR ho ha hb hm) fun σ H Q h => ?_
  obtain ⟨w, env, fp, Q', QE, rfl, ok, er, hm, kt, kx⟩ := h
  exact run2 ok er hm kx fun w2 t u x y ok2 l r1 r2 q => sm w2 t u x y Q' QE Q ok2 r1 r2 q (kt.le l)
theorem de_un {op : UnaryOp} {r : V → Hp → VK → Prop} {g : T → M T} {pos : Pos} (ho : UnR X (unaryOp op) r) (sm : Sim1 S d g r) (ha : DB X S W a ma) : DE X S W d (.UnaryOp op a pos) (mUn g ma) := by
  refine PEmono (pe_un ho ha) fun σ H Q h => ?_
  obtain ⟨w, env, fp, Q', QE, rfl, ok, er, hm, kt, kx⟩ := h
  exact rdb_use ok er hm (fun t x w1 ok1 l1 r1 q1 => sm w1 t x Q' QE Q ok1 r1 q1 (kt.le l1)) kx
theorem de_int {i j pos} : DE X S W d (.Constant (.int i) j pos) (mCon (.int i)) := PEmono pe_int fun σ H Q h => by
  obtain ⟨w, env, fp, Q', QE, rfl, ok, er, hm, kt, kx⟩ := h
  exact kont_f ok (by rw [Rep]) rfl kt hm
theorem de_bl {i j pos} : DE X S W d (.Constant (.bool i) j pos) (mCon (.bl i)) := PEmono pe_bl fun σ H Q h => by
  obtain ⟨w, env, fp, Q', QE, rfl, ok, er, hm, kt, kx⟩ := h
  exact kont_f ok (by rw [Rep]) rfl kt hm
theorem de_non {j pos} : DE X S W d (.Constant .none j pos) (mCon .non) := PEmono pe_non fun σ H Q h => by
  obtain ⟨w, env, fp, Q', QE, rfl, ok, er, hm, kt, kx⟩ := h
  exact kont_f ok (by rw [Rep]) rfl kt hm
theorem de_str {i j pos} : DE X S W d (.Constant (.str i) j pos) (mCon (.str i)) := PEmono pe_str fun σ H Q h => by
  obtain ⟨w, env, fp, Q', QE, rfl, ok, er, hm, kt, kx⟩ := h
  exact kont_f ok (by rw [Rep]) rfl kt hm
theorem de_var (i : Nat) {x : Str} {pos : Pos} (hN : X.N[i]? = some x := by rfl) (hv : Vis X.env.scope x := by first | exact Or.inl rfl | exact Or.inr (Or.inl rfl) | exact Or.inr (Or.inr rfl)) (hd : (x == ("__debug__" : Str)) = false := by decide)
    (hcd : (x == ("__classdict__" : Str)) = false := by decide) : DE X S W 0 (.Name x pos) (mVar i) := PEmono (pe_var hN hv hd hcd) fun σ H Q h => by
  obtain ⟨w, env, fp, Q', QE, rfl, ok, er, ⟨t, e, q⟩, kt, kx⟩ := h
  obtain ⟨v, f, e2, r, _⟩ := er.sl.get e
  exact ⟨v, e2, kont_0 ok r.zero_inv.2 (.inl rfl) kt q⟩
theorem db_var (i : Nat) {x : Str} {pos : Pos} (hN : X.N[i]? = some x := by rfl) (hv : Vis X.env.scope x := by first | exact Or.inl rfl | exact Or.inr (Or.inl rfl) | exact Or.inr (Or.inr rfl)) (hd : (x == ("__debug__" : Str)) = false := by decide)
    (hcd : (x == ("__classdict__" : Str)) = false := by decide) : DB X S W (.Name x pos) (mVarB i) := PEmono (pe_var hN hv hd hcd) fun σ H Q h => by
  obtain ⟨w, env, fp, Q', QE, rfl, ok, er, ⟨d, t, e, hd, q⟩, kt, kx⟩ := h
  obtain ⟨v, f, e2, r, hf⟩ := er.sl.get e
  exact ⟨v, e2, kt t v w ok (.refl w) (r.b ok hd fun a ha => (er.ow a (hf a ha)).2.1) q⟩
theorem db (h : DE X S W 0 a ma) : DB X S W a ma := PEmono h fun σ H Q h => by
  obtain ⟨w, env, fp, Q', QE, rfl, ok, er, hm, kt, kx⟩ := h
  exact rd_use ok er hm (.z fun r v w1 ok1 l1 rp q => kt r v w1 ok1 l1 (rp.b ok1) q) kx
/-! ### argument lists -/
theorem da_nil : DA X S W [] mNil := PAmono pa_nil fun σ H Q h => by
  obtain ⟨w, env, fp, Q', QE, rfl, ok, er, hm, kt, kx⟩ := h
  exact kt [] [] w ok (.refl w) .nil hm
theorem da_cons (ha : DE X S W 0 a ma) (hr : DA X S W es mas) (hs : starEach (a :: es) X.env = (false, eval a X.env) :: starEach es X.env := by first | exact star_c rfl | rfl) : DA X S W (a :: es) (mCons ma mas) := PAmono (pa_cons ha hr hs) fun σ H Q h => by
  obtain ⟨w, env, fp, Q', QE, rfl, ok, er, hm, kt, kx⟩ := h
  refine rd_use ok er hm (.z fun t x w1 ok1 l1 r1 q1 => ?_) kx
  refine rda_use ok1 (er.le ok l1) q1 (fun ts xs w2 ok2 l2 r2 q2 => ?_) (kx.le l1)
  exact kt _ _ w2 ok2 (l1.trans l2) (.cons (Rep.agr (l2.agr ok1) _ _ r1) r2) q2
theorem dab_nil : DAB X S W [] mNil := PAmono pa_nil fun σ H Q h => by
  obtain ⟨w, env, fp, Q', QE, rfl, ok, er, hm, kt, kx⟩ := h
  exact kt [] [] w ok (.refl w) rfl hm
theorem dab_cons (ha : DB X S W a ma) (hr : DAB X S W es mas) (hs : starEach (a :: es) X.env = (false, eval a X.env) :: starEach es X.env := by first | exact star_c rfl | rfl) : DAB X S W (a :: es) (mCons ma mas) := PAmono (pa_cons ha hr hs) fun σ H Q h => by
  obtain ⟨w, env, fp, Q', QE, rfl, ok, er, hm, kt, kx⟩ := h
  refine rdb_use ok er hm (fun t x w1 ok1 l1 r1 q1 => ?_) kx
  refine rdab_use ok1 (er.le ok l1) q1 (fun ts xs w2 ok2 l2 r2 q2 => ?_) (kx.le l1)
  exact kt (t :: ts) _ w2 ok2 (l1.trans l2) ⟨x, xs, rfl, r1.le ok1 l2, r2⟩ q2
end
end Twl

/-! TL3: operators, comparisons, tests. -/
namespace Twl
open PySem PySem.Spec PyProof.Rows L2

/-! ### data -/
mutual
def T.pd : T → PyData
  | .non => .none
  | .bl b => .bool b
  | .int i => .int i
  | .str x => .str x
  | .tup ts => .tuple (T.pds ts)
  | .lst ts => .list (T.pds ts)
  | _ => .none
termination_by structural t => t
def T.pds : List T → List PyData
  | [] => []
  | t :: ts => T.pd t :: T.pds ts
termination_by structural ts => ts
end
mutual
def T.dat : T → Bool
  | .non => true
  | .bl _ => true
  | .int _ => true
  | .str _ => true
  | .tup ts => T.dats ts
  | .lst ts => T.dats ts
  | _ => false
termination_by structural t => t
def T.dats : List T → Bool
  | [] => true
  | t :: ts => T.dat t && T.dats ts
termination_by structural ts => ts
end
def T.shp (t : T) : Bool := t.dat && SeqAt.shaped t.pd
theorem T.pds_map : ∀ ts : List T, T.pds ts = ts.map T.pd
  | [] => rfl
  | t :: ts => by rw [T.pds, T.pds_map ts]; rfl
mutual
theorem dp_of {S : Kx} {w : Wd} : ∀ (t : T) (v : V), Rep S w t v → t.dat = true → Dp S.K w.H v t.pd
  | .non, v, h, _ => by rw [Rep] at h; subst h; rw [T.pd]; exact .non
  | .bl b, v, h, _ => by rw [Rep] at h; subst h; rw [T.pd]; exact .bl b
  | .int i, v, h, _ => by rw [Rep] at h; subst h; rw [T.pd]; exact .int i
  | .str x, v, h, _ => by rw [Rep] at h; subst h; rw [T.pd]; exact .str x
  | .tup ts, v, h, d => by
    rw [Rep] at h
    obtain ⟨p, vs, rfl, h1, h2⟩ := h
    rw [T.dat] at d
    rw [T.pd]
    exact .tup h1.sq (dps_of ts vs h2 d)
  | .lst ts, v, h, d => by
    rw [Rep] at h
    obtain ⟨p, vs, rfl, h1, h2⟩ := h
    rw [T.dat] at d
    rw [T.pd]
    exact .lst h1.sq (dps_of ts vs h2 d)
  | .dk _ _, v, h, d => by simp [T.dat] at d
  | .dt _ _, v, h, d => by simp [T.dat] at d
  | .ty _, v, h, d => by simp [T.dat] at d
  | .glob _, v, h, d => by simp [T.dat] at d
  | .hand, v, h, d => by simp [T.dat] at d
theorem dps_of {S : Kx} {w : Wd} : ∀ (ts : List T) (vs : List V), Reps S w ts vs → T.dats ts = true → DpAll S.K w.H vs (T.pds ts)
  | [], vs, h, _ => by rw [h.nil_inv, T.pds]; exact .nil
  | t :: ts, vs, h, d => by
    obtain ⟨v, vs', rfl, h1, h2⟩ := h.cons_inv
    rw [T.dats, Bool.and_eq_true] at d
    rw [T.pds]
    exact .cons (dp_of t v h1 d.1) (dps_of ts vs' h2 d.2)
end
theorem dp_ofB {S : Kx} {w : Wd} (t : T) (v : V) (h : RepB S w t v) (d : t.dat = true) : Dp S.K w.H v t.pd := by
  cases t with
  | lst ts =>
    obtain ⟨p, vs, rfl, _, h1, h2⟩ := h
    rw [T.dat] at d
    rw [T.pd]
    exact .lst (.inl (.inl h1)) (dps_of ts vs h2 d)
  | dk _ _ => simp [T.dat] at d
  | dt _ _ => simp [T.dat] at d
  | _ => exact dp_of _ v h d
theorem shp_dp {S : Kx} {w : Wd} {t : T} {v : V} (h : RepB S w t v) (s : t.shp = true) : Dp S.K w.H v t.pd ∧ SeqAt.shaped t.pd = true := by
  unfold T.shp at s
  rw [Bool.and_eq_true] at s
  exact ⟨dp_ofB t v h s.1, s.2⟩
def T.eqv (t u : T) : Bool := PyData.eqv t.pd u.pd

/-! ### inversions -/
section
variable {S : Kx} {w : Wd} {v : V}
theorem RepB.int_inv {i : Int} (h : RepB S w (.int i) v) : v = .int i := by rw [RepB, Rep] at h <;> first | exact h | simp
theorem RepB.bl_inv {i : Bool} (h : RepB S w (.bl i) v) : v = .bl i := by rw [RepB, Rep] at h <;> first | exact h | simp
theorem RepB.str_inv {i : Str} (h : RepB S w (.str i) v) : v = .str i := by rw [RepB, Rep] at h <;> first | exact h | simp
theorem RepB.non_inv (h : RepB S w .non v) : v = .non := by rw [RepB, Rep] at h <;> first | exact h | simp
theorem RepB.tup_inv {ts : List T} (h : RepB S w (.tup ts) v) : ∃ p vs, v = .ref p ∧ TupAt S w p vs ∧ Reps S w ts vs := by rw [RepB, Rep] at h <;> first | exact h | simp
theorem RepB.lst_inv {ts : List T} (h : RepB S w (.lst ts) v) : ∃ p vs, v = .ref p ∧ w.hp ≠ some p ∧ w.H p = some (.lst vs) ∧ Reps S w ts vs := h
theorem rep_int {i : Int} : Rep S w (.int i) (.int i) := by rw [Rep]
theorem rep_bl {i : Bool} : Rep S w (.bl i) (.bl i) := by rw [Rep]
theorem rep_str {i : Str} : Rep S w (.str i) (.str i) := by rw [Rep]
theorem rep_non : Rep S w .non .non := by rw [Rep]
theorem rep_at {p : Addr} {ts : List T} {vs : List V} (h : TupAt S w p vs) (r : Reps S w ts vs) : Rep S w (.tup ts) (.ref p) := by rw [Rep]; exact ⟨p, vs, rfl, h, r⟩
theorem Reps.isNil {ts : List T} {vs : List V} (r : Reps S w ts vs) : vs = [] ↔ ts = [] := by
  have e := r.length
  constructor
  · rintro rfl; exact List.eq_nil_of_length_eq_zero e.symm
  · rintro rfl; exact List.eq_nil_of_length_eq_zero e
end

/-! ### arithmetic -/
def gI2 (C : Int → Int → Prop) (f : Int → Int → Int) : T → T → M T := fun t u => match t, u with
  | .int i, .int j => gd (C i j) (ret (.int (f i j)))
  | _, _ => stuck
theorem sim_I2 {S : Kx} {d : Nat} {C : Int → Int → Prop} {f : Int → Int → Int} : Sim2 S d (gI2 C f) (rI C fun i j => .int (f i j)) := by
  intro w t u x y Q' QE Q ok r1 r2 g k
  unfold gI2 at g
  split at g
  · obtain rfl := r1.int_inv
    obtain rfl := r2.int_inv
    exact ⟨_, _, rfl, rfl, g.1, kont_f ok rep_int rfl k g.2⟩
  · exact g.elim
def gAdd : T → T → M T := fun t u => match t, u with
  | .int i, .int j => ret (.int (i + j))
  | .str a, .str b => gd (a.length + b.length ≤ sizeLine) (ret (.str (a ++ b)))
  | .tup xs, .tup ys => gd (xs.length + ys.length ≤ sizeLine) (ret (.tup (xs ++ ys)))
  | .lst xs, .lst ys => gd (xs.length + ys.length ≤ sizeLine) (ret (.lst (xs ++ ys)))
  | _, _ => stuck
def rAddAll (K : PySem.W.Frag) : R2 := fun x y H Q => rI0 (fun i j => .int (i + j)) x y H Q ∨ (∃ i j, x = .str i ∧ y = .str j ∧ i.length + j.length ≤ sizeLine ∧ Q (.str (i ++ j)) H) ∨ rCatA K x y H Q ∨ rCat x y H Q
theorem nob_tup {d : Nat} {us : List T} : d = 0 ∨ ((∀ ts, T.tup us ≠ .lst ts) ∧ (∀ k ts, T.tup us ≠ .dk k ts) ∧ (∀ k ts, T.tup us ≠ .dt k ts)) := .inr ⟨by simp, by simp, by simp⟩
theorem sim_add {S : Kx} {d : Nat} (hd : d ≤ 1) : Sim2 S d gAdd (rAddAll S.K) := by
  intro w t u x y Q' QE Q ok r1 r2 g k
  unfold gAdd at g
  split at g
  · obtain rfl := r1.int_inv
    obtain rfl := r2.int_inv
    exact .inl ⟨_, _, rfl, rfl, kont_f ok rep_int rfl k g⟩
  · obtain rfl := r1.str_inv
    obtain rfl := r2.str_inv
    exact .inr (.inl ⟨_, _, rfl, rfl, g.1, kont_f ok rep_str rfl k g.2⟩)
  · obtain ⟨p, vs, rfl, h1, h2⟩ := r1.tup_inv
    obtain ⟨q, us, rfl, h3, h4⟩ := r2.tup_inv
    refine .inr (.inr (.inl ⟨p, q, vs, us, rfl, rfl, h1.sq, h3.sq, by rw [h2.length, h4.length]; exact g.1, fun e => ?_, fun e1 e2 => ?_, fun e1 e2 => kont_tup ok (h2.append h4) k g.2⟩))
    · have := h2.isNil.mp e
      subst this
      exact kont_0 ok (rep_at h3 h4) (nob_tup) k (by have q : Q' _ := g.2; simpa using q)
    · have := h4.isNil.mp e2
      subst this
      exact kont_0 ok (rep_at h1 h2) (nob_tup) k (by have := g.2; rw [List.append_nil] at this; exact this)
  · obtain ⟨p, vs, rfl, h0, h1, h2⟩ := r1.lst_inv
    obtain ⟨q, us, rfl, h0', h3, h4⟩ := r2.lst_inv
    exact .inr (.inr (.inr ⟨p, q, vs, us, rfl, rfl, h1, h3, by rw [h2.length, h4.length]; exact g.1, kont_lst ok (h2.append h4) hd k g.2⟩))
  · exact g.elim
theorem tuple_mul1 (l : Addr) (items : Array Value) (n : Nat) (dd : Option Addr) (sl : Array (Option Value)) (u : Tok) :
    Meets (Builtin.«tuple.__mul__» ⟨[.ref l, .int 1 u], []⟩) (fun _ R s => s.heap.get? l = some { cls := .type "tuple", dict := dd, data := .seq items n, slots := sl } ∧ R (.ok (.ret (Value.ref l))) s) :=
  .of_wp fun prog w A R s h => by
    obtain ⟨hp, g, d, tk, os⟩ := s
    obtain ⟨hl, h⟩ := h
    have f1 := AutoSeq1.idx_int
    wp_walk using wpAny_loadPart' hl
    repeat (first
      | (refine wpAny_ite_true (decide_eq_true (by simp)) ?_; wp_walk using wpAny_loadPart' hl)
      | (refine wpAny_ite_false (decide_eq_false (by decide)) ?_; wp_walk using wpAny_loadPart' hl))
    exact ⟨_, rfl, h⟩
def rRepT1 (K : PySem.W.Frag) : R2 := fun x y H Q => ∃ l xs, x = .ref l ∧ y = .int 1 ∧ SqT K H l xs ∧ Q (.ref l) H
theorem op_repT1 {X : Cx} : OpR X (binaryOp .Mult) (rRepT1 X.K) := by
  intro pins s σ H x y v u Q I rx ry h
  obtain ⟨l, xs, rfl, rfl, hT, q⟩ := h
  cases rx
  obtain ⟨t, rfl⟩ := ry
  obtain ⟨its, r, ⟨⟨cls, dd, data, sl⟩, ho, hc, n, hd⟩, hs⟩ := I.tuple hT
  simp only at hc hd
  subst hc hd
  exact wpAny_binaryOp_repeat_ref (T := "tuple") (U := "int") (by decide) ⟨_, ho, rfl⟩ (fun s' => typeIs_int s' 1 t) noFill_tuple_mul F.fills_int_mul F.slot_int_rmul repeat_tuple F.slot_int_index.lookup
    (call_meets F.slot_int_rmul (typeIs_int s 1 t) F.entry_int_rmul (F.args_int_rmul_2 _ _) (int_rmul_tuple 1 t l its.toArray n dd sl)
      ⟨ho, rfl, ⟨_, ho, rfl⟩, call_meets F.slot_tuple_mul ⟨_, ho, rfl⟩ F.entry_tuple_mul (F.args_tuple_mul_2 _ _) (tuple_mul1 l its.toArray n dd sl t) ⟨ho, ⟨.ref l, H, I, rfl, q⟩⟩⟩)
def gMul : T → T → M T := fun t u => match t, u with
  | .int i, .int j => gd (CMul i j ∨ CMulW i j) (ret (.int (i * j)))
  | .lst xs, .int k => gd (-(2 ^ 63) ≤ k ∧ k < 2 ^ 63 ∧ xs.length * k.toNat ≤ sizeLine) (ret (.lst (List.replicate k.toNat xs).flatten))
  | .tup xs, .int k => gd (xs ≠ [] ∧ 1 ≤ k ∧ k ≤ 1000 ∧ xs.length ≤ 1000) (ret (.tup (List.replicate k.toNat xs).flatten))
  | _, _ => stuck
def rMulAll (K : PySem.W.Frag) : R2 := fun x y H Q => rI CMul (fun i j => .int (i * j)) x y H Q ∨ rI CMulW (fun i j => .int (i * j)) x y H Q ∨ rRep x y H Q ∨ rRepT K x y H Q ∨ rRepT1 K x y H Q
theorem Reps.flat {S : Kx} {w : Wd} {ts : List T} {vs : List V} (r : Reps S w ts vs) : ∀ n : Nat, Reps S w (List.replicate n ts).flatten (List.replicate n vs).flatten
  | 0 => by simpa using Reps.nil
  | n + 1 => by
    rw [List.replicate_succ, List.replicate_succ, List.flatten_cons, List.flatten_cons]
    exact r.append (r.flat n)
theorem sim_mul {S : Kx} {d : Nat} (hd : d ≤ 1) : Sim2 S d gMul (rMulAll S.K) := by
  intro w t u x y Q' QE Q ok r1 r2 g k
  unfold gMul at g
  split at g
  · obtain rfl := r1.int_inv
    obtain rfl := r2.int_inv
    rcases g.1 with c | c
    · exact .inl ⟨_, _, rfl, rfl, c, kont_f ok rep_int rfl k g.2⟩
    · exact .inr (.inl ⟨_, _, rfl, rfl, c, kont_f ok rep_int rfl k g.2⟩)
  · obtain ⟨p, vs, rfl, h0, h1, h2⟩ := r1.lst_inv
    obtain rfl := r2.int_inv
    obtain ⟨⟨g1, g2, g3⟩, g4⟩ := g
    exact .inr (.inr (.inl ⟨p, _, vs, rfl, rfl, h1, g1, g2, by rw [h2.length]; exact g3, kont_lst ok (h2.flat _) hd k g4⟩))
  · obtain ⟨p, vs, rfl, h1, h2⟩ := r1.tup_inv
    obtain rfl := r2.int_inv
    obtain ⟨⟨g0, g1, g2, g3⟩, g4⟩ := g
    rename_i xs kk
    by_cases e1 : kk = 1
    · subst e1
      have g4 : Q' (.tup xs) := by simpa [ret] using g4
      exact .inr (.inr (.inr (.inr ⟨p, vs, rfl, rfl, h1.sq, kont_0 ok (rep_at h1 h2) nob_tup k g4⟩)))
    · exact .inr (.inr (.inr (.inl ⟨p, _, vs, rfl, rfl, h1.sq, fun e => g0 (h2.isNil.mp e), by omega, g2, by rw [h2.length]; exact g3, kont_tup ok (h2.flat _) k g4⟩)))
  · exact g.elim

/-! ### comparisons -/
def gEq : T → T → M T := fun t u => gd (t.shp = true ∧ u.shp = true) (ret (.bl (t.eqv u)))
def gNe : T → T → M T := fun t u => gd (t.shp = true ∧ u.shp = true) (ret (.bl (!t.eqv u)))
theorem sim_eq {S : Kx} {d : Nat} : Sim2 S d gEq (rEqD S.K) := by
  intro w t u x y Q' QE Q ok r1 r2 g k
  obtain ⟨⟨g1, g2⟩, g3⟩ := g
  obtain ⟨a1, a2⟩ := shp_dp r1 g1
  obtain ⟨b1, b2⟩ := shp_dp r2 g2
  exact ⟨_, _, a1, b1, a2, b2, kont_f ok rep_bl rfl k g3⟩
theorem sim_ne {S : Kx} {d : Nat} : Sim2 S d gNe (rNeD S.K) := by
  intro w t u x y Q' QE Q ok r1 r2 g k
  obtain ⟨⟨g1, g2⟩, g3⟩ := g
  obtain ⟨a1, a2⟩ := shp_dp r1 g1
  obtain ⟨b1, b2⟩ := shp_dp r2 g2
  exact ⟨_, _, a1, b1, a2, b2, kont_f ok rep_bl rfl k g3⟩
def T.isN : T → Bool
  | .non => true
  | _ => false
def T.okN : T → Bool
  | .glob _ => false
  | _ => true
theorem RepB.isNon {S : Kx} {w : Wd} {t : T} {v : V} (r : RepB S w t v) (h : t.okN = true) : decide (v = V.non) = t.isN := by
  cases t with
  | non => rw [r.non_inv]; rfl
  | bl b => rw [r.bl_inv]; rfl
  | int b => rw [r.int_inv]; rfl
  | str b => rw [r.str_inv]; rfl
  | tup ts => obtain ⟨p, vs, rfl, _⟩ := r.tup_inv; rfl
  | lst ts => obtain ⟨p, vs, rfl, _⟩ := r.lst_inv; rfl
  | dk _ _ => obtain ⟨p, vs, rfl, _⟩ := r; rfl
  | dt _ _ => obtain ⟨p, vs, rfl, _⟩ := r; rfl
  | ty n => have r' : Rep S w (.ty n) v := r; rw [Rep] at r'; subst r'; rfl
  | glob x => cases h
  | hand => have r' : Rep S w .hand v := r; rw [Rep] at r'; obtain ⟨p, _, rfl⟩ := r'; rfl
/-- is None, is True, is False -/
def gIs : T → T → M T := fun t u => match u with
  | .non => gd (t.okN = true) (ret (.bl t.isN))
  | .bl b => (match t with | .bl a => ret (.bl (decide (a = b))) | _ => stuck)
  | _ => stuck
def gIsNot : T → T → M T := fun t u => match u with
  | .non => gd (t.okN = true) (ret (.bl (!t.isN)))
  | .bl b => (match t with | .bl a => ret (.bl (!decide (a = b))) | _ => stuck)
  | _ => stuck
def rIsAll : R2 := fun x y H Q => (y = .non ∧ Q (.bl (decide (x = .non))) H) ∨ rIsB x y H Q
def rIsNotAll : R2 := fun x y H Q => (y = .non ∧ Q (.bl (!decide (x = .non))) H) ∨ rNotB x y H Q
theorem sim_is {S : Kx} {d : Nat} : Sim2 S d gIs rIsAll := by
  intro w t u x y Q' QE Q ok r1 r2 g k
  unfold gIs at g
  split at g
  · obtain rfl := r2.non_inv
    exact .inl ⟨rfl, by rw [r1.isNon g.1]; exact kont_f ok rep_bl rfl k g.2⟩
  · split at g
    · obtain rfl := r2.bl_inv
      obtain rfl := r1.bl_inv
      exact .inr ⟨_, _, rfl, rfl, kont_f ok rep_bl rfl k g⟩
    · exact g.elim
  · exact g.elim
theorem sim_isnot {S : Kx} {d : Nat} : Sim2 S d gIsNot rIsNotAll := by
  intro w t u x y Q' QE Q ok r1 r2 g k
  unfold gIsNot at g
  split at g
  · obtain rfl := r2.non_inv
    exact .inl ⟨rfl, by rw [r1.isNon g.1]; exact kont_f ok rep_bl rfl k g.2⟩
  · split at g
    · obtain rfl := r2.bl_inv
      obtain rfl := r1.bl_inv
      exact .inr ⟨_, _, rfl, rfl, kont_f ok rep_bl rfl k g⟩
    · exact g.elim
  · exact g.elim
section
variable {X : Cx} {S : Kx} {W : WX} {k d : Nat} {a b c : Expr} {ma mb : Env → M T} {pos : Pos}
theorem or_bin {op} {r r' : R2} (h : OpR X (binaryOp op) r) (h' : OpR X (binaryOp op) r') : OpR X (binaryOp op) (fun x y H Q => r x y H Q ∨ r' x y H Q) := OpR.or h h'
theorem de_add (E : Eu X S) (ha : DB X S W a ma) (hb : DB X S W b mb) (hd : d ≤ 1 := by decide) : DE X S W d (.BinOp a .Add b pos) (mBin gAdd ma mb) := by
  have h : OpR X (binaryOp .Add) (rAddAll S.K) := by rw [← E.hK]; exact OpR.or op_add (OpR.or op_add_str (OpR.or op_catA op_cat))
  exact de_bin h (sim_add hd) ha hb
theorem de_mul (E : Eu X S) (ha : DB X S W a ma) (hb : DB X S W b mb) (hd : d ≤ 1 := by decide) : DE X S W d (.BinOp a .Mult b pos) (mBin gMul ma mb) := by
  have h : OpR X (binaryOp .Mult) (rMulAll S.K) := by rw [← E.hK]; exact OpR.or op_mul (OpR.or op_mulW (OpR.or op_rep (OpR.or op_repT op_repT1)))
  exact de_bin h (sim_mul hd) ha hb
abbrev gSub := gI2 (fun _ _ => True) (fun i j => i - j)
abbrev gFdiv := gI2 CDivW (fun i j => i / j)
abbrev gMod := gI2 (fun _ j => 0 < j) (fun i j => i % j)
abbrev gPow := gI2 CPow (fun i j => i ^ j.toNat)
abbrev gShl := gI2 CPow (fun i j => i * 2 ^ j.toNat)
abbrev gShr := gI2 (fun _ j => 0 ≤ j) (fun i j => i / 2 ^ j.toNat)
abbrev gAnd := gI2 (fun _ _ => True) (fun i j => Builtin.bitAnd i j)
abbrev gOr := gI2 (fun _ _ => True) (fun i j => Builtin.bitOr i j)
abbrev gXor := gI2 (fun _ _ => True) (fun i j => Builtin.bitXor i j)
theorem opT {f : Value → Value → Sem Value} {g : Int → Int → V} (h : OpR X f (rI0 g)) : OpR X f (rI (fun _ _ => True) g) := fun pins s σ H x y v u Q I r1 r2 ⟨i, j, e1, e2, _, q⟩ => h pins s σ H x y v u Q I r1 r2 ⟨i, j, e1, e2, q⟩
theorem de_sub (ha : DB X S W a ma) (hb : DB X S W b mb) : DE X S W d (.BinOp a .Sub b pos) (mBin gSub ma mb) := de_bin (opT op_sub) sim_I2 ha hb
theorem de_fdiv (ha : DB X S W a ma) (hb : DB X S W b mb) : DE X S W d (.BinOp a .FloorDiv b pos) (mBin gFdiv ma mb) := de_bin op_fdivW sim_I2 ha hb
theorem de_mod (ha : DB X S W a ma) (hb : DB X S W b mb) : DE X S W d (.BinOp a .Mod b pos) (mBin gMod ma mb) := de_bin op_mod sim_I2 ha hb
theorem de_pow (ha : DB X S W a ma) (hb : DB X S W b mb) : DE X S W d (.BinOp a .Pow b pos) (mBin gPow ma mb) := de_bin op_pow sim_I2 ha hb
theorem de_shl (ha : DB X S W a ma) (hb : DB X S W b mb) : DE X S W d (.BinOp a .LShift b pos) (mBin gShl ma mb) := de_bin op_shl sim_I2 ha hb
theorem de_shr (ha : DB X S W a ma) (hb : DB X S W b mb) : DE X S W d (.BinOp a .RShift b pos) (mBin gShr ma mb) := de_bin op_shr sim_I2 ha hb
theorem de_band (ha : DB X S W a ma) (hb : DB X S W b mb) : DE X S W d (.BinOp a .BitAnd b pos) (mBin gAnd ma mb) := de_bin (opT op_and) sim_I2 ha hb
theorem de_bor (ha : DB X S W a ma) (hb : DB X S W b mb) : DE X S W d (.BinOp a .BitOr b pos) (mBin gOr ma mb) := de_bin (opT op_or) sim_I2 ha hb
theorem de_bxor (ha : DB X S W a ma) (hb : DB X S W b mb) : DE X S W d (.BinOp a .BitXor b pos) (mBin gXor ma mb) := de_bin (opT op_xor) sim_I2 ha hb
def gNeg : T → M T := fun t => match t with
  | .int i => ret (.int (-i))
  | _ => stuck
theorem de_neg (ha : DB X S W a ma) : DE X S W d (.UnaryOp .USub a pos) (mUn gNeg ma) := de_un un_neg (fun w t x Q' QE Q ok r g k => by
  unfold gNeg at g
  split at g
  · obtain rfl := r.int_inv
    exact ⟨_, rfl, kont_f ok rep_int rfl k g⟩
  · exact g.elim) ha
theorem units64 {A : Around} (hr : A.units + 200 < cLine) : A.units + 64 < cLine := by omega
theorem units65 {A : Around} (hr : A.units + 200 < cLine) : A.units + 65 < cLine := by omega
theorem units1 {A : Around} (hr : A.units + 200 < cLine) : A.units + 1 < cLine := by omega
theorem de_eq (E : Eu X S) (ha : DB X S W a ma) (hb : DB X S W b mb) : DE X S W d (.Compare a [.Eq] [b] pos) (mBin gEq ma mb) := by
  have h : OpR X (compareOp .Eq) (rEqD S.K) := by rw [← E.hK]; exact op_eqD (units64 E.un)
  exact de_cmp h (nomark _) sim_eq ha hb
theorem de_ne (E : Eu X S) (ha : DB X S W a ma) (hb : DB X S W b mb) : DE X S W d (.Compare a [.NotEq] [b] pos) (mBin gNe ma mb) := by
  have h : OpR X (compareOp .NotEq) (rNeD S.K) := by rw [← E.hK]; exact op_neD (units64 E.un)
  exact de_cmp h (nomark _) sim_ne ha hb
theorem de_is (ha : DB X S W a ma) (hb : DB X S W b mb) : DE X S W d (.Compare a [.Is] [b] pos) (mBin gIs ma mb) := de_cmp (OpR.or op_isN op_isBl) (nomark _) sim_is ha hb
theorem de_isnot (ha : DB X S W a ma) (hb : DB X S W b mb) : DE X S W d (.Compare a [.IsNot] [b] pos) (mBin gIsNot ma mb) := de_cmp (OpR.or op_notN op_notBl) (nomark _) sim_isnot ha hb
end
end Twl

/-! TL4: order, in, truth, and | or | not, displays, subscripts, slices, len. -/
namespace Twl
open PySem PySem.Spec PyProof.Rows L2

/-- the canonical reading of a two-place operation -/
def rg2 (S : Kx) (d : Nat) (g : T → T → M T) : R2 := fun x y H Q => ∃ w t u Q' QE, w.H = H ∧ Wok S w ∧ RepB S w t x ∧ RepB S w u y ∧ g t u Q' QE ∧ Kont S w d Q' Q
theorem sim_rg2 {S : Kx} {d : Nat} {g : T → T → M T} : Sim2 S d g (rg2 S d g) := fun w t u x y Q' QE Q ok r1 r2 h k => ⟨w, t, u, Q', QE, rfl, ok, r1, r2, h, k⟩
theorem Sim2.rg {X : Cx} {S : Kx} {d : Nat} {f : Value → Value → Sem Value} {g : T → T → M T} {r : R2} (ho : OpR X f r) (h : Sim2 S d g r) : OpR X f (rg2 S d g) := by
  intro pins s σ H x y v u Q I rx ry ⟨w, t, t', Q', QE, e, ok, r1, r2, hg, k⟩
  subst e
  exact ho pins s σ _ x y v u Q I rx ry (h w t t' x y Q' QE Q ok r1 r2 hg k)

/-! ### order -/
def cI : CmpOp → Int → Int → Bool
  | .Lt, i, j => decide (i < j)
  | .LtE, i, j => decide (i ≤ j)
  | .Gt, i, j => decide (j < i)
  | .GtE, i, j => decide (j ≤ i)
  | _, _, _ => false
def ordOp : CmpOp → Bool
  | .Lt => true
  | .LtE => true
  | .Gt => true
  | .GtE => true
  | _ => false
mutual
def T.rel (op : CmpOp) : T → T → Bool
  | .int i, .int j => cI op i j
  | .str a, .str b => decide (a.cps.toList < b.cps.toList)
  | .tup xs, .tup ys => T.rels op xs ys
  | _, _ => false
termination_by structural t => t
def T.rels (op : CmpOp) : List T → List T → Bool
  | [], ys => cI op 0 ys.length
  | x :: xs, ys => match ys with
    | [] => cI op (xs.length + 1) 0
    | y :: ys' => if x.eqv y = true then T.rels op xs ys' else T.rel op x y
termination_by structural xs => xs
end
mutual
def T.cmp (op : CmpOp) : T → T → Bool
  | .int _, .int _ => true
  | .str _, .str _ => decide (op = .Lt)
  | .tup xs, .tup ys => T.cmps op xs ys
  | _, _ => false
termination_by structural t => t
def T.cmps (op : CmpOp) : List T → List T → Bool
  | [], _ => true
  | x :: xs, ys => match ys with
    | [] => true
    | y :: ys' => (x.eqv y || T.cmp op x y) && T.cmps op xs ys'
termination_by structural xs => xs
end
theorem T.cmps_at {op : CmpOp} : ∀ {xs ys : List T} {j : Nat} {x y : T}, T.cmps op xs ys = true → xs[j]? = some x → ys[j]? = some y → x.eqv y = false → T.cmp op x y = true
  | [], _, j, x, y, _, h1, _, _ => by simp at h1
  | _ :: _, [], j, x, y, _, _, h2, _ => by simp at h2
  | a :: xs, b :: ys, 0, x, y, h, h1, h2, h3 => by
    simp at h1 h2; subst h1; subst h2
    rw [T.cmps, Bool.and_eq_true] at h
    have := h.1
    rw [h3, Bool.false_or] at this
    exact this
  | a :: xs, b :: ys, j + 1, x, y, h, h1, h2, h3 => by
    rw [T.cmps, Bool.and_eq_true] at h
    exact T.cmps_at h.2 (by simpa using h1) (by simpa using h2) h3
/-- lexAt read off the lists -/
theorem lexAt_rels (op : CmpOp) : ∀ (xs ys : List T) (e r : Nat → Bool) (i : Nat), (∀ j x y, xs[j]? = some x → ys[j]? = some y → e (i + j) = x.eqv y ∧ (x.eqv y = false → r (i + j) = T.rel op x y)) →
    Ob.lexAt e r (cI op xs.length ys.length) i (min xs.length ys.length) = T.rels op xs ys
  | [], ys, e, r, i, _ => by
    rw [T.rels]
    simp [Ob.lexAt]
  | x :: xs, [], e, r, i, _ => by
    rw [T.rels]
    simp [Ob.lexAt]
  | x :: xs, y :: ys, e, r, i, h => by
    rw [T.rels]
    have h0 := h 0 x y rfl rfl
    rw [Nat.add_zero] at h0
    have em : min (x :: xs).length (y :: ys).length = min xs.length ys.length + 1 := by simp [Nat.add_min_add_right]
    have ec : cI op ((x :: xs).length : Int) ((y :: ys).length : Int) = cI op (xs.length : Int) (ys.length : Int) := by
      cases op <;> simp [cI]
    rw [em, Ob.lexAt_succ, ec]
    by_cases c : x.eqv y = true
    · rw [if_pos (by rw [h0.1]; exact c), if_pos c]
      refine lexAt_rels op xs ys e r (i + 1) fun j a b h1 h2 => ?_
      have := h (j + 1) a b (by simpa using h1) (by simpa using h2)
      rwa [show i + 1 + j = i + (j + 1) by omega]
    · rw [if_neg (by rw [h0.1]; exact c), if_neg c]
      exact h0.2 (by simpa using c)
theorem shaped_mem {ds : List PyData} {d : PyData} (h : SeqAt.shaped (.tuple ds) = true) (hd : d ∈ ds) : SeqAt.shaped d = true ∧ d.depth < PyData.depth (.tuple ds) := by
  unfold SeqAt.shaped at h ⊢
  rw [Bool.and_eq_true] at h ⊢
  obtain ⟨h1, h2⟩ := h
  have h2 := of_decide_eq_true h2
  have lay : ∀ l : List PyData, PyData.canLayAll0 l = true → ∀ d ∈ l, d.canLay0 = true := by
    intro l
    induction l with
    | nil => intro _ d h; simp at h
    | cons a r ih =>
      intro h d hm
      rw [PyData.canLayAll0, Bool.and_eq_true] at h
      rcases List.mem_cons.mp hm with e | e
      · rw [e]; exact h.1
      · exact ih h.2 d e
  have dep : ∀ l : List PyData, ∀ d ∈ l, d.depth ≤ PyData.depthAll l := by
    intro l
    induction l with
    | nil => intro d h; simp at h
    | cons a r ih =>
      intro d hm
      rw [PyData.depthAll]
      rcases List.mem_cons.mp hm with e | e
      · rw [e]; exact Nat.le_max_left _ _
      · exact Nat.le_trans (ih d e) (Nat.le_max_right _ _)
  have hl : PyData.canLayAll0 ds = true := by rw [PyData.canLay0] at h1; exact h1
  have hdp := dep ds d hd
  have e : PyData.depth (.tuple ds) = PyData.depthAll ds + 1 := by rw [PyData.depth]
  rw [e] at h2 ⊢
  exact ⟨⟨lay ds hl d hd, decide_eq_true (by omega)⟩, by omega⟩
theorem shp_mem {ts : List T} {t : T} (h : (T.tup ts).shp = true) (ht : t ∈ ts) : t.shp = true ∧ t.pd.depth < (T.tup ts).pd.depth := by
  unfold T.shp at h ⊢
  rw [Bool.and_eq_true] at h ⊢
  obtain ⟨h1, h2⟩ := h
  have dm : ∀ l : List T, T.dats l = true → ∀ t ∈ l, t.dat = true := by
    intro l
    induction l with
    | nil => intro _ d h; simp at h
    | cons a r ih =>
      intro h d hm
      rw [T.dats, Bool.and_eq_true] at h
      rcases List.mem_cons.mp hm with e | e
      · rw [e]; exact h.1
      · exact ih h.2 d e
  rw [T.dat] at h1
  have ep : (T.tup ts).pd = .tuple (ts.map T.pd) := by rw [T.pd, T.pds_map]
  rw [ep] at h2
  have hm : t.pd ∈ ts.map T.pd := List.mem_map.mpr ⟨t, ht, rfl⟩
  obtain ⟨q1, q2⟩ := shaped_mem h2 hm
  exact ⟨⟨dm ts h1 t ht, q1⟩, by rw [ep]; exact q2⟩

theorem eqAt_T {X : Cx} {S : Kx} {w : Wd} {pins : List (Addr × Obj)} {σ : L2.St} {s : Shared} (hK : X.K = S.K) (I : Inv X pins σ w.H s) {A : Around} {t u : T} {x y : V} {v v' : Value} (r1 : Rep S w t x) (r2 : Rep S w u y) (q1 : RelV x v) (q2 : RelV y v')
    (s1 : t.shp = true) (s2 : u.shp = true) (hu : A.units + t.pd.depth < cLine) : SeqAt.EqAt A s v v' (t.eqv u) := by
  unfold T.shp at s1 s2
  rw [Bool.and_eq_true] at s1 s2
  have d1 := dp_of t x r1 s1.1
  have d2 := dp_of u y r2 s2.1
  rw [← hK] at d1 d2
  obtain ⟨as, a1⟩ := Dp.reads I _ _ _ d1 q1
  obtain ⟨bs, a2⟩ := Dp.reads I _ _ _ d2 q2
  refine SeqAt.eqAt_reads _ _ A s v v' _ _ a1 a2 (SeqAt.canLay_of_shaped s1.2) (SeqAt.canLay_of_shaped s2.2) ?_
  have := Nat.min_le_left t.pd.depth u.pd.depth
  omega
theorem RcOp.ofI {op : CmpOp} (ho : ordOp op = true) {A : Around} {s : Shared} (a b : Int) (t u : Tok) : Ob.RcOp op A s (.int a t) (.int b u) (cI op a b) := by
  cases op with
  | Lt => exact Ob.RcOp.lt_int _ _ _ _
  | LtE => exact Ob.RcOp.le_int _ _ _ _
  | Gt => exact Ob.RcOp.gt_int _ _ _ _
  | GtE => exact Ob.RcOp.ge_int _ _ _ _
  | _ => cases ho
theorem RcOp.ofT {op : CmpOp} (ho : ordOp op = true) {A : Around} {s : Shared} {l b : Addr} {items items2 : Array Value} {e r : Nat → Bool} (hl : s.heap.IsTuple l items) (hb : s.heap.IsTuple b items2) (hu : A.units < cLine)
    (he : ∀ j (h1 : j < items.size) (h2 : j < items2.size), SeqAt.EqAt A.in1 s items[j] items2[j] (e j))
    (hr : ∀ j (h1 : j < items.size) (h2 : j < items2.size), e j = false → Ob.RcOp op A.in1 s items[j] items2[j] (r j)) :
    Ob.RcOp op A s (.ref l) (.ref b) (Ob.lexAt e r (cI op (items.size : Nat) (items2.size : Nat)) 0 (min items.size items2.size)) := by
  cases op with
  | Lt => have := Ob.RcOp.tuples_lt hl hb hu he hr; simpa [cI] using this
  | LtE => have := Ob.RcOp.tuples_le hl hb hu he hr; simpa [cI] using this
  | Gt => have := Ob.RcOp.tuples_gt hl hb hu he hr; simpa [cI] using this
  | GtE => have := Ob.RcOp.tuples_ge hl hb hu he hr; simpa [cI] using this
  | _ => cases ho
theorem rc_T {X : Cx} {S : Kx} {w : Wd} {pins : List (Addr × Obj)} {σ : L2.St} {s : Shared} (hK : X.K = S.K) (I : Inv X pins σ w.H s) {op : CmpOp} (ho : ordOp op = true) : ∀ (n : Nat) (t u : T) (x y : V) (v v' : Value) (A : Around), t.pd.depth ≤ n → Rep S w t x → Rep S w u y → RelV x v → RelV y v' →
    t.shp = true → u.shp = true → T.cmp op t u = true → A.units + n < cLine → Ob.RcOp op A s v v' (T.rel op t u) := by
  intro n
  induction n with
  | zero =>
    intro t u x y v v' A hn r1 r2 q1 q2 s1 s2 c hu
    unfold T.cmp at c
    split at c
    · rw [Rep] at r1 r2; subst r1; subst r2
      obtain ⟨t, rfl⟩ := q1
      obtain ⟨t', rfl⟩ := q2
      rw [T.rel]
      exact RcOp.ofI ho _ _ _ _
    · have c := of_decide_eq_true c
      subst c
      rw [Rep] at r1 r2; subst r1; subst r2
      obtain ⟨t, rfl⟩ := q1
      obtain ⟨t', rfl⟩ := q2
      rw [T.rel]
      intro prog w E Q h
      exact lt_str h
    · rename_i xs ys
      rw [T.pd, PyData.depth] at hn
      omega
    · cases c
  | succ n ih =>
    intro t u x y v v' A hn r1 r2 q1 q2 s1 s2 c hu
    unfold T.cmp at c
    split at c
    · rw [Rep] at r1 r2; subst r1; subst r2
      obtain ⟨t, rfl⟩ := q1
      obtain ⟨t', rfl⟩ := q2
      rw [T.rel]
      exact RcOp.ofI ho _ _ _ _
    · have c := of_decide_eq_true c
      subst c
      rw [Rep] at r1 r2; subst r1; subst r2
      obtain ⟨t, rfl⟩ := q1
      obtain ⟨t', rfl⟩ := q2
      rw [T.rel]
      intro prog w E Q h
      exact lt_str h
    · rename_i xs ys
      rw [Rep] at r1 r2
      obtain ⟨p, vs, rfl, a1, a2⟩ := r1
      obtain ⟨q, us, rfl, b1, b2⟩ := r2
      cases q1
      cases q2
      obtain ⟨its, rv, t1, _⟩ := I.tuple (a := p) (xs := vs) (by rw [hK]; exact a1.sq)
      obtain ⟨its2, ru, t2, _⟩ := I.tuple (a := q) (xs := us) (by rw [hK]; exact b1.sq)
      have l1 : its.length = xs.length := by rw [← rv.length, a2.length]
      have l2 : its2.length = ys.length := by rw [← ru.length, b2.length]
      have at1 : ∀ j (h : j < its.toArray.size), ∃ t x, xs[j]? = some t ∧ Rep S w t x ∧ RelV x its.toArray[j] ∧ t ∈ xs := fun j h => by
        have h' : j < xs.length := by simp at h; omega
        have e := List.getElem?_eq_getElem h'
        obtain ⟨x, e1, r⟩ := a2.get e
        obtain ⟨z, e2, r2⟩ := rv.get e1
        refine ⟨_, x, e, r, ?_, List.getElem_mem h'⟩
        have h3 : j < its.length := by simpa using h
        rw [List.getElem?_eq_getElem h3] at e2
        have e3 := Option.some.inj e2
        simp [e3]; exact r2
      have at2 : ∀ j (h : j < its2.toArray.size), ∃ t x, ys[j]? = some t ∧ Rep S w t x ∧ RelV x its2.toArray[j] ∧ t ∈ ys := fun j h => by
        have h' : j < ys.length := by simp at h; omega
        have e := List.getElem?_eq_getElem h'
        obtain ⟨x, e1, r⟩ := b2.get e
        obtain ⟨z, e2, r2⟩ := ru.get e1
        refine ⟨_, x, e, r, ?_, List.getElem_mem h'⟩
        have h3 : j < its2.length := by simpa using h
        rw [List.getElem?_eq_getElem h3] at e2
        have e3 := Option.some.inj e2
        simp [e3]; exact r2
      have R := RcOp.ofT ho (A := A) (s := s) (e := fun j => (xs.getD j .non).eqv (ys.getD j .non)) (r := fun j => T.rel op (xs.getD j .non) (ys.getD j .non)) t1 t2 (by omega) (fun j h1 h2 => ?_) (fun j h1 h2 he => ?_)
      · rw [T.rel]
        rw [← lexAt_rels op xs ys (fun j => (xs.getD j .non).eqv (ys.getD j .non)) (fun j => T.rel op (xs.getD j .non) (ys.getD j .non)) 0 (fun j x y h1 h2 => ?_)]
        · have e1 : its.toArray.size = xs.length := by simp [l1]
          have e2 : its2.toArray.size = ys.length := by simp [l2]
          rw [e1, e2] at R
          exact R
        · rw [Nat.zero_add, List.getD_eq_getElem?_getD, List.getD_eq_getElem?_getD, h1, h2]
          exact ⟨rfl, fun _ => rfl⟩
      · obtain ⟨t, x, e1, r, rr, m⟩ := at1 j h1
        obtain ⟨u, y, e2, r', rr', m'⟩ := at2 j h2
        obtain ⟨z1, z2⟩ := shp_mem s1 m
        obtain ⟨z3, _⟩ := shp_mem s2 m'
        rw [List.getD_eq_getElem?_getD, List.getD_eq_getElem?_getD, e1, e2]
        exact eqAt_T hK I r r' rr rr' z1 z3 (by show A.units + 1 + t.pd.depth < cLine; omega)
      · obtain ⟨t, x, e1, r, rr, m⟩ := at1 j h1
        obtain ⟨u, y, e2, r', rr', m'⟩ := at2 j h2
        obtain ⟨z1, z2⟩ := shp_mem s1 m
        obtain ⟨z3, _⟩ := shp_mem s2 m'
        rw [List.getD_eq_getElem?_getD, List.getD_eq_getElem?_getD, e1, e2] at he ⊢
        exact ih t u x y _ _ A.in1 (by omega) r r' rr rr' z1 z3 (T.cmps_at c e1 e2 he) (by show A.units + 1 + n < cLine; omega)
    · cases c
def gRel (op : CmpOp) : T → T → M T := fun t u => gd (t.shp = true ∧ u.shp = true ∧ T.cmp op t u = true) (ret (.bl (T.rel op t u)))
theorem RepB.rep {S : Kx} {w : Wd} {t : T} {v : V} (h : RepB S w t v) (h1 : ∀ ts, t ≠ .lst ts) (hd : t.dat = true) : Rep S w t v := by
  cases t with
  | lst ts => exact (h1 ts rfl).elim
  | dk _ _ => simp [T.dat] at hd
  | dt _ _ => simp [T.dat] at hd
  | _ => exact h
theorem cmpOp_rich {op : CmpOp} (ho : ordOp op = true) (v u : Value) : compareOp op v u = richCompare op v u := by
  cases op <;> first | rfl | cases ho
theorem op_rel {X : Cx} {S : Kx} {d : Nat} (hK : X.K = S.K) (hr : X.A.units + 200 < cLine) {op : CmpOp} (ho : ordOp op = true) : OpR X (compareOp op) (rg2 S d (gRel op)) := by
  intro pins s σ H x y v u Q I rx ry ⟨w, t, t', Q', QE, e, ok, r1, r2, hg, k⟩
  subst e
  obtain ⟨⟨s1, s2, c⟩, hq⟩ := hg
  have nl : ∀ ts, t ≠ .lst ts := fun ts e => by subst e; simp [T.cmp] at c
  have nl' : ∀ ts, t' ≠ .lst ts := fun ts e => by subst e; cases t <;> simp [T.cmp] at c
  have d1 : t.dat = true := by unfold T.shp at s1; rw [Bool.and_eq_true] at s1; exact s1.1
  have d2 : t'.dat = true := by unfold T.shp at s2; rw [Bool.and_eq_true] at s2; exact s2.1
  have dp : t.pd.depth ≤ 64 := by unfold T.shp at s1; rw [Bool.and_eq_true] at s1; exact SeqAt.depth_of_shaped s1.2
  rw [cmpOp_rich ho]
  refine rc_T hK I ho t.pd.depth t t' x y v u X.A (Nat.le_refl _) (r1.rep nl d1) (r2.rep nl' d2) rx ry s1 s2 c (by omega) X.prog X.w X.xe _ ?_
  exact ⟨.bl _, _, I, rfl, kont_f ok rep_bl rfl k hq⟩
section
variable {X : Cx} {S : Kx} {W : WX} {k d : Nat} {a b c : Expr} {ma mb mc : Env → M T} {pos : Pos}
theorem de_lt (E : Eu X S) (ha : DB X S W a ma) (hb : DB X S W b mb) : DE X S W d (.Compare a [.Lt] [b] pos) (mBin (gRel .Lt) ma mb) := de_cmp (op_rel E.hK E.un rfl) (nomark _) sim_rg2 ha hb
theorem de_le (E : Eu X S) (ha : DB X S W a ma) (hb : DB X S W b mb) : DE X S W d (.Compare a [.LtE] [b] pos) (mBin (gRel .LtE) ma mb) := de_cmp (op_rel E.hK E.un rfl) (nomark _) sim_rg2 ha hb
theorem de_gt (E : Eu X S) (ha : DB X S W a ma) (hb : DB X S W b mb) : DE X S W d (.Compare a [.Gt] [b] pos) (mBin (gRel .Gt) ma mb) := de_cmp (op_rel E.hK E.un rfl) (nomark _) sim_rg2 ha hb
theorem de_ge (E : Eu X S) (ha : DB X S W a ma) (hb : DB X S W b mb) : DE X S W d (.Compare a [.GtE] [b] pos) (mBin (gRel .GtE) ma mb) := de_cmp (op_rel E.hK E.un rfl) (nomark _) sim_rg2 ha hb
end
end Twl

/-! TL5: in, truth, and | or | not, displays, subscripts, slices, len. -/
namespace Twl
open PySem PySem.Spec PyProof.Rows L2

/-! ### in, not in -/
def T.key : T → Option Key
  | .int i => some (.inl i)
  | .str x => some (.inr x)
  | _ => none
def T.keys : List T → Option (List Key)
  | [] => some []
  | t :: ts => match t.key, T.keys ts with
    | some k, some ks => some (k :: ks)
    | _, _ => none
def dlook {κ α : Type} [DecidableEq κ] : List κ → List α → κ → Option α
  | k :: ks, t :: ts, j => if k = j then some t else dlook ks ts j
  | _, _, _ => none
theorem key_rep {S : Kx} {w : Wd} {t : T} {v : V} {k : Key} (h : RepB S w t v) (e : t.key = some k) : v = kV k := by
  cases t with
  | int i => simp [T.key] at e; subst e; exact h.int_inv
  | str x => simp [T.key] at e; subst e; exact h.str_inv
  | _ => simp [T.key] at e
theorem keys_rep {S : Kx} {w : Wd} : ∀ {ts : List T} {vs : List V} {ks : List Key}, Reps S w ts vs → T.keys ts = some ks → vs = ks.map kV
  | [], vs, ks, h, e => by simp [T.keys] at e; subst e; rw [h.nil_inv]; rfl
  | t :: ts, vs, ks, h, e => by
    obtain ⟨v, vs', rfl, h1, h2⟩ := h.cons_inv
    unfold T.keys at e
    split at e
    · rename_i k ks' e1 e2
      have := Option.some.inj e
      subst this
      rw [keys_rep h2 e2]
      cases t with
      | int i => simp [T.key] at e1; subst e1; rw [Rep] at h1; subst h1; rfl
      | str x => simp [T.key] at e1; subst e1; rw [Rep] at h1; subst h1; rfl
      | _ => simp [T.key] at e1
    · cases e
theorem dlook_val {κ : Type} [DecidableEq κ] {S : Kx} {w : Wd} : ∀ {ks : List κ} {ts : List T} {vs : List V} {k : κ}, ks.length = ts.length → Reps S w ts vs →
    match dlook ks ts k with
    | some t => ∃ v, valV (ks.zip vs) k = some v ∧ Rep S w t v
    | none => valV (ks.zip vs) k = none
  | [], [], vs, k, _, h => by rw [h.nil_inv]; rfl
  | k0 :: ks, t :: ts, vs, k, e, h => by
    obtain ⟨v, vs', rfl, h1, h2⟩ := h.cons_inv
    unfold dlook
    by_cases c : k0 = k
    · rw [if_pos c]
      exact ⟨v, by rw [List.zip_cons_cons]; exact valV_pos c, h1⟩
    · rw [if_neg c, List.zip_cons_cons, valV_neg (p := (k0, v)) c]
      exact dlook_val (by simpa using e) h2
  | [], _ :: _, _, _, e, _ => by simp at e
  | _ :: _, [], _, _, e, _ => by simp at e
theorem dlook_some {κ : Type} [DecidableEq κ] {S : Kx} {w : Wd} {ks : List κ} {ts : List T} {vs : List V} {k : κ} (e : ks.length = ts.length) (r : Reps S w ts vs) : (valV (ks.zip vs) k).isSome = (dlook ks ts k).isSome := by
  have := dlook_val (k := k) e r
  split at this
  · rename_i t h
    obtain ⟨v, e1, _⟩ := this
    rw [e1, h]; rfl
  · rename_i h
    rw [this, h]; rfl
def T.isIn (t : T) (ts : List T) : Bool := ts.any fun z => z.eqv t
/-- the code of a text of one sign -/
def T.sign : T → Option Nat
  | .str x => (match x.cps.toList with
    | [c] => some c
    | _ => none)
  | _ => none
theorem sign_inv {t : T} {c : Nat} (h : t.sign = some c) : t = .str ⟨#[c]⟩ := by
  cases t with
  | str x =>
    cases x with
    | mk a =>
      simp only [T.sign] at h
      split at h
      · rename_i e
        have := Option.some.inj h
        subst this
        congr 2
        exact Array.ext' (by simpa using e)
      · cases h
  | _ => cases h
/-- a dict's key made of a tuple -/
def T.tkey : T → Option (List Key)
  | .tup us => T.keys us
  | _ => none
theorem tkey_rep {S : Kx} {w : Wd} {t : T} {v : V} {k : List Key} (h : RepB S w t v) (e : t.tkey = some k) : ∃ q, v = .ref q ∧ TupAt S w q (k.map kV) := by
  cases t with
  | tup us =>
    have h' : Rep S w (.tup us) v := h
    rw [Rep] at h'
    obtain ⟨q, ws, rfl, a1, a2⟩ := h'
    have := keys_rep a2 e
    subst this
    exact ⟨q, rfl, a1⟩
  | _ => cases e
def ofO {α β : Type} (o : Option α) (f : α → M β) : M β := match o with
  | some a => f a
  | none => stuck
def inB (t u : T) : M Bool := match u with
  | .lst ts => gd (t.shp = true ∧ (T.lst ts).shp = true) (ret (t.isIn ts))
  | .tup ts => gd (t.shp = true ∧ (T.tup ts).shp = true) (ret (t.isIn ts))
  | .str z => ofO t.sign fun c => ret (decide (c ∈ z.cps.toList))
  | .dk ks ts => ofO t.key fun k => ret (dlook ks ts k).isSome
  | .dt ks ts => ofO t.tkey fun k => ret (dlook ks ts k).isSome
  | _ => stuck
theorem ofO_inv {α β : Type} {o : Option α} {f : α → M β} {Q : β → Prop} {E : Exn → Prop} (h : ofO o f Q E) : ∃ a, o = some a ∧ f a Q E := by
  cases o with
  | none => exact h.elim
  | some a => exact ⟨a, rfl, h⟩
def gIn (t u : T) : M T := bnd (inB t u) fun b => ret (.bl b)
def gNotIn (t u : T) : M T := bnd (inB t u) fun b => ret (.bl (!b))
section
variable {X : Cx} {S : Kx} {pins : List (Addr × Obj)} {σ : L2.St} {s : Shared} {w : Wd} {t t' : T} {x y : V} {v u : Value} {k : Nat}
theorem key_sq {X : Cx} {pins : List (Addr × Obj)} {σ : L2.St} {H : Hp} {s : Shared} {q : Addr} {k : List Key} (I : Inv X pins σ H s) (h : SqT X.K H q (k.map kV)) : (tupleKind (mixKind X.prog X.w)).is s.heap k q := by
  obtain ⟨its, r, ⟨o, h1, h2, n, h3⟩, _⟩ := I.tuple h
  exact ⟨o, its.toArray, n, h1, h2, h3, by simpa using items_are r⟩
theorem in_run {Q' : Bool → Prop} {QE : Exn → Prop} {op : CmpOp} {f : Bool → Bool} (hop : (op = .In ∧ f = id) ∨ (op = .NotIn ∧ f = not)) (hK : X.K = S.K) (hr : X.A.units + 200 < cLine) (I : Inv X pins σ w.H s) (ok : Wok S w) (r1 : RepB S w t x) (r2 : RepB S w t' y) (rx : RelV x v) (ry : RelV y u) (hg : inB t t' Q' QE)
    {P : Value → Shared → Prop} (h : ∀ b s', Inv X pins σ w.H s' → Q' b → P (.bool (f b)) s') : wpAny (model X.prog X.w) X.A (compareOp op v u) P X.xe s := by
  unfold inB at hg
  split at hg
  · rename_i ts
    obtain ⟨⟨s1, s2⟩, hq⟩ := hg
    obtain ⟨d1, z1⟩ := shp_dp r1 s1
    obtain ⟨d2, z2⟩ := shp_dp r2 s2
    rw [← hK] at d1 d2
    rw [T.pd] at d2 z2
    obtain ⟨as, q1⟩ := Dp.reads I _ x v d1 rx
    obtain ⟨bs, q2⟩ := Dp.reads I _ y u d2 ry
    have e : ((T.pds ts).any fun z => PyData.eqv z t.pd) = t.isIn ts := by
      rw [T.pds_map, List.any_map]; rfl
    rcases hop with ⟨rfl, rfl⟩ | ⟨rfl, rfl⟩
    · exact SeqAt.in_list_reads q2 q1 (SeqAt.canLay_of_shaped z2) (SeqAt.canLay_of_shaped z1) (room_in_shaped z1 (units65 hr)) (by rw [e]; exact h _ s I hq)
    · exact SeqAt.notIn_list_reads q2 q1 (SeqAt.canLay_of_shaped z2) (SeqAt.canLay_of_shaped z1) (room_in_shaped z1 (units65 hr)) (by rw [e]; exact h _ s I hq)
  · rename_i ts
    obtain ⟨⟨s1, s2⟩, hq⟩ := hg
    obtain ⟨d1, z1⟩ := shp_dp r1 s1
    obtain ⟨d2, z2⟩ := shp_dp r2 s2
    rw [← hK] at d1 d2
    rw [T.pd] at d2 z2
    obtain ⟨as, q1⟩ := Dp.reads I _ x v d1 rx
    obtain ⟨bs, q2⟩ := Dp.reads I _ y u d2 ry
    have e : ((T.pds ts).any fun z => PyData.eqv z t.pd) = t.isIn ts := by
      rw [T.pds_map, List.any_map]; rfl
    rcases hop with ⟨rfl, rfl⟩ | ⟨rfl, rfl⟩
    · exact SeqAt.in_tuple_reads q2 q1 (SeqAt.canLay_of_shaped z2) (SeqAt.canLay_of_shaped z1) (room_in_shaped z1 (units65 hr)) (by rw [e]; exact h _ s I hq)
    · exact SeqAt.notIn_tuple_reads q2 q1 (SeqAt.canLay_of_shaped z2) (SeqAt.canLay_of_shaped z1) (room_in_shaped z1 (units65 hr)) (by rw [e]; exact h _ s I hq)
  · rename_i z
    obtain ⟨c, e, hg⟩ := ofO_inv hg
    have et := sign_inv e
    subst et
    obtain rfl := r1.str_inv
    obtain rfl := r2.str_inv
    rcases hop with ⟨rfl, rfl⟩ | ⟨rfl, rfl⟩
    · refine wpAny_mono (op_in_sign pins s σ w.H _ _ v u (fun r H => H = w.H ∧ r = .bl (decide (c ∈ z.cps.toList))) I rx ry ⟨c, z, rfl, rfl, rfl, rfl⟩) (fun r s' ⟨v', H', I', rr, e1, e2⟩ => ?_) fun _ _ z => z
      subst e1; subst e2; cases rr
      exact h _ s' I' hg
    · refine wpAny_mono (op_notInS pins s σ w.H _ _ v u (fun r H => H = w.H ∧ r = .bl (!decide (c ∈ z.cps.toList))) I rx ry ⟨c, z, rfl, rfl, rfl, rfl⟩) (fun r s' ⟨v', H', I', rr, e1, e2⟩ => ?_) fun _ _ z => z
      subst e1; subst e2; cases rr
      exact h _ s' I' hg
  · rename_i ks ts
    obtain ⟨kk, e, hg⟩ := ofO_inv hg
    obtain ⟨p, vs, rfl, h0, h1, h2, h3⟩ := r2
    have ev := key_rep r1 e
    subst ev
    cases ry
    have es := dlook_some (k := kk) h2 h3
    rcases hop with ⟨rfl, rfl⟩ | ⟨rfl, rfl⟩
    · exact d_in (units1 hr) I (DGet.k h1) rx fun s' I' => by rw [es]; exact h _ s' I' hg
    · exact d_notIn (units1 hr) I (DGet.k h1) rx fun s' I' => by rw [es]; exact h _ s' I' hg
  · rename_i ks ts
    obtain ⟨kk, e, hg⟩ := ofO_inv hg
    obtain ⟨p, vs, rfl, h0, h1, h2, h3⟩ := r2
    obtain ⟨q, rfl, a1⟩ := tkey_rep r1 e
    cases ry
    cases rx
    have es := dlook_some (k := kk) h2 h3
    obtain ⟨z, hd, xs, rel, dd⟩ := dt_rd I.hok (.inl h1)
    have q' := (rel.val kk).isSome_eq
    rw [Option.isSome_map, es] at q'
    have hk := key_sq (q := q) I (by rw [hK]; exact a1.sq)
    rcases hop with ⟨rfl, rfl⟩ | ⟨rfl, rfl⟩
    · refine wpAny_in_heap (tupleKind_room_in1 (units1 hr)) hk hd dd ?_
      rw [← q']
      exact h _ _ (I.tok _) hg
    · refine wpAny_notIn_heap (tupleKind_room_in1 (units1 hr)) hk hd dd ?_
      rw [← q']
      exact h _ _ (I.tok _) hg
  · exact hg.elim
theorem op_inT {d : Nat} {f : Bool → Bool} {op : CmpOp} (hop : (op = .In ∧ f = id) ∨ (op = .NotIn ∧ f = not)) (hK : X.K = S.K) (hr : X.A.units + 200 < cLine) : OpR X (compareOp op) (rg2 S d fun t u => bnd (inB t u) fun b => ret (.bl (f b))) := by
  intro pins s σ H x y v u Q I rx ry ⟨w, t, t', Q', QE, e, ok, r1, r2, hg, k⟩
  subst e
  exact in_run (Q' := fun b => Q' (.bl (f b))) hop hK hr I ok r1 r2 rx ry hg fun b s' I' q => ⟨.bl (f b), _, I', rfl, kont_f ok rep_bl rfl k q⟩
end
section
variable {X : Cx} {S : Kx} {W : WX} {k d : Nat} {a b c : Expr} {ma mb mc : Env → M T} {pos : Pos}
theorem de_in (E : Eu X S) (ha : DB X S W a ma) (hb : DB X S W b mb) (hm : behindInMarks .In b = false := by with_unfolding_all rfl) : DE X S W d (.Compare a [.In] [b] pos) (mBin gIn ma mb) := de_cmp (op_inT (.inl ⟨rfl, rfl⟩) E.hK E.un) hm sim_rg2 ha hb
theorem de_notin (E : Eu X S) (ha : DB X S W a ma) (hb : DB X S W b mb) (hm : behindInMarks .NotIn b = false := by with_unfolding_all rfl) : DE X S W d (.Compare a [.NotIn] [b] pos) (mBin gNotIn ma mb) := de_cmp (op_inT (.inr ⟨rfl, rfl⟩) E.hK E.un) hm sim_rg2 ha hb

/-! ### tests -/
def mB (m : Env → M T) : Env → M Bool := fun env Q E => m env (fun t => ∃ b, t = .bl b ∧ Q b) E
/-- truth of a value -/
def T.tru : T → Option Bool
  | .non => some false
  | .bl b => some b
  | .int i => some (i != 0)
  | .str y => if y.length ≤ sizeLine then some ((y.length : Int) != 0) else none
  | .lst ts => some (!ts.isEmpty)
  | .tup ts => some (!ts.isEmpty)
  | .dk ks ts => some (!(ks.zip ts).isEmpty)
  | _ => none
def mTr (m : Env → M T) : Env → M Bool := fun env => bnd (m env) fun t => ofO t.tru ret
theorem Reps.isEmpty {S : Kx} {w : Wd} {ts : List T} {vs : List V} (r : Reps S w ts vs) : vs.isEmpty = ts.isEmpty := by
  cases ts with
  | nil => rw [r.nil_inv]; rfl
  | cons t ts => obtain ⟨v, vs', rfl, _⟩ := r.cons_inv; rfl
theorem tru_rep {S : Kx} {w : Wd} {t : T} {v : V} {b : Bool} (r : RepB S w t v) (e : t.tru = some b) : TruV S.K v w.H b := by
  cases t with
  | non => obtain rfl := r.non_inv; simpa [T.tru, TruV, eq_comm] using e
  | bl _ => obtain rfl := r.bl_inv; simpa [T.tru, TruV, eq_comm] using e
  | int _ => obtain rfl := r.int_inv; simpa [T.tru, TruV, eq_comm] using e
  | str y =>
    obtain rfl := r.str_inv
    simp only [T.tru] at e
    split at e
    · rename_i h; exact ⟨h, (Option.some.inj e).symm⟩
    · cases e
  | lst ts =>
    obtain ⟨p, vs, rfl, h0, h1, h2⟩ := r
    simp only [T.tru] at e
    have := Option.some.inj e
    subst this
    exact .inl ⟨vs, .inl (.inl h1), by rw [h2.isEmpty]⟩
  | tup ts =>
    obtain ⟨p, vs, rfl, h1, h2⟩ := r.tup_inv
    simp only [T.tru] at e
    have := Option.some.inj e
    subst this
    exact .inr (.inl ⟨vs, h1.sq, by rw [h2.isEmpty]⟩)
  | dk ks ts =>
    obtain ⟨p, vs, rfl, h0, h1, h2, h3⟩ := r
    simp only [T.tru] at e
    have := Option.some.inj e
    subst this
    refine .inr (.inr ⟨_, h1, ?_⟩)
    have := h3.length
    cases ks <;> cases ts <;> cases vs <;> simp_all
  | _ => cases e
/-- a comparison or a bool's value, as a test -/
theorem dt_val (h : DE X S W 0 a ma) (he : ∀ whole, isTrue a X.env whole = (do let v ← whole; standAt a.pos; holding [v] (truthy v)) := by intro _; rfl) : DT X S W a (mB ma) := PTmono (pt_val h he) fun σ H Q h => by
  obtain ⟨w, env, fp, Q', QE, rfl, ok, er, hm, kt, kx⟩ := h
  refine rd_use ok er hm (.z fun r v w1 ok1 l1 rp ⟨b, e, q⟩ => ?_) kx
  subst e
  rw [Rep] at rp
  subst rp
  exact ⟨b, rfl, kt b w1 ok1 l1 q⟩
theorem dt_tru (E : Eu X S) (h : DB X S W a ma) (he : ∀ whole, isTrue a X.env whole = (do let v ← whole; standAt a.pos; holding [v] (truthy v)) := by intro _; rfl) : DT X S W a (mTr ma) := PTmono (pt_truth h he) fun σ H Q h => by
  obtain ⟨w, env, fp, Q', QE, rfl, ok, er, hm, kt, kx⟩ := h
  refine rdb_use ok er hm (fun r v w1 ok1 l1 rp q => ?_) kx
  obtain ⟨b, e, q⟩ := ofO_inv q
  refine ⟨b, ?_, kt b w1 ok1 l1 q⟩
  rw [E.hK]
  exact tru_rep rp e
/-- a comparison as a test -/
theorem dt_bin {op : CmpOp} {r : R2} {g : T → T → M T} (ho : OpR X (compareOp op) r) (hm : behindInMarks op b = false) (sm : Sim2 S 0 g r) (ha : DB X S W a ma) (hb : DB X S W b mb) : DT X S W (.Compare a [op] [b] pos) (mB (mBin g ma mb)) := by
  refine PTmono (pt_cmpR ho ha hb hm) fun σ H Q h => ?_
  obtain ⟨w, env, fp, Q', QE, rfl, ok, er, hm, kt, kx⟩ := h
  refine run2 ok er hm kx fun w2 t u x y ok2 l r1 r2 q => sm w2 t u x y _ QE _ ok2 r1 r2 q (.z fun r v w3 ok3 l3 rp ⟨b, e, q⟩ => ?_)
  subst e
  rw [Rep] at rp
  subst rp
  exact ⟨b, rfl, kt b w3 ok3 (l.trans l3) q⟩
theorem dt_eq (E : Eu X S) (ha : DB X S W a ma) (hb : DB X S W b mb) : DT X S W (.Compare a [.Eq] [b] pos) (mB (mBin gEq ma mb)) := by
  have h : OpR X (compareOp .Eq) (rEqD S.K) := by rw [← E.hK]; exact op_eqD (units64 E.un)
  exact dt_bin h (nomark _) sim_eq ha hb
theorem dt_ne (E : Eu X S) (ha : DB X S W a ma) (hb : DB X S W b mb) : DT X S W (.Compare a [.NotEq] [b] pos) (mB (mBin gNe ma mb)) := by
  have h : OpR X (compareOp .NotEq) (rNeD S.K) := by rw [← E.hK]; exact op_neD (units64 E.un)
  exact dt_bin h (nomark _) sim_ne ha hb
theorem dt_lt (E : Eu X S) (ha : DB X S W a ma) (hb : DB X S W b mb) : DT X S W (.Compare a [.Lt] [b] pos) (mB (mBin (gRel .Lt) ma mb)) := dt_bin (op_rel E.hK E.un rfl) (nomark _) sim_rg2 ha hb
theorem dt_le (E : Eu X S) (ha : DB X S W a ma) (hb : DB X S W b mb) : DT X S W (.Compare a [.LtE] [b] pos) (mB (mBin (gRel .LtE) ma mb)) := dt_bin (op_rel E.hK E.un rfl) (nomark _) sim_rg2 ha hb
theorem dt_gt (E : Eu X S) (ha : DB X S W a ma) (hb : DB X S W b mb) : DT X S W (.Compare a [.Gt] [b] pos) (mB (mBin (gRel .Gt) ma mb)) := dt_bin (op_rel E.hK E.un rfl) (nomark _) sim_rg2 ha hb
theorem dt_ge (E : Eu X S) (ha : DB X S W a ma) (hb : DB X S W b mb) : DT X S W (.Compare a [.GtE] [b] pos) (mB (mBin (gRel .GtE) ma mb)) := dt_bin (op_rel E.hK E.un rfl) (nomark _) sim_rg2 ha hb
theorem dt_is (ha : DB X S W a ma) (hb : DB X S W b mb) : DT X S W (.Compare a [.Is] [b] pos) (mB (mBin gIs ma mb)) := dt_bin (OpR.or op_isN op_isBl) (nomark _) sim_is ha hb
theorem dt_isnot (ha : DB X S W a ma) (hb : DB X S W b mb) : DT X S W (.Compare a [.IsNot] [b] pos) (mB (mBin gIsNot ma mb)) := dt_bin (OpR.or op_notN op_notBl) (nomark _) sim_isnot ha hb
theorem dt_in (E : Eu X S) (ha : DB X S W a ma) (hb : DB X S W b mb) (hm : behindInMarks .In b = false := by with_unfolding_all rfl) : DT X S W (.Compare a [.In] [b] pos) (mB (mBin gIn ma mb)) := dt_bin (op_inT (.inl ⟨rfl, rfl⟩) E.hK E.un) hm sim_rg2 ha hb
theorem dt_notin (E : Eu X S) (ha : DB X S W a ma) (hb : DB X S W b mb) (hm : behindInMarks .NotIn b = false := by with_unfolding_all rfl) : DT X S W (.Compare a [.NotIn] [b] pos) (mB (mBin gNotIn ma mb)) := dt_bin (op_inT (.inr ⟨rfl, rfl⟩) E.hK E.un) hm sim_rg2 ha hb
/-! ### and, or, not, chains -/
variable {ta tb : Env → M Bool} {rest : List Expr}
def mAnd (a b : Env → M Bool) : Env → M Bool := fun env Q E => a env (fun x => if x = true then b env Q E else Q false) E
def mOr (a b : Env → M Bool) : Env → M Bool := fun env Q E => a env (fun x => if x = true then Q true else b env Q E) E
def mNot (a : Env → M Bool) : Env → M Bool := fun env Q E => a env (fun x => Q (!x)) E
theorem rdt_le {m : Env → M Bool} {w w1 : Wd} {env : Env} {σ : L2.St} {fp : List Addr} {Q' : Bool → Prop} {QE : Exn → Prop} {Q : Bool → Hp → Prop} (ok : Wok S w) (ok1 : Wok S w1) (l : Le w w1) (er : EnvR S w env σ fp) (hm : m env Q' QE) (k : ∀ b w', Wok S w' → Le w w' → Q' b → Q b w'.H) (kx : KontX S w QE W σ) : rdt S W m σ w1.H Q :=
  rdt_use ok1 (er.le ok l) hm (fun b w' o l2 q => k b w' o (l.trans l2) q) (kx.le l)
theorem dw_and1 (h : DT X S W a ta) : DW X S W (.BoolOp .And [a] pos) ta := pw_and1 h
theorem dw_or1 (h : DT X S W a ta) : DW X S W (.BoolOp .Or [a] pos) ta := pw_or1 h
theorem dw_and (h1 : DT X S W a ta) (h2 : DW X S W (.BoolOp .And (b :: rest) pos) tb) : DW X S W (.BoolOp .And (a :: b :: rest) pos) (mAnd ta tb) := PWmono (pw_and h1 h2) fun σ H Q h => by
  obtain ⟨w, env, fp, Q', QE, rfl, ok, er, hm, kt, kx⟩ := h
  refine rdt_use ok er hm (fun c w1 ok1 l1 q => ?_) kx
  cases c with
  | true => exact (if_pos rfl).mpr (rdt_le ok ok1 l1 er ((if_pos rfl).mp q) kt kx)
  | false => exact (if_neg Bool.false_ne_true).mpr (kt false w1 ok1 l1 ((if_neg Bool.false_ne_true).mp q))
theorem dw_or (h1 : DT X S W a ta) (h2 : DW X S W (.BoolOp .Or (b :: rest) pos) tb) : DW X S W (.BoolOp .Or (a :: b :: rest) pos) (mOr ta tb) := PWmono (pw_or h1 h2) fun σ H Q h => by
  obtain ⟨w, env, fp, Q', QE, rfl, ok, er, hm, kt, kx⟩ := h
  refine rdt_use ok er hm (fun c w1 ok1 l1 q => ?_) kx
  cases c with
  | true => exact (if_pos rfl).mpr (kt true w1 ok1 l1 ((if_pos rfl).mp q))
  | false => exact (if_neg Bool.false_ne_true).mpr (rdt_le ok ok1 l1 er ((if_neg Bool.false_ne_true).mp q) kt kx)
theorem dt_w {e : Expr} (h : DW X S W e ta) : DT X S W e ta := PW.pt h
theorem dt_not (h : DT X S W a ta) : DT X S W (.UnaryOp .Not a pos) (mNot ta) := PTmono (pt_not h) fun σ H Q h => by
  obtain ⟨w, env, fp, Q', QE, rfl, ok, er, hm, kt, kx⟩ := h
  exact rdt_use ok er hm (fun c w1 ok1 l1 q => kt (!c) w1 ok1 l1 q) kx
/-- as values: the operands' values are bools -/
def mAndV (a b : Env → M T) : Env → M T := fun env Q E => a env (fun x => ∃ c, x = .bl c ∧ if c = true then b env Q E else Q (.bl false)) E
def mOrV (a b : Env → M T) : Env → M T := fun env Q E => a env (fun x => ∃ c, x = .bl c ∧ if c = true then Q (.bl true) else b env Q E) E
def mNotV (a : Env → M T) : Env → M T := fun env Q E => a env (fun x => ∃ c, x = .bl c ∧ Q (.bl (!c))) E
theorem de_one {op} (h : DE X S W d a ma) : DE X S W d (.BoolOp op [a] pos) ma := pe_one h
theorem rd_le {m : Env → M T} {w w1 : Wd} {env : Env} {σ : L2.St} {fp : List Addr} {Q' : T → Prop} {QE : Exn → Prop} {Q : VK} (ok : Wok S w) (ok1 : Wok S w1) (l : Le w w1) (er : EnvR S w env σ fp) (hm : m env Q' QE) (k : Kont S w d Q' Q) (kx : KontX S w QE W σ) : rd S W d m σ w1.H Q :=
  rd_use ok1 (er.le ok l) hm (k.le l) (kx.le l)
theorem de_and (h1 : DE X S W 0 a ma) (h2 : DE X S W 0 (.BoolOp .And (b :: rest) pos) mb) : DE X S W 0 (.BoolOp .And (a :: b :: rest) pos) (mAndV ma mb) := PEmono (pe_and h1 h2) fun σ H Q h => by
  obtain ⟨w, env, fp, Q', QE, rfl, ok, er, hm, kt, kx⟩ := h
  refine rd_use ok er hm (.z fun r v w1 ok1 l1 rp ⟨c, e, q⟩ => ?_) kx
  subst e
  rw [Rep] at rp
  subst rp
  refine ⟨c, rfl, ?_⟩
  cases c with
  | true => exact (if_pos rfl).mpr (rd_le ok ok1 l1 er ((if_pos rfl).mp q) kt kx)
  | false => exact (if_neg Bool.false_ne_true).mpr (kont_f ok1 rep_bl rfl (kt.le l1) ((if_neg Bool.false_ne_true).mp q))
theorem de_or (h1 : DE X S W 0 a ma) (h2 : DE X S W 0 (.BoolOp .Or (b :: rest) pos) mb) : DE X S W 0 (.BoolOp .Or (a :: b :: rest) pos) (mOrV ma mb) := PEmono (pe_or h1 h2) fun σ H Q h => by
  obtain ⟨w, env, fp, Q', QE, rfl, ok, er, hm, kt, kx⟩ := h
  refine rd_use ok er hm (.z fun r v w1 ok1 l1 rp ⟨c, e, q⟩ => ?_) kx
  subst e
  rw [Rep] at rp
  subst rp
  refine ⟨c, rfl, ?_⟩
  cases c with
  | true => exact (if_pos rfl).mpr (kont_f ok1 rep_bl rfl (kt.le l1) ((if_pos rfl).mp q))
  | false => exact (if_neg Bool.false_ne_true).mpr (rd_le ok ok1 l1 er ((if_neg Bool.false_ne_true).mp q) kt kx)
theorem de_not (h : DE X S W 0 a ma) : DE X S W 0 (.UnaryOp .Not a pos) (mNotV ma) := PEmono (pe_not h) fun σ H Q h => by
  obtain ⟨w, env, fp, Q', QE, rfl, ok, er, hm, kt, kx⟩ := h
  refine rd_use ok er hm (.z fun r v w1 ok1 l1 rp ⟨c, e, q⟩ => ?_) kx
  subst e
  rw [Rep] at rp
  subst rp
  exact ⟨c, rfl, kont_f ok1 rep_bl rfl (kt.le l1) q⟩
/-- a if t else b -/
def mIf (t : Env → M Bool) (a b : Env → M T) : Env → M T := fun env Q E => t env (fun x => if x = true then a env Q E else b env Q E) E
theorem de_if (h : DT X S W c ta) (h1 : DE X S W d a ma) (h2 : DE X S W d b mb) : DE X S W d (.IfExp c a b pos) (mIf ta ma mb) := PEmono (pe_ifExp h h1 h2) fun σ H Q h => by
  obtain ⟨w, env, fp, Q', QE, rfl, ok, er, hm, kt, kx⟩ := h
  refine rdt_use ok er hm (fun c w1 ok1 l1 q => ?_) kx
  cases c with
  | true => exact (if_pos rfl).mpr (rd_le ok ok1 l1 er ((if_pos rfl).mp q) kt kx)
  | false => exact (if_neg Bool.false_ne_true).mpr (rd_le ok ok1 l1 er ((if_neg Bool.false_ne_true).mp q) kt kx)
/-- a op b op' c, both by order -/
def mChain (g g' : T → T → M T) (a b c : Env → M T) : Env → M T := fun env Q E => a env (fun x => b env (fun y => g x y (fun z => ∃ k, z = .bl k ∧ if k = true then c env (fun u => g' y u Q E) E else Q (.bl false)) E) E) E
theorem chain_core {r r' : R2} {g g' : T → T → M T} (sm : Sim2 S 0 g r) (sm' : Sim2 S 0 g' r') {σ : L2.St} {H : Hp} {Q : VK} (h : rd S W 0 (mChain g g' ma mb mc) σ H Q) : tChain r r' (rdb S W ma) (rdb S W mb) (rdb S W mc) σ H Q := by
  obtain ⟨w, env, fp, Q', QE, rfl, ok, er, hm, kt, kx⟩ := h
  refine run2 ok er hm kx fun w2 t u x y ok2 l r1 r2 q => sm w2 t u x y _ QE _ ok2 r1 r2 q (.z fun r v w3 ok3 l3 rp ⟨b, e, q⟩ => ?_)
  subst e
  rw [Rep] at rp
  subst rp
  refine ⟨b, rfl, ?_⟩
  cases b with
  | true =>
    refine (if_pos rfl).mpr (rdb_use ok3 (er.le ok (l.trans l3)) ((if_pos rfl).mp q) (fun t4 x4 w4 ok4 l4 r4 q4 => ?_) (kx.le (l.trans l3)))
    exact sm' w4 u t4 y x4 _ QE _ ok4 (r2.le ok2 (l3.trans l4)) r4 q4 (kt.le ((l.trans l3).trans l4))
  | false => exact (if_neg Bool.false_ne_true).mpr (kont_f ok3 rep_bl rfl (kt.le (l.trans l3)) ((if_neg Bool.false_ne_true).mp q))
theorem de_chain (E : Eu X S) {o1 o2 : CmpOp} (h1 : ordOp o1 = true) (h2 : ordOp o2 = true) (ha : DB X S W a ma) (hb : DB X S W b mb) (hc : DB X S W c mc) (hm : lastMarks [o1, o2] [b, c] = false := by with_unfolding_all rfl) :
    DE X S W 0 (.Compare a [o1, o2] [b, c] pos) (mChain (gRel o1) (gRel o2) ma mb mc) :=
  PEmono (pe_chain (op_rel E.hK E.un h1) (op_rel E.hK E.un h2) ha hb hc hm) fun σ H Q h => chain_core sim_rg2 sim_rg2 h
theorem dt_chain (E : Eu X S) {o1 o2 : CmpOp} (h1 : ordOp o1 = true) (h2 : ordOp o2 = true) (ha : DB X S W a ma) (hb : DB X S W b mb) (hc : DB X S W c mc) (hm : lastMarks [o1, o2] [b, c] = false := by with_unfolding_all rfl) :
    DT X S W (.Compare a [o1, o2] [b, c] pos) (mB (mChain (gRel o1) (gRel o2) ma mb mc)) := PTmono (pt_chain (op_rel E.hK E.un h1) (op_rel E.hK E.un h2) ha hb hc hm) fun σ H Q h => by
  obtain ⟨w, env, fp, Q', QE, rfl, ok, er, hm, kt, kx⟩ := h
  refine chain_core (S := S) (W := W) sim_rg2 sim_rg2 (rd_use ok er hm (.z fun r v w3 ok3 l3 rp ⟨b, e, q⟩ => ?_) kx)
  subst e
  rw [Rep] at rp
  subst rp
  exact ⟨b, rfl, kt b w3 ok3 l3 q⟩
end
end Twl

/-! TL6: displays, subscripts, slices, built-ins. -/
namespace Twl
open PySem PySem.Spec PyProof.Rows L2

def rgN (S : Kx) (d : Nat) (g : List T → M T) : List V → Hp → VK → Prop := fun xs H Q => ∃ w ts Q' QE, w.H = H ∧ Wok S w ∧ RepsB S w ts xs ∧ g ts Q' QE ∧ Kont S w d Q' Q
theorem sim_rgN {S : Kx} {d : Nat} {g : List T → M T} : SimN S d g (rgN S d g) := fun w ts xs Q' QE Q ok r h k => ⟨w, ts, Q', QE, rfl, ok, r, h, k⟩

section
variable {X : Cx} {S : Kx} {W : WX} {k d : Nat} {a b c e : Expr} {ma mb mc : Env → M T} {pos : Pos} {es : List Expr} {mas : Env → M (List T)}
/-! ### displays -/
def mTup (m : Env → M (List T)) : Env → M T := fun env => bnd (m env) fun ts => gd (ts.length ≤ sizeLine) (ret (.tup ts))
def mLst (m : Env → M (List T)) : Env → M T := fun env => bnd (m env) fun ts => gd (ts.length ≤ sizeLine) (ret (.lst ts))
theorem de_tup {x1} (h : DA X S W es mas) : DE X S W d (.Tuple es x1 pos) (mTup mas) := PEmono (pe_tup h) fun σ H Q h => by
  obtain ⟨w, env, fp, Q', QE, rfl, ok, er, hm, kt, kx⟩ := h
  exact rda_use ok er hm (fun ts vs w1 ok1 l1 r1 q => ⟨by rw [r1.length]; exact q.1, kont_tup ok1 r1 (kt.le l1) q.2⟩) kx
theorem de_lst (h : DA X S W es mas) (hd : d ≤ 1 := by decide) : DE X S W d (.List es pos) (mLst mas) := PEmono (pe_lst h) fun σ H Q h => by
  obtain ⟨w, env, fp, Q', QE, rfl, ok, er, hm, kt, kx⟩ := h
  exact rda_use ok er hm (fun ts vs w1 ok1 l1 r1 q => ⟨by rw [r1.length]; exact q.1, kont_lst ok1 r1 hd (kt.le l1) q.2⟩) kx
theorem de_dk0 : DE X S W d (.Dict [] [] pos) (mCon (.dk [] [])) := PEmono pe_dnewK fun σ H Q h => by
  obtain ⟨w, env, fp, Q', QE, rfl, ok, er, hm, kt, kx⟩ := h
  intro p hn
  cases d with
  | zero => exact kt _ _ (w.add p (.dK [])) [] (add_ok ok hn trivial) (add_le hn) (.zero (by rw [Rep]; exact ⟨p, [], rfl, .inr rfl, upd_same, rfl, .nil⟩)) .nil hm
  | succ d => exact kt _ _ (w.own p (.dK [])) [p] (own_ok ok hn) (own_le hn) (by rw [RepO]; exact ⟨p, [], rfl, upd_same, rfl, rfl, .nil⟩) (own_fresh hn ok trivial) hm
theorem de_dt0 : DE X S W d (.Dict [] [] pos) (mCon (.dt [] [])) := PEmono pe_dnewT fun σ H Q h => by
  obtain ⟨w, env, fp, Q', QE, rfl, ok, er, hm, kt, kx⟩ := h
  intro p hn
  cases d with
  | zero => exact kt _ _ (w.add p (.dT [])) [] (add_ok ok hn trivial) (add_le hn) (.zero (by rw [Rep]; exact ⟨p, [], rfl, .inr rfl, upd_same, rfl, .nil⟩)) .nil hm
  | succ d => exact kt _ _ (w.own p (.dT [])) [p] (own_ok ok hn) (own_le hn) (by rw [RepO]; exact ⟨p, [], rfl, upd_same, rfl, rfl, .nil⟩) (own_fresh hn ok trivial) hm
/-! ### subscripts -/
def gIx : T → T → M T := fun t u => match t, u with
  | .lst ts, .int i => ofO (atI ts i) ret
  | .tup ts, .int i => ofO (atI ts i) ret
  | .str z, .int i => gd (z.length ≤ sizeLine) (ofO (atI z.cps.toList i) fun c => ret (.str ⟨#[c]⟩))
  | _, _ => stuck
theorem ixN_len {i : Int} {n j : Nat} (h : ixN n i = some j) : j < n := (ixN_seq h).2.1
theorem atI_rep {w : Wd} {ts : List T} {vs : List V} {i : Int} {t : T} (r : Reps S w ts vs) (h : atI ts i = some t) : ∃ v, atI vs i = some v ∧ Rep S w t v := by
  unfold atI at h ⊢
  obtain ⟨j, h1, h2⟩ := Option.bind_eq_some_iff.mp h
  obtain ⟨v, e, rp⟩ := r.get h2
  exact ⟨v, by rw [r.length, h1]; exact e, rp⟩
theorem sim_ix : Sim2 S 0 gIx (rIx S.K) := by
  intro w t u x y Q' QE Q ok r1 r2 g k
  unfold gIx at g
  split at g
  · obtain ⟨p, vs, rfl, h0, h1, h2⟩ := r1.lst_inv
    obtain rfl := r2.int_inv
    obtain ⟨t, e, q⟩ := ofO_inv g
    obtain ⟨v, e2, rp⟩ := atI_rep h2 e
    exact .inl ⟨p, vs, _, v, rfl, rfl, .inl (.inl h1), e2, kont_0 ok rp (.inl rfl) k q⟩
  · obtain ⟨p, vs, rfl, h1, h2⟩ := r1.tup_inv
    obtain rfl := r2.int_inv
    obtain ⟨t, e, q⟩ := ofO_inv g
    obtain ⟨v, e2, rp⟩ := atI_rep h2 e
    exact .inr (.inl ⟨p, vs, _, v, rfl, rfl, h1.sq, e2, kont_0 ok rp (.inl rfl) k q⟩)
  · obtain rfl := r1.str_inv
    obtain rfl := r2.int_inv
    obtain ⟨c, e, q⟩ := ofO_inv g.2
    exact .inr (.inr ⟨_, _, c, rfl, rfl, g.1, e, kont_f ok rep_str rfl k q⟩)
  · exact g.elim
theorem de_ix (E : Eu X S) (ha : DB X S W a ma) (hb : DB X S W b mb) (hs : PlainIx b := by intro _ _; rfl) : DE X S W 0 (.Subscript a b pos) (mBin gIx ma mb) := by
  have h : IxR X (rIx S.K) := by rw [← E.hK]; exact ix_seq
  refine PEmono (pe_ix h ha hb hs) fun σ H Q h => ?_
  obtain ⟨w, env, fp, Q', QE, rfl, ok, er, hm, kt, kx⟩ := h
  exact run2 ok er hm kx fun w2 t u x y ok2 l r1 r2 q => sim_ix w2 t u x y Q' QE Q ok2 r1 r2 q (kt.le l)
/-! ### slices -/
def mNoPart : Env → M (Option Int) := fun _ => ret none
def mPart (m : Env → M T) : Env → M (Option Int) := fun env Q E => m env (fun t => ∃ i, t = .int i ∧ Q (some i)) E
def rdo (S : Kx) (W : WX) (m : Env → M (Option Int)) : TO := fun σ H Q => ∃ w env fp Q' QE, w.H = H ∧ Wok S w ∧ EnvR S w env σ fp ∧ m env Q' QE ∧ (∀ o w', Wok S w' → Le w w' → Q' o → Q o w'.H) ∧ KontX S w QE W σ
def DO (X : Cx) (S : Kx) (W : WX) (e : Option Expr) (m : Env → M (Option Int)) : Prop := PO X e (rdo S W m)
theorem POmono {X : Cx} {e : Option Expr} {t t' : TO} (h : PO X e t) (k : ∀ σ H Q, t' σ H Q → t σ H Q) : PO X e t' := ⟨fun pins s σ H Q I q => h.run pins s σ H Q I (k σ H Q q)⟩
theorem do_none : DO X S W none mNoPart := POmono po_none fun σ H Q h => by
  obtain ⟨w, env, fp, Q', QE, rfl, ok, er, hm, kt, kx⟩ := h
  exact kt none w ok (.refl w) hm
theorem do_some (h : DE X S W 0 a ma) : DO X S W (some a) (mPart ma) := POmono (po_some h) fun σ H Q h => by
  obtain ⟨w, env, fp, Q', QE, rfl, ok, er, hm, kt, kx⟩ := h
  refine rd_use ok er hm (.z fun r v w1 ok1 l1 rp ⟨i, e, q⟩ => ?_) kx
  subst e
  rw [Rep] at rp
  subst rp
  exact ⟨i, rfl, kt (some i) w1 ok1 l1 q⟩
def cutL {α : Type} (xs : List α) (lo hi : Option Int) : List α := (xs.drop (HT.sIx xs.length 0 lo)).take (HT.sIx xs.length xs.length hi - HT.sIx xs.length 0 lo)
theorem cutL_rep {w : Wd} {ts : List T} {vs : List V} (r : Reps S w ts vs) (lo hi : Option Int) : Reps S w (cutL ts lo hi) (cutV vs lo hi) := by
  unfold cutL cutV
  rw [r.length]
  exact (r.drop _).take _
theorem cutL_whole {ts : List T} {lo hi : Option Int} (h : HT.sIx ts.length 0 lo = 0 ∧ HT.sIx ts.length ts.length hi = ts.length) : cutL ts lo hi = ts := by
  unfold cutL
  rw [h.1, h.2]
  simp
def gSl (t : T) (lo hi : Option Int) : M T := match t with
  | .lst ts => ret (.lst (cutL ts lo hi))
  | .tup ts => ret (.tup (cutL ts lo hi))
  | .str z => gd (z.length ≤ sizeLine) (ret (.str (cutS z lo hi)))
  | _ => stuck
def mSl (m : Env → M T) (lo hi : Env → M (Option Int)) : Env → M T := fun env => bnd (m env) fun t => bnd (lo env) fun l => bnd (hi env) fun h => gSl t l h
def rSlAll (K : PySem.W.Frag) : V → Option Int → Option Int → Hp → VK → Prop := fun x lo hi H Q => rSlL K x lo hi H Q ∨ rSlA K x lo hi H Q ∨ rSlS x lo hi H Q
theorem de_sl (E : Eu X S) {lo hi : Option Expr} {ml mh : Env → M (Option Int)} {p2 : Pos} (ha : DB X S W a ma) (hl : DO X S W lo ml) (hh : DO X S W hi mh) (hd : d ≤ 1 := by decide) : DE X S W d (.Subscript a (.Slice lo hi none p2) pos) (mSl ma ml mh) := by
  have h : SlR X (rSlAll S.K) := by rw [← E.hK]; exact SlR.or sl_list (SlR.or sl_tupA sl_str)
  refine PEmono (pe_slice h ha hl hh) fun σ H Q h => ?_
  obtain ⟨w, env, fp, Q', QE, rfl, ok, er, hm, kt, kx⟩ := h
  refine rdb_use ok er hm (fun t x w1 ok1 l1 r1 q1 => ?_) kx
  refine ⟨w1, env, fp, _, QE, rfl, ok1, er.le ok l1, q1, fun l w2 ok2 l2 q2 => ?_, kx.le l1⟩
  refine ⟨w2, env, fp, _, QE, rfl, ok2, er.le ok (l1.trans l2), q2, fun h w3 ok3 l3 q3 => ?_, kx.le (l1.trans l2)⟩
  have r3 := r1.le ok1 (l2.trans l3)
  have kt3 := kt.le (l1.trans (l2.trans l3))
  unfold gSl at q3
  split at q3
  · obtain ⟨p, vs, rfl, h0, h1, h2⟩ := r3.lst_inv
    exact .inl ⟨p, vs, rfl, .inl (.inl h1), kont_lst ok3 (cutL_rep h2 l h) hd kt3 q3⟩
  · obtain ⟨p, vs, rfl, h1, h2⟩ := r3.tup_inv
    refine .inr (.inl ⟨p, vs, rfl, h1.sq, fun e => ?_, fun e => kont_tup ok3 (cutL_rep h2 l h) kt3 q3⟩)
    rw [h2.length] at e
    have q' : Q' _ := q3
    rw [cutL_whole e] at q'
    exact kont_0 ok3 (rep_at h1 h2) nob_tup kt3 q'
  · obtain rfl := r3.str_inv
    exact .inr (.inr ⟨_, rfl, q3.1, kont_f ok3 rep_str rfl kt3 q3.2⟩)
  · exact q3.elim
/-! ### built-ins by name -/
def mCall (g : List T → M T) (m : Env → M (List T)) : Env → M T := fun env => bnd (m env) g
theorem de_callB {id : String} {x : Str} {r : List V → Hp → VK → Prop} {g : List T → M T} {p : Pos} (E : Eu X S) (hc : CallR X (.builtin id) r) (sm : SimN S d g r) (hm : S.mg x = none) (hv : bootBuiltins x = some (.builtin id)) (ha : DAB X S W (e :: es) mas) (hg : Gl X x := by rfl) (hn : x ≠ "__name__" := by decide) (hdb : (x == ("__debug__" : Str)) = false := by decide)
    (he : starEach (e :: es) X.env = (false, eval e X.env) :: starEach es X.env := by first | exact star_c rfl | rfl) (hpl : (backTo pos (starEach es X.env)).any (·.1) = false := by first | exact star_any rfl | rfl) : DE X S W d (.Call (.Name x p) (e :: es) [] pos) (mCall g mas) := by
  refine PEmono (pe_callB hc hg (by rw [E.hmg]; exact hm) hv ha hn hdb he hpl) fun σ H Q h => ?_
  obtain ⟨w, env, fp, Q', QE, rfl, ok, er, hm, kt, kx⟩ := h
  exact rdab_use ok er hm (fun ts xs w1 ok1 l1 r1 q1 => sm w1 ts xs Q' QE Q ok1 r1 q1 (kt.le l1)) kx
theorem de_callT {id : String} {x : Str} {r : List V → Hp → VK → Prop} {g : List T → M T} {p : Pos} (E : Eu X S) (hc : CallR X (.type id) r) (sm : SimN S d g r) (hm : S.mg x = none) (hv : bootBuiltins x = some (.type id)) (ha : DAB X S W (e :: es) mas) (hg : Gl X x := by rfl) (hn : x ≠ "__name__" := by decide) (hdb : (x == ("__debug__" : Str)) = false := by decide)
    (he : starEach (e :: es) X.env = (false, eval e X.env) :: starEach es X.env := by first | exact star_c rfl | rfl) (hpl : (backTo pos (starEach es X.env)).any (·.1) = false := by first | exact star_any rfl | rfl) : DE X S W d (.Call (.Name x p) (e :: es) [] pos) (mCall g mas) := by
  refine PEmono (pe_callTy hc hg (by rw [E.hmg]; exact hm) hv ha hn hdb he hpl) fun σ H Q h => ?_
  obtain ⟨w, env, fp, Q', QE, rfl, ok, er, hm, kt, kx⟩ := h
  exact rdab_use ok er hm (fun ts xs w1 ok1 l1 r1 q1 => sm w1 ts xs Q' QE Q ok1 r1 q1 (kt.le l1)) kx
def g1 (g : T → M T) : List T → M T := fun ts => match ts with
  | [t] => g t
  | _ => stuck
def g2 (g : T → T → M T) : List T → M T := fun ts => match ts with
  | [t, u] => g t u
  | _ => stuck
theorem sim_1 {g : T → M T} {r : List V → Hp → VK → Prop} (h : ∀ (w : Wd) (t : T) (x : V) (Q' : T → Prop) (QE : Exn → Prop) (Q : VK), Wok S w → RepB S w t x → g t Q' QE → Kont S w d Q' Q → r [x] w.H Q) : SimN S d (g1 g) r := by
  intro w ts xs Q' QE Q ok rs hg k
  unfold g1 at hg
  split at hg
  · obtain ⟨x, xs', rfl, r1, rfl⟩ := rs
    exact h w _ x Q' QE Q ok r1 hg k
  · exact hg.elim
theorem sim_2 {g : T → T → M T} {r : List V → Hp → VK → Prop} (h : ∀ (w : Wd) (t u : T) (x y : V) (Q' : T → Prop) (QE : Exn → Prop) (Q : VK), Wok S w → RepB S w t x → RepB S w u y → g t u Q' QE → Kont S w d Q' Q → r [x, y] w.H Q) : SimN S d (g2 g) r := by
  intro w ts xs Q' QE Q ok rs hg k
  unfold g2 at hg
  split at hg
  · obtain ⟨x, xs', rfl, r1, y, ys, rfl, r2, rfl⟩ := rs
    exact h w _ _ x y Q' QE Q ok r1 r2 hg k
  · exact hg.elim
/-- len -/
def T.len : T → Option Nat
  | .str z => if z.length ≤ sizeLine then some z.length else none
  | .lst ts => some ts.length
  | .tup ts => some ts.length
  | .dk ks ts => some (ks.zip ts).length
  | .dt ks ts => some (ks.zip ts).length
  | _ => none
def gLen : T → M T := fun t => ofO t.len fun n => ret (.int n)
def rLenAll (K : PySem.W.Frag) : List V → Hp → VK → Prop := fun xs H Q => (∃ x n, xs = [x] ∧ LenV K x H n ∧ Q (.int n) H) ∨ (∃ d kvs, xs = [V.ref d] ∧ Rd H d (.dK kvs) ∧ Q (.int kvs.length) H) ∨ rLenT xs H Q
theorem CallR.or {X : Cx} {f : Value} {r r' : List V → Hp → VK → Prop} (h : CallR X f r) (h' : CallR X f r') : CallR X f (fun xs H Q => r xs H Q ∨ r' xs H Q) := fun pins s σ H xs us Q I rv q => q.elim (h pins s σ H xs us Q I rv) (h' pins s σ H xs us Q I rv)
theorem call_len_dK {X : Cx} : CallR X (.builtin "len") (fun xs H Q => ∃ d kvs, xs = [V.ref d] ∧ Rd H d (.dK kvs) ∧ Q (.int kvs.length) H) := by
  intro pins s σ H xs us Q I rv h
  obtain ⟨d, kvs, rfl, hr, q⟩ := h
  have e := rv.ref1
  subst e
  exact d_len I hr fun t s' I' => ⟨.int kvs.length, H, I', ⟨t, rfl⟩, q⟩
theorem sim_len : SimN S d (g1 gLen) (rLenAll S.K) := sim_1 fun w t x Q' QE Q ok r hg k => by
  obtain ⟨n, e, q⟩ := ofO_inv hg
  cases t with
  | str z =>
    obtain rfl := r.str_inv
    simp only [T.len] at e
    split at e
    · rename_i h
      have := Option.some.inj e
      subst this
      exact .inl ⟨_, _, rfl, ⟨h, rfl⟩, kont_f ok rep_int rfl k q⟩
    · cases e
  | lst ts =>
    obtain ⟨p, vs, rfl, h0, h1, h2⟩ := r.lst_inv
    have := Option.some.inj e
    subst this
    exact .inl ⟨_, _, rfl, .inl ⟨vs, .inl (.inl h1), h2.length.symm⟩, kont_f ok rep_int rfl k q⟩
  | tup ts =>
    obtain ⟨p, vs, rfl, h1, h2⟩ := r.tup_inv
    have := Option.some.inj e
    subst this
    exact .inl ⟨_, _, rfl, .inr ⟨vs, h1.sq, h2.length.symm⟩, kont_f ok rep_int rfl k q⟩
  | dk ks ts =>
    obtain ⟨p, vs, rfl, h0, h1, h2, h3⟩ := r
    have := Option.some.inj e
    subst this
    have el : (ks.zip ts).length = (ks.zip vs).length := by rw [List.length_zip, List.length_zip, h3.length]
    refine .inr (.inl ⟨p, _, rfl, .inl h1, ?_⟩)
    rw [el] at q
    exact kont_f ok rep_int rfl k q
  | dt ks ts =>
    obtain ⟨p, vs, rfl, h0, h1, h2, h3⟩ := r
    have := Option.some.inj e
    subst this
    have el : (ks.zip ts).length = (ks.zip vs).length := by rw [List.length_zip, List.length_zip, h3.length]
    refine .inr (.inr ⟨p, _, rfl, h1, ?_⟩)
    rw [el] at q
    exact kont_f ok rep_int rfl k q
  | _ => cases e
theorem de_len (E : Eu X S) {p : Pos} (hm : S.mg "len" = none) (ha : DAB X S W [e] mas) (hg : Gl X "len" := by rfl) (he : starEach (e :: []) X.env = (false, eval e X.env) :: starEach [] X.env := by first | exact star_c rfl | rfl) (hpl : (backTo pos (starEach [] X.env)).any (·.1) = false := by first | exact star_any rfl | rfl) :
    DE X S W d (.Call (.Name "len" p) [e] [] pos) (mCall (g1 gLen) mas) := by
  have h : CallR X (.builtin "len") (rLenAll S.K) := by rw [← E.hK]; exact CallR.or call_len (CallR.or call_len_dK call_len_dT)
  exact de_callB E h sim_len hm PySem.boot_len ha hg (by decide) (by decide) he hpl
end
end Twl

/-! TL7: more built-ins: tuple, list, abs, int, min, max of two, isinstance, all, any, sum. -/
namespace Twl
open PySem PySem.Spec PyProof.Rows L2
section
variable {X : Cx} {S : Kx} {W : WX} {k d : Nat} {a b c e e2 : Expr} {ma mb mc : Env → M T} {p pos : Pos} {es : List Expr} {mas : Env → M (List T)}
/-- tuple(x) -/
def gTuple : T → M T := fun t => match t with
  | .lst ts => ret (.tup ts)
  | .tup ts => ret (.tup ts)
  | _ => stuck
theorem sim_tuple : SimN S d (g1 gTuple) (fun xs H Q => ∃ p ys, xs = [.ref p] ∧ ((SqL S.K H p ys ∧ ∀ l, H l = none → Q (.ref l) (upd H l (.tup ys))) ∨ (SqT S.K H p ys ∧ Q (.ref p) H))) := sim_1 fun w t x Q' QE Q ok r hg k => by
  unfold gTuple at hg
  split at hg
  · obtain ⟨p, vs, rfl, h0, h1, h2⟩ := r.lst_inv
    exact ⟨p, vs, rfl, .inl ⟨.inl (.inl h1), kont_tup ok h2 k hg⟩⟩
  · obtain ⟨p, vs, rfl, h1, h2⟩ := r.tup_inv
    exact ⟨p, vs, rfl, .inr ⟨h1.sq, kont_0 ok (rep_at h1 h2) nob_tup k hg⟩⟩
  · exact hg.elim
theorem de_tuple (E : Eu X S) (hm : S.mg "tuple" = none) (ha : DAB X S W [e] mas) (hg : Gl X "tuple" := by rfl) (he : starEach (e :: []) X.env = (false, eval e X.env) :: starEach [] X.env := by first | exact star_c rfl | rfl) (hpl : (backTo pos (starEach [] X.env)).any (·.1) = false := by first | exact star_any rfl | rfl) :
    DE X S W d (.Call (.Name "tuple" p) [e] [] pos) (mCall (g1 gTuple) mas) := by
  have h : CallR X (.type "tuple") (fun xs H Q => ∃ p ys, xs = [.ref p] ∧ ((SqL S.K H p ys ∧ ∀ l, H l = none → Q (.ref l) (upd H l (.tup ys))) ∨ (SqT S.K H p ys ∧ Q (.ref p) H))) := by rw [← E.hK]; exact call_tuple_of
  exact de_callT E h sim_tuple hm PyProof.Rows.boot_tuple ha hg (by decide) (by decide) he hpl
/-- list(x) -/
def gList : T → M T := fun t => match t with
  | .lst ts => ret (.lst ts)
  | .tup ts => ret (.lst ts)
  | _ => stuck
theorem sim_list (hd : d ≤ 1) : SimN S d (g1 gList) (fun xs H Q => ∃ p ys, xs = [.ref p] ∧ (SqL S.K H p ys ∨ SqT S.K H p ys) ∧ ∀ l, H l = none → Q (.ref l) (upd H l (.lst ys))) := sim_1 fun w t x Q' QE Q ok r hg k => by
  unfold gList at hg
  split at hg
  · obtain ⟨p, vs, rfl, h0, h1, h2⟩ := r.lst_inv
    exact ⟨p, vs, rfl, .inl (.inl (.inl h1)), kont_lst ok h2 hd k hg⟩
  · obtain ⟨p, vs, rfl, h1, h2⟩ := r.tup_inv
    exact ⟨p, vs, rfl, .inr h1.sq, kont_lst ok h2 hd k hg⟩
  · exact hg.elim
theorem de_list (E : Eu X S) (hm : S.mg "list" = none) (ha : DAB X S W [e] mas) (hd : d ≤ 1 := by decide) (hg : Gl X "list" := by rfl) (he : starEach (e :: []) X.env = (false, eval e X.env) :: starEach [] X.env := by first | exact star_c rfl | rfl) (hpl : (backTo pos (starEach [] X.env)).any (·.1) = false := by first | exact star_any rfl | rfl) :
    DE X S W d (.Call (.Name "list" p) [e] [] pos) (mCall (g1 gList) mas) := by
  have h : CallR X (.type "list") (fun xs H Q => ∃ p ys, xs = [.ref p] ∧ (SqL S.K H p ys ∨ SqT S.K H p ys) ∧ ∀ l, H l = none → Q (.ref l) (upd H l (.lst ys))) := by rw [← E.hK]; exact call_list_of
  exact de_callT E h (sim_list hd) hm PyProof.Rows.boot_list ha hg (by decide) (by decide) he hpl
/-- list(range(b)), list(range(a, b)) -/
def rgT (a b : Int) : List T := (List.range (b - a).toNat).map fun i => T.int (a + (i : Nat))
theorem rgT_rep {w : Wd} (a b : Int) : Reps S w (rgT a b) (rgV a b) := by
  unfold rgT rgV
  generalize List.range (b - a).toNat = l
  induction l with
  | nil => exact .nil
  | cons x l ih => exact .cons rep_int ih
def gListR1 : T → M T := fun t => match t with
  | .int b => gd (RgOk 0 b) (ret (.lst (rgT 0 b)))
  | _ => stuck
def gListR2 : T → T → M T := fun t u => match t, u with
  | .int a, .int b => gd (RgOk a b) (ret (.lst (rgT a b)))
  | _, _ => stuck
abbrev mListR1 (m : Env → M T) : Env → M T := mUn gListR1 m
abbrev mListR2 (m m2 : Env → M T) : Env → M T := mBin gListR2 m m2
theorem de_listR1 (E : Ex X S W k) {p2 pos2 : Pos} (hm : S.mg "list" = none) (hm2 : S.mg "range" = none) (ha : DE X S W 0 a ma) (hd : d ≤ 1 := by decide) (hg : Gl X "list" := by rfl) (hg2 : Gl X "range" := by rfl) (na : starEach [a] X.env = (false, eval a X.env) :: starEach [] X.env := by rfl)
    (nb : starEach [(Expr.Call (.Name "range" p2) [a] [] pos2)] X.env = (false, eval (Expr.Call (.Name "range" p2) [a] [] pos2) X.env) :: starEach [] X.env := by rfl) :
    DE X S W d (.Call (.Name "list" p) [.Call (.Name "range" p2) [a] [] pos2] [] pos) (mListR1 ma) := by
  refine PEmono (pe_listRg E.calm hg (by rw [E.hmg]; exact hm) (prg_1 hg2 (by rw [E.hmg]; exact hm2) ha na) nb) fun σ H Q h => ?_
  obtain ⟨w, env, fp, Q', QE, rfl, ok, er, hm, kt, kx⟩ := h
  refine rd_use ok er hm (.z fun r v w1 ok1 l1 rp q => ?_) kx
  unfold gListR1 at q
  split at q
  · rw [Rep] at rp
    subst rp
    exact ⟨_, rfl, q.1, kont_lst ok1 (rgT_rep _ _) hd (kt.le l1) q.2⟩
  · exact q.elim
theorem de_listR2 (E : Ex X S W k) {p2 pos2 : Pos} (hm : S.mg "list" = none) (hm2 : S.mg "range" = none) (ha : DE X S W 0 a ma) (hb : DE X S W 0 b mb) (hd : d ≤ 1 := by decide) (hg : Gl X "list" := by rfl) (hg2 : Gl X "range" := by rfl) (na : starEach [a, b] X.env = (false, eval a X.env) :: starEach [b] X.env := by rfl)
    (na2 : starEach [b] X.env = (false, eval b X.env) :: starEach [] X.env := by rfl) (hp : (backTo pos2 (starEach [b] X.env)).any (·.1) = false := by rfl)
    (nb : starEach [(Expr.Call (.Name "range" p2) [a, b] [] pos2)] X.env = (false, eval (Expr.Call (.Name "range" p2) [a, b] [] pos2) X.env) :: starEach [] X.env := by rfl) :
    DE X S W d (.Call (.Name "list" p) [.Call (.Name "range" p2) [a, b] [] pos2] [] pos) (mListR2 ma mb) := by
  refine PEmono (pe_listRg E.calm hg (by rw [E.hmg]; exact hm) (prg_2 hg2 (by rw [E.hmg]; exact hm2) ha hb na na2 hp) nb) fun σ H Q h => ?_
  obtain ⟨w, env, fp, Q', QE, rfl, ok, er, hm, kt, kx⟩ := h
  refine rd_use ok er hm (.z fun r v w1 ok1 l1 rp q => ?_) kx
  refine rd_use ok1 (er.le ok l1) q (.z fun r2 v2 w2 ok2 l2 rp2 q2 => ?_) (kx.le l1)
  change gListR2 r r2 Q' QE at q2
  unfold gListR2 at q2
  split at q2
  · rw [Rep] at rp rp2
    subst rp
    subst rp2
    exact ⟨_, _, rfl, rfl, q2.1, kont_lst ok2 (rgT_rep _ _) hd (kt.le (l1.trans l2)) q2.2⟩
  · exact q2.elim
/-- abs, int -/
def gAbs : T → M T := fun t => match t with
  | .int i => ret (.int (if i < 0 then -i else i))
  | _ => stuck
theorem de_abs (E : Eu X S) (hm : S.mg "abs" = none) (ha : DAB X S W [e] mas) (hv : bootBuiltins "abs" = some (.builtin "abs") := by decide +kernel) (hg : Gl X "abs" := by rfl) (he : starEach (e :: []) X.env = (false, eval e X.env) :: starEach [] X.env := by first | exact star_c rfl | rfl) (hpl : (backTo pos (starEach [] X.env)).any (·.1) = false := by first | exact star_any rfl | rfl) :
    DE X S W d (.Call (.Name "abs" p) [e] [] pos) (mCall (g1 gAbs) mas) :=
  de_callB E call_abs (sim_1 fun w t x Q' QE Q ok r hg k => by
    unfold gAbs at hg
    split at hg
    · obtain rfl := r.int_inv
      exact ⟨_, rfl, kont_f ok rep_int rfl k hg⟩
    · exact hg.elim) hm hv ha hg (by decide) (by decide) he hpl
def gInt : T → M T := fun t => match t with
  | .int i => ret (.int i)
  | .bl k => ret (.int (if k then 1 else 0))
  | _ => stuck
theorem de_toint (E : Eu X S) (hm : S.mg "int" = none) (ha : DAB X S W [e] mas) (hv : bootBuiltins "int" = some (.type "int") := by decide +kernel) (hg : Gl X "int" := by rfl) (he : starEach (e :: []) X.env = (false, eval e X.env) :: starEach [] X.env := by first | exact star_c rfl | rfl) (hpl : (backTo pos (starEach [] X.env)).any (·.1) = false := by first | exact star_any rfl | rfl) :
    DE X S W d (.Call (.Name "int" p) [e] [] pos) (mCall (g1 gInt) mas) :=
  de_callT E call_int1 (sim_1 fun w t x Q' QE Q ok r hg k => by
    unfold gInt at hg
    split at hg
    · obtain rfl := r.int_inv
      exact .inl ⟨_, rfl, kont_f ok rep_int rfl k hg⟩
    · obtain rfl := r.bl_inv
      exact .inr ⟨_, rfl, kont_f ok rep_int rfl k hg⟩
    · exact hg.elim) hm hv ha hg (by decide) (by decide) he hpl
def gMax2 : T → T → M T := fun t u => match t, u with
  | .int i, .int j => ret (.int (if j > i then j else i))
  | _, _ => stuck
def gMin2 : T → T → M T := fun t u => match t, u with
  | .int i, .int j => ret (.int (if j < i then j else i))
  | _, _ => stuck
theorem de_max2 (E : Ex X S W k) (hm : S.mg "max" = none) (ha : DAB X S W [e, e2] mas) (hv : bootBuiltins "max" = some (.builtin "max") := by decide +kernel) (hg : Gl X "max" := by rfl) (he : starEach (e :: [e2]) X.env = (false, eval e X.env) :: starEach [e2] X.env := by first | exact star_c rfl | rfl) (hpl : (backTo pos (starEach [e2] X.env)).any (·.1) = false := by first | exact star_any rfl | rfl) :
    DE X S W d (.Call (.Name "max" p) [e, e2] [] pos) (mCall (g2 gMax2) mas) :=
  de_callB E.toEu (call_max2 E.calm) (sim_2 fun w t u x y Q' QE Q ok r r2 hg k => by
    unfold gMax2 at hg
    split at hg
    · obtain rfl := r.int_inv
      obtain rfl := r2.int_inv
      exact ⟨_, _, rfl, kont_f ok rep_int rfl k hg⟩
    · exact hg.elim) hm hv ha hg (by decide) (by decide) he hpl
theorem de_min2 (E : Ex X S W k) (hm : S.mg "min" = none) (ha : DAB X S W [e, e2] mas) (hv : bootBuiltins "min" = some (.builtin "min") := by decide +kernel) (hg : Gl X "min" := by rfl) (he : starEach (e :: [e2]) X.env = (false, eval e X.env) :: starEach [e2] X.env := by first | exact star_c rfl | rfl) (hpl : (backTo pos (starEach [e2] X.env)).any (·.1) = false := by first | exact star_any rfl | rfl) :
    DE X S W d (.Call (.Name "min" p) [e, e2] [] pos) (mCall (g2 gMin2) mas) :=
  de_callB E.toEu (call_min2 E.calm) (sim_2 fun w t u x y Q' QE Q ok r r2 hg k => by
    unfold gMin2 at hg
    split at hg
    · obtain rfl := r.int_inv
      obtain rfl := r2.int_inv
      exact ⟨_, _, rfl, kont_f ok rep_int rfl k hg⟩
    · exact hg.elim) hm hv ha hg (by decide) (by decide) he hpl
/-- isinstance(x, T), T a built-in type -/
def T.tyn : T → Option String
  | .non => some "NoneType"
  | .bl _ => some "bool"
  | .int _ => some "int"
  | .str _ => some "str"
  | .tup _ => some "tuple"
  | .lst _ => some "list"
  | .dk _ _ => some "dict"
  | .dt _ _ => some "dict"
  | _ => none
theorem tyn_rep {w : Wd} {t : T} {v : V} {n : String} (r : RepB S w t v) (h : t.tyn = some n) : TyX S.K w.H v (.type n) := by
  cases t with
  | non => obtain rfl := r.non_inv; cases h; exact .base .non
  | bl _ => obtain rfl := r.bl_inv; cases h; exact .base (.bl _)
  | int _ => obtain rfl := r.int_inv; cases h; exact .base (.int _)
  | str _ => obtain rfl := r.str_inv; cases h; exact .base (.str _)
  | tup ts =>
    obtain ⟨p, vs, rfl, h1, h2⟩ := r.tup_inv
    cases h
    rcases h1 with ⟨_, h1⟩ | ⟨o, its, n, q1, q2, _⟩
    · exact .base (.tup h1)
    · exact .kTuple q1 q2
  | lst ts => obtain ⟨p, vs, rfl, h0, h1, h2⟩ := r.lst_inv; cases h; exact .base (.lst h1)
  | dk ks ts => obtain ⟨p, vs, rfl, h0, h1, h2⟩ := r; cases h; exact .base (.dK h1)
  | dt ks ts => obtain ⟨p, vs, rfl, h0, h1, h2⟩ := r; cases h; exact .base (.dT h1)
  | _ => cases h
def gIsi : T → T → M T := fun t u => match u with
  | .ty n => ofO t.tyn fun m => ofO (kitB m n) fun b => ret (.bl b)
  | _ => stuck
theorem sim_isi : SimN S d (g2 gIsi) (rIsi S.K) := sim_2 fun w t u x y Q' QE Q ok r r2 hg k => by
  unfold gIsi at hg
  split at hg
  · have r2' : Rep S w (.ty _) y := r2
    rw [Rep] at r2'
    subst r2'
    obtain ⟨m, e, hg⟩ := ofO_inv hg
    obtain ⟨b, e2, hg⟩ := ofO_inv hg
    exact ⟨x, _, .type m, .type _, b, rfl, .ty _, tyn_rep r e, kit_ty e2, kont_f ok rep_bl rfl k hg⟩
  · exact hg.elim
theorem de_isi (E : Eu X S) (hm : S.mg "isinstance" = none) (ha : DAB X S W [e, e2] mas) (hv : bootBuiltins "isinstance" = some (.builtin "isinstance") := by decide +kernel) (hg : Gl X "isinstance" := by rfl) (he : starEach (e :: [e2]) X.env = (false, eval e X.env) :: starEach [e2] X.env := by first | exact star_c rfl | rfl) (hpl : (backTo pos (starEach [e2] X.env)).any (·.1) = false := by first | exact star_any rfl | rfl) :
    DE X S W d (.Call (.Name "isinstance" p) [e, e2] [] pos) (mCall (g2 gIsi) mas) := by
  have h : CallR X (.builtin "isinstance") (rIsi S.K) := by rw [← E.hK]; exact call_isi
  exact de_callB E h sim_isi hm hv ha hg (by decide) (by decide) he hpl
/-- a built-in type as a value -/
theorem de_ty (n : String) {x : Str} (E : Eu X S) (hm : S.mg x = none) (hg : Gl X x := by rfl) (hv : bootBuiltins x = some (.type n) := by decide +kernel) (hn : x ≠ "__name__" := by decide) (hd : (x == ("__debug__" : Str)) = false := by decide) : DE X S W 0 (.Name x pos) (mCon (.ty n)) :=
  PEmono (pe_bltn (v := .ty n) hg (by rw [E.hmg]; exact hm) hv rfl hn hd) fun σ H Q h => by
    obtain ⟨w, env, fp, Q', QE, rfl, ok, er, hm, kt, kx⟩ := h
    exact kont_0 ok (by rw [Rep]) (.inl rfl) kt hm
/-- a module's int, text -/
theorem de_gint {x : Str} {i : Int} (E : Eu X S) (hm : ∃ t, S.mg x = some (.int i t)) (hg : Gl X x := by rfl) (hd : (x == ("__debug__" : Str)) = false := by decide) : DE X S W d (.Name x pos) (mCon (.int i)) := by
  obtain ⟨t, hm⟩ := hm
  exact PEmono (pe_glob (v := .int i) hg (by rw [E.hmg]; exact hm) ⟨t, rfl⟩ hd) fun σ H Q h => by
    obtain ⟨w, env, fp, Q', QE, rfl, ok, er, hm, kt, kx⟩ := h
    exact kont_f ok rep_int rfl kt hm
theorem de_gstr {x z : Str} (E : Eu X S) (hm : ∃ t, S.mg x = some (.str z t)) (hg : Gl X x := by rfl) (hd : (x == ("__debug__" : Str)) = false := by decide) : DE X S W d (.Name x pos) (mCon (.str z)) := by
  obtain ⟨t, hm⟩ := hm
  exact PEmono (pe_glob (v := .str z) hg (by rw [E.hmg]; exact hm) ⟨t, rfl⟩ hd) fun σ H Q h => by
    obtain ⟨w, env, fp, Q', QE, rfl, ok, er, hm, kt, kx⟩ := h
    exact kont_f ok rep_str rfl kt hm
/-- all, any of a list of bools; sum of a list of ints -/
def T.bls : List T → Option (List Bool)
  | [] => some []
  | .bl b :: ts => (T.bls ts).map (b :: ·)
  | _ => none
def T.ints : List T → Option (List Int)
  | [] => some []
  | .int b :: ts => (T.ints ts).map (b :: ·)
  | _ => none
theorem bls_rep {w : Wd} : ∀ {ts : List T} {vs : List V} {bs : List Bool}, Reps S w ts vs → T.bls ts = some bs → vs = bs.map V.bl
  | [], vs, bs, h, e => by simp [T.bls] at e; subst e; rw [h.nil_inv]; rfl
  | t :: ts, vs, bs, h, e => by
    obtain ⟨v, vs', rfl, h1, h2⟩ := h.cons_inv
    cases t with
    | bl b =>
      simp only [T.bls, Option.map_eq_some_iff] at e
      obtain ⟨bs', e1, rfl⟩ := e
      rw [bls_rep h2 e1]
      rw [Rep] at h1
      subst h1
      rfl
    | _ => simp [T.bls] at e
theorem ints_rep {w : Wd} : ∀ {ts : List T} {vs : List V} {bs : List Int}, Reps S w ts vs → T.ints ts = some bs → vs = bs.map V.int
  | [], vs, bs, h, e => by simp [T.ints] at e; subst e; rw [h.nil_inv]; rfl
  | t :: ts, vs, bs, h, e => by
    obtain ⟨v, vs', rfl, h1, h2⟩ := h.cons_inv
    cases t with
    | int b =>
      simp only [T.ints, Option.map_eq_some_iff] at e
      obtain ⟨bs', e1, rfl⟩ := e
      rw [ints_rep h2 e1]
      rw [Rep] at h1
      subst h1
      rfl
    | _ => simp [T.ints] at e
def gAll : T → M T := fun t => match t with
  | .lst ts => ofO (T.bls ts) fun bs => ret (.bl (bs.all id))
  | _ => stuck
def gAny : T → M T := fun t => match t with
  | .lst ts => ofO (T.bls ts) fun bs => ret (.bl (bs.any id))
  | _ => stuck
theorem de_all (E : Ex X S W k) (hm : S.mg "all" = none) (ha : DAB X S W [e] mas) (hv : bootBuiltins "all" = some (.builtin "all") := by decide +kernel) (hg : Gl X "all" := by rfl) (he : starEach (e :: []) X.env = (false, eval e X.env) :: starEach [] X.env := by first | exact star_c rfl | rfl) (hpl : (backTo pos (starEach [] X.env)).any (·.1) = false := by first | exact star_any rfl | rfl) :
    DE X S W d (.Call (.Name "all" p) [e] [] pos) (mCall (g1 gAll) mas) := by
  have h : CallR X (.builtin "all") (rAll S.K) := by rw [← E.hK]; exact cr_all E.calm
  exact de_callB E.toEu h (sim_1 fun w t x Q' QE Q ok r hg k => by
    unfold gAll at hg
    split at hg
    · obtain ⟨p, vs, rfl, h0, h1, h2⟩ := r.lst_inv
      obtain ⟨bs, e, hg⟩ := ofO_inv hg
      have ev := bls_rep h2 e
      subst ev
      exact ⟨p, bs, rfl, .inl (.inl h1), kont_f ok rep_bl rfl k hg⟩
    · exact hg.elim) hm hv ha hg (by decide) (by decide) he hpl
theorem de_any (E : Ex X S W k) (hm : S.mg "any" = none) (ha : DAB X S W [e] mas) (hv : bootBuiltins "any" = some (.builtin "any") := by decide +kernel) (hg : Gl X "any" := by rfl) (he : starEach (e :: []) X.env = (false, eval e X.env) :: starEach [] X.env := by first | exact star_c rfl | rfl) (hpl : (backTo pos (starEach [] X.env)).any (·.1) = false := by first | exact star_any rfl | rfl) :
    DE X S W d (.Call (.Name "any" p) [e] [] pos) (mCall (g1 gAny) mas) := by
  have h : CallR X (.builtin "any") (rAny S.K) := by rw [← E.hK]; exact cr_any E.calm
  exact de_callB E.toEu h (sim_1 fun w t x Q' QE Q ok r hg k => by
    unfold gAny at hg
    split at hg
    · obtain ⟨p, vs, rfl, h0, h1, h2⟩ := r.lst_inv
      obtain ⟨bs, e, hg⟩ := ofO_inv hg
      have ev := bls_rep h2 e
      subst ev
      exact ⟨p, bs, rfl, .inl (.inl h1), kont_f ok rep_bl rfl k hg⟩
    · exact hg.elim) hm hv ha hg (by decide) (by decide) he hpl
def rSumA (K : PySem.W.Frag) : List V → Hp → VK → Prop := fun vs H Q => rSum K vs H Q ∨ ∃ (a : Addr) (ns : List Int), vs = [V.ref a] ∧ SqT K H a (ns.map V.int) ∧ Q (.int ns.sum) H
theorem cr_sumA (hc : X.calm = true) : CallR X (.builtin "sum") (rSumA X.K) := by
  intro pins s σ H vs us Q I r h
  rcases h with h | h
  · exact cr_sum hc pins s σ H vs us Q I r h
  obtain ⟨a, ns, rfl, hs, q⟩ := h
  obtain ⟨its, rv, ht, _⟩ := I.tuple hs
  rw [Vals.ref1 r]
  obtain ⟨xs, e⟩ := rv.ints.allInts.items
  have hn := rv.ints.numsOf
  rw [show its = (intItems xs).toList by rw [← e], nums_intItems] at hn
  rw [e] at ht
  refine PySem.W.ktm_sumG (I.ok.hd hc) ht fun h' tk t' hk => ?_
  rw [preSum_eq, List.take_of_length_le (by simp), hn]
  exact ⟨.int _, H, I.kept hk, ⟨_, rfl⟩, q⟩
def gSum : T → M T := fun t => match t with
  | .lst ts => ofO (T.ints ts) fun bs => ret (.int bs.sum)
  | .tup ts => ofO (T.ints ts) fun bs => ret (.int bs.sum)
  | _ => stuck
theorem de_sum (E : Ex X S W k) (hm : S.mg "sum" = none) (ha : DAB X S W [e] mas) (hv : bootBuiltins "sum" = some (.builtin "sum") := by decide +kernel) (hg : Gl X "sum" := by rfl) (he : starEach (e :: []) X.env = (false, eval e X.env) :: starEach [] X.env := by first | exact star_c rfl | rfl) (hpl : (backTo pos (starEach [] X.env)).any (·.1) = false := by first | exact star_any rfl | rfl) :
    DE X S W d (.Call (.Name "sum" p) [e] [] pos) (mCall (g1 gSum) mas) := by
  have h : CallR X (.builtin "sum") (rSumA S.K) := by rw [← E.hK]; exact cr_sumA E.calm
  exact de_callB E.toEu h (sim_1 fun w t x Q' QE Q ok r hg k => by
    unfold gSum at hg
    split at hg
    · obtain ⟨p, vs, rfl, h0, h1, h2⟩ := r.lst_inv
      obtain ⟨bs, e, hg⟩ := ofO_inv hg
      have ev := ints_rep h2 e
      subst ev
      exact .inl ⟨p, bs, rfl, .inl (.inl h1), kont_f ok rep_int rfl k hg⟩
    · obtain ⟨p, vs, rfl, h1, h2⟩ := r.tup_inv
      obtain ⟨bs, e, hg⟩ := ofO_inv hg
      have ev := ints_rep h2 e
      subst ev
      exact .inr ⟨p, bs, rfl, h1.sq, kont_f ok rep_int rfl k hg⟩
    · exact hg.elim) hm hv ha hg (by decide) (by decide) he hpl
end
end Twl

/-! TL8: statements. -/
namespace Twl
open PySem PySem.Spec PyProof.Rows L2

structure EndT where
  nx : Env → Prop
  rt : Env → T → Prop
  bk : Env → Prop
  ct : Env → Prop
  ex : Exn → Prop
abbrev SM := EndT → Env → Prop

theorem Agr.refl (w : Wd) : Agr w w := ⟨rfl, fun _ h => h, fun _ _ => rfl⟩
theorem Agr.trans {a b c : Wd} (x : Agr a b) (y : Agr b c) : Agr a c := ⟨y.hp.trans x.hp, fun d h => y.ff d (x.ff d h), fun d h => (y.at_ d (x.ff d h)).trans (x.at_ d h)⟩

def Own (w0 : Wd) (fp : List Addr) : Prop := ∀ a ∈ fp, w0.H a = none
/-- the ends by worlds: w0 the def's entry, w here -/
structure EndsOk (S : Kx) (W : WX) (dr : Nat) (w0 w : Wd) (D' : EndT) (D : Ends) : Prop where
  nx : ∀ env σ w2 fp, Wok S w2 → Le w0 w2 → Agr w w2 → EnvR S w2 env σ fp → Own w0 fp → D'.nx env → D.nx σ w2.H
  rt : ∀ env σ fpE r v w2 fp, Wok S w2 → Le w0 w2 → Agr w w2 → EnvR S w2 env σ fpE → Own w0 fpE → RepO S w2 dr r v fp → Fresh w0 w2 fp → D'.rt env r → D.rt v w2.H
  bk : ∀ env σ w2 fp, Wok S w2 → Le w0 w2 → Agr w w2 → EnvR S w2 env σ fp → Own w0 fp → D'.bk env → D.bk σ w2.H
  ct : ∀ env σ w2 fp, Wok S w2 → Le w0 w2 → Agr w w2 → EnvR S w2 env σ fp → Own w0 fp → D'.ct env → D.ct σ w2.H
  ex : ∀ x c dd σ w2, Wok S w2 → Le w0 w2 → Agr w w2 → RepX S w2 x c dd → D'.ex x → W c dd σ w2.H
theorem EndsOk.agr {S : Kx} {W : WX} {dr : Nat} {w0 w w1 : Wd} {D' : EndT} {D : Ends} (a : Agr w w1) (h : EndsOk S W dr w0 w D' D) : EndsOk S W dr w0 w1 D' D :=
  ⟨fun env σ w2 fp o l g e p q => h.nx env σ w2 fp o l (a.trans g) e p q, fun env σ fpE r v w2 fp o l g e0 o0 e p q => h.rt env σ fpE r v w2 fp o l (a.trans g) e0 o0 e p q, fun env σ w2 fp o l g e p q => h.bk env σ w2 fp o l (a.trans g) e p q,
    fun env σ w2 fp o l g e p q => h.ct env σ w2 fp o l (a.trans g) e p q, fun x c dd σ w2 o l g e q => h.ex x c dd σ w2 o l (a.trans g) e q⟩
def rdS (S : Kx) (W : WX) (dr : Nat) (w0 : Wd) (m : SM) : TS := fun D σ H => ∃ w env fp D', w.H = H ∧ Wok S w ∧ Le w0 w ∧ EnvR S w env σ fp ∧ Own w0 fp ∧ m D' env ∧ EndsOk S W dr w0 w D' D
def DS (X : Cx) (S : Kx) (W : WX) (dr : Nat) (w0 : Wd) (st : Stmt) (m : SM) : Prop := PS X st (rdS S W dr w0 m)
def DSs (X : Cx) (S : Kx) (W : WX) (dr : Nat) (w0 : Wd) (st : List Stmt) (m : SM) : Prop := PSs X st (rdS S W dr w0 m)

section
variable {X : Cx} {S : Kx} {W : WX} {k d dr : Nat} {w0 w w' : Wd} {env : Env} {σ : L2.St} {fp : List Addr} {D' : EndT} {D : Ends}
theorem EndsOk.kx (ok : Wok S w) (l : Le w0 w) (h : EndsOk S W dr w0 w D' D) : KontX S w D'.ex W σ := fun x c dd w2 o2 l2 r q => h.ex x c dd σ w2 o2 (l.trans l2) (l2.agr ok) r q
theorem EnvS.set {s : Sl} {o : Option V} {f' : List Addr} (r : SlRep S w s o f') : ∀ {env : Env} {σ : L2.St} {fp : List Addr} (i : Nat), EnvS S w env σ fp →
    ∃ fp2, EnvS S w (env.set i s) (σ.set i o) fp2 ∧ (∀ a ∈ fp2, a ∈ fp ∨ a ∈ f') ∧ (fp.Nodup → f'.Nodup → (∀ a ∈ fp, a ∉ f') → fp2.Nodup)
  | [], [], fp, i, h => ⟨fp, by simpa using h, fun a ha => .inl ha, fun h _ _ => h⟩
  | s0 :: es, o0 :: os, fp, 0, h => by
    obtain ⟨f, f2, rfl, h1, h2⟩ := h
    refine ⟨f' ++ f2, ⟨f', f2, rfl, r, h2⟩, fun a ha => ?_, fun n1 n2 dj => ?_⟩
    · rcases List.mem_append.mp ha with q | q
      · exact .inr q
      · exact .inl (List.mem_append_right _ q)
    · rw [List.nodup_append] at n1 ⊢
      exact ⟨n2, n1.2.1, fun a ha b hb e => dj b (List.mem_append_right _ hb) (e ▸ ha)⟩
  | s0 :: es, o0 :: os, fp, i + 1, h => by
    obtain ⟨f, f2, rfl, h1, h2⟩ := h
    obtain ⟨fp2, e1, e2, e3⟩ := EnvS.set r i h2
    refine ⟨f ++ fp2, ⟨f, fp2, rfl, h1, e1⟩, fun a ha => ?_, fun n1 n2 dj => ?_⟩
    · rcases List.mem_append.mp ha with q | q
      · exact .inl (List.mem_append_left _ q)
      · exact (e2 a q).imp (List.mem_append_right _) id
    · rw [List.nodup_append] at n1 ⊢
      refine ⟨n1.1, e3 n1.2.1 n2 (fun a ha => dj a (List.mem_append_right _ ha)), fun a ha b hb e => ?_⟩
      subst e
      rcases e2 a hb with q | q
      · exact n1.2.2 a ha a q rfl
      · exact dj a (List.mem_append_left _ ha) q
  | [], _ :: _, _, _, h => h.elim
  | _ :: _, [], _, _, h => h.elim
/-- a slot is set to a value just made -/
theorem EnvR.set {t : T} {v : V} {f' : List Addr} (ok : Wok S w) (er : EnvR S w env σ fp) (l : Le w w') (r : RepO S w' d t v f') (fr : Fresh w w' f') (i : Nat) (hw : w.hp = w'.hp → True) (ok' : Wok S w') :
    ∃ fp2, EnvR S w' (env.set i (.va d t)) (σ.set i (some v)) fp2 ∧ ∀ a ∈ fp2, a ∈ fp ∨ a ∈ f' := by
  have er' := er.le ok l
  obtain ⟨fp2, e1, e2, e3⟩ := EnvS.set (s := .va d t) (o := some v) ⟨v, rfl, r⟩ i er'.sl
  refine ⟨fp2, ⟨e1, e3 er'.nd fr.nd fun a ha q => ?_, fun a ha => ?_⟩, e2⟩
  · obtain ⟨_, _, o, h, _⟩ := er.ow a ha
    rw [(fr.nw a q).1] at h
    cases h
  · rcases e2 a ha with q | q
    · exact er'.ow a q
    · obtain ⟨h1, h2, h3⟩ := fr.nw a q
      refine ⟨h2, fun z => ?_, h3⟩
      rw [l.hp] at z
      exact handNone ok h1 z
theorem Own.of {f' fp2 : List Addr} (l : Le w0 w) (o : Own w0 fp) (fr : Fresh w w' f') (h : ∀ a ∈ fp2, a ∈ fp ∨ a ∈ f') : Own w0 fp2 := fun a ha => (h a ha).elim (o a) fun q => l.no a (fr.nw a q).1
theorem Fresh.of {f' : List Addr} (l : Le w0 w) (fr : Fresh w w' f') : Fresh w0 w' f' := ⟨fr.nd, fun a ha => ⟨l.no a (fr.nw a ha).1, (fr.nw a ha).2⟩⟩

/-! ### blocks -/
def sNil : SM := fun D env => D.nx env
def sSeq (a b : SM) : SM := fun D env => a { D with nx := b D } env
variable {st : Stmt} {sts : List Stmt} {m m1 m2 : SM} {e : Expr} {me : Env → M T} {pos : Pos}
theorem dss_nil : DSs X S W dr w0 [] sNil := PSsmono pss_nil fun D σ H h => by
  obtain ⟨w, env, fp, D', rfl, ok, l, er, ow, hm, en⟩ := h
  exact en.nx env σ w fp ok l (.refl w) er ow hm
theorem dss_cons (h1 : DS X S W dr w0 st m1) (h2 : DSs X S W dr w0 sts m2) : DSs X S W dr w0 (st :: sts) (sSeq m1 m2) := PSsmono (pss_cons h1 h2) fun D σ H h => by
  obtain ⟨w, env, fp, D', rfl, ok, l, er, ow, hm, en⟩ := h
  exact ⟨w, env, fp, { D' with nx := m2 D' }, rfl, ok, l, er, ow, hm, ⟨fun env2 σ2 w2 fp2 o2 l2 g2 e2 p2 q2 => ⟨w2, env2, fp2, D', rfl, o2, l2, e2, p2, q2, en.agr g2⟩, en.rt, en.bk, en.ct, en.ex⟩⟩
theorem dss_one (h1 : DS X S W dr w0 st m1) : DSs X S W dr w0 [st] m1 := pss_one h1
/-! ### small statements -/
def sSet (i d : Nat) (me : Env → M T) : SM := fun D env => me env (fun t => D.nx (env.set i (.va d t))) D.ex
theorem ds_set (i : Nat) {x : Str} {pos' : Pos} (hN : X.N.Nodup) (he : DE X S W d e me) (hi : X.N[i]? = some x := by rfl) (hx : Loc X.env.scope x := by first | exact .inl rfl | exact .inr rfl)
    (hs : swapsWith e (some (.Name x pos')) pos.line X.env = pure false := by rfl) (hf : X.fn x = true ∨ X.env.scope.names.lookup x = some .local := by first | exact .inl rfl | exact .inr rfl | assumption) :
    DS X S W dr w0 (.Assign [.Name x pos'] e pos) (sSet i d me) := PSmono (ps_set (i := i) hN hi hx he hs hf) fun D σ H h => by
  obtain ⟨w, env, fp, D', rfl, ok, l, er, ow, hm, en⟩ := h
  refine rd_use ok er hm (fun t v w1 f1 ok1 l1 r1 fr q => ?_) (en.kx ok l)
  obtain ⟨fp2, e1, e2⟩ := er.set ok l1 r1 fr i (fun _ => trivial) ok1
  exact en.nx _ _ w1 fp2 ok1 (l.trans l1) (l1.agr ok) e1 (ow.of l fr e2) q
def sDrop (me : Env → M T) : SM := fun D env => me env (fun _ => D.nx env) D.ex
theorem ds_expr (he : DE X S W 0 e me) (hs : swapsWith e none pos.line X.env = pure false := by rfl) : DS X S W dr w0 (.Expr e pos) (sDrop me) := PSmono (ps_expr he hs) fun D σ H h => by
  obtain ⟨w, env, fp, D', rfl, ok, l, er, ow, hm, en⟩ := h
  exact rd_use ok er hm (.z fun t v w1 ok1 l1 r1 q => en.nx env σ w1 fp ok1 (l.trans l1) (l1.agr ok) (er.le ok l1) ow q) (en.kx ok l)
def sRet (me : Env → M T) : SM := fun D env => me env (D.rt env) D.ex
theorem ds_ret (he : DE X S W dr e me) : DS X S W dr w0 (.Return (some e) pos) (sRet me) := PSmono (ps_ret he) fun D σ H h => by
  obtain ⟨w, env, fp, D', rfl, ok, l, er, ow, hm, en⟩ := h
  exact rd_use ok er hm (fun t v w1 f1 ok1 l1 r1 fr q => en.rt env σ fp t v w1 f1 ok1 (l.trans l1) (l1.agr ok) (er.le ok l1) ow r1 (fr.of l) q) (en.kx ok l)
def sBrk : SM := fun D env => D.bk env
def sCnt : SM := fun D env => D.ct env
theorem ds_pass : DS X S W dr w0 (.Pass pos) sNil := PSmono ps_pass fun D σ H h => by
  obtain ⟨w, env, fp, D', rfl, ok, l, er, ow, hm, en⟩ := h
  exact en.nx env σ w fp ok l (.refl w) er ow hm
theorem ds_break : DS X S W dr w0 (.Break pos) sBrk := PSmono ps_break fun D σ H h => by
  obtain ⟨w, env, fp, D', rfl, ok, l, er, ow, hm, en⟩ := h
  exact en.bk env σ w fp ok l (.refl w) er ow hm
theorem ds_continue : DS X S W dr w0 (.Continue pos) sCnt := PSmono ps_continue fun D σ H h => by
  obtain ⟨w, env, fp, D', rfl, ok, l, er, ow, hm, en⟩ := h
  exact en.ct env σ w fp ok l (.refl w) er ow hm
def sIf (t : Env → M Bool) (a b : SM) : SM := fun D env => t env (fun c => if c = true then a D env else b D env) D.ex
theorem ds_if {c : Expr} {x y : List Stmt} {mc : Env → M Bool} (hc : DT X S W c mc) (ha : DSs X S W dr w0 x m1) (hb : DSs X S W dr w0 y m2) : DS X S W dr w0 (.If c x y pos) (sIf mc m1 m2) := PSmono (ps_if hc ha hb) fun D σ H h => by
  obtain ⟨w, env, fp, D', rfl, ok, l, er, ow, hm, en⟩ := h
  refine rdt_use ok er hm (fun c w1 ok1 l1 q => ?_) (en.kx ok l)
  cases c with
  | true => exact (if_pos rfl).mpr ⟨w1, env, fp, D', rfl, ok1, l.trans l1, er.le ok l1, ow, (if_pos rfl).mp q, en.agr (l1.agr ok)⟩
  | false => exact (if_neg Bool.false_ne_true).mpr ⟨w1, env, fp, D', rfl, ok1, l.trans l1, er.le ok l1, ow, (if_neg Bool.false_ne_true).mp q, en.agr (l1.agr ok)⟩
/-! ### while -/
def wh (c : Env → M Bool) (m : SM) : Nat → SM
  | 0, _, _ => False
  | n + 1, D, env => c env (fun b => if b = true then m { D with nx := wh c m n D, ct := wh c m n D, bk := D.nx } env else D.nx env) D.ex
def sWhile (c : Env → M Bool) (m : SM) : SM := fun D env => ∃ n, wh c m n D env
theorem ds_while {c : Expr} {body : List Stmt} {mc : Env → M Bool} (hp : PassesOwn (model X.prog X.w) X.A X.env X.xe) (hc : DT X S W c mc) (hb : DSs X S W dr w0 body m) : DS X S W dr w0 (.While c body [] pos) (sWhile mc m) := PSmono (ps_while hp hc hb) fun D σ H h => by
  obtain ⟨w, env, fp, D', rfl, ok, l, er, ow, ⟨n, hm⟩, en⟩ := h
  refine ⟨fun n σ H => ∃ w1 env fp, w1.H = H ∧ Wok S w1 ∧ Le w0 w1 ∧ Agr w w1 ∧ EnvR S w1 env σ fp ∧ Own w0 fp ∧ wh mc m n D' env, ⟨n, w, env, fp, rfl, ok, l, .refl w, er, ow, hm⟩, ?_⟩
  rintro n σ H ⟨w1, env, fp, rfl, ok1, l1, g1, er1, ow1, hm⟩
  cases n with
  | zero => exact hm.elim
  | succ n =>
    refine rdt_use ok1 er1 hm (fun b w2 ok2 l2 q => ?_) ((en.agr g1).kx ok1 l1)
    cases b with
    | true =>
      refine (if_pos rfl).mpr ⟨fun σ H => ∃ w1 env fp, w1.H = H ∧ Wok S w1 ∧ Le w0 w1 ∧ Agr w w1 ∧ EnvR S w1 env σ fp ∧ Own w0 fp ∧ wh mc m n D' env, fun σ' H' z => ⟨n, Nat.lt_succ_self n, z⟩, ?_⟩
      have en2 := en.agr (g1.trans (l2.agr ok1))
      exact ⟨w2, env, fp, _, rfl, ok2, l1.trans l2, er1.le ok1 l2, ow1, (if_pos rfl).mp q,
        ⟨fun env σ w3 fp o3 l3 g3 e3 p3 q3 => ⟨w3, env, fp, rfl, o3, l3, (g1.trans (l2.agr ok1)).trans g3, e3, p3, q3⟩, en2.rt, en2.nx, fun env σ w3 fp o3 l3 g3 e3 p3 q3 => ⟨w3, env, fp, rfl, o3, l3, (g1.trans (l2.agr ok1)).trans g3, e3, p3, q3⟩, en2.ex⟩⟩
    | false => exact (if_neg Bool.false_ne_true).mpr (en.nx env σ w2 fp ok2 (l1.trans l2) (g1.trans (l2.agr ok1)) (er1.le ok1 l2) ow1 ((if_neg Bool.false_ne_true).mp q))
end

/-! ### targets -/
abbrev GM := T → Env → Option Env
/-- vs: the slots that are stored -/
def rdg (S : Kx) (vs : List Nat) (g : GM) : TG := fun v σ H Q => ∃ w t env fp env', w.H = H ∧ Wok S w ∧ EnvR S w env σ fp ∧ Rep S w t v ∧ g t env = some env' ∧
  ∀ σ' fp', EnvR S w env' σ' fp' → (∀ a ∈ fp', a ∈ fp) → wipe σ' vs = wipe σ vs → Q σ' w.H
def DG (X : Cx) (S : Kx) (vs : List Nat) (tg : Expr) (g : GM) : Prop := PG X tg (rdg S vs g)
abbrev GMs := List T → Env → Option Env
def rdgs (S : Kx) (vs : List Nat) (g : GMs) : TGs := fun xs σ H Q => ∃ w ts env fp env', w.H = H ∧ Wok S w ∧ EnvR S w env σ fp ∧ Reps S w ts xs ∧ g ts env = some env' ∧
  ∀ σ' fp', EnvR S w env' σ' fp' → (∀ a ∈ fp', a ∈ fp) → wipe σ' vs = wipe σ vs → Q σ' w.H
def DGs (X : Cx) (S : Kx) (vs : List Nat) (tg : List Expr) (g : GMs) : Prop := PGs X tg (rdgs S vs g)
theorem PGmono {X : Cx} {e : Expr} {t t' : TG} (h : PG X e t) (k : ∀ v σ H Q, t' v σ H Q → t v σ H Q) : PG X e t' := ⟨fun pins s σ H v u Q I r q => h.run pins s σ H v u Q I r (k v σ H Q q)⟩
theorem PGsmono {X : Cx} {e : List Expr} {t t' : TGs} (h : PGs X e t) (k : ∀ v σ H Q, t' v σ H Q → t v σ H Q) : PGs X e t' := ⟨fun pins s σ H v u Q I r q => h.run pins s σ H v u Q I r (k v σ H Q q)⟩
theorem wipe_get {σ : L2.St} : ∀ {vs : List Nat} {j : Nat}, (wipe σ vs)[j]? = if j ∈ vs then (if j < σ.length then some none else none) else σ[j]?
  | [], j => by simp [wipe]
  | v :: vs, j => by
    unfold wipe
    by_cases c : v = j
    · subst c
      rw [if_pos List.mem_cons_self, List.getElem?_set]
      simp [wipe_length]
    · rw [List.getElem?_set_ne c, wipe_get]
      by_cases h : j ∈ vs
      · rw [if_pos h, if_pos (List.mem_cons_of_mem _ h)]
      · rw [if_neg h, if_neg (fun q => (List.mem_cons.mp q).elim (fun z => c z.symm) h)]
theorem wipe_set {σ : L2.St} {vs : List Nat} {i : Nat} {o : Option V} (h : i ∈ vs) : wipe (σ.set i o) vs = wipe σ vs := by
  apply List.ext_getElem?
  intro j
  rw [wipe_get, wipe_get, List.length_set]
  by_cases c : j ∈ vs
  · rw [if_pos c, if_pos c]
  · rw [if_neg c, if_neg c, List.getElem?_set_ne (fun e => c (by rw [← e]; exact h))]
def gN (i : Nat) : GM := fun t env => some (env.set i (.va 0 t))
def gsNil : GMs := fun ts env => match ts with
  | [] => some env
  | _ => none
def gsCons (g : GM) (h : GMs) : GMs := fun ts env => match ts with
  | t :: ts => (g t env).bind fun env => h ts env
  | [] => none
def gTp (g : GMs) : GM := fun t env => match t with
  | .tup ts => g ts env
  | _ => none
section
variable {X : Cx} {S : Kx} {vs : List Nat} {g : GM} {gs : GMs} {e : Expr} {es : List Expr} {pos : Pos}
theorem dg_name (i : Nat) {x : Str} (hN : X.N.Nodup) (hi : X.N[i]? = some x := by rfl) (hx : Loc X.env.scope x := by first | exact .inl rfl | exact .inr rfl) (hm : i ∈ vs := by decide) (hf : X.fn x = true ∨ X.env.scope.names.lookup x = some .local := by first | exact .inl rfl | exact .inr rfl | assumption) :
    DG X S vs (.Name x pos) (gN i) := PGmono (pg_name hN hi hx hf) fun v σ H Q h => by
  obtain ⟨w, t, env, fp, env', rfl, ok, er, r, hg, k⟩ := h
  have e1 := Option.some.inj hg
  subst e1
  obtain ⟨fp2, e1, e2⟩ := er.set (d := 0) ok (.refl w) (.zero r) .nil i (fun _ => trivial) ok
  exact k _ fp2 e1 (fun a ha => (e2 a ha).elim id (fun q => by simp at q)) (wipe_set hm)
theorem dgs_nil : DGs X S vs [] gsNil := PGsmono pgs_nil fun xs σ H Q h => by
  obtain ⟨w, ts, env, fp, env', rfl, ok, er, r, hg, k⟩ := h
  unfold gsNil at hg
  split at hg
  · have e1 := Option.some.inj hg
    subst e1
    exact ⟨r.nil_inv, k σ fp er (fun _ h => h) rfl⟩
  · cases hg
theorem dgs_cons (h1 : DG X S vs e g) (h2 : DGs X S vs es gs) (hs : (assignEach (e :: es) X.env).map (·.2) = assign e X.env :: (assignEach es X.env).map (·.2) := by rfl) : DGs X S vs (e :: es) (gsCons g gs) := PGsmono (pgs_cons h1 h2 hs) fun xs σ H Q h => by
  obtain ⟨w, ts, env, fp, env', rfl, ok, er, r, hg, k⟩ := h
  unfold gsCons at hg
  split at hg
  · obtain ⟨v, vs', rfl, r1, r2⟩ := r.cons_inv
    obtain ⟨env1, g1, g2⟩ := Option.bind_eq_some_iff.mp hg
    exact ⟨v, vs', rfl, w, _, env, fp, env1, rfl, ok, er, r1, g1, fun σ1 fp1 er1 s1 q1 => ⟨w, _, env1, fp1, env', rfl, ok, er1, r2, g2, fun σ2 fp2 er2 s2 q2 => k σ2 fp2 er2 (fun a ha => s1 a (s2 a ha)) (q2.trans q1)⟩⟩
  · cases hg
theorem dg_tup {n : Nat} {kk : Nat} (hK : X.K = S.K) (hc : X.calm = true) (h : DGs X S vs es gs) (hl : ∀ ts env env', gs ts env = some env' → ts.length = n) (hn : (assignEach es X.env).length = n := by rfl) (hst : (assignEach es X.env).findIdx? (·.1) = none := by rfl) : DG X S vs (.Tuple es kk pos) (gTp gs) := PGmono (pg_tup hc h hn hst) fun v σ H Q h => by
  obtain ⟨w, t, env, fp, env', rfl, ok, er, r, hg, k⟩ := h
  unfold gTp at hg
  split at hg
  · rw [Rep] at r
    obtain ⟨p, us, rfl, h1, h2⟩ := r
    exact ⟨p, us, rfl, by rw [hK]; exact h1.sq, by rw [h2.length]; exact hl _ _ _ hg, w, _, env, fp, env', rfl, ok, er, h2, hg, k⟩
  · cases hg
theorem gsNil_len {ts : List T} {env env' : Env} (h : gsNil ts env = some env') : ts.length = 0 := by
  unfold gsNil at h
  split at h
  · rfl
  · cases h
theorem gsCons_len {g : GM} {gs : GMs} {n : Nat} (hl : ∀ ts env env', gs ts env = some env' → ts.length = n) (ts : List T) (env env' : Env) (h : gsCons g gs ts env = some env') : ts.length = n + 1 := by
  unfold gsCons at h
  split at h
  · obtain ⟨env1, g1, g2⟩ := Option.bind_eq_some_iff.mp h
    rw [List.length_cons, hl _ _ _ g2]
  · cases h
end
end Twl

/-! TL9: what is walked: lists, tuples, texts, ranges, enumerate, zip. -/
namespace Twl
open PySem PySem.Spec PyProof.Rows L2

/-- a list, a tuple, a text that an iterator draws from -/
inductive Src where
  | lst (a : Addr) | tup (a : Addr) | txt (x : Str) (t : Tok)
def Src.val : Src → Value
  | .lst a => .ref a
  | .tup a => .ref a
  | .txt x t => .str x t
def signs (x : Str) : List V := x.cps.toList.map fun c => V.str ⟨#[c]⟩
def Src.has (K : PySem.W.Frag) (H : Hp) : Src → List V → Prop
  | .lst a, xs => SqL K H a xs
  | .tup a, xs => SqT K H a xs
  | .txt x _, xs => xs = signs x
def Src.ob : Src → Obj
  | .lst a => { cls := .type "list_iterator", data := .fields #[.ref a, .int 0 0] }
  | .tup a => { cls := .type "tuple_iterator", data := .fields #[.ref a, .int 0 0] }
  | .txt x t => { cls := .type (strIterType x), data := .fields #[.str x t, .int 0 0] }
def Src.stD (c : Src) (it : Addr) (i : Nat) (h : Heap) : Prop := match c with
  | .lst a => h.IsListIter it a i
  | .tup a => h.IsTupleIter it a i
  | .txt x t => h.IsStrIter it (strIterType x) x t i
structure Src.st (c : Src) (it : Addr) (i : Nat) (h : Heap) : Prop where
  out : Src.stD c it i h
theorem pget {α β : Type} {F : α → β → Prop} : ∀ {l₁ : List α} {l₂ : List β} {j : Nat} {x : β}, Paired F l₁ l₂ → l₂[j]? = some x → ∃ y, l₁[j]? = some y ∧ F y x
  | _, _, _, _, .nil, h => by simp at h
  | _, _, 0, _, .cons (a := a) p q, h => by
    simp at h; subst h; exact ⟨a, rfl, p⟩
  | _, _, j + 1, x, .cons p q, h => by
    simp at h
    obtain ⟨y, e, f⟩ := pget q h
    exact ⟨y, by simpa using e, f⟩
theorem Src.st.st_at {c : Src} {it : Addr} {i : Nat} {h h' : Heap} (s : c.st it i h) (k : ∀ o, h.get? it = some o → h'.get? it = some o) : c.st it i h' := by
  obtain ⟨s⟩ := s
  refine ⟨?_⟩
  cases c with
  | lst a => exact Heap.IsListIter.at s k
  | tup a => exact Heap.IsTupleIter.at s k
  | txt x t => obtain ⟨o, e, c⟩ := s; exact ⟨o, k o e, c⟩
theorem Src.st.st_obj {c : Src} {it : Addr} {i : Nat} {h : Heap} (s : c.st it i h) : ∃ o, h.get? it = some o ∧ ∀ v, o.data ≠ .cell v := by
  obtain ⟨s⟩ := s
  cases c with
  | lst a => obtain ⟨o, e, c, d⟩ := s; exact ⟨o, e, fun v z => by rw [d] at z; cases z⟩
  | tup a => obtain ⟨o, e, c, d⟩ := s; exact ⟨o, e, fun v z => by rw [d] at z; cases z⟩
  | txt x t => obtain ⟨o, e, c, d⟩ := s; exact ⟨o, e, fun v z => by rw [d] at z; cases z⟩
theorem Src.st_new {c : Src} {it : Addr} {h : Heap} (s : h.get? it = some c.ob) : c.st it 0 h := by
  refine ⟨?_⟩
  cases c with
  | lst a => exact ⟨_, s, rfl, rfl⟩
  | tup a => exact ⟨_, s, rfl, rfl⟩
  | txt x t => exact ⟨_, s, rfl, rfl⟩
section
variable {X : Cx} {pins : List (Addr × Obj)} {σ : L2.St} {H : Hp} {s : Shared}
theorem base_ne {a b : Addr} {o : Obj} (I : Inv X pins σ H s) (hf : FpOk X pins H b) (h : X.K.lookup a = some o) : a ≠ b := fun e => by
  subst e
  have hb := I.ok.mod.kin a o h
  obtain ⟨_, _, _, f3, _⟩ := hf
  rcases f3 with q | q
  · exact I.ok.noex a o hb q
  · exact absurd (Heap.lt_size (I.ok.bs a o hb).1) (Nat.not_lt_of_le q)
theorem sqL_ne {a b : Addr} {xs : List V} (I : Inv X pins σ H s) (hf : FpOk X pins H b) (h : SqL X.K H a xs) : a ≠ b := by
  rcases h with h | ⟨o, its, n, h, _⟩
  · intro e
    subst e
    rcases h with h | ⟨o, h⟩ <;> (rw [hf.1] at h; cases h)
  · exact base_ne I hf h
theorem sqT_ne {a b : Addr} {xs : List V} (I : Inv X pins σ H s) (hf : FpOk X pins H b) (h : SqT X.K H a xs) : a ≠ b := by
  rcases h with h | ⟨o, its, n, h, _⟩
  · intro e
    subst e
    rcases h with h | ⟨o, h⟩ <;> (rw [hf.1] at h; cases h)
  · exact base_ne I hf h
theorem Src.inj {c : Src} {xs ys : List V} (I : Inv X pins σ H s) (h : c.has X.K H xs) (h' : c.has X.K H ys) : xs = ys := by
  cases c with
  | lst a => exact I.list_inj h h'
  | tup a => exact I.tuple_inj h h'
  | txt x t => exact h.trans h'.symm
theorem Draws.toP {prog : Program} {w : World} {A : Around} {it : Addr} {fp : List Addr} {n m : Nat} {P P' : Nat → Value → Prop} {St : Nat → Heap → Prop} (D : Draws prog w A it fp n P St) (hm : m = n) (h : ∀ i v, P i v → P' i v) : Draws prog w A it fp m P' St := by
  subst hm
  exact ⟨D.live, D.frame, fun i s Q E hi st hQ => D.item i s Q E hi st fun x h' tk p => hQ x h' tk (h i x p), D.done⟩
theorem Src.draws {c : Src} {xs : List V} (I : Inv X pins σ H s) (A : Around) (hh : A.handled = none) (h : c.has X.K H xs) {it : Addr} (hf : FpOk X pins H it) :
    ∃ (fp : List Addr) (St : Nat → Heap → Prop), Draws X.prog X.w A it fp xs.length (fun i v => ∃ x, xs[i]? = some x ∧ RelV x v) St ∧ (∀ i, c.st it i s.heap → St i s.heap) ∧ (∀ i h, St i h → c.st it i h) ∧ it ∈ fp ∧ ∀ b ∈ fp, b = it ∨ ∀ b', FpOk X pins H b' → b ≠ b' := by
  cases c with
  | lst a =>
    obtain ⟨its, rv, p, _⟩ := I.list h
    have hne := sqL_ne I hf h
    refine ⟨_, _, Draws.toP (Draws.list hh it a hne its.toArray) (by rw [rv.length]; simp) (fun i v e => ?_), fun i st => ⟨st.out, p.isList⟩, fun i h st => ⟨st.1⟩, by simp, fun b hb => ?_⟩
    · have e' : its[i]? = some v := by simpa using e
      exact pget rv e'
    · have e : b = it ∨ b = a := by simpa using hb
      rcases e with e | e
      · exact .inl e
      · exact .inr fun b' hf' => by rw [e]; exact sqL_ne I hf' h
  | tup a =>
    obtain ⟨its, rv, p, _⟩ := I.tuple h
    have hne := sqT_ne I hf h
    refine ⟨_, _, Draws.toP (Draws.tuple hh it a hne its.toArray) (by rw [rv.length]; simp) (fun i v e => ?_), fun i st => ⟨st.out, p⟩, fun i h st => ⟨st.1⟩, by simp, fun b hb => ?_⟩
    · have e' : its[i]? = some v := by simpa using e
      exact pget rv e'
    · have e : b = it ∨ b = a := by simpa using hb
      rcases e with e | e
      · exact .inl e
      · exact .inr fun b' hf' => by rw [e]; exact sqT_ne I hf' h
  | txt x t =>
    subst h
    refine ⟨_, _, Draws.toP (Draws.text hh it x t) (by simp [signs]) (fun i v e => ?_), fun i st => st.out, fun i h st => ⟨st⟩, by simp, fun b hb => .inl (by simpa using hb)⟩
    obtain ⟨c, u, e1, rfl⟩ := e
    refine ⟨.str ⟨#[c]⟩, ?_, ⟨u, rfl⟩⟩
    unfold signs
    rw [List.getElem?_map, Array.getElem?_toList, e1]
    rfl
theorem Src.begins {c : Src} {xs : List V} (I : Inv X pins σ H s) (h : c.has X.K H xs) : ∃ Hc : Heap → Prop, Begins c.val c.ob Hc ∧ Hc s.heap := by
  cases c with
  | lst a => obtain ⟨its, rv, p, _⟩ := I.list h; exact ⟨_, begins_list a its.toArray, p.isList⟩
  | tup a => obtain ⟨its, rv, p, _⟩ := I.tuple h; exact ⟨_, begins_tuple a its.toArray, p⟩
  | txt x t => exact ⟨_, begins_text x t, trivial⟩
end
/-! ### enumerate -/
def ItE (K : PySem.W.Frag) (c : Src) (k₀ : Int) : It :=
  ⟨fun i H => ∃ (xs : List V) (x : V), c.has K H xs ∧ xs[i]? = some x, fun i H v H' => ∃ T x, v = .ref T ∧ H T = none ∧ H' = upd H T (.tup [.int (k₀ + (i : Nat)), x]) ∧ ∀ xs, c.has K H xs → xs[i]? = some x,
    fun i H => ∃ xs : List V, c.has K H xs ∧ xs.length = i⟩
theorem turn_enumS {P : Program} {w : World} {K : PySem.W.Frag} {elts : List Expr} {kk : Nat} {tpos : Pos} (c : Src) (k₀ : Int) (e it : Addr) :
    Turn P w K (.Tuple elts kk tpos) (ItE K c k₀) [e, it] e (fun i h => (∃ old, IsEnum h e it (k₀ + ((i : Nat) : Int)) old) ∧ c.st it i h ∧ e ≠ it) where
  mem := by simp
  obj := fun i h st b hb => by
    obtain ⟨⟨old, he⟩, hi, _⟩ := st
    have e' : b = e ∨ b = it := by simpa using hb
    rcases e' with z | z
    · rw [z]; exact ⟨_, he, fun v q => nomatch q⟩
    · rw [z]; exact hi.st_obj
  keep := fun i h h' st k => let ⟨⟨old, he⟩, hi, hne⟩ := st; ⟨⟨old, k e (by simp) _ he⟩, hi.st_at fun o q => k it (by simp) o q, hne⟩
  item := by
    intro X hP hw hK hc i pins s σ H E I hf st hg
    subst hP hw hK
    obtain ⟨⟨old, he⟩, hit, hne⟩ := st
    obtain ⟨xs, x, hq, hx⟩ := hg
    obtain ⟨fp, St, D, s1, s2, m1, m2⟩ := Src.draws I X.A.in1 (I.ok.hd hc) hq (hf it (by simp))
    have hef : e ∉ fp := fun z => by
      rcases m2 e z with q | q
      · exact hne q
      · exact q e (hf e (by simp)) rfl
    have hel : e < s.heap.objs.size := Heap.lt_size he
    have hil : it < s.heap.objs.size := by obtain ⟨_, q, _⟩ := hit.st_obj; exact Heap.lt_size q
    have hlt : i < xs.length := (List.getElem?_eq_some_iff.mp hx).1
    refine wpAny_pyNext_enum_itemC D he (s1 i hit) hlt hne hef fun u h' tk ⟨x', hx', ru⟩ ho hst' hT hsz hk => ?_
    rw [hx] at hx'
    cases hx'
    refine ⟨_, rfl, wpAny_letOwnedTupleGo_enum (s := { s with heap := h', toks := tk + 1 }) ho fun h'' he' sb => ?_⟩
    have hT2 : h''.get? s.heap.objs.size = some { cls := .type "tuple", data := .seq #[.int (k₀ + (i : Nat)) tk, u] } := (sb.2 _ (Nat.ne_of_gt hel)).trans hT
    have new : ObjOk X.prog X.w (upd H s.heap.objs.size (.tup [.int (k₀ + (i : Nat)), x])) h'' s.heap.objs.size (.tup [.int (k₀ + (i : Nat)), x]) :=
      ⟨by show 2 ≤ sizeLine; decide, [.int (k₀ + (i : Nat)) tk, u], .cons ⟨_, rfl⟩ (.cons ru .nil), ⟨_, hT2, rfl, _, rfl⟩⟩
    have I1 : Inv X pins σ (upd H s.heap.objs.size (.tup [.int (k₀ + (i : Nat)), x])) { s with heap := h'', toks := tk + 1 } :=
      I.turnedNew (ch := [e, it]) (fun b ob hb q => (sb.2 b (fun z => hb (by simp [z]))).trans (hk b ob (fun z => hb (by simp [z])) (fun z => hb (by simp [z])) q)) hf (Nat.le_refl _) new
    refine ⟨.ref s.heap.objs.size, _, I1, rfl, ⟨_, x, rfl, I.hok.fresh (Nat.le_refl _), rfl, fun ys hy => by rw [Src.inj I hy hq]; exact hx⟩, ⟨⟨u, ?_⟩, (s2 _ _ hst').st_at fun o q => (sb.2 it (Ne.symm hne)).trans q, hne⟩, fun b hb => ?_⟩
    · have e1 : k₀ + ((i + 1 : Nat) : Int) = k₀ + (i : Int) + 1 := by omega
      rw [e1]; exact he'
    · have hb' : b < s.heap.objs.size := by
        have e' : b = e ∨ b = it := by simpa using hb
        rcases e' with z | z
        · rw [z]; exact hel
        · rw [z]; exact hil
      rw [upd_ne (Nat.ne_of_lt hb')]
      exact (hf b hb).1
  done := by
    intro X hP hw hK hc i pins s σ H E I hf st hg
    subst hP hw hK
    obtain ⟨⟨old, he⟩, hit, hne⟩ := st
    obtain ⟨xs, hq, rfl⟩ := hg
    obtain ⟨fp, St, D, s1, s2, m1, m2⟩ := Src.draws I X.A.in1 (I.ok.hd hc) hq (hf it (by simp))
    obtain ⟨f0, f1, f2, f3, f4, f5⟩ := hf it (by simp)
    exact wpAny_pyNext_enum_endD D he (s1 _ hit) fun h' eb => ⟨rfl, I.turned (t' := s.toks) (fun b o hb q => eb b o hb q) f0 f1 f3 f4 f5⟩
  self := fun A i s Q E st h => let ⟨⟨_, he⟩, _⟩ := st; wpAny_pyIter_enum he h
/-! ### zip -/
def ItZ (K : PySem.W.Frag) (c d : Src) : It :=
  ⟨fun i H => ∃ (xs ys : List V) (x y : V), c.has K H xs ∧ d.has K H ys ∧ xs[i]? = some x ∧ ys[i]? = some y,
    fun i H v H' => ∃ T x y, v = .ref T ∧ H T = none ∧ H' = upd H T (.tup [x, y]) ∧ (∀ xs, c.has K H xs → xs[i]? = some x) ∧ ∀ ys, d.has K H ys → ys[i]? = some y,
    fun i H => ∃ xs ys : List V, c.has K H xs ∧ d.has K H ys ∧ min xs.length ys.length = i⟩
theorem zipSep {X : Cx} {pins : List (Addr × Obj)} {H : Hp} {z TI TO i1 i2 : Addr} {fp1 fp2 : List Addr} (hz : FpOk X pins H z) (hTI : FpOk X pins H TI) (hTO : FpOk X pins H TO) (h1 : FpOk X pins H i1) (h2 : FpOk X pins H i2)
    (nd : [z, TI, TO, i1, i2].Nodup) (a1 : i1 ∈ fp1) (a2 : i2 ∈ fp2) (m1 : ∀ b ∈ fp1, b = i1 ∨ ∀ b', FpOk X pins H b' → b ≠ b') (m2 : ∀ b ∈ fp2, b = i2 ∨ ∀ b', FpOk X pins H b' → b ≠ b') : ZipSep2 z TI TO i1 i2 fp1 fp2 := by
  simp only [List.nodup_cons, List.mem_cons, not_or, List.not_mem_nil, not_false_eq_true, List.nodup_nil, and_true] at nd
  obtain ⟨⟨n1, n2, n3, n4⟩, ⟨n5, n6, n7⟩, ⟨n8, n9⟩, n10⟩ := nd
  refine ⟨Ne.symm n1, Ne.symm n2, n5, n6, a1, ?_, ?_, n7, a2, ?_, ?_, ?_, ?_⟩
  · exact fun q => (m1 z q).elim n3 fun k => k z hz rfl
  · exact fun q => (m1 TO q).elim n8 fun k => k TO hTO rfl
  · exact fun q => (m2 z q).elim n4 fun k => k z hz rfl
  · exact fun q => (m2 TO q).elim n9 fun k => k TO hTO rfl
  · exact fun q => (m2 i1 q).elim n10 fun k => k i1 h1 rfl
  · exact fun q => (m1 i2 q).elim (fun e => n10 e.symm) fun k => k i2 h2 rfl
theorem turn_zipS {P : Program} {w : World} {K : PySem.W.Frag} {elts : List Expr} {kk : Nat} {tpos : Pos} (c d : Src) (z TI TO i1 i2 : Addr) (nd : [z, TI, TO, i1, i2].Nodup) :
    Turn P w K (.Tuple elts kk tpos) (ItZ K c d) [z, TI, TO, i1, i2] z (fun i h => IsZip h z TI TO .none ∧ IsTupOf2 h TI (.ref i1) (.ref i2) ∧ (∃ x y, IsTupOf2 h TO x y) ∧ c.st i1 i h ∧ d.st i2 i h) where
  mem := by simp
  obj := fun i h st b hb => by
    obtain ⟨hz, hTI, ⟨x, y, hTO⟩, h1, h2⟩ := st
    have e' : b = z ∨ b = TI ∨ b = TO ∨ b = i1 ∨ b = i2 := by simpa using hb
    rcases e' with q | q | q | q | q
    · rw [q]; exact ⟨_, hz, fun v q => nomatch q⟩
    · rw [q]; exact ⟨_, hTI, fun v q => nomatch q⟩
    · rw [q]; exact ⟨_, hTO, fun v q => nomatch q⟩
    · rw [q]; exact h1.st_obj
    · rw [q]; exact h2.st_obj
  keep := fun i h h' st k => by
    obtain ⟨hz, hTI, ⟨x, y, hTO⟩, h1, h2⟩ := st
    exact ⟨k z (by simp) _ hz, k TI (by simp) _ hTI, ⟨x, y, k TO (by simp) _ hTO⟩, h1.st_at fun o q => k i1 (by simp) o q, h2.st_at fun o q => k i2 (by simp) o q⟩
  item := by
    intro X hP hw hK hc i pins s σ H E I hf st hg
    subst hP hw hK
    obtain ⟨hz, hTI, ⟨x0, y0, hTO⟩, h1, h2⟩ := st
    obtain ⟨xs, ys, x, y, hqx, hqy, hx, hy⟩ := hg
    have fz := hf z (by simp)
    have fTI := hf TI (by simp)
    have fTO := hf TO (by simp)
    have f1 := hf i1 (by simp)
    have f2 := hf i2 (by simp)
    obtain ⟨fp1, St1, D1, s1, s2, m1, m2⟩ := Src.draws I X.A.in1 (I.ok.hd hc) hqx f1
    obtain ⟨fp2, St2, D2, t1, t2, k1, k2⟩ := Src.draws I X.A.in1 (I.ok.hd hc) hqy f2
    have SS := zipSep fz fTI fTO f1 f2 nd m1 k1 m2 k2
    have hzl : z < s.heap.objs.size := Heap.lt_size hz
    refine wpAny_pyNext_zipD2_item SS D1 D2 hz hTI hTO (s1 i h1) (t1 i h2) (List.getElem?_eq_some_iff.mp hx).1 (List.getElem?_eq_some_iff.mp hy).1 fun u u2 h' tk ⟨x', hx', ru⟩ ⟨y', hy', ru2⟩ z' TO' h1' h2' hT hsz hk => ?_
    rw [hx] at hx'
    cases hx'
    rw [hy] at hy'
    cases hy'
    refine ⟨_, rfl, wpAny_letOwnedTupleGo_zip (s := { s with heap := h', toks := tk }) z' fun h'' z'' sb => ?_⟩
    have hT2 : h''.get? s.heap.objs.size = some { cls := .type "tuple", data := .seq #[u, u2] } := (sb.2 _ (Nat.ne_of_gt hzl)).trans hT
    have new : ObjOk X.prog X.w (upd H s.heap.objs.size (.tup [x, y])) h'' s.heap.objs.size (.tup [x, y]) :=
      ⟨by show 2 ≤ sizeLine; decide, [u, u2], .cons ru (.cons ru2 .nil), ⟨_, hT2, rfl, _, rfl⟩⟩
    have I1 : Inv X pins σ (upd H s.heap.objs.size (.tup [x, y])) { s with heap := h'', toks := tk } :=
      I.turnedNew (ch := [z, TI, TO, i1, i2]) (fun c o hb q => (sb.2 c (fun q' => hb (by simp [q']))).trans (hk c o (fun q' => hb (by simp [q'])) (fun q' => hb (by simp [q'])) (fun q' => hb (by simp [q'])) (fun q' => hb (by simp [q'])) q)) hf (Nat.le_refl _) new
    refine ⟨.ref s.heap.objs.size, _, I1, rfl, ⟨_, x, y, rfl, I.hok.fresh (Nat.le_refl _), rfl, fun l hl => by rw [Src.inj I hl hqx]; exact hx, fun l hl => by rw [Src.inj I hl hqy]; exact hy⟩, ⟨z'', ?_, ⟨u, u2, ?_⟩, ?_, ?_⟩, fun c hcm => ?_⟩
    · exact (sb.2 _ SS.TIz).trans (hk _ _ SS.TIz SS.TITO SS.TIi1 SS.TIi2 hTI)
    · exact (sb.2 _ SS.TOz).trans TO'
    · exact (s2 _ _ h1').st_at fun o q => (sb.2 _ (Ne.symm SS.zi1)).trans q
    · exact (t2 _ _ h2').st_at fun o q => (sb.2 _ (Ne.symm SS.zi2)).trans q
    · have hlt : c < s.heap.objs.size := by
        have e' : c = z ∨ c = TI ∨ c = TO ∨ c = i1 ∨ c = i2 := by simpa using hcm
        rcases e' with q | q | q | q | q
        · rw [q]; exact hzl
        · rw [q]; exact Heap.lt_size hTI
        · rw [q]; exact Heap.lt_size hTO
        · rw [q]; obtain ⟨_, e1, _⟩ := h1.st_obj; exact Heap.lt_size e1
        · rw [q]; obtain ⟨_, e2, _⟩ := h2.st_obj; exact Heap.lt_size e2
      rw [upd_ne (Nat.ne_of_lt hlt)]
      exact (hf c hcm).1
  done := by
    intro X hP hw hK hc i pins s σ H E I hf st hg
    subst hP hw hK
    obtain ⟨hz, hTI, ⟨x0, y0, hTO⟩, h1, h2⟩ := st
    obtain ⟨xs, ys, hqx, hqy, hend⟩ := hg
    have f1 := hf i1 (by simp)
    have f2 := hf i2 (by simp)
    obtain ⟨fp1, St1, D1, s1, s2, m1, m2⟩ := Src.draws I X.A.in1 (I.ok.hd hc) hqx f1
    obtain ⟨fp2, St2, D2, t1, t2, k1, k2⟩ := Src.draws I X.A.in1 (I.ok.hd hc) hqy f2
    have SS := zipSep (hf z (by simp)) (hf TI (by simp)) (hf TO (by simp)) f1 f2 nd m1 k1 m2 k2
    refine wpAny_pyNext_zipD2_end SS D1 D2 hz hTI hTO (s1 i h1) (t1 i h2) (by omega) (by omega) (by omega) fun h' tk hk => ⟨rfl, I.turnedL (ch := [z, TI, TO, i1, i2]) (fun c o hb q => hk c o (fun q' => hb (by simp [q'])) (fun q' => hb (by simp [q'])) (fun q' => hb (by simp [q'])) (fun q' => hb (by simp [q'])) q) hf⟩
  self := fun A i s Q E st h => wpAny_pyIter_zip st.1 h
end Twl

/-! TL10: iterables, read canonically. -/
namespace Twl
open PySem PySem.Spec PyProof.Rows L2

/-! ### enumerate over anything that begins -/
theorem meets_enumerate_new1 {v : Value} {o : Obj} {H : Heap → Prop} (B : Begins v o H) :
    Meets (Builtin.«enumerate.__new__» ⟨[.type "enumerate", v], []⟩) (fun _ R s => H s.heap ∧
      R (.ok (.ret (.ref (s.heap.push o).objs.size))) { s with heap := (s.heap.push o).push { cls := .type "enumerate", data := .fields #[.none, .bool false, .ref s.heap.objs.size, rawInt 0, .none, .none] } }) :=
  .of_wp fun prog w A R s h => by
    obtain ⟨hp, g, d, tk, os⟩ := s; obtain ⟨h1, h⟩ := h
    have hsub := sub_enumerate
    have q1 : ∀ {A' : Around} {E : Value → Shared → Prop} {Q : Value → Shared → Prop}, Q (.ref hp.objs.size) ⟨hp.push o, g, d, tk, os⟩ → wpAny (model prog w) A' (pyIter v) Q E ⟨hp, g, d, tk, os⟩ :=
      fun q => B.iter prog w _ _ ⟨hp, g, d, tk, os⟩ _ h1 q
    wp_walk using q1
    refine wpAny_stack_any fun st => wpAny_pure ?_
    split
    · rename_i c _ _ _ _ _
      cases (c == Value.type "enumerate")
      · wp_walk using q1
        exact ⟨_, rfl, h⟩
      · wp_walk using q1
        exact ⟨_, rfl, h⟩
    · wp_walk using q1
      exact ⟨_, rfl, h⟩
theorem enum_begins1 {prog : Program} {w : World} {A : Around} {E : Value → Shared → Prop} {s : Shared} {v : Value} {o : Obj} {H : Heap → Prop} {Q : Value → Shared → Prop} (B : Begins v o H) (h1 : H s.heap)
    (h : ∀ h', IsEnum h' (s.heap.objs.size + 1) s.heap.objs.size 0 .none → h'.get? s.heap.objs.size = some o → h'.objs.size = s.heap.objs.size + 2 →
      (∀ b o, s.heap.get? b = some o → h'.get? b = some o) → Q (.ref (s.heap.objs.size + 1)) { s with heap := h' }) :
    wpAny (model prog w) A (call (.type "enumerate") [v]) Q E s := by
  refine callType_new F.called_enumerate (by decide) (F.typeCall_enumerate_1 _) (F.newCall_enumerate_1 _) (fun obj => F.args_object_init_2 obj _) F.entry_enumerate_new
    (meets_enumerate_new1 B) ⟨h1, ?_⟩
  have hz : (s.heap.push o).objs.size = s.heap.objs.size + 1 := Heap.size_push ..
  show _ ∧ _
  rw [hz]
  have he : IsEnum ((s.heap.push o).push { cls := .type "enumerate", data := .fields #[.none, .bool false, .ref s.heap.objs.size, rawInt 0, .none, .none] }) (s.heap.objs.size + 1) s.heap.objs.size 0 .none := by
    have := Heap.get?_push_size (s.heap.push o) (o := { cls := .type "enumerate", data := .fields #[.none, .bool false, .ref s.heap.objs.size, rawInt 0, .none, .none] }) rfl
    rw [hz] at this; exact this
  refine ⟨⟨_, he, rfl⟩, h _ he (Heap.get?_push_of_some _ (Heap.get?_push_size _ B.free)) (by rw [Heap.size_push, hz]) fun b o x => Heap.get?_push_of_some _ (Heap.get?_push_of_some _ x)⟩

theorem nd5 (n : Addr) : [n + 4, n + 2, n + 3, n, n + 1].Nodup := by
  have h : ∀ (n : Nat), [n + 4, n + 2, n + 3, n, n + 1].Nodup := fun n => by
    simp only [List.nodup_cons, List.mem_cons, not_or, List.not_mem_nil, not_false_eq_true, List.nodup_nil, and_true]
    omega
  exact h n
/-! ### raw rules -/
def Src.is (c : Src) (v : V) : Prop := match c with
  | .lst a => v = .ref a
  | .tup a => v = .ref a
  | .txt x _ => v = .str x
theorem Src.real {c : Src} {v : V} {u : Value} {K : PySem.W.Frag} {H : Hp} {xs : List V} (h : c.is v) (hs : c.has K H xs) (r : RelV v u) : ∃ c' : Src, c'.is v ∧ c'.has K H xs ∧ c'.val = u := by
  cases c with
  | lst a => obtain rfl : v = .ref a := h; obtain rfl : u = Value.ref a := r; exact ⟨.lst a, rfl, hs, rfl⟩
  | tup a => obtain rfl : v = .ref a := h; obtain rfl : u = Value.ref a := r; exact ⟨.tup a, rfl, hs, rfl⟩
  | txt x t => obtain rfl : v = .str x := h; obtain ⟨t', rfl⟩ := r; exact ⟨.txt x t', rfl, hs, rfl⟩
def iSeq (K : PySem.W.Frag) (te : TE) : TI := fun σ H R => te σ H fun v H1 => (∃ a, v = .ref a ∧ (∃ xs, SqL K H1 a xs) ∧ R (Itl K a) H1) ∨ (∃ a, v = .ref a ∧ (∃ xs, SqT K H1 a xs) ∧ R (Itt K a) H1) ∨ (∃ x, v = .str x ∧ R (Its x) H1)
section
variable {X : Cx} {tg : Expr}
theorem pi_sq {e : Expr} {te : TE} (he : PE X e te) : PI X tg e (iSeq X.K te) := by
  refine ⟨fun pins s σ H R I h => ?_⟩
  refine thn (he.run pins s σ H _ I h) fun v s1 ⟨x, H1, I1, r1, q1⟩ => ?_
  rcases q1 with ⟨a, e, ⟨xs, hq⟩, q⟩ | ⟨a, e, ⟨xs, hq⟩, q⟩ | ⟨y, e, q⟩
  · subst e
    cases r1
    obtain ⟨its, rv, p, hz⟩ := I1.list hq
    exact wpAny_pyIter_list p.isList (pi_one (tk := s1.toks) I1 _ (turn_list a _) ⟨_, Heap.get?_push_size _ rfl, rfl, rfl⟩ q)
  · subst e
    cases r1
    obtain ⟨its, rv, p, hz⟩ := I1.tuple hq
    exact wpAny_pyIter_tuple (show s1.heap.IsTuple a its.toArray from p) (pi_one (tk := s1.toks) I1 _ (turn_tuple a _) ⟨_, Heap.get?_push_size _ rfl, rfl, rfl⟩ q)
  · subst e
    obtain ⟨t, rfl⟩ := r1
    cases ha : y.cps.all (· < 128)
    · exact wpAny_pyIter_wide ha (pi_one (tk := s1.toks) I1 _ (turn_str _ y t "str_iterator" (.inr rfl)) ⟨_, Heap.get?_push_size _ rfl, rfl, rfl⟩ q)
    · exact wpAny_pyIter_ascii ha (pi_one (tk := s1.toks) I1 _ (turn_str _ y t "str_ascii_iterator" (.inl rfl)) ⟨_, Heap.get?_push_size _ rfl, rfl, rfl⟩ q)
def iEn1 (K : PySem.W.Frag) (ta : TA) : TI := fun σ H R => ta σ H fun vs H1 => ∃ v xs, vs = [v] ∧ (∃ c : Src, c.is v ∧ c.has K H1 xs) ∧ ∀ c : Src, c.is v → c.has K H1 xs → R (ItE K c 0) H1
def iEn2 (K : PySem.W.Frag) (ta : TA) : TI := fun σ H R => ta σ H fun vs H1 => ∃ v k xs, vs = [v, .int k] ∧ (-(2 ^ 63) ≤ k ∧ k < 2 ^ 63) ∧ (∃ c : Src, c.is v ∧ c.has K H1 xs) ∧ ∀ c : Src, c.is v → c.has K H1 xs → R (ItE K c k) H1
def iZp (K : PySem.W.Frag) (ta : TA) : TI := fun σ H R => ta σ H fun vs H1 => ∃ v u xs ys, vs = [v, u] ∧ (∃ c : Src, c.is v ∧ c.has K H1 xs) ∧ (∃ c : Src, c.is u ∧ c.has K H1 ys) ∧ ∀ c d : Src, c.is v → c.has K H1 xs → d.is u → d.has K H1 ys → R (ItZ K c d) H1
theorem pi_en1 {e : Expr} {ta : TA} {p pos tpos : Pos} {elts : List Expr} {kk : Nat} (hg : Gl X "enumerate") (hm : X.mg "enumerate" = none) (ha : PA X [e] ta) (hs : starEach [e] X.env = [(false, eval e X.env)] := by first | exact star_c rfl | rfl) :
    PI X (.Tuple elts kk tpos) (.Call (.Name "enumerate" p) [e] [] pos) (iEn1 X.K ta) := by
  refine ⟨fun pins s σ H R I h => ?_⟩
  refine Call_ (ld_blt I hg hm boot_enumerate (PyProof.Rows.callWith_type1 (thn (ha.run pos pins s σ H _ I h) fun us s1 ⟨vs, H1, I1, r1, q1⟩ => ?_) hs rfl))
  obtain ⟨v, xs, ex, ⟨c, c1, c2⟩, q⟩ := q1
  subst ex
  cases r1 with
  | cons r rr =>
    cases rr
    obtain ⟨c', d1, d2, d3⟩ := Src.real c1 c2 r
    obtain ⟨Hc, B, hB⟩ := Src.begins I1 d2
    rw [d3] at B
    refine enum_begins1 B hB fun h' he hit hsz hk => wpAny_pyIter_enum he ?_
    have I2 : Inv X pins σ H1 { s1 with heap := h' } := I1.kept (t' := s1.toks) hk
    refine ⟨s1.heap.objs.size + 1, [s1.heap.objs.size + 1, s1.heap.objs.size], _, _, H1, rfl, I2, turn_enumS c' 0 (s1.heap.objs.size + 1) s1.heap.objs.size, ⟨⟨.none, ?_⟩, Src.st_new hit, Nat.succ_ne_self _⟩, fun b hb => ?_, q c' d1 d2⟩
    · have e1 : (0 : Int) + ((0 : Nat) : Int) = 0 := by simp
      rw [e1]; exact he
    · have e' : b = s1.heap.objs.size + 1 ∨ b = s1.heap.objs.size := by simpa using hb
      have hle : s1.heap.objs.size ≤ b := by
        rcases e' with z | z
        · rw [z]; exact Nat.le_add_right _ _
        · rw [z]; exact Nat.le_refl _
      exact I1.fpOk hle (I1.hok.fresh hle)
theorem pi_en2 {e e2 : Expr} {ta : TA} {p pos tpos : Pos} {elts : List Expr} {kk : Nat} (hg : Gl X "enumerate") (hm : X.mg "enumerate" = none) (ha : PA X [e, e2] ta)
    (hs : starEach [e, e2] X.env = (false, eval e X.env) :: starEach [e2] X.env := by first | exact star_c rfl | rfl) (hpl : (backTo pos (starEach [e2] X.env)).any (·.1) = false := by first | exact star_any rfl | rfl) :
    PI X (.Tuple elts kk tpos) (.Call (.Name "enumerate" p) [e, e2] [] pos) (iEn2 X.K ta) := by
  refine ⟨fun pins s σ H R I h => ?_⟩
  refine Call_ (ld_blt I hg hm boot_enumerate (PyProof.Rows.callWith_type1 (thn (ha.run pos pins s σ H _ I h) fun us s1 ⟨vs, H1, I1, r1, q1⟩ => ?_) hs hpl))
  obtain ⟨v, k, xs, ex, ⟨k0, k1⟩, ⟨c, c1, c2⟩, q⟩ := q1
  subst ex
  cases r1 with
  | cons r rr =>
    cases rr with
    | cons r' rr =>
      cases rr
      obtain ⟨t, rfl⟩ := r'
      obtain ⟨c', d1, d2, d3⟩ := Src.real c1 c2 r
      obtain ⟨Hc, B, hB⟩ := Src.begins I1 d2
      rw [d3] at B
      refine enum_begins B hB k0 k1 fun h' he hit hsz hk => wpAny_pyIter_enum he ?_
      have I2 : Inv X pins σ H1 { s1 with heap := h' } := I1.kept (t' := s1.toks) hk
      refine ⟨s1.heap.objs.size + 1, [s1.heap.objs.size + 1, s1.heap.objs.size], _, _, H1, rfl, I2, turn_enumS c' k (s1.heap.objs.size + 1) s1.heap.objs.size, ⟨⟨.none, ?_⟩, Src.st_new hit, Nat.succ_ne_self _⟩, fun b hb => ?_, q c' d1 d2⟩
      · have e1 : k + ((0 : Nat) : Int) = k := by simp
        rw [e1]; exact he
      · have e' : b = s1.heap.objs.size + 1 ∨ b = s1.heap.objs.size := by simpa using hb
        have hle : s1.heap.objs.size ≤ b := by
          rcases e' with z | z
          · rw [z]; exact Nat.le_add_right _ _
          · rw [z]; exact Nat.le_refl _
        exact I1.fpOk hle (I1.hok.fresh hle)
theorem pi_zp {e e2 : Expr} {ta : TA} {p pos tpos : Pos} {elts : List Expr} {kk : Nat} (hg : Gl X "zip") (hm : X.mg "zip" = none) (ha : PA X [e, e2] ta)
    (hs : starEach [e, e2] X.env = (false, eval e X.env) :: starEach [e2] X.env := by first | exact star_c rfl | rfl) (hpl : (backTo pos (starEach [e2] X.env)).any (·.1) = false := by first | exact star_any rfl | rfl) :
    PI X (.Tuple elts kk tpos) (.Call (.Name "zip" p) [e, e2] [] pos) (iZp X.K ta) := by
  refine ⟨fun pins s σ H R I h => ?_⟩
  refine Call_ (ld_blt I hg hm PyProof.Rows.boot_zip (PyProof.Rows.callWith_type1 (thn (ha.run pos pins s σ H _ I h) fun us s1 ⟨vs, H1, I1, r1, q1⟩ => ?_) hs hpl))
  obtain ⟨v, u, xs, ys, ex, ⟨c, c1, c2⟩, ⟨d, d1, d2⟩, q⟩ := q1
  subst ex
  cases r1 with
  | cons r rr =>
    cases rr with
    | cons r' rr =>
      cases rr
      obtain ⟨c', a1, a2, a3⟩ := Src.real c1 c2 r
      obtain ⟨d', b1, b2, b3⟩ := Src.real d1 d2 r'
      obtain ⟨Hc, B, hB⟩ := Src.begins I1 a2
      obtain ⟨Hd, B', hB'⟩ := Src.begins I1 b2
      rw [a3] at B
      rw [b3] at B'
      refine zip_begins2 B B' hB hB' fun h' hz hTI hTO h1 h2 hsz hk => wpAny_pyIter_zip hz ?_
      have I2 : Inv X pins σ H1 { s1 with heap := h' } := I1.kept (t' := s1.toks) hk
      have nd := nd5 s1.heap.objs.size
      refine ⟨s1.heap.objs.size + 4, [s1.heap.objs.size + 4, s1.heap.objs.size + 2, s1.heap.objs.size + 3, s1.heap.objs.size, s1.heap.objs.size + 1], _, _, H1, rfl, I2, turn_zipS c' d' _ _ _ _ _ nd, ⟨hz, hTI, ⟨_, _, hTO⟩, Src.st_new h1, Src.st_new h2⟩, fun c hcm => ?_, q c' d' a1 a2 b1 b2⟩
      have e' : c = s1.heap.objs.size + 4 ∨ c = s1.heap.objs.size + 2 ∨ c = s1.heap.objs.size + 3 ∨ c = s1.heap.objs.size ∨ c = s1.heap.objs.size + 1 := by simpa using hcm
      have hle : s1.heap.objs.size ≤ c := by
        rcases e' with z | z | z | z | z
        · rw [z]; exact Nat.le_add_right _ _
        · rw [z]; exact Nat.le_add_right _ _
        · rw [z]; exact Nat.le_add_right _ _
        · rw [z]; exact Nat.le_refl _
        · rw [z]; exact Nat.le_add_right _ _
      exact I1.fpOk hle (I1.hok.fresh hle)
end
end Twl

/-! TL11: iterables read canonically; for loops; list comprehensions. -/
namespace Twl
open PySem PySem.Spec PyProof.Rows L2

def Rl (fz : Bool) (w w' : Wd) : Prop := match fz with
  | true => Agr w w'
  | false => Le w w'
theorem Rl.agr {S : Kx} {fz : Bool} {w w' : Wd} (ok : Wok S w) (h : Rl fz w w') : Agr w w' := by
  cases fz with
  | true => exact h
  | false => exact Le.agr ok h
theorem Rl.of {S : Kx} {fz : Bool} {w w' : Wd} (ok : Wok S w) (h : Le w w') : Rl fz w w' := by
  cases fz with
  | true => exact h.agr ok
  | false => exact h
theorem Rl.refl {fz : Bool} (w : Wd) : Rl fz w w := by
  cases fz with
  | true => exact Agr.refl w
  | false => exact Le.refl w
structure Yields (S : Kx) (fz : Bool) (J : It) (items : List T) (w : Wd) : Prop where
  sz : items.length ≤ sizeLine
  go : ∀ i w', Wok S w' → Rl fz w w' → i < items.length → J.go i w'.H
  st : ∀ w', Wok S w' → Rl fz w w' → J.stop items.length w'.H
  yl : ∀ i w' v H', Wok S w' → Rl fz w w' → i < items.length → J.yld i w'.H v H' → ∃ w'' t, w''.H = H' ∧ Wok S w'' ∧ Le w' w'' ∧ items[i]? = some t ∧ Rep S w'' t v
def rdi (S : Kx) (W : WX) (fz : Bool) (m : Env → M (List T)) : TI := fun σ H R => ∃ w env fp Q' QE, w.H = H ∧ Wok S w ∧ EnvR S w env σ fp ∧ m env Q' QE ∧
  (∀ items J w', Wok S w' → Le w w' → Yields S fz J items w' → Q' items → R J w'.H) ∧ KontX S w QE W σ
def DI (X : Cx) (S : Kx) (W : WX) (fz : Bool) (tg it : Expr) (m : Env → M (List T)) : Prop := PI X tg it (rdi S W fz m)
theorem PImono {X : Cx} {tg e : Expr} {t t' : TI} (h : PI X tg e t) (k : ∀ σ H R, t' σ H R → t σ H R) : PI X tg e t' := ⟨fun pins s σ H R I q => h.run pins s σ H R I (k σ H R q)⟩

/-! ### what stays -/
structure Stays (S : Kx) (fz : Bool) (w : Wd) (c : Src) (xs : List V) (ts : List T) : Prop where
  at_ : ∀ w', Wok S w' → Rl fz w w' → c.has S.K w'.H xs ∧ Reps S w' ts xs
def tsigns (x : Str) : List T := x.cps.toList.map fun c => T.str ⟨#[c]⟩
def T.its : T → Option (List T)
  | .lst ts => some ts
  | .tup ts => some ts
  | .str x => some (tsigns x)
  | _ => none
theorem reps_signs {S : Kx} {w : Wd} : ∀ l : List Nat, Reps S w (l.map fun c => T.str ⟨#[c]⟩) (l.map fun c => V.str ⟨#[c]⟩)
  | [] => .nil
  | c :: l => .cons (by rw [Rep]) (reps_signs l)
theorem Rep.stays {S : Kx} {fz : Bool} {w : Wd} {t : T} {v : V} {ts : List T} (ok : Wok S w) (r : Rep S w t v) (e : t.its = some ts) : ∃ c xs, c.is v ∧ Stays S fz w c xs ts := by
  cases t <;> simp only [T.its, Option.some.injEq] at e <;> (try cases e)
  · rename_i x
    rw [Rep] at r
    subst r
    refine ⟨.txt x 0, signs x, rfl, ⟨fun w' ok' l => ⟨rfl, reps_signs _⟩⟩⟩
  · rw [Rep] at r
    obtain ⟨p, vs, rfl, h1, h2⟩ := r
    exact ⟨.tup p, vs, rfl, ⟨fun w' ok' l => ⟨((Rl.agr ok l).tup h1).sq, Reps.agr (Rl.agr ok l) _ _ h2⟩⟩⟩
  · rw [Rep] at r
    obtain ⟨p, vs, rfl, h1, h2⟩ := r
    exact ⟨.lst p, vs, rfl, ⟨fun w' ok' l => ⟨((Rl.agr ok l).lst h1).sq, Reps.agr (Rl.agr ok l) _ _ h2⟩⟩⟩
theorem RepB.stays {S : Kx} {w : Wd} {t : T} {v : V} {ts : List T} (ok : Wok S w) (r : RepB S w t v) (e : t.its = some ts) : ∃ c xs, c.is v ∧ Stays S false w c xs ts := by
  cases t with
  | lst us =>
    simp only [T.its, Option.some.injEq] at e
    subst e
    obtain ⟨p, vs, rfl, h0, h1, h2⟩ := r
    refine ⟨.lst p, vs, rfl, ⟨fun w' ok' l => ⟨.inl (.inl (Le.hh l p _ h1 h0 (by intro ps q; cases q))), Reps.agr (Le.agr ok l) _ _ h2⟩⟩⟩
  | tup us => exact Rep.stays ok r e
  | str us => exact Rep.stays ok r e
  | _ => simp [T.its] at e
theorem Reps.len {S : Kx} {w : Wd} {ts : List T} {xs : List V} (h : Reps S w ts xs) : ts.length = xs.length := h.length.symm

/-! ### sizes -/
def Sz (K : PySem.W.Frag) (H : Hp) : Prop := ∀ (c : Src) (xs : List V), (∀ x t, c ≠ .txt x t) → c.has K H xs → xs.length ≤ sizeLine
theorem inv_sz {X : Cx} {pins : List (Addr × Obj)} {σ : L2.St} {H : Hp} {s : Shared} (I : Inv X pins σ H s) : Sz X.K H := fun c xs hc h => by
  cases c with
  | lst a => obtain ⟨its, rv, p, hz⟩ := I.list h; have := rv.length; omega
  | tup a => obtain ⟨its, rv, p, hz⟩ := I.tuple h; have := rv.length; omega
  | txt x t => exact (hc x t rfl).elim
theorem pesz {X : Cx} {e : Expr} {t : TE} (h : PE X e t) : PE X e (fun σ H Q => t σ H fun v H1 => Sz X.K H1 → Q v H1) := ⟨fun pins s σ H Q I q =>
  thn (h.run pins s σ H _ I q) fun v s1 ⟨x, H1, I1, r1, q1⟩ => ⟨x, H1, I1, r1, q1 (inv_sz I1)⟩⟩
theorem pasz {X : Cx} {e : List Expr} {t : TA} (h : PA X e t) : PA X e (fun σ H Q => t σ H fun v H1 => Sz X.K H1 → Q v H1) := ⟨fun ps pins s σ H Q I q =>
  thn (h.run ps pins s σ H _ I q) fun v s1 ⟨x, H1, I1, r1, q1⟩ => ⟨x, H1, I1, r1, q1 (inv_sz I1)⟩⟩

/-! ### the walks yield -/
section
variable {S : Kx} {fz : Bool} {w : Wd} {ts us : List T} {xs ys : List V}
theorem Reps.at' {S : Kx} {w : Wd} {ts : List T} {xs : List V} {i : Nat} {x : V} (r : Reps S w ts xs) (e : xs[i]? = some x) : ∃ t, ts[i]? = some t ∧ Rep S w t x := r.get' e
theorem Reps.at_lt {S : Kx} {w : Wd} {ts : List T} {xs : List V} {i : Nat} (r : Reps S w ts xs) (h : i < ts.length) : ∃ x, xs[i]? = some x := ⟨xs[i]'(by rw [← r.len]; exact h), List.getElem?_eq_getElem _⟩
theorem y_list {a : Addr} (hz : ts.length ≤ sizeLine) (h : Stays S fz w (.lst a) xs ts) : Yields S fz (Itl S.K a) ts w where
  sz := hz
  go := fun i w' ok l hi => by
    obtain ⟨h1, h2⟩ := h.at_ w' ok l
    obtain ⟨x, e⟩ := h2.at_lt hi
    exact ⟨xs, x, h1, e⟩
  st := fun w' ok l => by
    obtain ⟨h1, h2⟩ := h.at_ w' ok l
    exact ⟨xs, h1, by rw [h2.len]; exact Nat.le_refl _⟩
  yl := fun i w' v H' ok l hi y => by
    obtain ⟨h1, h2⟩ := h.at_ w' ok l
    obtain ⟨rfl, y2⟩ := y
    obtain ⟨t, e, r⟩ := h2.at' (y2 xs h1)
    exact ⟨w', t, rfl, ok, .refl _, e, r⟩
theorem y_tup {a : Addr} (hz : ts.length ≤ sizeLine) (h : Stays S fz w (.tup a) xs ts) : Yields S fz (Itt S.K a) ts w where
  sz := hz
  go := fun i w' ok l hi => by
    obtain ⟨h1, h2⟩ := h.at_ w' ok l
    obtain ⟨x, e⟩ := h2.at_lt hi
    exact ⟨xs, x, h1, e⟩
  st := fun w' ok l => by
    obtain ⟨h1, h2⟩ := h.at_ w' ok l
    exact ⟨xs, h1, by rw [h2.len]; exact Nat.le_refl _⟩
  yl := fun i w' v H' ok l hi y => by
    obtain ⟨h1, h2⟩ := h.at_ w' ok l
    obtain ⟨rfl, y2⟩ := y
    obtain ⟨t, e, r⟩ := h2.at' (y2 xs h1)
    exact ⟨w', t, rfl, ok, .refl _, e, r⟩
theorem y_str {x : Str} (hz : x.cps.size ≤ sizeLine) : Yields S fz (Its x) (tsigns x) w where
  sz := by simpa [tsigns] using hz
  go := fun i w' ok l hi => by simpa [tsigns, Its] using hi
  st := fun w' ok l => by simp [tsigns, Its]
  yl := fun i w' v H' ok l hi y => by
    obtain ⟨rfl, c, e, rfl⟩ := y
    exact ⟨w', .str ⟨#[c]⟩, rfl, ok, .refl _, by simp [tsigns, e], by rw [Rep]⟩
theorem y_rng {lo : Int} {n : Nat} (hz : n ≤ sizeLine) : Yields S fz (Itr lo n) ((List.range n).map fun i => T.int (lo + (i : Nat))) w where
  sz := by simpa using hz
  go := fun i w' ok l hi => by simpa [Itr] using hi
  st := fun w' ok l => by simp [Itr]
  yl := fun i w' v H' ok l hi y => by
    obtain ⟨rfl, rfl⟩ := y
    exact ⟨w', .int (lo + (i : Nat)), rfl, ok, .refl _, by simp at hi; simp [hi], by rw [Rep]⟩
theorem y_rngC {lo c : Int} {n : Nat} (hz : n ≤ sizeLine) : Yields S fz (Itc lo c n) ((List.range n).map fun i => T.int (lo + (i : Nat) * c)) w where
  sz := by simpa using hz
  go := fun i w' ok l hi => by simpa [Itc] using hi
  st := fun w' ok l => by simp [Itc]
  yl := fun i w' v H' ok l hi y => by
    obtain ⟨rfl, rfl⟩ := y
    exact ⟨w', .int (lo + (i : Nat) * c), rfl, ok, .refl _, by simp at hi; simp [hi], by rw [Rep]⟩
/-- (k, x), (k + 1, y), .. -/
def enT (k : Int) : List T → List T
  | [] => []
  | t :: ts => .tup [.int k, t] :: enT (k + 1) ts
theorem enT_length : ∀ (k : Int) (ts : List T), (enT k ts).length = ts.length
  | _, [] => rfl
  | k, t :: ts => by simp [enT, enT_length]
theorem enT_get : ∀ (k : Int) (ts : List T) (i : Nat) (t : T), ts[i]? = some t → (enT k ts)[i]? = some (.tup [.int (k + (i : Nat)), t])
  | _, [], _, _, e => by simp at e
  | k, u :: ts, 0, t, e => by simp at e; subst e; simp [enT]
  | k, u :: ts, i + 1, t, e => by
    have := enT_get (k + 1) ts i t (by simpa using e)
    simp only [enT, List.getElem?_cons_succ, this]
    have e2 : k + 1 + (i : Int) = k + ((i + 1 : Nat) : Int) := by omega
    rw [e2]
theorem y_en {c : Src} {k : Int} (hz : ts.length ≤ sizeLine) (h : Stays S fz w c xs ts) : Yields S fz (ItE S.K c k) (enT k ts) w where
  sz := by rw [enT_length]; exact hz
  go := fun i w' ok l hi => by
    rw [enT_length] at hi
    obtain ⟨h1, h2⟩ := h.at_ w' ok l
    obtain ⟨x, e⟩ := h2.at_lt hi
    exact ⟨xs, x, h1, e⟩
  st := fun w' ok l => by
    rw [enT_length]
    obtain ⟨h1, h2⟩ := h.at_ w' ok l
    exact ⟨xs, h1, h2.len.symm⟩
  yl := fun i w' v H' ok l hi y => by
    rw [enT_length] at hi
    obtain ⟨h1, h2⟩ := h.at_ w' ok l
    obtain ⟨p, x, rfl, hn, rfl, y2⟩ := y
    obtain ⟨t, e, r⟩ := h2.at' (y2 xs h1)
    exact ⟨w'.add p (.tup [.int (k + (i : Nat)), x]), _, rfl, add_ok ok hn trivial, add_le hn, enT_get k ts i t e, rep_tup ok hn (.cons (by rw [Rep]) (.cons r .nil))⟩
def zpT : List T → List T → List T
  | t :: ts, u :: us => .tup [t, u] :: zpT ts us
  | _, _ => []
theorem zpT_length : ∀ (ts us : List T), (zpT ts us).length = min ts.length us.length
  | [], _ => by simp [zpT]
  | _ :: _, [] => by simp [zpT]
  | t :: ts, u :: us => by simp [zpT, zpT_length]
theorem zpT_get : ∀ (ts us : List T) (i : Nat) (t u : T), ts[i]? = some t → us[i]? = some u → (zpT ts us)[i]? = some (.tup [t, u])
  | [], _, _, _, _, e, _ => by simp at e
  | _ :: _, [], _, _, _, _, e => by simp at e
  | t :: ts, u :: us, 0, a, b, e, f => by simp at e f; subst e; subst f; simp [zpT]
  | t :: ts, u :: us, i + 1, a, b, e, f => by
    simpa [zpT] using zpT_get ts us i a b (by simpa using e) (by simpa using f)
theorem y_zp {c d : Src} (hz : ts.length ≤ sizeLine) (h : Stays S fz w c xs ts) (g : Stays S fz w d ys us) : Yields S fz (ItZ S.K c d) (zpT ts us) w where
  sz := by rw [zpT_length]; omega
  go := fun i w' ok l hi => by
    rw [zpT_length] at hi
    obtain ⟨h1, h2⟩ := h.at_ w' ok l
    obtain ⟨g1, g2⟩ := g.at_ w' ok l
    obtain ⟨x, e⟩ := h2.at_lt (i := i) (by omega)
    obtain ⟨y, f⟩ := g2.at_lt (i := i) (by omega)
    exact ⟨xs, ys, x, y, h1, g1, e, f⟩
  st := fun w' ok l => by
    rw [zpT_length]
    obtain ⟨h1, h2⟩ := h.at_ w' ok l
    obtain ⟨g1, g2⟩ := g.at_ w' ok l
    exact ⟨xs, ys, h1, g1, by rw [h2.len, g2.len]⟩
  yl := fun i w' v H' ok l hi y => by
    obtain ⟨h1, h2⟩ := h.at_ w' ok l
    obtain ⟨g1, g2⟩ := g.at_ w' ok l
    obtain ⟨p, x, y, rfl, hn, rfl, y2, y3⟩ := y
    obtain ⟨t, e, r⟩ := h2.at' (y2 xs h1)
    obtain ⟨u, f, q⟩ := g2.at' (y3 ys g1)
    exact ⟨w'.add p (.tup [x, y]), _, rfl, add_ok ok hn trivial, add_le hn, zpT_get ts us i t u e f, rep_tup ok hn (.cons r (.cons q .nil))⟩
end

/-! ### the rules -/
def mIts (me : Env → M T) : Env → M (List T) := fun env => bnd (me env) fun t => ofO t.its ret
section
variable {X : Cx} {S : Kx} {W : WX} {fz : Bool} {tg e e2 e3 : Expr} {me : Env → M T} {mas : Env → M (List T)} {k : Nat} {p pos : Pos} {w w1 : Wd} {env : Env} {σ : L2.St} {fp : List Addr}
theorem src_raw {R : It → Hp → Prop} {t : T} {ts : List T} {v : V} (ok : Wok S w) (hz : Sz S.K w.H) (hs : ∀ x, t = .str x → x.cps.size ≤ sizeLine)
    (h : ∃ c xs, c.is v ∧ Stays S fz w c xs ts) (he : t.its = some ts) (hv : (∀ x, v = .str x → t = .str x)) (k : ∀ J, Yields S fz J ts w → R J w.H) :
    (∃ a, v = .ref a ∧ (∃ xs, SqL S.K w.H a xs) ∧ R (Itl S.K a) w.H) ∨ (∃ a, v = .ref a ∧ (∃ xs, SqT S.K w.H a xs) ∧ R (Itt S.K a) w.H) ∨ (∃ x, v = .str x ∧ R (Its x) w.H) := by
  obtain ⟨c, xs, h1, h2⟩ := h
  obtain ⟨a1, a2⟩ := h2.at_ w ok (.refl w)
  cases c with
  | lst a => exact .inl ⟨a, h1, ⟨xs, a1⟩, k _ (y_list (by rw [a2.len]; exact hz (.lst a) xs (fun _ _ q => by cases q) a1) h2)⟩
  | tup a => exact .inr (.inl ⟨a, h1, ⟨xs, a1⟩, k _ (y_tup (by rw [a2.len]; exact hz (.tup a) xs (fun _ _ q => by cases q) a1) h2)⟩)
  | txt x t =>
    obtain rfl := hv x h1
    have e : tsigns x = ts := Option.some.inj he
    subst e
    exact .inr (.inr ⟨x, h1, k _ (y_str (hs x rfl))⟩)
/-- the items of what is walked; a text is short -/
def mSrc (me : Env → M T) : Env → M (List T) := fun env => bnd (me env) fun t => ofO t.its fun ts => gd (∀ x, t = .str x → x.cps.size ≤ sizeLine) (ret ts)
theorem rep_str_of {S : Kx} {w : Wd} {t : T} {x : Str} (r : Rep S w t (.str x)) (e : ∃ ts, t.its = some ts) : t = .str x := by
  obtain ⟨ts, e⟩ := e
  cases t with
  | str y => rw [Rep] at r; rw [V.str.inj r]
  | lst us => rw [Rep] at r; obtain ⟨p, vs, q, _⟩ := r; cases q
  | tup us => rw [Rep] at r; obtain ⟨p, vs, q, _⟩ := r; cases q
  | _ => simp [T.its] at e
theorem repB_str_of {S : Kx} {w : Wd} {t : T} {x : Str} (r : RepB S w t (.str x)) (e : ∃ ts, t.its = some ts) : t = .str x := by
  cases t with
  | lst us => obtain ⟨p, vs, q, _⟩ := r; cases q
  | str y => exact rep_str_of (S := S) (w := w) (show Rep S w (.str y) (.str x) from r) e
  | tup y => exact rep_str_of (S := S) (w := w) (show Rep S w (.tup y) (.str x) from r) e
  | _ => obtain ⟨ts, e⟩ := e; simp [T.its] at e
theorem di_seq (hK : X.K = S.K) (he : DE X S W 0 e me) : DI X S W fz tg e (mSrc me) := PImono (pi_sq (pesz he)) fun σ H R h => by
  obtain ⟨w, env, fp, Q', QE, rfl, ok, er, hm, kt, kx⟩ := h
  rw [hK]
  refine rd_use ok er hm (.z fun t v w1 ok1 l1 r1 q => ?_) kx
  intro hz
  obtain ⟨ts, e1, h1, q⟩ := ofO_inv q
  exact src_raw ok1 hz h1 (r1.stays ok1 e1) e1 (fun x q => rep_str_of (q ▸ r1) ⟨ts, e1⟩) fun J y => kt _ J w1 ok1 l1 y q
theorem di_seqB (hK : X.K = S.K) (he : DB X S W e me) : DI X S W false tg e (mSrc me) := PImono (pi_sq (pesz he)) fun σ H R h => by
  obtain ⟨w, env, fp, Q', QE, rfl, ok, er, hm, kt, kx⟩ := h
  rw [hK]
  unfold iSeq
  refine rdb_use ok er hm (fun t v w1 ok1 l1 r1 q => ?_) kx
  intro hz
  obtain ⟨ts, e1, h1, q⟩ := ofO_inv q
  exact src_raw ok1 hz h1 (r1.stays ok1 e1) e1 (fun x q => repB_str_of (q ▸ r1) ⟨ts, e1⟩) fun J y => kt _ J w1 ok1 l1 y q
/-- range(lo, lo + n) -/
def irT (lo : Int) (n : Nat) : List T := (List.range n).map fun i => T.int (lo + (i : Nat))
def irT_C (lo c : Int) (n : Nat) : List T := (List.range n).map fun i => T.int (lo + (i : Nat) * c)
def gRng1 : List T → M (List T)
  | [.int j] => gd (-(2 ^ 62) ≤ j ∧ j.toNat ≤ sizeLine) (ret (irT 0 j.toNat))
  | _ => stuck
def gRng2 : List T → M (List T)
  | [.int i, .int j] => gd ((-(2 ^ 62) ≤ i ∧ i < 2 ^ 62 ∧ -(2 ^ 62) ≤ j ∧ j < 2 ^ 62) ∧ (j - i).toNat ≤ sizeLine) (ret (irT i (j - i).toNat))
  | _ => stuck
def gRng3 : List T → M (List T)
  | [.int i, .int j, .int c] => fun Q _ => ∃ n, RgC i j c n ∧ n ≤ sizeLine ∧ Q (irT_C i c n)
  | _ => stuck
def mArg (g : List T → M (List T)) (mas : Env → M (List T)) : Env → M (List T) := fun env => bnd (mas env) g
theorem di_rng1 (hmg : S.mg "range" = none) (E : Eu X S) (ha : DA X S W [e] mas) (hg : Gl X "range" := by rfl) (hs : starEach [e] X.env = [(false, eval e X.env)] := by first | exact star_c rfl | rfl) : DI X S W fz tg (.Call (.Name "range" p) [e] [] pos) (mArg gRng1 mas) :=
  PImono (pi_range1 hg (by rw [E.hmg]; exact hmg) ha hs) fun σ H R h => by
    obtain ⟨w, env, fp, Q', QE, rfl, ok, er, hm, kt, kx⟩ := h
    refine rda_use ok er hm (fun ts vs w1 ok1 l1 r1 q => ?_) kx
    unfold gRng1 at q
    split at q
    · rename_i j
      obtain ⟨x, vs', rfl, a1, a2⟩ := r1.cons_inv
      obtain rfl := a2.nil_inv
      rw [Rep] at a1
      subst a1
      obtain ⟨⟨q1, q2⟩, q⟩ := q
      have hz : sizeLine < 2 ^ 62 := by decide
      exact ⟨j, rfl, q1, by omega, kt _ _ w1 ok1 l1 (y_rng q2) q⟩
    · exact q.elim
theorem di_rng2 (hmg : S.mg "range" = none) (E : Eu X S) (ha : DA X S W [e, e2] mas) (hg : Gl X "range" := by rfl) (hs : starEach [e, e2] X.env = [(false, eval e X.env), (false, eval e2 X.env)] := by first | exact star_c rfl | rfl) (hs2 : starEach [e2] X.env = [(false, eval e2 X.env)] := by first | exact star_c rfl | rfl) :
    DI X S W fz tg (.Call (.Name "range" p) [e, e2] [] pos) (mArg gRng2 mas) :=
  PImono (pi_range2 hg (by rw [E.hmg]; exact hmg) ha hs hs2) fun σ H R h => by
    obtain ⟨w, env, fp, Q', QE, rfl, ok, er, hm, kt, kx⟩ := h
    refine rda_use ok er hm (fun ts vs w1 ok1 l1 r1 q => ?_) kx
    unfold gRng2 at q
    split at q
    · rename_i i j
      obtain ⟨x, vs', rfl, a1, a2⟩ := r1.cons_inv
      obtain ⟨y, vs'', rfl, b1, b2⟩ := a2.cons_inv
      obtain rfl := b2.nil_inv
      rw [Rep] at a1 b1
      subst a1; subst b1
      obtain ⟨⟨q1, q2⟩, q⟩ := q
      exact ⟨i, j, rfl, q1, kt _ _ w1 ok1 l1 (y_rng q2) q⟩
    · exact q.elim
theorem di_rng3 (hmg : S.mg "range" = none) (E : Eu X S) (ha : DA X S W [e, e2, e3] mas) (hg : Gl X "range" := by rfl) (hs : starEach [e, e2, e3] X.env = (false, eval e X.env) :: starEach [e2, e3] X.env := by first | exact star_c rfl | rfl) (hpl : (backTo pos (starEach [e2, e3] X.env)).any (·.1) = false := by first | exact star_any rfl | rfl) :
    DI X S W fz tg (.Call (.Name "range" p) [e, e2, e3] [] pos) (mArg gRng3 mas) :=
  PImono (pi_range3 hg (by rw [E.hmg]; exact hmg) ha hs hpl) fun σ H R h => by
    obtain ⟨w, env, fp, Q', QE, rfl, ok, er, hm, kt, kx⟩ := h
    refine rda_use ok er hm (fun ts vs w1 ok1 l1 r1 q => ?_) kx
    unfold gRng3 at q
    split at q
    · rename_i i j c
      obtain ⟨x, vs', rfl, a1, a2⟩ := r1.cons_inv
      obtain ⟨y, vs'', rfl, b1, b2⟩ := a2.cons_inv
      obtain ⟨z, vs3, rfl, c1, c2⟩ := b2.cons_inv
      obtain rfl := c2.nil_inv
      rw [Rep] at a1 b1 c1
      subst a1; subst b1; subst c1
      obtain ⟨n, q1, q2, q⟩ := q
      exact ⟨i, j, c, n, rfl, q1, kt _ _ w1 ok1 l1 (y_rngC q2) q⟩
    · exact q.elim
/-! the arguments of enumerate and zip: frozen, or borrowed where nothing is changed on the way -/
def rdaF (S : Kx) (W : WX) (fz : Bool) (m : Env → M (List T)) : TA := match fz with
  | true => rda S W m
  | false => rdab S W m
def DAF (X : Cx) (S : Kx) (W : WX) (fz : Bool) (es : List Expr) (m : Env → M (List T)) : Prop := PA X es (rdaF S W fz m)
theorem daf (h : DA X S W es mas) : DAF X S W true es mas := h
theorem dafb (h : DAB X S W es mas) : DAF X S W false es mas := h
def RepF (S : Kx) (fz : Bool) (w : Wd) (t : T) (v : V) : Prop := match fz with
  | true => Rep S w t v
  | false => RepB S w t v
def RepsF (S : Kx) (fz : Bool) (w : Wd) : List T → List V → Prop
  | [], vs => vs = []
  | t :: ts, vs => ∃ v vs', vs = v :: vs' ∧ RepF S fz w t v ∧ RepsF S fz w ts vs'
theorem Reps.f {S : Kx} {w : Wd} : ∀ {ts : List T} {vs : List V}, Reps S w ts vs → RepsF S true w ts vs
  | [], _, h => h.nil_inv
  | _ :: _, _, h => by obtain ⟨v, vs', e, h1, h2⟩ := h.cons_inv; exact ⟨v, vs', e, h1, h2.f⟩
theorem RepsB.f {S : Kx} {w : Wd} : ∀ {ts : List T} {vs : List V}, RepsB S w ts vs → RepsF S false w ts vs
  | [], _, h => h
  | _ :: _, _, h => by obtain ⟨v, vs', e, h1, h2⟩ := h; exact ⟨v, vs', e, h1, h2.f⟩
theorem RepF.stays {t : T} {v : V} {ts : List T} (ok : Wok S w) (r : RepF S fz w t v) (e : t.its = some ts) : ∃ c xs, c.is v ∧ Stays S fz w c xs ts := by
  cases fz with
  | true => exact Rep.stays ok r e
  | false => exact RepB.stays ok r e
theorem RepF.flat {t : T} {v : V} (r : RepF S fz w t v) (h : t.flat = true) : Rep S w t v := by
  cases fz with
  | true => exact r
  | false => cases t <;> first | exact r | (simp [T.flat] at h; done)
theorem rdaF_use {m : Env → M (List T)} {Q' : List T → Prop} {QE : Exn → Prop} {Q : List V → Hp → Prop} (ok : Wok S w) (er : EnvR S w env σ fp) (hm : m env Q' QE) (k : ∀ rs vs w', Wok S w' → Le w w' → RepsF S fz w' rs vs → Q' rs → Q vs w'.H) (kx : KontX S w QE W σ) : rdaF S W fz m σ w.H Q := by
  cases fz with
  | true => exact ⟨w, env, fp, Q', QE, rfl, ok, er, hm, fun rs vs w' o l r q => k rs vs w' o l r.f q, kx⟩
  | false => exact ⟨w, env, fp, Q', QE, rfl, ok, er, hm, fun rs vs w' o l r q => k rs vs w' o l r.f q, kx⟩
theorem stays_sz {c : Src} {xs : List V} {ts : List T} {t : T} {v : V} (ok : Wok S w) (hz : Sz S.K w.H) (r : RepF S fz w t v) (e : t.its = some ts) (hs : ∀ x, t = .str x → x.cps.size ≤ sizeLine) : ts.length ≤ sizeLine := by
  obtain ⟨c, xs, h1, h2⟩ := r.stays ok e
  obtain ⟨a1, a2⟩ := h2.at_ w ok (.refl w)
  cases c with
  | lst a => rw [a2.len]; exact hz (.lst a) xs (fun _ _ q => by cases q) a1
  | tup a => rw [a2.len]; exact hz (.tup a) xs (fun _ _ q => by cases q) a1
  | txt x tk =>
    have h1' : v = .str x := h1
    subst h1'
    have : t = .str x := by
      cases fz with
      | true => exact rep_str_of r ⟨_, e⟩
      | false => exact repB_str_of r ⟨_, e⟩
    subst this
    have e' : tsigns x = ts := Option.some.inj e
    subst e'
    simpa [tsigns] using hs x rfl
theorem stays_all {c : Src} {xs : List V} {ts : List T} {t : T} {v : V} (ok : Wok S w) (r : RepF S fz w t v) (e : t.its = some ts) (hc : c.is v) (hh : c.has S.K w.H xs) (hi : ∀ (c d : Src) (xs ys : List V), c.is v → d.is v → c.has S.K w.H xs → d.has S.K w.H ys → xs = ys ∧ (c = d ∨ ∃ x s t, c = .txt x s ∧ d = .txt x t)) : Stays S fz w c xs ts := by
  obtain ⟨d, ys, h1, h2⟩ := r.stays ok e
  obtain ⟨a1, a2⟩ := h2.at_ w ok (.refl w)
  obtain ⟨rfl, q⟩ := hi c d xs ys hc h1 hh a1
  rcases q with rfl | ⟨x, s, t, rfl, rfl⟩
  · exact h2
  · exact ⟨fun w' ok' l => by
      obtain ⟨b1, b2⟩ := h2.at_ w' ok' l
      exact ⟨b1, b2⟩⟩
/-- a value is one source only -/
def Uni (K : PySem.W.Frag) (H : Hp) : Prop := ∀ (v : V) (c d : Src) (xs ys : List V), c.is v → d.is v → c.has K H xs → d.has K H ys → xs = ys ∧ (c = d ∨ ∃ x s t, c = .txt x s ∧ d = .txt x t)
theorem inv_uni {X : Cx} {pins : List (Addr × Obj)} {σ : L2.St} {H : Hp} {s : Shared} (I : Inv X pins σ H s) : Uni X.K H := fun v c d xs ys h1 h2 h3 h4 => by
  have cross : ∀ {a : Addr} {xs ys : List V}, SqL X.K H a xs → SqT X.K H a ys → False := fun {a xs ys} q1 q2 => by
    obtain ⟨_, _, p1, _⟩ := I.list q1
    obtain ⟨_, _, p2, _⟩ := I.tuple q2
    obtain ⟨o, e, c, _⟩ := p1.isList
    obtain ⟨o', e', c', _⟩ := p2
    rw [e] at e'
    obtain rfl := Option.some.inj e'
    rw [c] at c'
    simp at c'
  cases c with
  | lst a =>
    have h1' : v = .ref a := h1
    subst h1'
    cases d with
    | lst b => have h2' : V.ref a = .ref b := h2; cases h2'; exact ⟨I.list_inj h3 h4, .inl rfl⟩
    | tup b => have h2' : V.ref a = .ref b := h2; cases h2'; exact (cross h3 h4).elim
    | txt x t => have h2' : V.ref a = .str x := h2; cases h2'
  | tup a =>
    have h1' : v = .ref a := h1
    subst h1'
    cases d with
    | lst b => have h2' : V.ref a = .ref b := h2; cases h2'; exact (cross h4 h3).elim
    | tup b => have h2' : V.ref a = .ref b := h2; cases h2'; exact ⟨I.tuple_inj h3 h4, .inl rfl⟩
    | txt x t => have h2' : V.ref a = .str x := h2; cases h2'
  | txt x t =>
    have h1' : v = .str x := h1
    subst h1'
    cases d with
    | lst b => have h2' : V.str x = .ref b := h2; cases h2'
    | tup b => have h2' : V.str x = .ref b := h2; cases h2'
    | txt y u => have h2' : V.str x = .str y := h2; cases h2'; exact ⟨Eq.trans h3 (Eq.symm h4), .inr ⟨x, t, u, rfl, rfl⟩⟩
theorem pasz2 {X : Cx} {e : List Expr} {t : TA} (h : PA X e t) : PA X e (fun σ H Q => t σ H fun v H1 => Sz X.K H1 → Uni X.K H1 → Q v H1) := ⟨fun ps pins s σ H Q I q =>
  thn (h.run ps pins s σ H _ I q) fun v s1 ⟨x, H1, I1, r1, q1⟩ => ⟨x, H1, I1, r1, q1 (inv_sz I1) (inv_uni I1)⟩⟩
def okTxt (t : T) : Prop := ∀ x, t = .str x → x.cps.size ≤ sizeLine
def gEn1 : List T → M (List T)
  | [t] => ofO t.its fun ts => gd (okTxt t) (ret (enT 0 ts))
  | _ => stuck
def gEn2 : List T → M (List T)
  | [t, .int k] => ofO t.its fun ts => gd (okTxt t ∧ -(2 ^ 63) ≤ k ∧ k < 2 ^ 63) (ret (enT k ts))
  | _ => stuck
def gZp : List T → M (List T)
  | [t, u] => ofO t.its fun ts => ofO u.its fun us => gd (okTxt t ∧ okTxt u) (ret (zpT ts us))
  | _ => stuck
variable {elts : List Expr} {kk : Nat} {tpos : Pos}
theorem di_en1 (hmg : S.mg "enumerate" = none) (E : Eu X S) (ha : DAF X S W fz [e] mas) (hg : Gl X "enumerate" := by rfl) (hs : starEach [e] X.env = [(false, eval e X.env)] := by first | exact star_c rfl | rfl) : DI X S W fz (.Tuple elts kk tpos) (.Call (.Name "enumerate" p) [e] [] pos) (mArg gEn1 mas) :=
  PImono (pi_en1 hg (by rw [E.hmg]; exact hmg) (pasz2 ha) hs) fun σ H R h => by
    obtain ⟨w, env, fp, Q', QE, rfl, ok, er, hm, kt, kx⟩ := h
    rw [E.hK]
    refine rdaF_use ok er hm (fun ts vs w1 ok1 l1 r1 q => ?_) kx
    intro hz hu
    unfold gEn1 at q
    split at q
    · rename_i t
      obtain ⟨x, vs', rfl, a1, rfl⟩ := r1
      obtain ⟨us, e1, q1, q⟩ := ofO_inv q
      obtain ⟨c, xs, c1, c2⟩ := a1.stays ok1 e1
      refine ⟨x, xs, rfl, ⟨c, c1, (c2.at_ w1 ok1 (.refl _)).1⟩, fun c' c1' c2' => ?_⟩
      exact kt _ _ w1 ok1 l1 (y_en (stays_sz (c := c) (xs := xs) ok1 hz a1 e1 q1) (stays_all ok1 a1 e1 c1' c2' (hu x))) q
    · exact q.elim
theorem di_en2 (hmg : S.mg "enumerate" = none) (E : Eu X S) (ha : DAF X S W fz [e, e2] mas) (hg : Gl X "enumerate" := by rfl) (hs : starEach [e, e2] X.env = (false, eval e X.env) :: starEach [e2] X.env := by first | exact star_c rfl | rfl) (hpl : (backTo pos (starEach [e2] X.env)).any (·.1) = false := by first | exact star_any rfl | rfl) :
    DI X S W fz (.Tuple elts kk tpos) (.Call (.Name "enumerate" p) [e, e2] [] pos) (mArg gEn2 mas) :=
  PImono (pi_en2 hg (by rw [E.hmg]; exact hmg) (pasz2 ha) hs hpl) fun σ H R h => by
    obtain ⟨w, env, fp, Q', QE, rfl, ok, er, hm, kt, kx⟩ := h
    rw [E.hK]
    refine rdaF_use ok er hm (fun ts vs w1 ok1 l1 r1 q => ?_) kx
    intro hz hu
    unfold gEn2 at q
    split at q
    · rename_i t k
      obtain ⟨x, vs', rfl, a1, y, vs'', rfl, b1, rfl⟩ := r1
      obtain ⟨us, e1, ⟨q1, q2⟩, q⟩ := ofO_inv q
      have b1 := b1.flat rfl
      rw [Rep] at b1
      subst b1
      obtain ⟨c, xs, c1, c2⟩ := a1.stays ok1 e1
      refine ⟨x, k, xs, rfl, q2, ⟨c, c1, (c2.at_ w1 ok1 (.refl _)).1⟩, fun c' c1' c2' => ?_⟩
      exact kt _ _ w1 ok1 l1 (y_en (stays_sz (c := c) (xs := xs) ok1 hz a1 e1 q1) (stays_all ok1 a1 e1 c1' c2' (hu x))) q
    · exact q.elim
theorem di_zp (hmg : S.mg "zip" = none) (E : Eu X S) (ha : DAF X S W fz [e, e2] mas) (hg : Gl X "zip" := by rfl) (hs : starEach [e, e2] X.env = (false, eval e X.env) :: starEach [e2] X.env := by first | exact star_c rfl | rfl) (hpl : (backTo pos (starEach [e2] X.env)).any (·.1) = false := by first | exact star_any rfl | rfl) :
    DI X S W fz (.Tuple elts kk tpos) (.Call (.Name "zip" p) [e, e2] [] pos) (mArg gZp mas) :=
  PImono (pi_zp hg (by rw [E.hmg]; exact hmg) (pasz2 ha) hs hpl) fun σ H R h => by
    obtain ⟨w, env, fp, Q', QE, rfl, ok, er, hm, kt, kx⟩ := h
    rw [E.hK]
    refine rdaF_use ok er hm (fun ts vs w1 ok1 l1 r1 q => ?_) kx
    intro hz hu
    unfold gZp at q
    split at q
    · rename_i t u
      obtain ⟨x, vs', rfl, a1, y, vs'', rfl, b1, rfl⟩ := r1
      obtain ⟨us, e1, q⟩ := ofO_inv q
      obtain ⟨us', e1', ⟨q1, q2⟩, q⟩ := ofO_inv q
      obtain ⟨c, xs, c1, c2⟩ := a1.stays ok1 e1
      obtain ⟨d, ys, d1, d2⟩ := b1.stays ok1 e1'
      refine ⟨x, y, xs, ys, rfl, ⟨c, c1, (c2.at_ w1 ok1 (.refl _)).1⟩, ⟨d, d1, (d2.at_ w1 ok1 (.refl _)).1⟩, fun c' d' c1' c2' d1' d2' => ?_⟩
      exact kt _ _ w1 ok1 l1 (y_zp (stays_sz (c := c) (xs := xs) ok1 hz a1 e1 q1) (stays_all ok1 a1 e1 c1' c2' (hu x)) (stays_all ok1 b1 e1' d1' d2' (hu y))) q
    · exact q.elim
end
end Twl

/-! TL12: for loops; list comprehensions. -/
namespace Twl
open PySem PySem.Spec PyProof.Rows L2

def frL (g : GM) (m : SM) : List T → SM
  | [], D, env => D.nx env
  | t :: ts, D, env => ∃ env', g t env = some env' ∧ m { D with nx := frL g m ts D, ct := frL g m ts D, bk := D.nx } env'
def sFor (mi : Env → M (List T)) (g : GM) (m : SM) : SM := fun D env => mi env (fun items => frL g m items D env) D.ex
section
variable {X : Cx} {S : Kx} {W : WX} {dr : Nat} {w0 : Wd} {vs : List Nat} {tg it : Expr} {mi : Env → M (List T)} {g : GM} {m : SM} {body : List Stmt} {pos : Pos}
theorem drop_step {items : List T} {i : Nat} (h : i < items.length) : ∃ t, items[i]? = some t ∧ items.drop i = t :: items.drop (i + 1) := by
  refine ⟨items[i], List.getElem?_eq_getElem h, ?_⟩
  exact List.drop_eq_getElem_cons h
theorem ds_for (hp : PassesOwn (model X.prog X.w) X.A X.env X.xe) (hc : X.calm = true) (hi : DI X S W true tg it mi) (hg : DG X S vs tg g) (hb : DSs X S W dr w0 body m) (hs : ∀ x, foldedSetIterable it X.env x = pure x := by intro _; rfl) : DS X S W dr w0 (.For tg it body [] pos) (sFor mi g m) :=
  PSmono (ps_for hp hc hi hg hb hs) fun D σ H h => by
    obtain ⟨w, env, fp, D', rfl, ok, l, er, ow, hm, en⟩ := h
    refine ⟨w, env, fp, _, D'.ex, rfl, ok, er, hm, fun items J w1 ok1 l1 yl q => ?_, en.kx ok l⟩
    have en1 := en.agr (l1.agr ok)
    refine ⟨fun i n σ H => ∃ w2 env fp, w2.H = H ∧ Wok S w2 ∧ Le w0 w2 ∧ Agr w1 w2 ∧ EnvR S w2 env σ fp ∧ Own w0 fp ∧ i ≤ items.length ∧ n = items.length - i ∧ frL g m (items.drop i) D' env,
      ⟨items.length, w1, env, fp, rfl, ok1, l.trans l1, .refl _, er.le ok l1, ow, Nat.zero_le _, rfl, by simpa using q⟩, ?_⟩
    rintro i n σ2 H ⟨w2, env2, fp2, rfl, ok2, l2, g2, er2, ow2, hle, rfl, hm2⟩
    by_cases hlt : i < items.length
    · obtain ⟨t, e1, e2⟩ := drop_step hlt
      rw [e2] at hm2
      obtain ⟨env3, hg3, hm3⟩ := hm2
      refine .inr ⟨yl.go i w2 ok2 g2 hlt, fun σ H => ∃ w2 env fp, w2.H = H ∧ Wok S w2 ∧ Le w0 w2 ∧ Agr w1 w2 ∧ EnvR S w2 env σ fp ∧ Own w0 fp ∧ frL g m (items.drop (i + 1)) D' env, ?_, ?_⟩
      · rintro σ' H' ⟨w3, env4, fp4, a1, a2, a3, a4, a5, a6, a7⟩
        exact ⟨items.length - (i + 1), by omega, w3, env4, fp4, a1, a2, a3, a4, a5, a6, hlt, rfl, a7⟩
      · intro x H' y
        obtain ⟨w3, t', rfl, ok3, l3, e1', r3⟩ := yl.yl i w2 x H' ok2 g2 hlt y
        rw [e1] at e1'
        cases e1'
        have g3 := g2.trans (l3.agr ok2)
        refine ⟨w3, t, env2, fp2, env3, rfl, ok3, er2.le ok2 l3, r3, hg3, fun σ' fp' er' sub _ => ?_⟩
        have en3 := en1.agr g3
        exact ⟨w3, env3, fp', _, rfl, ok3, l2.trans l3, er', fun a ha => ow2 a (sub a ha), hm3,
          ⟨fun env σ w4 fp o4 l4 g4 e4 p4 q4 => ⟨w4, env, fp, rfl, o4, l4, g3.trans g4, e4, p4, q4⟩, en3.rt, en3.nx, fun env σ w4 fp o4 l4 g4 e4 p4 q4 => ⟨w4, env, fp, rfl, o4, l4, g3.trans g4, e4, p4, q4⟩, en3.ex⟩⟩
    · obtain rfl : i = items.length := by omega
      rw [List.drop_length] at hm2
      exact .inl ⟨yl.st w2 ok2 g2, en1.nx env2 σ2 w2 fp2 ok2 l2 g2 er2 ow2 hm2⟩
end

/-! ### list comprehensions -/
def wipeE (env : Env) : List Nat → Env
  | [] => env
  | v :: vs => (wipeE env vs).set v .no
/-- nothing may be raised -/
def nox {α : Type} (m : M α) : M α := fun Q _ => m Q (fun _ => False)
def lcM (g : GM) (c : Env → M Bool) (me : Env → M T) : List T → Env → M (List T)
  | [], _ => ret []
  | t :: ts, env => fun Q E => ∃ env', g t env = some env' ∧ c env' (fun b => if b = true then me env' (fun x => lcM g c me ts env (fun xs => Q (x :: xs)) E) E else lcM g c me ts env Q E) E
def mLc (mi : Env → M (List T)) (g : GM) (c : Env → M Bool) (me : Env → M T) (vs : List Nat) : Env → M T := fun env => bnd (mi env) fun items => bnd (nox (lcM g c me items (wipeE env vs))) fun xs => ret (.lst xs)
def WF : WX := fun _ _ _ _ => False
theorem wipeE_er {S : Kx} {w : Wd} {env : Env} {σ : L2.St} {fp : List Addr} (ok : Wok S w) (er : EnvR S w env σ fp) : ∀ vs : List Nat, ∃ fp', EnvR S w (wipeE env vs) (wipe σ vs) fp' ∧ ∀ a ∈ fp', a ∈ fp
  | [] => ⟨fp, er, fun a h => h⟩
  | v :: vs => by
    obtain ⟨fp1, er1, h1⟩ := wipeE_er ok er vs
    obtain ⟨fp2, e1, e2, e3⟩ := EnvS.set (s := .no) (o := none) (f' := []) rfl v er1.sl
    refine ⟨fp2, ⟨e1, e3 er1.nd List.nodup_nil (fun a _ q => by simp at q), fun a ha => ?_⟩, fun a ha => ?_⟩
    · rcases e2 a ha with q | q
      · exact er1.ow a q
      · simp at q
    · rcases e2 a ha with q | q
      · exact h1 a q
      · simp at q
structure BodyR (X : Cx) (S : Kx) (d : Nat) (scope : Scope) (own : List (Str × Nat)) (tg elt : Expr) (ifs : List Expr) (g : GM) (c : Env → M Bool) (me : Env → M T) : Prop where
  hg : ∀ (s : Shared) (H : Hp) (C : Addr) (cl : List (Str × Addr)) (fp : List Addr), DG (X.blk s H scope (compEnvC scope cl C X.env) fp) S (own.map (·.2)) tg g
  ht : ∀ (s : Shared) (H : Hp) (C : Addr) (cl : List (Str × Addr)) (fp : List Addr), PTs (X.blk s H scope (compEnvC scope cl C X.env) fp) ifs (rdt S WF c)
  he : ∀ (s : Shared) (H : Hp) (C : Addr) (cl : List (Str × Addr)) (fp : List Addr), DE (X.blk s H scope (compEnvC scope cl C X.env) fp) S WF d elt me
theorem Ex.blk {X : Cx} {S : Kx} {W : WX} {k : Nat} (E : Ex X S W k) {s : Shared} {H : Hp} {scope : Scope} {ce : PySem.Env} {fp : List Addr} : Ex (X.blk s H scope ce fp) S WF k :=
  ⟨⟨E.hK, E.hmg, E.un⟩, E.calm, fun u s' ⟨a, B, sI, pins, σ, H, cls, d, e, I, nb, up, sky, na, os, ag, w⟩ => w.elim, E.hr⟩
theorem pts_none {X : Cx} {S : Kx} : PTs X [] (rdt S WF fun _ => ret true) := ⟨fun pins s σ H Q I h => pts_nil.run pins s σ H Q I (by
  obtain ⟨w, env, fp, Q', QE, rfl, ok, er, hm, kt, kx⟩ := h
  exact kt true w ok (.refl w) hm)⟩
theorem pts_c {X : Cx} {S : Kx} {c : Expr} {mc : Env → M Bool} (h : DT X S WF c mc) : PTs X [c] (rdt S WF mc) := pts_one h
theorem noKx {S : Kx} {w : Wd} {σ : L2.St} : KontX S w (fun _ => False) WF σ := fun _ _ _ _ _ _ _ q => q.elim

/-- an object of one's own: not frozen, not the draw state -/
structure Mine (w : Wd) (p : Addr) (o : HO) : Prop where
  at_ : w.H p = some o
  nf : ¬ w.F p
  nh : w.hp ≠ some p
theorem Mine.le {S : Kx} {w w' : Wd} {p : Addr} {o : HO} (m : Mine w p o) (ok : Wok S w) (l : Le w w') (z : FzO o) : Mine w' p o :=
  ⟨l.hh p o m.at_ m.nh z.ntbl, fun q => (l.fn p q).elim m.nf (fun q => by rw [m.at_] at q; cases q), by rw [l.hp]; exact m.nh⟩
theorem tab_put {S : Kx} {H : Hp} {p : Addr} {o o' : HO} (t : TbOk S H) (h : H p = some o) (z : FzO o) : TbOk S (upd H p o') := by
  refine ⟨fun q hq => ?_, fun q hq => ?_⟩
  · obtain ⟨ps, h1, h2, h3⟩ := t.1 q hq
    have n1 : q.1 ≠ p := fun e => by rw [e, h] at h1; cases h1; exact z
    refine ⟨ps, by rw [upd_ne n1]; exact h1, h2, fun pos cv hc => ?_⟩
    obtain ⟨c, e1, e2⟩ := h3 pos cv hc
    have n2 : c ≠ p := fun e => by rw [e, h] at e2; cases e2; exact z
    exact ⟨c, e1, by rw [upd_ne n2]; exact e2⟩
  · have e2 := t.2 q hq
    have n2 : q.1 ≠ p := fun e => by rw [e, h] at e2; cases e2; exact z
    rw [upd_ne n2]; exact e2
theorem Mine.put {S : Kx} {w : Wd} {p : Addr} {o o' : HO} (m : Mine w p o) (ok : Wok S w) (z : FzO o) : Wok S (w.own p o') ∧ Agr w (w.own p o') := by
  have ag : Agr w (w.own p o') := ⟨rfl, fun _ h => h, fun b h => upd_ne (fun e => m.nf (e ▸ h))⟩
  refine ⟨⟨fun b h => ?_, fun q e => ?_, tab_put ok.tb m.at_ z⟩, ag⟩
  · obtain ⟨h1, o, h2, h3⟩ := ok.fz b h
    exact ⟨h1, o, by rw [ag.at_ b h]; exact h2, h3⟩
  · obtain ⟨c, cells, i, r, mm, k, h1, h2, h3⟩ := (ok.hd q e).it
    refine ⟨c, cells, i, r, mm, k, ?_, h2, ag.lst h3⟩
    show upd w.H p o' q = _
    rw [upd_ne (fun e' => m.nh (by rw [← e']; exact e))]; exact h1
theorem Le.own {w w' : Wd} {p : Addr} {o' : HO} (l : Le w w') (h : w.H p = none) : Le w (w'.own p o') :=
  ⟨l.hp, l.ff, l.fn, fun b o h1 h2 h3 => by
    show upd w'.H p o' b = some o
    rw [upd_ne (ne_of_none h1 h)]; exact l.hh b o h1 h2 h3, fun b q => by
    by_cases e : b = p
    · rw [e]; exact h
    · have q' : upd w'.H p o' b = none := q
      rw [upd_ne e] at q'; exact l.no b q'⟩
theorem Le.freeze {w w' : Wd} {p : Addr} (l : Le w w') (h : w.H p = none) : Le w { w' with F := fun b => w'.F b ∨ b = p } :=
  ⟨l.hp, fun b q => .inl (l.ff b q), fun b q => q.elim (l.fn b) (fun e => .inr (by rw [e]; exact h)), l.hh, l.no⟩
theorem wipe_wipe {σ : L2.St} {vs : List Nat} : wipe (wipe σ vs) vs = wipe σ vs := by
  apply List.ext_getElem?
  intro j
  rw [wipe_get, wipe_get, wipe_length]
  by_cases c : j ∈ vs
  · rw [if_pos c, if_pos c]
  · rw [if_neg c, if_neg c]

section
variable {X : Cx} {S : Kx} {W : WX} {k d dr : Nat} {w0 : Wd} {tg it elt : Expr} {ifs : List Expr} {mi : Env → M (List T)} {g : GM} {c : Env → M Bool} {me : Env → M T} {scope : Scope} {own : List (Str × Nat)} {pos : Pos}
/-- at depth 1: the items are frozen -/
theorem lc_sim {vs : List Nat} {σ : L2.St} {H : Hp} {Q : VK} (hd : d ≤ 1) (h : rd S W d (mLc mi g c me vs) σ H Q) : tLc (rdi S W false mi) (rdg S vs g) (rdt S WF c) (rd S WF 0 me) vs σ H Q := by
  obtain ⟨w, env, fp, Q', QE, rfl, ok, er, hm, kt, kx⟩ := h
  refine ⟨w, env, fp, _, QE, rfl, ok, er, hm, fun items J w1 ok1 l1 yl q => ?_, kx⟩
  intro D hD
  have q : lcM g c me items (wipeE env vs) (fun xs => Q' (.lst xs)) (fun _ => False) := q
  have nF1 : ¬ w1.F D := fun q => by obtain ⟨_, o, h, _⟩ := ok1.fz D q; rw [hD] at h; cases h
  refine ⟨fun i n H => ∃ w2 accT acc, w2.H = H ∧ Wok S w2 ∧ Le w1 w2 ∧ Mine w2 D (.lst acc) ∧ Reps S w2 accT acc ∧ i ≤ items.length ∧ n = items.length - i ∧ accT.length ≤ i ∧ lcM g c me (items.drop i) (wipeE env vs) (fun xs => Q' (.lst (accT ++ xs))) (fun _ => False), ?_, ?_⟩
  · exact ⟨items.length, w1.own D (.lst []), [], [], rfl, own_ok ok1 hD, own_le hD, ⟨upd_same, nF1, (handNone ok1 hD : w1.hp ≠ some D)⟩, .nil, Nat.zero_le _, rfl, Nat.le_refl _, by simpa using q⟩
  · rintro i n H ⟨w2, accT, acc, rfl, ok2, l2, mi2, r2, hle, rfl, hacc, hm2⟩
    by_cases hlt : i < items.length
    · obtain ⟨t, e1, e2⟩ := drop_step hlt
      rw [e2] at hm2
      obtain ⟨env3, hg3, hm3⟩ := hm2
      refine .inr ⟨yl.go i w2 ok2 l2 hlt, fun H => ∃ w2 accT acc, w2.H = H ∧ Wok S w2 ∧ Le w1 w2 ∧ Mine w2 D (.lst acc) ∧ Reps S w2 accT acc ∧ accT.length ≤ i + 1 ∧ lcM g c me (items.drop (i + 1)) (wipeE env vs) (fun xs => Q' (.lst (accT ++ xs))) (fun _ => False), ?_, ?_⟩
      · rintro H' ⟨w3, a0, a1, a2, a3, a4, a5, a6, a7, a8⟩
        exact ⟨items.length - (i + 1), by omega, w3, a0, a1, a2, a3, a4, a5, a6, hlt, rfl, a7, a8⟩
      · intro x H' y
        obtain ⟨w3, t', rfl, ok3, l3, e1', r3⟩ := yl.yl i w2 x H' ok2 l2 hlt y
        rw [e1] at e1'
        cases e1'
        obtain ⟨fpw, erw, _⟩ := wipeE_er (w := w3) ok3 (er.le ok (l1.trans (l2.trans l3))) vs
        refine ⟨w3, t, wipeE env vs, fpw, env3, rfl, ok3, erw, r3, hg3, fun σ4 fp4 er4 _ hw4 => ⟨hw4.trans wipe_wipe, ?_⟩⟩
        refine ⟨w3, env3, fp4, _, _, rfl, ok3, er4, hm3, fun b w4 ok4 l4 q4 => ?_, noKx⟩
        cases b with
        | true =>
          refine (if_pos rfl).mpr ?_
          have q4 := (if_pos rfl).mp q4
          refine ⟨w4, env3, fp4, _, _, rfl, ok4, er4.le ok3 l4, q4, .z fun x v w5 ok5 l5 r5 q5 => ?_, noKx⟩
          have lz := l3.trans (l4.trans l5)
          have mi5 := mi2.le ok2 lz trivial
          have hl : acc.length = accT.length := r2.length
          have hsz := yl.sz
          have pt := mi5.put (o' := .lst (acc ++ [v])) ok5 trivial
          refine ⟨acc, mi5.at_, by omega, w5.own D (.lst (acc ++ [v])), accT ++ [x], acc ++ [v], rfl, pt.1, ?_, ⟨upd_same, mi5.nf, mi5.nh⟩, Reps.agr pt.2 _ _ ((Reps.agr (lz.agr ok2) _ _ r2).append (.cons r5 .nil)), by simp; omega, by simpa using q5⟩
          exact (l2.trans lz).own hD
        | false =>
          refine (if_neg Bool.false_ne_true).mpr ?_
          have q4 := (if_neg Bool.false_ne_true).mp q4
          have lz := l3.trans l4
          exact ⟨w4, accT, acc, rfl, ok4, l2.trans lz, mi2.le ok2 lz trivial, Reps.agr (lz.agr ok2) _ _ r2, by omega, q4⟩
    · obtain rfl : i = items.length := by omega
      rw [List.drop_length] at hm2
      refine .inl ⟨yl.st _ ok2 l2, ?_⟩
      have hm2 : Q' (.lst accT) := by simpa [lcM, ret] using hm2
      match d, hd, kt with
      | 0, _, kt =>
        obtain ⟨okf, agf⟩ := freezeL (S := S) ok2 mi2.nh mi2.at_ (show FzO (.lst acc) from trivial)
        refine kt _ _ { w2 with F := fun b => w2.F b ∨ b = D } [] okf ((l1.trans l2).freeze (l1.no D hD)) (.zero ?_) .nil hm2
        rw [Rep]
        exact ⟨D, acc, rfl, ⟨.inr rfl, mi2.at_⟩, Reps.agr agf _ _ r2⟩
      | 1, _, kt => exact kt _ _ w2 [D] ok2 (l1.trans l2) (.lst mi2.at_ r2) ⟨by simp, fun a ha => by
          obtain rfl : a = D := by simpa using ha
          exact ⟨l1.no a hD, mi2.nf, _, mi2.at_, trivial⟩⟩ hm2
theorem de_lc (E : Ex X S W k) (hd : d ≤ 1) (hN : X.N.Nodup) (hi : DI X S W false tg it mi) (ok : BlkOk X.N X.env.scope scope own) (B : BodyR X S 0 scope own tg elt ifs g c me) (hs : ∀ x, foldedSetIterable it X.env x = pure x := by intro _; rfl) :
    DE X S W d (.ListComp elt [⟨tg, it, ifs, 0⟩] scope pos) (mLc mi g c me (own.map (·.2))) :=
  PEmono (pe_lc E.calm hN hi ok B.hg B.ht B.he hs) fun σ H Q h => lc_sim hd h
theorem ds_setLc (E : Ex X S W k) (i : Nat) {y : Str} {py spos : Pos} (hd : d ≤ 1) (hN : X.N.Nodup) (hi : DI X S W false tg it mi) (ok : BlkOk X.N X.env.scope scope own) (B : BodyR X S 0 scope own tg elt ifs g c me) (hy : X.N[i]? = some y := by rfl) (hyl : X.env.scope.names.lookup y = some .local := by rfl)
    (hsw : swapsWith (.ListComp elt [⟨tg, it, ifs, 0⟩] scope pos) (some (.Name y py)) spos.line X.env = pure true := by rfl) (hs : ∀ x, foldedSetIterable it X.env x = pure x := by intro _; rfl) :
    DS X S W dr w0 (.Assign [.Name y py] (.ListComp elt [⟨tg, it, ifs, 0⟩] scope pos) spos) (sSet i d (mLc mi g c me (own.map (·.2)))) :=
  PSmono (ps_setLc E.calm hN hy hyl hsw hi ok B.hg B.ht B.he hs) fun D σ H h => by
    obtain ⟨w, env, fp, D', rfl, ok, l, er, ow, hm, en⟩ := h
    refine lc_sim (d := d) hd (rd_use ok er hm (fun t v w1 f1 ok1 l1 r1 fr q => ?_) (en.kx ok l))
    obtain ⟨fp2, e1, e2⟩ := er.set ok l1 r1 fr i (fun _ => trivial) ok1
    exact en.nx _ _ w1 fp2 ok1 (l.trans l1) (l1.agr ok) e1 (ow.of l fr e2) q
end
end Twl

/-! TL13: statements that change a slot: freezing, list methods, names, pairs. -/
namespace Twl
open PySem PySem.Spec PyProof.Rows L2

mutual
theorem RepO.ends {S : Kx} {w : Wd} : ∀ (d : Nat) (t : T) (v : V) (fp : List Addr), RepO S w d t v fp → ∀ a ∈ fp, ∃ o, w.H a = some o ∧ FzO o
  | 0, t, v, fp, h, a, ha => by rw [RepO] at h; rw [h.1] at ha; simp at ha
  | d + 1, .lst ts, v, fp, h, a, ha => by
    rw [RepO] at h
    obtain ⟨p, vs, f, e, h1, rfl, h2⟩ := h
    rcases List.mem_cons.mp ha with rfl | q
    · exact ⟨_, h1, trivial⟩
    · exact RepsO.ends d ts vs f h2 a q
  | d + 1, .dk ks ts, v, fp, h, a, ha => by
    rw [RepO] at h
    obtain ⟨p, vs, e, h1, rfl, h3⟩ := h
    obtain rfl : a = p := by simpa using ha
    exact ⟨_, h1, trivial⟩
  | d + 1, .dt ks ts, v, fp, h, a, ha => by
    rw [RepO] at h
    obtain ⟨p, vs, e, h1, rfl, h3⟩ := h
    obtain rfl : a = p := by simpa using ha
    exact ⟨_, h1, trivial⟩
  | d + 1, .non, v, fp, h, a, ha => by simp only [RepO] at h; rw [h.1] at ha; simp at ha
  | d + 1, .bl _, v, fp, h, a, ha => by simp only [RepO] at h; rw [h.1] at ha; simp at ha
  | d + 1, .int _, v, fp, h, a, ha => by simp only [RepO] at h; rw [h.1] at ha; simp at ha
  | d + 1, .str _, v, fp, h, a, ha => by simp only [RepO] at h; rw [h.1] at ha; simp at ha
  | d + 1, .tup _, v, fp, h, a, ha => by simp only [RepO] at h; rw [h.1] at ha; simp at ha
  | d + 1, .ty _, v, fp, h, a, ha => by simp only [RepO] at h; rw [h.1] at ha; simp at ha
  | d + 1, .glob _, v, fp, h, a, ha => by simp only [RepO] at h; rw [h.1] at ha; simp at ha
  | d + 1, .hand, v, fp, h, a, ha => by simp only [RepO] at h; rw [h.1] at ha; simp at ha
theorem RepsO.ends {S : Kx} {w : Wd} : ∀ (d : Nat) (ts : List T) (vs : List V) (fp : List Addr), RepsO S w d ts vs fp → ∀ a ∈ fp, ∃ o, w.H a = some o ∧ FzO o
  | d, [], vs, fp, h, a, ha => by obtain ⟨_, rfl⟩ := h.nil_inv; simp at ha
  | d, t :: ts, vs, fp, h, a, ha => by
    obtain ⟨v, vs', f, f', rfl, rfl, h1, h2⟩ := h.cons_inv
    rcases List.mem_append.mp ha with q | q
    · exact RepO.ends d t v f h1 a q
    · exact RepsO.ends d ts vs' f' h2 a q
end
mutual
/-- all that is owned is frozen -/
theorem RepO.froze {S : Kx} {w w' : Wd} (a : Agr w w') (hH : w'.H = w.H) : ∀ (d : Nat) (t : T) (v : V) (fp : List Addr), (∀ b ∈ fp, w'.F b) → RepO S w d t v fp → Rep S w' t v
  | 0, t, v, fp, _, h => by rw [RepO] at h; exact Rep.agr a t v h.2
  | d + 1, .lst ts, v, fp, k, h => by
    rw [RepO] at h
    obtain ⟨p, vs, f, e, h1, rfl, h2⟩ := h
    rw [Rep]
    exact ⟨p, vs, e, ⟨k p List.mem_cons_self, by rw [hH]; exact h1⟩, RepsO.froze a hH d ts vs f (fun b hb => k b (List.mem_cons_of_mem _ hb)) h2⟩
  | d + 1, .dk ks ts, v, fp, k, h => by
    rw [RepO] at h
    obtain ⟨p, vs, e, h1, rfl, h3, h2⟩ := h
    rw [Rep]
    exact ⟨p, vs, e, k p List.mem_cons_self, by rw [hH]; exact h1, h3, Reps.agr a ts vs h2⟩
  | d + 1, .dt ks ts, v, fp, k, h => by
    rw [RepO] at h
    obtain ⟨p, vs, e, h1, rfl, h3, h2⟩ := h
    rw [Rep]
    exact ⟨p, vs, e, k p List.mem_cons_self, by rw [hH]; exact h1, h3, Reps.agr a ts vs h2⟩
  | d + 1, .non, v, fp, _, h => by simp only [RepO] at h; exact Rep.agr a _ v h.2
  | d + 1, .bl _, v, fp, _, h => by simp only [RepO] at h; exact Rep.agr a _ v h.2
  | d + 1, .int _, v, fp, _, h => by simp only [RepO] at h; exact Rep.agr a _ v h.2
  | d + 1, .str _, v, fp, _, h => by simp only [RepO] at h; exact Rep.agr a _ v h.2
  | d + 1, .tup _, v, fp, _, h => by simp only [RepO] at h; exact Rep.agr a _ v h.2
  | d + 1, .ty _, v, fp, _, h => by simp only [RepO] at h; exact Rep.agr a _ v h.2
  | d + 1, .glob _, v, fp, _, h => by simp only [RepO] at h; exact Rep.agr a _ v h.2
  | d + 1, .hand, v, fp, _, h => by simp only [RepO] at h; exact Rep.agr a _ v h.2
theorem RepsO.froze {S : Kx} {w w' : Wd} (a : Agr w w') (hH : w'.H = w.H) : ∀ (d : Nat) (ts : List T) (vs : List V) (fp : List Addr), (∀ b ∈ fp, w'.F b) → RepsO S w d ts vs fp → Reps S w' ts vs
  | _, [], vs, fp, _, h => by rw [h.nil_inv.1]; exact .nil
  | d, t :: ts, vs, fp, k, h => by
    obtain ⟨v, vs', f, f', rfl, rfl, h1, h2⟩ := h.cons_inv
    exact .cons (RepO.froze a hH d t v f (fun b hb => k b (List.mem_append_left _ hb)) h1) (RepsO.froze a hH d ts vs' f' (fun b hb => k b (List.mem_append_right _ hb)) h2)
end

section
variable {X : Cx} {S : Kx} {W : WX} {k d dr : Nat} {w0 w w' : Wd} {env : Env} {σ : L2.St} {fp : List Addr} {D' : EndT} {D : Ends}
theorem EnvS.upd {t : T} : ∀ {env : Env} {σ : L2.St} {fp : List Addr} {i : Nat}, EnvS S w env σ fp → fp.Nodup → env[i]? = some (.va d t) → ∃ v f, σ[i]? = some (some v) ∧ RepO S w d t v f ∧ f.Nodup ∧ (∀ a ∈ f, a ∈ fp) ∧
    ∀ w' d' t' f', Agr w w' → (∀ b ∈ fp, b ∉ f → w'.H b = w.H b) → RepO S w' d' t' v f' → f'.Nodup → (∀ a ∈ f', a ∈ f ∨ a ∉ fp) → ∃ fp', EnvS S w' (env.set i (.va d' t')) σ fp' ∧ fp'.Nodup ∧ ∀ a ∈ fp', a ∈ f' ∨ (a ∈ fp ∧ a ∉ f)
  | [], [], fp, i, h, nd, e => by simp at e
  | s :: es, o :: os, fp, 0, h, nd, e => by
    obtain ⟨f, f2, rfl, h1, h2⟩ := h
    simp at e
    subst e
    obtain ⟨v, rfl, r⟩ := h1
    rw [List.nodup_append] at nd
    refine ⟨v, f, rfl, r, nd.1, fun a ha => List.mem_append_left _ ha, fun w' d' t' f' ag fr r' nd' sub => ?_⟩
    have dj : ∀ b ∈ f2, b ∉ f := fun b hb q => nd.2.2 b q b hb rfl
    refine ⟨f' ++ f2, ⟨f', f2, rfl, ⟨v, rfl, r'⟩, h2.agr ag fun b hb => fr b (List.mem_append_right _ hb) (dj b hb)⟩, ?_, fun a ha => ?_⟩
    · rw [List.nodup_append]
      refine ⟨nd', nd.2.1, fun a ha b hb e => ?_⟩
      subst e
      rcases sub a ha with q | q
      · exact dj a hb q
      · exact q (List.mem_append_right _ hb)
    · rcases List.mem_append.mp ha with q | q
      · exact .inl q
      · exact .inr ⟨List.mem_append_right _ q, dj a q⟩
  | s :: es, o :: os, fp, i + 1, h, nd, e => by
    obtain ⟨f, f2, rfl, h1, h2⟩ := h
    have nd0 := nd
    rw [List.nodup_append] at nd
    obtain ⟨v, g, e1, r, ng, sub, K⟩ := EnvS.upd h2 nd.2.1 (by simpa using e)
    have dj : ∀ b ∈ f, b ∉ g := fun b hb q => nd.2.2 b hb b (sub b q) rfl
    refine ⟨v, g, by simpa using e1, r, ng, fun a ha => List.mem_append_right _ (sub a ha), fun w' d' t' f' ag fr r' nd' sub' => ?_⟩
    obtain ⟨fp', E1, E2, E3⟩ := K w' d' t' f' ag (fun b hb q => fr b (List.mem_append_right _ hb) q) r' nd' (fun a ha => (sub' a ha).imp id fun q z => q (List.mem_append_right _ z))
    refine ⟨f ++ fp', ⟨f, fp', rfl, h1.agr ag fun b hb => fr b (List.mem_append_left _ hb) (dj b hb), E1⟩, ?_, fun a ha => ?_⟩
    · rw [List.nodup_append]
      refine ⟨nd.1, E2, fun a ha b hb e => ?_⟩
      subst e
      rcases E3 a hb with q | ⟨q, _⟩
      · rcases sub' a q with z | z
        · exact dj a ha z
        · exact z (List.mem_append_left _ ha)
      · exact nd.2.2 a ha a q rfl
    · rcases List.mem_append.mp ha with q | q
      · exact .inr ⟨List.mem_append_left _ q, dj a q⟩
      · exact (E3 a q).imp id fun z => ⟨List.mem_append_right _ z.1, z.2⟩
  | [], _ :: _, _, _, h, _, _ => h.elim
  | _ :: _, [], _, _, h, _, _ => h.elim
structure OwAt (w : Wd) (a : Addr) : Prop where
  nf : ¬ w.F a
  nh : w.hp ≠ some a
  ex : ∃ o, w.H a = some o ∧ FzO o
theorem EnvR.upd {t : T} {i : Nat} (er : EnvR S w env σ fp) (e : env[i]? = some (.va d t)) : ∃ v f, σ[i]? = some (some v) ∧ RepO S w d t v f ∧ f.Nodup ∧ (∀ a ∈ f, a ∈ fp) ∧
    ∀ w' d' t' f', Agr w w' → (∀ b ∈ fp, b ∉ f → w'.H b = w.H b ∧ (w'.F b → w.F b)) → RepO S w' d' t' v f' → f'.Nodup → (∀ a ∈ f', (a ∈ f ∨ a ∉ fp) ∧ OwAt w' a) → ∃ fp', EnvR S w' (env.set i (.va d' t')) σ fp' ∧ ∀ a ∈ fp', a ∈ fp ∨ a ∈ f' := by
  obtain ⟨v, f, e1, r, ng, sub, K⟩ := EnvS.upd er.sl er.nd e
  refine ⟨v, f, e1, r, ng, sub, fun w' d' t' f' ag fr r' nd' o' => ?_⟩
  obtain ⟨fp', E1, E2, E3⟩ := K w' d' t' f' ag (fun b hb q => (fr b hb q).1) r' nd' (fun a ha => (o' a ha).1)
  refine ⟨fp', ⟨E1, E2, fun a ha => ?_⟩, fun a ha => ?_⟩
  · rcases E3 a ha with q | ⟨q, z⟩
    · obtain ⟨_, o1, o2, o3⟩ := o' a q; exact ⟨o1, o2, o3⟩
    · obtain ⟨h1, h2, o, h3, h4⟩ := er.ow a q
      obtain ⟨g1, g2⟩ := fr a q z
      exact ⟨fun z => h1 (g2 z), by rw [ag.hp]; exact h2, o, by rw [g1]; exact h3, h4⟩
  · exact (E3 a ha).elim .inr fun z => .inl z.1

/-! ### freezing -/
def sFrz (i : Nat) : SM := fun D env => ∃ d t, env[i]? = some (.va d t) ∧ D.nx (env.set i (.va 0 t))
theorem dss_frz {sts : List Stmt} {m : SM} (i : Nat) (h : DSs X S W dr w0 sts m) : DSs X S W dr w0 sts (sSeq (sFrz i) m) := PSsmono h fun D σ H h => by
  obtain ⟨w, env, fp, D', rfl, ok, l, er, ow, ⟨d, t, e, hm⟩, en⟩ := h
  obtain ⟨v, f, e1, r, nf, sub, K⟩ := er.upd e
  let w1 : Wd := { w with F := fun b => w.F b ∨ b ∈ f }
  have ag : Agr w w1 := ⟨rfl, fun b q => .inl q, fun b _ => rfl⟩
  have ok1 : Wok S w1 := by
    refine ⟨fun b q => ?_, fun q e => ?_, ok.tb⟩
    · rcases q with q | q
      · exact ok.fz b q
      · obtain ⟨_, h2, h3⟩ := er.ow b (sub b q); exact ⟨h2, h3⟩
    · obtain ⟨c, cells, i, r, m, k, h1, h2, h3⟩ := (ok.hd q e).it
      exact ⟨c, cells, i, r, m, k, h1, h2, ag.lst h3⟩
  have l1 : Le w0 w1 := ⟨l.hp, fun b q => .inl (l.ff b q), fun b q => q.elim (l.fn b) fun q => .inr (ow b (sub b q)), l.hh, l.no⟩
  obtain ⟨fp', er', sub'⟩ := K w1 0 t [] ag (fun b hb q => ⟨rfl, fun z => z.elim id fun z => (q z).elim⟩) (.zero (RepO.froze ag rfl d t v f (fun b hb => .inr hb) r)) List.nodup_nil (fun a q => by simp at q)
  exact ⟨w1, _, fp', D', rfl, ok1, l1, er', fun a ha => (sub' a ha).elim (ow a) fun q => by simp at q, hm, en.agr ag⟩

/-! ### list methods on a name's own list -/
abbrev RM := V → List V → Hp → VK → Prop
/-- what the method does, on trees: the result and the new items -/
def SimU (S : Kx) (fz : Bool) (f : List T → List T → M (T × List T)) (r : RM) : Prop :=
  ∀ (w : Wd) (p : Addr) (vs : List V) (ts as : List T) (xs : List V) (Q' : T × List T → Prop) (QE : Exn → Prop) (Q : VK), Wok S w → Mine w p (.lst vs) → Reps S w ts vs → RepsF S fz w as xs → f ts as Q' QE →
    (∀ z ts' u vs', Rep S w z u → Reps S w ts' vs' → Q' (z, ts') → Q u (upd w.H p (.lst vs'))) → r (.ref p) xs w.H Q
def fApp : List T → List T → M (T × List T)
  | ts, [t] => gd (ts.length < sizeLine) (ret (.non, ts ++ [t]))
  | _, _ => stuck
def fExt : List T → List T → M (T × List T)
  | ts, [.lst us] => gd (ts.length + us.length ≤ sizeLine) (ret (.non, ts ++ us))
  | _, _ => stuck
def fPop : List T → List T → M (T × List T)
  | ts, [] => ofO ts[ts.length - 1]? fun t => ret (t, ts.dropLast)
  | _, _ => stuck
def fPopAt : List T → List T → M (T × List T)
  | ts, [.int i] => ofO (seqIndex? i ts.length) fun k => ofO ts[k]? fun t => gd (-(2 ^ 63) ≤ i ∧ i < 2 ^ 63) (ret (t, ts.eraseIdx k))
  | _, _ => stuck
theorem Reps.dropLast {S : Kx} {w : Wd} {ts : List T} {vs : List V} (h : Reps S w ts vs) : Reps S w ts.dropLast vs.dropLast := by
  rw [List.dropLast_eq_take, List.dropLast_eq_take, h.length]
  exact h.take _
theorem simU_app : SimU S true fApp rAppend := fun w p vs ts as xs Q' QE Q ok mi r ra hf k => by
  unfold fApp at hf
  split at hf
  · obtain ⟨x, xs', rfl, a1, rfl⟩ := ra
    exact ⟨p, vs, x, rfl, rfl, mi.at_, by rw [r.length]; exact hf.1, k _ _ _ _ (by rw [Rep]) (r.append (.cons a1 .nil)) hf.2⟩
  · exact hf.elim
theorem simU_ext : SimU S false fExt rExtend := fun w p vs ts as xs Q' QE Q ok mi r ra hf k => by
  unfold fExt at hf
  split at hf
  · obtain ⟨x, xs', rfl, a1, rfl⟩ := ra
    obtain ⟨b, zs, rfl, _, h2, h3⟩ := a1
    exact ⟨p, b, vs, zs, rfl, rfl, mi.at_, h2, by rw [r.length, h3.length]; exact hf.1, k _ _ _ _ (by rw [Rep]) (r.append h3) hf.2⟩
  · exact hf.elim
theorem simU_pop : SimU S true fPop rPop := fun w p vs ts as xs Q' QE Q ok mi r ra hf k => by
  unfold fPop at hf
  split at hf
  · obtain rfl : xs = [] := ra
    obtain ⟨t, e, q⟩ := ofO_inv hf
    obtain ⟨v, e1, r1⟩ := r.get e
    exact ⟨p, vs, v, rfl, rfl, mi.at_, by rw [r.length]; exact e1, k _ _ _ _ r1 r.dropLast q⟩
  · exact hf.elim
theorem simU_popAt : SimU S true fPopAt rPopAt := fun w p vs ts as xs Q' QE Q ok mi r ra hf k => by
  unfold fPopAt at hf
  split at hf
  · rename_i i
    obtain ⟨x, xs', rfl, a1, rfl⟩ := ra
    have a1 : Rep S w (.int i) x := a1
    rw [Rep] at a1
    subst a1
    obtain ⟨j, e, q⟩ := ofO_inv hf
    obtain ⟨t, e2, q⟩ := ofO_inv q
    obtain ⟨v, e3, r1⟩ := r.get e2
    exact ⟨p, vs, i, j, v, rfl, rfl, mi.at_, q.1.1, q.1.2, by rw [r.length]; exact e, e3, k _ _ _ _ r1 (r.eraseIdx j) q.2⟩
  · exact hf.elim
/-- the slot's own list is changed -/
def uM (i : Nat) (f : List T → List T → M (T × List T)) (mas : Env → M (List T)) (K : T → Env → Prop) (ex : Exn → Prop) (env : Env) : Prop :=
  ∃ ts, env[i]? = some (.va 1 (.lst ts)) ∧ mas env (fun as => f ts as (fun z => K z.1 (env.set i (.va 1 (.lst z.2)))) ex) ex
theorem slot1 (ok : Wok S w) (l : Le w0 w) (er : EnvR S w env σ fp) (ow : Own w0 fp) {i : Nat} {ts : List T} (e : env[i]? = some (.va 1 (.lst ts))) : ∃ p vs, σ[i]? = some (some (.ref p)) ∧ w.H p = some (.lst vs) ∧ Reps S w ts vs ∧ w.hp ≠ some p ∧
    ∀ w1, Wok S w1 → Le w w1 → Mine w1 p (.lst vs) ∧ ∀ ts' vs', Reps S w1 ts' vs' → ∃ fp2, EnvR S (w1.own p (.lst vs')) (env.set i (.va 1 (.lst ts'))) σ fp2 ∧ Own w0 fp2 ∧ Wok S (w1.own p (.lst vs')) ∧ Le w0 (w1.own p (.lst vs')) ∧ Agr w1 (w1.own p (.lst vs')) := by
  obtain ⟨v, f, e1, r1, nf, sub, _⟩ := er.upd e
  rw [RepO] at r1
  obtain ⟨p, vs, f0, rfl, h1, rfl, hz⟩ := r1
  obtain ⟨rfl, h2⟩ := hz.zero_inv
  have hp := sub p List.mem_cons_self
  obtain ⟨o1, o2, _⟩ := er.ow p hp
  refine ⟨p, vs, e1, h1, h2, o2, fun w1 ok1 l1 => ?_⟩
  have mi := Mine.le (S := S) ⟨h1, o1, o2⟩ ok l1 (show FzO (.lst vs) from trivial)
  refine ⟨mi, fun ts' vs' r' => ?_⟩
  have er1 := er.le ok l1
  obtain ⟨v', f', e1', r1', nf', sub', U⟩ := er1.upd e
  rw [e1] at e1'
  cases e1'
  rw [RepO] at r1'
  obtain ⟨p', us, f0', q, h1', rfl, h2'⟩ := r1'
  cases q
  obtain ⟨rfl, h2'⟩ := h2'.zero_inv
  obtain ⟨ok2, ag2⟩ := mi.put (o' := .lst vs') ok1 trivial
  obtain ⟨fp2, er2, s2⟩ := U (w1.own p (.lst vs')) 1 (.lst ts') [p] ag2 (fun b hb q => ⟨upd_ne (fun e => q (by rw [e]; exact List.mem_cons_self)), id⟩) (.lst upd_same (Reps.agr ag2 _ _ r')) nf (fun a ha => by
    obtain rfl : a = p := by simpa using ha
    exact ⟨.inl List.mem_cons_self, ⟨mi.nf, mi.nh, _, upd_same, trivial⟩⟩)
  refine ⟨fp2, er2, fun a ha => (s2 a ha).elim (ow a) fun q => ?_, ok2, (l.trans l1).own (ow p hp), ag2⟩
  obtain rfl : a = p := by simpa using q
  exact ow a hp
theorem uM_run {fz : Bool} {f : List T → List T → M (T × List T)} {r : RM} {mas : Env → M (List T)} {K : T → Env → Prop} {ex : Exn → Prop} {i : Nat} (sm : SimU S fz f r) (ok : Wok S w) (l : Le w0 w) (er : EnvR S w env σ fp) (ow : Own w0 fp) (hm : uM i f mas K ex env) (kx : KontX S w ex W σ)
    {Q : VK} (hQ : ∀ z v w2 env2 fp2, Wok S w2 → Le w0 w2 → Agr w w2 → EnvR S w2 env2 σ fp2 → Own w0 fp2 → Rep S w2 z v → K z env2 → Q v w2.H) :
    ∃ p, σ[i]? = some (some (.ref p)) ∧ (∃ vs, w.H p = some (.lst vs)) ∧ rdaF S W fz mas σ w.H fun xs H2 => r (.ref p) xs H2 Q := by
  obtain ⟨ts, e, hm⟩ := hm
  obtain ⟨p, vs, e1, h1, h2, _, U⟩ := slot1 ok l er ow e
  refine ⟨p, e1, ⟨vs, h1⟩, rdaF_use ok er hm (fun as xs w1 ok1 l1 ra q => ?_) kx⟩
  obtain ⟨mi, U⟩ := U w1 ok1 l1
  refine sm w1 p vs ts as xs _ _ Q ok1 mi (Reps.agr (l1.agr ok) _ _ h2) ra q fun z ts' u vs' rz r' q2 => ?_
  obtain ⟨fp2, er2, ow2, ok2, l2, ag2⟩ := U ts' vs' r'
  exact hQ z u _ _ fp2 ok2 l2 ((l1.agr ok).trans ag2) er2 ow2 (Rep.agr ag2 _ _ rz) q2
def sMt (i : Nat) (f : List T → List T → M (T × List T)) (mas : Env → M (List T)) : SM := fun D env => uM i f mas (fun _ e => D.nx e) D.ex env
def sSetMt (j i : Nat) (f : List T → List T → M (T × List T)) (mas : Env → M (List T)) : SM := fun D env => uM i f mas (fun z e => D.nx (e.set j (.va 0 z))) D.ex env
def sAsgMt (g : GM) (i : Nat) (f : List T → List T → M (T × List T)) (mas : Env → M (List T)) : SM := fun D env => uM i f mas (fun z e => ∃ e', g z e = some e' ∧ D.nx e') D.ex env
variable {x name : Str} {p apos cpos pos : Pos} {e : Expr} {es : List Expr} {id : String} {r : RM} {fz : Bool} {f : List T → List T → M (T × List T)} {mas : Env → M (List T)}
theorem tyL {K : PySem.W.Frag} {H : Hp} {p : Addr} {vs : List V} (h : H p = some (.lst vs)) : tyV K "list" (.ref p) H := by
  exact .inl ⟨rfl, vs, .inl (.inl h)⟩
theorem ds_mt (i : Nat) (slot : Slot "list" name id) (hty : typeOf (.builtin id) = pure (.type "method_descriptor")) (hm : MtR X id r) (sm : SimU S fz f r) (ha : DAF X S W fz (e :: es) mas) (hN : X.N[i]? = some x := by rfl) (hv : Vis X.env.scope x := by first | exact Or.inl rfl | exact Or.inr (Or.inl rfl) | exact Or.inr (Or.inr rfl))
    (hd : (x == ("__debug__" : Str)) = false := by decide) (hcd : (x == ("__classdict__" : Str)) = false := by decide)
    (hbase : attributeBase (.Name x p) name X.env (eval (.Name x p) X.env) = eval (.Name x p) X.env := by rfl)
    (hfew : ((backTo cpos (starEach (e :: es) X.env)).all (fun x => !x.1) && (backToKw cpos (keywordEach [] X.env)).all (fun x => x.1.isSome)
      && decide ((e :: es).length + ([] : List Keyword).length + (if ([] : List Keyword).isEmpty then 0 else 1) < 30)) = true := by rfl)
    (hline : (apos.endLine == cpos.line) = true := by rfl) (hs : starEach (e :: es) X.env = (false, eval e X.env) :: starEach es X.env := by first | exact star_c rfl | rfl) (hplain : (backTo cpos (starEach es X.env)).any (·.1) = false := by first | exact star_any rfl | rfl)
    (hsw : swapsWith (.Call (.Attribute (.Name x p) name apos) (e :: es) [] cpos) none pos.line X.env = pure false := by rfl) :
    DS X S W dr w0 (.Expr (.Call (.Attribute (.Name x p) name apos) (e :: es) [] cpos) pos) (sMt i f mas) :=
  PSmono (ps_expr (pe_bm F.plainAttrs_list slot hty hm (pe_var hN hv hd hcd) ha hbase hfew hline hs hplain) hsw) fun D σ H h => by
    obtain ⟨w, env, fp, D', rfl, ok, l, er, ow, hm, en⟩ := h
    obtain ⟨p, e1, ⟨vs, h1⟩, h2⟩ := uM_run (Q := fun _ H' => D.nx σ H') sm ok l er ow hm (en.kx ok l) fun z v w2 env2 fp2 ok2 l2 g2 er2 ow2 _ q => en.nx env2 σ w2 fp2 ok2 l2 g2 er2 ow2 q
    exact ⟨_, e1, tyL h1, h2⟩
/-- the same without arguments -/
theorem ds_mt0 (i : Nat) (slot : Slot "list" name id) (hty : typeOf (.builtin id) = pure (.type "method_descriptor")) (hm : MtR X id r) (sm : SimU S true f r) (hN : X.N[i]? = some x := by rfl) (hv : Vis X.env.scope x := by first | exact Or.inl rfl | exact Or.inr (Or.inl rfl) | exact Or.inr (Or.inr rfl))
    (hd : (x == ("__debug__" : Str)) = false := by decide) (hcd : (x == ("__classdict__" : Str)) = false := by decide)
    (hbase : attributeBase (.Name x p) name X.env (eval (.Name x p) X.env) = eval (.Name x p) X.env := by rfl) (hline : (apos.endLine == cpos.line) = true := by rfl)
    (hsw : swapsWith (.Call (.Attribute (.Name x p) name apos) [] [] cpos) none pos.line X.env = pure false := by rfl) :
    DS X S W dr w0 (.Expr (.Call (.Attribute (.Name x p) name apos) [] [] cpos) pos) (sMt i f mNil) :=
  PSmono (ps_expr (pe_bm0 F.plainAttrs_list slot hty hm (pe_var hN hv hd hcd) hbase hline) hsw) fun D σ H h => by
    obtain ⟨w, env, fp, D', rfl, ok, l, er, ow, hm, en⟩ := h
    obtain ⟨p, e1, ⟨vs, h1⟩, h2⟩ := uM_run (Q := fun _ H' => D.nx σ H') sm ok l er ow hm (en.kx ok l) fun z v w2 env2 fp2 ok2 l2 g2 er2 ow2 _ q => en.nx env2 σ w2 fp2 ok2 l2 g2 er2 ow2 q
    obtain ⟨w', env', fp', Q', QE, q0, q1, q2, q3, q4, q5⟩ := h2
    refine ⟨_, e1, tyL h1, ?_⟩
    rw [← q0]
    exact q4 [] [] w' q1 (.refl w') .nil q3
/-- y = x.m() -/
theorem ds_setMt0 (j i : Nat) {y : Str} {py : Pos} (slot : Slot "list" name id) (hty : typeOf (.builtin id) = pure (.type "method_descriptor")) (hm : MtR X id r) (sm : SimU S true f r) (hNd : X.N.Nodup) (hN : X.N[i]? = some x := by rfl) (hv : Vis X.env.scope x := by first | exact Or.inl rfl | exact Or.inr (Or.inl rfl) | exact Or.inr (Or.inr rfl))
    (hd : (x == ("__debug__" : Str)) = false := by decide) (hcd : (x == ("__classdict__" : Str)) = false := by decide)
    (hbase : attributeBase (.Name x p) name X.env (eval (.Name x p) X.env) = eval (.Name x p) X.env := by rfl) (hline : (apos.endLine == cpos.line) = true := by rfl)
    (hi : X.N[j]? = some y := by rfl) (hx : Loc X.env.scope y := by first | exact .inl rfl | exact .inr rfl)
    (hs : swapsWith (.Call (.Attribute (.Name x p) name apos) [] [] cpos) (some (.Name y py)) pos.line X.env = pure false := by rfl) (hf : X.fn y = true ∨ X.env.scope.names.lookup y = some .local := by first | exact .inl rfl | exact .inr rfl | assumption) :
    DS X S W dr w0 (.Assign [.Name y py] (.Call (.Attribute (.Name x p) name apos) [] [] cpos) pos) (sSetMt j i f mNil) :=
  PSmono (ps_set (i := j) hNd hi hx (pe_bm0 F.plainAttrs_list slot hty hm (pe_var hN hv hd hcd) hbase hline) hs hf) fun D σ H h => by
    obtain ⟨w, env, fp, D', rfl, ok, l, er, ow, hm, en⟩ := h
    obtain ⟨p, e1, ⟨vs, h1⟩, h2⟩ := uM_run (Q := fun v H' => D.nx (σ.set j (some v)) H') sm ok l er ow hm (en.kx ok l) fun z v w2 env2 fp2 ok2 l2 g2 er2 ow2 rz q => by
      obtain ⟨fp3, e1, e2⟩ := er2.set ok2 (.refl w2) (.zero rz) .nil j (fun _ => trivial) ok2
      exact en.nx _ _ w2 fp3 ok2 l2 g2 e1 (fun a ha => (e2 a ha).elim (ow2 a) (fun q => by simp at q)) q
    obtain ⟨w', env', fp', Q', QE, q0, q1, q2, q3, q4, q5⟩ := h2
    refine ⟨_, e1, tyL h1, ?_⟩
    rw [← q0]
    exact q4 [] [] w' q1 (.refl w') .nil q3
/-- y = x.m(..) -/
theorem ds_setMt (j i : Nat) {y : Str} {py : Pos} (slot : Slot "list" name id) (hty : typeOf (.builtin id) = pure (.type "method_descriptor")) (hm : MtR X id r) (sm : SimU S fz f r) (ha : DAF X S W fz (e :: es) mas) (hNd : X.N.Nodup) (hN : X.N[i]? = some x := by rfl) (hv : Vis X.env.scope x := by first | exact Or.inl rfl | exact Or.inr (Or.inl rfl) | exact Or.inr (Or.inr rfl))
    (hd : (x == ("__debug__" : Str)) = false := by decide) (hcd : (x == ("__classdict__" : Str)) = false := by decide)
    (hbase : attributeBase (.Name x p) name X.env (eval (.Name x p) X.env) = eval (.Name x p) X.env := by rfl)
    (hfew : ((backTo cpos (starEach (e :: es) X.env)).all (fun x => !x.1) && (backToKw cpos (keywordEach [] X.env)).all (fun x => x.1.isSome)
      && decide ((e :: es).length + ([] : List Keyword).length + (if ([] : List Keyword).isEmpty then 0 else 1) < 30)) = true := by rfl)
    (hline : (apos.endLine == cpos.line) = true := by rfl) (hst : starEach (e :: es) X.env = (false, eval e X.env) :: starEach es X.env := by first | exact star_c rfl | rfl) (hplain : (backTo cpos (starEach es X.env)).any (·.1) = false := by first | exact star_any rfl | rfl)
    (hi : X.N[j]? = some y := by rfl) (hx : Loc X.env.scope y := by first | exact .inl rfl | exact .inr rfl)
    (hs : swapsWith (.Call (.Attribute (.Name x p) name apos) (e :: es) [] cpos) (some (.Name y py)) pos.line X.env = pure false := by rfl) (hf : X.fn y = true ∨ X.env.scope.names.lookup y = some .local := by first | exact .inl rfl | exact .inr rfl | assumption) :
    DS X S W dr w0 (.Assign [.Name y py] (.Call (.Attribute (.Name x p) name apos) (e :: es) [] cpos) pos) (sSetMt j i f mas) :=
  PSmono (ps_set (i := j) hNd hi hx (pe_bm F.plainAttrs_list slot hty hm (pe_var hN hv hd hcd) ha hbase hfew hline hst hplain) hs hf) fun D σ H h => by
    obtain ⟨w, env, fp, D', rfl, ok, l, er, ow, hm, en⟩ := h
    obtain ⟨p, e1, ⟨vs, h1⟩, h2⟩ := uM_run (Q := fun v H' => D.nx (σ.set j (some v)) H') sm ok l er ow hm (en.kx ok l) fun z v w2 env2 fp2 ok2 l2 g2 er2 ow2 rz q => by
      obtain ⟨fp3, e1, e2⟩ := er2.set ok2 (.refl w2) (.zero rz) .nil j (fun _ => trivial) ok2
      exact en.nx _ _ w2 fp3 ok2 l2 g2 e1 (fun a ha => (e2 a ha).elim (ow2 a) (fun q => by simp at q)) q
    exact ⟨_, e1, tyL h1, h2⟩
/-! ### x op= e -/
def sAug (i d : Nat) (g : T → T → M T) (me : Env → M T) : SM := fun D env => ∃ t, env[i]? = some (.va 0 t) ∧ me env (fun u => g t u (fun z => D.nx (env.set i (.va d z))) D.ex) D.ex
theorem ds_aug (i : Nat) {op : Operator} {rp : TIp} {g : T → T → M T} {me : Env → M T} {pos' : Pos} (hN : X.N.Nodup) (he : DE X S W 0 e me) (ho : PIp X op rp) (sm : Sim2 S d g rp) (hi : X.N[i]? = some x := by rfl) (hx : Loc X.env.scope x := by first | exact .inl rfl | exact .inr rfl)
    (hf : X.fn x = true ∨ X.env.scope.names.lookup x = some .local := by first | exact .inl rfl | exact .inr rfl | assumption) : DS X S W dr w0 (.AugAssign (.Name x pos') op e pos) (sAug i d g me) :=
  PSmono (ps_aug (i := i) hN hi hx he ho hf) fun D σ H h => by
    obtain ⟨w, env, fp, D', rfl, ok, l, er, ow, ⟨t, e0, hm⟩, en⟩ := h
    obtain ⟨v, f, e1, r, _⟩ := er.sl.get e0
    refine ⟨v, e1, rd_use ok er hm (.z fun u y w1 ok1 l1 ru q => ?_) (en.kx ok l)⟩
    refine sm w1 t u v y _ _ _ ok1 ((Rep.agr (l1.agr ok) _ _ r.zero_inv.2).b ok1) (ru.b ok1) q fun z v2 w2 f2 ok2 l2 r2 fr q2 => ?_
    obtain ⟨fp2, e3, e4⟩ := (er.le ok l1).set ok1 l2 r2 fr i (fun _ => trivial) ok2
    exact en.nx _ _ w2 fp2 ok2 (l.trans (l1.trans l2)) ((l1.trans l2).agr ok) e3 (ow.of (l.trans l1) fr e4) q2
end
end Twl

/-! TL14: pairs of names; tuples taken apart; a list in a list; returns of an own list. -/
namespace Twl
open PySem PySem.Spec PyProof.Rows L2

def RepsD (S : Kx) (w : Wd) : List Nat → List T → List V → List Addr → Prop
  | [], [], [], fp => fp = []
  | d :: ds, t :: ts, v :: vs, fp => ∃ f f', fp = f ++ f' ∧ RepO S w d t v f ∧ RepsD S w ds ts vs f'
  | _, _, _, _ => False
theorem RepsD.agr {S : Kx} {w w' : Wd} (a : Agr w w') : ∀ {ds : List Nat} {ts : List T} {vs : List V} {fp : List Addr}, (∀ b ∈ fp, w'.H b = w.H b) → RepsD S w ds ts vs fp → RepsD S w' ds ts vs fp
  | [], [], [], fp, _, h => h
  | d :: ds, t :: ts, v :: vs, fp, k, h => by
    obtain ⟨f, f', rfl, h1, h2⟩ := h
    exact ⟨f, f', rfl, h1.agr a d t v f fun b hb => k b (List.mem_append_left _ hb), h2.agr a fun b hb => k b (List.mem_append_right _ hb)⟩
  | [], [], _ :: _, _, _, h => h.elim
  | [], _ :: _, _, _, _, h => h.elim
  | _ :: _, [], _, _, _, h => h.elim
  | _ :: _, _ :: _, [], _, _, h => h.elim
def KontD (S : Kx) (w : Wd) (ds : List Nat) (Q' : List T → Prop) (Q : List V → Hp → Prop) : Prop :=
  ∀ rs vs w' fp, Wok S w' → Le w w' → RepsD S w' ds rs vs fp → Fresh w w' fp → Q' rs → Q vs w'.H
def rdad (S : Kx) (W : WX) (ds : List Nat) (m : Env → M (List T)) : TA := fun σ H Q => ∃ w env fp Q' QE, w.H = H ∧ Wok S w ∧ EnvR S w env σ fp ∧ m env Q' QE ∧ KontD S w ds Q' Q ∧ KontX S w QE W σ
def DAD (X : Cx) (S : Kx) (W : WX) (ds : List Nat) (es : List Expr) (m : Env → M (List T)) : Prop := PA X es (rdad S W ds m)
section
variable {X : Cx} {S : Kx} {W : WX} {k d dr : Nat} {ds : List Nat} {a : Expr} {es : List Expr} {ma : Env → M T} {mas : Env → M (List T)} {w0 w w' : Wd} {env : Env} {σ : L2.St} {fp : List Addr}
theorem Fresh.keep {w1 w2 : Wd} {f : List Addr} (fr : Fresh w w1 f) (nh : ∀ a ∈ f, w1.hp ≠ some a) (l : Le w1 w2) : (∀ b ∈ f, w2.H b = w1.H b) ∧ Fresh w w2 f := by
  have st : ∀ b ∈ f, w2.H b = w1.H b := fun b hb => by
    obtain ⟨_, _, o, h3, h4⟩ := fr.nw b hb
    rw [h3]; exact l.hh b o h3 (nh b hb) h4.ntbl
  refine ⟨st, fr.nd, fun b hb => ?_⟩
  obtain ⟨h1, h2, o, h3, h4⟩ := fr.nw b hb
  refine ⟨h1, fun q => ?_, o, by rw [st b hb]; exact h3, h4⟩
  rcases l.fn b q with q | q
  · exact h2 q
  · rw [h3] at q; cases q
theorem Fresh.nh {w1 : Wd} {f : List Addr} (ok : Wok S w) (l : Le w w1) (fr : Fresh w w1 f) : ∀ a ∈ f, w1.hp ≠ some a := fun a ha => by
  rw [l.hp]; exact handNone ok (fr.nw a ha).1
theorem Fresh.app {w1 w2 : Wd} {f f' : List Addr} (ok : Wok S w) (l1 : Le w w1) (l2 : Le w1 w2) (fr : Fresh w w1 f) (fr' : Fresh w1 w2 f') : Fresh w w2 (f ++ f') := by
  have k := (fr.keep (fr.nh ok l1) l2).2
  refine ⟨?_, fun a ha => ?_⟩
  · rw [List.nodup_append]
    refine ⟨fr.nd, fr'.nd, fun a ha b hb e => ?_⟩
    subst e
    obtain ⟨_, _, o, h, _⟩ := fr.nw a ha
    rw [(fr'.nw a hb).1] at h; cases h
  · rcases List.mem_append.mp ha with q | q
    · exact k.nw a q
    · exact ⟨l1.no a (fr'.nw a q).1, (fr'.nw a q).2⟩
theorem dad_nil : DAD X S W [] [] mNil := PAmono pa_nil fun σ H Q h => by
  obtain ⟨w, env, fp, Q', QE, rfl, ok, er, hm, kt, kx⟩ := h
  exact kt [] [] w [] ok (.refl w) rfl .nil hm
theorem dad_cons (ha : DE X S W d a ma) (hr : DAD X S W ds es mas) (hs : starEach (a :: es) X.env = (false, eval a X.env) :: starEach es X.env := by first | exact star_c rfl | rfl) : DAD X S W (d :: ds) (a :: es) (mCons ma mas) := PAmono (pa_cons ha hr hs) fun σ H Q h => by
  obtain ⟨w, env, fp, Q', QE, rfl, ok, er, hm, kt, kx⟩ := h
  refine rd_use ok er hm (fun t x w1 f ok1 l1 r1 fr q1 => ?_) kx
  refine ⟨w1, env, fp, _, QE, rfl, ok1, er.le ok l1, q1, fun ts xs w2 f' ok2 l2 r2 fr' q2 => ?_, kx.le l1⟩
  have st := (fr.keep (fr.nh ok l1) l2).1
  exact kt (t :: ts) (x :: xs) w2 (f ++ f') ok2 (l1.trans l2) ⟨f, f', rfl, r1.agr (l2.agr ok1) d t x f st, r2⟩ (fr.app ok l1 l2 fr') q2
/-- the slots are set, from the left -/
def setAll : List Nat → List Nat → List T → Env → Env
  | i :: is, d :: ds, t :: ts, env => setAll is ds ts (env.set i (.va d t))
  | _, _, _, env => env
def setRaw : List Nat → List V → L2.St → L2.St
  | i :: is, v :: vs, σ => setRaw is vs (σ.set i (some v))
  | _, _, σ => σ
theorem setAll_er (ok : Wok S w) : ∀ {is ds : List Nat} {ts : List T} {vs : List V} {f : List Addr} {env : Env} {σ : L2.St} {fp : List Addr}, is.length = ds.length → EnvR S w env σ fp → RepsD S w ds ts vs f → f.Nodup → (∀ a ∈ f, a ∉ fp ∧ OwAt w a) →
    ∃ fp2, EnvR S w (setAll is ds ts env) (setRaw is vs σ) fp2 ∧ ∀ a ∈ fp2, a ∈ fp ∨ a ∈ f
  | [], [], [], [], f, env, σ, fp, _, er, h, _, _ => ⟨fp, er, fun a h => .inl h⟩
  | i :: is, d :: ds, t :: ts, v :: vs, f, env, σ, fp, hl, er, h, nd, o => by
    obtain ⟨f1, f2, rfl, h1, h2⟩ := h
    rw [List.nodup_append] at nd
    obtain ⟨fp1, e1, e2, e3⟩ := EnvS.set (s := .va d t) (o := some v) ⟨v, rfl, h1⟩ i er.sl
    have er1 : EnvR S w (env.set i (.va d t)) (σ.set i (some v)) fp1 := ⟨e1, e3 er.nd nd.1 fun a ha q => (o a (List.mem_append_left _ q)).1 ha, fun a ha => by
      rcases e2 a ha with q | q
      · exact er.ow a q
      · obtain ⟨_, o1, o2, o3⟩ := o a (List.mem_append_left _ q); exact ⟨o1, o2, o3⟩⟩
    obtain ⟨fp2, er2, s2⟩ := setAll_er ok (by simpa using hl) er1 h2 nd.2.1 fun a ha => ⟨fun q => (e2 a q).elim (o a (List.mem_append_right _ ha)).1 fun z => nd.2.2 a z a ha rfl, (o a (List.mem_append_right _ ha)).2⟩
    exact ⟨fp2, er2, fun a ha => (s2 a ha).elim (fun q => (e2 a q).imp id (List.mem_append_left _)) fun q => .inr (List.mem_append_right _ q)⟩
  | [], _ :: _, _, _, _, _, _, _, hl, _, _, _, _ => by simp at hl
  | _ :: _, [], _, _, _, _, _, _, hl, _, _, _, _ => by simp at hl
  | [], [], [], _ :: _, _, _, _, _, _, _, h, _, _ => h.elim
  | [], [], _ :: _, _, _, _, _, _, _, _, h, _, _ => h.elim
  | _ :: _, _ :: _, [], _, _, _, _, _, _, _, h, _, _ => h.elim
  | _ :: _, _ :: _, _ :: _, [], _, _, _, _, _, _, h, _, _ => h.elim
theorem RepsD.length : ∀ {ds : List Nat} {ts : List T} {vs : List V} {fp : List Addr}, RepsD S w ds ts vs fp → vs.length = ds.length
  | [], [], [], _, _ => rfl
  | d :: ds, t :: ts, v :: vs, _, h => by
    obtain ⟨f, f', rfl, h1, h2⟩ := h
    simp [h2.length]
  | [], [], _ :: _, _, h => h.elim
  | [], _ :: _, _, _, h => h.elim
  | _ :: _, [], _, _, h => h.elim
  | _ :: _, _ :: _, [], _, h => h.elim
def sPar (is ds : List Nat) (mas : Env → M (List T)) : SM := fun D env => mas env (fun ts => D.nx (setAll is ds ts env)) D.ex
theorem par_core {is : List Nat} {D' : EndT} {D : Ends} (hl : is.length = ds.length) (ok : Wok S w) (l : Le w0 w) (er : EnvR S w env σ fp) (ow : Own w0 fp) (hm : sPar is ds mas D' env) (en : EndsOk S W dr w0 w D' D) :
    rdad S W ds mas σ w.H (fun vs H1 => vs.length = is.length ∧ D.nx (setRaw is vs σ) H1 ∧ ∀ p, H1 p = none → D.nx (setRaw is vs σ) (upd H1 p (.tup vs))) := by
  refine ⟨w, env, fp, _, D'.ex, rfl, ok, er, hm, fun ts vs w1 f ok1 l1 r1 fr q => ?_, en.kx ok l⟩
  have oo : ∀ a ∈ f, a ∉ fp ∧ OwAt w1 a := fun a ha => ⟨(fun q => by
    obtain ⟨_, _, o, h, _⟩ := er.ow a q
    rw [(fr.nw a ha).1] at h
    exact (nomatch h)), (fr.nw a ha).2.1, fr.nh ok l1 a ha, (fr.nw a ha).2.2⟩
  obtain ⟨fp2, er2, s2⟩ := setAll_er ok1 hl (er.le ok l1) r1 fr.nd oo
  have own2 := ow.of l fr s2
  refine ⟨by rw [r1.length, hl], en.nx _ _ w1 fp2 ok1 (l.trans l1) (l1.agr ok) er2 own2 q, fun p hp => ?_⟩
  exact en.nx _ _ (w1.own p (.tup vs)) fp2 (own_ok ok1 hp) ((l.trans l1).trans (own_le hp)) ((l1.agr ok).trans (own_agr ok1 hp)) (er2.le ok1 (own_le hp)) own2 q
theorem ds_par2 (E : Ex X S W k) (i j : Nat) {x y : Str} {a b : Expr} {px py pt pos : Pos} {kt k2 pt2} (hds : ds.length = 2) (hN : X.N.Nodup) (ha : DAD X S W ds [a, b] mas) (hij : i ≠ j := by decide) (hi : X.N[i]? = some x := by rfl) (hj : X.N[j]? = some y := by rfl)
    (hx : X.env.scope.names.lookup x = some .local := by rfl) (hy : X.env.scope.names.lookup y = some .local := by rfl)
    (hw : swappedStores [.Tuple [.Name x px, .Name y py] kt pt] (.Tuple [a, b] k2 pt2) X.env = pure (some [x, y]) := by rfl)
    (hs : swapsWithSole [.Tuple [.Name x px, .Name y py] kt pt] (.Tuple [a, b] k2 pt2) pos.line X.env = pure false := by rfl) :
    DS X S W dr w0 (.Assign [.Tuple [.Name x px, .Name y py] kt pt] (.Tuple [a, b] k2 pt2) pos) (sPar [i, j] ds mas) :=
  PSmono (ps_par E.calm hN hi hj hij hx hy ha hw hs) fun D σ H h => by
    obtain ⟨w, env, fp, D', rfl, ok, l, er, ow, hm, en⟩ := h
    obtain ⟨w', env', fp', Q', QE, h0, h1, h2, h3, h4, h5⟩ := par_core (by rw [hds]; rfl) ok l er ow hm en
    refine ⟨w', env', fp', Q', QE, h0, h1, h2, h3, fun ts vs w1 f ok1 l1 r1 fr q => ?_, h5⟩
    obtain ⟨q1, q2, _⟩ := h4 ts vs w1 f ok1 l1 r1 fr q
    match vs, q1 with
    | [u, v], _ => exact ⟨u, v, rfl, q2⟩
theorem ds_par3 (E : Ex X S W k) (i j l : Nat) {x y z : Str} {a b c : Expr} {px py pz pt pos : Pos} {kt k2 pt2} (hds : ds.length = 3) (hN : X.N.Nodup) (ha : DAD X S W ds [a, b, c] mas) (hij : i ≠ j := by decide) (hil : i ≠ l := by decide) (hjl : j ≠ l := by decide) (hi : X.N[i]? = some x := by rfl) (hj : X.N[j]? = some y := by rfl) (hl : X.N[l]? = some z := by rfl)
    (hx : X.env.scope.names.lookup x = some .local := by rfl) (hy : X.env.scope.names.lookup y = some .local := by rfl) (hz : X.env.scope.names.lookup z = some .local := by rfl)
    (hw : swappedStores [.Tuple [.Name x px, .Name y py, .Name z pz] kt pt] (.Tuple [a, b, c] k2 pt2) X.env = pure (some [x, y, z]) := by rfl)
    (hs : swapsWithSole [.Tuple [.Name x px, .Name y py, .Name z pz] kt pt] (.Tuple [a, b, c] k2 pt2) pos.line X.env = pure false := by rfl) :
    DS X S W dr w0 (.Assign [.Tuple [.Name x px, .Name y py, .Name z pz] kt pt] (.Tuple [a, b, c] k2 pt2) pos) (sPar [i, j, l] ds mas) :=
  PSmono (ps_par3 E.calm hN hi hj hl hij hil hjl hx hy hz ha hw hs) fun D σ H h => by
    obtain ⟨w, env, fp, D', rfl, ok, l, er, ow, hm, en⟩ := h
    obtain ⟨w', env', fp', Q', QE, h0, h1, h2, h3, h4, h5⟩ := par_core (by rw [hds]; rfl) ok l er ow hm en
    refine ⟨w', env', fp', Q', QE, h0, h1, h2, h3, fun ts vs w1 f ok1 l1 r1 fr q => ?_, h5⟩
    obtain ⟨q1, q2, _⟩ := h4 ts vs w1 f ok1 l1 r1 fr q
    match vs, q1 with
    | [u, v, w], _ => exact ⟨u, v, w, rfl, q2⟩
/-! the same where the stores are not swapped: the tuple is laid and taken apart -/
def gRaw (is : List Nat) : TGs := fun xs σ H Q => xs.length = is.length ∧ Q (setRaw is xs σ) H
theorem pgr_nil : PGs X [] (gRaw []) := PGsmono pgs_nil fun xs σ H Q h => by
  obtain ⟨h1, h2⟩ := h
  match xs, h1 with
  | [], _ => exact ⟨rfl, h2⟩
theorem pgr_cons (i : Nat) {x : Str} {px : Pos} {is : List Nat} (hN : X.N.Nodup) (h2 : PGs X es (gRaw is)) (hi : X.N[i]? = some x := by rfl) (hx : Loc X.env.scope x := by first | exact .inl rfl | exact .inr rfl) (hf : X.fn x = true ∨ X.env.scope.names.lookup x = some .local := by first | exact .inl rfl | exact .inr rfl | assumption)
    (hs : (assignEach (.Name x px :: es) X.env).map (·.2) = assign (.Name x px) X.env :: (assignEach es X.env).map (·.2) := by rfl) : PGs X (.Name x px :: es) (gRaw (i :: is)) := PGsmono (pgs_cons (pg_name hN hi hx hf) h2 hs) fun xs σ H Q h => by
  obtain ⟨h1, h2⟩ := h
  match xs, h1 with
  | v :: vs, h1 => exact ⟨v, vs, rfl, by simpa using h1, h2⟩
theorem ds_parN (E : Ex X S W k) (is : List Nat) {tgs : List Expr} {pt pos : Pos} {kt k2 pt2} (hds : is.length = ds.length) (hsz : ds.length ≤ sizeLine) (ha : DAD X S W ds es mas) (hg : PGs X tgs (gRaw is)) (hn : (assignEach tgs X.env).length = is.length := by rfl) (hst : (assignEach tgs X.env).findIdx? (·.1) = none := by rfl)
    (hs : swapsWithSole [.Tuple tgs kt pt] (.Tuple es k2 pt2) pos.line X.env = pure false := by rfl) (hw : swappedStores [.Tuple tgs kt pt] (.Tuple es k2 pt2) X.env = pure none := by rfl)
    (h1 : (assignEach [.Tuple tgs kt pt] X.env).map (·.2) = [assign (.Tuple tgs kt pt) X.env] := by rfl) :
    DS X S W dr w0 (.Assign [.Tuple tgs kt pt] (.Tuple es k2 pt2) pos) (sPar is ds mas) :=
  PSmono (ps_asg (pe_tup ha) (pg_tup E.calm hg hn hst) hs hw h1) fun D σ H h => by
    obtain ⟨w, env, fp, D', rfl, ok, l, er, ow, hm, en⟩ := h
    obtain ⟨w', env', fp', Q', QE, h0, h1, h2, h3, h4, h5⟩ := par_core hds ok l er ow hm en
    refine ⟨w', env', fp', Q', QE, h0, h1, h2, h3, fun ts vs w1 f ok1 l1 r1 fr q => ?_, h5⟩
    obtain ⟨q1, q2, q3⟩ := h4 ts vs w1 f ok1 l1 r1 fr q
    refine ⟨by rw [r1.length]; exact hsz, fun p hp => ⟨p, vs, rfl, .inl (.inl upd_same), q1, q1, q3 p hp⟩⟩
/-! ### a value stored at a target -/
def sAsg (g : GM) (me : Env → M T) : SM := fun D env => me env (fun t => ∃ env', g t env = some env' ∧ D.nx env') D.ex
theorem ds_asg {vs : List Nat} {tg e : Expr} {g : GM} {me : Env → M T} {pos : Pos} (he : DE X S W 0 e me) (hg : DG X S vs tg g) (hs : swapsWithSole [tg] e pos.line X.env = pure false := by rfl) (hw : swappedStores [tg] e X.env = pure none := by rfl)
    (h1 : (assignEach [tg] X.env).map (·.2) = [assign tg X.env] := by rfl) : DS X S W dr w0 (.Assign [tg] e pos) (sAsg g me) :=
  PSmono (ps_asg he hg hs hw h1) fun D σ H h => by
    obtain ⟨w, env, fp, D', rfl, ok, l, er, ow, hm, en⟩ := h
    refine rd_use ok er hm (.z fun t v w1 ok1 l1 r1 q => ?_) (en.kx ok l)
    obtain ⟨env', g1, q⟩ := q
    exact ⟨w1, t, env, fp, env', rfl, ok1, er.le ok l1, r1, g1, fun σ' fp' er' sub _ => en.nx env' σ' w1 fp' ok1 (l.trans l1) (l1.agr ok) er' (fun a ha => ow a (sub a ha)) q⟩
/-! ### an own list is handed back -/
def sRetV (i d : Nat) : SM := fun D env => ∃ t, env[i]? = some (.va d t) ∧ D.rt env t
theorem ds_retV (i : Nat) {x : Str} {p pos : Pos} (hN : X.N[i]? = some x := by rfl) (hv : Vis X.env.scope x := by first | exact Or.inl rfl | exact Or.inr (Or.inl rfl) | exact Or.inr (Or.inr rfl)) (hd : (x == ("__debug__" : Str)) = false := by decide)
    (hcd : (x == ("__classdict__" : Str)) = false := by decide) : DS X S W dr w0 (.Return (some (.Name x p)) pos) (sRetV i dr) := PSmono (ps_ret (pe_var hN hv hd hcd)) fun D σ H h => by
  obtain ⟨w, env, fp, D', rfl, ok, l, er, ow, ⟨t, e, q⟩, en⟩ := h
  obtain ⟨v, f, e1, r, nf, sub, _⟩ := er.upd e
  exact ⟨v, e1, en.rt env σ fp t v w f ok l (.refl w) er ow r ⟨nf, fun a ha => ⟨ow a (sub a ha), (er.ow a (sub a ha)).1, (er.ow a (sub a ha)).2.2⟩⟩ q⟩
end
end Twl

/-! TL15: own lists of own lists; items stored. -/
namespace Twl
open PySem PySem.Spec PyProof.Rows L2

theorem RepsO.row {S : Kx} {w : Wd} {d : Nat} {t : T} : ∀ {ts : List T} {vs : List V} {fp : List Addr} {j : Nat}, RepsO S w d ts vs fp → fp.Nodup → ts[j]? = some t → ∃ v f, vs[j]? = some v ∧ RepO S w d t v f ∧ f.Nodup ∧ (∀ a ∈ f, a ∈ fp) ∧
    ∀ w' t', Agr w w' → (∀ b ∈ fp, b ∉ f → w'.H b = w.H b) → RepO S w' d t' v f → RepsO S w' d (ts.set j t') vs fp
  | [], vs, fp, j, h, nd, e => by simp at e
  | u :: ts, vs, fp, 0, h, nd, e => by
    obtain ⟨v, vs', f, f2, rfl, rfl, h1, h2⟩ := h.cons_inv
    simp at e
    subst e
    rw [List.nodup_append] at nd
    have dj : ∀ b ∈ f2, b ∉ f := fun b hb q => nd.2.2 b q b hb rfl
    refine ⟨v, f, rfl, h1, nd.1, fun a ha => List.mem_append_left _ ha, fun w' t' ag fr r => ?_⟩
    rw [List.set_cons_zero, RepsO]
    exact ⟨v, vs', f, f2, rfl, rfl, r, RepsO.agr ag d ts vs' f2 (fun b hb => fr b (List.mem_append_right _ hb) (dj b hb)) h2⟩
  | u :: ts, vs, fp, j + 1, h, nd, e => by
    obtain ⟨v, vs', f, f2, rfl, rfl, h1, h2⟩ := h.cons_inv
    rw [List.nodup_append] at nd
    obtain ⟨x, g, e1, r, ng, sub, K⟩ := RepsO.row h2 nd.2.1 (by simpa using e)
    have dj : ∀ b ∈ f, b ∉ g := fun b hb q => nd.2.2 b hb b (sub b q) rfl
    refine ⟨x, g, by simpa using e1, r, ng, fun a ha => List.mem_append_right _ (sub a ha), fun w' t' ag fr r' => ?_⟩
    rw [List.set_cons_succ, RepsO]
    exact ⟨v, vs', f, f2, rfl, rfl, RepO.agr ag d u v f (fun b hb => fr b (List.mem_append_left _ hb) (dj b hb)) h1, K w' t' ag (fun b hb q => fr b (List.mem_append_right _ hb) q) r'⟩
theorem RepsO.length {S : Kx} {w : Wd} {d : Nat} : ∀ {ts : List T} {vs : List V} {fp : List Addr}, RepsO S w d ts vs fp → vs.length = ts.length
  | [], vs, fp, h => by rw [h.nil_inv.1]; rfl
  | u :: ts, vs, fp, h => by
    obtain ⟨v, vs', f, f2, rfl, rfl, h1, h2⟩ := h.cons_inv
    simp [h2.length]
section
variable {X : Cx} {S : Kx} {W : WX} {k d dr : Nat} {w0 w w' : Wd} {env : Env} {σ : L2.St} {fp : List Addr} {D' : EndT} {D : Ends}
theorem slot2 (ok : Wok S w) (l : Le w0 w) (er : EnvR S w env σ fp) (ow : Own w0 fp) {i : Nat} {rows : List T} (e : env[i]? = some (.va 2 (.lst rows))) : ∃ p vs, σ[i]? = some (some (.ref p)) ∧ w.H p = some (.lst vs) ∧ vs.length = rows.length ∧
    ∀ j ts, rows[j]? = some (.lst ts) → ∃ q us, vs[j]? = some (.ref q) ∧ w.H q = some (.lst us) ∧ Reps S w ts us ∧ w.hp ≠ some q ∧
      ∀ w1, Wok S w1 → Le w w1 → Mine w1 q (.lst us) ∧ ∀ ts' us', Reps S w1 ts' us' → ∃ fp2, EnvR S (w1.own q (.lst us')) (env.set i (.va 2 (.lst (rows.set j (.lst ts'))))) σ fp2 ∧ Own w0 fp2 ∧ Wok S (w1.own q (.lst us')) ∧ Le w0 (w1.own q (.lst us')) ∧ Agr w1 (w1.own q (.lst us')) := by
  obtain ⟨v, f, e1, r1, nf, sub, _⟩ := er.upd e
  rw [RepO] at r1
  obtain ⟨p, vs, f0, rfl, h1, rfl, hz⟩ := r1
  refine ⟨p, vs, e1, h1, hz.length, fun j ts ej => ?_⟩
  obtain ⟨x, g, e2, r2, ng, sub2, _⟩ := hz.row (List.nodup_cons.mp nf).2 ej
  rw [RepO] at r2
  obtain ⟨q, us, g0, rfl, h2, rfl, hy⟩ := r2
  obtain ⟨rfl, h3⟩ := hy.zero_inv
  have hq := sub q (List.mem_cons_of_mem _ (sub2 q List.mem_cons_self))
  obtain ⟨o1, o2, _⟩ := er.ow q hq
  refine ⟨q, us, e2, h2, h3, o2, fun w1 ok1 l1 => ?_⟩
  have mi := Mine.le (S := S) ⟨h2, o1, o2⟩ ok l1 (show FzO (.lst us) from trivial)
  refine ⟨mi, fun ts' us' r' => ?_⟩
  have er1 := er.le ok l1
  obtain ⟨v', f', e1', r1', nf', sub', U⟩ := er1.upd e
  rw [e1] at e1'
  cases e1'
  rw [RepO] at r1'
  obtain ⟨p', vs', f0', z, h1', rfl, hz'⟩ := r1'
  cases z
  have hH := l1.hh p _ h1 (er.ow p (sub p List.mem_cons_self)).2.1 (by intro ps q; cases q)
  rw [hH] at h1'
  cases h1'
  have nd' := (List.nodup_cons.mp nf').2
  have hpn := (List.nodup_cons.mp nf').1
  obtain ⟨x', g', e2', r2', ng', sub2', K⟩ := hz'.row nd' ej
  rw [e2] at e2'
  cases e2'
  rw [RepO] at r2'
  obtain ⟨q', us2, g0', z, h2', rfl, hy'⟩ := r2'
  cases z
  obtain ⟨rfl, _⟩ := hy'.zero_inv
  have hqf := sub2' q List.mem_cons_self
  have hpq : p ≠ q := fun e => hpn (e ▸ hqf)
  obtain ⟨ok2, ag2⟩ := mi.put (o' := .lst us') ok1 trivial
  have rr := K (w1.own q (.lst us')) (.lst ts') ag2 (fun b hb z => upd_ne (fun e => z (by rw [e]; exact List.mem_cons_self))) (.lst upd_same (Reps.agr ag2 _ _ r'))
  have hqp := sub' q (List.mem_cons_of_mem _ hqf)
  obtain ⟨fp2, er2, s2⟩ := U (w1.own q (.lst us')) 2 (.lst (rows.set j (.lst ts'))) (p :: f0') ag2 (fun b hb z => ⟨upd_ne (fun e => z (by rw [e]; exact List.mem_cons_of_mem _ hqf)), id⟩)
    (by rw [RepO]; exact ⟨p, vs, f0', rfl, (upd_ne hpq).trans hH, rfl, rr⟩) nf' (fun a ha => ⟨.inl ha, by
      obtain ⟨b1, b2, o, b3, b4⟩ := er1.ow a (sub' a ha)
      refine ⟨b1, b2, ?_⟩
      by_cases c : a = q
      · subst c; exact ⟨_, upd_same, trivial⟩
      · exact ⟨o, (upd_ne c).trans b3, b4⟩⟩)
  refine ⟨fp2, er2, fun a ha => (s2 a ha).elim (ow a) fun z => ow a (sub' a z), ok2, (l.trans l1).own (ow q hqp), ag2⟩
def sMt2 (i : Nat) (mi : Env → M T) (f : List T → List T → M (T × List T)) (mas : Env → M (List T)) : SM := fun D env => ∃ rows, env[i]? = some (.va 2 (.lst rows)) ∧ mi env (fun u => ∃ n j ts, u = .int n ∧ ixN rows.length n = some j ∧ rows[j]? = some (.lst ts) ∧
  mas env (fun as => f ts as (fun z => D.nx (env.set i (.va 2 (.lst (rows.set j (.lst z.2)))))) D.ex) D.ex) D.ex
variable {x name : Str} {p p1 apos cpos pos : Pos} {e b : Expr} {es : List Expr} {id : String} {r : RM} {fz : Bool} {f : List T → List T → M (T × List T)} {mas : Env → M (List T)} {mb : Env → M T}
theorem ds_mt2 (E : Eu X S) (i : Nat) (slot : Slot "list" name id) (hty : typeOf (.builtin id) = pure (.type "method_descriptor")) (hm : MtR X id r) (sm : SimU S fz f r) (hb : DE X S W 0 b mb) (ha : DAF X S W fz (e :: es) mas) (hN : X.N[i]? = some x := by rfl) (hv : Vis X.env.scope x := by first | exact Or.inl rfl | exact Or.inr (Or.inl rfl) | exact Or.inr (Or.inr rfl))
    (hd : (x == ("__debug__" : Str)) = false := by decide) (hcd : (x == ("__classdict__" : Str)) = false := by decide) (hix : PlainIx b := by intro _ _; rfl)
    (hbase : attributeBase (.Subscript (.Name x p) b p1) name X.env (eval (.Subscript (.Name x p) b p1) X.env) = eval (.Subscript (.Name x p) b p1) X.env := by rfl)
    (hfew : ((backTo cpos (starEach (e :: es) X.env)).all (fun x => !x.1) && (backToKw cpos (keywordEach [] X.env)).all (fun x => x.1.isSome)
      && decide ((e :: es).length + ([] : List Keyword).length + (if ([] : List Keyword).isEmpty then 0 else 1) < 30)) = true := by rfl)
    (hline : (apos.endLine == cpos.line) = true := by rfl) (hs : starEach (e :: es) X.env = (false, eval e X.env) :: starEach es X.env := by first | exact star_c rfl | rfl) (hplain : (backTo cpos (starEach es X.env)).any (·.1) = false := by first | exact star_any rfl | rfl)
    (hsw : swapsWith (.Call (.Attribute (.Subscript (.Name x p) b p1) name apos) (e :: es) [] cpos) none pos.line X.env = pure false := by rfl) :
    DS X S W dr w0 (.Expr (.Call (.Attribute (.Subscript (.Name x p) b p1) name apos) (e :: es) [] cpos) pos) (sMt2 i mb f mas) := by
  have hI : IxR X (rIx S.K) := by rw [← E.hK]; exact ix_seq
  refine PSmono (ps_expr (pe_bm F.plainAttrs_list slot hty hm (pe_ix hI (pe_var hN hv hd hcd) hb hix) ha hbase hfew hline hs hplain) hsw) fun D σ H h => ?_
  obtain ⟨w, env, fp, D', rfl, ok, l, er, ow, ⟨rows, e0, hm⟩, en⟩ := h
  obtain ⟨p, vs, e1, h1, hl, U⟩ := slot2 ok l er ow e0
  refine ⟨_, e1, rd_use ok er hm (.z fun t v w1 ok1 l1 r1 q => ?_) (en.kx ok l)⟩
  obtain ⟨n, j, ts, rfl, hj, hrow, q⟩ := q
  rw [Rep] at r1
  subst r1
  obtain ⟨q1, us, e2, h2, h3, h4, U⟩ := U j ts hrow
  have hp1 : w1.H p = some (.lst vs) := l1.hh p _ h1 (by
    obtain ⟨v, f, e1', r1, nf, sub, _⟩ := er.upd e0
    rw [e1] at e1'
    cases e1'
    rw [RepO] at r1
    obtain ⟨p', vs', f0, z, _, rfl, _⟩ := r1
    cases z
    exact (er.ow p (sub p List.mem_cons_self)).2.1) (by intro ps q; cases q)
  have hq1 : w1.H q1 = some (.lst us) := l1.hh q1 _ h2 h4 (by intro ps q; cases q)
  refine .inl ⟨p, vs, n, .ref q1, rfl, rfl, .inl (.inl hp1), by unfold atI; rw [hl, hj]; exact e2, tyL hq1, ?_⟩
  refine rdaF_use ok1 (er.le ok l1) q (fun as xs w2 ok2 l2 ra q2 => ?_) ((en.agr (l1.agr ok)).kx ok1 (l.trans l1))
  obtain ⟨mi, U⟩ := U w2 ok2 (l1.trans l2)
  refine sm w2 q1 us ts as xs _ _ _ ok2 mi (Reps.agr ((l1.trans l2).agr ok) _ _ h3) ra q2 fun z ts' u vs' rz r' q3 => ?_
  obtain ⟨fp2, er2, ow2, ok3, l3, ag3⟩ := U ts' vs' r'
  exact en.nx _ σ _ fp2 ok3 l3 (((l1.trans l2).agr ok).trans ag3) er2 ow2 q3
/-! ### x[i] = v -/
def sSt (i : Nat) (mv mi : Env → M T) : SM := fun D env => mv env (fun v => ∃ ts, env[i]? = some (.va 1 (.lst ts)) ∧ mi env (fun u => ∃ n j, u = .int n ∧ ixN ts.length n = some j ∧ D.nx (env.set i (.va 1 (.lst (ts.set j v))))) D.ex) D.ex
theorem ds_st (i : Nat) {value : Expr} {mv : Env → M T} {pos' : Pos} (he : DE X S W 0 value mv) (hb : DE X S W 0 b mb) (hN : X.N[i]? = some x := by rfl) (hv : Vis X.env.scope x := by first | exact Or.inl rfl | exact Or.inr (Or.inl rfl) | exact Or.inr (Or.inr rfl))
    (hd : (x == ("__debug__" : Str)) = false := by decide) (hcd : (x == ("__classdict__" : Str)) = false := by decide)
    (hs : swapsWithSole [.Subscript (.Name x p) b pos'] value pos.line X.env = pure false := by rfl) (hw : swappedStores [.Subscript (.Name x p) b pos'] value X.env = pure none := by rfl) (h1 : (assignEach [.Subscript (.Name x p) b pos'] X.env).map (·.2) = [assign (.Subscript (.Name x p) b pos') X.env] := by rfl)
    (hix : ∀ v, assign (.Subscript (.Name x p) b pos') X.env v = (do
      let ov ← holding [v] (eval (.Name x p) X.env)
      let iv ← holding [v, ov] (eval b X.env)
      standAt pos'
      holding [v, ov, iv] (setItem ov iv v)
      release [v, ov, iv] []) := by intro _; rfl) :
    DS X S W dr w0 (.Assign [.Subscript (.Name x p) b pos'] value pos) (sSt i mv mb) :=
  PSmono (ps_asg he (pg_sub (pe_var hN hv hd hcd) hb set_list hix) hs hw h1) fun D σ H h => by
    obtain ⟨w, env, fp, D', rfl, ok, l, er, ow, hm, en⟩ := h
    refine rd_use ok er hm (.z fun t v w1 ok1 l1 r1 q => ?_) (en.kx ok l)
    obtain ⟨ts, e0, q⟩ := q
    have er1 := er.le ok l1
    obtain ⟨p, vs, e1, h1, h2, h3, U⟩ := slot1 ok1 (l.trans l1) er1 ow e0
    refine ⟨_, e1, rd_use ok1 er1 q (.z fun u y w2 ok2 l2 r2 q2 => ?_) ((en.agr (l1.agr ok)).kx ok1 (l.trans l1))⟩
    obtain ⟨n, j, rfl, hj, q2⟩ := q2
    rw [Rep] at r2
    subst r2
    obtain ⟨mi, U⟩ := U w2 ok2 l2
    have h2' := Reps.agr (l2.agr ok1) _ _ h2
    obtain ⟨fp2, er2, ow2, ok3, l3, ag3⟩ := U (ts.set j t) (vs.set j v) (Reps.set (Rep.agr (l2.agr ok1) _ _ r1) j h2')
    exact ⟨p, vs, n, j, rfl, rfl, mi.at_, by rw [h2.length]; exact hj, en.nx _ σ _ fp2 ok3 l3 (((l1.trans l2).agr ok).trans ag3) er2 ow2 q2⟩
/-! ### x[i] op= e -/
def sAugSt (i : Nat) (g : T → T → M T) (mi me : Env → M T) : SM := fun D env => ∃ ts, env[i]? = some (.va 1 (.lst ts)) ∧ mi env (fun u => ∃ n j t, u = .int n ∧ ixN ts.length n = some j ∧ ts[j]? = some t ∧
  me env (fun e => g t e (fun z => D.nx (env.set i (.va 1 (.lst (ts.set j z))))) D.ex) D.ex) D.ex
end
end Twl

/-! TL16: defs and their calls. -/
namespace Twl
open PySem PySem.Spec PyProof.Rows L2

def KontE (S : Kx) (w : Wd) (QE : Exn → Prop) (E : XK) : Prop := ∀ x c dd w', Wok S w' → Le w w' → RepX S w' x c dd → QE x → E c dd w'.H
/-- what a def promises by its denotation -/
def spOf (S : Kx) (dr n : Nat) (den : List T → M T) : Sp := fun vs H Q E => vs.length = n ∧ ∃ w ts Q' QE, w.H = H ∧ Wok S w ∧ Reps S w ts vs ∧ den ts Q' QE ∧ Kont S w dr Q' Q ∧ KontE S w QE E
def env0 (N : Nat) (ts : List T) : Env := ts.map (.va 0) ++ List.replicate (N - ts.length) .no
def fnDen (N : Nat) (m : SM) : List T → M T := fun ts Q E => m { nx := fun _ => Q .non, rt := fun _ => Q, bk := fun _ => False, ct := fun _ => False, ex := E } (env0 N ts)
theorem EnvS.app {S : Kx} {w : Wd} : ∀ {e1 : Env} {s1 : L2.St} {f1 : List Addr} {e2 : Env} {s2 : L2.St} {f2 : List Addr}, EnvS S w e1 s1 f1 → EnvS S w e2 s2 f2 → EnvS S w (e1 ++ e2) (s1 ++ s2) (f1 ++ f2)
  | [], [], f1, e2, s2, f2, h, h' => by
    have e : f1 = [] := h
    subst e
    exact h'
  | s :: es, o :: os, f1, e2, s2, f2, h, h' => by
    obtain ⟨f, f', rfl, h1, h2⟩ := h
    exact ⟨f, f' ++ f2, by rw [List.append_assoc], h1, h2.app h'⟩
  | [], _ :: _, _, _, _, _, h, _ => h.elim
  | _ :: _, [], _, _, _, _, h, _ => h.elim
theorem env_pars {S : Kx} {w : Wd} : ∀ {ts : List T} {vs : List V}, Reps S w ts vs → EnvS S w (ts.map (.va 0)) (vs.map some) []
  | [], vs, h => by rw [h.nil_inv]; rfl
  | t :: ts, vs, h => by
    obtain ⟨v, vs', rfl, h1, h2⟩ := h.cons_inv
    exact ⟨[], [], rfl, ⟨v, rfl, .zero h1⟩, env_pars h2⟩
theorem env_none {S : Kx} {w : Wd} : ∀ n, EnvS S w (List.replicate n .no) (List.replicate n none) []
  | 0 => rfl
  | n + 1 => ⟨[], [], rfl, rfl, env_none n⟩
theorem env0_er {S : Kx} {w : Wd} {N : List Str} {ts : List T} {vs : List V} (r : Reps S w ts vs) : EnvR S w (env0 N.length ts) (L2.start N vs) [] := by
  refine ⟨?_, List.nodup_nil, fun a h => by simp at h⟩
  unfold env0 L2.start
  rw [← r.length]
  exact (env_pars r).app (env_none _)
/-- a def that stands, with its promise -/
structure Fn (P : Program) (w : World) (S : Kx) (base : Heap) (k : Nat) (x : Str) (dr n : Nat) (den : List T → M T) : Prop where
  ex : ∃ (f : Addr) (fd : FuncData) (ps : List Str), S.mg x = some (.ref f) ∧ PySem.W.keepIn S.K (.ref f) = true ∧ Binds S.K fd ps [] ∧ ps.length = n ∧ FnOk P w S.K S.mg base (L2.CX P w) k f fd ps (spOf S dr n den)
section
variable {P : Program} {w : World} {S : Kx} {base : Heap} {k dr n : Nat} {x qual : Str} {N ps : List Str} {m : SM} {f : Addr} {fd : FuncData} {params : Arguments} {body : List Stmt} {scope : Scope}
theorem Fn.imp {den den' : List T → M T} (F : Fn P w S base k x dr n den) (h : ∀ ts Q E, den' ts Q E → den ts Q E) : Fn P w S base k x dr n den' := by
  obtain ⟨f, fd, ps, h1, h2, h3, h4, h5⟩ := F.ex
  exact ⟨f, fd, ps, h1, h2, h3, h4, h5.imp fun vs H Q E ⟨q1, w, ts, Q', QE, q2, q3, q4, q5, q6⟩ => ⟨q1, w, ts, Q', QE, q2, q3, q4, h _ _ _ q5, q6⟩⟩
theorem Fn.mono {j : Nat} {den : List T → M T} (F : Fn P w S base j x dr n den) (h : j ≤ k) : Fn P w S base k x dr n den := by
  obtain ⟨f, fd, ps, h1, h2, h3, h4, h5⟩ := F.ex
  exact ⟨f, fd, ps, h1, h2, h3, h4, h5.mono h⟩
abbrev bodyX (P : Program) (w : World) (S : Kx) (base : Heap) (N : List Str) (qual : Str) (scope : Scope) (f : Addr) (cdv : Value) (A : Around) (outer : List PySem.Env) (s : Shared) (H : Hp) (E : XK) : Cx := cxOf (L2.CX P w) P w S.K S.mg base N qual scope f cdv A outer s H E
theorem body_ex {cdv : Value} {A : Around} {outer : List PySem.Env} {s : Shared} {H : Hp} {E : XK} (hr : Room k (A.deeper (envOfC qual scope s.heap.objs.size f cdv))) : Ex (bodyX P w S base N qual scope f cdv A outer s H E) S (fun c d _ H => E c d H) k :=
  ⟨⟨rfl, rfl, by have := hr.un; show (A.deeper (envOfC qual scope s.heap.objs.size f cdv)).units + 200 < _; omega⟩, rfl, takes_of rfl rfl rfl rfl, hr⟩
theorem body_passes {cdv : Value} {A : Around} {outer : List PySem.Env} {s : Shared} {H : Hp} {E : XK} : PassesOwn (model (bodyX P w S base N qual scope f cdv A outer s H E).prog (bodyX P w S base N qual scope f cdv A outer s H E).w) (bodyX P w S base N qual scope f cdv A outer s H E).A (bodyX P w S base N qual scope f cdv A outer s H E).env (bodyX P w S base N qual scope f cdv A outer s H E).xe :=
  passes_of rfl
theorem fn_run (hps : ps.length = n) {vs : List V} {H : Hp} {Q : VK} {E : XK} (h : spOf S dr n (fnDen N.length m) vs H Q E) : ∃ w0, rdS S (fun c d _ H => E c d H) dr w0 m { nx := fun _ H' => Q .non H', rt := Q } (L2.start N vs) H := by
  obtain ⟨hl, w, ts, Q', QE, rfl, ok, r, hd, kt, ke⟩ := h
  refine ⟨w, w, _, [], _, rfl, ok, .refl w, env0_er r, (fun a h => by simp at h), hd, ⟨fun env σ w2 fp o2 l2 g2 e2 p2 q2 => ?_, fun _ _ _ r v w2 fp o2 l2 g2 _ _ e2 p2 q2 => kt r v w2 fp o2 l2 e2 p2 q2, fun _ _ _ _ _ _ _ _ _ q => q.elim, fun _ _ _ _ _ _ _ _ _ q => q.elim, fun x c dd σ w2 o2 l2 g2 r2 q2 => ke x c dd w2 o2 l2 r2 q2⟩⟩
  exact kt .non .non w2 [] o2 l2 (.at0 (by rw [Rep]) (fun _ e => by cases e) (fun _ _ e => by cases e) (fun _ _ e => by cases e) dr) .nil q2
theorem fn_mk {y : Str} (F : FunD S.K y qual params body scope [] [] f fd) (hm : S.mg x = some (.ref f)) (Sc : FnScope N ps scope) (hn : ps.length = n) (hb : ∀ (kV doc pm : Value) (an : Option Addr) (cdv ct : Value) (us : List Value), us.length = ps.length → bindArgs (PySem.W.fnOf y qual params body scope .none kV doc pm an cdv ct) ⟨us, []⟩ = pure (ps.zip us))
    (h : ∀ (cdv : Value) (A : Around) (outer : List PySem.Env) (s : Shared) (H : Hp) (E : XK) (w0 : Wd), Ex (bodyX P w S base N qual scope f cdv A outer s H E) S (fun c d _ H => E c d H) k → DSs (bodyX P w S base N qual scope f cdv A outer s H E) S (fun c d _ H => E c d H) dr w0 body m) :
    Fn P w S base (k + 1) x dr n (fnDen N.length m) :=
  ⟨f, fd, ps, hm, F.kp, F.bindsN hb, hn, F.ok Sc (fun vs H Q E h => by rw [hn]; exact h.1) fun cdv A outer s H vs Q E hr hs => (fn_run hn hs).elim fun w0 hw => ⟨_, h cdv A outer s H E w0 (body_ex hr), hw⟩⟩
end
section
variable {X : Cx} {S : Kx} {W : WX} {k j d dr n : Nat} {x : Str} {den : List T → M T} {p pos : Pos} {e : Expr} {es : List Expr} {mas : Env → M (List T)}
theorem spOf_in {w : Wd} {ts : List T} {vs : List V} {Q' : T → Prop} {QE : Exn → Prop} {Q : VK} {σ : L2.St} (hl : ts.length = n) (ok : Wok S w) (r : Reps S w ts vs) (hd : den ts Q' QE) (kt : Kont S w dr Q' Q) (kx : KontX S w QE W σ) : spOf S dr n den vs w.H Q (WE W σ) :=
  ⟨by rw [r.length, hl], w, ts, Q', QE, rfl, ok, r, hd, kt, fun x c dd w' o l r q => kx x c dd w' o l r q⟩
/-- the list of arguments has its length -/
structure Ln (n : Nat) (mas : Env → M (List T)) : Prop where
  out : ∀ env Q E, mas env Q E → mas env (fun ts => ts.length = n ∧ Q ts) E
theorem de_call (E : Ex X S W k) (G : Fn X.prog X.w S X.base j x dr n den) (hj : j ≤ k) (hn : n = (e :: es).length) (ha : DA X S W (e :: es) mas) (hg : Gl X x := by rfl) (hdb : (x == ("__debug__" : Str)) = false := by decide) (he : starEach (e :: es) X.env = (false, eval e X.env) :: starEach es X.env := by first | exact star_c rfl | rfl)
    (hpl : (backTo pos (starEach es X.env)).any (·.1) = false := by first | exact star_any rfl | rfl) (hln : ∀ {H : Hp} {w : Wd} {ts : List T} {vs : List V}, True := by intros; trivial) : DE X S W dr (.Call (.Name x p) (e :: es) [] pos) (fun env => bnd (mas env) fun ts => gd (ts.length = n) (den ts)) := by
  obtain ⟨f, fd, ps, h1, h2, h3, h4, h5⟩ := G.ex
  obtain ⟨⟨hK, hmg, _⟩, hcalm, tk, hr⟩ := E
  rw [← hK, ← hmg] at h5
  rw [← hmg] at h1
  rw [← hK] at h2 h3
  refine PEmono (pe_callS h5 (hr.mono hj) hg h1 h2 h3 (fun σ => passAt tk σ) ha hdb he hpl) fun σ H Q h => ?_
  obtain ⟨w, env, fp, Q', QE, rfl, ok, er, hm, kt, kx⟩ := h
  exact rda_use ok er hm (fun ts vs w1 ok1 l1 r1 q => spOf_in q.1 ok1 r1 q.2 (kt.le l1) (kx.le l1)) kx
/-- what is new is frozen -/
theorem de_frz {m : Env → M T} (h : DE X S W d e m) : DE X S W 0 e m := PEmono h fun σ H Q h => by
  obtain ⟨w, env, fp, Q', QE, rfl, ok, er, hm, kt, kx⟩ := h
  refine rd_use ok er hm (fun t v w1 f ok1 l1 r1 fr q => ?_) kx
  let w2 : Wd := { w1 with F := fun b => w1.F b ∨ b ∈ f }
  have ag : Agr w1 w2 := ⟨rfl, fun b q => .inl q, fun b _ => rfl⟩
  have ok2 : Wok S w2 := by
    refine ⟨fun b q => ?_, fun q e => ?_, ok1.tb⟩
    · rcases q with q | q
      · exact ok1.fz b q
      · exact ⟨fr.nh ok l1 b q, (fr.nw b q).2.2⟩
    · obtain ⟨c, cells, i, r, m, k, h1, h2, h3⟩ := (ok1.hd q e).it
      exact ⟨c, cells, i, r, m, k, h1, h2, ag.lst h3⟩
  exact kt t v w2 [] ok2 ⟨l1.hp, fun b q => .inl (l1.ff b q), fun b q => q.elim (l1.fn b) fun q => .inr (fr.nw b q).1, l1.hh, l1.no⟩ (.zero (RepO.froze ag rfl d t v f (fun b hb => .inr hb) r1)) .nil q
end
end Twl

/-! TL17: error classes; raise. -/
namespace Twl
open PySem PySem.Spec PyProof.Rows L2

/-- an error class without own __init__ is made without arguments -/
theorem pmk_own0 {X : Cx} {C : Addr} {bmB : List Value} {B newId initId : String} {x : Str} {p pos : Pos} (F : ExcBaseFacts B newId initId bmB) (q : PySem.W.excIn X.K C bmB newId = true) (gC : X.mg x = some (.ref C)) (kC : PySem.W.keepIn X.K (.ref C) = true) (r : Raises X (.ref C)) (hg : Gl X x)
    (hdb : (x == ("__debug__" : Str)) = false := by decide) : PMk X (.Call (.Name x p) [] [] pos) (fun _ H Q => Q (.ref C) none H) := by
  intro pins s σ H Q I h
  refine wpAny_Call_Name_kw (ld_glob I hg gC ?_ hdb)
  refine PySem.W.callWith_K0 I.kIn kC ?_
  show wpAny _ _ (call (.ref C) []) _ _ _
  obtain ⟨bm, N, nm, qn, bs, hdct, sn, sub, ab, col, dd, k0, k1, k2, k3, k5, mN, hC, hN, hni, T⟩ := exc_obj I.kIn q
  refine wpAny_call_exc_subT F T hC hN hni (fun h' e hm => ?_) (by show 0 ≤ sizeLine; exact Nat.zero_le _)
  exact mk_of I hm r h (I.hok.gone hm.new)
def veT : List Value := [.type "ValueError", .type "Exception", .type "BaseException", .type "object"]
/-- what every error class must say -/
structure ErC (K : PySem.W.Frag) (C : Addr) : Prop where
  ex : ExcC K C
  kC : PySem.W.keepIn K (.ref C) = true
  ty : PySem.W.typeIn K (.ref C) = some (.type "type")
def erB (K : PySem.W.Frag) (C : Addr) : Bool :=
  decide (PySem.W.findIn K (.ref C) "__getattribute__" = some (some (.builtin "BaseException.__getattribute__"))) && (decide (PySem.W.findIn K (.ref C) "__getattr__" = some none) && (decide (PySem.W.subIn K (.ref C) (.type "BaseException") = some true) && (PySem.W.hasDictIn K C &&
  (decide (PySem.W.findIn K (.ref C) "__class__" = some (some (.builtin "object.__class__"))) && (decide (PySem.W.specialIn K (.builtin "object.__class__") "__get__" = some (some (.builtin "getset_descriptor.__get__"))) && (decide (PySem.W.takesIn K (.builtin "object.__class__") = some true) &&
  (decide (PySem.W.mroIn K C (.type "object") = some true) && (PySem.W.keepIn K (.ref C) && decide (PySem.W.typeIn K (.ref C) = some (.type "type"))))))))))
theorem erB_ok {K : PySem.W.Frag} {C : Addr} (h : erB K C = true) : ErC K C := by
  unfold erB at h
  simp only [Bool.and_eq_true, decide_eq_true_eq] at h
  obtain ⟨h1, h2, h3, h4, h5, h6, h7, h8, h9, h10⟩ := h
  exact ⟨⟨h1, h2, h3, h4, h5, h6, h7, h8⟩, h9, h10⟩
/-- an error class without fields -/
structure Er0 (S : Kx) (x : Str) : Prop where
  ex : ∃ C, S.mg x = some (.ref C) ∧ ErC S.K C ∧ PySem.W.excIn S.K C veT "ValueError.__new__" = true
/-- an error class with one field, set by its own __init__(self, f) -/
structure Er1 (P : Program) (w : World) (S : Kx) (base : Heap) (x f : Str) : Prop where
  ex : ∃ (C fI : Addr) (fd : FuncData) (ps : List Str), S.mg x = some (.ref C) ∧ ErC S.K C ∧ OexC S.K C ∧ PySem.W.findIn S.K (.ref C) "__init__" = some (some (.ref fI)) ∧ PySem.W.typeIn S.K (.ref fI) = some (.type "function") ∧ PySem.W.findIn S.K (.ref C) f = some none ∧ Binds S.K fd ps [] ∧ ps.length = 2 ∧
    FnOk P w S.K S.mg base (L2.CX P w) 1 fI fd ps (fun vs H Q E => ∃ a v, vs = [.ref a, v] ∧ H a = some (exo a C none) ∧ ∀ dx, H dx = none → dx ≠ a → Q .non (upd (upd H dx (exd dx [(f, v)])) a (exo a C (some dx))))
def sRaise0 (x : Str) : SM := fun D _ => D.ex ⟨x, none⟩
def sRaise1 (x f : Str) (me : Env → M T) : SM := fun D env => me env (fun t => D.ex ⟨x, some (f, t)⟩) D.ex
section
variable {X : Cx} {S : Kx} {W : WX} {k d dr : Nat} {w0 : Wd} {x f : Str} {p pos pos' : Pos} {e : Expr} {me : Env → M T}
theorem ds_raise0 (E : Ex X S W k) (R : Er0 S x) (hg : Gl X x := by rfl) (hdb : (x == ("__debug__" : Str)) = false := by decide) : DS X S W dr w0 (.Raise (some (.Call (.Name x p) [] [] pos)) none pos') (sRaise0 x) := by
  obtain ⟨C, h1, h2, h3⟩ := R.ex
  refine PSmono (ps_raise E.calm E.tk (pmk_own0 PySem.F.excBase_ValueError (by rw [E.hK]; exact h3) (by rw [E.hmg]; exact h1) (by rw [E.hK]; exact h2.kC) (raises_own (by rw [E.hK]; exact h2.ex.hs) (by rw [E.hK]; exact h2.ty)) hg hdb)) fun D σ H h => ?_
  obtain ⟨w, env, fp, D', rfl, ok, l, er, ow, hm, en⟩ := h
  exact en.ex ⟨x, none⟩ _ _ σ w ok l (.refl w) ⟨C, h1, rfl, rfl⟩ hm
theorem passX {E : XK} (tk : Takes X W) (h : ∀ c d H, ¬ E c d H) : Passes (L2.CX X.prog X.w) X E := fun pins σ H s e s' I c => tk e s' (XE.of_call I (fun c d H' q => (h c d H' q).elim) c)
theorem ds_raise1 (E : Ex X S W (k + 2)) (R : Er1 X.prog X.w S X.base x f) (he : DE X S W 0 e me) (hg : Gl X x := by rfl) (hdb : (x == ("__debug__" : Str)) = false := by decide) (hs : starEach (e :: []) X.env = (false, eval e X.env) :: starEach [] X.env := by first | exact star_c rfl | rfl) (hpl : (backTo pos (starEach [] X.env)).any (·.1) = false := by first | exact star_any rfl | rfl) :
    DS X S W dr w0 (.Raise (some (.Call (.Name x p) [e] [] pos)) none pos') (sRaise1 x f me) := by
  obtain ⟨C, fI, fd, ps, h1, h2, h3, h4, h5, h6, h7, h8, h9⟩ := R.ex
  obtain ⟨⟨hK, hmg, hun⟩, hcalm, tk, hr⟩ := E
  rw [← hK, ← hmg] at h9
  have h1' := h1
  rw [← hmg] at h1'
  rw [← hK] at h2 h3 h4 h5 h6 h7
  refine PSmono (ps_raise hcalm tk (pmk_oex h3 h4 h5 h9 (hr.mono (Nat.le_add_left 2 k)) h7 .nil (passX tk fun _ _ _ h => h) hg h1' (pa_cons he pa_nil hs) hdb hs hpl)) fun D σ H h => ?_
  obtain ⟨w, env, fp, D', rfl, ok, l, er, ow, hm, en⟩ := h
  refine rd_use ok er hm (.z fun t v w1 ok1 l1 r1 q => ?_) (en.kx ok l)
  show ([v] : List V).length ≤ 1000 ∧ _
  refine ⟨by simp, fun a ha => ⟨a, v, rfl, upd_same, fun dx hdx hne => ⟨rfl, dx, [(f, v)], upd_same, ?_, ?_, ?_⟩⟩⟩
  · rw [upd_ne hne, upd_same]
  · rw [upd_ne hne] at hdx; exact hdx
  · have hdx' : w1.H dx = none := by rw [upd_ne hne] at hdx; exact hdx
    have e1 : upd (del (upd (upd (upd w1.H a (exo a C none)) dx (exd dx [(f, v)])) a (exo a C (some dx))) a) dx (.xd [(f, v)]) = (w1.add dx (.xd [(f, v)])).H := by
      funext b
      show _ = upd w1.H dx (.xd [(f, v)]) b
      by_cases c : b = dx
      · subst c; rw [upd_same, upd_same]
      · rw [upd_ne c, upd_ne c]
        by_cases c2 : b = a
        · subst c2; rw [del_same]; exact ha.symm
        · rw [del_ne c2, upd_ne c2, upd_ne c, upd_ne c2]
    rw [e1]
    have ad := add_ok (o := .xd [(f, v)]) ok1 hdx' trivial
    have al := add_le (o := .xd [(f, v)]) hdx'
    exact en.ex ⟨x, some (f, t)⟩ _ _ σ _ ad (l.trans (l1.trans al)) ((l1.trans al).agr ok) ⟨C, h1, rfl, dx, v, rfl, .inr rfl, upd_same, Rep.agr (al.agr ok1) _ _ r1⟩ q
end
/-- def __init__(self, f): self.f = f -/
theorem init_ok {P : Program} {w : World} {S : Kx} {base : Heap} {qual self f : Str} {C fI : Addr} {fd : FuncData} {params : Arguments} {scope : Scope} {ps : List Str} {p1 p2 p3 pos : Pos} (F : FunD S.K "__init__" qual params [.Assign [.Attribute (.Name self p1) f p2] (.Name f p3) pos] scope [] [] fI fd) (Sc : FnScope [self, f] [self, f] scope)
    (T : OexC S.K C) (hno : PySem.W.findIn S.K (.ref C) f = some none) (v0 : Vis scope self) (v1 : Vis scope f) (d0 : (self == ("__debug__" : Str)) = false := by decide) (d1 : (f == ("__debug__" : Str)) = false := by decide) (c0 : (self == ("__classdict__" : Str)) = false := by decide) (c1 : (f == ("__classdict__" : Str)) = false := by decide) :
    FnOk P w S.K S.mg base (L2.CX P w) 1 fI fd [self, f] (fun vs H Q E => ∃ a v, vs = [.ref a, v] ∧ H a = some (exo a C none) ∧ ∀ dx, H dx = none → dx ≠ a → Q .non (upd (upd H dx (exd dx [(f, v)])) a (exo a C (some dx)))) := by
  refine F.ok (k := 0) Sc (fun vs H Q E h => ?_) fun cdv A outer s H vs Q E hr h => ?_
  · obtain ⟨a, v, rfl, _⟩ := h; rfl
  · refine ⟨_, pss_one (ps_ost (X := bodyX P w S base [self, f] qual scope fI cdv A outer s H E) (pe_var (i := 0) rfl v0 d0 c0) (pe_var (i := 1) rfl v1 d1 c1)), ?_⟩
    obtain ⟨a, v, rfl, h1, h2⟩ := h
    exact ⟨v, rfl, .ref a, rfl, a, C, rfl, T, hno, .inl ⟨h1, h2⟩⟩
end Twl

/-! TL18: try with clauses that name the exception or not (the proof is turned from those of ps_try_many and ps_try_as). -/
namespace Twl
open PySem PySem.Spec PyProof.Rows L2

abbrev HdA := Value × Option Nat × (Addr → Value → Option Addr → TS)
def endsAs (D : Ends) (i : Nat) : Ends := { nx := fun σ' H' => D.nx (σ'.set i none) H', rt := D.rt, bk := fun σ' H' => D.bk (σ'.set i none) H', ct := fun σ' H' => D.ct (σ'.set i none) H' }
def wMA (K : PySem.W.Frag) (Wout : WX) (D : Ends) : List HdA → WX
  | [] => Wout
  | (c, none, ts) :: r => fun cls d σ H => ∃ b, PySem.W.exmOne K cls c = some b ∧ (b = true → ∀ a, H a = none → ts a cls d D σ H) ∧ (b = false → wMA K Wout D r cls d σ H)
  | (c, some i, ts) :: r => fun cls d σ H => ∃ b, PySem.W.exmOne K cls c = some b ∧ (b = true → ∀ a, H a = none → ts a cls d (endsAs D i) (σ.set i (some (.ref a))) H) ∧ (b = false → wMA K Wout D r cls d σ H)
abbrev SuOk (X : Cx) (suite : List Stmt) (ts : Addr → Value → Option Addr → TS) : Prop :=
  ∀ (a : Addr) (oe : Obj) (cls : Value) (d : Option Addr) (pn : List (Addr × Obj)), Zc cls d oe → (∃ vs, oe.data = .fields vs) → PSs (X.suite a ((a, oe) :: pn)) suite (ts a cls d)
inductive HdsA (X : Cx) : List ExceptHandler → List HdA → Prop
  | nil : HdsA X [] []
  | cons {x : Str} {c : Value} {ts : Addr → Value → Option Addr → TS} {b₀ : Stmt} {suite : List Stmt} {np pos' : Pos} {hds : List ExceptHandler} {l : List HdA} (hc : Names X x c) (hsu : SuOk X (b₀ :: suite) ts) (r : HdsA X hds l) :
      HdsA X (.ExceptHandler (some (.Name x np)) none (b₀ :: suite) pos' :: hds) ((c, none, ts) :: l)
  | as {x n : Str} {i : Nat} {c : Value} {ts : Addr → Value → Option Addr → TS} {b₀ : Stmt} {suite : List Stmt} {np pos' : Pos} {hds : List ExceptHandler} {l : List HdA} (hc : Names X x c) (hi : X.N[i]? = some n) (hln : X.env.kindOf n = some .local) (hsu : SuOk X (b₀ :: suite) ts) (r : HdsA X hds l) :
      HdsA X (.ExceptHandler (some (.Name x np)) (some n) (b₀ :: suite) pos' :: hds) ((c, some i, ts) :: l)
section
variable {X : Cx} {body : List Stmt} {h₀ : ExceptHandler} {hds : List ExceptHandler} {l : List HdA} {pos : Pos} {tb : WX → TS} {Wout : WX}
theorem ps_tryA (hN : X.N.Nodup) (hs : X.stack = X.env :: X.outer) (hf : X.env.frame = some X.env.locals) (tk : Takes X Wout)
    (hb : ∀ (W : WX) (pn : List (Addr × Obj)) (xe : Value → Shared → Prop), Takes (X.tr pn xe) W → PassesOwn (model X.prog X.w) X.A X.env xe → PSs (X.tr pn xe) body (tb W))
    (hh : HdsA X (h₀ :: hds) l) : PS X (.Try body (h₀ :: hds) [] [] pos) (fun D σ H => tb (wMA X.K Wout D l) D σ H) := by
  refine ⟨fun pins s σ H D I h => ?_⟩
  have ok := I.ok
  have hfr : X.A.frames = some (X.env :: X.outer) := by rw [ok.frames, hs]
  refine wpAny_Try_except ?_
  refine wpAny_mono ((hb (wMA X.K Wout D l) (X.pn ++ pins) (fun e s₁ => wpAny (model X.prog X.w) X.A (noteFrame e X.env) (fun _ s₂ => wpAny (model X.prog X.w) X.A (setFlight e none) (fun _ s₃ =>
    wpAny (model X.prog X.w) X.A (handleBy e X.env (h₀ :: hds)) (SP X pins D) X.xe s₃) X.xe s₂) X.xe s₁) (fun u s' xx => ?_) PassesOwn.looking).run [] s σ H D (I.toTry _) h) (fun f s1 hsp => ?_) (fun e s1 he => he)
  · -- the catch
    obtain ⟨a, B, sI, pins', σ', H', cls, d, rfl, J', nb, up, sky, na, os, ag, w⟩ := xx
    have J : Inv X pins σ' H' sI := J'.ofTry ok
    have sky' : Sky B (X.env :: X.outer) a (Zc cls d) X.env.locals s'.heap := by rw [← hs]; exact sky
    show wpAny (model X.prog X.w) X.A (noteFrame (.ref a) X.env) _ _ _
    refine Sky.land Zc.steady hfr hf sky' fun h3 fl3 up3 => ?_
    have J3 : Inv X pins σ' H' { s' with heap := h3 } := J.landed nb fl3.1 (up.trans up3) os ag
    obtain ⟨oe3, vs3, he3, hz3, hd3⟩ := fl3.there
    have notFr : ∀ {h : Heap} {o : Obj} {vs : Array Value}, h.FunFrames B (X.env :: X.outer) → h.get? a = some o → o.data = .fields vs → a ∉ frs (X.env :: X.outer) := fun {h o vs} ff e dd hm => by
      obtain ⟨_, o', e', hnf⟩ := ff.mem hm
      rw [e] at e'; cases e'
      exact hnf _ dd
    have nfr := notFr fl3.2.2.1 he3 hd3
    have nL : a ≠ X.env.locals := fun z => nfr (List.mem_filterMap.mpr ⟨X.env, List.mem_cons_self, by rw [hf, z]⟩)
    have nF : a ∉ X.fs := fun hm => by
      obtain ⟨e, he, q⟩ := List.mem_filterMap.mp hm
      exact nfr (List.mem_filterMap.mpr ⟨e, List.mem_cons_of_mem _ he, q⟩)
    have S3 := J3.suite he3 hd3 na nL nF
    have go : ∀ {hds' : List ExceptHandler} {l' : List HdA}, HdsA X hds' l' → wMA X.K Wout D l' cls d σ' H' →
        wpAny (model X.prog X.w) X.A (handleBy (.ref a) X.env hds') (SP X pins D) X.xe { s' with heap := h3 } := by
      intro hds' l' hk
      induction hk with
      | nil =>
        intro w
        refine wpAny_handleBy_nil ?_
        obtain ⟨k1, k2, k3, oe, vs, T, oT, ts', he, hz, hd, h1, hr⟩ := id fl3
        unfold PySem.passOn
        refine wpAny_bind (wpAny_field he hd h1 ?_)
        rw [if_neg (show ¬ ((Value.ref T == Value.none) = true) from by simp)]
        have fin : wpAny (model X.prog X.w) X.A (setFlight (.ref a) X.env.frame) (fun _ s4 => wpAny (model X.prog X.w) X.A (throw (.ref a) : Sem Flow) (SP X pins D) X.xe s4) X.xe { s' with heap := h3 } := by
          rw [hf]
          refine HandSPX.setFlight_upZ fl3 fun h4 hh4 up4 => wpAny_throw (tk _ _ ?_)
          exact ⟨a, B, sI, pins, σ', H', cls, d, rfl, J, nb, (up.trans up3).trans up4, .inr (.inr (by rw [hs]; exact hh4)), na, os, ag, w⟩
        first
          | exact wpAny_bind (wpAny_pure (wpAny_bind fin))
          | exact wpAny_bind fin
      | @cons x c ts b₀ suite np pos' hds2 l2 hc hsu r ih =>
        intro w
        obtain ⟨b, hb1, hyes, hno⟩ := w
        refine wpAny_handleBy_cons (codeAny_handlers_test ?_) (by intro q; cases q)
        have LT : PySem.W.Looks (model X.prog X.w) h3 (typeOf (.ref a)) cls := fun A Q E s k q => wpAny_typeOf_ref (k _ _ he3) (by rw [hz3.1]; exact q)
        have LM := PySem.W.exm_one (M := model X.prog X.w) (J3.kIn) LT hb1
        have test : ∀ {Q : Value → Shared → Prop} {E : Value → Shared → Prop}, Q c { s' with heap := h3 } → wpAny (model X.prog X.w) (X.A.mark (some (.ref a))) (eval (.Name x np) X.env) Q E { s' with heap := h3 } := fun {Q E} q => by
          obtain ⟨hg, hdbg, hm | ⟨hm, hv, hnn⟩⟩ := hc
          · exact ld_glob (X := X.suite a ((a, oe3) :: (X.pn ++ pins))) S3 hg hm q hdbg
          · exact ld_blt (X := X.suite a ((a, oe3) :: (X.pn ++ pins))) S3 hg hm hv q hnn hdbg
        refine test (LM.here ?_)
        cases b with
        | true =>
          refine codeAny_handlers_suite ?_
          refine HandSPX.lands_againZ fl3 fun h4 fl4 up4 => ?_
          have J4 : Inv X pins σ' H' { s' with heap := h4 } := J.landed nb fl4.1 ((up.trans up3).trans up4) os ag
          obtain ⟨oe4, vs4, he4, hz4, hd4⟩ := fl4.there
          have S4 := J4.suite he4 hd4 na nL nF
          refine wpAny_mono ((hsu a oe4 cls d (X.pn ++ pins) hz4 ⟨_, hd4⟩).run [] _ _ H' _ S4 (hyes rfl a na)) (fun f s6 hsp => ?_) (fun _ _ z => False.elim z)
          cases f with
          | next =>
            obtain ⟨σ6, H6, S6, q6⟩ := hsp
            exact ⟨_, _, S6.unsuite ok, q6⟩
          | brk =>
            obtain ⟨σ6, H6, S6, q6⟩ := hsp
            exact ⟨_, _, S6.unsuite ok, q6⟩
          | cont =>
            obtain ⟨σ6, H6, S6, q6⟩ := hsp
            exact ⟨_, _, S6.unsuite ok, q6⟩
          | ret u =>
            obtain ⟨v6, σ6, H6, S6, r6, q6⟩ := hsp
            exact ⟨_, _, _, S6.unsuite ok, r6, q6⟩
        | false =>
          show wpAny _ X.A (handleBy (.ref a) X.env hds2) _ _ _
          exact ih (hno rfl)
      | @as x n i c ts b₀ suite np pos' hds2 l2 hc hi hln hsu r ih =>
        intro w
        obtain ⟨b, hb1, hyes, hno⟩ := w
        refine wpAny_handleBy_cons (codeAny_handlers_test ?_) (by intro q; cases q)
        have LT : PySem.W.Looks (model X.prog X.w) h3 (typeOf (.ref a)) cls := fun A Q E s k q => wpAny_typeOf_ref (k _ _ he3) (by rw [hz3.1]; exact q)
        have LM := PySem.W.exm_one (M := model X.prog X.w) (J3.kIn) LT hb1
        have test : ∀ {Q : Value → Shared → Prop} {E : Value → Shared → Prop}, Q c { s' with heap := h3 } → wpAny (model X.prog X.w) (X.A.mark (some (.ref a))) (eval (.Name x np) X.env) Q E { s' with heap := h3 } := fun {Q E} q => by
          obtain ⟨hg, hdbg, hm | ⟨hm, hv, hnn⟩⟩ := hc
          · exact ld_glob (X := X.suite a ((a, oe3) :: (X.pn ++ pins))) S3 hg hm q hdbg
          · exact ld_blt (X := X.suite a ((a, oe3) :: (X.pn ++ pins))) S3 hg hm hv q hnn hdbg
        refine test (LM.here ?_)
        cases b with
        | true =>
          refine codeAny_handlers_suite_as ?_
          refine HandSPX.lands_againZ fl3 fun h4 fl4 up4 => ?_
          have J4 : Inv X pins σ' H' { s' with heap := h4 } := J.landed nb fl4.1 ((up.trans up3).trans up4) os ag
          obtain ⟨oe4, vs4, he4, hz4, hd4⟩ := fl4.there
          have S4 := J4.suite he4 hd4 na nL nF
          refine store_ok (X := X.suite a ((a, oe4) :: (X.pn ++ pins))) (v := .ref a) S4 hN hi (.inl hln) rfl (fun s5 S5 => ?_) (.inr hln)
          refine wpAny_mono ((hsu a oe4 cls d (X.pn ++ pins) hz4 ⟨_, hd4⟩).run [] s5 _ H' _ S5 (hyes rfl a na)) (fun f s6 hsp => ?_) (fun _ _ z => False.elim z)
          have end_ : ∀ {σ6 : L2.St} {H6 : Hp} {Q : Shared → Prop}, Inv (X.suite a ((a, oe4) :: (X.pn ++ pins))) [] σ6 H6 s6 → (∀ s7, Inv X pins (σ6.set i none) H6 s7 → Q s7) →
              wpAny (model X.prog X.w) X.A (do bindName X.env n .none; unbindBehindTheSuite X.env n pos') (fun _ s7 => Q s7) X.xe s6 := fun {σ6 H6 Q} S6 hq => gone_ok (S6.unsuite ok) hN hi hln hq
          cases f with
          | next =>
            obtain ⟨σ6, H6, S6, q6⟩ := hsp
            exact end_ S6 fun s7 J7 => ⟨_, _, J7, q6⟩
          | brk =>
            obtain ⟨σ6, H6, S6, q6⟩ := hsp
            exact end_ S6 fun s7 J7 => ⟨_, _, J7, q6⟩
          | cont =>
            obtain ⟨σ6, H6, S6, q6⟩ := hsp
            exact end_ S6 fun s7 J7 => ⟨_, _, J7, q6⟩
          | ret u =>
            obtain ⟨v6, σ6, H6, S6, r6, q6⟩ := hsp
            exact end_ S6 fun s7 J7 => ⟨_, _, _, J7, r6, q6⟩
        | false =>
          show wpAny _ X.A (handleBy (.ref a) X.env hds2) _ _ _
          exact ih (hno rfl)
    exact go hh w
  · cases f with
    | next =>
      obtain ⟨σ', H', J', q⟩ := hsp
      exact wpAny_execs_nil ⟨σ', H', J'.ofTry ok, q⟩
    | brk =>
      obtain ⟨σ', H', J', q⟩ := hsp
      exact ⟨σ', H', J'.ofTry ok, q⟩
    | cont =>
      obtain ⟨σ', H', J', q⟩ := hsp
      exact ⟨σ', H', J'.ofTry ok, q⟩
    | ret u =>
      obtain ⟨v, σ', H', J', r, q⟩ := hsp
      exact ⟨v, σ', H', J'.ofTry ok, r, q⟩
end
end Twl

/-! TL19: l.index(x), l.count(x). -/
namespace Twl
open PySem PySem.Spec PyProof.Rows L2

def rCountD (K : PySem.W.Frag) : V → List V → Hp → VK → Prop := fun x xs H Q => ∃ (a : Addr) (y : V) (d : PyData) (ds : List PyData), x = V.ref a ∧ xs = [y] ∧ Dp K H (V.ref a) (.list ds) ∧ Dp K H y d ∧
  SeqAt.shaped (.list ds) = true ∧ SeqAt.shaped d = true ∧ Q (.int ((ds.countP fun z => PyData.eqv z d : Nat) : Int)) H
theorem mt_countD {X : Cx} (hu : X.A.units + 65 < cLine) : MtR X "list.count" (rCountD X.K) := by
  intro pins s σ H x xs v us Q I rx rxs h
  obtain ⟨a, y, d, ds, rfl, rfl, hl, hy, sl, sd, q⟩ := h
  cases rx
  obtain ⟨uy, rfl, ry⟩ := rxs.one
  obtain ⟨bs, r1⟩ := Dp.reads I d y uy hy ry
  have hxs : PyData.canLayAll0 ds = true := SeqAt.canLay_of_shaped sl
  have hroom : X.A.units + 1 + min (PyData.depthAll ds) d.depth < cLine := room_in_shaped sd hu
  cases hl with
  | lst hs ha =>
    obtain ⟨its, rv, ⟨⟨cls, dd, data, sls⟩, n, ho, hc, hdn, hdt⟩, hlen⟩ := I.list hs
    simp only at hc hdt
    subst hc hdt
    obtain ⟨as, h4⟩ := Dp.readsAll I ds _ its ha rv
    have hmap : its.map (SeqAt.readOf s.heap) = ds := SeqAt.readsAll_map ds its as hxs h4
    refine call_meets PySem.F.slot_list_count ⟨_, ho, rfl⟩ PySem.F.entry_list_count (PySem.F.args_list_count_2 _ _)
      (SeqAt.list_countAt a its.toArray n dd sls uy (fun u => PyData.eqv (SeqAt.readOf s.heap u) d)) ⟨ho, SeqAt.items_eqAt (vs := its.toArray) (show ReadsAll s.heap its.toArray.toList ds as from h4) r1 hxs (SeqAt.canLay_of_shaped sd) hroom, ?_⟩
    have e : its.toArray.toList.countP (fun u => PyData.eqv (SeqAt.readOf s.heap u) d) = ds.countP fun z => PyData.eqv z d := by
      rw [← hmap, List.countP_map]
      rfl
    exact ⟨.int ((ds.countP fun z => PyData.eqv z d : Nat) : Int), H, I.tok _, ⟨_, by rw [e]⟩, q⟩
def gCnt : T → T → M T := fun t u => match t with
  | .lst ts => gd (u.shp = true ∧ (T.lst ts).shp = true) (ret (.int ((ts.countP fun z => z.eqv u : Nat) : Int)))
  | _ => stuck
def gIdx : T → T → M T := fun t u => match t with
  | .lst ts => gd (u.shp = true ∧ (T.lst ts).shp = true) (ofO (ts.findIdx? fun z => z.eqv u) fun j => ret (.int (j : Int)))
  | _ => stuck
section
variable {X : Cx} {S : Kx} {W : WX} {k d : Nat} {o e : Expr} {mo me : Env → M T} {apos cpos : Pos}
theorem lst_dp {w : Wd} {ts : List T} {v : V} (h : RepB S w (.lst ts) v) (s : (T.lst ts).shp = true) : ∃ p vs, v = .ref p ∧ w.H p = some (.lst vs) ∧ Dp S.K w.H (.ref p) (.list (T.pds ts)) ∧ SeqAt.shaped (.list (T.pds ts)) = true := by
  obtain ⟨h1, h2⟩ := shp_dp h s
  obtain ⟨p, vs, rfl, _, h3, _⟩ := h
  rw [T.pd] at h1 h2
  exact ⟨p, vs, rfl, h3, h1, h2⟩
def mBinL (g : T → T → M T) (a b : Env → M T) : Env → M T := fun env => bnd (a env) fun x => gd (∃ ts, x = .lst ts) (bnd (b env) fun y => g x y)
theorem de_lmeth {name : Str} {id : String} {r : V → List V → Hp → VK → Prop} {g : T → T → M T} (slot : Slot "list" name id) (hty : typeOf (.builtin id) = pure (.type "method_descriptor")) (hm : MtR X id r)
    (sm : ∀ (w : Wd) (t u : T) (x y : V) (Q' : T → Prop) (QE : Exn → Prop) (Q : VK), Wok S w → RepB S w t x → RepB S w u y → g t u Q' QE → Kont S w d Q' Q → r x [y] w.H Q)
    (ho : DB X S W o mo) (he : DB X S W e me) (hbase : attributeBase o name X.env (eval o X.env) = eval o X.env)
    (hfew : ((backTo cpos (starEach (e :: []) X.env)).all (fun x => !x.1) && (backToKw cpos (keywordEach [] X.env)).all (fun x => x.1.isSome)
      && decide ((e :: ([] : List Expr)).length + ([] : List Keyword).length + (if ([] : List Keyword).isEmpty then 0 else 1) < 30)) = true)
    (hline : (apos.endLine == cpos.line) = true) (hs : starEach (e :: []) X.env = (false, eval e X.env) :: starEach [] X.env) (hplain : (backTo cpos (starEach [] X.env)).any (·.1) = false) :
    DE X S W d (.Call (.Attribute o name apos) [e] [] cpos) (mBinL g mo me) := by
  refine PEmono (pe_bm (id := id) F.plainAttrs_list slot hty hm ho (dab_cons he dab_nil hs) hbase hfew hline hs hplain) fun σ H Q h => ?_
  obtain ⟨w, env, fp, Q', QE, rfl, ok, er, hm, kt, kx⟩ := h
  refine rdb_use ok er hm (fun t x w1 ok1 l1 r1 q1 => ?_) kx
  obtain ⟨⟨ts, rfl⟩, q1⟩ := q1
  refine ⟨?_, ?_⟩
  · obtain ⟨p, vs, rfl, _, h3, _⟩ := r1
    exact tyL h3
  · have q2 : bnd (mCons me mNil env) (fun us => match us with | [u] => g (.lst ts) u | _ => stuck) Q' QE := q1
    refine rdab_use ok1 (er.le ok l1) q2 (fun us xs w2 ok2 l2 rs q => ?_) (kx.le l1)
    match us, rs, q with
    | [u], rs, q =>
      obtain ⟨y, ys, rfl, ru, rfl⟩ := rs
      exact sm w2 (.lst ts) u x y Q' QE Q ok2 (r1.le ok1 l2) ru q (kt.le (l1.trans l2))
    | [], _, q => exact q.elim
    | _ :: _ :: _, _, q => exact q.elim
theorem de_cnt (E : Eu X S) (ho : DB X S W o mo) (he : DB X S W e me) (hbase : attributeBase o "count" X.env (eval o X.env) = eval o X.env := by rfl)
    (hfew : ((backTo cpos (starEach (e :: []) X.env)).all (fun x => !x.1) && (backToKw cpos (keywordEach [] X.env)).all (fun x => x.1.isSome)
      && decide ((e :: ([] : List Expr)).length + ([] : List Keyword).length + (if ([] : List Keyword).isEmpty then 0 else 1) < 30)) = true := by rfl)
    (hline : (apos.endLine == cpos.line) = true := by rfl) (hs : starEach (e :: []) X.env = (false, eval e X.env) :: starEach [] X.env := by first | exact star_c rfl | rfl) (hplain : (backTo cpos (starEach [] X.env)).any (·.1) = false := by first | exact star_any rfl | rfl) :
    DE X S W d (.Call (.Attribute o "count" apos) [e] [] cpos) (mBinL gCnt mo me) := by
  have hu : X.A.units + 65 < cLine := by have := E.un; omega
  have hm : MtR X "list.count" (rCountD S.K) := by rw [← E.hK]; exact mt_countD hu
  refine de_lmeth F.slot_list_count rfl hm (fun w t u x y Q' QE Q ok r1 r2 q k => ?_) ho he hbase hfew hline hs hplain
  unfold gCnt at q
  split at q
  · rename_i ts
    obtain ⟨⟨s1, s2⟩, q⟩ := q
    obtain ⟨p, vs, rfl, h3, dp, sh⟩ := lst_dp r1 s2
    obtain ⟨d1, d2⟩ := shp_dp r2 s1
    refine ⟨p, y, u.pd, T.pds ts, rfl, rfl, dp, d1, sh, d2, ?_⟩
    have e : ((T.pds ts).countP fun z => PyData.eqv z u.pd) = ts.countP fun z => z.eqv u := by
      rw [T.pds_map, List.countP_map]; rfl
    rw [e]
    exact kont_f ok rep_int rfl k q
  · exact q.elim
theorem findIdx_spec {ts : List T} {p : T → Bool} {j : Nat} (h : ts.findIdx? p = some j) : (∃ z, ts[j]? = some z ∧ p z = true) ∧ ∀ m z, m < j → ts[m]? = some z → p z = false := by
  rw [List.findIdx?_eq_some_iff_getElem] at h
  obtain ⟨h1, h2, h3⟩ := h
  refine ⟨⟨ts[j], List.getElem?_eq_getElem h1, h2⟩, fun m z hm e => ?_⟩
  obtain ⟨h4, rfl⟩ := List.getElem?_eq_some_iff.mp e
  simpa using h3 m hm
theorem de_idx (E : Eu X S) (ho : DB X S W o mo) (he : DB X S W e me) (hbase : attributeBase o "index" X.env (eval o X.env) = eval o X.env := by rfl)
    (hfew : ((backTo cpos (starEach (e :: []) X.env)).all (fun x => !x.1) && (backToKw cpos (keywordEach [] X.env)).all (fun x => x.1.isSome)
      && decide ((e :: ([] : List Expr)).length + ([] : List Keyword).length + (if ([] : List Keyword).isEmpty then 0 else 1) < 30)) = true := by rfl)
    (hline : (apos.endLine == cpos.line) = true := by rfl) (hs : starEach (e :: []) X.env = (false, eval e X.env) :: starEach [] X.env := by first | exact star_c rfl | rfl) (hplain : (backTo cpos (starEach [] X.env)).any (·.1) = false := by first | exact star_any rfl | rfl) :
    DE X S W d (.Call (.Attribute o "index" apos) [e] [] cpos) (mBinL gIdx mo me) := by
  have hu : X.A.units + 65 < cLine := by have := E.un; omega
  have hm : MtR X "list.index" (rIndexD S.K) := by rw [← E.hK]; exact mt_indexD hu
  refine de_lmeth F.slot_list_index rfl hm (fun w t u x y Q' QE Q ok r1 r2 q k => ?_) ho he hbase hfew hline hs hplain
  unfold gIdx at q
  split at q
  · rename_i ts
    obtain ⟨⟨s1, s2⟩, q⟩ := q
    obtain ⟨j, ej, q⟩ := ofO_inv q
    obtain ⟨p, vs, rfl, h3, dp, sh⟩ := lst_dp r1 s2
    obtain ⟨d1, d2⟩ := shp_dp r2 s1
    obtain ⟨⟨z, z1, z2⟩, zn⟩ := findIdx_spec ej
    refine ⟨p, y, u.pd, T.pds ts, j, z.pd, rfl, rfl, dp, d1, sh, d2, by rw [T.pds_map, List.getElem?_map, z1]; rfl, z2, fun m z' hm e => ?_, kont_f ok rep_int rfl k q⟩
    rw [T.pds_map, List.getElem?_map] at e
    cases e2 : ts[m]? with
    | none => rw [e2] at e; cases e
    | some y' =>
      rw [e2] at e
      obtain rfl := Option.some.inj e
      exact zn m y' hm e2
  · exact q.elim
end
end Twl

/-! TL20: try .. except, suites; what is told of the exception; a lambda that is called under a try. -/
namespace Twl
open PySem PySem.Spec PyProof.Rows L2

/-- the classes: names are raised, tests are asked for -/
structure ErS (S : Kx) (names tests : List Str) (sub : Str → Str → Bool) : Prop where
  tst : ∀ y ∈ tests, ∃ v : Value, (∃ cv, ClsV cv v) ∧ (S.mg y = some v ∨ (S.mg y = none ∧ bootBuiltins y = some v ∧ y ≠ "__name__")) ∧ ∀ x ∈ names, ∀ C, S.mg x = some (.ref C) → PySem.W.exmOne S.K (.ref C) v = some (sub x y) ∧ PySem.W.kitOne S.K (.ref C) v = some (sub x y)
  cls : ∀ x ∈ names, ∀ C, S.mg x = some (.ref C) → ErC S.K C
theorem ErS.more {S : Kx} {names tests : List Str} {sub : Str → Str → Bool} {l : List (Addr × Str)} (h : ErS S names tests sub) : ErS (S.more l) names tests sub := ⟨h.tst, h.cls⟩
abbrev HD := Str × Option Nat × (Addr → Value → Option Addr → SM)
def clr (D : EndT) (i : Nat) : EndT := { nx := fun e => D.nx (e.set i .no), rt := D.rt, bk := fun e => D.bk (e.set i .no), ct := fun e => D.ct (e.set i .no), ex := fun _ => False }
def hdX (names : List Str) (sub : Str → Str → Bool) : List HD → EndT → Env → Exn → Prop
  | [], D, env, x => D.ex x
  | (c, none, s) :: r, D, env, x => x.cls ∈ names ∧ if sub x.cls c = true then ∀ a cv dd, s a cv dd { D with ex := fun _ => False } env else hdX names sub r D env x
  | (c, some i, s) :: r, D, env, x => x.cls ∈ names ∧ if sub x.cls c = true then ∀ a cv dd, s a cv dd (clr D i) (env.set i (.ob a x cv dd)) else hdX names sub r D env x
abbrev SuC (X : Cx) (S : Kx) (dr : Nat) (w0 : Wd) (suite : List Stmt) (s : Addr → Value → Option Addr → SM) : Prop :=
  ∀ (a : Addr) (oe : Obj) (cls : Value) (d : Option Addr) (pn : List (Addr × Obj)), Zc cls d oe → (∃ vs, oe.data = .fields vs) → DSs (X.suite a ((a, oe) :: pn)) S WF dr w0 suite (s a cls d)
inductive HdsC (X : Cx) (S : Kx) (tests : List Str) (dr : Nat) (w0 : Wd) : List ExceptHandler → List HD → Prop
  | nil : HdsC X S tests dr w0 [] []
  | cons {c : Str} {s : Addr → Value → Option Addr → SM} {b₀ : Stmt} {suite : List Stmt} {np pos' : Pos} {hds : List ExceptHandler} {l : List HD} (hc : Gl X c) (hdb : (c == ("__debug__" : Str)) = false) (ht : c ∈ tests) (hsu : SuC X S dr w0 (b₀ :: suite) s) (r : HdsC X S tests dr w0 hds l) :
      HdsC X S tests dr w0 (.ExceptHandler (some (.Name c np)) none (b₀ :: suite) pos' :: hds) ((c, none, s) :: l)
  | as {c n : Str} {i : Nat} {s : Addr → Value → Option Addr → SM} {b₀ : Stmt} {suite : List Stmt} {np pos' : Pos} {hds : List ExceptHandler} {l : List HD} (hc : Gl X c) (hdb : (c == ("__debug__" : Str)) = false) (ht : c ∈ tests) (hi : X.N[i]? = some n) (hln : X.env.kindOf n = some .local) (hsu : SuC X S dr w0 (b₀ :: suite) s)
      (r : HdsC X S tests dr w0 hds l) : HdsC X S tests dr w0 (.ExceptHandler (some (.Name c np)) (some n) (b₀ :: suite) pos' :: hds) ((c, some i, s) :: l)
section
variable {X : Cx} {S : Kx} {W : WX} {k d dr : Nat} {w0 w : Wd} {env : Env} {σ : L2.St} {fp : List Addr} {names tests : List Str} {sub : Str → Str → Bool}
theorem EnvR.setB (er : EnvR S w env σ fp) (i : Nat) {s : Sl} {o : Option V} (r : SlRep S w s o []) : ∃ fp2, EnvR S w (env.set i s) (σ.set i o) fp2 ∧ ∀ a ∈ fp2, a ∈ fp := by
  obtain ⟨fp2, e1, e2, e3⟩ := EnvS.set r i er.sl
  refine ⟨fp2, ⟨e1, e3 er.nd List.nodup_nil (fun a _ q => by simp at q), fun a ha => ?_⟩, fun a ha => ?_⟩
  · rcases e2 a ha with q | q
    · exact er.ow a q
    · simp at q
  · rcases e2 a ha with q | q
    · exact q
    · simp at q
theorem hds_run (hK : X.K = S.K) (hmg : X.mg = S.mg) (R : ErS S names tests sub) {hds : List ExceptHandler} {l' : List HD} (hh : HdsC X S tests dr w0 hds l') : ∃ l : List HdA, HdsA X hds l ∧
    ∀ (D' : EndT) (D : Ends) (w : Wd) (env : Env) (σ : L2.St) (fp : List Addr) (x : Exn) (cls : Value) (d : Option Addr), Wok S w → Le w0 w → EnvR S w env σ fp → Own w0 fp → EndsOk S W dr w0 w D' D → RepX S w x cls d → hdX names sub l' D' env x → wMA X.K W D l cls d σ w.H := by
  induction hh with
  | nil => exact ⟨[], .nil, fun D' D w env σ fp x cls d ok l er ow en r h => en.ex x cls d σ w ok l (.refl w) r h⟩
  | @cons c s b₀ suite np pos' hds l hc hdb ht hsu r ih =>
    obtain ⟨l2, i1, i2⟩ := ih
    obtain ⟨v, _, h1, h2⟩ := R.tst c ht
    refine ⟨(v, none, fun a cls d => rdS S WF dr w0 (s a cls d)) :: l2, .cons ⟨hc, hdb, ?_⟩ hsu i1, fun D' D w env σ fp x cls d ok l er ow en rx h => ?_⟩
    · rw [hmg]; exact h1
    · obtain ⟨hx, h⟩ := h
      obtain ⟨C, c1, c2, c3⟩ := id rx
      refine ⟨sub x.cls c, by rw [hK, c2]; exact (h2 _ hx C c1).1, fun e a _ => ?_, fun e => ?_⟩
      · rw [if_pos e] at h
        exact ⟨w, env, fp, _, rfl, ok, l, er, ow, h a cls d, ⟨en.nx, en.rt, en.bk, en.ct, fun _ _ _ _ _ _ _ _ _ q => q.elim⟩⟩
      · rw [if_neg (by rw [e]; simp)] at h
        exact i2 D' D w env σ fp x cls d ok l er ow en rx h
  | @as c n i s b₀ suite np pos' hds l hc hdb ht hi hln hsu r ih =>
    obtain ⟨l2, i1, i2⟩ := ih
    obtain ⟨v, _, h1, h2⟩ := R.tst c ht
    refine ⟨(v, some i, fun a cls d => rdS S WF dr w0 (s a cls d)) :: l2, .as ⟨hc, hdb, ?_⟩ hi hln hsu i1, fun D' D w env σ fp x cls d ok l er ow en rx h => ?_⟩
    · rw [hmg]; exact h1
    · obtain ⟨hx, h⟩ := h
      obtain ⟨C, c1, c2, c3⟩ := id rx
      refine ⟨sub x.cls c, by rw [hK, c2]; exact (h2 _ hx C c1).1, fun e a _ => ?_, fun e => ?_⟩
      · rw [if_pos e] at h
        obtain ⟨fp2, e2, s2⟩ := er.setB i (s := .ob a x cls d) (o := some (.ref a)) ⟨rfl, rfl, rx⟩
        have cl : ∀ {env : Env} {σ : L2.St} {w2 : Wd} {fp : List Addr}, EnvR S w2 env σ fp → ∃ fp2, EnvR S w2 (env.set i .no) (σ.set i none) fp2 ∧ ∀ a ∈ fp2, a ∈ fp := fun er => er.setB i (s := .no) (o := none) rfl
        refine ⟨w, _, fp2, _, rfl, ok, l, e2, fun a ha => ow a (s2 a ha), h a cls d, ⟨fun env2 σ2 w2 fp3 o2 l2 g2 e3 p3 q => ?_, en.rt, fun env2 σ2 w2 fp3 o2 l2 g2 e3 p3 q => ?_, fun env2 σ2 w2 fp3 o2 l2 g2 e3 p3 q => ?_, fun _ _ _ _ _ _ _ _ _ q => q.elim⟩⟩
        · obtain ⟨fp4, e4, s4⟩ := cl e3
          exact en.nx _ _ w2 fp4 o2 l2 g2 e4 (fun a ha => p3 a (s4 a ha)) q
        · obtain ⟨fp4, e4, s4⟩ := cl e3
          exact en.bk _ _ w2 fp4 o2 l2 g2 e4 (fun a ha => p3 a (s4 a ha)) q
        · obtain ⟨fp4, e4, s4⟩ := cl e3
          exact en.ct _ _ w2 fp4 o2 l2 g2 e4 (fun a ha => p3 a (s4 a ha)) q
      · rw [if_neg (by rw [e]; simp)] at h
        exact i2 D' D w env σ fp x cls d ok l er ow en rx h
/-! ### try: e / except .. -/
def sTry (names : List Str) (sub : Str → Str → Bool) (me : Env → M T) (l : List HD) : SM := fun D env => me env (fun _ => D.nx env) (hdX names sub l D env)
theorem ds_try {h₀ : ExceptHandler} {hds : List ExceptHandler} {l : List HD} {e : Expr} {me : Env → M T} {p pos : Pos} (E : Ex X S W k) (hN : X.N.Nodup) (R : ErS S names tests sub) (hb : ∀ (W : WX) (pn : List (Addr × Obj)) (xe : Value → Shared → Prop), Ex (X.tr pn xe) S W k → DE (X.tr pn xe) S W 0 e me)
    (hh : HdsC X S tests dr w0 (h₀ :: hds) l) (hs : X.stack = X.env :: X.outer := by rfl) (hf : X.env.frame = some X.env.locals := by rfl) (hsw : ∀ (pn : List (Addr × Obj)) (xe : Value → Shared → Prop), swapsWith e none p.line (X.tr pn xe).env = pure false := by intro _ _; rfl) :
    DS X S W dr w0 (.Try [.Expr e p] (h₀ :: hds) [] [] pos) (sTry names sub me l) := by
  obtain ⟨l2, i1, i2⟩ := hds_run (W := W) E.hK E.hmg R hh
  refine PSmono (ps_tryA (tb := fun W' => tDrop (rd S W' 0 me)) hN hs hf E.tk (fun W' pn xe tk hp => pss_one (ps_expr (hb W' pn xe ⟨⟨E.hK, E.hmg, E.un⟩, E.calm, tk, E.hr⟩) (hsw pn xe))) i1) fun D σ H h => ?_
  obtain ⟨w, env, fp, D', rfl, ok, l, er, ow, hm, en⟩ := h
  refine rd_use ok er hm (.z fun t v w1 ok1 l1 r1 q => en.nx env σ w1 fp ok1 (l.trans l1) (l1.agr ok) (er.le ok l1) ow q) fun x c dd w1 ok1 l1 rx q => ?_
  exact i2 D' D w1 env σ fp x c dd ok1 (l.trans l1) (er.le ok l1) ow (en.agr (l1.agr ok)) rx q
end
section
variable {X : Cx} {S : Kx} {W : WX} {k d dr : Nat} {w0 w : Wd} {names tests : List Str} {sub : Str → Str → Bool}
/-! ### what a suite asks of the exception -/
/-- isinstance(e, y) -/
def mIsE (names : List Str) (sub : Str → Str → Bool) (a : Addr) (c : Value) (dd : Option Addr) (i : Nat) (y : Str) : Env → M T := fun env Q _ => ∃ x, env[i]? = some (.ob a x c dd) ∧ x.cls ∈ names ∧ x.arg.isNone = true ∧ Q (.bl (sub x.cls y))
/-- e.f -/
def mFldE (a : Addr) (c : Value) (dd : Option Addr) (i : Nat) (y f : Str) : Env → M T := fun env Q _ => ∃ x t, env[i]? = some (.ob a x c dd) ∧ x.cls = y ∧ x.arg = some (f, t) ∧ Q t
theorem EnvS.getE {a : Addr} {x : Exn} {c : Value} {dd : Option Addr} : ∀ {env : Env} {σ : L2.St} {fp : List Addr} {i : Nat}, EnvS S w env σ fp → env[i]? = some (.ob a x c dd) → σ[i]? = some (some (.ref a)) ∧ RepX S w x c dd
  | [], [], _, i, h, e => by simp at e
  | s :: es, o :: os, fp, 0, h, e => by
    obtain ⟨f, f', rfl, h1, h2⟩ := h
    simp at e
    subst e
    obtain ⟨_, rfl, r⟩ := h1
    exact ⟨rfl, r⟩
  | s :: es, o :: os, fp, i + 1, h, e => by
    obtain ⟨f, f', rfl, h1, h2⟩ := h
    have := EnvS.getE h2 (i := i) (by simpa using e)
    simpa using this
  | [], _ :: _, _, _, h, _ => h.elim
  | _ :: _, [], _, _, h, _ => h.elim
theorem de_isE {a : Addr} {oe : Obj} {c : Value} {dd : Option Addr} {pn : List (Addr × Obj)} {p p2 p3 pos : Pos} {x y : Str} (i : Nat) (U : Eu X S) (R : ErS S names tests sub) (hz : Zc c dd oe) (hf : ∃ vs, oe.data = .fields vs) (hm : S.mg "isinstance" = none) (ht : y ∈ tests) (hy : Gl X y := by rfl) (hg : Gl X "isinstance" := by rfl)
    (hN : X.N[i]? = some x := by rfl) (hv : Vis X.env.scope x := by first | exact Or.inl rfl | exact Or.inr (Or.inl rfl) | exact Or.inr (Or.inr rfl)) (hd : (x == ("__debug__" : Str)) = false := by decide) (hcd : (x == ("__classdict__" : Str)) = false := by decide) (hdy : (y == ("__debug__" : Str)) = false := by decide) :
    DE (X.suite a ((a, oe) :: pn)) S WF d (.Call (.Name "isinstance" p) [.Name x p2, .Name y p3] [] pos) (mIsE names sub a c dd i y) := by
  obtain ⟨v, ⟨cv, hcv⟩, h1, h2⟩ := R.tst y ht
  have rcv : RelV cv v := by cases hcv <;> rfl
  have hpy : PE (X.suite a ((a, oe) :: pn)) (.Name y p3) (tC cv) := by
    rcases h1 with h1 | ⟨h1, h3, h4⟩
    · exact pe_glob (X := X.suite a ((a, oe) :: pn)) hy (by rw [U.hmg]; exact h1) rcv hdy
    · exact pe_bltn (X := X.suite a ((a, oe) :: pn)) hy (by rw [U.hmg]; exact h1) h3 rcv h4 hdy
  have hpx : PE (X.suite a ((a, oe) :: pn)) (.Name x p2) (tVar i) := pe_var hN hv hd hcd
  refine ⟨fun pins s σ H Q I h => ?_⟩
  obtain ⟨w, env, fp, Q', QE, rfl, ok, er, ⟨ex, e0, hn, ha, q⟩, kt, kx⟩ := h
  obtain ⟨e1, C, c1, rfl, c3⟩ := er.sl.getE e0
  have hdd : dd = none := by
    cases e : ex.arg with
    | none => rw [e] at c3; exact c3
    | some z => rw [e] at ha; cases ha
  subst hdd
  have hc := R.cls _ hn C c1
  have hcall : CallR (X.suite a ((a, oe) :: pn)) (.builtin "isinstance") (rIsE X.K C a) := call_isE (by rw [U.hK]; exact hc.ex) hz hf
  refine (pe_callB hcall hg (by rw [U.hmg]; exact hm) (by decide +kernel) (pa_cons hpx (pa_cons hpy pa_nil)) (by decide) (by decide)).run pins s σ w.H Q I ?_
  refine ⟨.ref a, e1, ?_⟩
  exact ⟨cv, v, sub ex.cls y, rfl, fun u r => hcv.eq r, by rw [U.hK]; exact (h2 _ hn C c1).2, kont_f ok rep_bl rfl kt q⟩
theorem de_fldE {X : Cx} {S : Kx} {a : Addr} {oe : Obj} {c : Value} {dd : Option Addr} {pn : List (Addr × Obj)} {p pos : Pos} {P : Program} {wd : World} {base : Heap} {x y f : Str} (i : Nat) (U : Eu X S) (R : Er1 P wd S base y f) (hz : Zc c dd oe) (hf : ∃ vs, oe.data = .fields vs)
    (hN : X.N[i]? = some x := by rfl) (hv : Vis X.env.scope x := by first | exact Or.inl rfl | exact Or.inr (Or.inl rfl) | exact Or.inr (Or.inr rfl)) (hd : (x == ("__debug__" : Str)) = false := by decide) (hcd : (x == ("__classdict__" : Str)) = false := by decide) (hb : attributeBase (.Name x p) f X.env (eval (.Name x p) X.env) = eval (.Name x p) X.env := by rfl) :
    DE (X.suite a ((a, oe) :: pn)) S WF 0 (.Attribute (.Name x p) f pos) (mFldE a c dd i y f) := by
  obtain ⟨C, fI, fd, ps, h1, h2, h3, h4, h5, h6, h7, h8, h9⟩ := R.ex
  have hpx : PE (X.suite a ((a, oe) :: pn)) (.Name x p) (tVar i) := pe_var hN hv hd hcd
  refine PEmono (pe_xf (n := f) (C := C) (by rw [U.hK]; exact ⟨h2.ex.hg, h2.ex.hk, h2.ex.hs, h2.ex.hd⟩) (by rw [U.hK]; exact h6) hz hf hpx hb) fun σ H Q h => ?_
  obtain ⟨w, env, fp, Q', QE, rfl, ok, er, ⟨ex, t, e0, hn, ha, q⟩, kt, kx⟩ := h
  obtain ⟨e1, C', c1, c2, c3⟩ := er.sl.getE e0
  rw [hn, h1] at c1
  cases c1
  rw [ha] at c3
  obtain ⟨da, v, q1, q2, q3, q4⟩ := c3
  exact ⟨_, e1, rfl, c2, da, _, v, q1, q3, by simp [List.lookup], kont_0 ok q4 (.inl rfl) kt q⟩
end
/-! ### a lambda called under a try -/
def blank (n : Nat) : Env := List.replicate n .no
/-- what the call of the lambda does; w0: the world where the lambda came -/
def ActOk (X : Cx) (S : Kx) (w0 : Wd) (f : Addr) (b : M T) (a : Str) : Prop := ∀ (W : WX) (pn : List (Addr × Obj)) (xe : Value → Shared → Prop) (p1 p2 : Pos), Takes (X.tr pn xe) W →
  PE (X.tr pn xe) (.Call (.Name a p1) [] [] p2) (fun σ H Q => σ[0]? = some (some (.ref f)) ∧ ∃ w Q' QE, w.H = H ∧ Wok S w ∧ Le w0 w ∧ b Q' QE ∧ Kont S w 0 Q' Q ∧ ∀ x c dd w', Wok S w' → Le w w' → RepX S w' x c dd → QE x → ∀ σ', W c dd σ' w'.H)
theorem EnvS.getF {S : Kx} {w : Wd} {f : Addr} : ∀ {env : Env} {σ : L2.St} {fp : List Addr} {i : Nat}, EnvS S w env σ fp → env[i]? = some (.fo f) → σ[i]? = some (some (.ref f))
  | [], [], _, i, h, e => by simp at e
  | s :: es, o :: os, fp, 0, h, e => by
    obtain ⟨f, f', rfl, h1, h2⟩ := h
    simp at e
    subst e
    obtain ⟨_, rfl⟩ := h1
    rfl
  | s :: es, o :: os, fp, i + 1, h, e => by
    obtain ⟨f, f', rfl, h1, h2⟩ := h
    have := EnvS.getF h2 (i := i) (by simpa using e)
    simpa using this
  | [], _ :: _, _, _, h, _ => h.elim
  | _ :: _, [], _, _, h, _ => h.elim
theorem blank_er {S : Kx} {w : Wd} {σ : L2.St} : EnvR S w (blank σ.length) σ [] := by
  refine ⟨?_, List.nodup_nil, fun a h => by simp at h⟩
  unfold blank
  induction σ with
  | nil => rfl
  | cons o os ih => exact ⟨[], [], rfl, rfl, ih⟩
theorem takes_len {X : Cx} {W : WX} (tk : Takes X W) : Takes X (fun c d σ H => σ.length = X.N.length → W c d σ H) := fun u s' ⟨a, B, sI, pins, σ, H, cls, d, e, I, nb, up, sky, na, os, ag, w⟩ =>
  tk u s' ⟨a, B, sI, pins, σ, H, cls, d, e, I, nb, up, sky, na, os, ag, w I.len⟩
section
variable {X : Cx} {S : Kx} {W : WX} {k dr : Nat} {w0 : Wd} {names tests : List Str} {sub : Str → Str → Bool}
def sTryAct (n : Nat) (f : Addr) (names : List Str) (sub : Str → Str → Bool) (b : M T) (l : List HD) : SM := fun D env => env[0]? = some (.fo f) ∧ b (fun _ => D.nx env) (hdX names sub l D (blank n))
theorem ds_tryAct {h₀ : ExceptHandler} {hds : List ExceptHandler} {l : List HD} {f : Addr} {b : M T} {a : Str} {p1 p2 p pos : Pos} (E : Ex X S W k) (hN : X.N.Nodup) (R : ErS S names tests sub) (A : ActOk X S w0 f b a)
    (hh : HdsC X S tests dr w0 (h₀ :: hds) l) (hs : X.stack = X.env :: X.outer := by rfl) (hf : X.env.frame = some X.env.locals := by rfl) :
    DS X S W dr w0 (.Try [.Expr (.Call (.Name a p1) [] [] p2) p] (h₀ :: hds) [] [] pos) (sTryAct X.N.length f names sub b l) := by
  obtain ⟨l2, i1, i2⟩ := hds_run (W := W) E.hK E.hmg R hh
  refine PSmono (ps_tryA (tb := fun W' => tDrop (fun σ H Q => σ[0]? = some (some (.ref f)) ∧ ∃ w Q' QE, w.H = H ∧ Wok S w ∧ Le w0 w ∧ b Q' QE ∧ Kont S w 0 Q' Q ∧ ∀ x c dd w', Wok S w' → Le w w' → RepX S w' x c dd → QE x → ∀ σ', σ'.length = X.N.length → W' c dd σ' w'.H)) hN hs hf E.tk (fun W' pn xe tk hp => pss_one (ps_expr (A _ pn xe p1 p2 (takes_len tk)))) i1) fun D σ H h => ?_
  obtain ⟨w, env, fp, D', rfl, ok, l1, er, ow, ⟨e0, hm⟩, en⟩ := h
  refine ⟨er.sl.getF e0, w, _, _, rfl, ok, l1, hm, .z fun t v w1 ok1 l2 r1 q => en.nx env σ w1 fp ok1 (l1.trans l2) (l2.agr ok) (er.le ok l2) ow q, fun x c dd w1 ok1 l2 rx q σ' hl => ?_⟩
  refine i2 D' D w1 (blank X.N.length) σ' [] x c dd ok1 (l1.trans l2) ?_ (fun a h => by simp at h) (en.agr (l2.agr ok)) rx q
  rw [← hl]
  exact blank_er
end
end Twl

/-! TL21: the draw state. -/
namespace Twl
open PySem PySem.Spec PyProof.Rows L2

section
variable {S : Kx} {w : Wd} {p : Addr} {ts : List T}
theorem EnvS.hsva : ∀ {env : Env} {σ : L2.St} {fp : List Addr} {i : Nat}, EnvS S w env σ fp → env[i]? = some (.hs p ts) → EnvS S w (env.set i (.va 1 (.lst ts))) σ fp ∧ σ[i]? = some (some (.ref p))
  | [], [], _, i, h, e => by simp at e
  | s :: es, o :: os, fp, 0, h, e => by
    obtain ⟨f, f', rfl, h1, h2⟩ := h
    simp at e
    subst e
    obtain ⟨rfl, r⟩ := h1
    exact ⟨⟨f, f', rfl, ⟨_, rfl, r⟩, h2⟩, rfl⟩
  | s :: es, o :: os, fp, i + 1, h, e => by
    obtain ⟨f, f', rfl, h1, h2⟩ := h
    obtain ⟨q1, q2⟩ := EnvS.hsva h2 (i := i) (by simpa using e)
    exact ⟨⟨f, f', rfl, h1, q1⟩, by simpa using q2⟩
  | [], _ :: _, _, _, h, _ => h.elim
  | _ :: _, [], _, _, h, _ => h.elim
theorem EnvS.vahs : ∀ {env : Env} {σ : L2.St} {fp : List Addr} {i : Nat}, EnvS S w env σ fp → env[i]? = some (.va 1 (.lst ts)) → σ[i]? = some (some (.ref p)) → EnvS S w (env.set i (.hs p ts)) σ fp
  | [], [], _, i, h, e, _ => by simp at e
  | s :: es, o :: os, fp, 0, h, e, e2 => by
    obtain ⟨f, f', rfl, h1, h2⟩ := h
    simp at e e2
    subst e
    subst e2
    obtain ⟨v, q, r⟩ := h1
    cases q
    exact ⟨f, f', rfl, ⟨rfl, r⟩, h2⟩
  | s :: es, o :: os, fp, i + 1, h, e, e2 => by
    obtain ⟨f, f', rfl, h1, h2⟩ := h
    exact ⟨f, f', rfl, h1, EnvS.vahs h2 (i := i) (by simpa using e) (by simpa using e2)⟩
  | [], _ :: _, _, _, h, _, _ => h.elim
  | _ :: _, [], _, _, h, _, _ => h.elim
theorem EnvR.hsva {env : Env} {σ : L2.St} {fp : List Addr} {i : Nat} (er : EnvR S w env σ fp) (e : env[i]? = some (.hs p ts)) : EnvR S w (env.set i (.va 1 (.lst ts))) σ fp ∧ σ[i]? = some (some (.ref p)) :=
  ⟨⟨(er.sl.hsva e).1, er.nd, er.ow⟩, (er.sl.hsva e).2⟩
theorem get_set {α : Type} {l : List α} {i : Nat} {a b : α} (e : l[i]? = some a) : (l.set i b)[i]? = some b := by
  rw [List.getElem?_set_self (List.getElem?_eq_some_iff.mp e).1]
theorem set_set' {α : Type} {l : List α} {i : Nat} {a b : α} : (l.set i a).set i b = l.set i b := by simp
end
def mVarH (i : Nat) : Env → M T := fun env Q _ => ∃ p ts, env[i]? = some (.hs p ts) ∧ Q (.lst ts)
def sStH (i : Nat) (mv mi : Env → M T) : SM := fun D env => mv env (fun v => ∃ p ts, env[i]? = some (.hs p ts) ∧ mi env (fun u => ∃ n j, u = .int n ∧ ixN ts.length n = some j ∧ D.nx (env.set i (.hs p (ts.set j v)))) D.ex) D.ex
section
variable {X : Cx} {S : Kx} {W : WX} {k d dr : Nat} {w0 w w' : Wd} {env : Env} {σ : L2.St} {fp : List Addr} {x : Str} {p pos : Pos} {b : Expr} {mb : Env → M T}
theorem db_varH (i : Nat) {x : Str} {pos : Pos} (hN : X.N[i]? = some x := by rfl) (hv : Vis X.env.scope x := by first | exact Or.inl rfl | exact Or.inr (Or.inl rfl) | exact Or.inr (Or.inr rfl)) (hd : (x == ("__debug__" : Str)) = false := by decide)
    (hcd : (x == ("__classdict__" : Str)) = false := by decide) : DB X S W (.Name x pos) (mVarH i) := PEmono (pe_var hN hv hd hcd) fun σ H Q h => by
  obtain ⟨w, env, fp, Q', QE, rfl, ok, er, ⟨p, ts, e, q⟩, kt, kx⟩ := h
  obtain ⟨er', e1⟩ := er.hsva e
  obtain ⟨v, f, e2, r, hf⟩ := er'.sl.get (get_set e)
  rw [e1] at e2
  cases e2
  exact ⟨_, e1, kt _ _ w ok (.refl w) (r.b ok (Nat.le_refl 1) fun a ha => (er'.ow a (hf a ha)).2.1) q⟩
theorem ds_stH (i : Nat) {value : Expr} {mv : Env → M T} {pos' : Pos} (he : DE X S W 0 value mv) (hb : DE X S W 0 b mb) (hN : X.N[i]? = some x := by rfl) (hv : Vis X.env.scope x := by first | exact Or.inl rfl | exact Or.inr (Or.inl rfl) | exact Or.inr (Or.inr rfl))
    (hd : (x == ("__debug__" : Str)) = false := by decide) (hcd : (x == ("__classdict__" : Str)) = false := by decide)
    (hs : swapsWithSole [.Subscript (.Name x p) b pos'] value pos.line X.env = pure false := by rfl) (hw : swappedStores [.Subscript (.Name x p) b pos'] value X.env = pure none := by rfl) (h1 : (assignEach [.Subscript (.Name x p) b pos'] X.env).map (·.2) = [assign (.Subscript (.Name x p) b pos') X.env] := by rfl)
    (hix : ∀ v, assign (.Subscript (.Name x p) b pos') X.env v = (do
      let ov ← holding [v] (eval (.Name x p) X.env)
      let iv ← holding [v, ov] (eval b X.env)
      standAt pos'
      holding [v, ov, iv] (setItem ov iv v)
      release [v, ov, iv] []) := by intro _; rfl) :
    DS X S W dr w0 (.Assign [.Subscript (.Name x p) b pos'] value pos) (sStH i mv mb) :=
  PSmono (ps_asg he (pg_sub (pe_var hN hv hd hcd) hb set_list hix) hs hw h1) fun D σ H h => by
    obtain ⟨w, env, fp, D', rfl, ok, l, er, ow, hm, en⟩ := h
    refine rd_use ok er hm (.z fun t v w1 ok1 l1 r1 q => ?_) (en.kx ok l)
    obtain ⟨hp, ts, e0, q⟩ := q
    have er1 := er.le ok l1
    obtain ⟨er1', eσ⟩ := er1.hsva e0
    obtain ⟨p, vs, e1, h1, h2, h3, U⟩ := slot1 ok1 (l.trans l1) er1' ow (get_set e0)
    rw [eσ] at e1
    cases e1
    refine ⟨_, eσ, rd_use ok1 er1 q (.z fun u y w2 ok2 l2 r2 q2 => ?_) ((en.agr (l1.agr ok)).kx ok1 (l.trans l1))⟩
    obtain ⟨n, j, rfl, hj, q2⟩ := q2
    rw [Rep] at r2
    subst r2
    obtain ⟨mi, U⟩ := U w2 ok2 l2
    have h2' := Reps.agr (l2.agr ok1) _ _ h2
    obtain ⟨fp2, er2, ow2, ok3, l3, ag3⟩ := U (ts.set j t) (vs.set j v) (Reps.set (Rep.agr (l2.agr ok1) _ _ r1) j h2')
    rw [set_set'] at er2
    have er3 : EnvR S (w2.own hp (.lst (vs.set j v))) (env.set i (.hs hp (ts.set j t))) σ fp2 := by
      have := er2.sl.vahs (p := hp) (get_set e0) eσ
      rw [set_set'] at this
      exact ⟨this, er2.nd, er2.ow⟩
    exact ⟨hp, vs, n, j, rfl, rfl, mi.at_, by rw [h2.length]; exact hj, en.nx _ σ _ fp2 ok3 l3 (((l1.trans l2).agr ok).trans ag3) er3 ow2 q2⟩
end
/-! ### the def that draws -/
def hdT (cells : List Int) (i r m k : Int) : List T := [.lst (cells.map T.int), .int i, .int r, .int m, .int k]
/-- hand, many: some number below many -/
def drawDen : List T → M T := fun ts Q _ => ∃ m : Int, ts = [.hand, .int m] ∧ 0 < m ∧ m < 2 ^ 64 ∧ ∀ d : Int, 0 ≤ d → d < m → Q (.int d)
theorem ints_repT {S : Kx} {w : Wd} : ∀ ns : List Int, Reps S w (ns.map T.int) (ns.map V.int)
  | [] => .nil
  | n :: ns => .cons (by rw [Rep]) (ints_repT ns)
theorem rep_ints {S : Kx} {w : Wd} : ∀ {ns : List Int} {vs : List V}, Reps S w (ns.map T.int) vs → vs = ns.map V.int
  | [], vs, h => h.nil_inv
  | n :: ns, vs, h => by
    obtain ⟨v, vs', rfl, h1, h2⟩ := h.cons_inv
    rw [Rep] at h1
    rw [h1, rep_ints h2]; rfl
section
variable {P : Program} {w : World} {S : Kx} {base : Heap} {k : Nat} {x qual a b : Str} {N : List Str} {m : SM} {f : Addr} {fd : FuncData} {params : Arguments} {body : List Stmt} {scope : Scope}
/-- the ends of a drawing def's body -/
def drawEnd (p : Addr) (n : Int) : EndT := { nx := fun _ => False, rt := fun env t => (∃ cells i r m k, env[0]? = some (.hs p (hdT cells i r m k)) ∧ 0 ≤ i) ∧ ∃ d : Int, t = .int d ∧ 0 ≤ d ∧ d < n, bk := fun _ => False, ct := fun _ => False, ex := fun _ => False }
theorem draw_run {Ns : List Str} (hN : Ns.length = N.length) (hlen : 2 ≤ N.length) (hd : ∀ (p : Addr) (cells : List Int) (i r mm kk n : Int), 0 ≤ i → 0 < n → n < 2 ^ 64 → m (drawEnd p n) (.hs p (hdT cells i r mm kk) :: .va 0 (.int n) :: List.replicate (N.length - 2) .no))
    {vs : List V} {H : Hp} {Q : VK} {E : XK} (h : spOf S 0 2 drawDen vs H Q E) : ∃ w0, rdS S (fun c d _ H => E c d H) 0 w0 m { nx := fun _ H' => Q .non H', rt := Q } (L2.start N vs) H := by
  obtain ⟨hl, w, ts, Q', QE, rfl, ok, r, ⟨n, rfl, hn, hn2, hq⟩, kt, ke⟩ := h
  obtain ⟨v1, vs1, rfl, r1, rs1⟩ := r.cons_inv
  obtain ⟨v2, vs2, rfl, r2, rs2⟩ := rs1.cons_inv
  obtain rfl := rs2.nil_inv
  have r1' : ∃ p, w.hp = some p ∧ v1 = .ref p := by simpa only [Rep] using r1
  have r2' : v2 = .int n := by simpa only [Rep] using r2
  subst r2'
  obtain ⟨p, hp, rfl⟩ := r1'
  obtain ⟨c, cells, i, rr, mm, kk, e1, hi, e2⟩ := (ok.hd p hp).it
  have nF : ¬ w.F p := fun q => (ok.fz p q).1 hp
  let w1 : Wd := { w with hp := none }
  let w0 : Wd := { hp := none, F := w.F, H := fun b => if b = p then none else w.H b }
  have ok1 : Wok S w1 := ⟨fun b q => ⟨(by simp [w1]), (ok.fz b q).2⟩, fun q e => by simp [w1] at e, ok.tb⟩
  have ag01 : Agr w w1 → True := fun _ => trivial
  have l0 : Le w0 w1 := ⟨rfl, fun _ h => h, fun _ h => .inl h, fun b o h _ _ => by
    by_cases e : b = p
    · rw [show w0.H b = none from if_pos e] at h; cases h
    · rw [show w0.H b = w.H b from if_neg e] at h; exact h, fun b h => by
    by_cases e : b = p
    · exact if_pos e
    · exact (if_neg e).trans h⟩
  -- frozen parts read alike in w1
  have rc : Rep S w1 (.lst (cells.map T.int)) (.ref c) := by rw [Rep]; exact ⟨c, _, rfl, e2, ints_repT cells⟩
  have rH : Reps S w1 (hdT cells i rr mm kk) [.ref c, .int i, .int rr, .int mm, .int kk] := .cons rc (.cons (by rw [Rep]) (.cons (by rw [Rep]) (.cons (by rw [Rep]) (.cons (by rw [Rep]) .nil))))
  refine ⟨w0, w1, .hs p (hdT cells i rr mm kk) :: .va 0 (.int n) :: List.replicate (N.length - 2) .no, [p], drawEnd p n, rfl, ok1, l0, ?_, ?_, hd p cells i rr mm kk n hi hn hn2, ?_⟩
  · refine ⟨?_, by simp, fun a ha => ?_⟩
    · show EnvS S w1 _ (some (V.ref p) :: some (V.int n) :: List.replicate (N.length - 2) none) _
      exact ⟨[p], [], rfl, ⟨rfl, .lst e1 rH⟩, [], [], rfl, ⟨_, rfl, .zero (by rw [Rep])⟩, env_none _⟩
    · obtain rfl : a = p := by simpa using ha
      exact ⟨nF, by simp [w1], _, e1, trivial⟩
  · intro a ha
    obtain rfl : a = p := by simpa using ha
    exact if_pos rfl
  · refine ⟨fun _ _ _ _ _ _ _ _ _ q => q.elim, fun env σ fpE t v w2 fp o2 l2 g2 er2 _ rp _ q => ?_, fun _ _ _ _ _ _ _ _ _ q => q.elim, fun _ _ _ _ _ _ _ _ _ q => q.elim, fun _ _ _ _ _ _ _ _ _ q => q.elim⟩
    obtain ⟨⟨cells', i', r', m', k', e0, hi'⟩, d, rfl, d0, d1⟩ := q
    obtain ⟨er2', eσ⟩ := er2.hsva e0
    obtain ⟨v', f', e3, rp', hf'⟩ := er2'.sl.get (get_set e0)
    rw [eσ] at e3
    cases e3
    rw [RepO] at rp'
    obtain ⟨p', us, f0, q, h1, rfl, hz⟩ := rp'
    cases q
    obtain ⟨_, hu⟩ := hz.zero_inv
    obtain ⟨n1, n2, _⟩ := er2'.ow p (hf' p List.mem_cons_self)
    let w3 : Wd := { w2 with hp := some p }
    obtain ⟨u0, us0, rfl, ru0, hu⟩ := hu.cons_inv
    obtain ⟨u1, us1, rfl, ru1, hu⟩ := hu.cons_inv
    obtain ⟨u2, us2, rfl, ru2, hu⟩ := hu.cons_inv
    obtain ⟨u3, us3, rfl, ru3, hu⟩ := hu.cons_inv
    obtain ⟨u4, us4, rfl, ru4, hu⟩ := hu.cons_inv
    obtain rfl := hu.nil_inv
    have ru1 : u1 = .int i' := by simpa only [Rep] using ru1
    have ru2 : u2 = .int r' := by simpa only [Rep] using ru2
    have ru3 : u3 = .int m' := by simpa only [Rep] using ru3
    have ru4 : u4 = .int k' := by simpa only [Rep] using ru4
    subst ru1 ru2 ru3 ru4
    have ru0 : ∃ p vs, u0 = .ref p ∧ LstAt w2 p vs ∧ Reps S w2 (cells'.map T.int) vs := by simpa only [Rep] using ru0
    obtain ⟨c', vs', rfl, hc', rc'⟩ := ru0
    have ev := rep_ints rc'
    subst ev
    have ok3 : Wok S w3 := ⟨fun b q => ⟨fun e => by
        have e' : p = b := Option.some.inj e
        subst e'
        exact n1 q, (o2.fz b q).2⟩, fun q e => by
        have e' : p = q := Option.some.inj e
        subst e'
        exact ⟨⟨c', cells', i', r', m', k', h1, hi', hc'⟩⟩, o2.tb⟩
    have l3 : Le w w3 := ⟨hp.symm, fun b q => l2.ff b q, fun b q => (l2.fn b q).elim .inl fun z => by
        by_cases e : b = p
        · subst e; exact (n1 q).elim
        · exact .inr ((if_neg e).symm.trans z), fun b o h1 h2 h3 => by
        have e : b ≠ p := fun e => h2 (by rw [e]; exact hp)
        exact l2.hh b o ((if_neg e).trans h1) (by simp [w0]) h3, fun b h => by
        have := l2.no b h
        by_cases e : b = p
        · subst e
          have h' : w2.H b = none := h
          rw [h1] at h'; cases h'
        · exact (if_neg e).symm.trans this⟩
    obtain ⟨_, rd⟩ : fp = [] ∧ v = .int d := by
      obtain ⟨e1, e2⟩ := rp.zero_inv
      rw [Rep] at e2
      exact ⟨e1, e2⟩
    subst rd
    exact kt (.int d) (.int d) w3 [] ok3 l3 (.zero (by rw [Rep])) .nil (hq d d0 d1)
theorem draw_mk (F : FunD S.K x qual params body scope [] [] f fd) (hm : S.mg x = some (.ref f)) (Sc : FnScope N [a, b] scope) (hlen : 2 ≤ N.length) (hb : ∀ (kV doc pm : Value) (an : Option Addr) (cdv ct : Value) (us : List Value), us.length = ([a, b] : List Str).length → bindArgs (PySem.W.fnOf x qual params body scope .none kV doc pm an cdv ct) ⟨us, []⟩ = pure (([a, b] : List Str).zip us))
    (h : ∀ (cdv : Value) (A : Around) (outer : List PySem.Env) (s : Shared) (H : Hp) (E : XK) (w0 : Wd), Ex (bodyX P w S base N qual scope f cdv A outer s H E) S (fun c d _ H => E c d H) k → DSs (bodyX P w S base N qual scope f cdv A outer s H E) S (fun c d _ H => E c d H) 0 w0 body m)
    (hd : ∀ (p : Addr) (cells : List Int) (i r mm kk n : Int), 0 ≤ i → 0 < n → n < 2 ^ 64 → m (drawEnd p n) (.hs p (hdT cells i r mm kk) :: .va 0 (.int n) :: List.replicate (N.length - 2) .no)) :
    Fn P w S base (k + 1) x 0 2 drawDen :=
  ⟨f, fd, [a, b], hm, F.kp, F.bindsN hb, rfl, F.ok Sc (fun vs H Q E h => h.1) fun cdv A outer s H vs Q E hr hs => (draw_run (Ns := N) rfl hlen hd hs).elim fun w0 hw => ⟨_, h cdv A outer s H E w0 (body_ex hr), hw⟩⟩
end
end Twl

/-! TL22: lambdas handed to a def (lam_make3, pe_lamcall3 are turned from the kit's lam_make2, pe_lamcall: they also tell that nothing goes). -/
namespace Twl
open PySem PySem.Spec PyProof.Rows L2 LamX
section
variable {X : Cx} {pins : List (Addr × Obj)} {σ : L2.St} {H : Hp} {s : Shared}
theorem lam_make3 {T : List (Addr × Str)} {c P : Addr} {params : Arguments} {body : Expr} {scope : Scope} {pos : Pos} {E : Value → Shared → Prop} {Q : Value → Shared → Prop} (I : Inv X pins σ H s) (TB : TabB X.base X.mg c P) (hcode : X.env.code = .ref c)
    (hm : (P, X.env.qual ++ "<lambda>") ∈ T) (hu : ∀ p ∈ T, p.1 = P → p.2 = X.env.qual ++ "<lambda>") (hT : Tabs T H) (hdef : defaultsOf params X.env = ([], [])) (hfree : ∀ y ∈ scope.names, y.2 = .free → ∃ c, X.env.cells.lookup y.1 = some c)
    (h : ∀ (f c' : Addr) (pm ctv : Value) (H1 : Hp) (s' : Shared), Inv X pins σ H1 s' → ExtN H H1 → (∀ b, H1 b = none → H b = none) → Tabs T H1 →
      s'.heap.get? f = some (PySem.W.kla_obj "<lambda>" (X.env.qual ++ "<lambda>") params body scope (cloFrom X.env.cells scope.names []) pm c' ctv) → H1 f = none → f ∉ frs X.stack → H1 c' = some (CodeO c' (X.env.qual ++ "<lambda>")) → Q (.ref f) s') :
    wpAny (model X.prog X.w) X.A (eval (.Lambda params body scope pos) X.env) Q E s := by
  obtain ⟨ps, hP, ht, ha⟩ := hT _ hm
  refine PySem.W.kla_eval hdef ?_
  have bP : s.heap.BuiltinsAt X.mg P := TB.bm.keeps I.bk
  have hP' : s.heap.get? P = some { cls := .none, data := .fields ps } := I.hok P _ hP
  have nofr : ∀ f, s.heap.objs.size ≤ f → f ∉ frs X.stack := fun f hf z => by
    rcases List.mem_cons.mp (I.stkSub _ z) with e | e
    · have h1 := I.lt
      rw [← e] at h1
      exact Nat.lt_irrefl _ (Nat.lt_of_lt_of_le h1 hf)
    · exact I.nofs hf e
  cases hc : codeAmong pos ps.toList with
  | none =>
    refine PySem.W.kla_makeFunction (mg := X.mg) (c := c) (P := P) (ps := ps) (closure_ok hfree) I.ok.glob (I.mod.glob.keeps I.bk) hcode (TB.code.keeps I.bk) hP' ht hc TB.gP bP fun c' ctv h' tk hx hge hlt hrec htb => ?_
    obtain ⟨c2, oc, vs, t, e2, hoc, hd, hv⟩ := hrec
    cases e2
    have hsz : s.heap.objs.size ≤ h'.objs.size := Nat.le_trans hge (Nat.le_of_lt hlt)
    have nC : H c' = none := I.hok.fresh hge
    have I1 := inv_table (t' := tk) (more := #[rawInt pos.line, rawInt pos.col, .ref c']) (h' := h'.push (PySem.W.kla_obj "<lambda>" (X.env.qual ++ "<lambda>") params body scope (cloFrom X.env.cells scope.names []) ((X.mg "__name__").getD .none) c' ctv)) I hP
      (fun b o hb e => Heap.get?_push_of_some _ (hx b o hb e)) (Heap.get?_push_of_some _ htb) hge ⟨oc, vs, t, Heap.get?_push_of_some _ hoc, hd, hv⟩
    have hE : ExtN H (upd (upd H P (.tbl (ps ++ #[rawInt pos.line, rawInt pos.col, .ref c']))) c' (CodeO c' (X.env.qual ++ "<lambda>"))) := fun b o e n => by
      rw [upd_ne (ne_of_none e nC), upd_ne (fun z => n ps (Option.some.inj (e.symm.trans (by rw [z]; exact hP))))]
      exact e
    have eL : (ps ++ #[rawInt pos.line, rawInt pos.col, .ref c']).toList = ps.toList ++ [rawInt pos.line, rawInt pos.col, .ref c'] := by simp
    refine h h'.objs.size c' ((X.mg "__name__").getD .none) ctv _ _ I1 hE (fun b q => by
      by_cases e1 : b = c'
      · rw [e1, upd_same] at q; cases q
      · rw [upd_ne e1] at q
        by_cases e2 : b = P
        · rw [e2, upd_same] at q; cases q
        · rw [upd_ne e2] at q; exact q) (fun p hp => ?_) (Heap.get?_push_size _ rfl) ?_ (nofr _ hsz) upd_same
    · by_cases hb : p.1 = P
      · rw [hu p hp hb, hb]
        refine ⟨_, by rw [upd_ne (ne_of_none hP nC), upd_same], by rw [eL]; exact PySem.TriplesOk_snoc _ _ _ _ ht, fun p' cv hcv => ?_⟩
        rw [eL] at hcv
        rcases among_app _ ht hcv with z | z
        · obtain ⟨c0, e1, e2⟩ := ha p' cv z
          exact ⟨c0, e1, hE _ _ e2 codeO_ne⟩
        · exact ⟨c', z, upd_same⟩
      · obtain ⟨ps', a1, a2, a3⟩ := hT p hp
        refine ⟨ps', by rw [upd_ne (ne_of_none a1 nC), upd_ne hb]; exact a1, a2, fun p' cv hcv => ?_⟩
        obtain ⟨c0, e1, e2⟩ := a3 p' cv hcv
        exact ⟨c0, e1, hE _ _ e2 codeO_ne⟩
    · have n1 : h'.objs.size ≠ c' := Nat.ne_of_gt hlt
      have n2 : h'.objs.size ≠ P := Nat.ne_of_gt (Nat.lt_of_lt_of_le (Heap.lt_size hP') hsz)
      rw [upd_ne n1, upd_ne n2]
      exact I.hok.fresh hsz
  | some cv =>
    obtain ⟨c', e, hco⟩ := ha pos cv hc
    subst e
    refine PySem.W.kla_makeFunctionHit (mg := X.mg) (c := c) (P := P) (ps := ps) (closure_ok hfree) I.ok.glob (I.mod.glob.keeps I.bk) hcode (TB.code.keeps I.bk) hP' ht hc bP fun ctv h' tk hx hsz => ?_
    have I1 : Inv X pins σ H { s with heap := h'.push (PySem.W.kla_obj "<lambda>" (X.env.qual ++ "<lambda>") params body scope (cloFrom X.env.cells scope.names []) ((X.mg "__name__").getD .none) c' ctv), toks := tk } := I.kept fun b o e => Heap.get?_push_of_some _ (hx b o e)
    exact h h'.objs.size c' ((X.mg "__name__").getD .none) ctv H _ I1 (ExtN.refl H) (fun _ q => q) hT (Heap.get?_push_size _ rfl) (I.hok.fresh hsz) (nofr _ hsz) hco
end
def tLam3 (T : List (Addr × Str)) (TT : (XK → Hp → VK → Prop) → Hp → VK → Prop) (t : XK → TE) : TE := fun σ H Q => Tabs T H ∧ ∀ H1, ExtN H H1 → (∀ b, H1 b = none → H b = none) → Tabs T H1 → TT (fun E H' Q' => t E σ H' Q') H1 Q
section
variable {X : Cx}
theorem pe_lamcall3 {T : List (Addr × Str)} {TT : (XK → Hp → VK → Prop) → Hp → VK → Prop} {x a : Str} {g c P : Addr} {k : Nat} {pg : Arguments} {bg : List Stmt} {sg : Scope} {dV kV doc pm cdv ct oc : Value} {an od : Option Addr} {osl : Array (Option Value)} {Ng : List Str}
    {params : Arguments} {body : Expr} {scope : Scope} {t : XK → TE} {p lpos pos : Pos} (hg : Gl X x) (hm : X.mg x = some (.ref g)) (hk : PySem.W.keepIn X.K (.ref g) = true)
    (lk : X.K.lookup g = some ⟨oc, od, .func (PySem.W.fnOf x x pg bg sg dV kV doc pm an cdv ct), osl⟩) (hcg : PySem.W.codeIn X.K cdv x = true) (hb : L2.Binds X.K (PySem.W.fnOf x x pg bg sg dV kV doc pm an cdv ct) [a] []) (Sg : FnScope Ng [a] sg) (hNg : Ng[0]? = some a) (hva : Vis sg a)
    (hG : GivesTo X Ng x sg g cdv bg a (X.env.qual ++ "<lambda>") TT)
    (TB : TabB X.base X.mg c P) (hcode : X.env.code = .ref c) (hmT : (P, X.env.qual ++ "<lambda>") ∈ T) (hu : ∀ p ∈ T, p.1 = P → p.2 = X.env.qual ++ "<lambda>") (hr : Room (k + 2) X.A) (L : LamS X.env.scope scope) (hdef : defaultsOf params X.env = ([], []))
    (hbind : ∀ (q : Str) (cl : List (Str × Addr)) (pm cv ctv : Value), bindArgs (PySem.W.kla_fn "<lambda>" q params body scope cl pm cv ctv) ⟨[], []⟩ = pure [])
    (hbody : ∀ (A : Around) (outer : List PySem.Env) (s : Shared) (H : Hp) (E : XK) (f c' : Addr), Room k (A.deeper (lamEnv X scope s.heap.objs.size f c')) → PE (lamCx X A outer s H E scope f c') body (t E))
    (hdb : (x == ("__debug__" : Str)) = false := by decide) (hd : (a == ("__debug__" : Str)) = false := by decide) (hcd : (a == ("__classdict__" : Str)) = false := by decide) :
    PE X (.Call (.Name x p) [.Lambda params body scope lpos] [] pos) (tLam3 T TT t) := by
  refine ⟨fun pins s σ H Q I h => ?_⟩
  obtain ⟨hT, h⟩ := h
  refine wpAny_Call_Name_kw (ld_glob I hg hm ?_ hdb)
  refine PySem.W.callWith_K (h₀ := X.base) I.ok.mod.kin hk ?_ (by rfl) (by rfl)
  show wpAny _ _ (spliced ((false, eval (.Lambda params body scope lpos) X.env) :: backTo pos (starEach [] X.env))) _ _ s
  refine Calls.spliced_cons (lam_make3 I TB hcode hmT hu hT hdef (L.has I.ok) fun f c' pm' ctv H1 s' I1 eN no1 T1 hf hfn hfr hco => ?_)
  refine Calls.spliced_nil ⟨I1.kIn, ?_⟩
  have rc : codeAny (model X.prog X.w) X.A (.call (.ref g) ⟨[.ref f], []⟩) (CR C8.CX0 X.stack X.prog X.w H1 s' Q C8.E0) s' := by
    refine run_ofS (N := Ng) (ps := [a]) (us := [.ref f]) (vs := [.ref f]) lk hcg Sg hr I1.env0 (hb s' [.ref f] I1.kIn rfl) (.cons rfl .nil) rfl fun hr' => ?_
    obtain ⟨t', ht', hq'⟩ := hG f c' s' H1 Q (fun E H' Q' => t E σ H' Q') (fun W pn xe E p1 p2 tk hW => pe_act (i := 0) I1 L hf hfn hfr (hbind _ _ _ _ _) tk hW hr' (fun A outer s H hr2 => hbody A outer s H E f c' hr2) hNg hva hd hcd) hco (h H1 eN no1 T1)
    exact ⟨t', ht'.nox, hq'⟩
  refine wpAny_call (codeAny_mono rc fun r s2 hq => ?_)
  cases r with
  | error e => exact (show False from hq).elim
  | ok fl =>
    cases fl with
    | ret u => exact I1.after hq
    | next => exact False.elim hq
    | brk => exact False.elim hq
    | cont => exact False.elim hq
end
/-! ### read canonically -/
/-- where the def's lambdas are made -/
structure Lam (X : Cx) (S : Kx) : Prop where
  ex : ∃ c P, X.env.code = .ref c ∧ TabB X.base X.mg c P ∧ (P, X.env.qual ++ "<lambda>") ∈ S.tb ∧ ∀ p ∈ S.tb, p.1 = P → p.2 = X.env.qual ++ "<lambda>"
def wordDen (n : Nat) (m : Addr → M T → SM) (b : M T) : M T := fun Q _ => ∀ f, m f b { nx := fun _ => Q .non, rt := fun _ => Q, bk := fun _ => False, ct := fun _ => False, ex := fun _ => False } (.fo f :: blank (n - 1))
/-- a def that calls the lambda that it gets, under a try -/
structure WordFn (P : Program) (w : World) (S : Kx) (base : Heap) (j : Nat) (x : Str) (word : M T → M T) : Prop where
  ex : ∃ (g : Addr) (pg : Arguments) (bg : List Stmt) (sg : Scope) (dV kV doc pm cdv ct oc : Value) (an od : Option Addr) (osl : Array (Option Value)) (Ng : List Str) (a : Str) (m : Addr → M T → SM),
    S.mg x = some (.ref g) ∧ PySem.W.keepIn S.K (.ref g) = true ∧ S.K.lookup g = some ⟨oc, od, .func (PySem.W.fnOf x x pg bg sg dV kV doc pm an cdv ct), osl⟩ ∧ PySem.W.codeIn S.K cdv x = true ∧ L2.Binds S.K (PySem.W.fnOf x x pg bg sg dV kV doc pm an cdv ct) [a] [] ∧
    FnScope Ng [a] sg ∧ Ng[0]? = some a ∧ Vis sg a ∧ (a == ("__debug__" : Str)) = false ∧ (a == ("__classdict__" : Str)) = false ∧ word = wordDen Ng.length m ∧
    ∀ (A : Around) (outer : List PySem.Env) (s : Shared) (H : Hp) (l : List (Addr × Str)) (f : Addr) (b : M T) (w0 : Wd), Ex (cxOf C8.CX0 P w S.K S.mg base Ng x sg g cdv A outer s H C8.E0).nox (S.more l) WF j →
      ActOk (cxOf C8.CX0 P w S.K S.mg base Ng x sg g cdv A outer s H C8.E0).nox (S.more l) w0 f b a → DSs (cxOf C8.CX0 P w S.K S.mg base Ng x sg g cdv A outer s H C8.E0).nox (S.more l) WF 0 w0 bg (m f b)
theorem lam_ex {X : Cx} {S : Kx} (hK : X.K = S.K) (hmg : X.mg = S.mg) {k : Nat} {A : Around} {outer : List PySem.Env} {s : Shared} {H : Hp} {E : XK} {scope : Scope} {f c' : Addr} (hr : Room k (A.deeper (lamEnv X scope s.heap.objs.size f c'))) : Ex (lamCx X A outer s H E scope f c') S (fun c d _ H => E c d H) k :=
  ⟨⟨hK, hmg, by have := hr.un; show (A.deeper (lamEnv X scope s.heap.objs.size f c')).units + 200 < _; omega⟩, rfl, takes_of rfl rfl rfl rfl, hr⟩
def TTw (S : Kx) (word : M T → M T) : (XK → Hp → VK → Prop) → Hp → VK → Prop := fun tl H Q => ∃ w b Q', w.H = H ∧ Wok S w ∧ (∀ w' E Q1 Q1' QE, Wok S w' → Le w w' → b Q1' QE → Kont S w' 0 Q1' Q1 → KontE S w' QE E → tl E w'.H Q1) ∧ word b Q' (fun _ => False) ∧ Kont S w 0 Q' Q
theorem nox_take {X : Cx} : Takes X.nox WF := fun u s' ⟨_, _, _, _, _, _, _, _, _, _, _, _, _, _, _, _, w⟩ => w.elim
theorem RepX.more {S : Kx} {w : Wd} {x : Exn} {c : Value} {dd : Option Addr} {l : List (Addr × Str)} (h : RepX S w x c dd) : RepX (S.more l) w x c dd := by
  obtain ⟨C, h1, h2, h3⟩ := h
  refine ⟨C, h1, h2, ?_⟩
  cases e : x.arg with
  | none => rw [e] at h3; exact h3
  | some p =>
    rw [e] at h3
    obtain ⟨d, v, q1, q2, q3, q4⟩ := h3
    exact ⟨d, v, q1, q2, q3, (Rep.more _ _).mp q4⟩
theorem word_gives {X : Cx} {S : Kx} {k j : Nat} {x a : Str} {word : M T → M T} {g : Addr} {bg : List Stmt} {sg : Scope} {cdv : Value} {Ng : List Str} {m : Addr → M T → SM} {q : Str} (hK : X.K = S.K) (hmg : X.mg = S.mg) (hr : Room (j + 1) X.A) (hN : Ng.length = Ng.length) (h1 : 1 ≤ Ng.length)
    (hw : word = wordDen Ng.length m)
    (hb : ∀ (A : Around) (outer : List PySem.Env) (s : Shared) (H : Hp) (l : List (Addr × Str)) (f : Addr) (b : M T) (w0 : Wd), Ex (cxOf C8.CX0 X.prog X.w S.K S.mg X.base Ng x sg g cdv A outer s H C8.E0).nox (S.more l) WF j →
      ActOk (cxOf C8.CX0 X.prog X.w S.K S.mg X.base Ng x sg g cdv A outer s H C8.E0).nox (S.more l) w0 f b a → DSs (cxOf C8.CX0 X.prog X.w S.K S.mg X.base Ng x sg g cdv A outer s H C8.E0).nox (S.more l) WF 0 w0 bg (m f b)) :
    GivesTo X Ng x sg g cdv bg a q (TTw S word) := by
  intro f c' s H Q tl act hc ht
  obtain ⟨w, b, Q', rfl, ok, htl, hd, kt⟩ := ht
  rw [hK, hmg] at act
  rw [hK, hmg]
  have ok' : Wok (S.more [(c', q)]) w := ok.more fun p hp => by
    obtain rfl : p = (c', q) := by simpa using hp
    exact hc
  have hr' : Room j (X.A.deeper (envOfC x sg s.heap.objs.size g cdv)) := hr.deeper _
  have A : ActOk (cxOf C8.CX0 X.prog X.w S.K S.mg X.base Ng x sg g cdv X.A X.stack s w.H C8.E0).nox (S.more [(c', q)]) w f b a := fun W pn xe p1 p2 tk => by
    refine PEmono (act W pn xe (fun cls d H' => ∀ σ', W cls d σ' H') p1 p2 tk fun cls d σ' H' h => h σ') fun σ H1 Q1 h => ?_
    obtain ⟨h0, w', Q1', QE, rfl, okw, lw, hb1, kt1, kx1⟩ := h
    refine ⟨h0, okw.tb.2 (c', q) (by simp [Kx.more]), htl w' _ Q1 Q1' QE okw.less lw hb1 (.z fun r v w2 ok2 l2 r2 q2 => ?_) fun x c dd w2 ok2 l2 rx qx σ' => ?_⟩
    · have hq2 : w2.H c' = some (CodeO c' q) := l2.hh c' _ (okw.tb.2 (c', q) (by simp [Kx.more])) (fun e => by
        obtain ⟨cc, cells, i, r, mm, k, z, _⟩ := (okw.hd c' e).it
        have z2 := okw.tb.2 (c', q) (by simp [Kx.more])
        rw [z] at z2
        unfold CodeO at z2
        cases z2) codeO_ne
      exact kt1 r v w2 [] (ok2.more fun p hp => by
        obtain rfl : p = (c', q) := by simpa using hp
        exact hq2) l2 (.zero ((Rep.more _ _).mp r2)) .nil q2
    · have hq2 : w2.H c' = some (CodeO c' q) := l2.hh c' _ (okw.tb.2 (c', q) (by simp [Kx.more])) (fun e => by
        obtain ⟨cc, cells, i, r, mm, k, z, _⟩ := (okw.hd c' e).it
        have z2 := okw.tb.2 (c', q) (by simp [Kx.more])
        rw [z] at z2
        unfold CodeO at z2
        cases z2) codeO_ne
      exact kx1 x c dd w2 (ok2.more fun p hp => by
        obtain rfl : p = (c', q) := by simpa using hp
        exact hq2) l2 rx.more qx σ'
  have D := hb X.A X.stack s w.H [(c', q)] f b w ⟨⟨rfl, rfl, by have := hr'.un; show (X.A.deeper (envOfC x sg s.heap.objs.size g cdv)).units + 200 < _; omega⟩, rfl, nox_take, hr'⟩ A
  refine ⟨_, D, ?_⟩
  rw [hw] at hd
  refine ⟨w, .fo f :: blank (Ng.length - 1), [], _, rfl, ok', .refl w, ⟨?_, List.nodup_nil, fun a h => by simp at h⟩, (fun a h => by simp at h), hd f, ⟨fun env σ w2 fp o2 l2 g2 e2 p2 q2 => ?_, fun env σ fpE r v w2 fp o2 l2 g2 _ _ rp _ q2 => ?_, fun _ _ _ _ _ _ _ _ _ q => q.elim, fun _ _ _ _ _ _ _ _ _ q => q.elim, fun _ _ _ _ _ _ _ _ _ q => q.elim⟩⟩
  · show EnvS _ w _ (some (V.ref f) :: List.replicate (Ng.length - 1) none) []
    exact ⟨[], [], rfl, ⟨rfl, rfl⟩, env_none _⟩
  · exact kt .non .non w2 [] o2.less l2 (.zero (by rw [Rep])) .nil q2
  · exact kt r v w2 [] o2.less l2 (.zero ((Rep.more _ _).mpr rp.zero_inv.2)) .nil q2
theorem ext_wok {S : Kx} {w : Wd} {H1 : Hp} (ok : Wok S w) (e : ExtN w.H H1) (no : ∀ b, H1 b = none → w.H b = none) (t : Tabs S.tb H1) : Wok S { w with H := H1 } ∧ Le w { w with H := H1 } := by
  refine ⟨⟨fun b q => ?_, fun q h => ?_, t, fun p hp => e _ _ (ok.tb.2 p hp) codeO_ne⟩, ⟨rfl, fun _ h => h, fun _ h => .inl h, fun b o h _ n => e b o h n, no⟩⟩
  · obtain ⟨h1, o, h2, h3⟩ := ok.fz b q
    exact ⟨h1, o, e b o h2 h3.ntbl, h3⟩
  · obtain ⟨c, cells, i, r, m, k, h1, h2, h3⟩ := (ok.hd q h).it
    exact ⟨c, cells, i, r, m, k, e q _ h1 (by intro ps z; cases z), h2, h3.1, e c _ h3.2 (by intro ps z; cases z)⟩
theorem de_word {X : Cx} {S : Kx} {W : WX} {k j : Nat} {x : Str} {word : M T → M T} {params : Arguments} {body : Expr} {scope : Scope} {mb : Env → M T} {p lpos pos : Pos} (E : Ex X S W k) (G : WordFn X.prog X.w S X.base j x word) (Lm : Lam X S) (hj : j + 1 ≤ k)
    (hbody : ∀ (A : Around) (outer : List PySem.Env) (s : Shared) (H : Hp) (E : XK) (f c' : Addr), Ex (lamCx X A outer s H E scope f c') S (fun c d _ H => E c d H) (k - 2) → DE (lamCx X A outer s H E scope f c') S (fun c d _ H => E c d H) 0 body mb)
    (hk : 2 ≤ k) (hg : Gl X x := by rfl) (L : LamS X.env.scope scope := by exact lamS_by (by rfl)) (hdef : defaultsOf params X.env = ([], []) := by rfl)
    (hbind : ∀ (q : Str) (cl : List (Str × Addr)) (pm cv ctv : Value), bindArgs (PySem.W.kla_fn "<lambda>" q params body scope cl pm cv ctv) ⟨[], []⟩ = pure [] := by intros; rfl) (hdb : (x == ("__debug__" : Str)) = false := by decide) :
    DE X S W 0 (.Call (.Name x p) [.Lambda params body scope lpos] [] pos) (fun env => word (mb env)) := by
  obtain ⟨g, pg, bg, sg, dV, kV, doc, pm, cdv, ct, oc, an, od, osl, Ng, a, m, h1, h2, h3, h4, h5, h6, h7, h8, h9, h10, hw, hb⟩ := G.ex
  obtain ⟨c, P, l1, l2, l3, l4⟩ := Lm.ex
  have hK := E.hK
  have hmg := E.hmg
  have hlen : 1 ≤ Ng.length := by
    have := (List.getElem?_eq_some_iff.mp h7).1
    omega
  have GT : GivesTo X Ng x sg g cdv bg a (X.env.qual ++ "<lambda>") (TTw S word) := word_gives (k := k) (j := j) hK hmg (E.hr.mono hj) rfl hlen hw hb
  refine PEmono (pe_lamcall3 (k := k - 2) (T := S.tb) (t := fun E' => rd S (fun c d _ H => E' c d H) 0 mb) hg (by rw [hmg]; exact h1) (by rw [hK]; exact h2) (by rw [hK]; exact h3) (by rw [hK]; exact h4) (by rw [hK]; exact h5) h6 h7 h8 GT l2 l1 l3 l4 (E.hr.mono (by omega)) L hdef hbind
    (fun A outer s H E' f c' hr => hbody A outer s H E' f c' (lam_ex hK hmg hr)) hdb h9 h10) fun σ H Q h => ?_
  obtain ⟨w, env, fp, Q', QE, rfl, ok, er, hm, kt, kx⟩ := h
  refine ⟨ok.tb.1, fun H1 eN no1 T1 => ?_⟩
  obtain ⟨ok1, le1⟩ := ext_wok ok eN no1 T1
  refine ⟨{ w with H := H1 }, mb env, Q', rfl, ok1, fun w' E' Q1 Q1' QE' ok' l' hb' kt' ke' => ?_, ?_, kt.le le1⟩
  · exact ⟨w', env, fp, Q1', QE', rfl, ok', er.le ok (le1.trans l'), hb', kt', fun x c dd w2 o2 l2 r2 q2 => ke' x c dd w2 o2 l2 r2 q2⟩
  · rw [hw] at hm ⊢
    exact hm
end Twl

/-! TL23: the script, the draw state's making, the law. -/
namespace Twl
open PySem PySem.Spec PyProof.Rows L2
section
variable {X : Cx} {S : Kx} {W : WX} {k d dr : Nat} {w0 w w' : Wd} {env : Env} {σ : L2.St} {fp : List Addr}
theorem EnvS.getSc {a : Addr} {ns : List Int} : ∀ {env : Env} {σ : L2.St} {fp : List Addr} {i : Nat}, EnvS S w env σ fp → env[i]? = some (.sc a ns) → σ[i]? = some (some (.ref a)) ∧ SqL S.K w.H a (ns.map V.int)
  | [], [], _, i, h, e => by simp at e
  | s :: es, o :: os, fp, 0, h, e => by
    obtain ⟨f, f', rfl, h1, h2⟩ := h
    simp at e
    subst e
    obtain ⟨_, rfl, r⟩ := h1
    refine ⟨rfl, ?_⟩
    rcases r with ⟨o, _, r⟩ | ⟨_, r⟩ | r
    · exact .inl (.inr ⟨o, r⟩)
    · exact .inl (.inl r)
    · exact r _
  | s :: es, o :: os, fp, i + 1, h, e => by
    obtain ⟨f, f', rfl, h1, h2⟩ := h
    have := EnvS.getSc h2 (i := i) (by simpa using e)
    simpa using this
  | [], _ :: _, _, _, h, _ => h.elim
  | _ :: _, [], _, _, h, _ => h.elim
/-- script[:n] walked -/
def mScr (i : Nat) (n : Int) : Env → M (List T) := fun env Q _ => ∃ a ns, env[i]? = some (.sc a ns) ∧ Q (cutL (ns.map T.int) none (some n))
theorem di_scr (U : Eu X S) (i : Nat) {n : Int} {j : Nat} {tg : Expr} {x : Str} {p p2 p3 pos : Pos} (hN : X.N[i]? = some x := by rfl) (hv : Vis X.env.scope x := by first | exact Or.inl rfl | exact Or.inr (Or.inl rfl) | exact Or.inr (Or.inr rfl)) (hd : (x == ("__debug__" : Str)) = false := by decide)
    (hcd : (x == ("__classdict__" : Str)) = false := by decide) : DI X S W false tg (.Subscript (.Name x p) (.Slice none (some (.Constant (.int n) j p3)) none p2) pos) (mScr i n) := by
  have h : SlR X (rSlL S.K) := by rw [← U.hK]; exact sl_list
  refine PImono (pi_sq (pesz (pe_slice h (pe_var hN hv hd hcd) po_none (po_some pe_int)))) fun σ H R h => ?_
  obtain ⟨w, env, fp, Q', QE, rfl, ok, er, ⟨a, ns, e0, q⟩, kt, kx⟩ := h
  rw [U.hK]
  obtain ⟨e1, hs⟩ := er.sl.getSc e0
  refine ⟨.ref a, e1, n, rfl, a, ns.map V.int, rfl, hs, fun q1 hq1 => ?_⟩
  intro hz
  have rr : Reps S w (cutL (ns.map T.int) none (some n)) (cutV (ns.map V.int) none (some n)) := cutL_rep (ints_repT ns) _ _
  refine .inl ⟨q1, rfl, ⟨_, .inl (.inl upd_same)⟩, ?_⟩
  have ok1 := add_ok (o := .lst (cutV (ns.map V.int) none (some n))) ok hq1 trivial
  have le1 := add_le (o := .lst (cutV (ns.map V.int) none (some n))) hq1
  refine kt _ _ (w.add q1 (.lst (cutV (ns.map V.int) none (some n)))) ok1 le1 (y_list (xs := cutV (ns.map V.int) none (some n)) ?_ ⟨fun w' ok' l' => ⟨.inl (.inl (l'.hh q1 _ upd_same (handNone ok hq1 : w.hp ≠ some q1) (by intro ps z; cases z))), Reps.agr ((le1.agr ok).trans (l'.agr ok1)) _ _ rr⟩⟩) q
  rw [← rr.length]
  exact hz (.lst q1) _ (fun _ _ z => by cases z) (.inl (.inl upd_same))
end
def handEnd : EndT := { nx := fun _ => False, rt := fun _ t => ∃ cells i r m k, t = .lst (hdT cells i r m k) ∧ 0 ≤ i, bk := fun _ => False, ct := fun _ => False, ex := fun _ => False }
def spHand (S : Kx) : Sp := fun vs H Q _ => ∃ w a ns, vs = [.ref a] ∧ w.H = H ∧ Wok S w ∧ SlRep S w (.sc a ns) (some (.ref a)) [] ∧ ∀ w2 cells i r m k v fp, Wok S w2 → Le w w2 → RepO S w2 1 (.lst (hdT cells i r m k)) v fp → Fresh w w2 fp → 0 ≤ i → Q v w2.H
structure HandFn (P : Program) (w : World) (S : Kx) (base : Heap) (k : Nat) (x : Str) : Prop where
  ex : ∃ (f : Addr) (fd : FuncData) (ps : List Str), S.mg x = some (.ref f) ∧ PySem.W.keepIn S.K (.ref f) = true ∧ Binds S.K fd ps [] ∧ ps.length = 1 ∧ FnOk P w S.K S.mg base (L2.CX P w) k f fd ps (spHand S)
section
variable {P : Program} {w : World} {S : Kx} {base : Heap} {k : Nat} {x qual a : Str} {N : List Str} {m : SM} {f : Addr} {fd : FuncData} {params : Arguments} {body : List Stmt} {scope : Scope}
theorem hand_mk (F : FunD S.K x qual params body scope [] [] f fd) (hm : S.mg x = some (.ref f)) (Sc : FnScope N [a] scope) (hlen : 1 ≤ N.length) (hb : ∀ (kV doc pm : Value) (an : Option Addr) (cdv ct : Value) (us : List Value), us.length = ([a] : List Str).length → bindArgs (PySem.W.fnOf x qual params body scope .none kV doc pm an cdv ct) ⟨us, []⟩ = pure (([a] : List Str).zip us))
    (h : ∀ (cdv : Value) (A : Around) (outer : List PySem.Env) (s : Shared) (H : Hp) (E : XK) (w0 : Wd), Ex (bodyX P w S base N qual scope f cdv A outer s H E) S (fun c d _ H => E c d H) k → DSs (bodyX P w S base N qual scope f cdv A outer s H E) S (fun c d _ H => E c d H) 1 w0 body m)
    (hd : ∀ (p : Addr) (ns : List Int), m handEnd (.sc p ns :: List.replicate (N.length - 1) .no)) : HandFn P w S base (k + 1) x := by
  refine ⟨f, fd, [a], hm, F.kp, F.bindsN hb, rfl, F.ok Sc (fun vs H Q E h => ?_) fun cdv A outer s H vs Q E hr hs => ?_⟩
  · obtain ⟨w, p, ns, rfl, _⟩ := h; rfl
  · obtain ⟨w, p, ns, rfl, rfl, ok, hsc, hq⟩ := hs
    refine ⟨_, h cdv A outer s w.H E w (body_ex hr), w, .sc p ns :: List.replicate (N.length - 1) .no, [], handEnd, rfl, ok, .refl w, ⟨?_, List.nodup_nil, fun a h => by simp at h⟩, (fun a h => by simp at h), hd p ns, ⟨fun _ _ _ _ _ _ _ _ _ q => q.elim, fun env σ fpE t v w2 fp o2 l2 g2 _ _ rp fr q => ?_, fun _ _ _ _ _ _ _ _ _ q => q.elim, fun _ _ _ _ _ _ _ _ _ q => q.elim, fun _ _ _ _ _ _ _ _ _ q => q.elim⟩⟩
    · show EnvS S w _ (some (V.ref p) :: List.replicate (N.length - 1) none) []
      exact ⟨[], [], rfl, hsc, env_none _⟩
    · obtain ⟨cells, i, r, mm, kk, rfl, hi⟩ := q
      exact hq w2 cells i r mm kk v fp o2 l2 rp fr hi
/-- the law: hand = f(script); the rest -/
def lawEnd : EndT := { nx := fun _ => False, rt := fun _ t => t = .bl true, bk := fun _ => False, ct := fun _ => False, ex := fun _ => False }
def spLaw (S : Kx) : Sp := fun vs H Q _ => ∃ (a : Addr) (ns : List Int), vs = [.ref a] ∧ SqL S.K H a (ns.map V.int) ∧ TbOk S H ∧ ∀ H', Q (.bl true) H'
theorem sc_of {K : PySem.W.Frag} {H : Hp} {a : Addr} {xs : List V} (h : SqL K H a xs) : (H a = some (.lst xs)) ∨ (∃ o, H a = some (.frz o (.lst xs))) ∨ ∀ H, SqL K H a xs := by
  rcases h with (h | h) | h
  · exact .inl h
  · exact .inr (.inl h)
  · exact .inr (.inr fun H => .inr h)
theorem sc_start {S : Kx} {H : Hp} {a : Addr} {ns : List Int} (h : SqL S.K H a (ns.map V.int)) (t : TbOk S H) : ∃ w : Wd, w.H = H ∧ w.hp = none ∧ Wok S w ∧ SlRep S w (.sc a ns) (some (.ref a)) [] := by
  rcases sc_of h with h | ⟨o, h⟩ | h
  · refine ⟨⟨none, fun b => b = a, H⟩, rfl, rfl, ⟨fun b q => ⟨by simp, ?_⟩, fun q e => by simp at e, t⟩, rfl, rfl, .inr (.inl ⟨rfl, h⟩)⟩
    rw [show b = a from q]
    exact ⟨_, h, trivial⟩
  · refine ⟨⟨none, fun b => b = a, H⟩, rfl, rfl, ⟨fun b q => ⟨by simp, ?_⟩, fun q e => by simp at e, t⟩, rfl, rfl, .inl ⟨o, rfl, h⟩⟩
    rw [show b = a from q]
    exact ⟨_, h, trivial⟩
  · exact ⟨⟨none, fun _ => False, H⟩, rfl, rfl, ⟨fun b q => q.elim, fun q e => by simp at e, t⟩, rfl, rfl, .inr (.inr h)⟩
theorem law_fn {oc ct cdv dV kV doc pm : Value} {od an : Option Addr} {osl : Array (Option Value)} {hx hn : Str} {j : Nat} {p1 p2 p3 p4 p5 : Pos} {rest : List Stmt}
    (lk : S.K.lookup f = some ⟨oc, od, .func (PySem.W.fnOf x qual params (.Assign [.Name hn p4] (.Call (.Name hx p1) [.Name a p2] [] p3) p5 :: rest) scope dV kV doc pm an cdv ct), osl⟩) (hcd : PySem.W.codeIn S.K cdv qual = true) (Sc : FnScope N [a] scope) (G : HandFn P w S base k hx)
    (hN0 : N[0]? = some a) (hv0 : Vis scope a) (hNj : N[j]? = some hn) (hvj : Loc scope hn) (hgx : scope.names.lookup hx = some .globalImplicit) (hda : (a == ("__debug__" : Str)) = false := by decide) (hca : (a == ("__classdict__" : Str)) = false := by decide) (hdx : (hx == ("__debug__" : Str)) = false := by decide)
    (hj : 1 ≤ j)
    (hst : ∀ (A : Around) (outer : List PySem.Env) (s : Shared) (H : Hp) (E : XK), starEach [.Name a p2] (bodyX P w S base N qual scope f cdv A outer s H E).env = (false, eval (.Name a p2) (bodyX P w S base N qual scope f cdv A outer s H E).env) :: starEach [] (bodyX P w S base N qual scope f cdv A outer s H E).env := by intros; rfl)
    (h : ∀ (A : Around) (outer : List PySem.Env) (s : Shared) (H : Hp) (E : XK) (w0 : Wd), Ex (bodyX P w S base N qual scope f cdv A outer s H E) S (fun c d _ H => E c d H) k → DSs (bodyX P w S base N qual scope f cdv A outer s H E) S (fun c d _ H => E c d H) 0 w0 rest m)
    (hd : m lawEnd ((List.replicate N.length Sl.no).set j (.va 0 .hand))) :
    FnOk P w S.K S.mg base (L2.CX P w) (k + 1) f (PySem.W.fnOf x qual params (.Assign [.Name hn p4] (.Call (.Name hx p1) [.Name a p2] [] p3) p5 :: rest) scope dV kV doc pm an cdv ct) [a] (spLaw S) := by
  refine fn_of lk hcd Sc (fun vs H Q E h => ?_) fun A outer s H vs Q E hr hs => ?_
  · obtain ⟨p, ns, rfl, _⟩ := h; rfl
  · obtain ⟨g, gd, ps, g1, g2, g3, g4, g5⟩ := G.ex
    have EX := body_ex (P := P) (w := w) (S := S) (base := base) (N := N) (E := E) (H := H) (outer := outer) hr
    have cl : PE (bodyX P w S base N qual scope f cdv A outer s H E) (.Call (.Name hx p1) [.Name a p2] [] p3) (tCallS (spHand S) (WE (fun c d _ H => E c d H)) (tCons (tVar 0) tNil)) :=
      pe_callS g5 hr hgx g1 g2 g3 (fun σ => passAt EX.tk σ) (pa_cons (pe_var hN0 hv0 hda hca) pa_nil (hst _ _ _ _ _)) hdx (hst _ _ _ _ _) (by rfl)
    have rs : PSs (bodyX P w S base N qual scope f cdv A outer s H E) rest (fun D σ H' => ∃ w0, rdS S (fun c d _ H => E c d H) 0 w0 m D σ H') := ⟨fun pins s' σ H' D I ⟨w0, q⟩ => (h A outer s H E w0 EX).run pins s' σ H' D I q⟩
    refine ⟨_, pss_cons (ps_set (i := j) Sc.nd hNj hvj cl (by rfl) (.inl rfl)) rs, ?_⟩
    obtain ⟨p, ns, rfl, hsq, htb, hQ⟩ := hs
    obtain ⟨w1, rfl, hw1, ok1, sc1⟩ := sc_start hsq htb
    refine ⟨.ref p, rfl, w1, p, ns, rfl, rfl, ok1, sc1, fun w2 cells i r mm kk v fp ok2 l2 rp fr hi => ?_⟩
    rw [RepO] at rp
    obtain ⟨hp, us, f0, rfl, h1, rfl, hz⟩ := rp
    obtain ⟨rfl, hu⟩ := hz.zero_inv
    obtain ⟨n1, n2, _⟩ := fr.nw hp List.mem_cons_self
    obtain ⟨u0, us0, rfl, ru0, hu⟩ := hu.cons_inv
    obtain ⟨u1, us1, rfl, ru1, hu⟩ := hu.cons_inv
    obtain ⟨u2, us2, rfl, ru2, hu⟩ := hu.cons_inv
    obtain ⟨u3, us3, rfl, ru3, hu⟩ := hu.cons_inv
    obtain ⟨u4, us4, rfl, ru4, hu⟩ := hu.cons_inv
    obtain rfl := hu.nil_inv
    have ru1 : u1 = .int i := by simpa only [Rep] using ru1
    have ru2 : u2 = .int r := by simpa only [Rep] using ru2
    have ru3 : u3 = .int mm := by simpa only [Rep] using ru3
    have ru4 : u4 = .int kk := by simpa only [Rep] using ru4
    subst ru1 ru2 ru3 ru4
    have ru0 : ∃ p vs, u0 = .ref p ∧ LstAt w2 p vs ∧ Reps S w2 (cells.map T.int) vs := by simpa only [Rep] using ru0
    obtain ⟨c', vs', rfl, hc', rc'⟩ := ru0
    have ev := rep_ints rc'
    subst ev
    let w3 : Wd := { w2 with hp := some hp }
    have ok3 : Wok S w3 := ⟨fun b q => ⟨fun e => by
        have e' : hp = b := Option.some.inj e
        subst e'
        exact n2 q, (ok2.fz b q).2⟩, fun q e => by
        have e' : hp = q := Option.some.inj e
        subst e'
        exact ⟨⟨c', cells, i, r, mm, kk, h1, hi, hc'⟩⟩, ok2.tb⟩
    have hlen : j < N.length := (List.getElem?_eq_some_iff.mp hNj).1
    have blk : EnvR S w3 (List.replicate N.length Sl.no) (L2.start N [V.ref p]) [] := by
      have := blank_er (S := S) (w := w3) (σ := L2.start N [V.ref p])
      unfold blank at this
      have e : (L2.start N [V.ref p]).length = N.length := by unfold L2.start; simp; omega
      rw [e] at this
      exact this
    obtain ⟨fp2, e1, s1⟩ := blk.setB j (s := .va 0 .hand) (o := some (.ref hp)) ⟨_, rfl, .zero (by rw [Rep]; exact ⟨hp, rfl, rfl⟩)⟩
    refine ⟨w3, w3, _, fp2, lawEnd, rfl, ok3, .refl w3, e1, (fun a ha => by have := s1 a ha; simp at this), hd, ⟨fun _ _ _ _ _ _ _ _ _ q => q.elim, fun env σ fpE t v w4 fp o4 l4 g4 _ _ rp fr q => ?_, fun _ _ _ _ _ _ _ _ _ q => q.elim, fun _ _ _ _ _ _ _ _ _ q => q.elim, fun _ _ _ _ _ _ _ _ _ q => q.elim⟩⟩
    have q' : t = .bl true := q
    subst q'
    obtain ⟨_, rv⟩ := rp.zero_inv
    rw [Rep] at rv
    subst rv
    exact hQ _
end
end Twl

/-! TL24: sorted of ints; comprehensions of new lists. -/
namespace Twl
open PySem PySem.Spec PyProof.Rows L2
theorem ints_map : ∀ ns : List Int, T.ints (ns.map T.int) = some ns
  | [] => rfl
  | n :: ns => by simp [T.ints, ints_map ns]
def sortI (ns : List Int) : List Int := ns.mergeSort (fun a b => decide (a ≤ b))
theorem sortI_perm (ns : List Int) : (sortI ns).Perm ns := List.mergeSort_perm _ _
theorem sortI_le (ns : List Int) : (sortI ns).Pairwise (· ≤ ·) := by
  have := List.pairwise_mergeSort (le := fun (a b : Int) => decide (a ≤ b)) (fun a b c h1 h2 => by simp at h1 h2 ⊢; omega) (fun a b => by simp; omega) ns
  exact this.imp (by simp)
theorem sort_uniq {l m : List Int} (p : l.Perm m) (h1 : l.Pairwise (· ≤ ·)) (h2 : m.Pairwise (· ≤ ·)) : l = m := p.eq_of_pairwise (fun a b _ _ h h' => by omega) h1 h2
def gSorted : T → M T := fun t => match t with
  | .lst ts => ofO (T.ints ts) fun ns => ret (.lst ((sortI ns).map T.int))
  | _ => stuck
section
variable {X : Cx} {S : Kx} {W : WX} {k d dr : Nat} {w0 : Wd} {e : Expr} {mas : Env → M (List T)} {p pos : Pos}
theorem de_sorted (E : Eu X S) (hm : S.mg "sorted" = none) (hd : d ≤ 1) (ha : DAB X S W [e] mas) (hg : Gl X "sorted" := by rfl) (he : starEach (e :: []) X.env = (false, eval e X.env) :: starEach [] X.env := by first | exact star_c rfl | rfl) (hpl : (backTo pos (starEach [] X.env)).any (·.1) = false := by first | exact star_any rfl | rfl) :
    DE X S W d (.Call (.Name "sorted" p) [e] [] pos) (mCall (g1 gSorted) mas) := by
  have h : CallR X (.builtin "sorted") (rSortedI S.K) := by rw [← E.hK]; exact cr_sortedI
  refine de_callB E h (sim_1 fun w t x Q' QE Q ok r hg k => ?_) hm (by decide +kernel) ha hg (by decide) (by decide) he hpl
  unfold gSorted at hg
  split at hg
  · obtain ⟨ns, e1, q⟩ := ofO_inv hg
    obtain ⟨q1, vs, rfl, h0, h1, h2⟩ := r
    have := ints_rep h2 e1
    subst this
    refine ⟨q1, ns, rfl, .inl (.inl h1), fun ns' p1 h3 h4 hp => ?_⟩
    have e2 : ns' = sortI ns := sort_uniq (h3.trans (sortI_perm ns).symm) h4 (sortI_le ns)
    subst e2
    exact kont_lst ok (ints_repT _) hd k q p1 hp
  · exact hg.elim
/-! ### a comprehension whose items are new lists -/
theorem RepsO.snoc {w : Wd} {d : Nat} {t : T} {v : V} {f : List Addr} (r : RepO S w d t v f) : ∀ {ts : List T} {vs : List V} {fp : List Addr}, RepsO S w d ts vs fp → RepsO S w d (ts ++ [t]) (vs ++ [v]) (fp ++ f)
  | [], vs, fp, h => by
    obtain ⟨rfl, rfl⟩ := h.nil_inv
    rw [List.nil_append, List.nil_append, List.nil_append, RepsO]
    exact ⟨v, [], f, [], rfl, by simp, r, by rw [RepsO]; exact ⟨rfl, rfl⟩⟩
  | u :: ts, vs, fp, h => by
    obtain ⟨x, vs', g, g', rfl, rfl, h1, h2⟩ := h.cons_inv
    rw [List.cons_append, RepsO]
    exact ⟨x, vs' ++ [v], g, g' ++ f, rfl, by rw [List.append_assoc], h1, RepsO.snoc r h2⟩
variable {tg it elt : Expr} {ifs : List Expr} {mi : Env → M (List T)} {g : GM} {c : Env → M Bool} {me : Env → M T} {scope : Scope} {own : List (Str × Nat)}
structure NewAt (w1 w2 : Wd) (D : Addr) (fa : List Addr) : Prop where
  nd : fa.Nodup
  at_ : ∀ a ∈ fa, w1.H a = none ∧ ¬ w2.F a ∧ a ≠ D ∧ w2.hp ≠ some a ∧ ∃ o, w2.H a = some o ∧ FzO o
theorem NewAt.le {w1 w2 w3 : Wd} {D : Addr} {fa : List Addr} (h : NewAt w1 w2 D fa) (l : Le w2 w3) : NewAt w1 w3 D fa ∧ ∀ a ∈ fa, w3.H a = w2.H a := by
  have st : ∀ a ∈ fa, w3.H a = w2.H a := fun a ha => by
    obtain ⟨_, _, _, h4, o, h5, h6⟩ := h.at_ a ha
    rw [h5]; exact l.hh a o h5 h4 h6.ntbl
  refine ⟨⟨h.nd, fun a ha => ?_⟩, st⟩
  obtain ⟨h1, h2, h3, h4, o, h5, h6⟩ := h.at_ a ha
  exact ⟨h1, (fun q => (l.fn a q).elim h2 fun z => by rw [h5] at z; exact (nomatch z)), h3, by rw [l.hp]; exact h4, o, by rw [st a ha]; exact h5, h6⟩
theorem lc_sim2 {vs : List Nat} {σ : L2.St} {H : Hp} {Q : VK} (h : rd S W 2 (mLc mi g c me vs) σ H Q) : tLc (rdi S W false mi) (rdg S vs g) (rdt S WF c) (rd S WF 1 me) vs σ H Q := by
  obtain ⟨w, env, fp, Q', QE, rfl, ok, er, hm, kt, kx⟩ := h
  refine ⟨w, env, fp, _, QE, rfl, ok, er, hm, fun items J w1 ok1 l1 yl q => ?_, kx⟩
  intro D hD
  have q : lcM g c me items (wipeE env vs) (fun xs => Q' (.lst xs)) (fun _ => False) := q
  have nF1 : ¬ w1.F D := fun q => by obtain ⟨_, o, h, _⟩ := ok1.fz D q; rw [hD] at h; cases h
  refine ⟨fun i n H => ∃ w2 accT acc fa, w2.H = H ∧ Wok S w2 ∧ Le w1 w2 ∧ Mine w2 D (.lst acc) ∧ RepsO S w2 1 accT acc fa ∧ NewAt w1 w2 D fa ∧ i ≤ items.length ∧ n = items.length - i ∧ accT.length ≤ i ∧ lcM g c me (items.drop i) (wipeE env vs) (fun xs => Q' (.lst (accT ++ xs))) (fun _ => False), ?_, ?_⟩
  · exact ⟨items.length, w1.own D (.lst []), [], [], [], rfl, own_ok ok1 hD, own_le hD, ⟨upd_same, nF1, (handNone ok1 hD : w1.hp ≠ some D)⟩, by rw [RepsO]; exact ⟨rfl, rfl⟩, ⟨List.nodup_nil, fun a h => by simp at h⟩, Nat.zero_le _, rfl, Nat.le_refl _, by simpa using q⟩
  · rintro i n H ⟨w2, accT, acc, fa, rfl, ok2, l2, mi2, r2, na2, hle, rfl, hacc, hm2⟩
    by_cases hlt : i < items.length
    · obtain ⟨t, e1, e2⟩ := drop_step hlt
      rw [e2] at hm2
      obtain ⟨env3, hg3, hm3⟩ := hm2
      refine .inr ⟨yl.go i w2 ok2 l2 hlt, fun H => ∃ w2 accT acc fa, w2.H = H ∧ Wok S w2 ∧ Le w1 w2 ∧ Mine w2 D (.lst acc) ∧ RepsO S w2 1 accT acc fa ∧ NewAt w1 w2 D fa ∧ accT.length ≤ i + 1 ∧ lcM g c me (items.drop (i + 1)) (wipeE env vs) (fun xs => Q' (.lst (accT ++ xs))) (fun _ => False), ?_, ?_⟩
      · rintro H' ⟨w3, a0, a1, a2, a3, a4, a5, a6, a7, a8, a9, a10⟩
        exact ⟨items.length - (i + 1), by omega, w3, a0, a1, a2, a3, a4, a5, a6, a7, a8, hlt, rfl, a9, a10⟩
      · intro x H' y
        obtain ⟨w3, t', rfl, ok3, l3, e1', r3⟩ := yl.yl i w2 x H' ok2 l2 hlt y
        rw [e1] at e1'
        cases e1'
        obtain ⟨fpw, erw, _⟩ := wipeE_er (w := w3) ok3 (er.le ok (l1.trans (l2.trans l3))) vs
        refine ⟨w3, t, wipeE env vs, fpw, env3, rfl, ok3, erw, r3, hg3, fun σ4 fp4 er4 _ hw4 => ⟨hw4.trans wipe_wipe, ?_⟩⟩
        refine ⟨w3, env3, fp4, _, _, rfl, ok3, er4, hm3, fun b w4 ok4 l4 q4 => ?_, noKx⟩
        cases b with
        | true =>
          refine (if_pos rfl).mpr ?_
          have q4 := (if_pos rfl).mp q4
          refine ⟨w4, env3, fp4, _, _, rfl, ok4, er4.le ok3 l4, q4, fun x v w5 f5 ok5 l5 r5 fr5 q5 => ?_, noKx⟩
          have lz := l3.trans (l4.trans l5)
          have mi5 := mi2.le ok2 lz trivial
          have hl : acc.length = accT.length := r2.length
          have hsz := yl.sz
          have pt := mi5.put (o' := .lst (acc ++ [v])) ok5 trivial
          obtain ⟨na5, st5⟩ := na2.le lz
          have r5' : RepsO S w5 1 (accT ++ [x]) (acc ++ [v]) (fa ++ f5) := RepsO.snoc r5 (RepsO.agr (lz.agr ok2) 1 accT acc fa st5 r2)
          have nD : ∀ a ∈ f5, a ≠ D := fun a ha e => by
            have h := (fr5.nw a ha).1
            rw [e] at h
            have := (mi2.le ok2 (l3.trans l4) trivial).at_
            rw [h] at this
            cases this
          have na6 : NewAt w1 w5 D (fa ++ f5) := by
            refine ⟨?_, fun a ha => ?_⟩
            · rw [List.nodup_append]
              refine ⟨na5.nd, fr5.nd, fun a ha b hb e => ?_⟩
              subst e
              obtain ⟨_, _, _, _, o, h5, _⟩ := (na2.le (l3.trans l4)).1.at_ a ha
              rw [(fr5.nw a hb).1] at h5; cases h5
            · rcases List.mem_append.mp ha with q | q
              · exact na5.at_ a q
              · obtain ⟨h1, h2, h3⟩ := fr5.nw a q
                exact ⟨l2.no a ((l3.trans l4).no a h1), h2, nD a q, fr5.nh ok4 l5 a q, h3⟩
          have kp : ∀ a ∈ fa ++ f5, (w5.own D (.lst (acc ++ [v]))).H a = w5.H a := fun a ha => upd_ne (na6.at_ a ha).2.2.1
          refine ⟨acc, mi5.at_, by omega, w5.own D (.lst (acc ++ [v])), accT ++ [x], acc ++ [v], fa ++ f5, rfl, pt.1, ?_, ⟨upd_same, mi5.nf, mi5.nh⟩, RepsO.agr pt.2 1 _ _ _ kp r5', ⟨na6.nd, fun a ha => ?_⟩, by simp; omega, by simpa using q5⟩
          · exact (l2.trans lz).own hD
          · obtain ⟨h1, h2, h3, h4, o, h5, h6⟩ := na6.at_ a ha
            exact ⟨h1, h2, h3, h4, o, (kp a ha).trans h5, h6⟩
        | false =>
          refine (if_neg Bool.false_ne_true).mpr ?_
          have q4 := (if_neg Bool.false_ne_true).mp q4
          have lz := l3.trans l4
          obtain ⟨na5, st5⟩ := na2.le lz
          exact ⟨w4, accT, acc, fa, rfl, ok4, l2.trans lz, mi2.le ok2 lz trivial, RepsO.agr (lz.agr ok2) 1 accT acc fa st5 r2, na5, by omega, q4⟩
    · obtain rfl : i = items.length := by omega
      rw [List.drop_length] at hm2
      refine .inl ⟨yl.st _ ok2 l2, ?_⟩
      have hm2 : Q' (.lst accT) := by simpa [lcM, ret] using hm2
      refine kt _ _ w2 (D :: fa) ok2 (l1.trans l2) (by rw [RepO]; exact ⟨D, acc, fa, rfl, mi2.at_, rfl, r2⟩) ⟨?_, fun a ha => ?_⟩ hm2
      · rw [List.nodup_cons]
        exact ⟨fun q => (na2.at_ D q).2.2.1 rfl, na2.nd⟩
      · rcases List.mem_cons.mp ha with rfl | q
        · exact ⟨l1.no a hD, mi2.nf, _, mi2.at_, trivial⟩
        · obtain ⟨h1, h2, _, _, h5⟩ := na2.at_ a q
          exact ⟨l1.no a h1, h2, h5⟩
theorem de_lc2 (E : Ex X S W k) (hN : X.N.Nodup) (hi : DI X S W false tg it mi) (ok : BlkOk X.N X.env.scope scope own) (B : BodyR X S 1 scope own tg elt ifs g c me) (hs : ∀ x, foldedSetIterable it X.env x = pure x := by intro _; rfl) :
    DE X S W 2 (.ListComp elt [⟨tg, it, ifs, 0⟩] scope pos) (mLc mi g c me (own.map (·.2))) :=
  PEmono (pe_lc E.calm hN hi ok B.hg B.ht B.he hs) fun σ H Q h => lc_sim2 h
theorem ds_setLc2 (E : Ex X S W k) (i : Nat) {y : Str} {py spos : Pos} (hN : X.N.Nodup) (hi : DI X S W false tg it mi) (ok : BlkOk X.N X.env.scope scope own) (B : BodyR X S 1 scope own tg elt ifs g c me) (hy : X.N[i]? = some y := by rfl) (hyl : X.env.scope.names.lookup y = some .local := by rfl)
    (hsw : swapsWith (.ListComp elt [⟨tg, it, ifs, 0⟩] scope pos) (some (.Name y py)) spos.line X.env = pure true := by rfl) (hs : ∀ x, foldedSetIterable it X.env x = pure x := by intro _; rfl) :
    DS X S W dr w0 (.Assign [.Name y py] (.ListComp elt [⟨tg, it, ifs, 0⟩] scope pos) spos) (sSet i 2 (mLc mi g c me (own.map (·.2)))) :=
  PSmono (ps_setLc E.calm hN hy hyl hsw hi ok B.hg B.ht B.he hs) fun D σ H h => by
    obtain ⟨w, env, fp, D', rfl, ok, l, er, ow, hm, en⟩ := h
    refine lc_sim2 (rd_use ok er hm (fun t v w1 f1 ok1 l1 r1 fr q => ?_) (en.kx ok l))
    obtain ⟨fp2, e1, e2⟩ := er.set ok l1 r1 fr i (fun _ => trivial) ok1
    exact en.nx _ _ w1 fp2 ok1 (l.trans l1) (l1.agr ok) e1 (ow.of l fr e2) q
end
end Twl

/-! TL25: small things. -/
namespace Twl
open PySem PySem.Spec PyProof.Rows L2
def gIAdd : T → T → M T := gI2 (fun _ _ => True) (fun i j => i + j)
def gISub : T → T → M T := gI2 (fun _ _ => True) (fun i j => i - j)
theorem sim_ipI {S : Kx} {d : Nat} {f : Int → Int → Int} : Sim2 S d (gI2 (fun _ _ => True) f) (ipI f) := by
  intro w t u x y Q' QE Q ok r1 r2 g k
  unfold gI2 at g
  split at g
  · obtain rfl := r1.int_inv
    obtain rfl := r2.int_inv
    exact ⟨_, _, rfl, rfl, kont_f ok rep_int rfl k g.2⟩
  · exact g.elim
theorem sim_ip_add {S : Kx} {d : Nat} : Sim2 S d gIAdd (ipI fun i j => i + j) := sim_ipI
theorem sim_ip_sub {S : Kx} {d : Nat} : Sim2 S d gISub (ipI fun i j => i - j) := sim_ipI
/-- what a head tells of the module's names -/
abbrev NoN (S : Kx) (x : Str) : Prop := S.mg x = none
abbrev IsI (S : Kx) (x : Str) (i : Int) : Prop := ∃ t, S.mg x = some (.int i t)
abbrev IsS (S : Kx) (x z : Str) : Prop := ∃ t, S.mg x = some (.str z t)
theorem Er1.more {P : Program} {w : World} {S : Kx} {base : Heap} {x f : Str} {l : List (Addr × Str)} (h : Er1 P w S base x f) : Er1 P w (S.more l) base x f := ⟨h.ex⟩
theorem HandFn.mono {P : Program} {w : World} {S : Kx} {base : Heap} {j k : Nat} {x : Str} (h : HandFn P w S base j x) (l : j ≤ k) : HandFn P w S base k x := by
  obtain ⟨f, fd, ps, h1, h2, h3, h4, h5⟩ := h.ex
  exact ⟨f, fd, ps, h1, h2, h3, h4, h5.mono l⟩
theorem Eu.suite {X : Cx} {S : Kx} (U : Eu X S) {a : Addr} {pn : List (Addr × Obj)} : Eu (X.suite a pn) S := ⟨U.hK, U.hmg, U.un⟩
/-- the block's names, by a Bool -/
def blkB (N : List Str) (sc scope : Scope) (own : List (Str × Nat)) : Bool :=
  decide (scope.kind = .function) && scope.names.all (fun y => decide (scope.names.lookup y.1 = some y.2)) && own.all (fun p => decide (N[p.2]? = some p.1)) &&
  scope.names.all (fun y => !decide (y.2 = .free) || (decide (sc.names.lookup y.1 = some .cell) || decide (sc.names.lookup y.1 = some .free))) &&
  scope.names.all (fun y => !(decide (y.2 = .local) || decide (y.2 = .cell)) || ((own.map (·.1)).contains y.1 || !N.contains y.1))
theorem blk_ok {N : List Str} {sc scope : Scope} {own : List (Str × Nat)} (h : blkB N sc scope own = true) : BlkOk N sc scope own := by
  unfold blkB at h
  simp only [Bool.and_eq_true, List.all_eq_true, decide_eq_true_eq, Bool.or_eq_true, Bool.not_eq_true', decide_eq_false_iff_not] at h
  obtain ⟨⟨⟨⟨h1, h2⟩, h3⟩, h4⟩, h5⟩ := h
  refine ⟨h1, h2, h3, fun y hy e => ?_, fun y hy e => ?_⟩
  · rcases h4 y hy with q | q
    · exact (q e).elim
    · exact q
  · rcases h5 y hy with q | q
    · rcases e with e | e
      · rw [e] at q; simp at q
      · rw [e] at q; simp at q
    · rcases q with q | q
      · left
        simpa using q
      · right
        simpa using q
end Twl

/-! TL26: what a head tells. -/
namespace Twl
open PySem PySem.Spec PyProof.Rows L2
def oexB (K : PySem.W.Frag) (C : Addr) : Bool := (match K.lookup C with
  | some ⟨.type "type", _, .cls cd, sl⟩ => (match cd.mro, sl.toList with
    | .ref C' :: bm, [_, _, _, _, some (.builtin n), _] => C' == C && n == "ValueError.__new__" && !cd.hasDel && cd.hasDict && PySem.HandSPX.refsVE bm
    | _, _ => false)
  | _ => false) && (decide (PySem.W.findIn K (.ref C) "__setattr__" = some (some (.builtin "object.__setattr__"))) && (decide (PySem.W.subIn K (.ref C) (.type "BaseException") = some true) && (decide (PySem.W.typeIn K (.ref C) = some (.type "type")) && PySem.W.keepIn K (.ref C))))
theorem oexB_ok {K : PySem.W.Frag} {C : Addr} (h : oexB K C = true) : OexC K C := by
  unfold oexB at h
  simp only [Bool.and_eq_true, decide_eq_true_eq] at h
  obtain ⟨q, h2, h3, h4, h5⟩ := h
  refine ⟨?_, h2, h3, h4, h5⟩
  split at q
  · rename_i dd cd sl ho
    split at q
    · rename_i C' bm k0 k1 k2 k3 n k5 hm hs
      simp only [Bool.and_eq_true, beq_iff_eq, Bool.not_eq_true'] at q
      obtain ⟨⟨⟨⟨rfl, rfl⟩, hdel⟩, hd⟩, hr⟩ := q
      obtain ⟨nm, bs, mro, ns, qn, hdd, sn, sub, ab, col, del⟩ := cd
      dsimp only at hm hdel hd hr
      subst hm hdel hd
      have hsl : sl = #[k0, k1, k2, k3, some (.builtin "ValueError.__new__"), k5] := by
        obtain ⟨l⟩ := sl
        simp only at hs
        rw [hs]
      subst hsl
      exact ⟨nm, qn, ns, bs, bm, sn, sub, ab, col, dd, k0, k1, k2, k3, k5, ho, hr⟩
    · cases q
  · cases q
/-- the class that y names -/
def tyV' (K : PySem.W.Frag) (y : Str) : Value := if (PySem.W.nsIn K mainGlobals y == some none) = true then (match bootBuiltins y with
  | some v => v
  | none => .none) else .ref (He.ga K y)
def tstB (K : PySem.W.Frag) (names : List Str) (sub : Str → Str → Bool) (y : Str) : Bool :=
  (decide (PySem.W.nsIn K mainGlobals y = some (some (.ref (He.ga K y)))) || (decide (PySem.W.nsIn K mainGlobals y = some none) && decide (y = "ValueError"))) &&
  names.all fun x => decide (PySem.W.exmOne K (.ref (He.ga K x)) (tyV' K y) = some (sub x y)) && decide (PySem.W.kitOne K (.ref (He.ga K x)) (tyV' K y) = some (sub x y))
def ersB (K : PySem.W.Frag) (names tests : List Str) (sub : Str → Str → Bool) : Bool :=
  names.all (fun x => decide (PySem.W.nsIn K mainGlobals x = some (some (.ref (He.ga K x)))) && erB K (He.ga K x)) && tests.all (tstB K names sub)
theorem ersB_ok {K : PySem.W.Frag} {h : Heap} {mg : Str → Option Value} {tb cd : List (Addr × Str)} {names tests : List Str} {sub : Str → Str → Bool} (X : K.In h) (G : h.Ns mainGlobals mg) (q : ersB K names tests sub = true) : ErS ⟨K, mg, tb, cd⟩ names tests sub := by
  unfold ersB at q
  rw [Bool.and_eq_true, List.all_eq_true, List.all_eq_true] at q
  obtain ⟨q1, q2⟩ := q
  have at_ : ∀ x ∈ names, ∀ C, mg x = some (.ref C) → C = He.ga K x ∧ ErC K C := fun x hx C hC => by
    have := q1 x hx
    rw [Bool.and_eq_true, decide_eq_true_eq] at this
    have e := PySem.W.mg_of X G this.1
    rw [e] at hC
    cases hC
    exact ⟨rfl, erB_ok this.2⟩
  refine ⟨fun y hy => ?_, fun x hx C hC => (at_ x hx C hC).2⟩
  have t := q2 y hy
  unfold tstB at t
  rw [Bool.and_eq_true, List.all_eq_true, Bool.or_eq_true, Bool.and_eq_true, decide_eq_true_eq, decide_eq_true_eq, decide_eq_true_eq] at t
  obtain ⟨t1, t2⟩ := t
  refine ⟨tyV' K y, ?_, ?_, fun x hx C hC => ?_⟩
  · rcases t1 with t1 | ⟨t1, rfl⟩
    · refine ⟨.ref (He.ga K y), ?_⟩
      unfold tyV'
      rw [t1, if_neg (by simp)]
      exact .own _
    · refine ⟨.ty "ValueError", ?_⟩
      unfold tyV'
      rw [t1, if_pos (by simp)]
      exact .ty _
  · rcases t1 with t1 | ⟨t1, rfl⟩
    · left
      unfold tyV'
      rw [t1, if_neg (by simp)]
      exact PySem.W.mg_of X G t1
    · right
      refine ⟨PySem.W.mg_none_of X G t1, ?_, by decide⟩
      unfold tyV'
      rw [t1, if_pos (by simp)]
      rfl
  · obtain ⟨rfl, _⟩ := at_ x hx C hC
    have := t2 x hx
    rw [Bool.and_eq_true, decide_eq_true_eq, decide_eq_true_eq] at this
    exact this
theorem er0_of {K : PySem.W.Frag} {h : Heap} {mg : Str → Option Value} {tb cd : List (Addr × Str)} {names tests : List Str} {sub : Str → Str → Bool} {x : Str} (X : K.In h) (G : h.Ns mainGlobals mg) (g : (He.Fa.glo x).ok K = true) (e : (He.Fa.exc x).ok K = true) (R : ErS ⟨K, mg, tb, cd⟩ names tests sub) (hx : x ∈ names) : Er0 ⟨K, mg, tb, cd⟩ x := by
  have hg := He.glo_ok X G g
  exact ⟨_, hg, R.cls x hx _ hg, (He.exc_ok e).1⟩
def er1B (K : PySem.W.Frag) (x f : Str) : Bool := oexB K (He.ga K x) && (decide (PySem.W.findIn K (.ref (He.ga K x)) "__init__" = some (some (.ref (He.ma K (He.ga K x) "__init__")))) && (decide (PySem.W.typeIn K (.ref (He.ma K (He.ga K x) "__init__")) = some (.type "function")) && decide (PySem.W.findIn K (.ref (He.ga K x)) f = some none)))
theorem er1_of {P : Program} {w : World} {base : Heap} {K : PySem.W.Frag} {h : Heap} {mg : Str → Option Value} {tb cd : List (Addr × Str)} {names tests : List Str} {sub : Str → Str → Bool} {x f qual self : Str} {params : Arguments} {scope : Scope} {p1 p2 p3 pos : Pos} {fd : FuncData} (X : K.In h) (G : h.Ns mainGlobals mg) (g : (He.Fa.glo x).ok K = true) (e : er1B K x f = true) (R : ErS ⟨K, mg, tb, cd⟩ names tests sub) (hx : x ∈ names)
    (F : FunD K "__init__" qual params [.Assign [.Attribute (.Name self p1) f p2] (.Name f p3) pos] scope [] [] (He.ma K (He.ga K x) "__init__") fd) (Sc : FnScope [self, f] [self, f] scope) (v0 : Vis scope self) (v1 : Vis scope f)
    (hb : ∀ (kV doc pm : Value) (an : Option Addr) (cdv ct : Value) (us : List Value), us.length = ([self, f] : List Str).length → bindArgs (PySem.W.fnOf "__init__" qual params [.Assign [.Attribute (.Name self p1) f p2] (.Name f p3) pos] scope .none kV doc pm an cdv ct) ⟨us, []⟩ = pure (([self, f] : List Str).zip us))
    (d0 : (self == ("__debug__" : Str)) = false := by decide) (d1 : (f == ("__debug__" : Str)) = false := by decide) (c0 : (self == ("__classdict__" : Str)) = false := by decide) (c1 : (f == ("__classdict__" : Str)) = false := by decide) : Er1 P w ⟨K, mg, tb, cd⟩ base x f := by
  have hg := He.glo_ok X G g
  unfold er1B at e
  simp only [Bool.and_eq_true, decide_eq_true_eq] at e
  obtain ⟨e1, e2, e3, e4⟩ := e
  exact ⟨_, _, _, _, hg, R.cls x hx _ hg, oexB_ok e1, e2, e3, e4, F.bindsN hb, rfl, init_ok (S := ⟨K, mg, tb, cd⟩) (ps := []) F Sc (oexB_ok e1) e4 v0 v1 d0 d1 c0 c1⟩
end Twl

/-! TM1: tuple(range), max and min of a list. -/
namespace Twl
open PySem PySem.Spec PyProof.Rows L2
section
variable {X : Cx} {S : Kx} {W : WX} {k d : Nat} {a b e : Expr} {ma mb : Env → M T} {p pos : Pos} {mas : Env → M (List T)}
def gTupR1 : T → M T := fun t => match t with
  | .int b => gd (RgOk 0 b) (ret (.tup (rgT 0 b)))
  | _ => stuck
def gTupR2 : T → T → M T := fun t u => match t, u with
  | .int a, .int b => gd (RgOk a b) (ret (.tup (rgT a b)))
  | _, _ => stuck
theorem de_tupR1 (E : Ex X S W k) {p2 pos2 : Pos} (hm : S.mg "tuple" = none) (hm2 : S.mg "range" = none) (ha : DE X S W 0 a ma) (hg : Gl X "tuple" := by rfl) (hg2 : Gl X "range" := by rfl) (na : starEach [a] X.env = (false, eval a X.env) :: starEach [] X.env := by rfl)
    (nb : starEach [(Expr.Call (.Name "range" p2) [a] [] pos2)] X.env = (false, eval (Expr.Call (.Name "range" p2) [a] [] pos2) X.env) :: starEach [] X.env := by rfl) :
    DE X S W d (.Call (.Name "tuple" p) [.Call (.Name "range" p2) [a] [] pos2] [] pos) (mUn gTupR1 ma) := by
  refine PEmono (pe_tupRg E.calm hg (by rw [E.hmg]; exact hm) (prg_1 hg2 (by rw [E.hmg]; exact hm2) ha na) nb) fun σ H Q h => ?_
  obtain ⟨w, env, fp, Q', QE, rfl, ok, er, hm, kt, kx⟩ := h
  refine rd_use ok er hm (.z fun r v w1 ok1 l1 rp q => ?_) kx
  unfold gTupR1 at q
  split at q
  · rw [Rep] at rp
    subst rp
    exact ⟨_, rfl, q.1, kont_tup ok1 (rgT_rep _ _) (kt.le l1) q.2⟩
  · exact q.elim
def gMax1 : T → M T := fun t => match t with
  | .lst ts => ofO (T.ints ts) fun ns => gd (0 < ns.length) fun Q _ => ∀ m, m ∈ ns → (∀ y, y ∈ ns → y ≤ m) → Q (.int m)
  | _ => stuck
def gMin1 : T → M T := fun t => match t with
  | .lst ts => ofO (T.ints ts) fun ns => gd (0 < ns.length) fun Q _ => ∀ m, m ∈ ns → (∀ y, y ∈ ns → m ≤ y) → Q (.int m)
  | _ => stuck
theorem de_max1 (E : Ex X S W k) (hm : S.mg "max" = none) (ha : DAB X S W [e] mas) (hv : bootBuiltins "max" = some (.builtin "max") := by decide +kernel) (hg : Gl X "max" := by rfl) (he : starEach (e :: []) X.env = (false, eval e X.env) :: starEach [] X.env := by first | exact star_c rfl | rfl) (hpl : (backTo pos (starEach [] X.env)).any (·.1) = false := by first | exact star_any rfl | rfl) :
    DE X S W d (.Call (.Name "max" p) [e] [] pos) (mCall (g1 gMax1) mas) := by
  have h : CallR X (.builtin "max") (rMax S.K) := by rw [← E.hK]; exact cr_max E.calm
  exact de_callB E.toEu h (sim_1 fun w t x Q' QE Q ok r hg k => by
    unfold gMax1 at hg
    split at hg
    · obtain ⟨p, vs, rfl, h0, h1, h2⟩ := r.lst_inv
      obtain ⟨bs, e, hg⟩ := ofO_inv hg
      have ev := ints_rep h2 e
      subst ev
      exact ⟨p, bs, rfl, .inl (.inl h1), hg.1, fun m q1 q2 => kont_f ok rep_int rfl k (hg.2 m q1 q2)⟩
    · exact hg.elim) hm hv ha hg (by decide) (by decide) he hpl
theorem de_min1 (E : Ex X S W k) (hm : S.mg "min" = none) (ha : DAB X S W [e] mas) (hv : bootBuiltins "min" = some (.builtin "min") := by decide +kernel) (hg : Gl X "min" := by rfl) (he : starEach (e :: []) X.env = (false, eval e X.env) :: starEach [] X.env := by first | exact star_c rfl | rfl) (hpl : (backTo pos (starEach [] X.env)).any (·.1) = false := by first | exact star_any rfl | rfl) :
    DE X S W d (.Call (.Name "min" p) [e] [] pos) (mCall (g1 gMin1) mas) := by
  have h : CallR X (.builtin "min") (rMin S.K) := by rw [← E.hK]; exact cr_min E.calm
  exact de_callB E.toEu h (sim_1 fun w t x Q' QE Q ok r hg k => by
    unfold gMin1 at hg
    split at hg
    · obtain ⟨p, vs, rfl, h0, h1, h2⟩ := r.lst_inv
      obtain ⟨bs, e, hg⟩ := ofO_inv hg
      have ev := ints_rep h2 e
      subst ev
      exact ⟨p, bs, rfl, .inl (.inl h1), hg.1, fun m q1 q2 => kont_f ok rep_int rfl k (hg.2 m q1 q2)⟩
    · exact hg.elim) hm hv ha hg (by decide) (by decide) he hpl
end
end Twl

/-! TM2: xs[::-1] of a list. -/
namespace Twl
open PySem PySem.Spec PyProof.Rows L2
section
variable {X : Cx} {S : Kx} {W : WX} {k d : Nat} {a b e : Expr} {ma mb : Env → M T} {p pos : Pos} {mas : Env → M (List T)}
def gRev : T → M T := fun t => match t with
  | .lst ts => ret (.lst ts.reverse)
  | _ => stuck
theorem Reps.rev {w : Wd} : ∀ {ts : List T} {vs : List V}, Reps S w ts vs → Reps S w ts.reverse vs.reverse
  | [], vs, r => by rw [r.nil_inv]; exact .nil
  | t :: ts, vs, r => by
    obtain ⟨v, vs', rfl, h1, h2⟩ := r.cons_inv
    rw [List.reverse_cons, List.reverse_cons]
    exact (Reps.rev h2).append (.cons h1 .nil)
theorem de_revL {z : Nat} {p1 p2 p3 : Pos} (E : Eu X S) (ha : DB X S W a ma) (hd : d ≤ 1 := by decide) : DE X S W d (.Subscript a (.Slice none none (some (.UnaryOp .USub (.Constant (.int 1) z p1) p2)) p3) pos) (mUn gRev ma) := PEmono (pe_revL ha) fun σ H Q h => by
  obtain ⟨w, env, fp, Q', QE, rfl, ok, er, hm, kt, kx⟩ := h
  refine rdb_use ok er hm (fun t v w1 ok1 l1 r1 q => ?_) kx
  unfold gRev at q
  split at q
  · obtain ⟨p, vs, rfl, h0, h1, h2⟩ := r1.lst_inv
    exact ⟨p, vs, rfl, .inl (.inl h1), kont_lst ok1 (Reps.rev h2) hd (kt.le l1) q⟩
  · exact q.elim
end
end Twl

/-! TM3: dicts whose keys are ints or texts: d[k], d[k] = v, dict(pairs), sorted(d), two that are alike. -/
namespace Twl
open PySem PySem.Spec PyProof.Rows L2
section
variable {X : Cx} {S : Kx} {W : WX} {k d dr : Nat} {w0 : Wd} {a b e : Expr} {ma mb : Env → M T} {p pos : Pos} {mas : Env → M (List T)}
def gIxD : T → T → M T := fun t u => match t with
  | .dk ks ts => ofO u.key fun j => ofO (dlook ks ts j) ret
  | _ => stuck
theorem de_ixD (E : Eu X S) (ha : DB X S W a ma) (hb : DB X S W b mb) (hs : NoSl b := by intro _ _; rfl) : DE X S W 0 (.Subscript a b pos) (mBin gIxD ma mb) := by
  refine PEmono (pe_dget (by have := E.un; omega) ha hb hs) fun σ H Q h => ?_
  obtain ⟨w, env, fp, Q', QE, rfl, ok, er, hm, kt, kx⟩ := h
  refine run2 ok er hm kx fun w2 t u x y ok2 l r1 r2 q => ?_
  unfold gIxD at q
  split at q
  · obtain ⟨j, ej, q⟩ := ofO_inv q
    obtain ⟨t, et, q⟩ := ofO_inv q
    obtain ⟨p, vs, rfl, h0, h1, h2, h3⟩ := r1
    have ev := key_rep r2 ej
    subst ev
    have hv := dlook_val (k := j) h2 h3
    rw [et] at hv
    obtain ⟨v, e1, rv⟩ := hv
    have g := DGet.k (k := j) h1
    rw [e1] at g
    exact ⟨p, v, rfl, g, kont_0 ok2 rv (.inl rfl) (kt.le l) q⟩
  · exact q.elim
/-! ### a pair is put -/
def putT : List (Key × T) → Key → T → List (Key × T)
  | [], k, t => [(k, t)]
  | (j, u) :: r, k, t => if j = k then (j, t) :: r else (j, u) :: putT r k t
def KR (S : Kx) (w : Wd) (kts : List (Key × T)) (kvs : List (Key × V)) : Prop := kts.map (·.1) = kvs.map (·.1) ∧ Reps S w (kts.map (·.2)) (kvs.map (·.2))
theorem KR.nil {w : Wd} : KR S w [] [] := ⟨rfl, .nil⟩
theorem KR.cons {w : Wd} {k : Key} {t : T} {v : V} {kts : List (Key × T)} {kvs : List (Key × V)} (r : Rep S w t v) (h : KR S w kts kvs) : KR S w ((k, t) :: kts) ((k, v) :: kvs) := ⟨by simp [h.1], .cons r h.2⟩
theorem KR.inv {w : Wd} {k : Key} {t : T} {kts : List (Key × T)} {kvs : List (Key × V)} (h : KR S w ((k, t) :: kts) kvs) : ∃ v r, kvs = (k, v) :: r ∧ Rep S w t v ∧ KR S w kts r := by
  cases kvs with
  | nil => exact absurd h.1 (by simp)
  | cons z r =>
    obtain ⟨j, v⟩ := z
    have h1 := h.1
    simp only [List.map_cons, List.cons.injEq] at h1
    obtain ⟨v', r', e, q1, q2⟩ := h.2.cons_inv
    simp only [List.map_cons, List.cons.injEq] at e
    obtain ⟨rfl, rfl⟩ := e
    obtain ⟨rfl, h2⟩ := h1
    exact ⟨v, r, rfl, q1, h2, q2⟩
theorem putK_cons_eq {k : Key} {v u : V} {r : List (Key × V)} (hn : valV r k = none) : putK ((k, u) :: r) k v = (k, v) :: r := by
  unfold putK
  have e1 : (((k, u) :: r).any fun kv => decide (kv.1 = k)) = true := by simp
  rw [if_pos e1, List.map_cons]
  simp only [if_pos]
  congr 1
  have : ∀ kv ∈ r, ¬ kv.1 = k := by
    intro kv hkv e
    have h2 := valV_any k r
    rw [hn] at h2
    have : (r.any fun kv => decide (kv.1 = k)) = true := List.any_eq_true.mpr ⟨kv, hkv, by simpa using e⟩
    rw [this] at h2
    cases h2
  calc r.map (fun kv => if kv.1 = k then (kv.1, v) else kv) = r.map id := List.map_congr_left fun kv hkv => by rw [if_neg (this kv hkv)]; rfl
    _ = r := List.map_id r
theorem putK_cons_ne {k j : Key} {v u : V} {r : List (Key × V)} (hn : ¬ j = k) : putK ((j, u) :: r) k v = (j, u) :: putK r k v := by
  unfold putK
  have e1 : (((j, u) :: r).any fun kv => decide (kv.1 = k)) = (r.any fun kv => decide (kv.1 = k)) := by simp [hn]
  rw [e1]
  by_cases c : (r.any fun kv => decide (kv.1 = k)) = true
  · rw [if_pos c, if_pos c, List.map_cons]
    simp [hn]
  · rw [if_neg c, if_neg c]
    rfl
/-- each key stands once -/
def KN (kts : List (Key × T)) : Prop := (kts.map (·.1)).Nodup
theorem KR.valN {w : Wd} {k : Key} {kts : List (Key × T)} {kvs : List (Key × V)} (h : KR S w kts kvs) (hn : k ∉ kts.map (·.1)) : valV kvs k = none := by
  rw [h.1] at hn
  have h2 := valV_any k kvs
  cases e : valV kvs k with
  | none => rfl
  | some v =>
    rw [e] at h2
    obtain ⟨kv, hkv, e2⟩ := List.any_eq_true.mp h2
    exact absurd (List.mem_map.mpr ⟨kv, hkv, by simpa using e2⟩) hn
theorem putT_mem {k : Key} {t : T} : ∀ {kts : List (Key × T)} {j : Key}, j ∈ (putT kts k t).map (·.1) ↔ j ∈ kts.map (·.1) ∨ j = k
  | [], j => by simp [putT]
  | (i, u) :: r, j => by
    unfold putT
    by_cases c : i = k
    · rw [if_pos c]
      subst c
      simp
      intro h; exact .inl h
    · rw [if_neg c]
      have := putT_mem (k := k) (t := t) (kts := r) (j := j)
      rw [List.map_cons, List.map_cons, List.mem_cons, List.mem_cons, this, or_assoc]
theorem KN.put {k : Key} {t : T} : ∀ {kts : List (Key × T)}, KN kts → KN (putT kts k t)
  | [], _ => by simp [KN, putT]
  | (i, u) :: r, h => by
    unfold KN at h ⊢
    rw [List.map_cons, List.nodup_cons] at h
    unfold putT
    by_cases c : i = k
    · rw [if_pos c, List.map_cons, List.nodup_cons]
      exact h
    · rw [if_neg c, List.map_cons, List.nodup_cons, putT_mem]
      exact ⟨fun q => q.elim h.1 c, KN.put (kts := r) h.2⟩
theorem KR.put {w : Wd} {k : Key} {t : T} {v : V} (rv : Rep S w t v) : ∀ {kts : List (Key × T)} {kvs : List (Key × V)}, KN kts → KR S w kts kvs → KR S w (putT kts k t) (putK kvs k v)
  | [], kvs, _, h => by
    have : kvs = [] := by
      cases kvs with
      | nil => rfl
      | cons z r => exact absurd h.1 (by simp)
    subst this
    exact .cons rv .nil
  | (i, u) :: r, kvs, hn, h => by
    obtain ⟨x, r', rfl, q1, q2⟩ := h.inv
    unfold KN at hn
    rw [List.map_cons, List.nodup_cons] at hn
    unfold putT
    by_cases c : i = k
    · subst c
      rw [if_pos rfl, putK_cons_eq (q2.valN hn.1)]
      exact .cons rv q2
    · rw [if_neg c, putK_cons_ne c]
      exact .cons q1 (KR.put rv (kts := r) hn.2 q2)
theorem KR.zip {w : Wd} {kts : List (Key × T)} {kvs : List (Key × V)} (h : KR S w kts kvs) : kvs = (kts.map (·.1)).zip (kvs.map (·.2)) ∧ (kts.map (·.1)).length = (kts.map (·.2)).length ∧ Reps S w (kts.map (·.2)) (kvs.map (·.2)) := by
  refine ⟨?_, by simp, h.2⟩
  rw [h.1]
  have : ∀ l : List (Key × V), l = (l.map (·.1)).zip (l.map (·.2)) := by
    intro l
    induction l with
    | nil => rfl
    | cons z l ih => rw [List.map_cons, List.map_cons, List.zip_cons_cons, ← ih]
  exact this kvs
theorem KR.of {w : Wd} {ks : List Key} {ts : List T} {vs : List V} (h : ks.length = ts.length) (r : Reps S w ts vs) : KR S w (ks.zip ts) (ks.zip vs) := by
  have hl := r.length
  refine ⟨by rw [List.map_fst_zip (by omega), List.map_fst_zip (by omega)], ?_⟩
  rw [List.map_snd_zip (by omega), List.map_snd_zip (by omega)]
  exact r
/-! ### d[k] = v -/
def sStD (i : Nat) (mv mi : Env → M T) : SM := fun D env => mv env (fun v => ∃ kts, env[i]? = some (.va 1 (.dk (kts.map (·.1)) (kts.map (·.2)))) ∧ KN kts ∧ kts.length < sizeLine ∧ mi env (fun u => ∃ k, u.key = some k ∧ D.nx (env.set i (.va 1 (.dk ((putT kts k v).map (·.1)) ((putT kts k v).map (·.2)))))) D.ex) D.ex
variable {env : Env} {σ : L2.St} {fp : List Addr} {w : Wd}
theorem slotD (ok : Wok S w) (l : Le w0 w) (er : EnvR S w env σ fp) (ow : Own w0 fp) {i : Nat} {kts : List (Key × T)} (e : env[i]? = some (.va 1 (.dk (kts.map (·.1)) (kts.map (·.2))))) : ∃ p kvs, σ[i]? = some (some (.ref p)) ∧ w.H p = some (.dK kvs) ∧ KR S w kts kvs ∧ w.hp ≠ some p ∧
    ∀ w1, Wok S w1 → Le w w1 → Mine w1 p (.dK kvs) ∧ ∀ kts' kvs', KR S w1 kts' kvs' → ∃ fp2, EnvR S (w1.own p (.dK kvs')) (env.set i (.va 1 (.dk (kts'.map (·.1)) (kts'.map (·.2))))) σ fp2 ∧ Own w0 fp2 ∧ Wok S (w1.own p (.dK kvs')) ∧ Le w0 (w1.own p (.dK kvs')) ∧ Agr w1 (w1.own p (.dK kvs')) := by
  obtain ⟨v, f, e1, r1, nf, sub, _⟩ := er.upd e
  rw [RepO] at r1
  obtain ⟨p, vs, rfl, h1, rfl, hl, hz⟩ := r1
  have hp := sub p List.mem_cons_self
  obtain ⟨o1, o2, _⟩ := er.ow p hp
  have kr := KR.of hl hz
  have ez : (kts.map (·.1)).zip (kts.map (·.2)) = kts := by
    have : ∀ l : List (Key × T), (l.map (·.1)).zip (l.map (·.2)) = l := by
      intro l
      induction l with
      | nil => rfl
      | cons z l ih => rw [List.map_cons, List.map_cons, List.zip_cons_cons, ih]
    exact this kts
  rw [ez] at kr
  refine ⟨p, _, e1, h1, kr, o2, fun w1 ok1 l1 => ?_⟩
  have mi := Mine.le (S := S) ⟨h1, o1, o2⟩ ok l1 (show FzO (.dK _) from trivial)
  refine ⟨mi, fun kts' kvs' r' => ?_⟩
  have er1 := er.le ok l1
  obtain ⟨v', f', e1', r1', nf', sub', U⟩ := er1.upd e
  rw [e1] at e1'
  cases e1'
  rw [RepO] at r1'
  obtain ⟨p', us, q, h1', rfl, _, h2'⟩ := r1'
  cases q
  obtain ⟨ok2, ag2⟩ := mi.put (o' := .dK kvs') ok1 trivial
  obtain ⟨z1, z2, z3⟩ := r'.zip
  obtain ⟨fp2, er2, s2⟩ := U (w1.own p (.dK kvs')) 1 (.dk (kts'.map (·.1)) (kts'.map (·.2))) [p] ag2 (fun b hb q => ⟨upd_ne (fun e => q (by rw [e]; exact List.mem_cons_self)), id⟩) (by
    rw [RepO]
    exact ⟨p, kvs'.map (·.2), rfl, by rw [← z1]; exact upd_same, rfl, z2, Reps.agr ag2 _ _ z3⟩) nf (fun a ha => by
    obtain rfl : a = p := by simpa using ha
    exact ⟨.inl List.mem_cons_self, ⟨mi.nf, mi.nh, _, upd_same, trivial⟩⟩)
  refine ⟨fp2, er2, fun a ha => (s2 a ha).elim (ow a) fun q => ?_, ok2, (l.trans l1).own (ow p hp), ag2⟩
  obtain rfl : a = p := by simpa using q
  exact ow a hp
theorem KR.agr {w w' : Wd} (ag : Agr w w') {kts : List (Key × T)} {kvs : List (Key × V)} (h : KR S w kts kvs) : KR S w' kts kvs := ⟨h.1, Reps.agr ag _ _ h.2⟩
theorem ds_stD (i : Nat) {x : Str} (E : Eu X S) {value : Expr} {mv : Env → M T} {pos' : Pos} (he : DE X S W 0 value mv) (hb : DE X S W 0 b mb) (hN : X.N[i]? = some x := by rfl) (hv : Vis X.env.scope x := by first | exact Or.inl rfl | exact Or.inr (Or.inl rfl) | exact Or.inr (Or.inr rfl))
    (hd : (x == ("__debug__" : Str)) = false := by decide) (hcd : (x == ("__classdict__" : Str)) = false := by decide)
    (hs : swapsWithSole [.Subscript (.Name x p) b pos'] value pos.line X.env = pure false := by rfl) (hw : swappedStores [.Subscript (.Name x p) b pos'] value X.env = pure none := by rfl) (h1 : (assignEach [.Subscript (.Name x p) b pos'] X.env).map (·.2) = [assign (.Subscript (.Name x p) b pos') X.env] := by rfl)
    (hix : ∀ v, assign (.Subscript (.Name x p) b pos') X.env v = (do
      let ov ← holding [v] (eval (.Name x p) X.env)
      let iv ← holding [v, ov] (eval b X.env)
      standAt pos'
      holding [v, ov, iv] (setItem ov iv v)
      release [v, ov, iv] []) := by intro _; rfl) :
    DS X S W dr w0 (.Assign [.Subscript (.Name x p) b pos'] value pos) (sStD i mv mb) :=
  PSmono (ps_asg he (pg_sub (pe_var hN hv hd hcd) hb (set_dict (by have := E.un; omega)) hix) hs hw h1) fun D σ H h => by
    obtain ⟨w, env, fp, D', rfl, ok, l, er, ow, hm, en⟩ := h
    refine rd_use ok er hm (.z fun t v w1 ok1 l1 r1 q => ?_) (en.kx ok l)
    obtain ⟨kts, e0, hn, hz, q⟩ := q
    have er1 := er.le ok l1
    obtain ⟨p, kvs, e1, h1, h2, h3, U⟩ := slotD ok1 (l.trans l1) er1 ow e0
    refine ⟨_, e1, rd_use ok1 er1 q (.z fun u y w2 ok2 l2 r2 q2 => ?_) ((en.agr (l1.agr ok)).kx ok1 (l.trans l1))⟩
    obtain ⟨j, hj, q2⟩ := q2
    have hy : y = kV j := by
      cases u with
      | int i => simp [T.key] at hj; subst hj; rw [Rep] at r2; exact r2
      | str x => simp [T.key] at hj; subst hj; rw [Rep] at r2; exact r2
      | _ => simp [T.key] at hj
    subst hy
    obtain ⟨mi, U⟩ := U w2 ok2 l2
    have h2' := KR.agr (l2.agr ok1) h2
    obtain ⟨fp2, er2, ow2, ok3, l3, ag3⟩ := U (putT kts j t) (putK kvs j v) (KR.put (Rep.agr (l2.agr ok1) _ _ r1) hn h2')
    have hlen : kvs.length < sizeLine := by
      have := congrArg List.length h2.1
      rw [List.length_map, List.length_map] at this
      omega
    exact ⟨p, _, rfl, DPut.k mi.at_ hlen, en.nx _ σ _ fp2 ok3 l3 (((l1.trans l2).agr ok).trans ag3) er2 ow2 q2⟩
/-! ### dict(pairs) -/
def pairsT : List T → Option (List (Key × T))
  | [] => some []
  | .tup [a, b] :: r => (match a.key, pairsT r with
    | some k, some l => some ((k, b) :: l)
    | _, _ => none)
  | _ => none
def mergeT (kts more : List (Key × T)) : List (Key × T) := more.foldl (fun acc kv => putT acc kv.1 kv.2) kts
theorem KN.merge : ∀ {more kts : List (Key × T)}, KN kts → KN (mergeT kts more)
  | [], _, h => h
  | z :: more, kts, h => KN.merge (more := more) (h.put (k := z.1) (t := z.2))
theorem KR.merge {w : Wd} : ∀ {more : List (Key × T)} {mv : List (Key × V)} {kts : List (Key × T)} {kvs : List (Key × V)}, KN kts → KR S w kts kvs → KR S w more mv → KR S w (mergeT kts more) (mergeK kvs mv)
  | [], mv, kts, kvs, _, h, hm => by
    have : mv = [] := by
      cases mv with
      | nil => rfl
      | cons z r => exact absurd hm.1 (by simp)
    subst this
    exact h
  | (k, t) :: more, mv, kts, kvs, hn, h, hm => by
    obtain ⟨v, r, rfl, q1, q2⟩ := hm.inv
    show KR S w (mergeT (putT kts k t) more) (mergeK (putK kvs k v) r)
    exact KR.merge (more := more) (hn.put (k := k) (t := t)) (KR.put q1 hn h) q2
theorem pairs_rep {w : Wd} : ∀ {ts : List T} {vs : List V} {kts : List (Key × T)}, Reps S w ts vs → pairsT ts = some kts → ∃ (ps : List Addr) (kvs : List (Key × V)), vs = ps.map V.ref ∧ Paired (fun p kv => SqT S.K w.H p [kV kv.1, kv.2]) ps kvs ∧ KR S w kts kvs
  | [], vs, kts, r, e => by
    rw [r.nil_inv]
    simp [pairsT] at e
    subst e
    exact ⟨[], [], rfl, .nil, .nil⟩
  | t :: ts, vs, kts, r, e => by
    obtain ⟨v, vs', rfl, h1, h2⟩ := r.cons_inv
    unfold pairsT at e
    split at e
    · rename_i heq
      cases heq
    · rename_i a b r' heq
      cases heq
      split at e
      · rename_i k l e1 e2
        have := Option.some.inj e
        subst this
        obtain ⟨ps, kvs, rfl, hp, kr⟩ := pairs_rep h2 e2
        rw [Rep] at h1
        obtain ⟨q, ws, rfl, a1, a2⟩ := h1
        obtain ⟨x, ws', rfl, b1, b2⟩ := a2.cons_inv
        obtain ⟨y, ws'', rfl, c1, c2⟩ := b2.cons_inv
        obtain rfl := c2.nil_inv
        have hx : x = kV k := by
          cases a with
          | int i => simp [T.key] at e1; subst e1; rw [Rep] at b1; exact b1
          | str z => simp [T.key] at e1; subst e1; rw [Rep] at b1; exact b1
          | _ => simp [T.key] at e1
        subst hx
        exact ⟨q :: ps, (k, y) :: kvs, rfl, .cons a1.sq hp, .cons c1 kr⟩
      · cases e
    · cases e
def gDictP : T → M T := fun t => match t with
  | .lst ts => ofO (pairsT ts) fun kts => ret (.dk ((mergeT [] kts).map (·.1)) ((mergeT [] kts).map (·.2)))
  | _ => stuck
theorem de_dictP (E : Ex X S W k) (hm : S.mg "dict" = none) (ha : DAB X S W [e] mas) (hg : Gl X "dict" := by rfl) (hv : bootBuiltins "dict" = some (.type "dict") := by decide +kernel) (he : starEach (e :: []) X.env = (false, eval e X.env) :: starEach [] X.env := by first | exact star_c rfl | rfl) (hpl : (backTo pos (starEach [] X.env)).any (·.1) = false := by first | exact star_any rfl | rfl) :
    DE X S W 0 (.Call (.Name "dict" p) [e] [] pos) (mCall (g1 gDictP) mas) := by
  have h := call_dictP (X := X) E.calm
  rw [E.hK] at h
  refine de_callT E.toEu h (sim_1 fun w t x Q' QE Q ok r hg k => ?_) hm hv ha hg (by decide) (by decide) he hpl
  unfold gDictP at hg
  split at hg
  · obtain ⟨p1, vs, rfl, h0, h1, h2⟩ := r.lst_inv
    obtain ⟨kts, e1, q⟩ := ofO_inv hg
    obtain ⟨ps, kvs, rfl, hp, kr⟩ := pairs_rep h2 e1
    have km := KR.merge (S := S) (kts := []) (kvs := []) (by simp [KN]) .nil kr
    obtain ⟨z1, z2, z3⟩ := km.zip
    refine ⟨p1, ps, kvs, rfl, .inl (.inl h1), hp, fun q1 hn => ?_⟩
    exact k _ _ (w.add q1 (.dK (mergeK [] kvs))) [] (add_ok ok hn trivial) (add_le hn) (.zero (by
      rw [Rep]
      exact ⟨q1, (mergeK [] kvs).map (·.2), rfl, .inr rfl, by rw [← z1]; exact upd_same, z2, Reps.agr ((add_le hn).agr ok) _ _ z3⟩)) .nil q
  · exact hg.elim
/-! ### sorted(d) -/
def keysI : List Key → Option (List Int)
  | [] => some []
  | .inl i :: r => (keysI r).map (i :: ·)
  | _ => none
theorem keysI_inv : ∀ {ks : List Key} {ns : List Int}, keysI ks = some ns → ks = ns.map Sum.inl
  | [], ns, h => by simp [keysI] at h; subst h; rfl
  | .inl i :: r, ns, h => by
    simp only [keysI, Option.map_eq_some_iff] at h
    obtain ⟨l, h1, rfl⟩ := h
    rw [keysI_inv h1]
    rfl
  | .inr _ :: _, ns, h => by simp [keysI] at h
def gSortedD : T → M T := fun t => match t with
  | .dk ks _ => ofO (keysI ks) fun ns => gd (ns.length < 64) (ret (.lst ((sortI ns).map T.int)))
  | _ => stuck
theorem de_sortedD (E : Ex X S W k) (hm : S.mg "sorted" = none) (hd : d ≤ 1) (ha : DAB X S W [e] mas) (hg : Gl X "sorted" := by rfl) (he : starEach (e :: []) X.env = (false, eval e X.env) :: starEach [] X.env := by first | exact star_c rfl | rfl) (hpl : (backTo pos (starEach [] X.env)).any (·.1) = false := by first | exact star_any rfl | rfl) :
    DE X S W d (.Call (.Name "sorted" p) [e] [] pos) (mCall (g1 gSortedD) mas) := by
  have h := call_sortedDI (X := X) E.calm
  refine de_callB E.toEu h (sim_1 fun w t x Q' QE Q ok r hg k => ?_) hm (by decide +kernel) ha hg (by decide) (by decide) he hpl
  unfold gSortedD at hg
  split at hg
  · obtain ⟨ns, e1, q64, q⟩ := ofO_inv hg
    obtain ⟨p1, vs, rfl, h0, h1, h2, h3⟩ := r
    have ek := keysI_inv e1
    refine ⟨p1, _, ns, rfl, .inl h1, by rw [List.map_fst_zip (by have := h3.length; omega), ek], q64, fun ns' p2 g1 g2 hp => ?_⟩
    have e2 : ns' = sortI ns := sort_uniq (g1.trans (sortI_perm ns).symm) g2 (sortI_le ns)
    subst e2
    exact kont_lst ok (ints_repT _) hd k q p2 hp
  · exact hg.elim
/-! ### two dicts that are alike -/
def flatT : T → Bool
  | .non | .bl _ | .int _ | .str _ => true
  | _ => false
def sameD (ks : List Key) (ts : List T) (js : List Key) (us : List T) : Prop := ks.length = js.length ∧ ks.length = ts.length ∧ js.length = us.length ∧ ∀ z ∈ ks.zip ts, dlook js us z.1 = some z.2 ∧ flatT z.2 = true
def gNeD : T → T → M T := fun t u => match t, u with
  | .dk ks ts, .dk js us => gd (sameD ks ts js us) (ret (.bl false))
  | _, _ => stuck
theorem flat_uniq {w : Wd} {t : T} {v u : V} (h : flatT t = true) (r1 : Rep S w t v) (r2 : Rep S w t u) : v = u ∧ flatB v = true := by
  cases t with
  | non => rw [Rep] at r1 r2; rw [r1, r2]; exact ⟨rfl, rfl⟩
  | bl _ => rw [Rep] at r1 r2; rw [r1, r2]; exact ⟨rfl, rfl⟩
  | int _ => rw [Rep] at r1 r2; rw [r1, r2]; exact ⟨rfl, rfl⟩
  | str _ => rw [Rep] at r1 r2; rw [r1, r2]; exact ⟨rfl, rfl⟩
  | _ => cases h
theorem zip_mem {w : Wd} : ∀ {ks : List Key} {ts : List T} {vs : List V} {z : Key × V}, ks.length = ts.length → Reps S w ts vs → z ∈ ks.zip vs → ∃ t, (z.1, t) ∈ ks.zip ts ∧ Rep S w t z.2
  | [], _, _, z, _, _, h => by simp at h
  | k :: ks, [], _, z, e, _, _ => by simp at e
  | k :: ks, t :: ts, vs, z, e, r, h => by
    obtain ⟨v, vs', rfl, h1, h2⟩ := r.cons_inv
    rw [List.zip_cons_cons, List.mem_cons] at h
    rcases h with rfl | h
    · exact ⟨t, by simp, h1⟩
    · obtain ⟨t', m, q⟩ := zip_mem (by simpa using e) h2 h
      exact ⟨t', by rw [List.zip_cons_cons]; exact List.mem_cons_of_mem _ m, q⟩
theorem sim_neD {d : Nat} : Sim2 S d gNeD rNeDA := by
  intro w t u x y Q' QE Q ok r1 r2 g k
  unfold gNeD at g
  split at g
  · obtain ⟨⟨g1, g2, g3, g4⟩, q⟩ := g
    obtain ⟨p1, vs, rfl, _, h1, _, h3⟩ := r1
    obtain ⟨p2, us, rfl, _, h1', _, h3'⟩ := r2
    have l1 := h3.length
    have l2 := h3'.length
    refine ⟨p1, p2, _, _, rfl, rfl, h1, h1', by rw [List.length_zip, List.length_zip]; omega, fun z hz => ?_, kont_f ok rep_bl rfl k q⟩
    obtain ⟨t, m, rt⟩ := zip_mem g2 h3 hz
    obtain ⟨q1, q2⟩ := g4 _ m
    have hv := dlook_val (k := z.1) g3 h3'
    rw [q1] at hv
    obtain ⟨v, e1, rv⟩ := hv
    obtain ⟨rfl, fb⟩ := flat_uniq q2 rt rv
    exact ⟨e1, fb⟩
  · exact g.elim
theorem de_neD (E : Eu X S) (ha : DB X S W a ma) (hb : DB X S W b mb) : DE X S W d (.Compare a [.NotEq] [b] pos) (mBin gNeD ma mb) := by
  have h : OpR X (compareOp .NotEq) rNeDA := op_ne_dictA (by have := E.un; omega)
  exact de_cmp h (nomark _) sim_neD ha hb
theorem dt_neD (E : Eu X S) (ha : DB X S W a ma) (hb : DB X S W b mb) : DT X S W (.Compare a [.NotEq] [b] pos) (mB (mBin gNeD ma mb)) := by
  have h : OpR X (compareOp .NotEq) rNeDA := op_ne_dictA (by have := E.un; omega)
  exact dt_bin h (nomark _) sim_neD ha hb
end
end Twl

/-! TL27: the plain side: how denotations compute. -/
namespace Twl
open PySem PySem.Spec PyProof.Rows L2
section
variable {Q : T → Prop} {QB : Bool → Prop} {E : Exn → Prop}
theorem shp_int (i : Int) : (T.int i).shp = true := by
  unfold T.shp; rw [T.dat, T.pd]; rfl
theorem eqv_int (i j : Int) : (T.int i).eqv (.int j) = decide (i = j) := by
  unfold T.eqv; rw [T.pd, T.pd]
  by_cases h : i = j
  · subst h; simp [PyData.eqv]
  · simp [PyData.eqv, h]
@[simp] theorem c_gEq (i j : Int) : gEq (.int i) (.int j) Q E ↔ Q (.bl (decide (i = j))) := by
  unfold gEq gd ret; rw [eqv_int]; exact ⟨fun h => h.2, fun h => ⟨⟨shp_int i, shp_int j⟩, h⟩⟩
@[simp] theorem c_gNe (i j : Int) : gNe (.int i) (.int j) Q E ↔ Q (.bl (!decide (i = j))) := by
  unfold gNe gd ret; rw [eqv_int]; exact ⟨fun h => h.2, fun h => ⟨⟨shp_int i, shp_int j⟩, h⟩⟩
@[simp] theorem c_gRel (op : CmpOp) (i j : Int) : gRel op (.int i) (.int j) Q E ↔ Q (.bl (cI op i j)) := by
  unfold gRel gd ret; rw [T.cmp, T.rel]; exact ⟨fun h => h.2, fun h => ⟨⟨shp_int i, shp_int j, rfl⟩, h⟩⟩
@[simp] theorem c_gAdd (i j : Int) : gAdd (.int i) (.int j) Q E ↔ Q (.int (i + j)) := Iff.rfl
@[simp] theorem c_gSub (i j : Int) : gSub (.int i) (.int j) Q E ↔ Q (.int (i - j)) := ⟨fun h => h.2, fun h => ⟨trivial, h⟩⟩
@[simp] theorem c_gMod (i j : Int) : gMod (.int i) (.int j) Q E ↔ 0 < j ∧ Q (.int (i % j)) := Iff.rfl
@[simp] theorem c_gFdiv (i j : Int) : gFdiv (.int i) (.int j) Q E ↔ CDivW i j ∧ Q (.int (i / j)) := Iff.rfl
@[simp] theorem c_gMul (i j : Int) : gMul (.int i) (.int j) Q E ↔ (CMul i j ∨ CMulW i j) ∧ Q (.int (i * j)) := Iff.rfl
@[simp] theorem c_gPow (i j : Int) : gPow (.int i) (.int j) Q E ↔ CPow i j ∧ Q (.int (i ^ j.toNat)) := Iff.rfl
@[simp] theorem c_bnd {α β : Type} (m : M α) (f : α → M β) (Q : β → Prop) : bnd m f Q E ↔ m (fun a => f a Q E) E := Iff.rfl
@[simp] theorem c_ret {α : Type} (a : α) (Q : α → Prop) : ret a Q E ↔ Q a := Iff.rfl
@[simp] theorem c_gd {α : Type} (p : Prop) (m : M α) (Q : α → Prop) : gd p m Q E ↔ p ∧ m Q E := Iff.rfl
@[simp] theorem c_ofO {α β : Type} (a : α) (f : α → M β) (Q : β → Prop) : ofO (some a) f Q E ↔ f a Q E := Iff.rfl
theorem CDivW_of {i j : Int} (h : 0 < j) (h2 : j < 2 ^ 64) : CDivW i j := by
  refine ⟨h, ?_⟩
  have h3 : j.natAbs < 2 ^ 64 := by omega
  have h4 : j.natAbs ≠ 0 := by omega
  have := (Nat.log2_lt h4 (k := 64)).mpr h3
  omega
theorem CMul_r {i j : Int} (h : -(2 ^ 64) < j) (h2 : j < 2 ^ 64) : CMul i j ∨ CMulW i j := .inl (.inr ⟨h, h2⟩)
theorem CMul_l {i j : Int} (h : -(2 ^ 64) < i) (h2 : i < 2 ^ 64) : CMul i j ∨ CMulW i j := .inl (.inl ⟨h, h2⟩)
end
end Twl

/-! TL28: the plain side: what a denotation evaluates to. -/
namespace Twl
open PySem PySem.Spec PyProof.Rows L2
/-- m ends with a -/
def Ev {α : Type} (m : M α) (a : α) : Prop := ∀ (Q : α → Prop) (E : Exn → Prop), Q a → m Q E
/-- m raises x -/
def Rz {α : Type} (m : M α) (x : Exn) : Prop := ∀ (Q : α → Prop) (E : Exn → Prop), E x → m Q E
theorem Ev.ret {α : Type} (a : α) : Ev (ret a) a := fun _ _ h => h
theorem Ev.bnd {α β : Type} {m : M α} {f : α → M β} {a : α} {b : β} (h : Ev m a) (k : Ev (f a) b) : Ev (bnd m f) b := fun Q E q => h _ E (k Q E q)
theorem Rz.bnd {α β : Type} {m : M α} {f : α → M β} {x : Exn} (h : Rz m x) : Rz (Twl.bnd m f) x := fun Q E q => h _ E q
theorem Rz.bnd2 {α β : Type} {m : M α} {f : α → M β} {a : α} {x : Exn} (h : Ev m a) (k : Rz (f a) x) : Rz (Twl.bnd m f) x := fun Q E q => h _ E (k Q E q)
theorem Ev.gd {α : Type} {p : Prop} {m : M α} {a : α} (h : p) (k : Ev m a) : Ev (gd p m) a := fun Q E q => ⟨h, k Q E q⟩
theorem Rz.gd {α : Type} {p : Prop} {m : M α} {x : Exn} (h : p) (k : Rz m x) : Rz (Twl.gd p m) x := fun Q E q => ⟨h, k Q E q⟩
theorem lc_ev {g : GM} {c : Env → M Bool} {me : Env → M T} {env : Env} (p : T → Bool) (f : T → T) : ∀ {items : List T}, (∀ t ∈ items, ∃ env', g t env = some env' ∧ Ev (c env') (p t) ∧ (p t = true → Ev (me env') (f t))) → Ev (lcM g c me items env) ((items.filter p).map f)
  | [], _, Q, E, q => q
  | t :: ts, h, Q, E, q => by
    obtain ⟨env', h1, h2, h3⟩ := h t List.mem_cons_self
    have ih := lc_ev p f (items := ts) (fun u hu => h u (List.mem_cons_of_mem _ hu))
    refine ⟨env', h1, h2 _ E ?_⟩
    cases hp : p t with
    | true =>
      rw [if_pos rfl]
      refine h3 hp _ E (ih _ E ?_)
      simpa [List.filter_cons, hp] using q
    | false =>
      rw [if_neg Bool.false_ne_true]
      refine ih _ E ?_
      simpa [List.filter_cons, hp] using q
theorem mLc_ev {mi : Env → M (List T)} {g : GM} {c : Env → M Bool} {me : Env → M T} {vs : List Nat} {env : Env} {items : List T} (p : T → Bool) (f : T → T) (hi : Ev (mi env) items)
    (h : ∀ t ∈ items, ∃ env', g t (wipeE env vs) = some env' ∧ Ev (c env') (p t) ∧ (p t = true → Ev (me env') (f t))) : Ev (mLc mi g c me vs env) (.lst ((items.filter p).map f)) :=
  Ev.bnd hi (Ev.bnd (a := (items.filter p).map f) (fun Q E q => lc_ev p f h Q _ q) (Ev.ret _))
theorem cutL_map {α β : Type} (f : α → β) (xs : List α) (lo hi : Option Int) : cutL (xs.map f) lo hi = (cutL xs lo hi).map f := by
  unfold cutL
  rw [List.length_map, List.map_take, List.map_drop]
end Twl

/-! TL29: the plain side: rules for denotations. -/
namespace Twl
open PySem PySem.Spec PyProof.Rows L2
/-- every end of m is in P -/
def Nd {α : Type} (m : M α) (P : α → Prop) : Prop := ∀ (Q : α → Prop) (E : Exn → Prop), (∀ a, P a → Q a) → m Q E
theorem Ev.nd {α : Type} {m : M α} {a : α} {P : α → Prop} (h : Ev m a) (p : P a) : Nd m P := fun Q E k => h Q E (k a p)
theorem Nd.ev {α : Type} {m : M α} {a : α} (h : Nd m (· = a)) : Ev m a := fun Q E q => h Q E fun _ e => e ▸ q
theorem Nd.bnd {α β : Type} {m : M α} {f : α → M β} {P : α → Prop} {R : β → Prop} (h : Nd m P) (k : ∀ a, P a → Nd (f a) R) : Nd (bnd m f) R := fun Q E q => h _ E fun a pa => k a pa Q E q
theorem Nd.imp {α : Type} {m : M α} {P R : α → Prop} (h : Nd m P) (k : ∀ a, P a → R a) : Nd m R := fun Q E q => h Q E fun a pa => q a (k a pa)
theorem Ev.bndN {α β : Type} {m : M α} {f : α → M β} {a : α} {R : β → Prop} (h : Ev m a) (k : Nd (f a) R) : Nd (Twl.bnd m f) R := fun Q E q => h _ E (k Q E q)
theorem Nd.gd {α : Type} {p : Prop} {m : M α} {P : α → Prop} (h : p) (k : Nd m P) : Nd (gd p m) P := fun Q E q => ⟨h, k Q E q⟩
theorem Nd.ret {α : Type} {a : α} {P : α → Prop} (h : P a) : Nd (ret a) P := fun Q E q => q a h
section
variable {D : EndT} {env : Env} {a b m : SM} {c : Env → M Bool} {me mi : Env → M T} {t : T} {i d : Nat} {mas : Env → M (List T)} {ts : List T}
theorem i_seq (h : a { D with nx := b D } env) : sSeq a b D env := h
theorem i_nil (h : D.nx env) : sNil D env := h
theorem i_set (h : Ev (me env) t) (k : D.nx (env.set i (.va d t))) : sSet i d me D env := h _ _ k
theorem i_setN {P : T → Prop} (h : Nd (me env) P) (k : ∀ t, P t → D.nx (env.set i (.va d t))) : sSet i d me D env := h _ _ k
theorem i_drop (h : Ev (me env) t) (k : D.nx env) : sDrop me D env := h _ _ k
theorem i_dropX {x : Exn} (h : Rz (me env) x) (k : D.ex x) : sDrop me D env := h _ _ k
theorem i_ret (h : Ev (me env) t) (k : D.rt env t) : sRet me D env := h _ _ k
theorem i_retN {P : T → Prop} (h : Nd (me env) P) (k : ∀ t, P t → D.rt env t) : sRet me D env := h _ _ k
theorem i_if {v : Bool} (h : Ev (c env) v) (k1 : v = true → a D env) (k2 : v = false → b D env) : sIf c a b D env := h _ _ (by
  cases v with
  | true => exact (if_pos rfl).mpr (k1 rfl)
  | false => exact (if_neg Bool.false_ne_true).mpr (k2 rfl))
theorem i_par {is ds : List Nat} (h : Ev (mas env) ts) (k : D.nx (setAll is ds ts env)) : sPar is ds mas D env := h _ _ k
theorem i_parN {is ds : List Nat} {P : List T → Prop} (h : Nd (mas env) P) (k : ∀ ts, P ts → D.nx (setAll is ds ts env)) : sPar is ds mas D env := h _ _ k
theorem i_asg {g : GM} {env' : Env} (h : Ev (me env) t) (hg : g t env = some env') (k : D.nx env') : sAsg g me D env := h _ _ ⟨env', hg, k⟩
theorem i_frz {d : Nat} (h : env[i]? = some (.va d t)) (k : D.nx (env.set i (.va 0 t))) : sFrz i D env := ⟨d, t, h, k⟩
theorem i_app {ts : List T} (h : env[i]? = some (.va 1 (.lst ts))) (ha : Ev (me env) t) (hz : ts.length < sizeLine) (k : D.nx (env.set i (.va 1 (.lst (ts ++ [t]))))) : sMt i fApp (mCons me mNil) D env :=
  ⟨ts, h, ha _ _ ⟨hz, k⟩⟩
theorem i_ext {us : List T} (h : env[i]? = some (.va 1 (.lst ts))) (ha : Ev (me env) (.lst us)) (hz : ts.length + us.length ≤ sizeLine) (k : D.nx (env.set i (.va 1 (.lst (ts ++ us))))) : sMt i fExt (mCons me mNil) D env :=
  ⟨ts, h, ha _ _ ⟨hz, k⟩⟩
theorem i_popSet {j : Nat} (h : env[i]? = some (.va 1 (.lst (ts ++ [t])))) (k : D.nx ((env.set i (.va 1 (.lst ts))).set j (.va 0 t))) : sSetMt j i fPop mNil D env := by
  refine ⟨_, h, ?_⟩
  show ofO _ _ _ _
  have e : (ts ++ [t])[(ts ++ [t]).length - 1]? = some t := by simp
  rw [e]
  show D.nx _
  simpa using k
/-- a for loop by an invariant on the number of turns -/
theorem i_for {mi : Env → M (List T)} {g : GM} {items : List T} (P : Nat → Env → Prop) (hi : Ev (mi env) items) (h0 : P 0 env)
    (step : ∀ (i : Nat) (t : T) (env : Env) (D' : EndT), items[i]? = some t → P i env → D'.rt = D.rt → D'.ex = D.ex → D'.bk = D.nx → (∀ e, P (i + 1) e → D'.nx e) → (∀ e, P (i + 1) e → D'.ct e) → ∃ env', g t env = some env' ∧ m D' env')
    (done : ∀ env, P items.length env → D.nx env) : sFor mi g m D env := by
  refine hi _ _ ?_
  have key : ∀ (n i : Nat) (env : Env), items.length - i = n → i ≤ items.length → P i env → frL g m (items.drop i) D env := by
    intro n
    induction n with
    | zero =>
      intro i env hn hl hp
      obtain rfl : i = items.length := by omega
      rw [List.drop_length]
      exact done env hp
    | succ n ih =>
      intro i env hn hl hp
      obtain ⟨t, e1, e2⟩ := drop_step (items := items) (i := i) (by omega)
      rw [e2]
      exact step i t env _ e1 hp rfl rfl rfl (fun e he => ih (i + 1) e (by omega) (by omega) he) (fun e he => ih (i + 1) e (by omega) (by omega) he)
  have := key items.length 0 env (by omega) (Nat.zero_le _) h0
  simpa using this
/-- a while loop by an invariant with a measure -/
theorem i_while (P : Nat → Env → Prop) {n0 : Nat} (h0 : P n0 env)
    (step : ∀ (n : Nat) (env : Env), P n env → ∃ v, Ev (c env) v ∧ (v = false → D.nx env) ∧ (v = true → ∀ D' : EndT, D'.rt = D.rt → D'.ex = D.ex → D'.bk = D.nx → (∀ k e, k < n → P k e → D'.nx e) → (∀ k e, k < n → P k e → D'.ct e) → m D' env)) : sWhile c m D env := by
  have key : ∀ (n k : Nat) (env : Env), k < n → P k env → wh c m n D env := by
    intro n
    induction n with
    | zero => intro k env h; omega
    | succ n ih =>
      intro k env h hp
      obtain ⟨v, h1, h2, h3⟩ := step k env hp
      refine h1 _ _ ?_
      cases v with
      | true => exact (if_pos rfl).mpr (h3 rfl _ rfl rfl rfl (fun j e hj he => ih j e (by omega) he) (fun j e hj he => ih j e (by omega) he))
      | false => exact (if_neg Bool.false_ne_true).mpr (h2 rfl)
  exact ⟨n0 + 1, key _ n0 env (Nat.lt_succ_self _) h0⟩
theorem e_var (h : env[i]? = some (.va 0 t)) : Ev (mVar i env) t := fun Q E q => ⟨t, h, q⟩
theorem e_varB (h : env[i]? = some (.va d t)) (hd : d ≤ 1) : Ev (mVarB i env) t := fun Q E q => ⟨d, t, h, hd, q⟩
theorem e_con : Ev (mCon t env) t := Ev.ret t
theorem e_nil : Ev (mNil env) [] := Ev.ret _
theorem e_cons (h : Ev (me env) t) (k : Ev (mas env) ts) : Ev (mCons me mas env) (t :: ts) := Ev.bnd h (Ev.bnd k (Ev.ret _))
theorem e_bin {g : T → T → M T} {ma mb : Env → M T} {x y z : T} (h : Ev (ma env) x) (k : Ev (mb env) y) (r : Ev (g x y) z) : Ev (mBin g ma mb env) z := Ev.bnd h (Ev.bnd k r)
theorem e_un {g : T → M T} {x z : T} (h : Ev (me env) x) (r : Ev (g x) z) : Ev (mUn g me env) z := Ev.bnd h r
theorem e_call {g : List T → M T} {z : T} (h : Ev (mas env) ts) (r : Ev (g ts) z) : Ev (mCall g mas env) z := Ev.bnd h r
theorem e_arg {g : List T → M (List T)} {z : List T} (h : Ev (mas env) ts) (r : Ev (g ts) z) : Ev (mArg g mas env) z := Ev.bnd h r
theorem e_ucall {n : Nat} {den : List T → M T} {z : T} (h : Ev (mas env) ts) (hn : ts.length = n) (r : Ev (den ts) z) : Ev ((fun env => bnd (mas env) fun ts => gd (ts.length = n) (den ts)) env) z := Ev.bnd h (Ev.gd hn r)
theorem x_ucall {n : Nat} {den : List T → M T} {x : Exn} (h : Ev (mas env) ts) (hn : ts.length = n) (r : Rz (den ts) x) : Rz ((fun env => bnd (mas env) fun ts => gd (ts.length = n) (den ts)) env) x := Rz.bnd2 h (Rz.gd hn r)
theorem n_ucall {n : Nat} {den : List T → M T} {P : T → Prop} (h : Ev (mas env) ts) (hn : ts.length = n) (r : Nd (den ts) P) : Nd ((fun env => bnd (mas env) fun ts => gd (ts.length = n) (den ts)) env) P := Ev.bndN h (Nd.gd hn r)
theorem e_tup (h : Ev (mas env) ts) (hz : ts.length ≤ sizeLine) : Ev (mTup mas env) (.tup ts) := Ev.bnd h (Ev.gd hz (Ev.ret _))
theorem e_lst (h : Ev (mas env) ts) (hz : ts.length ≤ sizeLine) : Ev (mLst mas env) (.lst ts) := Ev.bnd h (Ev.gd hz (Ev.ret _))
theorem e_if {v : Bool} {ma mb : Env → M T} {z : T} (h : Ev (c env) v) (k1 : v = true → Ev (ma env) z) (k2 : v = false → Ev (mb env) z) : Ev (mIf c ma mb env) z := fun Q E q => h _ _ (by
  cases v with
  | true => exact (if_pos rfl).mpr (k1 rfl Q E q)
  | false => exact (if_neg Bool.false_ne_true).mpr (k2 rfl Q E q))
theorem b_val {v : Bool} (h : Ev (me env) (.bl v)) : Ev (mB me env) v := fun Q E q => h _ _ ⟨v, rfl, q⟩
theorem b_not {v : Bool} (h : Ev (c env) v) : Ev (mNot c env) (!v) := fun Q E q => h _ _ q
theorem b_and {v u : Bool} {c2 : Env → M Bool} (h : Ev (c env) v) (k : v = true → Ev (c2 env) u) : Ev (mAnd c c2 env) (v && u) := fun Q E q => h _ _ (by
  cases v with
  | true => exact (if_pos rfl).mpr (k rfl Q E (by simpa using q))
  | false => exact (if_neg Bool.false_ne_true).mpr (by simpa using q))
theorem b_or {v u : Bool} {c2 : Env → M Bool} (h : Ev (c env) v) (k : v = false → Ev (c2 env) u) : Ev (mOr c c2 env) (v || u) := fun Q E q => h _ _ (by
  cases v with
  | true => exact (if_pos rfl).mpr (by simpa using q)
  | false => exact (if_neg Bool.false_ne_true).mpr (k rfl Q E (by simpa using q)))
theorem v_and {v u : Bool} {ma mb : Env → M T} (h : Ev (ma env) (.bl v)) (k : v = true → Ev (mb env) (.bl u)) : Ev (mAndV ma mb env) (.bl (v && u)) := fun Q E q => h _ _ ⟨v, rfl, by
  cases v with
  | true => exact (if_pos rfl).mpr (k rfl Q E (by simpa using q))
  | false => exact (if_neg Bool.false_ne_true).mpr (by simpa using q)⟩
theorem v_or {v u : Bool} {ma mb : Env → M T} (h : Ev (ma env) (.bl v)) (k : v = false → Ev (mb env) (.bl u)) : Ev (mOrV ma mb env) (.bl (v || u)) := fun Q E q => h _ _ ⟨v, rfl, by
  cases v with
  | true => exact (if_pos rfl).mpr (by simpa using q)
  | false => exact (if_neg Bool.false_ne_true).mpr (k rfl Q E (by simpa using q))⟩
theorem v_not {v : Bool} (h : Ev (me env) (.bl v)) : Ev (mNotV me env) (.bl (!v)) := fun Q E q => h _ _ ⟨v, rfl, q⟩
theorem v_chain {g g' : T → T → M T} {ma mb mc : Env → M T} {x y z : T} {v u : Bool} (h1 : Ev (ma env) x) (h2 : Ev (mb env) y) (h3 : Ev (g x y) (.bl v)) (h4 : v = true → Ev (mc env) z ∧ Ev (g' y z) (.bl u)) : Ev (mChain g g' ma mb mc env) (.bl (v && u)) := fun Q E q =>
  h1 _ _ (h2 _ _ (h3 _ _ ⟨v, rfl, by
    cases v with
    | true => exact (if_pos rfl).mpr ((h4 rfl).1 _ _ ((h4 rfl).2 _ _ (by simpa using q)))
    | false => exact (if_neg Bool.false_ne_true).mpr (by simpa using q)⟩))
end
end Twl

/-! TL30: the plain side: values. -/
namespace Twl
open PySem PySem.Spec PyProof.Rows L2
theorem e_isi {t : T} {m n : String} {b : Bool} (h : t.tyn = some m) (k : kitB m n = some b) : Ev (g2 gIsi [t, .ty n]) (.bl b) := by
  intro Q E q
  show gIsi t (.ty n) Q E
  unfold gIsi
  rw [h]
  show ofO (kitB m n) _ Q E
  rw [k]
  exact q
/-- one of the kinds of values that occur -/
def kin : T → Bool
  | .non | .bl _ | .int _ | .str _ | .tup _ | .lst _ | .dk _ _ | .dt _ _ => true
  | _ => false
def isI : T → Bool
  | .int _ => true
  | _ => false
def isTup : T → Bool
  | .tup _ => true
  | _ => false
theorem e_isTup {t : T} (h : kin t = true) : Ev (g2 gIsi [t, .ty "tuple"]) (.bl (isTup t)) := by
  cases t with
  | non => exact e_isi (m := "NoneType") rfl rfl
  | bl b => exact e_isi (m := "bool") rfl rfl
  | int i => exact e_isi (m := "int") rfl rfl
  | str x => exact e_isi (m := "str") rfl rfl
  | tup ts => exact e_isi (m := "tuple") rfl rfl
  | lst ts => exact e_isi (m := "list") rfl rfl
  | dk ks ts => exact e_isi (m := "dict") rfl rfl
  | dt ks ts => exact e_isi (m := "dict") rfl rfl
  | _ => cases h
theorem e_rel {op : CmpOp} (i j : Int) : Ev (gRel op (.int i) (.int j)) (.bl (cI op i j)) := fun Q E q => (c_gRel op i j).mpr q
theorem e_eqI (i j : Int) : Ev (gEq (.int i) (.int j)) (.bl (decide (i = j))) := fun Q E q => (c_gEq i j).mpr q
theorem e_neI (i j : Int) : Ev (gNe (.int i) (.int j)) (.bl (!decide (i = j))) := fun Q E q => (c_gNe i j).mpr q
theorem e_addI (i j : Int) : Ev (gAdd (.int i) (.int j)) (.int (i + j)) := fun Q E q => q
theorem e_subI (i j : Int) : Ev (gSub (.int i) (.int j)) (.int (i - j)) := fun Q E q => ⟨trivial, q⟩
theorem e_lenL (ts : List T) : Ev (g1 gLen [.lst ts]) (.int ts.length) := fun Q E q => q
theorem e_lenT (ts : List T) : Ev (g1 gLen [.tup ts]) (.int ts.length) := fun Q E q => q
theorem bls_map : ∀ bs : List Bool, T.bls (bs.map T.bl) = some bs
  | [] => rfl
  | b :: bs => by simp [T.bls, bls_map bs]
theorem e_all (bs : List Bool) : Ev (g1 gAll [.lst (bs.map T.bl)]) (.bl (bs.all id)) := fun Q E q => by
  show ofO (T.bls (bs.map T.bl)) _ Q E
  rw [bls_map]
  exact q
theorem e_any (bs : List Bool) : Ev (g1 gAny [.lst (bs.map T.bl)]) (.bl (bs.any id)) := fun Q E q => by
  show ofO (T.bls (bs.map T.bl)) _ Q E
  rw [bls_map]
  exact q
theorem e_tupleL (ts : List T) : Ev (g1 gTuple [.lst ts]) (.tup ts) := fun Q E q => by
  first | exact q | exact ⟨trivial, q⟩ | (show gTuple (.lst ts) Q E; unfold gTuple; simpa [T.its, ofO, ret, gd] using q)
section
variable {env : Env} {me : Env → M T} {ts us : List T} {mas : Env → M (List T)}
theorem e_srcT (h : Ev (me env) (.tup ts)) : Ev (mSrc me env) ts := Ev.bnd h fun Q E q => ⟨(fun x e => nomatch e), q⟩
theorem e_srcL (h : Ev (me env) (.lst ts)) : Ev (mSrc me env) ts := Ev.bnd h fun Q E q => ⟨(fun x e => nomatch e), q⟩
theorem e_zpT (h : Ev (mas env) [.tup ts, .tup us]) : Ev (mArg gZp mas env) (zpT ts us) := Ev.bnd h fun Q E q => ⟨⟨(fun x e => nomatch e), (fun x e => nomatch e)⟩, q⟩
theorem e_zpL (h : Ev (mas env) [.lst ts, .lst us]) : Ev (mArg gZp mas env) (zpT ts us) := Ev.bnd h fun Q E q => ⟨⟨(fun x e => nomatch e), (fun x e => nomatch e)⟩, q⟩
theorem cutL_1 {α : Type} (xs : List α) : cutL xs (some 1) none = xs.drop 1 := by
  unfold cutL HT.sIx
  cases xs with
  | nil => rfl
  | cons x xs => simp
theorem e_sl1T (h : Ev (me env) (.tup ts)) : Ev (mSl me (mPart (mCon (.int 1))) mNoPart env) (.tup (ts.drop 1)) := Ev.bnd h (Ev.bnd (a := some 1) (fun Q E q => ⟨1, rfl, q⟩) (Ev.bnd (Ev.ret none) (by rw [← cutL_1]; exact Ev.ret _)))
theorem e_sl1L (h : Ev (me env) (.lst ts)) : Ev (mSl me (mPart (mCon (.int 1))) mNoPart env) (.lst (ts.drop 1)) := Ev.bnd h (Ev.bnd (a := some 1) (fun Q E q => ⟨1, rfl, q⟩) (Ev.bnd (Ev.ret none) (by rw [← cutL_1]; exact Ev.ret _)))
theorem e_ixT {i : Nat} {t : T} (h : ts[i]? = some t) : Ev (gIx (.tup ts) (.int i)) t := fun Q E q => by
  have hl := (List.getElem?_eq_some_iff.mp h).1
  have e : ixN ts.length (i : Int) = some i := by unfold ixN; simp [hl]
  show ofO (atI ts (i : Int)) ret Q E
  unfold atI
  rw [e]
  show ofO ts[i]? ret Q E
  rw [h]
  exact q
theorem e_ixL {i : Nat} {t : T} (h : ts[i]? = some t) : Ev (gIx (.lst ts) (.int i)) t := fun Q E q => by
  have hl := (List.getElem?_eq_some_iff.mp h).1
  have e : ixN ts.length (i : Int) = some i := by unfold ixN; simp [hl]
  show ofO (atI ts (i : Int)) ret Q E
  unfold atI
  rw [e]
  show ofO ts[i]? ret Q E
  rw [h]
  exact q
theorem mLc_map {mi : Env → M (List T)} {g : GM} {vs : List Nat} {items : List T} (f : T → T) (hi : Ev (mi env) items) (h : ∀ t ∈ items, ∃ env', g t (wipeE env vs) = some env' ∧ Ev (me env') (f t)) : Ev (mLc mi g (fun _ => ret true) me vs env) (.lst (items.map f)) := by
  have := mLc_ev (vs := vs) (me := me) (c := fun _ => ret true) (fun _ => true) f hi fun t ht => by
    obtain ⟨env', h1, h2⟩ := h t ht
    exact ⟨env', h1, Ev.ret true, fun _ => h2⟩
  rwa [List.filter_eq_self.mpr (fun _ _ => rfl)] at this
/-- all of a comprehension of tests -/
theorem e_allLc {mi : Env → M (List T)} {g : GM} {vs : List Nat} {items : List T} (f : T → Bool) (hi : Ev (mi env) items) (h : ∀ t ∈ items, ∃ env', g t (wipeE env vs) = some env' ∧ Ev (me env') (.bl (f t))) : Ev (mCall (g1 gAll) (mCons (mLc mi g (fun _ => ret true) me vs) mNil) env) (.bl (items.all f)) := by
  have e : (items.map fun t => T.bl (f t)) = (items.map f).map T.bl := by rw [List.map_map]; rfl
  have h1 := mLc_map (fun t => T.bl (f t)) hi h
  rw [e] at h1
  have h2 := e_all (items.map f)
  rw [List.all_map] at h2
  exact e_call (e_cons h1 e_nil) h2
end
mutual
/-- only kinds of values that occur, all the way down -/
def T.kn : T → Bool
  | .non => true
  | .bl _ => true
  | .int _ => true
  | .str _ => true
  | .tup ts => T.kns ts
  | .lst ts => T.kns ts
  | .dk _ _ => true
  | .dt _ _ => true
  | _ => false
termination_by structural t => t
def T.kns : List T → Bool
  | [] => true
  | t :: ts => T.kn t && T.kns ts
termination_by structural ts => ts
end
theorem T.kn.kin {t : T} (h : t.kn = true) : kin t = true := by
  cases t <;> first | rfl | (simp [T.kn] at h)
theorem T.kns_mem : ∀ {ts : List T}, T.kns ts = true → ∀ t ∈ ts, t.kn = true
  | [], _, t, h => by simp at h
  | u :: ts, k, t, h => by
    rw [T.kns, Bool.and_eq_true] at k
    rcases List.mem_cons.mp h with rfl | h
    · exact k.1
    · exact T.kns_mem k.2 t h
def ascI (ns : List Int) : Bool := (ns.zip (ns.drop 1)).all fun p => decide (p.1 < p.2)
theorem zpT_ints : ∀ (ns ms : List Int), zpT (ns.map T.int) (ms.map T.int) = (ns.zip ms).map fun p => T.tup [.int p.1, .int p.2]
  | [], _ => by simp [zpT]
  | _ :: _, [] => by simp [zpT]
  | n :: ns, m :: ms => by simp [zpT, zpT_ints ns ms]
def wthn (t : T) (lo hi : Int) : Bool := match t with
  | .int i => decide (lo ≤ i) && decide (i ≤ hi)
  | _ => false
def inI (lo hi : Int) (ns : List Int) : Bool := ns.all fun i => decide (lo ≤ i) && decide (i ≤ hi)
theorem wthn_ints : ∀ {ts : List T} {lo hi : Int}, ts.all (fun t => wthn t lo hi) = true → ∃ ns, ts = ns.map T.int ∧ inI lo hi ns = true
  | [], _, _, _ => ⟨[], rfl, rfl⟩
  | t :: ts, lo, hi, h => by
    rw [List.all_cons, Bool.and_eq_true] at h
    obtain ⟨ns, e, k⟩ := wthn_ints h.2
    cases t with
    | int i => exact ⟨i :: ns, by rw [e]; rfl, by unfold inI; rw [List.all_cons]; exact Bool.and_eq_true_iff.mpr ⟨h.1, k⟩⟩
    | _ => exact absurd h.1 (by simp [wthn])
theorem ints_wthn {lo hi : Int} (ns : List Int) : (ns.map T.int).all (fun t => wthn t lo hi) = inI lo hi ns := by
  rw [List.all_map]; rfl
/-- a lot: ints in order, from 0 below many -/
def lotB (t : T) (many : Int) : Bool := match t with
  | .tup ts => (match T.ints ts with
    | some ns => inI 0 (many - 1) ns && ascI ns
    | none => false)
  | _ => false
theorem ints_inv : ∀ {ts : List T} {ns : List Int}, T.ints ts = some ns → ts = ns.map T.int
  | [], ns, h => by simp [T.ints] at h; subst h; rfl
  | t :: ts, ns, h => by
    cases t with
    | int i =>
      simp only [T.ints, Option.map_eq_some_iff] at h
      obtain ⟨ms, h1, rfl⟩ := h
      rw [ints_inv h1]; rfl
    | _ => simp [T.ints] at h
theorem lotB_ints (ns : List Int) (many : Int) : lotB (.tup (ns.map T.int)) many = (inI 0 (many - 1) ns && ascI ns) := by
  simp only [lotB, ints_map]
theorem lotB_no {ts : List T} {many : Int} (h : ts.all (fun u => wthn u 0 (many - 1)) = false) : lotB (.tup ts) many = false := by
  cases e : T.ints ts with
  | none => simp only [lotB, e]
  | some ns =>
    have := ints_inv e
    subst this
    rw [ints_wthn] at h
    rw [lotB_ints, h]; rfl
theorem isTup_inv {t : T} (h : isTup t = true) : ∃ ts, t = .tup ts := by cases t <;> first | exact ⟨_, rfl⟩ | cases h
theorem kns_kin {ts : List T} (h : (T.tup ts).kn = true) : ∀ u ∈ ts, kin u = true := fun u hu => T.kn.kin (T.kns_mem (by simpa [T.kn] using h) u hu)
end Twl

/-! TL31: the plain side: pairs, ties, webs. -/
namespace Twl
open PySem PySem.Spec PyProof.Rows L2
def encP (p : Int × Int) : T := .tup [.int p.1, .int p.2]
def ltP2 (p q : Int × Int) : Bool := if p.1 = q.1 then decide (p.2 < q.2) else decide (p.1 < q.1)
theorem encP_shp (p : Int × Int) : (encP p).shp = true := by
  unfold T.shp encP
  simp only [T.dat, T.dats, T.pd, T.pds]
  rfl
theorem e_ltP (p q : Int × Int) : Ev (gRel .Lt (encP p) (encP q)) (.bl (ltP2 p q)) := fun Q E k => by
  refine ⟨⟨encP_shp p, encP_shp q, ?_⟩, ?_⟩
  · simp [encP, T.cmp, T.cmps]
  · have e : T.rel .Lt (encP p) (encP q) = ltP2 p q := by
      unfold encP ltP2
      simp only [T.rel, T.rels, eqv_int, cI]
      by_cases h1 : p.1 = q.1
      · by_cases h2 : p.2 = q.2
        · simp [h1, h2]
        · simp [h1, h2]
      · simp [h1]
    show Q _
    rw [e]
    exact k
def sizedB (t : T) (lo hi : Int) : Bool := match t with
  | .tup ts => decide (lo ≤ (ts.length : Int)) && decide ((ts.length : Int) ≤ hi)
  | _ => false
def okP (n : Int) (p : Int × Int) : Bool := decide (0 ≤ p.1) && decide (p.1 < p.2) && decide (p.2 ≤ n - 1)
theorem pair_of {u : T} {n : Int} (h : (sizedB u 2 2 && lotB u n) = true) : ∃ p, u = encP p ∧ okP n p = true := by
  rw [Bool.and_eq_true] at h
  obtain ⟨h1, h2⟩ := h
  cases u with
  | tup ts =>
    cases e : T.ints ts with
    | none => simp [lotB, e] at h2
    | some ns =>
      have := ints_inv e
      subst this
      rw [lotB_ints] at h2
      simp only [sizedB, List.length_map, Bool.and_eq_true, decide_eq_true_eq] at h1
      match ns, h1, h2 with
      | [a, b], _, h2 =>
        refine ⟨(a, b), rfl, ?_⟩
        simp [inI, ascI] at h2
        simp [okP]
        omega
      | [], h1, _ => simp at h1
      | [_], h1, _ => simp at h1
      | _ :: _ :: _ :: _, h1, _ => simp at h1; omega
  | _ => cases h1
theorem okP_iff (n : Int) (p : Int × Int) : (sizedB (encP p) 2 2 && lotB (encP p) n) = okP n p := by
  have : encP p = .tup ([p.1, p.2].map T.int) := rfl
  rw [this, lotB_ints]
  simp only [sizedB, inI, ascI, okP]
  simp
  by_cases h1 : 0 ≤ p.1 <;> by_cases h2 : p.1 < p.2 <;> by_cases h3 : p.2 ≤ n - 1 <;> simp [h1, h2, h3] <;> omega
theorem pairs_of {n : Int} : ∀ {ts : List T}, ts.all (fun u => sizedB u 2 2 && lotB u n) = true → ∃ ps : List (Int × Int), ts = ps.map encP ∧ ps.all (okP n) = true
  | [], _ => ⟨[], rfl, rfl⟩
  | t :: ts, h => by
    rw [List.all_cons, Bool.and_eq_true] at h
    obtain ⟨p, rfl, hp⟩ := pair_of h.1
    obtain ⟨ps, rfl, hps⟩ := pairs_of h.2
    exact ⟨p :: ps, rfl, by rw [List.all_cons, hp, hps]; rfl⟩
theorem all_pairs {n : Int} (ps : List (Int × Int)) : (ps.map encP).all (fun u => sizedB u 2 2 && lotB u n) = ps.all (okP n) := by
  rw [List.all_map]
  congr 1
  funext p
  exact okP_iff n p
def ascP (ps : List (Int × Int)) : Bool := (ps.zip (ps.drop 1)).all fun z => ltP2 z.1 z.2
theorem zpT_map {α : Type} (f : α → T) : ∀ (xs ys : List α), zpT (xs.map f) (ys.map f) = (xs.zip ys).map fun z => T.tup [f z.1, f z.2]
  | [], _ => by simp [zpT]
  | _ :: _, [] => by simp [zpT]
  | x :: xs, y :: ys => by simp [zpT, zpT_map f xs ys]
/-- the ties of a web on n places -/
def tiesB (n : Int) (t : T) : Prop := ∃ ps, t = .tup (ps.map encP) ∧ ps.all (okP n) = true ∧ ascP ps = true
end Twl

/-! TL32: the plain side: rows of places, filled tie by tie. -/
namespace Twl
open PySem PySem.Spec PyProof.Rows L2
def encR (xs : List Int) : T := .lst (xs.map T.int)
def encRs (xss : List (List Int)) : T := .lst (xss.map encR)
def app1 (xss : List (List Int)) (a : Nat) (b : Int) : List (List Int) := xss.set a ((xss[a]?.getD []) ++ [b])
def addT (xss : List (List Int)) (p : Int × Int) : List (List Int) := app1 (app1 xss p.1.toNat p.2) p.2.toNat p.1
def rowsOf (n : Nat) (ps : List (Int × Int)) : List (List Int) := ps.foldl addT (List.replicate n [])
def nearS (n : Nat) (ps : List (Int × Int)) : List (List Int) := (rowsOf n ps).map sortI
theorem app1_len (xss : List (List Int)) (a : Nat) (b : Int) : (app1 xss a b).length = xss.length := by simp [app1]
theorem addT_len (xss : List (List Int)) (p : Int × Int) : (addT xss p).length = xss.length := by simp [addT, app1_len]
theorem app1_row {xss : List (List Int)} {a : Nat} {b : Int} {m : Nat} (h : ∀ xs ∈ xss, xs.length ≤ m) : ∀ xs ∈ app1 xss a b, xs.length ≤ m + 1 := by
  intro xs hx
  unfold app1 at hx
  rcases List.mem_or_eq_of_mem_set hx with hx | rfl
  · exact Nat.le_succ_of_le (h xs hx)
  · cases e : xss[a]? with
    | none => simp
    | some ys =>
      have := h ys (List.mem_of_getElem? e)
      simp
      exact this
theorem addT_row {xss : List (List Int)} {p : Int × Int} {m : Nat} (h : ∀ xs ∈ xss, xs.length ≤ m) : ∀ xs ∈ addT xss p, xs.length ≤ m + 2 := app1_row (app1_row h)
section
variable {D : EndT} {env : Env} {mi me : Env → M T}
theorem i_mtR {i : Nat} {a : Nat} {b : Int} {xss : List (List Int)} {z : Nat} (h : env[i]? = some (.va 2 (encRs xss))) (hi : Ev (mi env) (.int a)) (ha : a < xss.length) (hm : Ev (me env) (.int b)) (hr : ∀ xs ∈ xss, xs.length ≤ z) (hz : z < sizeLine)
    (k : D.nx (env.set i (.va 2 (encRs (app1 xss a b))))) : sMt2 i mi fApp (mCons me mNil) D env := by
  obtain ⟨xs, hx⟩ : ∃ xs, xss[a]? = some xs := ⟨xss[a], List.getElem?_eq_getElem ha⟩
  refine ⟨xss.map encR, h, ?_⟩
  refine hi _ _ ⟨(a : Int), a, xs.map T.int, rfl, ?_, ?_, ?_⟩
  · unfold ixN
    rw [List.length_map]
    simp
    omega
  · rw [List.getElem?_map, hx]; rfl
  · refine (e_cons hm e_nil) _ _ ?_
    refine ⟨?_, ?_⟩
    · rw [List.length_map]
      exact Nat.lt_of_le_of_lt (hr xs (List.mem_of_getElem? hx)) hz
    · show D.nx _
      have e : encRs (app1 xss a b) = .lst ((xss.map encR).set a (.lst (xs.map T.int ++ [T.int b]))) := by
        unfold encRs app1
        rw [hx]
        simp [List.map_set, encR]
      rw [e] at k
      exact k
theorem e_sortedR (xs : List Int) : Ev (g1 gSorted [encR xs]) (encR (sortI xs)) := fun Q E q => by
  show ofO (T.ints (xs.map T.int)) _ Q E
  have : T.ints (xs.map T.int) = some xs := by
    have := ints_map xs
    exact this
  rw [this]
  exact q
end
end Twl

/-! TL33: pieces of a graph: two ways to walk it find the same pieces. -/
namespace Twl
open PySem PySem.Spec PyProof.Rows L2
def nb (near : List (List Int)) (v : Int) : List Int := near[v.toNat]?.getD []
inductive Rch (near : List (List Int)) (s : Int) : Int → Prop where
  | refl : Rch near s s
  | step {v u : Int} : Rch near s v → u ∈ nb near v → Rch near s u
theorem Rch.sub {near : List (List Int)} {s v : Int} {L : List Int} (h : Rch near s v) (hs : s ∈ L) (hc : ∀ v ∈ L, ∀ u ∈ nb near v, u ∈ L) : v ∈ L := by
  induction h with
  | refl => exact hs
  | step _ hu ih => exact hc _ ih _ hu
theorem sortI_eq {A B : List Int} (h : A.Perm B) : sortI A = sortI B := by
  exact sort_uniq ((sortI_perm A).trans (h.trans (sortI_perm B).symm)) (sortI_le A) (sortI_le B)
/-- a whole piece: found from s, each place once -/
structure Lot (near : List (List Int)) (s : Int) (L : List Int) : Prop where
  nd : L.Nodup
  mem : ∀ v, v ∈ L ↔ Rch near s v
theorem Lot.eq {near : List (List Int)} {s : Int} {A B : List Int} (a : Lot near s A) (b : Lot near s B) : sortI A = sortI B :=
  sortI_eq ((List.perm_ext_iff_of_nodup a.nd b.nd).mpr fun v => (a.mem v).trans (b.mem v).symm)
/-- the pieces of what is left -/
inductive Pcs (near : List (List Int)) : List Int → List (List Int) → Prop where
  | nil : Pcs near [] []
  | cons {s : Int} {r L : List Int} {ps : List (List Int)} : Lot near s L → Pcs near ((s :: r).filter fun v => !decide (v ∈ L)) ps → Pcs near (s :: r) (sortI L :: ps)
theorem Pcs.eq {near : List (List Int)} {left : List Int} {a b : List (List Int)} (h : Pcs near left a) (k : Pcs near left b) : a = b := by
  induction h generalizing b with
  | nil => cases k; rfl
  | @cons _ _ L1 _ l1 h1 ih =>
    cases k with
    | cons l2 h2 =>
      rw [l1.eq l2]
      congr 1
      refine ih ?_
      rename_i L2 _ 
      have e : (fun v => !decide (v ∈ L1)) = fun v => !decide (v ∈ L2) := funext fun v => by rw [decide_eq_decide.mpr ((l1.mem v).trans (l2.mem v).symm)]
      rw [e]
      exact h2
/-- what a walk in width keeps -/
structure Wid (near : List (List Int)) (s : Int) (L : List Int) (at_ : Nat) : Prop where
  nd : L.Nodup
  hs : s ∈ L
  le : at_ ≤ L.length
  rch : ∀ v ∈ L, Rch near s v
  cl : ∀ j v, j < at_ → L[j]? = some v → ∀ u ∈ nb near v, u ∈ L
theorem Wid.start (near : List (List Int)) (s : Int) : Wid near s [s] 0 := ⟨by simp, by simp, by simp, fun v hv => by simp at hv; subst hv; exact .refl, fun j v hj => by omega⟩
theorem Wid.step {near : List (List Int)} {s v : Int} {L : List Int} {i : Nat} (h : Wid near s L i) (hv : L[i]? = some v) (hn : (nb near v).Nodup) : Wid near s (L ++ (nb near v).filter fun u => !decide (u ∈ L)) (i + 1) := by
  have hi : i < L.length := (List.getElem?_eq_some_iff.mp hv).1
  refine ⟨?_, List.mem_append_left _ h.hs, ?_, ?_, ?_⟩
  · refine List.nodup_append.mpr ⟨h.nd, hn.filter _, ?_⟩
    intro a ha b hb e
    subst e
    simp at hb
    exact hb.2 ha
  · simp; omega
  · intro u hu
    rcases List.mem_append.mp hu with hu | hu
    · exact h.rch u hu
    · simp at hu
      exact .step (h.rch v (List.mem_of_getElem? hv)) hu.1
  · intro j w hj hw u hu
    by_cases hji : j < i
    · rw [List.getElem?_append_left (by omega)] at hw
      exact List.mem_append_left _ (h.cl j w hji hw u hu)
    · obtain rfl : j = i := by omega
      rw [List.getElem?_append_left (by omega), hv] at hw
      cases hw
      by_cases hm : u ∈ L
      · exact List.mem_append_left _ hm
      · exact List.mem_append_right _ (by simp [hu, hm])
theorem Wid.lot {near : List (List Int)} {s : Int} {L : List Int} (h : Wid near s L L.length) : Lot near s L := by
  refine ⟨h.nd, fun v => ⟨h.rch v, fun r => r.sub h.hs fun v hv u hu => ?_⟩⟩
  obtain ⟨j, hj, e⟩ := List.getElem_of_mem hv
  exact h.cl j v hj (by rw [List.getElem?_eq_getElem hj, e]) u hu
/-- what a walk in depth keeps: found, and still to see -/
structure Dep (near : List (List Int)) (s : Int) (L W : List Int) : Prop where
  nd : L.Nodup
  hs : s ∈ L ∨ s ∈ W
  rch : ∀ v, v ∈ L ∨ v ∈ W → Rch near s v
  cl : ∀ v ∈ L, ∀ u ∈ nb near v, u ∈ L ∨ u ∈ W
theorem Dep.start (near : List (List Int)) (s : Int) : Dep near s [] [s] := ⟨by simp, by simp, fun v hv => by simp at hv; subst hv; exact .refl, fun v hv => by simp at hv⟩
theorem Dep.skip {near : List (List Int)} {s v : Int} {L W : List Int} (h : Dep near s L (W ++ [v])) (hv : v ∈ L) : Dep near s L W := by
  have key : ∀ u, u ∈ L ∨ u ∈ W ++ [v] → u ∈ L ∨ u ∈ W := by
    intro u hu
    simp at hu
    rcases hu with hu | hu | rfl
    · exact .inl hu
    · exact .inr hu
    · exact .inl hv
  exact ⟨h.nd, key s h.hs, fun u hu => h.rch u (by simp; exact hu.elim .inl fun x => .inr (.inl x)), fun w hw u hu => key u (h.cl w hw u hu)⟩
theorem Dep.take {near : List (List Int)} {s v : Int} {L W : List Int} (h : Dep near s L (W ++ [v])) (hv : v ∉ L) : Dep near s (L ++ [v]) (W ++ nb near v) := by
  have key : ∀ u, u ∈ L ∨ u ∈ W ++ [v] → u ∈ L ++ [v] ∨ u ∈ W ++ nb near v := by
    intro u hu
    simp at hu ⊢
    rcases hu with hu | hu | hu
    · exact .inl (.inl hu)
    · exact .inr (.inl hu)
    · exact .inl (.inr hu)
  refine ⟨?_, key s h.hs, ?_, ?_⟩
  · refine List.nodup_append.mpr ⟨h.nd, by simp, ?_⟩
    intro a ha b hb e
    simp at hb
    subst hb e
    exact hv ha
  · intro u hu
    simp at hu
    rcases hu with (hu | rfl) | hu | hu
    · exact h.rch u (.inl hu)
    · exact h.rch u (.inr (by simp))
    · exact h.rch u (.inr (by simp [hu]))
    · exact .step (h.rch v (.inr (by simp))) hu
  · intro w hw u hu
    rcases List.mem_append.mp hw with hw | hw
    · exact key u (h.cl w hw u hu)
    · simp at hw
      subst hw
      exact .inr (List.mem_append_right _ hu)
theorem Dep.lot {near : List (List Int)} {s : Int} {L : List Int} (h : Dep near s L []) : Lot near s L := by
  have hs : s ∈ L := by simpa using h.hs
  exact ⟨h.nd, fun v => ⟨fun hv => h.rch v (.inl hv), fun r => r.sub hs fun v hv u hu => by simpa using h.cl v hv u hu⟩⟩
end Twl

/-! TL34: rows within bounds; pieces exist. -/
namespace Twl
open PySem PySem.Spec PyProof.Rows L2
/-- rows of a graph on n places -/
structure Gr (n : Nat) (near : List (List Int)) : Prop where
  len : near.length = n
  nd : ∀ xs ∈ near, xs.Nodup
  bd : ∀ xs ∈ near, ∀ u ∈ xs, 0 ≤ u ∧ u < n
def rngI (n : Nat) : List Int := (List.range n).map fun (i : Nat) => (i : Int)
theorem rngI_mem {n : Nat} {v : Int} : v ∈ rngI n ↔ 0 ≤ v ∧ v < n := by
  simp only [rngI, List.mem_map, List.mem_range]
  constructor
  · rintro ⟨i, h, rfl⟩; omega
  · rintro ⟨h1, h2⟩; exact ⟨v.toNat, by omega, by omega⟩
theorem rngI_nd (n : Nat) : (rngI n).Nodup := by
  have h : (List.range n).Nodup := List.nodup_range
  unfold rngI
  rw [List.Nodup, List.pairwise_map]
  exact h.imp fun hne => by omega
theorem nb_mem {near : List (List Int)} {v u : Int} (h : u ∈ nb near v) : nb near v ∈ near := by
  unfold nb at h ⊢
  cases e : near[v.toNat]? with
  | none => rw [e] at h; simp at h
  | some xs => exact List.mem_of_getElem? e
theorem Gr.nbnd {n : Nat} {near : List (List Int)} (g : Gr n near) (v : Int) : (nb near v).Nodup := by
  unfold nb
  cases e : near[v.toNat]? with
  | none => simp
  | some xs => exact g.nd xs (List.mem_of_getElem? e)
theorem Gr.rch {n : Nat} {near : List (List Int)} (g : Gr n near) {s v : Int} (hs : 0 ≤ s ∧ s < n) (h : Rch near s v) : 0 ≤ v ∧ v < n := by
  cases h with
  | refl => exact hs
  | step _ hu => exact g.bd _ (nb_mem hu) _ hu
open Classical in
theorem Gr.lot {n : Nat} {near : List (List Int)} (g : Gr n near) {s : Int} (hs : 0 ≤ s ∧ s < n) : ∃ L, Lot near s L := by
  refine ⟨(rngI n).filter fun v => decide (Rch near s v), (rngI_nd n).filter _, fun v => ?_⟩
  rw [List.mem_filter, decide_eq_true_eq, rngI_mem]
  exact ⟨fun h => h.2, fun h => ⟨g.rch hs h, h⟩⟩
theorem Gr.pcs {n : Nat} {near : List (List Int)} (g : Gr n near) : ∀ (k : Nat) (left : List Int), left.length ≤ k → (∀ v ∈ left, 0 ≤ v ∧ v < n) → ∃ fs, Pcs near left fs
  | _, [], _, _ => ⟨[], .nil⟩
  | 0, _ :: _, h, _ => by simp at h
  | k + 1, s :: r, h, hb => by
    obtain ⟨L, hL⟩ := g.lot (hb s (by simp))
    have hs : s ∈ L := (hL.mem s).mpr .refl
    obtain ⟨ps, hp⟩ := g.pcs k ((s :: r).filter fun v => !decide (v ∈ L)) (by
      simp only [List.filter_cons, hs, decide_true, Bool.not_true]
      have := List.length_filter_le (fun v => !decide (v ∈ L)) r
      simp at h
      simp
      omega) (fun v hv => hb v (List.mem_filter.mp hv).1)
    exact ⟨_, .cons hL hp⟩
theorem sub_len : ∀ {L M : List Int}, L.Nodup → (∀ v ∈ L, v ∈ M) → L.length ≤ M.length
  | [], M, _, _ => Nat.zero_le _
  | x :: L, M, h, hs => by
    have hx : x ∈ M := hs x (by simp)
    rw [List.nodup_cons] at h
    have := sub_len (L := L) (M := M.erase x) h.2 fun v hv => by
      have hne : v ≠ x := fun e => h.1 (e ▸ hv)
      exact (List.mem_erase_of_ne hne).mpr (hs v (List.mem_cons_of_mem _ hv))
    rw [List.length_erase_of_mem hx] at this
    have : 0 < M.length := List.length_pos_of_mem hx
    simp
    omega
theorem nodup_len {n : Nat} {L : List Int} (h : L.Nodup) (hb : ∀ v ∈ L, 0 ≤ v ∧ v < n) : L.length ≤ n := by
  have : L.length ≤ (rngI n).length := sub_len h fun v hv => rngI_mem.mpr (hb v hv)
  simpa [rngI] using this
/-- the rows as they stand after the ties in ps -/
def Rw (n : Nat) (ps : List (Int × Int)) (rows : List (List Int)) : Prop :=
  rows.length = n ∧ (∀ xs ∈ rows, xs.Nodup) ∧ ∀ (v : Nat) (xs : List Int), rows[v]? = some xs → ∀ u, u ∈ xs ↔ ((v : Int), u) ∈ ps ∨ (u, (v : Int)) ∈ ps
end Twl

/-! TL35: the rows of a web are a graph. -/
namespace Twl
open PySem PySem.Spec PyProof.Rows L2
theorem app1_at {xss : List (List Int)} {a : Nat} {b : Int} {xs : List Int} (h : xss[a]? = some xs) : (app1 xss a b)[a]? = some (xs ++ [b]) := by
  have hl : a < xss.length := (List.getElem?_eq_some_iff.mp h).1
  unfold app1
  rw [List.getElem?_set_self hl, h]
  rfl
theorem app1_ne {xss : List (List Int)} {a v : Nat} {b : Int} (h : a ≠ v) : (app1 xss a b)[v]? = xss[v]? := by
  unfold app1
  exact List.getElem?_set_ne h
theorem Rw.step {n : Nat} {ps : List (Int × Int)} {rows : List (List Int)} {a b : Nat} (h : Rw n ps rows) (ha : a < b) (hb : b < n) (h1 : ((a : Int), (b : Int)) ∉ ps) (h2 : ((b : Int), (a : Int)) ∉ ps) : Rw n (ps ++ [((a : Int), (b : Int))]) (addT rows ((a : Int), (b : Int))) := by
  obtain ⟨hl, hn, hm⟩ := h
  have ea : rows[a]? = some rows[a] := List.getElem?_eq_getElem (by omega)
  have eb : rows[b]? = some rows[b] := List.getElem?_eq_getElem (by omega)
  have ga : (addT rows ((a : Int), (b : Int)))[a]? = some (rows[a] ++ [(b : Int)]) := by
    unfold addT
    simp only [Int.toNat_natCast]
    rw [app1_ne (by omega)]
    exact app1_at ea
  have gb : (addT rows ((a : Int), (b : Int)))[b]? = some (rows[b] ++ [(a : Int)]) := by
    unfold addT
    simp only [Int.toNat_natCast]
    exact app1_at (by rw [app1_ne (by omega)]; exact eb)
  have go : ∀ v, v ≠ a → v ≠ b → (addT rows ((a : Int), (b : Int)))[v]? = rows[v]? := by
    intro v h3 h4
    unfold addT
    simp only [Int.toNat_natCast]
    rw [app1_ne (Ne.symm h4), app1_ne (Ne.symm h3)]
  have key : ∀ (v : Nat) (xs : List Int), (addT rows ((a : Int), (b : Int)))[v]? = some xs → xs.Nodup ∧ ∀ u, u ∈ xs ↔ ((v : Int), u) ∈ ps ++ [((a : Int), (b : Int))] ∨ (u, (v : Int)) ∈ ps ++ [((a : Int), (b : Int))] := by
    intro v xs hv
    by_cases h3 : v = a
    · subst h3
      rw [ga] at hv
      cases hv
      have m := hm v _ ea
      refine ⟨List.nodup_append.mpr ⟨hn _ (List.mem_of_getElem? ea), by simp, ?_⟩, fun u => ?_⟩
      · intro x hx y hy e
        simp at hy
        subst hy e
        exact ((m _).mp hx).elim h1 h2
      · simp only [List.mem_append, List.mem_singleton, Prod.mk.injEq, m u]
        constructor
        · rintro ((h | h) | h)
          · exact .inl (.inl h)
          · exact .inr (.inl h)
          · exact .inl (.inr ⟨trivial, h⟩)
        · rintro ((h | h) | (h | h))
          · exact .inl (.inl h)
          · exact .inr h.2
          · exact .inl (.inr h)
          · omega
    · by_cases h4 : v = b
      · subst h4
        rw [gb] at hv
        cases hv
        have m := hm v _ eb
        refine ⟨List.nodup_append.mpr ⟨hn _ (List.mem_of_getElem? eb), by simp, ?_⟩, fun u => ?_⟩
        · intro x hx y hy e
          simp at hy
          subst hy e
          exact ((m _).mp hx).elim h2 h1
        · simp only [List.mem_append, List.mem_singleton, Prod.mk.injEq, m u]
          constructor
          · rintro ((h | h) | h)
            · exact .inl (.inl h)
            · exact .inr (.inl h)
            · exact .inr (.inr ⟨h, trivial⟩)
          · rintro ((h | h) | (h | h))
            · exact .inl (.inl h)
            · omega
            · exact .inl (.inr h)
            · exact .inr h.1
      · rw [go v h3 h4] at hv
        refine ⟨hn _ (List.mem_of_getElem? hv), fun u => ?_⟩
        simp only [List.mem_append, List.mem_singleton, Prod.mk.injEq, hm v _ hv u]
        constructor
        · rintro (h | h)
          · exact .inl (.inl h)
          · exact .inr (.inl h)
        · rintro ((h | h) | (h | h))
          · exact .inl h
          · omega
          · exact .inr h
          · omega
  refine ⟨by rw [addT_len, hl], fun xs hx => ?_, fun v xs hv => (key v xs hv).2⟩
  obtain ⟨v, hv, e⟩ := List.getElem_of_mem hx
  exact (key v xs (by rw [List.getElem?_eq_getElem hv, e])).1
end Twl

/-! TL36: ties that rise; the rows of a web are a graph. -/
namespace Twl
open PySem PySem.Spec PyProof.Rows L2
theorem ltP2_iff (p q : Int × Int) : ltP2 p q = true ↔ p.1 < q.1 ∨ (p.1 = q.1 ∧ p.2 < q.2) := by
  unfold ltP2
  by_cases h : p.1 = q.1
  · simp [h]
  · simp [h]
theorem ascP_pw : ∀ {ps : List (Int × Int)}, ascP ps = true → ps.Pairwise fun p q => ltP2 p q = true
  | [], _ => .nil
  | [p], _ => by simp
  | p :: q :: r, h => by
    have h1 : ltP2 p q = true ∧ ascP (q :: r) = true := by simpa [ascP] using h
    have ih := ascP_pw h1.2
    refine List.pairwise_cons.mpr ⟨fun z hz => ?_, ih⟩
    rcases List.mem_cons.mp hz with rfl | hz
    · exact h1.1
    · have h2 := (List.pairwise_cons.mp ih).1 z hz
      have h1 := h1.1
      rw [ltP2_iff] at *
      omega
theorem okP_iff2 {n : Int} {p : Int × Int} : okP n p = true ↔ 0 ≤ p.1 ∧ p.1 < p.2 ∧ p.2 ≤ n - 1 := by
  simp [okP, and_assoc]
theorem ties_len {n : Nat} {ps : List (Int × Int)} (h8 : n ≤ 8) (ho : ps.all (okP n) = true) (ha : ascP ps = true) : ps.length ≤ 64 := by
  have hp := ascP_pw ha
  have hok : ∀ p ∈ ps, 0 ≤ p.1 ∧ p.1 < p.2 ∧ p.2 ≤ (n : Int) - 1 := fun p h => okP_iff2.mp (List.all_eq_true.mp ho p h)
  have : (ps.map fun p => p.1 * 8 + p.2).length ≤ 64 := by
    refine nodup_len ?_ ?_
    · rw [List.Nodup, List.pairwise_map]
      refine hp.imp_of_mem ?_
      intro p q m1 m2 hl
      have := hok p m1
      have := hok q m2
      rw [ltP2_iff] at hl
      omega
    · intro v hv
      obtain ⟨p, m, rfl⟩ := List.mem_map.mp hv
      have := hok p m
      omega
  simpa using this
theorem rows_Rw {n : Nat} : ∀ {ps : List (Int × Int)} (qs : List (Int × Int)) (rows : List (List Int)), (∀ p ∈ qs ++ ps, okP n p = true) → (qs ++ ps).Pairwise (fun p q => ltP2 p q = true) → Rw n qs rows → Rw n (qs ++ ps) (ps.foldl addT rows)
  | [], qs, rows, _, _, h => by simpa using h
  | p :: ps, qs, rows, ho, ha, h => by
    have hok := okP_iff2.mp (ho p (by simp))
    obtain ⟨a, b⟩ := p
    obtain ⟨x, rfl⟩ := Int.eq_ofNat_of_zero_le (a := a) (by simp at hok; omega)
    obtain ⟨y, rfl⟩ := Int.eq_ofNat_of_zero_le (a := b) (by simp at hok; omega)
    have hlt : ∀ q ∈ qs, ltP2 q ((x : Int), (y : Int)) = true := fun q hq => (List.pairwise_append.mp ha).2.2 q hq _ (by simp)
    simp at hok
    have e : qs ++ ((x : Int), (y : Int)) :: ps = (qs ++ [((x : Int), (y : Int))]) ++ ps := by simp
    rw [e] at ho ha ⊢
    refine rows_Rw _ _ ho ha (h.step (by omega) (by omega) (fun m => ?_) (fun m => ?_))
    · have := hlt _ m
      rw [ltP2_iff] at this
      simp at this
    · have := okP_iff2.mp (ho _ (List.mem_append_left _ (List.mem_append_left _ m)))
      simp at this
      omega
theorem Rw.nil (n : Nat) : Rw n [] (List.replicate n []) := by
  refine ⟨by simp, fun xs h => ?_, fun v xs h u => ?_⟩
  · rw [(List.mem_replicate.mp h).2]; exact List.nodup_nil
  · have := (List.mem_replicate.mp (List.mem_of_getElem? h)).2
    subst this
    simp
theorem near_Gr {n : Nat} {ps : List (Int × Int)} (ho : ps.all (okP n) = true) (ha : ascP ps = true) : Gr n (nearS n ps) := by
  have hok : ∀ p ∈ ps, okP n p = true := List.all_eq_true.mp ho
  have h : Rw n ps (rowsOf n ps) := by
    have := rows_Rw (ps := ps) [] (List.replicate n []) (by simpa using hok) (by simpa using ascP_pw ha) (Rw.nil n)
    unfold rowsOf
    simpa using this
  obtain ⟨h1, h2, h3⟩ := h
  refine ⟨by simp [nearS, h1], fun xs hx => ?_, fun xs hx u hu => ?_⟩
  · obtain ⟨ys, hy, rfl⟩ := List.mem_map.mp hx
    exact (sortI_perm ys).nodup_iff.mpr (h2 ys hy)
  · obtain ⟨ys, hy, rfl⟩ := List.mem_map.mp hx
    have hu := (sortI_perm ys).mem_iff.mp hu
    obtain ⟨v, hv, e⟩ := List.getElem_of_mem hy
    rcases (h3 v ys (by rw [List.getElem?_eq_getElem hv, e]) u).mp hu with m | m
    · have := okP_iff2.mp (hok _ m)
      simp at this
      omega
    · have := okP_iff2.mp (hok _ m)
      simp at this
      omega
end Twl

/-! TL37: the plain side: lists of ints. -/
namespace Twl
open PySem PySem.Spec PyProof.Rows L2
open PySem.PyData
theorem dats_ints : ∀ ns : List Int, T.dats (ns.map T.int) = true
  | [] => rfl
  | n :: ns => by
    simp only [List.map_cons, T.dats, T.dat, dats_ints ns]
    rfl
theorem isIn_ints (x : Int) : ∀ L : List Int, T.isIn (.int x) (L.map T.int) = decide (x ∈ L)
  | [] => by simp [T.isIn]
  | y :: L => by
    have ih := isIn_ints x L
    unfold T.isIn at ih ⊢
    rw [List.map_cons, List.any_cons, ih, eqv_int]
    by_cases h : x = y
    · subst h; simp
    · have h2 : ¬ y = x := fun e => h e.symm
      simp [h, h2]
theorem ints_shp (ns : List Int) : (T.lst (ns.map T.int)).shp = true := by
  unfold T.shp
  simp only [T.dat, T.pd, dats_ints, Bool.true_and]
  have h1 : ∀ ns : List Int, canLayAll0 (T.pds (ns.map T.int)) = true := by
    intro ns
    induction ns with
    | nil => rfl
    | cons n ns ih => simp only [List.map_cons, T.pds, T.pd, canLayAll0, ih, canLay0]; rfl
  have h2 : ∀ ns : List Int, depthAll (T.pds (ns.map T.int)) ≤ 2 := by
    intro ns
    induction ns with
    | nil => simp [T.pds, depthAll]
    | cons n ns ih => simp only [List.map_cons, T.pds, T.pd, depthAll, depth]; omega
  have h3 := h2 ns
  show (canLay0 (.list (T.pds (ns.map T.int))) && decide (depth (.list (T.pds (ns.map T.int))) ≤ 64)) = true
  have e1 : canLay0 (.list (T.pds (ns.map T.int))) = true := by rw [canLay0]; exact h1 ns
  have e2 : depth (.list (T.pds (ns.map T.int))) ≤ 64 := by rw [depth]; omega
  rw [e1, Bool.true_and]
  exact decide_eq_true e2
theorem e_notInI (x : Int) (L : List Int) : Ev (gNotIn (.int x) (.lst (L.map T.int))) (.bl (!decide (x ∈ L))) := by
  refine Ev.bnd (a := decide (x ∈ L)) (fun Q E q => ?_) (Ev.ret _)
  refine ⟨⟨shp_int x, ints_shp L⟩, ?_⟩
  rw [isIn_ints]
  exact q
section
variable {env : Env} {mi me : Env → M T}
/-- [x for x in L if x not in K] -/
theorem e_without {ms : Env → M (List T)} {i j : Nat} {L K : List Int} (hs : Ev (ms env) (L.map T.int)) (h : ∀ x : Int, ∃ env', (gN i) (.int x) (wipeE env [i]) = some env' ∧ env'[i]? = some (.va 0 (.int x)) ∧ ∃ d, d ≤ 1 ∧ env'[j]? = some (.va d (.lst (K.map T.int)))) :
    Ev (mLc ms (gN i) (mB (mBin gNotIn (mVarB i) (mVarB j))) (mVar i) [i] env) (.lst ((L.filter fun x => !decide (x ∈ K)).map T.int)) := by
  have := mLc_ev (vs := [i]) (g := gN i) (c := mB (mBin gNotIn (mVarB i) (mVarB j))) (me := mVar i) (fun t => match t with | .int x => !decide (x ∈ K) | _ => false) (fun t => t) hs fun t ht => by
    obtain ⟨x, _, rfl⟩ := List.mem_map.mp ht
    obtain ⟨env', h1, h2, d, h3, h4⟩ := h x
    exact ⟨env', h1, b_val (e_bin (e_varB h2 (Nat.zero_le 1)) (e_varB h4 h3) (e_notInI x K)), fun _ => e_var h2⟩
  rw [List.map_id', List.filter_map] at this
  exact this
end
end Twl

/-! TL38: the plain side: a comprehension whose tests are drawn. -/
namespace Twl
open PySem PySem.Spec PyProof.Rows L2
theorem lc_nd {g : GM} {c : Env → M Bool} {me : Env → M T} {env : Env} (f : T → T) : ∀ {items : List T}, (∀ t ∈ items, ∃ env', g t env = some env' ∧ Nd (c env') (fun _ => True) ∧ Ev (me env') (f t)) → Nd (lcM g c me items env) (fun us => ∃ zs : List T, zs.Sublist items ∧ us = zs.map f)
  | [], _, Q, E, q => q [] ⟨[], List.Sublist.refl _, rfl⟩
  | t :: ts, h, Q, E, q => by
    obtain ⟨env', h1, h2, h3⟩ := h t List.mem_cons_self
    have ih := lc_nd f (items := ts) (fun u hu => h u (List.mem_cons_of_mem _ hu))
    refine ⟨env', h1, h2 _ E fun b _ => ?_⟩
    cases b with
    | false => exact (if_neg Bool.false_ne_true).mpr (ih Q E fun us ⟨zs, hz, e⟩ => q us ⟨zs, hz.cons _, e⟩)
    | true => exact (if_pos rfl).mpr (h3 _ E (ih _ E fun us ⟨zs, hz, e⟩ => q _ ⟨t :: zs, hz.cons₂ _, by rw [e]; rfl⟩))
end Twl

/-! TL39: ties drawn row by row rise. -/
namespace Twl
open PySem PySem.Spec PyProof.Rows L2
theorem pw_ascP : ∀ {ps : List (Int × Int)}, (ps.Pairwise fun p q => ltP2 p q = true) → ascP ps = true
  | [], _ => rfl
  | [p], _ => rfl
  | p :: q :: r, h => by
    have h1 := (List.pairwise_cons.mp h).1 q (by simp)
    have ih := pw_ascP (List.pairwise_cons.mp h).2
    have e : ascP (p :: q :: r) = (ltP2 p q && ascP (q :: r)) := by simp [ascP]
    rw [e, h1, ih]
    rfl
/-- what the rows below i have given -/
structure Up (n : Nat) (i : Nat) (ps : List (Int × Int)) : Prop where
  ok : ∀ p ∈ ps, 0 ≤ p.1 ∧ p.1 < p.2 ∧ p.2 ≤ (n : Int) - 1
  lt : ∀ p ∈ ps, p.1 < i
  pw : ps.Pairwise fun p q => ltP2 p q = true
theorem Up.step {n i : Nat} {ps : List (Int × Int)} {js : List Int} (h : Up n i ps) (hb : ∀ j ∈ js, (i : Int) < j ∧ j ≤ (n : Int) - 1) (hj : js.Pairwise (· < ·)) : Up n (i + 1) (ps ++ js.map fun j => ((i : Int), j)) := by
  refine ⟨fun p hp => ?_, fun p hp => ?_, List.pairwise_append.mpr ⟨h.pw, ?_, fun p hp q hq => ?_⟩⟩
  · rcases List.mem_append.mp hp with hp | hp
    · exact h.ok p hp
    · obtain ⟨j, m, rfl⟩ := List.mem_map.mp hp
      have := hb j m
      exact ⟨by simp, this.1, this.2⟩
  · rcases List.mem_append.mp hp with hp | hp
    · have := h.lt p hp
      omega
    · obtain ⟨j, m, rfl⟩ := List.mem_map.mp hp
      simp
      omega
  · rw [List.pairwise_map]
    refine hj.imp ?_
    intro a b hl
    exact (ltP2_iff _ _).mpr (.inr ⟨rfl, hl⟩)
  · obtain ⟨j, m, rfl⟩ := List.mem_map.mp hq
    exact (ltP2_iff _ _).mpr (.inl (h.lt p hp))
end Twl

/-! TL40: the plain side: values that are equal to themselves. -/
namespace Twl
open PySem PySem.Spec PyProof.Rows L2
open PySem.PyData
/-- data of a depth -/
structure Sh (k : Nat) (t : T) : Prop where
  d : t.dat = true
  l : canLay0 t.pd = true
  h : depth t.pd ≤ k
theorem Sh.shp {k : Nat} {t : T} (s : Sh k t) (hk : k ≤ 64 := by decide) : t.shp = true := by
  unfold T.shp SeqAt.shaped
  rw [s.d, s.l, Bool.true_and, Bool.true_and]
  exact decide_eq_true (Nat.le_trans s.h hk)
theorem Sh.int (i : Int) : Sh 0 (.int i) := ⟨rfl, rfl, Nat.le_refl _⟩
theorem Sh.bl (b : Bool) : Sh 0 (.bl b) := ⟨rfl, rfl, Nat.le_refl _⟩
theorem Sh.non : Sh 0 .non := ⟨rfl, rfl, Nat.le_refl _⟩
theorem Sh.str {x : Str} (h : strOk x = true) : Sh 0 (.str x) := ⟨rfl, h, Nat.le_refl _⟩
theorem Sh.mono {j k : Nat} {t : T} (s : Sh j t) (h : j ≤ k) : Sh k t := ⟨s.d, s.l, Nat.le_trans s.h h⟩
theorem sh_all {k : Nat} : ∀ {ts : List T}, (∀ t ∈ ts, Sh k t) → T.dats ts = true ∧ canLayAll0 (T.pds ts) = true ∧ depthAll (T.pds ts) ≤ k
  | [], _ => ⟨rfl, rfl, by simp [T.pds, depthAll]⟩
  | t :: ts, h => by
    obtain ⟨a, b, c⟩ := sh_all (ts := ts) fun u hu => h u (List.mem_cons_of_mem _ hu)
    have s := h t List.mem_cons_self
    refine ⟨?_, ?_, ?_⟩
    · rw [T.dats, s.d, a]; rfl
    · rw [T.pds, canLayAll0, s.l, b]; rfl
    · rw [T.pds, depthAll]
      have := s.h
      omega
theorem Sh.tup {k : Nat} {ts : List T} (h : ∀ t ∈ ts, Sh k t) : Sh (k + 1) (.tup ts) := by
  obtain ⟨a, b, c⟩ := sh_all h
  refine ⟨by rw [T.dat]; exact a, by rw [T.pd, canLay0]; exact b, ?_⟩
  rw [T.pd, depth]
  omega
theorem Sh.lst {k : Nat} {ts : List T} (h : ∀ t ∈ ts, Sh k t) : Sh (k + 1) (.lst ts) := by
  obtain ⟨a, b, c⟩ := sh_all h
  refine ⟨by rw [T.dat]; exact a, by rw [T.pd, canLay0]; exact b, ?_⟩
  rw [T.pd, depth]
  omega
theorem Sh.ints (ns : List Int) : ∀ t ∈ ns.map T.int, Sh 0 t := fun t h => by
  obtain ⟨n, _, rfl⟩ := List.mem_map.mp h
  exact .int n
theorem Sh.eqv {k : Nat} {t : T} (s : Sh k t) : t.eqv t = true := SeqAt.eqv_refl _ s.l
theorem e_eqS {k : Nat} {t : T} (s : Sh k t) (hk : k ≤ 64 := by decide) : Ev (gEq t t) (.bl true) := fun Q E q => ⟨⟨s.shp hk, s.shp hk⟩, by rw [s.eqv]; exact q⟩
theorem e_neS {k : Nat} {t : T} (s : Sh k t) (hk : k ≤ 64 := by decide) : Ev (gNe t t) (.bl false) := fun Q E q => ⟨⟨s.shp hk, s.shp hk⟩, by rw [s.eqv]; exact q⟩
theorem e_eqX {k : Nat} {t u : T} (s : Sh k t) (s2 : Sh k u) (hk : k ≤ 64 := by decide) : Ev (gEq t u) (.bl (t.eqv u)) := fun Q E q => ⟨⟨s.shp hk, s2.shp hk⟩, q⟩
theorem e_neX {k : Nat} {t u : T} (s : Sh k t) (s2 : Sh k u) (hk : k ≤ 64 := by decide) : Ev (gNe t u) (.bl (!t.eqv u)) := fun Q E q => ⟨⟨s.shp hk, s2.shp hk⟩, q⟩
theorem e_eqB (a b : Bool) : Ev (gEq (.bl a) (.bl b)) (.bl (decide (a = b))) := fun Q E q => ⟨⟨(Sh.bl a).shp, (Sh.bl b).shp⟩, by cases a <;> cases b <;> exact q⟩
theorem e_neB (a b : Bool) : Ev (gNe (.bl a) (.bl b)) (.bl (!decide (a = b))) := fun Q E q => ⟨⟨(Sh.bl a).shp, (Sh.bl b).shp⟩, by cases a <;> cases b <;> exact q⟩
theorem e_isNotB (a b : Bool) : Ev (gIsNot (.bl a) (.bl b)) (.bl (!decide (a = b))) := fun Q E q => q
theorem e_isB (a b : Bool) : Ev (gIs (.bl a) (.bl b)) (.bl (decide (a = b))) := fun Q E q => q
theorem e_sumI (ns : List Int) : Ev (g1 gSum [.lst (ns.map T.int)]) (.int ns.sum) := fun Q E q => by
  show ofO (T.ints (ns.map T.int)) _ Q E
  rw [ints_map]
  exact q
end Twl

/-! TL41: the plain side: drawn values, rules. -/
namespace Twl
open PySem PySem.Spec PyProof.Rows L2
section
variable {env : Env} {ma mb me : Env → M T} {mas : Env → M (List T)} {x y t : T} {P R : T → Prop} {L : List T → Prop}
theorem n_binR {g : T → T → M T} (h : Ev (ma env) x) (k : Nd (mb env) P) (r : ∀ y, P y → Nd (g x y) R) : Nd (mBin g ma mb env) R := Ev.bndN h (Nd.bnd k r)
theorem n_binL {g : T → T → M T} (h : Nd (ma env) P) (k : Ev (mb env) y) (r : ∀ x, P x → Nd (g x y) R) : Nd (mBin g ma mb env) R := Nd.bnd h fun x hx => Ev.bndN k (r x hx)
theorem n_cons (h : Nd (me env) P) (k : Nd (mas env) L) : Nd (mCons me mas env) (fun ts => ∃ t us, ts = t :: us ∧ P t ∧ L us) := Nd.bnd h fun t ht => Nd.bnd k fun us hu => Nd.ret ⟨t, us, rfl, ht, hu⟩
theorem n_nil : Nd (mNil env) (fun ts => ts = []) := Nd.ret rfl
theorem n_one (h : Nd (me env) P) : Nd (mCons me mNil env) (fun ts => ∃ t, ts = [t] ∧ P t) := (n_cons h n_nil).imp fun ts ⟨t, us, e, p, q⟩ => ⟨t, by rw [e, q], p⟩
theorem n_two {P2 : T → Prop} {me2 : Env → M T} (h : Nd (me env) P) (k : Nd (me2 env) P2) : Nd (mCons me (mCons me2 mNil) env) (fun ts => ∃ t u, ts = [t, u] ∧ P t ∧ P2 u) := (n_cons h (n_one k)).imp fun ts ⟨t, us, e, p, u, q, r⟩ => ⟨t, u, by rw [e, q], p, r⟩
theorem n_call {g : List T → M T} (h : Nd (mas env) L) (r : ∀ ts, L ts → Nd (g ts) R) : Nd (mCall g mas env) R := Nd.bnd h r
theorem n_arg {g : List T → M (List T)} {L2 : List T → Prop} (h : Nd (mas env) L) (r : ∀ ts, L ts → Nd (g ts) L2) : Nd (mArg g mas env) L2 := Nd.bnd h r
theorem n_tup {z : Nat} (h : Nd (mas env) L) (hz : ∀ ts, L ts → ts.length ≤ sizeLine) : Nd (mTup mas env) (fun t => ∃ ts, t = .tup ts ∧ L ts) := Nd.bnd h fun ts ht => Nd.gd (hz ts ht) (Nd.ret ⟨ts, rfl, ht⟩)
theorem b_rel {g : T → T → M T} {v : Bool} (h : Ev (ma env) x) (k : Ev (mb env) y) (r : Ev (g x y) (.bl v)) : Ev (mB (mBin g ma mb) env) v := b_val (e_bin h k r)
theorem n_b {m : Env → M T} (h : Nd (m env) fun t => ∃ b, t = .bl b) : Nd (mB m env) (fun _ => True) := fun Q E q => h _ _ fun t ⟨b, e⟩ => ⟨b, e, q b trivial⟩
theorem mLc_nd {mi : Env → M (List T)} {g : GM} {c : Env → M Bool} {me : Env → M T} {vs : List Nat} {items : List T} (f : T → T) (hi : Ev (mi env) items) (h : ∀ t ∈ items, ∃ env', g t (wipeE env vs) = some env' ∧ Nd (c env') (fun _ => True) ∧ Ev (me env') (f t)) :
    Nd (mLc mi g c me vs env) (fun t => ∃ zs : List T, zs.Sublist items ∧ t = .lst (zs.map f)) :=
  Ev.bndN hi (Nd.bnd (P := fun us => ∃ zs : List T, zs.Sublist items ∧ us = zs.map f) (fun Q E q => lc_nd f h Q _ q) fun us ⟨zs, hz, e⟩ => Nd.ret ⟨zs, hz, by rw [e]⟩)
/-- a comprehension without tests whose elements are drawn -/
theorem lcE_nd {g : GM} {items : List T} (h : ∀ t ∈ items, ∃ env', g t env = some env' ∧ Nd (me env') P) : Nd (lcM g (fun _ => ret true) me items env) (fun us => us.length = items.length ∧ ∀ u ∈ us, P u) := by
  induction items with
  | nil => exact fun Q E q => q [] ⟨rfl, fun u hu => by simp at hu⟩
  | cons t ts ih =>
    intro Q E q
    obtain ⟨env', h1, h2⟩ := h t List.mem_cons_self
    refine ⟨env', h1, Ev.ret true _ E ?_⟩
    refine (if_pos rfl).mpr ?_
    refine h2 _ E fun a pa => ih (fun u hu => h u (List.mem_cons_of_mem _ hu)) _ E fun us hus => q _ ⟨by simp [hus.1], fun u hu => ?_⟩
    rcases List.mem_cons.mp hu with rfl | hu
    · exact pa
    · exact hus.2 u hu
theorem mLcE_nd {mi : Env → M (List T)} {g : GM} {vs : List Nat} (hi : Nd (mi env) L) (h : ∀ items, L items → ∀ t ∈ items, ∃ env', g t (wipeE env vs) = some env' ∧ Nd (me env') P) :
    Nd (mLc mi g (fun _ => ret true) me vs env) (fun t => ∃ us items : List T, t = .lst us ∧ L items ∧ us.length = items.length ∧ ∀ u ∈ us, P u) :=
  Nd.bnd hi fun items hl => Nd.bnd (P := fun us => us.length = items.length ∧ ∀ u ∈ us, P u) (fun Q E q => lcE_nd (h items hl) Q _ q) fun us hu => Nd.ret ⟨us, items, rfl, hl, hu.1, hu.2⟩
end
theorem irT_mem {lo : Int} {n : Nat} {t : T} (h : t ∈ irT lo n) : ∃ i : Nat, i < n ∧ t = .int (lo + i) := by
  unfold irT at h
  obtain ⟨i, hi, rfl⟩ := List.mem_map.mp h
  exact ⟨i, List.mem_range.mp hi, rfl⟩
theorem irT_get {lo : Int} {n i : Nat} {t : T} (h : (irT lo n)[i]? = some t) : i < n ∧ t = .int (lo + i) := by
  unfold irT at h
  rw [List.getElem?_map] at h
  obtain ⟨j, hj, rfl⟩ := Option.map_eq_some_iff.mp h
  obtain ⟨hl, e⟩ := List.getElem?_eq_some_iff.mp hj
  rw [List.getElem_range] at e
  subst e
  exact ⟨by simpa using hl, rfl⟩
/-- what is drawn out of a range rises -/
theorem sub_irT {lo : Int} {n : Nat} {zs : List T} (h : zs.Sublist (irT lo n)) : ∃ js : List Int, zs = js.map T.int ∧ (∀ j ∈ js, lo ≤ j ∧ j < lo + n) ∧ js.Pairwise (· < ·) := by
  obtain ⟨is, h1, rfl⟩ := List.sublist_map_iff.mp h
  refine ⟨is.map fun i => lo + (i : Nat), by rw [List.map_map]; rfl, fun j hj => ?_, ?_⟩
  · obtain ⟨i, hi, rfl⟩ := List.mem_map.mp hj
    have := List.mem_range.mp (h1.subset hi)
    omega
  · rw [List.pairwise_map]
    exact (List.Pairwise.sublist h1 List.pairwise_lt_range).imp fun hl => by omega
theorem e_rng1 {n : Nat} (hz : n < 2 ^ 20) : Ev (gRng1 [.int (n : Int)]) (irT 0 n) := fun Q E q => by
  refine ⟨⟨by omega, ?_⟩, ?_⟩
  · have : n ≤ sizeLine := by unfold sizeLine; omega
    simpa using this
  · simpa using q
theorem e_rng2 {a b : Int} (h1 : -(2 ^ 20) ≤ a ∧ a ≤ 2 ^ 20) (h2 : -(2 ^ 20) ≤ b ∧ b ≤ 2 ^ 20) : Ev (gRng2 [.int a, .int b]) (irT a (b - a).toNat) := fun Q E q => by
  refine ⟨⟨by omega, ?_⟩, q⟩
  unfold sizeLine
  omega
end Twl

/-! TL42: the plain side: ties told again, degrees together. -/
namespace Twl
open PySem PySem.Spec PyProof.Rows L2
theorem e_binL {g : T → T → M T} {env : Env} {ma mb : Env → M T} {ts : List T} {y z : T} (h : Ev (ma env) (.lst ts)) (k : Ev (mb env) y) (r : Ev (g (.lst ts) y) z) : Ev (mBinL g ma mb env) z := Ev.bnd h (Ev.gd ⟨ts, rfl⟩ (Ev.bnd k r))
theorem e_sumT (ns : List Int) : Ev (g1 gSum [.tup (ns.map T.int)]) (.int ns.sum) := fun Q E q => by
  show ofO (T.ints (ns.map T.int)) _ Q E
  rw [ints_map]
  exact q
theorem e_mulI {i j : Int} (h : -(2 ^ 64) < i) (h2 : i < 2 ^ 64) : Ev (gMul (.int i) (.int j)) (.int (i * j)) := fun Q E q => ⟨CMul_l h h2, q⟩
theorem e_negI (i : Int) : Ev (gNeg (.int i)) (.int (-i)) := fun Q E q => q
section
variable {env : Env} {mas : Env → M (List T)} {ms : Env → M (List T)} {i j : Nat} {ps : List (Int × Int)}
/-- all([one < other for one, other in zip(ties, ties[1:])]) -/
theorem e_ascP (hs : Ev (mas env) [.tup (ps.map encP), .tup ((ps.map encP).drop 1)]) (h : ∀ p q : Int × Int, ∃ env', gTp (gsCons (gN i) (gsCons (gN j) gsNil)) (.tup [encP p, encP q]) (wipeE env [i, j]) = some env' ∧ env'[i]? = some (.va 0 (encP p)) ∧ env'[j]? = some (.va 0 (encP q))) :
    Ev (mCall (g1 gAll) (mCons (mLc (mArg gZp mas) (gTp (gsCons (gN i) (gsCons (gN j) gsNil))) (fun _ => ret true) (mBin (gRel .Lt) (mVarB i) (mVarB j)) [i, j]) mNil) env) (.bl (ascP ps)) := by
  have ea : ascP ps = ((ps.zip (ps.drop 1)).map fun z => T.tup [encP z.1, encP z.2]).all (fun z => match z with | .tup [.tup [.int a, .int b], .tup [.int c, .int d]] => ltP2 (a, b) (c, d) | _ => false) := by
    unfold ascP; rw [List.all_map]; rfl
  rw [ea]
  refine e_allLc _ ?_ fun u hu => ?_
  · have := e_zpT hs
    rw [← List.map_drop, zpT_map] at this
    exact this
  · obtain ⟨z, _, rfl⟩ := List.mem_map.mp hu
    obtain ⟨env', h1, h2, h3⟩ := h z.1 z.2
    exact ⟨env', h1, e_bin (e_varB h2 (Nat.zero_le 1)) (e_varB h3 (Nat.zero_le 1)) (e_ltP z.1 z.2)⟩
/-- all([a < b for a, b in ties]) -/
theorem e_upP (hs : Ev (ms env) (ps.map encP)) (h : ∀ p : Int × Int, ∃ env', gTp (gsCons (gN i) (gsCons (gN j) gsNil)) (encP p) (wipeE env [i, j]) = some env' ∧ env'[i]? = some (.va 0 (.int p.1)) ∧ env'[j]? = some (.va 0 (.int p.2))) :
    Ev (mCall (g1 gAll) (mCons (mLc ms (gTp (gsCons (gN i) (gsCons (gN j) gsNil))) (fun _ => ret true) (mBin (gRel .Lt) (mVarB i) (mVarB j)) [i, j]) mNil) env) (.bl (ps.all fun p => decide (p.1 < p.2))) := by
  have ea : (ps.all fun p => decide (p.1 < p.2)) = (ps.map encP).all (fun z => match z with | .tup [.int a, .int b] => decide (a < b) | _ => false) := by
    rw [List.all_map]; rfl
  rw [ea]
  refine e_allLc _ hs fun u hu => ?_
  obtain ⟨z, _, rfl⟩ := List.mem_map.mp hu
  obtain ⟨env', h1, h2, h3⟩ := h z
  exact ⟨env', h1, e_bin (e_varB h2 (Nat.zero_le 1)) (e_varB h3 (Nat.zero_le 1)) (e_rel _ _)⟩
/-- [len(some) for some in near] -/
theorem e_lens {xss : List (List Int)} (hs : Ev (ms env) (xss.map encR)) (h : ∀ xs : List Int, ∃ env', gN i (encR xs) (wipeE env [i]) = some env' ∧ env'[i]? = some (.va 0 (encR xs))) :
    Ev (mLc ms (gN i) (fun _ => ret true) (mCall (g1 gLen) (mCons (mVarB i) mNil)) [i] env) (.lst (xss.map fun xs => T.int xs.length)) := by
  have := mLc_map (vs := [i]) (g := gN i) (me := mCall (g1 gLen) (mCons (mVarB i) mNil)) (fun t => match t with | .lst ts => .int ts.length | _ => t) hs fun t ht => by
    obtain ⟨xs, _, rfl⟩ := List.mem_map.mp ht
    obtain ⟨env', h1, h2⟩ := h xs
    exact ⟨env', h1, e_call (e_cons (e_varB h2 (Nat.zero_le 1)) e_nil) (e_lenL _)⟩
  rw [List.map_map] at this
  have e : xss.map ((fun t => match t with | T.lst ts => T.int ts.length | _ => t) ∘ encR) = xss.map fun xs => T.int xs.length := by
    apply List.map_congr_left
    intro xs _
    simp [encR]
  rw [e] at this
  exact this
end
/-! ### degrees together are twice the ties -/
def lenS (xss : List (List Int)) : Int := (xss.map fun xs => (xs.length : Int)).sum
theorem app1_sum : ∀ (xss : List (List Int)) (a : Nat) (b : Int), a < xss.length → lenS (app1 xss a b) = lenS xss + 1
  | [], a, b, h => by simp at h
  | x :: xss, 0, b, _ => by simp [app1, lenS]; omega
  | x :: xss, a + 1, b, h => by
    have := app1_sum xss a b (by simpa using h)
    simp [app1, lenS] at this ⊢
    omega
theorem rows_sum {n : Nat} : ∀ (ps : List (Int × Int)) (xss : List (List Int)), ps.all (okP n) = true → xss.length = n → lenS (ps.foldl addT xss) = lenS xss + 2 * ps.length
  | [], xss, _, _ => by simp
  | p :: ps, xss, h, hl => by
    rw [List.all_cons, Bool.and_eq_true] at h
    obtain ⟨h1, h2, h3⟩ := okP_iff2.mp h.1
    rw [List.foldl_cons, rows_sum ps (addT xss p) h.2 (by rw [addT_len, hl]), addT, app1_sum _ _ _ (by rw [app1_len]; omega), app1_sum _ _ _ (by omega), List.length_cons]
    omega
theorem near_sum {n : Nat} {ps : List (Int × Int)} (h : ps.all (okP n) = true) : lenS (nearS n ps) = 2 * ps.length := by
  have e : lenS (nearS n ps) = lenS (rowsOf n ps) := by
    unfold lenS nearS
    rw [List.map_map]
    congr 1
    apply List.map_congr_left
    intro xs _
    simp only [Function.comp, (sortI_perm xs).length_eq]
  rw [e, rowsOf, rows_sum ps _ h (by simp)]
  have : ∀ n : Nat, lenS (List.replicate n []) = 0 := by
    intro n
    induction n with
    | zero => rfl
    | succ n ih =>
      simp only [lenS, List.replicate_succ, List.map_cons, List.sum_cons] at ih ⊢
      rw [ih]
      rfl
  rw [this]
  omega
/-- drawn pairs -/
theorem encP_all {P : Int × Int → Prop} : ∀ {us : List T}, (∀ u ∈ us, ∃ p, u = encP p ∧ P p) → ∃ ps : List (Int × Int), us = ps.map encP ∧ ∀ p ∈ ps, P p
  | [], _ => ⟨[], rfl, fun p h => by simp at h⟩
  | u :: us, h => by
    obtain ⟨p, rfl, hp⟩ := h u List.mem_cons_self
    obtain ⟨ps, e, k⟩ := encP_all (us := us) fun v hv => h v (List.mem_cons_of_mem _ hv)
    refine ⟨p :: ps, by rw [e]; rfl, fun q hq => ?_⟩
    rcases List.mem_cons.mp hq with rfl | hq
    · exact hp
    · exact k q hq
theorem ties_due {n : Nat} {ps : List (Int × Int)} (h : ∀ p ∈ ps, (0 ≤ p.1 ∧ p.1 < n) ∧ 0 ≤ p.2 ∧ p.2 < n) : ps.all (okP n) = ps.all fun p => decide (p.1 < p.2) := by
  induction ps with
  | nil => rfl
  | cons p ps ih =>
    rw [List.all_cons, List.all_cons, ih fun q hq => h q (List.mem_cons_of_mem _ hq)]
    have := h p List.mem_cons_self
    congr 1
    unfold okP
    rw [decide_eq_true (show (0 : Int) ≤ p.1 by omega), decide_eq_true (show p.2 ≤ (n : Int) - 1 by omega)]
    simp
end Twl

/-! TL43: the plain side: rows of colours; slices; neighbours by ties. -/
namespace Twl
open PySem PySem.Spec PyProof.Rows L2
theorem cutL_take {α : Type} (xs : List α) (h : Nat) : cutL xs none (some (h : Int)) = xs.take h := by
  unfold cutL
  rw [HT.sIx_none, HT.sIx_nat, List.drop_zero, Nat.sub_zero, ← List.take_eq_take_min]
theorem cutL_drop {α : Type} (xs : List α) (h : Nat) : cutL xs (some (h : Int)) none = xs.drop h := by
  unfold cutL
  rw [HT.sIx_none, HT.sIx_nat]
  by_cases e : h ≤ xs.length
  · rw [Nat.min_eq_left e, List.take_of_length_le (by simp)]
  · rw [Nat.min_eq_right (by omega), Nat.sub_self, List.take_zero, List.drop_eq_nil_of_le (by omega)]
section
variable {env : Env} {me mh : Env → M T} {ts : List T} {i : Nat}
theorem e_part {m : Env → M T} {x : Int} (h : Ev (m env) (.int x)) : Ev (mPart m env) (some x) := fun Q E q => h _ _ ⟨x, rfl, q⟩
theorem e_noPart : Ev (mNoPart env) none := Ev.ret none
theorem e_takeT (h : Ev (me env) (.tup ts)) (k : Ev (mh env) (.int (i : Nat))) : Ev (mSl me mNoPart (mPart mh) env) (.tup (ts.take i)) := Ev.bnd h (Ev.bnd e_noPart (Ev.bnd (e_part k) (by rw [← cutL_take]; exact Ev.ret _)))
theorem e_takeL (h : Ev (me env) (.lst ts)) (k : Ev (mh env) (.int (i : Nat))) : Ev (mSl me mNoPart (mPart mh) env) (.lst (ts.take i)) := Ev.bnd h (Ev.bnd e_noPart (Ev.bnd (e_part k) (by rw [← cutL_take]; exact Ev.ret _)))
theorem e_dropT (h : Ev (me env) (.tup ts)) (k : Ev (mh env) (.int (i : Nat))) : Ev (mSl me (mPart mh) mNoPart env) (.tup (ts.drop i)) := Ev.bnd h (Ev.bnd (e_part k) (Ev.bnd e_noPart (by rw [← cutL_drop]; exact Ev.ret _)))
theorem e_dropL (h : Ev (me env) (.lst ts)) (k : Ev (mh env) (.int (i : Nat))) : Ev (mSl me (mPart mh) mNoPart env) (.lst (ts.drop i)) := Ev.bnd h (Ev.bnd (e_part k) (Ev.bnd e_noPart (by rw [← cutL_drop]; exact Ev.ret _)))
end
theorem e_addT {xs ys : List T} (h : xs.length + ys.length ≤ sizeLine) : Ev (gAdd (.tup xs) (.tup ys)) (.tup (xs ++ ys)) := fun Q E q => ⟨h, q⟩
theorem e_addL {xs ys : List T} (h : xs.length + ys.length ≤ sizeLine) : Ev (gAdd (.lst xs) (.lst ys)) (.lst (xs ++ ys)) := fun Q E q => ⟨h, q⟩
theorem e_repT {xs : List T} {k : Nat} (h0 : xs ≠ []) (h1 : 1 ≤ k) (h2 : k ≤ 1000) (h3 : xs.length ≤ 1000) : Ev (gMul (.tup xs) (.int k)) (.tup (List.replicate k xs).flatten) := fun Q E q => ⟨⟨h0, by omega, by omega, h3⟩, by simpa using q⟩
theorem e_listT {ts : List T} : Ev (g1 gList [.tup ts]) (.lst ts) := fun Q E q => q
/-- the colour at a place -/
def cl (row : List Int) (i : Int) : Int := row[i.toNat]?.getD 0
def encI (row : List Int) : T := .tup (row.map T.int)
theorem e_cl {row : List Int} {i : Int} (h0 : 0 ≤ i) (h1 : i < row.length) : Ev (gIx (.tup (row.map T.int)) (.int i)) (.int (cl row i)) := by
  obtain ⟨x, rfl⟩ := Int.eq_ofNat_of_zero_le h0
  have hx : x < row.length := by omega
  refine e_ixT (i := x) ?_
  rw [List.getElem?_map, cl, Int.toNat_natCast, List.getElem?_eq_getElem hx]
  rfl
theorem e_clL {row : List Int} {i : Int} (h0 : 0 ≤ i) (h1 : i < row.length) : Ev (gIx (.lst (row.map T.int)) (.int i)) (.int (cl row i)) := by
  obtain ⟨x, rfl⟩ := Int.eq_ofNat_of_zero_le h0
  have hx : x < row.length := by omega
  refine e_ixL (i := x) ?_
  rw [List.getElem?_map, cl, Int.toNat_natCast, List.getElem?_eq_getElem hx]
  rfl
/-- a painting: a colour below k for each place, tied ones unlike -/
def okRow (n : Nat) (ps : List (Int × Int)) (k : Int) (row : List Int) : Bool := decide (row.length = n) && (inI 0 (k - 1) row && ps.all fun p => !decide (cl row p.1 = cl row p.2))
def paintB (n : Nat) (ps : List (Int × Int)) (k : Int) (t : T) : Bool := match t with
  | .tup ts => (match T.ints ts with
    | some row => okRow n ps k row
    | none => false)
  | _ => false
theorem paintB_row (n : Nat) (ps : List (Int × Int)) (k : Int) (row : List Int) : paintB n ps k (.tup (row.map T.int)) = okRow n ps k row := by
  simp only [paintB, ints_map]
theorem paintB_no {n : Nat} {ps : List (Int × Int)} {k : Int} {ts : List T} (h : ts.all (fun u => wthn u 0 (k - 1)) = false) : paintB n ps k (.tup ts) = false := by
  cases e : T.ints ts with
  | none => simp only [paintB, e]
  | some row =>
    have := ints_inv e
    subst this
    rw [ints_wthn] at h
    rw [paintB_row, okRow, h, Bool.false_and, Bool.and_false]
structure Pt (n : Nat) (ps : List (Int × Int)) (k : Int) (row : List Int) : Prop where
  len : row.length = n
  bd : ∀ x ∈ row, 0 ≤ x ∧ x < k
  ne : ∀ p ∈ ps, cl row p.1 ≠ cl row p.2
theorem Pt.iff {n : Nat} {ps : List (Int × Int)} {k : Int} {row : List Int} : okRow n ps k row = true ↔ Pt n ps k row := by
  unfold okRow inI
  rw [Bool.and_eq_true, Bool.and_eq_true, decide_eq_true_eq, List.all_eq_true, List.all_eq_true]
  constructor
  · rintro ⟨h1, h2, h3⟩
    refine ⟨h1, fun x hx => ?_, fun p hp => ?_⟩
    · have := h2 x hx
      simp at this
      omega
    · have := h3 p hp
      simpa using this
  · rintro ⟨h1, h2, h3⟩
    refine ⟨h1, fun x hx => ?_, fun p hp => ?_⟩
    · have := h2 x hx
      simp
      omega
    · have := h3 p hp
      simpa using this
theorem cl_mem {row : List Int} {i : Int} (h0 : 0 ≤ i) (h1 : i < row.length) : cl row i ∈ row := by
  unfold cl
  have hx : i.toNat < row.length := by omega
  rw [List.getElem?_eq_getElem hx]
  exact List.getElem_mem hx
theorem cl_set {row : List Int} {i j c : Int} (h0 : 0 ≤ i) (h1 : i < row.length) (h2 : 0 ≤ j) : cl (row.set i.toNat c) j = if j = i then c else cl row j := by
  unfold cl
  by_cases e : j = i
  · subst e
    rw [List.getElem?_set_self (by omega), if_pos rfl]; rfl
  · rw [List.getElem?_set_ne (by omega), if_neg e]
/-- who is near: by ties -/
theorem nb_iff {n : Nat} {ps : List (Int × Int)} (ho : ps.all (okP n) = true) (ha : ascP ps = true) {v u : Int} (hv : 0 ≤ v ∧ v < n) : u ∈ nb (nearS n ps) v ↔ (v, u) ∈ ps ∨ (u, v) ∈ ps := by
  have hok : ∀ p ∈ ps, okP n p = true := List.all_eq_true.mp ho
  have h : Rw n ps (rowsOf n ps) := by
    have := rows_Rw (ps := ps) [] (List.replicate n []) (by simpa using hok) (by simpa using ascP_pw ha) (Rw.nil n)
    unfold rowsOf
    simpa using this
  obtain ⟨h1, h2, h3⟩ := h
  obtain ⟨x, rfl⟩ := Int.eq_ofNat_of_zero_le hv.1
  have hx : x < (rowsOf n ps).length := by omega
  have e1 : nb (nearS n ps) x = sortI (rowsOf n ps)[x] := by
    unfold nb nearS
    rw [Int.toNat_natCast, List.getElem?_map, List.getElem?_eq_getElem hx]
    rfl
  rw [e1, (sortI_perm _).mem_iff]
  exact h3 x _ (List.getElem?_eq_getElem hx) u
/-- colours that are free at a place -/
def freeL (near : List (List Int)) (k : Nat) (row : List Int) (i : Int) : List Int := (rngI k).filter fun c => !decide (c ∈ (nb near i).map (cl row) ++ [cl row i])
theorem irT_rngI (n : Nat) : irT 0 n = (rngI n).map T.int := by
  simp [irT, rngI]
end Twl

/-! TL44: the plain side: rows looked up. -/
namespace Twl
open PySem PySem.Spec PyProof.Rows L2
/-- a row of ints, as a tuple or a list -/
def SqI (R : T) (row : List Int) : Prop := R = .tup (row.map T.int) ∨ R = .lst (row.map T.int)
theorem e_clS {R : T} {row : List Int} (h : SqI R row) {i : Int} (h0 : 0 ≤ i) (h1 : i < row.length) : Ev (gIx R (.int i)) (.int (cl row i)) := by
  rcases h with rfl | rfl
  · exact e_cl h0 h1
  · exact e_clL h0 h1
section
variable {env : Env} {ms : Env → M (List T)} {i j m d : Nat} {R : T} {row L : List Int} {p : Int}
/-- [row[other] for other in L] -/
theorem e_at (hs : Ev (ms env) (L.map T.int)) (hr : SqI R row) (hb : ∀ x ∈ L, 0 ≤ x ∧ x < row.length) (hd : d ≤ 1) (h : ∀ x : Int, ∃ env', (gN i) (.int x) (wipeE env [i]) = some env' ∧ env'[i]? = some (.va 0 (.int x)) ∧ env'[j]? = some (.va d R)) :
    Ev (mLc ms (gN i) (fun _ => ret true) (mBin gIx (mVarB j) (mVarB i)) [i] env) (.lst ((L.map (cl row)).map T.int)) := by
  have := mLc_map (vs := [i]) (g := gN i) (me := mBin gIx (mVarB j) (mVarB i)) (fun t => match t with | .int x => .int (cl row x) | _ => t) hs fun t ht => by
    obtain ⟨x, hx, rfl⟩ := List.mem_map.mp ht
    obtain ⟨env', h1, h2, h3⟩ := h x
    exact ⟨env', h1, e_bin (e_varB h3 hd) (e_varB h2 (Nat.zero_le 1)) (e_clS hr (hb x hx).1 (hb x hx).2)⟩
  rw [List.map_map] at this
  rw [List.map_map]
  exact this
/-- [row[other] for other in L if other < place] -/
theorem e_atLt (hs : Ev (ms env) (L.map T.int)) (hr : SqI R row) (hb : ∀ x ∈ L, x < p → 0 ≤ x ∧ x < row.length) (hd : d ≤ 1) (h : ∀ x : Int, ∃ env', (gN i) (.int x) (wipeE env [i]) = some env' ∧ env'[i]? = some (.va 0 (.int x)) ∧ env'[j]? = some (.va d R) ∧ env'[m]? = some (.va 0 (.int p))) :
    Ev (mLc ms (gN i) (mB (mBin (gRel .Lt) (mVarB i) (mVarB m))) (mBin gIx (mVarB j) (mVarB i)) [i] env) (.lst (((L.filter fun x => decide (x < p)).map (cl row)).map T.int)) := by
  have := mLc_ev (vs := [i]) (g := gN i) (c := mB (mBin (gRel .Lt) (mVarB i) (mVarB m))) (me := mBin gIx (mVarB j) (mVarB i)) (fun t => match t with | .int x => decide (x < p) | _ => false) (fun t => match t with | .int x => .int (cl row x) | _ => t) hs fun t ht => by
    obtain ⟨x, hx, rfl⟩ := List.mem_map.mp ht
    obtain ⟨env', h1, h2, h3, h4⟩ := h x
    refine ⟨env', h1, b_val (e_bin (e_varB h2 (Nat.zero_le 1)) (e_varB h4 (Nat.zero_le 1)) (e_rel _ _)), fun hp => ?_⟩
    have hp : x < p := by simpa using hp
    exact e_bin (e_varB h3 hd) (e_varB h2 (Nat.zero_le 1)) (e_clS hr (hb x hx hp).1 (hb x hx hp).2)
  rw [List.filter_map, List.map_map] at this
  rw [List.map_map]
  exact this
end
theorem i_appN {D : EndT} {env : Env} {i : Nat} {me : Env → M T} {ts : List T} {P : T → Prop} (h : env[i]? = some (.va 1 (.lst ts))) (ha : Nd (me env) P) (hz : ts.length < sizeLine) (k : ∀ t, P t → D.nx (env.set i (.va 1 (.lst (ts ++ [t]))))) : sMt i fApp (mCons me mNil) D env :=
  ⟨ts, h, ha _ _ fun t p => ⟨hz, k t p⟩⟩
theorem n_if {env : Env} {c : Env → M Bool} {ma mb : Env → M T} {P : T → Prop} {v : Bool} (h : Ev (c env) v) (k1 : v = true → Nd (ma env) P) (k2 : v = false → Nd (mb env) P) : Nd (mIf c ma mb env) P := fun Q E q => h _ _ (by
  cases v with
  | true => exact (if_pos rfl).mpr (k1 rfl Q E q)
  | false => exact (if_neg Bool.false_ne_true).mpr (k2 rfl Q E q))
theorem e_maxL {ns : List Int} (h : ns ≠ []) : Nd (g1 gMax1 [.lst (ns.map T.int)]) (fun t => ∃ m, t = .int m ∧ m ∈ ns ∧ ∀ y ∈ ns, y ≤ m) := fun Q E q => by
  show ofO (T.ints (ns.map T.int)) _ Q E
  rw [ints_map]
  exact ⟨List.length_pos_iff.mpr h, fun m h1 h2 => q _ ⟨m, rfl, h1, h2⟩⟩
theorem n_callE {g : List T → M T} {env : Env} {mas : Env → M (List T)} {ts : List T} {R : T → Prop} (h : Ev (mas env) ts) (k : Nd (g ts) R) : Nd (mCall g mas env) R := Ev.bndN h k
theorem e_min2 (i j : Int) : Ev (g2 gMin2 [.int i, .int j]) (.int (if j < i then j else i)) := fun Q E q => q
theorem e_max2 (i j : Int) : Ev (g2 gMax2 [.int i, .int j]) (.int (if j > i then j else i)) := fun Q E q => q
theorem e_eqTnil (L : List Int) : Ev (gEq (.tup (L.map T.int)) (.tup [])) (.bl (decide (L = []))) := fun Q E q => by
  refine ⟨⟨(Sh.tup (Sh.ints L)).shp, (Sh.tup (k := 0) (ts := []) fun t h => by simp at h).shp⟩, ?_⟩
  have e : (T.tup (L.map T.int)).eqv (.tup []) = decide (L = []) := by
    unfold T.eqv
    cases L with
    | nil => simp [T.pd, T.pds, PyData.eqv, PyData.eqvAll]
    | cons x L => simp [T.pd, T.pds, PyData.eqv, PyData.eqvAll]
  show Q _
  rw [e]
  exact q
theorem e_neLnil (L : List Int) : Ev (gNe (.lst (L.map T.int)) (.lst [])) (.bl (!decide (L = []))) := fun Q E q => by
  refine ⟨⟨(Sh.lst (Sh.ints L)).shp, (Sh.lst (k := 0) (ts := []) fun t h => by simp at h).shp⟩, ?_⟩
  have e : (T.lst (L.map T.int)).eqv (.lst []) = decide (L = []) := by
    unfold T.eqv
    cases L with
    | nil => simp [T.pd, T.pds, PyData.eqv, PyData.eqvAll]
    | cons x L => simp [T.pd, T.pds, PyData.eqv, PyData.eqvAll]
  show Q _
  rw [e]
  exact q
theorem rngI_get {n i : Nat} (h : i < n) : (rngI n)[i]? = some (i : Int) := by
  unfold rngI
  rw [List.getElem?_map, List.getElem?_range h]
  rfl
theorem e_tupR (n : Nat) (h : n < 2 ^ 20) : Ev (gTupR1 (.int n)) (.tup ((rngI n).map T.int)) := fun Q E q => by
  refine ⟨?_, ?_⟩
  · unfold RgOk; omega
  · have e : rgT 0 n = (rngI n).map T.int := by simp [rgT, rngI]
    show Q _
    rw [e]
    exact q
theorem kns_all : ∀ {ts : List T}, (∀ t ∈ ts, t.kn = true) → T.kns ts = true
  | [], _ => rfl
  | t :: ts, h => by
    rw [T.kns, h t List.mem_cons_self, kns_all fun u hu => h u (List.mem_cons_of_mem _ hu)]
    rfl
theorem rep_flat {α : Type} (n : Nat) (x : α) : (List.replicate n [x]).flatten = List.replicate n x := by
  induction n with
  | zero => rfl
  | succ n ih => rw [List.replicate_succ, List.flatten_cons, ih]; rfl
/-- a colour otherwise at one place -/
theorem Pt.set {n : Nat} {ps : List (Int × Int)} (ho : ps.all (okP n) = true) (ha : ascP ps = true) {k : Nat} {row : List Int} (h : Pt n ps k row) {i c : Int} (hi : 0 ≤ i ∧ i < n) (hc : c ∈ freeL (nearS n ps) k row i) : Pt n ps k (row.set i.toNat c) := by
  unfold freeL at hc
  rw [List.mem_filter, rngI_mem] at hc
  obtain ⟨⟨c0, c1⟩, c2⟩ := hc
  simp only [List.mem_append, List.mem_map, List.mem_singleton, Bool.not_eq_true', decide_eq_false_iff_not, not_or, not_exists, not_and] at c2
  obtain ⟨c2, c3⟩ := c2
  have hl := h.len
  refine ⟨by rw [List.length_set, hl], fun x hx => ?_, fun p hp => ?_⟩
  · rcases List.mem_or_eq_of_mem_set hx with hx | rfl
    · exact h.bd x hx
    · exact ⟨c0, c1⟩
  · have hok := okP_iff2.mp (List.all_eq_true.mp ho p hp)
    rw [cl_set hi.1 (by omega) hok.1, cl_set hi.1 (by omega) (by omega)]
    have hne := h.ne p hp
    by_cases e1 : p.1 = i
    · have e2 : p.2 ≠ i := by omega
      rw [if_pos e1, if_neg e2]
      exact fun e => c2 p.2 ((nb_iff ho ha hi).mpr (.inl (by rw [← e1]; exact hp))) e.symm
    · rw [if_neg e1]
      by_cases e2 : p.2 = i
      · rw [if_pos e2]
        exact fun e => c2 p.1 ((nb_iff ho ha hi).mpr (.inr (by rw [← e2]; exact hp))) e
      · rw [if_neg e2]
        exact hne
end Twl

/-! TL45: the plain side: in a row, rows compared, chains of two colours, all paintings. -/
namespace Twl
open PySem PySem.Spec PyProof.Rows L2
theorem SqI.sh {R : T} {row : List Int} (h : SqI R row) : Sh 1 R := by
  rcases h with rfl | rfl
  · exact Sh.tup (Sh.ints row)
  · exact Sh.lst (Sh.ints row)
theorem e_inS (x : Int) {R : T} {row : List Int} (h : SqI R row) : Ev (gIn (.int x) R) (.bl (decide (x ∈ row))) := by
  refine Ev.bnd (a := decide (x ∈ row)) (fun Q E q => ?_) (Ev.ret _)
  have hs := h.sh.shp
  rcases h with rfl | rfl
  · refine ⟨⟨shp_int x, hs⟩, ?_⟩
    rw [isIn_ints]
    exact q
  · refine ⟨⟨shp_int x, hs⟩, ?_⟩
    rw [isIn_ints]
    exact q
theorem e_notInS (x : Int) {R : T} {row : List Int} (h : SqI R row) : Ev (gNotIn (.int x) R) (.bl (!decide (x ∈ row))) := by
  refine Ev.bnd (a := decide (x ∈ row)) (fun Q E q => ?_) (Ev.ret _)
  have hs := h.sh.shp
  rcases h with rfl | rfl
  · refine ⟨⟨shp_int x, hs⟩, ?_⟩
    rw [isIn_ints]
    exact q
  · refine ⟨⟨shp_int x, hs⟩, ?_⟩
    rw [isIn_ints]
    exact q
theorem eqvAll_ints : ∀ L M : List Int, PyData.eqvAll (T.pds (L.map T.int)) (T.pds (M.map T.int)) = decide (L = M)
  | [], [] => by simp [T.pds, PyData.eqvAll]
  | [], y :: M => by simp [T.pds, PyData.eqvAll]
  | x :: L, [] => by simp [T.pds, PyData.eqvAll]
  | x :: L, y :: M => by
    have ih := eqvAll_ints L M
    have e := eqv_int x y
    unfold T.eqv at e
    simp only [List.map_cons, T.pds, PyData.eqvAll, ih, e]
    by_cases h : x = y <;> by_cases h2 : L = M <;> simp [h, h2]
theorem e_eqTT (L M : List Int) : Ev (gEq (.tup (L.map T.int)) (.tup (M.map T.int))) (.bl (decide (L = M))) := fun Q E q => by
  refine ⟨⟨(Sh.tup (Sh.ints L)).shp, (Sh.tup (Sh.ints M)).shp⟩, ?_⟩
  have e : (T.tup (L.map T.int)).eqv (.tup (M.map T.int)) = decide (L = M) := by
    unfold T.eqv
    rw [T.pd, T.pd, PyData.eqv, eqvAll_ints]
  show Q _
  rw [e]
  exact q
theorem e_neTT (L M : List Int) : Ev (gNe (.tup (L.map T.int)) (.tup (M.map T.int))) (.bl (!decide (L = M))) := fun Q E q => by
  refine ⟨⟨(Sh.tup (Sh.ints L)).shp, (Sh.tup (Sh.ints M)).shp⟩, ?_⟩
  have e : (T.tup (L.map T.int)).eqv (.tup (M.map T.int)) = decide (L = M) := by
    unfold T.eqv
    rw [T.pd, T.pd, PyData.eqv, eqvAll_ints]
  show Q _
  rw [e]
  exact q
theorem e_neNilS {k : Nat} {ts : List T} (s : Sh k (.lst ts)) (hk : k ≤ 64 := by decide) : Ev (gNe (.lst ts) (.lst [])) (.bl (!ts.isEmpty)) := fun Q E q => by
  refine ⟨⟨s.shp hk, (Sh.lst (k := 0) (ts := []) fun t h => by simp at h).shp⟩, ?_⟩
  have e : (T.lst ts).eqv (.lst []) = ts.isEmpty := by
    unfold T.eqv
    cases ts with
    | nil => simp [T.pd, T.pds, PyData.eqv, PyData.eqvAll]
    | cons x L => simp [T.pd, T.pds, PyData.eqv, PyData.eqvAll]
  show Q _
  rw [e]
  exact q
theorem i_asgN {D : EndT} {g : GM} {me : Env → M T} {env : Env} {P : T → Prop} (h : Nd (me env) P) (k : ∀ t, P t → ∃ env', g t env = some env' ∧ D.nx env') : sAsg g me D env := h _ _ k
theorem i_seqJ {a b : SM} {D : EndT} {env : Env} (J : Env → Prop) (h1 : ∀ D' : EndT, D'.rt = D.rt → D'.ex = D.ex → D'.bk = D.bk → D'.ct = D.ct → (∀ e, J e → D'.nx e) → a D' env) (h2 : ∀ e, J e → b D e) : sSeq a b D env := h1 _ rfl rfl rfl rfl h2
theorem e_mulL {xs : List T} {k : Nat} (h : xs.length * k ≤ sizeLine) (hk : k < 2 ^ 20) : Ev (gMul (.lst xs) (.int k)) (.lst (List.replicate k xs).flatten) := fun Q E q => ⟨⟨by omega, by omega, by simpa using h⟩, by simpa using q⟩
theorem e_en1T (ts : List T) : Ev (gEn1 [.tup ts]) (enT 0 ts) := fun Q E q => ⟨(fun x e => nomatch e), q⟩
theorem e_en1L (ts : List T) : Ev (gEn1 [.lst ts]) (enT 0 ts) := fun Q E q => ⟨(fun x e => nomatch e), q⟩
theorem enT_at {ts : List T} {i : Nat} {t : T} (h : (enT 0 ts)[i]? = some t) : ∃ u, ts[i]? = some u ∧ t = .tup [.int (i : Nat), u] := by
  have hl : i < ts.length := by
    have := (List.getElem?_eq_some_iff.mp h).1
    rwa [enT_length] at this
  have e := enT_get 0 ts i ts[i] (List.getElem?_eq_getElem hl)
  rw [e] at h
  refine ⟨ts[i], List.getElem?_eq_getElem hl, ?_⟩
  have := Option.some.inj h
  rw [← this]
  congr 2
  simp
/-! ### chains of two colours -/
def two (row : List Int) (a b u : Int) : Bool := decide (cl row u = a ∨ cl row u = b)
def chnN (near : List (List Int)) (row : List Int) (a b : Int) : List (List Int) := near.map fun xs => xs.filter (two row a b)
theorem nb_chn (near : List (List Int)) (row : List Int) (a b v : Int) : nb (chnN near row a b) v = (nb near v).filter (two row a b) := by
  unfold nb chnN
  rw [List.getElem?_map]
  cases near[v.toNat]? <;> rfl
theorem Gr.chn {n : Nat} {near : List (List Int)} (g : Gr n near) (row : List Int) (a b : Int) : Gr n (chnN near row a b) := by
  refine ⟨by rw [chnN, List.length_map, g.len], fun xs hx => ?_, fun xs hx u hu => ?_⟩
  · obtain ⟨ys, hy, rfl⟩ := List.mem_map.mp hx
    exact (g.nd ys hy).filter _
  · obtain ⟨ys, hy, rfl⟩ := List.mem_map.mp hx
    exact g.bd ys hy u (List.mem_filter.mp hu).1
theorem sortI_mem {L : List Int} {x : Int} : x ∈ sortI L ↔ x ∈ L := (sortI_perm L).mem_iff
/-- the row with a lot's two colours exchanged -/
def swt (row K : List Int) (a b : Int) : List Int := (rngI row.length).map fun i => if i ∈ K then (if cl row i = a then b else a) else cl row i
theorem swt_len (row K : List Int) (a b : Int) : (swt row K a b).length = row.length := by simp [swt, rngI]
theorem swt_cl {row K : List Int} {a b i : Int} (h0 : 0 ≤ i) (h1 : i < row.length) : cl (swt row K a b) i = if i ∈ K then (if cl row i = a then b else a) else cl row i := by
  have e : cl (swt row K a b) i = ((swt row K a b)[i.toNat]?).getD 0 := rfl
  rw [e, swt, List.getElem?_map, rngI_get (by omega), Int.toNat_of_nonneg h0]
  rfl
/-- what a chain keeps: s in it, two colours alone, closed -/
structure Chn (near : List (List Int)) (row : List Int) (a b s : Int) (K : List Int) : Prop where
  hs : s ∈ K
  tw : ∀ v ∈ K, cl row v = a ∨ cl row v = b
  cls : ∀ v ∈ K, ∀ u ∈ nb near v, (cl row u = a ∨ cl row u = b) → u ∈ K
theorem Lot.chn {near : List (List Int)} {row : List Int} {b s : Int} {L : List Int} (h : Lot (chnN near row (cl row s) b) s L) : Chn near row (cl row s) b s (sortI L) := by
  refine ⟨sortI_mem.mpr ((h.mem s).mpr .refl), fun v hv => ?_, fun v hv u hu hc => ?_⟩
  · have r := (h.mem v).mp (sortI_mem.mp hv)
    cases r with
    | refl => exact .inl rfl
    | step _ hu =>
      rw [nb_chn, List.mem_filter] at hu
      simpa [two] using hu.2
  · refine sortI_mem.mpr ((h.mem u).mpr (.step ((h.mem v).mp (sortI_mem.mp hv)) ?_))
    rw [nb_chn, List.mem_filter]
    exact ⟨hu, by simpa [two] using hc⟩
/-- exchanged, the painting stays one -/
theorem Pt.swt {n : Nat} {ps : List (Int × Int)} (ho : ps.all (okP n) = true) (ha : ascP ps = true) {k : Nat} {row : List Int} (pt : Pt n ps k row) {b s : Int} (hs : 0 ≤ s ∧ s < n) (hb : 0 ≤ b ∧ b < k) (hne : b ≠ cl row s) {K : List Int} (h : Chn (nearS n ps) row (cl row s) b s K) : Pt n ps k (swt row K (cl row s) b) := by
  have hl := pt.len
  have hab := pt.bd _ (cl_mem (row := row) (i := s) hs.1 (by omega))
  refine ⟨by rw [swt_len, hl], fun x hx => ?_, fun p hp => ?_⟩
  · obtain ⟨i, hi, rfl⟩ := List.mem_map.mp hx
    have hib := rngI_mem.mp hi
    have := pt.bd _ (cl_mem (row := row) (i := i) hib.1 hib.2)
    by_cases e : i ∈ K
    · rw [if_pos e]
      by_cases e2 : cl row i = cl row s
      · rw [if_pos e2]; exact hb
      · rw [if_neg e2]; exact hab
    · rw [if_neg e]; exact this
  · have hok := okP_iff2.mp (List.all_eq_true.mp ho p hp)
    have hne2 := pt.ne p hp
    rw [swt_cl hok.1 (by omega), swt_cl (by omega) (by omega)]
    have m1 : p.2 ∈ nb (nearS n ps) p.1 := (nb_iff ho ha ⟨hok.1, by omega⟩).mpr (.inl hp)
    have m2 : p.1 ∈ nb (nearS n ps) p.2 := (nb_iff ho ha ⟨by omega, by omega⟩).mpr (.inr hp)
    by_cases e1 : p.1 ∈ K <;> by_cases e2 : p.2 ∈ K
    · have t1 := h.tw _ e1
      have t2 := h.tw _ e2
      rw [if_pos e1, if_pos e2]
      rcases t1 with t1 | t1 <;> rcases t2 with t2 | t2
      · exact absurd (t1.trans t2.symm) hne2
      · rw [if_pos t1, if_neg (by rw [t2]; exact hne)]
        exact hne
      · rw [if_neg (by rw [t1]; exact hne), if_pos t2]
        exact fun e => hne e.symm
      · exact absurd (t1.trans t2.symm) hne2
    · rw [if_pos e1, if_neg e2]
      have t2 : ¬ (cl row p.2 = cl row s ∨ cl row p.2 = b) := fun c => e2 (h.cls _ e1 _ m1 c)
      by_cases c : cl row p.1 = cl row s
      · rw [if_pos c]; exact fun e => t2 (.inr e.symm)
      · rw [if_neg c]; exact fun e => t2 (.inl e.symm)
    · rw [if_neg e1, if_pos e2]
      have t1 : ¬ (cl row p.1 = cl row s ∨ cl row p.1 = b) := fun c => e1 (h.cls _ e2 _ m2 c)
      by_cases c : cl row p.2 = cl row s
      · rw [if_pos c]; exact fun e => t1 (.inr e)
      · rw [if_neg c]; exact fun e => t1 (.inl e)
    · rw [if_neg e1, if_neg e2]; exact hne2
/-- exchanged rows have the same chains -/
theorem chnN_swt {n : Nat} {near : List (List Int)} (g : Gr n near) {row : List Int} (hl : row.length = n) {a b s : Int} {K : List Int} (h : Chn near row a b s K) : chnN near (swt row K a b) b a = chnN near row a b := by
  unfold chnN
  apply List.map_congr_left
  intro xs hx
  apply List.filter_congr
  intro u hu
  have hub := g.bd xs hx u hu
  unfold two
  rw [decide_eq_decide, swt_cl hub.1 (by omega)]
  by_cases e : u ∈ K
  · rw [if_pos e]
    have t := h.tw u e
    by_cases e2 : cl row u = a
    · rw [if_pos e2]
      exact ⟨fun _ => t, fun _ => .inl rfl⟩
    · rw [if_neg e2]
      exact ⟨fun _ => t, fun _ => .inr rfl⟩
  · rw [if_neg e]
    exact Or.comm
theorem swt_back {row K : List Int} {a b : Int} (hab : b ≠ a) (tw : ∀ v ∈ K, cl row v = a ∨ cl row v = b) : swt (swt row K a b) K b a = row := by
  apply List.ext_getElem
  · rw [swt_len, swt_len]
  · intro i h1 h2
    have e : ∀ (r : List Int) (h : i < r.length), r[i] = cl r (i : Int) := fun r h => by
      unfold cl
      rw [Int.toNat_natCast, List.getElem?_eq_getElem h]
      rfl
    rw [e _ h1, e _ h2, swt_cl (by omega) (by rw [swt_len]; omega), swt_cl (by omega) (by omega)]
    by_cases m : (i : Int) ∈ K
    · simp only [if_pos m]
      rcases tw _ m with t | t
      · rw [if_pos t, if_pos rfl, t]
      · rw [t, if_neg hab, if_neg fun z : a = b => hab z.symm]
    · simp only [if_neg m]
/-- a chain is one place alone just where the colour is free there -/
theorem chn_one {n : Nat} {ps : List (Int × Int)} (ho : ps.all (okP n) = true) (ha : ascP ps = true) {k : Nat} {row : List Int} (pt : Pt n ps k row) {b s : Int} (hs : 0 ≤ s ∧ s < n) (hb : 0 ≤ b ∧ b < k) (hne : b ≠ cl row s) {L : List Int} (h : Lot (chnN (nearS n ps) row (cl row s) b) s L) : sortI L = [s] ↔ b ∈ freeL (nearS n ps) k row s := by
  have hc := h.chn
  have hfree : b ∈ freeL (nearS n ps) k row s ↔ ∀ u ∈ nb (nearS n ps) s, cl row u ≠ b := by
    unfold freeL
    rw [List.mem_filter, rngI_mem]
    simp only [List.mem_append, List.mem_map, List.mem_singleton, Bool.not_eq_true', decide_eq_false_iff_not, not_or, not_exists, not_and]
    exact ⟨fun z => z.2.1, fun z => ⟨hb, z, hne⟩⟩
  rw [hfree]
  constructor
  · intro e u hu eb
    have m := hc.cls s hc.hs u hu (.inr eb)
    rw [e, List.mem_singleton] at m
    rw [m] at eb
    exact hne eb.symm
  · intro hf
    have hl : Lot (chnN (nearS n ps) row (cl row s) b) s [s] := by
      refine ⟨by simp, fun v => ⟨fun hv => by rw [List.mem_singleton.mp hv]; exact .refl, fun r => r.sub (by simp) fun v hv u hu => ?_⟩⟩
      rw [List.mem_singleton] at hv
      subst hv
      rw [nb_chn, List.mem_filter] at hu
      exfalso
      have t : cl row u = cl row v ∨ cl row u = b := by simpa [two] using hu.2
      rcases t with t | t
      · rcases (nb_iff ho ha hs).mp hu.1 with m | m
        · exact pt.ne _ m t.symm
        · exact pt.ne _ m t
      · exact hf u hu.1 t
    rw [h.eq hl]
    have := sortI_perm [s]
    exact List.perm_singleton.mp this
/-! ### all paintings, place by place -/
def longerL (near : List (List Int)) (k i : Nat) (r : List Int) : List (List Int) := ((rngI k).filter fun c => !decide (c ∈ ((nb near i).filter fun x => decide (x < (i : Int))).map (cl r))).map fun c => r ++ [c]
def paintsL (near : List (List Int)) (k : Nat) : Nat → List (List Int)
  | 0 => [[]]
  | i + 1 => (paintsL near k i).flatMap (longerL near k i)
theorem paints_len (near : List (List Int)) (k : Nat) : ∀ i, (paintsL near k i).length ≤ k ^ i
  | 0 => by simp [paintsL]
  | i + 1 => by
    have ih := paints_len near k i
    have hl : ∀ r, (longerL near k i r).length ≤ k := fun r => by
      unfold longerL
      rw [List.length_map]
      refine Nat.le_trans (List.length_filter_le _ _) ?_
      simp [rngI]
    have key : ∀ rs : List (List Int), (rs.flatMap (longerL near k i)).length ≤ rs.length * k := by
      intro rs
      induction rs with
      | nil => simp
      | cons r rs ih2 =>
        rw [List.flatMap_cons, List.length_append, List.length_cons, Nat.add_mul, Nat.one_mul]
        have := hl r
        omega
    refine Nat.le_trans (key _) ?_
    rw [Nat.pow_succ]
    exact Nat.mul_le_mul_right k ih
/-- a part of a painting -/
structure Pp (ps : List (Int × Int)) (k : Int) (i : Nat) (r : List Int) : Prop where
  len : r.length = i
  bd : ∀ x ∈ r, 0 ≤ x ∧ x < k
  ne : ∀ p ∈ ps, p.2 < i → cl r p.1 ≠ cl r p.2
theorem clA_lt {r : List Int} {c : Int} {i : Int} (h0 : 0 ≤ i) (h1 : i < r.length) : cl (r ++ [c]) i = cl r i := by
  unfold cl
  rw [List.getElem?_append_left (by omega)]
theorem clA_eq {r : List Int} {c : Int} : cl (r ++ [c]) r.length = c := by
  unfold cl
  rw [Int.toNat_natCast, List.getElem?_append_right (Nat.le_refl _), Nat.sub_self]
  rfl
theorem paints_pp {n : Nat} {ps : List (Int × Int)} (ho : ps.all (okP n) = true) (ha : ascP ps = true) (k : Nat) : ∀ i : Nat, i ≤ n → ∀ r ∈ paintsL (nearS n ps) k i, Pp ps k i r
  | 0, _, r, h => by
    simp [paintsL] at h
    subst h
    exact ⟨rfl, fun x hx => by simp at hx, fun p hp hlt => by have := okP_iff2.mp (List.all_eq_true.mp ho p hp); omega⟩
  | i + 1, hi, r, h => by
    rw [paintsL, List.mem_flatMap] at h
    obtain ⟨r0, h0, hr⟩ := h
    have ih := paints_pp ho ha k i (by omega) r0 h0
    unfold longerL at hr
    obtain ⟨c, hc, rfl⟩ := List.mem_map.mp hr
    rw [List.mem_filter, rngI_mem] at hc
    have hu : c ∉ ((nb (nearS n ps) i).filter fun x => decide (x < (i : Int))).map (cl r0) := by simpa using hc.2
    have hl := ih.len
    refine ⟨by simp [hl], fun x hx => ?_, fun p hp hlt => ?_⟩
    · rcases List.mem_append.mp hx with hx | hx
      · exact ih.bd x hx
      · rw [List.mem_singleton.mp hx]; exact hc.1
    · have hok := okP_iff2.mp (List.all_eq_true.mp ho p hp)
      have e1 : cl (r0 ++ [c]) p.1 = cl r0 p.1 := clA_lt hok.1 (by omega)
      by_cases e : p.2 = i
      · have e2 : cl (r0 ++ [c]) p.2 = c := by
          rw [e, ← hl]
          exact clA_eq
        rw [e1, e2]
        intro ec
        apply hu
        rw [List.mem_map]
        refine ⟨p.1, ?_, ec⟩
        rw [List.mem_filter, nb_iff ho ha ⟨by omega, by omega⟩]
        refine ⟨.inr ?_, by simp; omega⟩
        rw [← e]
        exact hp
      · have e2 : cl (r0 ++ [c]) p.2 = cl r0 p.2 := clA_lt (by omega) (by omega)
        rw [e1, e2]
        exact ih.ne p hp (by omega)
theorem Pp.pt {n : Nat} {ps : List (Int × Int)} (ho : ps.all (okP n) = true) {k : Int} {r : List Int} (h : Pp ps k n r) : Pt n ps k r :=
  ⟨h.len, h.bd, fun p hp => h.ne p hp (by have := okP_iff2.mp (List.all_eq_true.mp ho p hp); omega)⟩
theorem paints_none (near : List (List Int)) : ∀ i, 1 ≤ i → paintsL near 0 i = []
  | 0, h => by omega
  | i + 1, _ => by
    unfold paintsL
    rw [List.flatMap_eq_nil_iff]
    intro r hr
    simp [longerL, rngI]
end Twl

/-! TL46: the plain side: rows painted in part; what is led. -/
namespace Twl
open PySem PySem.Spec PyProof.Rows L2
def encO : Option Int → T
  | none => .non
  | some c => .int c
def encS (r : List (Option Int)) : T := .tup (r.map encO)
def co (r : List (Option Int)) (i : Int) : Option Int := r[i.toNat]?.getD none
theorem e_co {r : List (Option Int)} {i : Int} (h0 : 0 ≤ i) (h1 : i < r.length) : Ev (gIx (.tup (r.map encO)) (.int i)) (encO (co r i)) := by
  obtain ⟨x, rfl⟩ := Int.eq_ofNat_of_zero_le h0
  have hx : x < r.length := by omega
  refine e_ixT (i := x) ?_
  rw [List.getElem?_map, co, Int.toNat_natCast, List.getElem?_eq_getElem hx]
  rfl
theorem e_coL {r : List (Option Int)} {i : Int} (h0 : 0 ≤ i) (h1 : i < r.length) : Ev (gIx (.lst (r.map encO)) (.int i)) (encO (co r i)) := by
  obtain ⟨x, rfl⟩ := Int.eq_ofNat_of_zero_le h0
  have hx : x < r.length := by omega
  refine e_ixL (i := x) ?_
  rw [List.getElem?_map, co, Int.toNat_natCast, List.getElem?_eq_getElem hx]
  rfl
theorem Sh.O (o : Option Int) : Sh 0 (encO o) := by
  cases o with
  | none => exact Sh.non
  | some c => exact Sh.int c
theorem Sh.Os (r : List (Option Int)) : ∀ t ∈ r.map encO, Sh 0 t := fun t h => by
  obtain ⟨n, _, rfl⟩ := List.mem_map.mp h
  exact .O n
theorem e_isO (o : Option Int) : Ev (gIs (encO o) .non) (.bl (decide (o = none))) := fun Q E q => by
  cases o with
  | none => exact ⟨rfl, q⟩
  | some c => exact ⟨rfl, q⟩
theorem e_isNotO (o : Option Int) : Ev (gIsNot (encO o) .non) (.bl (!decide (o = none))) := fun Q E q => by
  cases o with
  | none => exact ⟨rfl, q⟩
  | some c => exact ⟨rfl, q⟩
theorem eqv_O (a b : Option Int) : (encO a).eqv (encO b) = decide (a = b) := by
  cases a with
  | none =>
    cases b with
    | none => rfl
    | some c =>
      unfold T.eqv encO
      simp [T.pd, PyData.eqv]
  | some x =>
    cases b with
    | none =>
      unfold T.eqv encO
      simp [T.pd, PyData.eqv]
    | some y =>
      show (T.int x).eqv (.int y) = _
      rw [eqv_int]
      simp
theorem e_eqO (a b : Option Int) : Ev (gEq (encO a) (encO b)) (.bl (decide (a = b))) := fun Q E q => ⟨⟨(Sh.O a).shp, (Sh.O b).shp⟩, by rw [eqv_O]; exact q⟩
theorem e_neO (a b : Option Int) : Ev (gNe (encO a) (encO b)) (.bl (!decide (a = b))) := fun Q E q => ⟨⟨(Sh.O a).shp, (Sh.O b).shp⟩, by rw [eqv_O]; exact q⟩
theorem isIn_O (o : Option Int) : ∀ L : List (Option Int), T.isIn (encO o) (L.map encO) = decide (o ∈ L)
  | [] => by simp [T.isIn]
  | y :: L => by
    have ih := isIn_O o L
    unfold T.isIn at ih ⊢
    rw [List.map_cons, List.any_cons, ih, eqv_O]
    by_cases h : o = y
    · subst h; simp
    · have h2 : ¬ y = o := fun e => h e.symm
      simp [h, h2]
theorem e_notInO (o : Option Int) (L : List (Option Int)) : Ev (gNotIn (encO o) (.lst (L.map encO))) (.bl (!decide (o ∈ L))) := by
  refine Ev.bnd (a := decide (o ∈ L)) (fun Q E q => ?_) (Ev.ret _)
  refine ⟨⟨(Sh.O o).shp, (Sh.lst (Sh.Os L)).shp⟩, ?_⟩
  rw [isIn_O]
  exact q
theorem e_notInOT (o : Option Int) (L : List (Option Int)) : Ev (gNotIn (encO o) (.tup (L.map encO))) (.bl (!decide (o ∈ L))) := by
  refine Ev.bnd (a := decide (o ∈ L)) (fun Q E q => ?_) (Ev.ret _)
  refine ⟨⟨(Sh.O o).shp, (Sh.tup (Sh.Os L)).shp⟩, ?_⟩
  rw [isIn_O]
  exact q
/-! ### ties, what is free -/
def tdL (ps : List (Int × Int)) (i : Int) : List Int := ((ps.filter fun p => decide (p.1 = i)).map fun p => p.2) ++ ((ps.filter fun p => decide (p.2 = i)).map fun p => p.1)
theorem tdL_mem {ps : List (Int × Int)} {i u : Int} : u ∈ tdL ps i ↔ (i, u) ∈ ps ∨ (u, i) ∈ ps := by
  unfold tdL
  simp only [List.mem_append, List.mem_map, List.mem_filter, decide_eq_true_eq]
  constructor
  · rintro (⟨p, ⟨h, rfl⟩, rfl⟩ | ⟨p, ⟨h, rfl⟩, rfl⟩)
    · exact .inl h
    · exact .inr h
  · rintro (h | h)
    · exact .inl ⟨(i, u), ⟨h, rfl⟩, rfl⟩
    · exact .inr ⟨(u, i), ⟨h, rfl⟩, rfl⟩
theorem tdL_nb {n : Nat} {ps : List (Int × Int)} (ho : ps.all (okP n) = true) (ha : ascP ps = true) {i : Int} (hi : 0 ≤ i ∧ i < n) {u : Int} : u ∈ tdL ps i ↔ u ∈ nb (nearS n ps) i := by rw [tdL_mem, nb_iff ho ha hi]
theorem tdL_bd {n : Nat} {ps : List (Int × Int)} (ho : ps.all (okP n) = true) {i u : Int} (h : u ∈ tdL ps i) : 0 ≤ u ∧ u < n := by
  rcases tdL_mem.mp h with m | m
  all_goals
    have := okP_iff2.mp (List.all_eq_true.mp ho _ m)
    simp at this
    omega
def freeO (ps : List (Int × Int)) (k : Nat) (r : List (Option Int)) (i : Int) : List Int := (rngI k).filter fun c => !decide (some c ∈ (tdL ps i).map (co r))
theorem freeO_len (ps : List (Int × Int)) (k : Nat) (r : List (Option Int)) (i : Int) : (freeO ps k r i).length ≤ k := by
  unfold freeO
  refine Nat.le_trans (List.length_filter_le _ _) ?_
  simp [rngI]
def noneL (r : List (Option Int)) : List Int := (rngI r.length).filter fun i => decide (co r i = none)
def strokesL (ps : List (Int × Int)) (k : Nat) (r : List (Option Int)) : List (Int × Int) := (rngI r.length).flatMap fun i => if co r i = none then (freeO ps k r i).map fun c => (i, c) else []
theorem co_set {r : List (Option Int)} {i j : Int} {o : Option Int} (h0 : 0 ≤ i) (h1 : i < r.length) (h2 : 0 ≤ j) : co (r.set i.toNat o) j = if j = i then o else co r j := by
  unfold co
  by_cases e : j = i
  · subst e
    rw [List.getElem?_set_self (by omega), if_pos rfl]; rfl
  · rw [List.getElem?_set_ne (by omega), if_neg e]
theorem co_mem {r : List (Option Int)} {i : Int} (h0 : 0 ≤ i) (h1 : i < r.length) : co r i ∈ r := by
  unfold co
  have hx : i.toNat < r.length := by omega
  rw [List.getElem?_eq_getElem hx]
  exact List.getElem_mem hx
/-- a painting in part -/
structure Pr (n : Nat) (ps : List (Int × Int)) (k : Nat) (r : List (Option Int)) : Prop where
  len : r.length = n
  bd : ∀ c, some c ∈ r → 0 ≤ c ∧ c < k
  ne : ∀ p ∈ ps, ∀ c, co r p.1 = some c → co r p.2 ≠ some c
theorem Pr.set {n : Nat} {ps : List (Int × Int)} (ho : ps.all (okP n) = true) {k : Nat} {r : List (Option Int)} (h : Pr n ps k r) {i c : Int} (hi : 0 ≤ i ∧ i < n) (hc : c ∈ freeO ps k r i) : Pr n ps k (r.set i.toNat (some c)) := by
  have hl := h.len
  unfold freeO at hc
  rw [List.mem_filter, rngI_mem] at hc
  have hu : some c ∉ (tdL ps i).map (co r) := by simpa using hc.2
  rw [List.mem_map] at hu
  refine ⟨by rw [List.length_set, hl], fun x hx => ?_, fun p hp x hx => ?_⟩
  · rcases List.mem_or_eq_of_mem_set hx with hx | e
    · exact h.bd x hx
    · cases e
      exact hc.1
  · have hok := okP_iff2.mp (List.all_eq_true.mp ho p hp)
    rw [co_set hi.1 (by omega) hok.1] at hx
    rw [co_set hi.1 (by omega) (by omega)]
    by_cases e1 : p.1 = i
    · have e2 : p.2 ≠ i := by omega
      rw [if_pos e1] at hx
      cases hx
      rw [if_neg e2]
      exact fun e => hu ⟨p.2, tdL_mem.mpr (.inl (by rw [← e1]; exact hp)), e⟩
    · rw [if_neg e1] at hx
      by_cases e2 : p.2 = i
      · rw [if_pos e2]
        intro e
        cases e
        exact hu ⟨p.1, tdL_mem.mpr (.inr (by rw [← e2]; exact hp)), hx⟩
      · rw [if_neg e2]
        exact h.ne p hp x hx
/-- a row that goes on from what is painted -/
def Ext (r : List (Option Int)) (row : List Int) : Prop := ∀ i c, 0 ≤ i → i < (r.length : Int) → co r i = some c → cl row i = c
theorem Ext.free {n : Nat} {ps : List (Int × Int)} (ho : ps.all (okP n) = true) {k : Nat} {r : List (Option Int)} (hl : r.length = n) {row : List Int} (pt : Pt n ps k row) (h : Ext r row) {i : Int} (hi : 0 ≤ i ∧ i < n) : cl row i ∈ freeO ps k r i := by
  have hrl := pt.len
  unfold freeO
  rw [List.mem_filter, rngI_mem]
  refine ⟨pt.bd _ (cl_mem hi.1 (by omega)), ?_⟩
  simp only [Bool.not_eq_true', decide_eq_false_iff_not, List.mem_map, not_exists, not_and]
  intro u hu e
  have hub := tdL_bd ho hu
  have hcu := h u _ hub.1 (by omega) e
  rcases tdL_mem.mp hu with m | m
  · exact pt.ne _ m hcu.symm
  · exact pt.ne _ m hcu
theorem Ext.set {r : List (Option Int)} {row : List Int} {i : Int} (hi : 0 ≤ i ∧ i < (r.length : Int)) (hn : co r i = none) : Ext (r.set i.toNat (some (cl row i))) row ↔ Ext r row := by
  unfold Ext
  rw [List.length_set]
  constructor
  · intro h j c h0 h1 e
    refine h j c h0 h1 ?_
    rw [co_set hi.1 hi.2 h0]
    by_cases ej : j = i
    · subst ej
      rw [hn] at e
      cases e
    · rw [if_neg ej]; exact e
  · intro h j c h0 h1 e
    rw [co_set hi.1 hi.2 h0] at e
    by_cases ej : j = i
    · rw [if_pos ej] at e
      cases e
      rw [ej]
    · rw [if_neg ej] at e
      exact h j c h0 h1 e
/-! ### led on -/
def deadL (ps : List (Int × Int)) (k : Nat) (r : List (Option Int)) : List Int := (noneL r).filter fun i => decide (freeO ps k r i = [])
def singL (ps : List (Int × Int)) (k : Nat) (r : List (Option Int)) : List Int := (noneL r).filter fun i => decide ((freeO ps k r i).length = 1)
inductive Led (ps : List (Int × Int)) (k : Nat) : List (Option Int) → Int ⊕ List (Option Int) → Prop where
  | dead {r : List (Option Int)} {i : Int} {L : List Int} : deadL ps k r = i :: L → Led ps k r (.inl i)
  | done {r : List (Option Int)} : deadL ps k r = [] → singL ps k r = [] → Led ps k r (.inr r)
  | step {r : List (Option Int)} {i c : Int} {L : List Int} {res : Int ⊕ List (Option Int)} : deadL ps k r = [] → singL ps k r = i :: L → freeO ps k r i = [c] → Led ps k (r.set i.toNat (some c)) res → Led ps k r res
theorem noneL_mem {r : List (Option Int)} {i : Int} : i ∈ noneL r ↔ (0 ≤ i ∧ i < (r.length : Int)) ∧ co r i = none := by
  unfold noneL
  rw [List.mem_filter, rngI_mem, decide_eq_true_eq]
theorem noneL_set {r : List (Option Int)} {i c : Int} (h : i ∈ noneL r) : noneL (r.set i.toNat (some c)) = (noneL r).filter fun j => !decide (j = i) := by
  have hi := (noneL_mem.mp h).1
  unfold noneL
  rw [List.length_set, List.filter_filter]
  apply List.filter_congr
  intro j hj
  have hjb := rngI_mem.mp hj
  rw [co_set hi.1 hi.2 hjb.1]
  by_cases e : j = i
  · rw [if_pos e]; simp [e]
  · rw [if_neg e]; simp [e]
theorem noneL_lt {r : List (Option Int)} {i c : Int} (h : i ∈ noneL r) : (noneL (r.set i.toNat (some c))).length < (noneL r).length := by
  rw [noneL_set h]
  have key : ∀ L : List Int, i ∈ L → (L.filter fun j => !decide (j = i)).length < L.length := by
    intro L
    induction L with
    | nil => intro h; simp at h
    | cons x L ih =>
      intro h
      by_cases e : x = i
      · have := List.length_filter_le (fun j => !decide (j = i)) L
        rw [List.filter_cons_of_neg (by simp [e]), List.length_cons]
        omega
      · have := ih (by rcases List.mem_cons.mp h with h | h; exact absurd h.symm e; exact h)
        rw [List.filter_cons_of_pos (by simp [e]), List.length_cons, List.length_cons]
        omega
  exact key _ h
theorem sing_one {ps : List (Int × Int)} {k : Nat} {r : List (Option Int)} {i : Int} {L : List Int} (h : singL ps k r = i :: L) : i ∈ noneL r ∧ ∃ c, freeO ps k r i = [c] := by
  have m : i ∈ singL ps k r := by rw [h]; simp
  unfold singL at m
  rw [List.mem_filter, decide_eq_true_eq] at m
  exact ⟨m.1, List.length_eq_one_iff.mp m.2⟩
theorem led_ex (ps : List (Int × Int)) (k : Nat) : ∀ (m : Nat) (r : List (Option Int)), (noneL r).length ≤ m → ∃ res, Led ps k r res
  | m, r, h => by
    cases hd : deadL ps k r with
    | cons i L => exact ⟨_, .dead hd⟩
    | nil =>
      cases hs : singL ps k r with
      | nil => exact ⟨_, .done hd hs⟩
      | cons i L =>
        obtain ⟨hi, c, hc⟩ := sing_one hs
        have hlt := noneL_lt (c := c) hi
        cases m with
        | zero => omega
        | succ m =>
          obtain ⟨res, hr⟩ := led_ex ps k m (r.set i.toNat (some c)) (by omega)
          exact ⟨res, .step hd hs hc hr⟩
theorem Led.props {n : Nat} {ps : List (Int × Int)} (ho : ps.all (okP n) = true) {k : Nat} {r : List (Option Int)} {res : Int ⊕ List (Option Int)} (h : Led ps k r res) : Pr n ps k r →
    (∀ i, res = .inl i → ∀ row, Pt n ps k row → ¬ Ext r row) ∧ (∀ r', res = .inr r' → Pr n ps k r' ∧ (∀ row, Pt n ps k row → (Ext r row ↔ Ext r' row)) ∧ Led ps k r' (.inr r')) := by
  induction h with
  | @dead r i L hd =>
    intro pr
    refine ⟨fun j e row pt ex => ?_, fun r' e => by cases e⟩
    have m : i ∈ deadL ps k r := by rw [hd]; simp
    unfold deadL at m
    rw [List.mem_filter, decide_eq_true_eq, noneL_mem] at m
    have := Ext.free ho pr.len pt ex (i := i) (by have := pr.len; omega)
    rw [m.2] at this
    simp at this
  | @done r hd hs =>
    intro pr
    refine ⟨fun j e => (nomatch e), fun r' e => ?_⟩
    cases e
    exact ⟨pr, fun row _ => Iff.rfl, .done hd hs⟩
  | @step r i c L res hd hs hc hr ih =>
    intro pr
    obtain ⟨hi, _⟩ := sing_one hs
    have hib := noneL_mem.mp hi
    have hl := pr.len
    have pr2 : Pr n ps k (r.set i.toNat (some c)) := pr.set ho (by omega) (by rw [hc]; simp)
    obtain ⟨h1, h2⟩ := ih pr2
    have key : ∀ row, Pt n ps k row → (Ext r row ↔ Ext (r.set i.toNat (some c)) row) := fun row pt => by
      constructor
      · intro ex
        have := Ext.free ho hl pt ex (i := i) (by omega)
        rw [hc, List.mem_singleton] at this
        rw [← this]
        exact (Ext.set hib.1 hib.2).mpr ex
      · intro ex
        have e : cl row i = c := ex i c hib.1.1 (by rw [List.length_set]; exact hib.1.2) (by rw [co_set hib.1.1 hib.1.2 hib.1.1, if_pos rfl])
        rw [← e] at ex
        exact (Ext.set hib.1 hib.2).mp ex
    refine ⟨fun j e row pt ex => h1 j e row pt ((key row pt).mp ex), fun r' e => ?_⟩
    obtain ⟨q1, q2, q3⟩ := h2 r' e
    exact ⟨q1, fun row pt => (key row pt).trans (q2 row pt), q3⟩
/-! ### all paintings: every one, each once -/
theorem cl_take {row : List Int} {i : Nat} {j : Int} (h0 : 0 ≤ j) (h1 : j < i) : cl (row.take i) j = cl row j := by
  unfold cl
  rw [List.getElem?_take_of_lt (by omega)]
theorem paints_all {n : Nat} {ps : List (Int × Int)} (ho : ps.all (okP n) = true) (ha : ascP ps = true) {k : Nat} {row : List Int} (pt : Pt n ps k row) : ∀ i : Nat, i ≤ n → row.take i ∈ paintsL (nearS n ps) k i
  | 0, _ => by simp [paintsL]
  | i + 1, h => by
    have ih := paints_all ho ha pt i (by omega)
    have hl := pt.len
    rw [paintsL, List.mem_flatMap]
    refine ⟨row.take i, ih, ?_⟩
    unfold longerL
    rw [List.mem_map]
    have hi : i < row.length := by omega
    have ec : row[i] = cl row (i : Int) := by
      unfold cl
      rw [Int.toNat_natCast, List.getElem?_eq_getElem hi]
      rfl
    refine ⟨cl row (i : Int), ?_, ?_⟩
    · rw [List.mem_filter, rngI_mem]
      refine ⟨pt.bd _ (cl_mem (by omega) (by omega)), ?_⟩
      simp only [Bool.not_eq_true', decide_eq_false_iff_not, List.mem_map, List.mem_filter, decide_eq_true_eq, not_exists, not_and]
      rintro u ⟨hu, hlt⟩ e
      have hub := (near_Gr ho ha).bd _ (nb_mem hu) _ hu
      rw [cl_take hub.1 hlt] at e
      rcases (nb_iff ho ha ⟨by omega, by omega⟩).mp hu with m | m
      · exact pt.ne _ m e.symm
      · exact pt.ne _ m e
    · rw [← ec, List.take_add_one, List.getElem?_eq_getElem hi]
      rfl
theorem paints_mem {n : Nat} {ps : List (Int × Int)} (ho : ps.all (okP n) = true) (ha : ascP ps = true) {k : Nat} {row : List Int} : row ∈ paintsL (nearS n ps) k n ↔ Pt n ps k row := by
  constructor
  · exact fun h => (paints_pp ho ha k n (Nat.le_refl _) row h).pt ho
  · intro pt
    have := paints_all ho ha pt n (Nat.le_refl _)
    rwa [List.take_of_length_le (by have := pt.len; omega)] at this
theorem paints_nd (near : List (List Int)) (k : Nat) : ∀ i, (paintsL near k i).Nodup
  | 0 => by simp [paintsL]
  | i + 1 => by
    have ih := paints_nd near k i
    rw [paintsL]
    unfold List.flatMap
    have hlast : ∀ r x, x ∈ longerL near k i r → x.dropLast = r := by
      intro r x hx
      unfold longerL at hx
      obtain ⟨c, _, rfl⟩ := List.mem_map.mp hx
      simp
    have key : ∀ L : List (List Int), L.Nodup → ((L.map (longerL near k i)).flatten).Nodup := by
      intro L
      induction L with
      | nil => intro _; simp
      | cons r L ihL =>
        intro h
        rw [List.nodup_cons] at h
        rw [List.map_cons, List.flatten_cons, List.nodup_append]
        refine ⟨?_, ihL h.2, ?_⟩
        · unfold longerL
          rw [List.Nodup, List.pairwise_map]
          refine ((rngI_nd k).filter _).imp ?_
          intro a b hab e
          exact hab (by simpa using e)
        · intro a ha b hb e
          subst e
          rw [List.mem_flatten] at hb
          obtain ⟨l, hl, hm⟩ := hb
          obtain ⟨r2, hr2, rfl⟩ := List.mem_map.mp hl
          have e1 := hlast r a ha
          have e2 := hlast r2 a hm
          rw [e1] at e2
          rw [← e2] at hr2
          exact h.1 hr2
    exact key _ ih
/-- a list without repeats of which just one is let -/
theorem filter_one {α : Type} {p : α → Bool} {x : α} : ∀ {L : List α}, L.Nodup → x ∈ L → p x = true → (∀ y ∈ L, p y = true → y = x) → L.filter p = [x]
  | [], _, h, _, _ => by simp at h
  | y :: L, nd, h, hp, hu => by
    rw [List.nodup_cons] at nd
    by_cases e : y = x
    · subst e
      have : L.filter p = [] := by
        rw [List.filter_eq_nil_iff]
        intro z hz hpz
        have := hu z (List.mem_cons_of_mem _ hz) hpz
        subst this
        exact nd.1 hz
      rw [List.filter_cons_of_pos hp, this]
    · have hy : ¬ p y = true := fun hpy => e (hu y List.mem_cons_self hpy)
      rw [List.filter_cons_of_neg hy]
      refine filter_one nd.2 ?_ hp fun z hz => hu z (List.mem_cons_of_mem _ hz)
      rcases List.mem_cons.mp h with h | h
      · exact absurd h.symm e
      · exact h
end Twl

/-! TL47: the plain side: fillings of a sheet, in their order. -/
namespace Twl
open PySem PySem.Spec PyProof.Rows L2
theorem sorted_ext {α : Type} {R : α → α → Prop} (as : ∀ a b, R a b → ¬ R b a) : ∀ {L M : List α}, L.Pairwise R → M.Pairwise R → (∀ x, x ∈ L ↔ x ∈ M) → L = M
  | [], [], _, _, _ => rfl
  | [], b :: M, _, _, h => by have := (h b).mpr List.mem_cons_self; simp at this
  | a :: L, [], _, _, h => by have := (h a).mp List.mem_cons_self; simp at this
  | a :: L, b :: M, hL, hM, h => by
    rw [List.pairwise_cons] at hL hM
    have e : a = b := by
      rcases List.mem_cons.mp ((h a).mp List.mem_cons_self) with e | ha
      · exact e
      · rcases List.mem_cons.mp ((h b).mpr List.mem_cons_self) with e | hb
        · exact e.symm
        · exact absurd (hL.1 b hb) (as b a (hM.1 a ha))
    subst e
    rw [sorted_ext as hL.2 hM.2 fun x => ?_]
    constructor
    · intro hx
      rcases List.mem_cons.mp ((h x).mp (List.mem_cons_of_mem _ hx)) with e | hx2
      · subst e
        exact absurd (hL.1 x hx) (fun r => as x x r r)
      · exact hx2
    · intro hx
      rcases List.mem_cons.mp ((h x).mpr (List.mem_cons_of_mem _ hx)) with e | hx2
      · subst e
        exact absurd (hM.1 x hx) (fun r => as x x r r)
      · exact hx2
/-- by the first place where they part -/
def lxR (a b : List Int) : Prop := ∃ j : Nat, j < a.length ∧ j < b.length ∧ (∀ i : Nat, i < j → cl a i = cl b i) ∧ cl a j < cl b j
theorem lxR_as (a b : List Int) (h : lxR a b) : ¬ lxR b a := by
  rintro ⟨j2, _, _, h3, h4⟩
  obtain ⟨j1, _, _, h1, h2⟩ := h
  rcases Nat.lt_trichotomy j1 j2 with c | c | c
  · have := h3 j1 c
    omega
  · subst c
    omega
  · have := h1 j2 c
    omega
theorem lxR_app {a b : List Int} {c d : Int} (h : lxR a b) : lxR (a ++ [c]) (b ++ [d]) := by
  obtain ⟨j, h1, h2, h3, h4⟩ := h
  refine ⟨j, by simp; omega, by simp; omega, fun i hi => ?_, ?_⟩
  · rw [clA_lt (by omega) (by omega), clA_lt (by omega) (by omega)]
    exact h3 i hi
  · rw [clA_lt (by omega) (by omega), clA_lt (by omega) (by omega)]
    exact h4
theorem rngI_lt (n : Nat) : (rngI n).Pairwise (· < ·) := by
  unfold rngI
  rw [List.pairwise_map]
  exact List.pairwise_lt_range.imp fun hl => by omega
theorem pw_flat {α β : Type} {R : β → β → Prop} {f : α → List β} : ∀ {L : List α}, (∀ a ∈ L, (f a).Pairwise R) → L.Pairwise (fun a b => ∀ x ∈ f a, ∀ y ∈ f b, R x y) → (L.flatMap f).Pairwise R
  | [], _, _ => by simp
  | a :: L, h1, h2 => by
    rw [List.pairwise_cons] at h2
    rw [List.flatMap_cons, List.pairwise_append]
    refine ⟨h1 a List.mem_cons_self, pw_flat (fun b hb => h1 b (List.mem_cons_of_mem _ hb)) h2.2, fun x hx y hy => ?_⟩
    obtain ⟨b, hb, hy⟩ := List.mem_flatMap.mp hy
    exact h2.1 b hb x hx y hy
theorem paints_lx (near : List (List Int)) (k : Nat) : ∀ i, (paintsL near k i).Pairwise lxR
  | 0 => by simp [paintsL]
  | i + 1 => by
    have ih := paints_lx near k i
    rw [paintsL]
    refine pw_flat (fun r hr => ?_) (ih.imp fun {a b} hab => ?_)
    · unfold longerL
      rw [List.pairwise_map]
      refine ((rngI_lt k).filter _).imp fun {c d} hcd => ?_
      refine ⟨r.length, by simp, by simp, fun i hi => ?_, ?_⟩
      · rw [clA_lt (by omega) (by omega), clA_lt (by omega) (by omega)]
      · rw [clA_eq, clA_eq]
        exact hcd
    · intro x hx y hy
      unfold longerL at hx hy
      obtain ⟨c, _, rfl⟩ := List.mem_map.mp hx
      obtain ⟨d, _, rfl⟩ := List.mem_map.mp hy
      exact lxR_app hab
/-! ### the walk in depth -/
def unO (r : List (Option Int)) : List Int := r.map fun o => o.getD 0
def flR (ps : List (Int × Int)) (k : Nat) : Nat → List (Option Int) → List (List Int)
  | 0, r => [unO r]
  | m + 1, r => match noneL r with
    | [] => [unO r]
    | i :: _ => (freeO ps k r i).flatMap fun c => flR ps k m (r.set i.toNat (some c))
theorem unO_cl {r : List (Option Int)} (h : noneL r = []) {i : Int} (h0 : 0 ≤ i) (h1 : i < (r.length : Int)) : co r i = some (cl (unO r) i) := by
  obtain ⟨x, rfl⟩ := Int.eq_ofNat_of_zero_le h0
  have hx : x < r.length := by omega
  have hget : co r (x : Int) = r[x] := by
    unfold co
    rw [Int.toNat_natCast, List.getElem?_eq_getElem hx]
    rfl
  cases e : co r (x : Int) with
  | none =>
    have : (x : Int) ∈ noneL r := noneL_mem.mpr ⟨⟨h0, h1⟩, e⟩
    rw [h] at this
    simp at this
  | some c =>
    rw [hget] at e
    unfold cl unO
    rw [Int.toNat_natCast, List.getElem?_map, List.getElem?_eq_getElem hx, e]
    rfl
theorem unO_eq {r : List (Option Int)} (h : noneL r = []) : r = (unO r).map some := by
  apply List.ext_getElem
  · simp [unO]
  · intro i h1 h2
    have := unO_cl h (i := (i : Int)) (by omega) (by omega)
    unfold co cl at this
    rw [Int.toNat_natCast, List.getElem?_eq_getElem h1] at this
    have hu : i < (unO r).length := by simpa [unO] using h1
    rw [List.getElem?_eq_getElem hu] at this
    simp at this
    rw [List.getElem_map]
    exact this
theorem noneL_lt1 {r : List (Option Int)} {i : Int} {L : List Int} (h : noneL r = i :: L) : ∀ j, 0 ≤ j → j < i → co r j ≠ none := by
  intro j h0 h1 e
  have hi : i ∈ noneL r := by rw [h]; simp
  have hib := (noneL_mem.mp hi).1
  have hj : j ∈ noneL r := noneL_mem.mpr ⟨⟨h0, by omega⟩, e⟩
  have pw : (noneL r).Pairwise (· < ·) := (rngI_lt _).filter _
  rw [h] at pw hj
  rw [List.pairwise_cons] at pw
  rcases List.mem_cons.mp hj with e2 | hj
  · omega
  · have := pw.1 j hj
    omega
theorem row_ext {a b : List Int} (hl : a.length = b.length) (h : ∀ i : Int, 0 ≤ i → i < (a.length : Int) → cl a i = cl b i) : a = b := by
  apply List.ext_getElem hl
  intro i h1 h2
  have := h i (by omega) (by omega)
  unfold cl at this
  rw [Int.toNat_natCast, List.getElem?_eq_getElem h1, List.getElem?_eq_getElem h2] at this
  simpa using this
theorem Ext.of_set {r : List (Option Int)} {row : List Int} {i c : Int} (hi : 0 ≤ i ∧ i < (r.length : Int)) (hn : co r i = none) (h : Ext (r.set i.toNat (some c)) row) : cl row i = c ∧ Ext r row := by
  have ec : cl row i = c := h i c hi.1 (by rw [List.length_set]; exact hi.2) (by rw [co_set hi.1 hi.2 hi.1, if_pos rfl])
  refine ⟨ec, ?_⟩
  rw [← ec] at h
  exact (Ext.set hi hn).mp h
theorem flR_mem {n : Nat} {ps : List (Int × Int)} (ho : ps.all (okP n) = true) {k : Nat} : ∀ (m : Nat) (r : List (Option Int)), Pr n ps k r → (noneL r).length ≤ m → ∀ row, row ∈ flR ps k m r ↔ Pt n ps k row ∧ Ext r row := by
  have full : ∀ r, Pr n ps k r → noneL r = [] → ∀ row, row = unO r ↔ Pt n ps k row ∧ Ext r row := fun r pr hn row => by
    have hl := pr.len
    constructor
    · rintro rfl
      refine ⟨⟨by simp [unO, hl], fun x hx => ?_, fun p hp => ?_⟩, fun i c h0 h1 e => ?_⟩
      · refine pr.bd x ?_
        rw [unO_eq hn]
        exact List.mem_map.mpr ⟨x, hx, rfl⟩
      · have hok := okP_iff2.mp (List.all_eq_true.mp ho p hp)
        have := pr.ne p hp _ (unO_cl hn hok.1 (by omega))
        rw [unO_cl hn (by omega) (by omega)] at this
        exact fun e => this (by rw [e])
      · rw [unO_cl hn h0 h1] at e
        exact Option.some.inj e
    · rintro ⟨pt, ex⟩
      refine row_ext (by rw [pt.len]; simp [unO, hl]) fun i h0 h1 => ?_
      rw [pt.len] at h1
      exact ex i _ h0 (by omega) (unO_cl hn h0 (by omega))
  intro m
  induction m with
  | zero =>
    intro r pr hm row
    rw [flR, List.mem_singleton]
    exact full r pr (List.eq_nil_of_length_eq_zero (by omega)) row
  | succ m ih =>
    intro r pr hm row
    rw [flR]
    cases hn : noneL r with
    | nil =>
      dsimp only
      rw [List.mem_singleton]
      exact full r pr hn row
    | cons i L =>
      dsimp only
      have hi : i ∈ noneL r := by rw [hn]; simp
      obtain ⟨hib, hin⟩ := noneL_mem.mp hi
      have hl := pr.len
      have hlt : ∀ c, (noneL (r.set i.toNat (some c))).length ≤ m := fun c => by
        have := noneL_lt (c := c) hi
        omega
      rw [List.mem_flatMap]
      constructor
      · rintro ⟨c, hc, hr⟩
        obtain ⟨pt, ex⟩ := (ih _ (pr.set ho (by omega) hc) (hlt c) row).mp hr
        exact ⟨pt, (Ext.of_set hib hin ex).2⟩
      · rintro ⟨pt, ex⟩
        have hc := Ext.free ho hl pt ex (i := i) (by omega)
        exact ⟨_, hc, (ih _ (pr.set ho (by omega) hc) (hlt _) row).mpr ⟨pt, (Ext.set hib hin).mpr ex⟩⟩
theorem flR_lx {n : Nat} {ps : List (Int × Int)} (ho : ps.all (okP n) = true) {k : Nat} : ∀ (m : Nat) (r : List (Option Int)), Pr n ps k r → (noneL r).length ≤ m → (flR ps k m r).Pairwise lxR := by
  intro m
  induction m with
  | zero => intro r _ _; simp [flR]
  | succ m ih =>
    intro r pr hm
    rw [flR]
    cases hn : noneL r with
    | nil => simp
    | cons i L =>
      dsimp only
      have hi : i ∈ noneL r := by rw [hn]; simp
      obtain ⟨hib, hin⟩ := noneL_mem.mp hi
      have hl := pr.len
      have hlt : ∀ c, (noneL (r.set i.toNat (some c))).length ≤ m := fun c => by
        have := noneL_lt (c := c) hi
        omega
      refine pw_flat (fun c hc => ih _ (pr.set ho (by omega) hc) (hlt c)) ?_
      have pwf : (freeO ps k r i).Pairwise (· < ·) := (rngI_lt k).filter _
      refine List.Pairwise.imp_of_mem (fun {c d} hc hd hcd x hx y hy => ?_) pwf
      obtain ⟨ptx, exx⟩ := (flR_mem ho m _ (pr.set ho (by omega) hc) (hlt c) x).mp hx
      obtain ⟨pty, exy⟩ := (flR_mem ho m _ (pr.set ho (by omega) hd) (hlt d) y).mp hy
      obtain ⟨ec, ex1⟩ := Ext.of_set hib hin exx
      obtain ⟨ed, ey1⟩ := Ext.of_set hib hin exy
      obtain ⟨z, rfl⟩ := Int.eq_ofNat_of_zero_le hib.1
      refine ⟨z, by rw [ptx.len]; omega, by rw [pty.len]; omega, fun j hj => ?_, by rw [ec, ed]; exact hcd⟩
      cases e : co r (j : Int) with
      | none => exact absurd e (noneL_lt1 hn j (by omega) (by omega))
      | some v => rw [ex1 j v (by omega) (by omega) e, ey1 j v (by omega) (by omega) e]
/-- fillings: of the row itself -/
def FR (ps : List (Int × Int)) (k : Nat) (r : List (Option Int)) : List (List Int) := flR ps k (noneL r).length r
theorem FR_full {ps : List (Int × Int)} {k : Nat} {r : List (Option Int)} (h : noneL r = []) : FR ps k r = [unO r] := by
  unfold FR
  rw [h]
  rfl
theorem FR_step {ps : List (Int × Int)} {k : Nat} {r : List (Option Int)} {i : Int} {L : List Int} (h : noneL r = i :: L) : FR ps k r = (freeO ps k r i).flatMap fun c => FR ps k (r.set i.toNat (some c)) := by
  have hi : i ∈ noneL r := by rw [h]; simp
  have hlen : ∀ c, (noneL (r.set i.toNat (some c))).length = L.length := fun c => by
    rw [noneL_set hi]
    have nd : (noneL r).Nodup := (rngI_nd _).filter _
    rw [h, List.nodup_cons] at nd
    rw [h, List.filter_cons_of_neg (by simp), List.filter_eq_self.mpr]
    intro j hj
    have : j ≠ i := fun e => nd.1 (e ▸ hj)
    simpa using this
  unfold FR
  conv => lhs; rw [h, List.length_cons, flR, h]
  dsimp only
  congr 1
  funext c
  rw [hlen c]
theorem FR_eq {n : Nat} {ps : List (Int × Int)} (ho : ps.all (okP n) = true) (ha : ascP ps = true) {k : Nat} {r : List (Option Int)} (pr : Pr n ps k r) {p : List Int → Bool} (hp : ∀ row, Pt n ps k row → (p row = true ↔ Ext r row)) : FR ps k r = (paintsL (nearS n ps) k n).filter p := by
  refine sorted_ext lxR_as (flR_lx ho _ _ pr (Nat.le_refl _)) ((paints_lx _ _ _).filter _) fun row => ?_
  rw [List.mem_filter, paints_mem ho ha]
  have := flR_mem ho _ _ pr (Nat.le_refl _) row
  unfold FR
  rw [this]
  constructor
  · rintro ⟨pt, ex⟩
    exact ⟨pt, (hp row pt).mpr ex⟩
  · rintro ⟨pt, h⟩
    exact ⟨pt, (hp row pt).mp h⟩
end Twl

/-! TL48: sorted of tuples whose firsts are ints. -/
namespace Twl
open PySem PySem.Spec PyProof.Rows L2
mutual
def T.cod : T → List Int
  | .int i => [1, i]
  | .tup ts => 2 :: (T.cods ts ++ [0])
  | _ => []
termination_by structural t => t
def T.cods : List T → List Int
  | [] => []
  | t :: ts => T.cod t ++ T.cods ts
termination_by structural ts => ts
end
mutual
def T.pur : T → Bool
  | .int _ => true
  | .tup ts => T.purs ts
  | _ => false
termination_by structural t => t
def T.purs : List T → Bool
  | [] => true
  | t :: ts => T.pur t && T.purs ts
termination_by structural ts => ts
end
theorem purs_all : ∀ {ts : List T}, T.purs ts = true ↔ ∀ t ∈ ts, t.pur = true
  | [] => by simp [T.purs]
  | t :: ts => by rw [T.purs, Bool.and_eq_true, purs_all]; simp
theorem eqv_tup (xs ys : List T) : (T.tup xs).eqv (.tup ys) = PyData.eqvAll (T.pds xs) (T.pds ys) := by
  unfold T.eqv; rw [T.pd, T.pd]; simp only [PyData.eqv]
theorem eqv_int_tup (i : Int) (ys : List T) : (T.int i).eqv (.tup ys) = false := by
  unfold T.eqv; rw [T.pd, T.pd]; simp [PyData.eqv]
theorem eqv_tup_int (i : Int) (ys : List T) : (T.tup ys).eqv (.int i) = false := by
  unfold T.eqv; rw [T.pd, T.pd]; simp [PyData.eqv]
mutual
theorem eqv_pur : ∀ (t u : T), t.pur = true → u.pur = true → (t.eqv u = true ↔ t = u)
  | .int i, u, _, h => by
    cases u with
    | int j => rw [eqv_int]; simp
    | tup ys => rw [eqv_int_tup]; simp
    | _ => simp [T.pur] at h
  | .tup xs, u, h1, h2 => by
    cases u with
    | int j => rw [eqv_tup_int]; simp
    | tup ys => rw [eqv_tup, eqvs_pur xs ys (by rw [T.pur] at h1; exact h1) (by rw [T.pur] at h2; exact h2)]; simp
    | _ => simp [T.pur] at h2
  | .non, _, h, _ | .bl _, _, h, _ | .str _, _, h, _ | .lst _, _, h, _ | .dk _ _, _, h, _ | .dt _ _, _, h, _ | .ty _, _, h, _ | .glob _, _, h, _ | .hand, _, h, _ => by simp [T.pur] at h
termination_by structural t => t
theorem eqvs_pur : ∀ (xs ys : List T), T.purs xs = true → T.purs ys = true → (PyData.eqvAll (T.pds xs) (T.pds ys) = true ↔ xs = ys)
  | [], [], _, _ => by simp [T.pds, PyData.eqvAll]
  | [], y :: ys, _, _ => by simp [T.pds, PyData.eqvAll]
  | x :: xs, [], _, _ => by simp [T.pds, PyData.eqvAll]
  | x :: xs, y :: ys, h1, h2 => by
    rw [T.purs, Bool.and_eq_true] at h1 h2
    have a := eqv_pur x y h1.1 h2.1
    have b := eqvs_pur xs ys h1.2 h2.2
    rw [T.pds, T.pds, PyData.eqvAll, Bool.and_eq_true, b]
    unfold T.eqv at a
    rw [a]; simp
termination_by structural xs => xs
end
/-! ### the order of words -/
def lexI : List Int → List Int → Bool
  | [], [] => false
  | [], _ :: _ => true
  | _ :: _, [] => false
  | x :: xs, y :: ys => if x = y then lexI xs ys else decide (x < y)
theorem lexI_cons (x y : Int) (xs ys : List Int) : lexI (x :: xs) (y :: ys) = if x = y then lexI xs ys else decide (x < y) := by rw [lexI]
theorem lexI_irr : ∀ xs : List Int, lexI xs xs = false
  | [] => rfl
  | x :: xs => by rw [lexI_cons, if_pos rfl]; exact lexI_irr xs
theorem lexI_as : ∀ (xs ys : List Int), lexI xs ys = true → lexI ys xs = false
  | [], [], h => by simp [lexI] at h
  | [], y :: ys, _ => by simp [lexI]
  | x :: xs, [], h => by simp [lexI] at h
  | x :: xs, y :: ys, h => by
    rw [lexI_cons] at h ⊢
    by_cases e : x = y
    · rw [if_pos e] at h; rw [if_pos e.symm]; exact lexI_as xs ys h
    · rw [if_neg e] at h; rw [if_neg (Ne.symm e)]
      have := of_decide_eq_true h
      exact decide_eq_false (by omega)
theorem lexI_tr : ∀ (xs ys zs : List Int), lexI ys xs = false → lexI zs ys = false → lexI zs xs = false
  | [], [], zs, _, h => h
  | [], y :: ys, zs, _, h => by cases zs with | nil => rfl | cons z zs => simp [lexI]
  | x :: xs, [], zs, h, _ => by simp [lexI] at h
  | x :: xs, y :: ys, [], h1, h2 => by simp [lexI] at h2
  | x :: xs, y :: ys, z :: zs, h1, h2 => by
    rw [lexI_cons] at h1 h2 ⊢
    by_cases a : y = x
    · by_cases b : z = y
      · rw [if_pos a] at h1; rw [if_pos b] at h2; rw [if_pos (b.trans a)]; exact lexI_tr xs ys zs h1 h2
      · rw [if_neg b] at h2
        have := of_decide_eq_false h2
        rw [if_neg (by omega)]; exact decide_eq_false (by omega)
    · rw [if_neg a] at h1
      have q1 := of_decide_eq_false h1
      by_cases b : z = y
      · rw [if_neg (by omega)]; exact decide_eq_false (by omega)
      · rw [if_neg b] at h2
        have := of_decide_eq_false h2
        rw [if_neg (by omega)]; exact decide_eq_false (by omega)
theorem lexI_eq : ∀ (xs ys : List Int), lexI xs ys = false → lexI ys xs = false → xs = ys
  | [], [], _, _ => rfl
  | [], y :: ys, h, _ => by simp [lexI] at h
  | x :: xs, [], _, h => by simp [lexI] at h
  | x :: xs, y :: ys, h1, h2 => by
    rw [lexI_cons] at h1 h2
    by_cases e : x = y
    · rw [if_pos e] at h1; rw [if_pos e.symm] at h2; rw [e, lexI_eq xs ys h1 h2]
    · rw [if_neg e] at h1; rw [if_neg (Ne.symm e)] at h2
      have := of_decide_eq_false h1; have := of_decide_eq_false h2; omega
theorem lexI_app : ∀ (xs r s : List Int), lexI (xs ++ r) (xs ++ s) = lexI r s
  | [], _, _ => rfl
  | x :: xs, r, s => by rw [List.cons_append, List.cons_append, lexI_cons, if_pos rfl]; exact lexI_app xs r s
/-! ### a tree's word -/
mutual
theorem cod_inj : ∀ (t u : T) (r s : List Int), t.pur = true → u.pur = true → t.cod ++ r = u.cod ++ s → t = u ∧ r = s
  | .int i, u, r, s, _, p, h => by
    cases u with
    | int j =>
      rw [T.cod, T.cod] at h
      simp at h
      exact ⟨by rw [h.1], h.2⟩
    | tup ys => rw [T.cod, T.cod] at h; simp at h
    | _ => simp [T.pur] at p
  | .tup xs, u, r, s, h1, h2, h => by
    cases u with
    | int j => rw [T.cod, T.cod] at h; simp at h
    | tup ys =>
      rw [T.cod, T.cod] at h
      simp only [List.cons_append, List.cons.injEq, List.append_assoc, true_and, List.nil_append] at h
      rw [T.pur] at h1 h2
      obtain ⟨a, b⟩ := cods_inj xs ys r s h1 h2 h
      exact ⟨by rw [a], b⟩
    | _ => simp [T.pur] at h2
  | .non, _, _, _, h, _, _ | .bl _, _, _, _, h, _, _ | .str _, _, _, _, h, _, _ | .lst _, _, _, _, h, _, _ | .dk _ _, _, _, _, h, _, _ | .dt _ _, _, _, _, h, _, _ | .ty _, _, _, _, h, _, _ | .glob _, _, _, _, h, _, _ | .hand, _, _, _, h, _, _ => by simp [T.pur] at h
termination_by structural t => t
theorem cods_inj : ∀ (xs ys : List T) (r s : List Int), T.purs xs = true → T.purs ys = true → T.cods xs ++ 0 :: r = T.cods ys ++ 0 :: s → xs = ys ∧ r = s
  | [], [], r, s, _, _, h => by rw [T.cods] at h; simpa using h
  | [], y :: ys, r, s, _, h2, h => by
    rw [T.purs, Bool.and_eq_true] at h2
    rw [T.cods, T.cods] at h
    cases y <;> simp [T.cod, T.pur] at h h2
  | x :: xs, [], r, s, h2, _, h => by
    rw [T.purs, Bool.and_eq_true] at h2
    rw [T.cods, T.cods] at h
    cases x <;> simp [T.cod, T.pur] at h h2
  | x :: xs, y :: ys, r, s, h1, h2, h => by
    rw [T.purs, Bool.and_eq_true] at h1 h2
    rw [T.cods, T.cods, List.append_assoc, List.append_assoc] at h
    obtain ⟨a, b⟩ := cod_inj x y _ _ h1.1 h2.1 h
    obtain ⟨c, d⟩ := cods_inj xs ys r s h1.2 h2.2 b
    exact ⟨by rw [a, c], d⟩
termination_by structural xs => xs
end
theorem rel_int (i j : Int) : T.rel .Lt (.int i) (.int j) = decide (i < j) := by rw [T.rel]; rfl
theorem rel_tup (xs ys : List T) : T.rel .Lt (.tup xs) (.tup ys) = T.rels .Lt xs ys := by rw [T.rel]
theorem rels_refl : ∀ xs : List T, T.purs xs = true → T.rels .Lt xs xs = false
  | [], _ => by rw [T.rels]; simp [cI]
  | x :: xs, h => by
    rw [T.purs, Bool.and_eq_true] at h
    rw [T.rels, if_pos ((eqv_pur x x h.1 h.1).mpr rfl)]
    exact rels_refl xs h.2
mutual
theorem cod_lt : ∀ (t u : T) (r s : List Int), t.pur = true → u.pur = true → t ≠ u → T.cmp .Lt t u = true → lexI (t.cod ++ r) (u.cod ++ s) = T.rel .Lt t u
  | .int i, u, r, s, _, p, n, h => by
    cases u with
    | int j =>
      rw [T.cod, T.cod, rel_int]
      simp only [List.cons_append, List.nil_append, lexI_cons, if_true]
      rw [if_neg (fun e => n (by rw [e]))]
    | tup ys => simp [T.cmp] at h
    | _ => simp [T.pur] at p
  | .tup xs, u, r, s, h1, h2, n, h => by
    cases u with
    | int j => simp [T.cmp] at h
    | tup ys =>
      rw [T.pur] at h1 h2
      rw [T.cod, T.cod, rel_tup]
      simp only [List.cons_append, List.append_assoc, List.nil_append]
      rw [lexI_cons, if_pos rfl]
      rw [T.cmp] at h
      exact cods_lt xs ys r s h1 h2 (fun e => n (by rw [e])) h
    | _ => simp [T.pur] at h2
  | .non, _, _, _, h, _, _, _ | .bl _, _, _, _, h, _, _, _ | .str _, _, _, _, h, _, _, _ | .lst _, _, _, _, h, _, _, _ | .dk _ _, _, _, _, h, _, _, _ | .dt _ _, _, _, _, h, _, _, _ | .ty _, _, _, _, h, _, _, _ | .glob _, _, _, _, h, _, _, _ | .hand, _, _, _, h, _, _, _ => by simp [T.pur] at h
termination_by structural t => t
theorem cods_lt : ∀ (xs ys : List T) (r s : List Int), T.purs xs = true → T.purs ys = true → xs ≠ ys → T.cmps .Lt xs ys = true → lexI (T.cods xs ++ 0 :: r) (T.cods ys ++ 0 :: s) = T.rels .Lt xs ys
  | [], [], r, s, _, _, n, _ => (n rfl).elim
  | [], y :: ys, r, s, _, h2, _, _ => by
    rw [T.purs, Bool.and_eq_true] at h2
    rw [T.cods, T.cods, T.rels]
    cases y <;> simp [T.cod, T.pur, lexI_cons, cI] at h2 ⊢ <;> omega
  | x :: xs, [], r, s, h2, _, _, _ => by
    rw [T.purs, Bool.and_eq_true] at h2
    rw [T.cods, T.cods, T.rels]
    cases x <;> simp [T.cod, T.pur, lexI_cons, cI] at h2 ⊢ <;> omega
  | x :: xs, y :: ys, r, s, h1, h2, n, h => by
    rw [T.purs, Bool.and_eq_true] at h1 h2
    rw [T.cods, T.cods, List.append_assoc, List.append_assoc]
    rw [T.cmps, Bool.and_eq_true, Bool.or_eq_true, eqv_pur x y h1.1 h2.1] at h
    rw [T.rels]
    by_cases e : x = y
    · subst e
      rw [if_pos ((eqv_pur x x h1.1 h1.1).mpr rfl), lexI_app]
      exact cods_lt xs ys r s h1.2 h2.2 (fun z => n (by rw [z])) h.2
    · rw [if_neg (fun z => e ((eqv_pur x y h1.1 h2.1).mp z))]
      exact cod_lt x y _ _ h1.1 h2.1 e (h.1.resolve_left e)
termination_by structural xs => xs
end
theorem rel_refl {t : T} (h : t.pur = true) : T.rel .Lt t t = false := by
  cases t with
  | int i => rw [rel_int]; simp
  | tup ts => rw [rel_tup]; rw [T.pur] at h; exact rels_refl ts h
  | _ => simp [T.pur] at h
theorem cod_rel {t u : T} (h1 : t.pur = true) (h2 : u.pur = true) (h : t = u ∨ T.cmp .Lt t u = true) : lexI t.cod u.cod = T.rel .Lt t u := by
  by_cases e : t = u
  · subst e; rw [lexI_irr, rel_refl h1]
  · have := cod_lt t u [] [] h1 h2 e (h.resolve_left e)
    rw [List.append_nil, List.append_nil] at this
    exact this

/-! ### the rule -/
def sortX (ts : List T) : List T := ts.mergeSort (fun a b => !lexI b.cod a.cod)
structure OkX (ts : List T) : Prop where
  one : ∀ t ∈ ts, t.pur = true ∧ t.shp = true ∧ ∃ i us, t = .tup (.int i :: us)
  two : ∀ t ∈ ts, ∀ u ∈ ts, T.cmp .Lt t u = true
theorem sortX_perm (ts : List T) : (sortX ts).Perm ts := List.mergeSort_perm _ _
theorem sortX_le (ts : List T) : (sortX ts).Pairwise (fun a b => lexI b.cod a.cod = false) := by
  have := List.pairwise_mergeSort (le := fun (a b : T) => !lexI b.cod a.cod) (fun a b c h1 h2 => by
    simp only [Bool.not_eq_true'] at h1 h2 ⊢
    exact lexI_tr _ _ _ h1 h2) (fun a b => by
    rcases h : lexI a.cod b.cod with _ | _
    · simp [h]
    · simp [lexI_as _ _ h]) ts
  exact this.imp fun {a b} h => by simpa using h
theorem sortX_short {ts : List T} (h : ts.length < 2) : sortX ts = ts := by
  match ts, h with
  | [], _ => simp [sortX]
  | [t], _ => simp [sortX]
  | _ :: _ :: _, h => simp at h; omega
theorem sortX_uniq {ts us : List T} (hp : ∀ t ∈ ts, t.pur = true) (p : us.Perm ts) (h : us.Pairwise (fun a b => lexI b.cod a.cod = false)) : us = sortX ts := by
  refine (p.trans (sortX_perm ts).symm).eq_of_pairwise (fun a b ma mb h1 h2 => ?_) h (sortX_le ts)
  have pa := hp a (p.mem_iff.mp ma)
  have pb := hp b ((sortX_perm ts).mem_iff.mp mb)
  have := cod_inj a b [] [] pa pb (by rw [List.append_nil, List.append_nil]; exact lexI_eq _ _ h2 h1)
  exact this.1
section
variable {X : Cx} {S : Kx} {w : Wd} {pins : List (Addr × Obj)} {σ : L2.St} {s : Shared}
theorem rep_int_inv {i : Int} {v : V} (h : Rep S w (.int i) v) : v = .int i := by rw [Rep] at h; exact h
theorem rep_tup_inv {ts : List T} {v : V} (h : Rep S w (.tup ts) v) : ∃ p vs, v = .ref p ∧ TupAt S w p vs ∧ Reps S w ts vs := by rw [Rep] at h; exact h
mutual
theorem rep_uniq (hK : X.K = S.K) (I : Inv X pins σ w.H s) : ∀ (t u : T) (x : V), t.pur = true → u.pur = true → Rep S w t x → Rep S w u x → t = u
  | .int i, u, x, p1, p2, h1, h2 => by
    cases u with
    | int j => have := (rep_int_inv h1).symm.trans (rep_int_inv h2); rw [V.int.inj this]
    | tup ys => obtain ⟨p, vs, e, _⟩ := rep_tup_inv h2; rw [rep_int_inv h1] at e; cases e
    | _ => simp [T.pur] at p2
  | .tup xs, u, x, p1, p2, h1, h2 => by
    obtain ⟨p, vs, e, a1, a2⟩ := rep_tup_inv h1
    cases u with
    | int j => rw [rep_int_inv h2] at e; cases e
    | tup ys =>
      obtain ⟨q, us, e', b1, b2⟩ := rep_tup_inv h2
      rw [T.pur] at p1 p2
      rw [e] at e'; cases e'
      have ev := I.tuple_inj (a := p) (xs := vs) (ys := us) (by rw [hK]; exact a1.sq) (by rw [hK]; exact b1.sq)
      subst ev
      rw [reps_uniq hK I xs ys vs p1 p2 a2 b2]
    | _ => simp [T.pur] at p2
  | .non, _, _, h, _, _, _ | .bl _, _, _, h, _, _, _ | .str _, _, _, h, _, _, _ | .lst _, _, _, h, _, _, _ | .dk _ _, _, _, h, _, _, _ | .dt _ _, _, _, h, _, _, _ | .ty _, _, _, h, _, _, _ | .glob _, _, _, h, _, _, _ | .hand, _, _, h, _, _, _ => by simp [T.pur] at h
termination_by structural t => t
theorem reps_uniq (hK : X.K = S.K) (I : Inv X pins σ w.H s) : ∀ (xs ys : List T) (vs : List V), T.purs xs = true → T.purs ys = true → Reps S w xs vs → Reps S w ys vs → xs = ys
  | [], [], vs, _, _, _, _ => rfl
  | [], y :: ys, vs, _, _, h1, h2 => by
    rw [h1.nil_inv] at h2; obtain ⟨_, _, e, _⟩ := h2.cons_inv; cases e
  | x :: xs, [], vs, _, _, h1, h2 => by
    rw [h2.nil_inv] at h1; obtain ⟨_, _, e, _⟩ := h1.cons_inv; cases e
  | x :: xs, y :: ys, vs, p1, p2, h1, h2 => by
    rw [T.purs, Bool.and_eq_true] at p1 p2
    obtain ⟨v, vs', rfl, a1, a2⟩ := h1.cons_inv
    obtain ⟨v', vs'', e, b1, b2⟩ := h2.cons_inv
    cases e
    rw [rep_uniq hK I x y v p1.1 p2.1 a1 b1, reps_uniq hK I xs ys vs' p1.2 p2.2 a2 b2]
termination_by structural xs => xs
end
theorem shp_dep {t : T} (h : t.shp = true) : t.pd.depth ≤ 64 := by
  unfold T.shp at h; rw [Bool.and_eq_true] at h; exact SeqAt.depth_of_shaped h.2
theorem katX (hK : X.K = S.K) (I : Inv X pins σ w.H s) {A : Around} (hu : A.units + 100 < cLine) {Q : Bool → Shared → Prop} {fin : Bool} :
    ∀ (xs ys : List T) (vx vy : List V) (ix iy : List Value) (i : Nat), fin = cI .Lt xs.length ys.length → Reps S w xs vx → Reps S w ys vy → Vals vx ix → Vals vy iy → (∀ t ∈ xs, t.shp = true) → (∀ t ∈ ys, t.shp = true) →
    T.cmps .Lt xs ys = true → 1 ≤ i → Q (T.rels .Lt xs ys) s → PySem.W.KatLex X.prog X.w A true fin Q (ix.zip iy) i s
  | [], ys, vx, vy, ix, iy, i, ef, r1, r2, q1, q2, s1, s2, c, hi, q => by
    rw [r1.nil_inv] at q1
    cases q1
    rw [List.zip_nil_left]
    refine PySem.W.kat_nil ?_
    rw [ef]
    rw [T.rels] at q
    exact q
  | x :: xs, [], vx, vy, ix, iy, i, ef, r1, r2, q1, q2, s1, s2, c, hi, q => by
    rw [r2.nil_inv] at q2
    cases q2
    rw [List.zip_nil_right]
    refine PySem.W.kat_nil ?_
    rw [ef]
    rw [T.rels] at q
    exact q
  | x :: xs, y :: ys, vx, vy, ix, iy, i, ef, r1, r2, q1, q2, s1, s2, c, hi, q => by
    obtain ⟨a, vx, rfl, ra, r1⟩ := r1.cons_inv
    obtain ⟨b, vy, rfl, rb, r2⟩ := r2.cons_inv
    cases q1 with | cons qa q1 =>
    cases q2 with | cons qb q2 =>
    rw [List.zip_cons_cons]
    have sx := s1 x List.mem_cons_self
    have sy := s2 y List.mem_cons_self
    have dx := shp_dep sx
    rw [T.cmps, Bool.and_eq_true, Bool.or_eq_true] at c
    refine PySem.W.kat_cons (eqAt_T hK I ra rb qa qb sx sy (by omega) X.prog X.w _ _ ?_)
    refine PySem.W.kat_go (fun e1 => ?_) (fun e1 => ?_)
    · rw [T.rels, if_pos e1] at q
      exact PySem.W.kat_yes (katX hK I hu xs ys vx vy _ _ (i + 1) (by rw [ef]; simp [cI]) r1 r2 q1 q2 (fun t m => s1 t (List.mem_cons_of_mem _ m)) (fun t m => s2 t (List.mem_cons_of_mem _ m)) c.2 (by omega) q)
    · rw [T.rels, if_neg (by rw [e1]; exact Bool.false_ne_true)] at q
      refine PySem.W.kat_no ?_
      have e0 : (true && i == 0) = false := by simp; omega
      rw [e0]
      have cc := c.1.resolve_left (by rw [e1]; exact Bool.false_ne_true)
      refine PySem.W.kat_one _ _ ?_
      rw [cmpOp_rich rfl]
      exact rc_T hK I rfl x.pd.depth x y _ _ _ _ A (Nat.le_refl _) ra rb qa qb sx sy cc (by omega) X.prog X.w _ _ q
theorem katX_lt (hK : X.K = S.K) (I : Inv X pins σ w.H s) {A : Around} (hu : A.units + 100 < cLine) {Q : Bool → Shared → Prop} {E : Value → Shared → Prop} {i j : Int} {xs ys : List T} {x y : V} {v u : Value} (r1 : Rep S w (.tup (.int i :: xs)) x) (r2 : Rep S w (.tup (.int j :: ys)) y) (q1 : RelV x v) (q2 : RelV y u)
    (s1 : (T.tup (.int i :: xs)).shp = true) (s2 : (T.tup (.int j :: ys)).shp = true) (c : T.cmp .Lt (.tup (.int i :: xs)) (.tup (.int j :: ys)) = true) (q : Q (T.rel .Lt (.tup (.int i :: xs)) (.tup (.int j :: ys))) s) :
    wpAny (model X.prog X.w) A (keyLt' (tuples' true) v u) Q E s := by
  have m1 := fun t m => (shp_mem (t := t) s1 m).1
  have m2 := fun t m => (shp_mem (t := t) s2 m).1
  rw [Rep] at r1 r2
  obtain ⟨p, vs, rfl, a1, a2⟩ := r1
  obtain ⟨p', us, rfl, b1, b2⟩ := r2
  cases q1
  cases q2
  obtain ⟨its, rv, ⟨o, ho, hc, n, hd⟩, _⟩ := I.tuple (a := p) (xs := vs) (by rw [hK]; exact a1.sq)
  obtain ⟨its2, ru, ⟨o2, ho2, hc2, n2, hd2⟩, _⟩ := I.tuple (a := p') (xs := us) (by rw [hK]; exact b1.sq)
  refine PySem.W.kat_lt ho hd ho2 hd2 ?_
  obtain ⟨a, vx, rfl, ra, r1⟩ := a2.cons_inv
  obtain ⟨b, vy, rfl, rb, r2⟩ := b2.cons_inv
  have l1 := r1.length
  have l2 := r2.length
  rw [Rep] at ra rb
  subst ra
  subst rb
  cases rv with | cons qa rv =>
  cases ru with | cons qb ru =>
  have l3 := rv.length
  have l4 := ru.length
  obtain ⟨t, rfl⟩ := qa
  obtain ⟨t2, rfl⟩ := qb
  simp only [List.zip_cons_cons]
  rw [T.cmp, T.cmps, Bool.and_eq_true] at c
  rw [rel_tup, T.rels, eqv_int] at q
  refine PySem.W.kat_cons (SeqAt.EqAt.int_int i t j t2 X.prog X.w _ _ ?_)
  refine PySem.W.kat_go (fun e1 => ?_) (fun e1 => ?_)
  · have ex : i = j := by simpa using e1
    subst ex
    rw [if_pos (by simp)] at q
    refine PySem.W.kat_yes (katX hK I hu xs ys vx vy _ _ 1 ?_ r1 r2 rv ru (fun t m => m1 t (List.mem_cons_of_mem _ m)) (fun t m => m2 t (List.mem_cons_of_mem _ m)) c.2 (Nat.le_refl _) q)
    simp only [cI, List.size_toArray, List.length_cons]
    rw [← l3, ← l4, l1, l2]
    simp
  · have ex : ¬ i = j := by simpa using e1
    rw [if_neg (by simpa using ex), rel_int] at q
    exact PySem.W.kat_no (oneLt_int q)
theorem firstsX {h : Heap} : ∀ {vs : List Value}, (∀ v ∈ vs, ∃ a o xs n i t, v = .ref a ∧ h.get? a = some o ∧ o.cls = .type "tuple" ∧ o.data = .seq xs n ∧ xs[0]? = some (Value.int i t)) → ∃ fs : List Value, PySem.W.KatTups h vs fs ∧ fs.length = vs.length ∧ ∀ f ∈ fs, ∃ x t, f = Value.int x t
  | [], _ => ⟨[], PySem.W.KatTups.nil, rfl, fun _ hm => by simp at hm⟩
  | v :: vs, hp => by
    obtain ⟨fs, h1, h2, h3⟩ := firstsX (vs := vs) fun v' hm => hp v' (List.mem_cons_of_mem _ hm)
    obtain ⟨a, o, xs, n, i, t, e, ho, hc, hd, hx⟩ := hp v (List.mem_cons_self ..)
    subst e
    refine ⟨.int i t :: fs, PySem.W.KatTups.cons ho hc hd hx h1, by rw [List.length_cons, List.length_cons, h2], fun f hm => ?_⟩
    rcases List.mem_cons.mp hm with rfl | hm
    · exact ⟨i, t, rfl⟩
    · exact h3 f hm
def rSortX (S : Kx) : List V → Hp → VK → Prop := fun xs H Q => ∃ (w : Wd) (a : Addr) (ts : List T) (vs : List V), w.H = H ∧ xs = [V.ref a] ∧ w.H a = some (.lst vs) ∧ Reps S w ts vs ∧ (2 ≤ ts.length → OkX ts) ∧ ∀ us p, Reps S w (sortX ts) us → H p = none → Q (.ref p) (upd H p (.lst us))
theorem cr_sortX (hK : X.K = S.K) (hu : X.A.units + 200 < cLine) : CallR X (.builtin "sorted") (rSortX S) := by
  intro pins s σ H xs us Q I r h
  obtain ⟨w, a, ts, vs, rfl, rfl, ha, hr, ok, q⟩ := h
  obtain ⟨its, rv, hl, hz⟩ := I.list (xs := vs) (a := a) (.inl (.inl ha))
  rw [Vals.ref1 r]
  have lv := rv.length
  have lr := hr.length
  have fin : ∀ out usv, Vals usv out → Reps S w (sortX ts) usv → EP X pins σ Q (.ref (s.heap.objs.size + 1)) { s with heap := sortedAll s.heap its out.toArray } := fun out usv rr hs => by
    obtain ⟨ep, he'⟩ := PyProof.Rows.sortedAll_at s.heap its out.toArray
    have hlen : usv.length ≤ sizeLine := by rw [hs.length, (sortX_perm ts).length_eq, ← lr]; exact hz
    exact ⟨.ref _, upd w.H (s.heap.objs.size + 1) (.lst usv), I.laid (t' := s.toks) (fun _ _ => PyProof.Rows.sortedAll_old) (Nat.le_succ _) ⟨hlen, out, ep, rr, he'⟩, rfl, q _ _ hs (I.hok.fresh (Nat.le_succ _))⟩
  by_cases h2 : ts.length < 2
  · refine SrtO.sorted_ord (ltv := fun _ _ => false) ⟨fun _ _ h => by simp at h, fun _ _ _ _ _ => rfl⟩ hl.isList (by rw [← rv.length]; exact hz) (fun h3 => absurd h3 (by omega)) fun out h1 hb => ?_
    have e : out = its := by
      have p := hb.perm
      match its, lv with
      | [], _ => exact p.eq_nil
      | [v], _ => exact List.perm_singleton.mp p
      | _ :: _ :: _, lv => simp at lv; omega
    rw [e]
    refine fin its vs rv ?_
    rw [sortX_short h2]; exact hr
  obtain ⟨o1, o2⟩ := ok (by omega)
  let tv : Value → T := fun v => @Classical.epsilon T ⟨.non⟩ (fun t => t.pur = true ∧ Rep S w t (backV v))
  have at_ : ∀ (k : Nat) (v : Value), its[k]? = some v → ∃ t, ts[k]? = some t ∧ tv v = t ∧ Rep S w t (backV v) ∧ RelV (backV v) v := fun k v e => by
    have hk : k < its.length := (List.getElem?_eq_some_iff.mp e).1
    have e1 : vs[k]? = some (vs[k]'(by omega)) := List.getElem?_eq_getElem (by omega)
    obtain ⟨t, e2, rt⟩ := hr.get' e1
    obtain ⟨u, e3, ru⟩ := rv.get e1
    rw [e] at e3
    cases e3
    obtain ⟨pt, st, i, us, et⟩ := o1 t (List.mem_of_getElem? e2)
    generalize vs[k]'(by omega) = x at rt ru
    have rt' := rt
    rw [et, Rep] at rt'
    obtain ⟨p, _, rfl, _⟩ := rt'
    cases ru
    have sp := @Classical.epsilon_spec T (fun t => t.pur = true ∧ Rep S w t (backV (Value.ref p))) ⟨t, pt, rt⟩
    exact ⟨t, e2, rep_uniq hK I _ _ _ sp.1 pt sp.2 rt, rt, rfl⟩
  have em : its.map tv = ts := by
    refine List.ext_getElem? fun k => ?_
    rw [List.getElem?_map]
    by_cases hk : k < its.length
    · obtain ⟨t, e1, e2, _⟩ := at_ k _ (List.getElem?_eq_getElem hk)
      rw [List.getElem?_eq_getElem hk, e1, Option.map_some, e2]
    · rw [List.getElem?_eq_none (by omega), List.getElem?_eq_none (by omega)]; rfl
  have mem : ∀ v ∈ its, tv v ∈ ts ∧ Rep S w (tv v) (backV v) ∧ RelV (backV v) v := fun v hv => by
    obtain ⟨k, hk, e⟩ := List.getElem_of_mem hv
    obtain ⟨t, e1, e2, e3, e4⟩ := at_ k v (by rw [List.getElem?_eq_getElem hk, e])
    rw [e2]
    exact ⟨List.mem_of_getElem? e1, e3, e4⟩
  refine SrtO.sorted_ord (ltv := fun v u => lexI (tv v).cod (tv u).cod) ⟨fun x y h => lexI_as _ _ h, fun x y z h1 h2 => lexI_tr _ _ _ h1 h2⟩ hl.isList (by rw [← rv.length]; exact hz) (fun h3 h₁ a' ha' kk => ?_) fun out h1 hb => ?_
  · intro h' keep
    have I' : Inv X pins σ w.H { s with heap := h' } := I.kept (t' := s.toks) fun b u e => keep b u (kk b u e).1 (kk b u e).2
    have pt : ∀ v ∈ its, ∃ a o xs n i t, v = .ref a ∧ h'.get? a = some o ∧ o.cls = .type "tuple" ∧ o.data = .seq xs n ∧ xs[0]? = some (Value.int i t) := fun v hv => by
      obtain ⟨m1, m2, m3⟩ := mem v hv
      obtain ⟨_, _, i, us, et⟩ := o1 _ m1
      rw [et, Rep] at m2
      obtain ⟨p, vs', e, a1, a2⟩ := m2
      rw [e] at m3
      cases m3
      obtain ⟨its2, rv2, ⟨o, ho, hc, n, hd⟩, _⟩ := I'.tuple (a := p) (xs := vs') (by rw [hK]; exact a1.sq)
      obtain ⟨b, vy, rfl, rb, r2⟩ := a2.cons_inv
      rw [Rep] at rb
      subst rb
      cases rv2 with | cons qb rv2 =>
      obtain ⟨t, rfl⟩ := qb
      exact ⟨p, o, _, n, i, t, rfl, ho, hc, hd, rfl⟩
    obtain ⟨fs, f1, f2, f3⟩ := firstsX pt
    refine ⟨tuples' true, fun Q E hq => ?_, ?_⟩
    · refine PySem.W.kat_kind (T := .type "int") f1 (by omega) (fun f hm => ?_) (by rfl) ?_
      · obtain ⟨x, t, rfl⟩ := f3 f hm
        exact PySem.W.Looks.now
      · have e : (Value.type "int" != Value.type "tuple") = true := by first | decide +kernel | rfl | decide
        rw [e]
        exact hq
    · intro p q hm hm'
      obtain ⟨m1, m2, m3⟩ := mem _ hm
      obtain ⟨m1', m2', m3'⟩ := mem _ hm'
      obtain ⟨p1, s1, i, us, et⟩ := o1 _ m1
      obtain ⟨p1', s1', j, us', et'⟩ := o1 _ m1'
      have c := o2 _ m1 _ m1'
      have e := cod_rel p1 p1' (.inr c)
      show wpAny (model X.prog X.w) X.A.in1.in1 (keyLt' (tuples' true) p.1 q.1) (fun r s' => s' = _ ∧ r = lexI (tv p.1).cod (tv q.1).cod) (fun _ _ => False) _
      rw [e]
      rw [et] at m2 s1 c ⊢
      rw [et'] at m2' s1' c ⊢
      exact katX_lt hK I' (by show X.A.units + 1 + 1 + 100 < cLine; omega) m2 m2' m3 m3' s1 s1' c ⟨rfl, rfl⟩
  · have mo : ∀ v ∈ out, v ∈ its := fun v hv => hb.perm.mem_iff.mp hv
    have e : out.map tv = sortX ts := by
      refine sortX_uniq (fun t ht => (o1 t ht).1) ?_ ?_
      · rw [← em]; exact hb.perm.map tv
      · exact List.pairwise_map.mpr h1
    refine fin out (out.map backV) (vals_back fun u hu => ?_) ?_
    · obtain ⟨_, _, m3⟩ := mem u (mo u hu)
      obtain ⟨a, o, _, _, _, _, e, _⟩ : ∃ a : Addr, ∃ o : Unit, ∃ _ _ _ _ : Unit, u = Value.ref a ∧ True := by
        obtain ⟨m1, m2, m3⟩ := mem u (mo u hu)
        obtain ⟨_, _, i, us, et⟩ := o1 _ m1
        rw [et, Rep] at m2
        obtain ⟨p, vs', e, _⟩ := m2
        rw [e] at m3
        exact ⟨p, (), (), (), (), (), m3, trivial⟩
      exact ⟨a, e⟩
    · rw [← e]
      clear e h1
      have : ∀ l : List Value, (∀ v ∈ l, v ∈ its) → Reps S w (l.map tv) (l.map backV) := by
        intro l
        induction l with
        | nil => intro _; exact .nil
        | cons v l ih => intro hm; exact .cons (mem v (hm v List.mem_cons_self)).2.1 (ih fun u hu => hm u (List.mem_cons_of_mem _ hu))
      exact this out mo
def gSortedX : T → M T := fun t => match t with
  | .lst ts => gd (2 ≤ ts.length → OkX ts) (ret (.lst (sortX ts)))
  | _ => stuck
variable {W : WX} {d : Nat} {e : Expr} {mas : Env → M (List T)} {p pos : Pos}
theorem de_sortedX (E : Eu X S) (hm : S.mg "sorted" = none) (hd : d ≤ 1) (ha : DAB X S W [e] mas) (hg : Gl X "sorted" := by rfl) (he : starEach (e :: []) X.env = (false, eval e X.env) :: starEach [] X.env := by first | exact star_c rfl | rfl) (hpl : (backTo pos (starEach [] X.env)).any (·.1) = false := by first | exact star_any rfl | rfl) :
    DE X S W d (.Call (.Name "sorted" p) [e] [] pos) (mCall (g1 gSortedX) mas) := by
  refine de_callB E (cr_sortX E.hK E.un) (sim_1 fun w t x Q' QE Q ok r hg k => ?_) hm (by decide +kernel) ha hg (by decide) (by decide) he hpl
  unfold gSortedX at hg
  split at hg
  · obtain ⟨q1, q2⟩ := hg
    obtain ⟨a, vs, rfl, h0, h1, h2⟩ := r.lst_inv
    exact ⟨w, a, _, vs, rfl, rfl, h1, h2, q1, fun us p' rs hp => kont_lst ok rs hd k q2 p' hp⟩
  · exact hg.elim
end
end Twl

/-! TL49: all lots of some things, those of fewer first. -/
namespace Twl
open PySem PySem.Spec PyProof.Rows L2
theorem e_sortX {ts : List T} (h : 2 ≤ ts.length → OkX ts) : Ev (g1 gSortedX [.lst ts]) (.lst (sortX ts)) := fun Q E q => ⟨h, q⟩
theorem purs_ints : ∀ xs : List Int, T.purs (xs.map T.int) = true
  | [] => by simp [T.purs]
  | x :: xs => by rw [List.map_cons, T.purs, purs_ints xs]; simp [T.pur]
theorem pur_I (l : List Int) : (encI l).pur = true := by unfold encI; rw [T.pur]; exact purs_ints l
theorem cmps_ints : ∀ xs ys : List Int, T.cmps .Lt (xs.map T.int) (ys.map T.int) = true
  | [], _ => by simp [T.cmps]
  | x :: xs, [] => by simp [T.cmps]
  | x :: xs, y :: ys => by rw [List.map_cons, List.map_cons, T.cmps, cmps_ints xs ys]; simp [T.cmp]
theorem cmp_I (a b : List Int) : T.cmp .Lt (encI a) (encI b) = true := by unfold encI; rw [T.cmp]; exact cmps_ints a b
theorem sh_I (l : List Int) : Sh 1 (encI l) := Sh.tup (Sh.ints l)
/-- a number and a lot -/
def prN (z : Int × List Int) : T := .tup [.int z.1, encI z.2]
def prT (l : List Int) : T := prN ((l.length : Int), l)
theorem sh_N (z : Int × List Int) : Sh 2 (prN z) := Sh.tup fun t ht => by
  simp only [List.mem_cons, List.not_mem_nil, or_false] at ht
  rcases ht with rfl | rfl
  · exact (Sh.int _).mono (by decide)
  · exact sh_I _
theorem ok_N (L : List (Int × List Int)) : OkX (L.map prN) := by
  refine ⟨fun t ht => ?_, fun t ht u hu => ?_⟩
  · obtain ⟨z, _, rfl⟩ := List.mem_map.mp ht
    refine ⟨?_, (sh_N z).shp, z.1, [encI z.2], rfl⟩
    unfold prN
    rw [T.pur, T.purs, T.purs, T.purs, pur_I]
    simp [T.pur]
  · obtain ⟨z, _, rfl⟩ := List.mem_map.mp ht
    obtain ⟨y, _, rfl⟩ := List.mem_map.mp hu
    unfold prN
    rw [T.cmp, T.cmps, T.cmps, T.cmps, cmp_I]
    simp [T.cmp]
theorem ok_I (L : List (List Int)) (h : ∀ l ∈ L, l ≠ []) : OkX (L.map encI) := by
  refine ⟨fun t ht => ?_, fun t ht u hu => ?_⟩
  · obtain ⟨l, hl, rfl⟩ := List.mem_map.mp ht
    refine ⟨pur_I l, (sh_I l).shp, ?_⟩
    cases l with
    | nil => exact absurd rfl (h _ hl)
    | cons x l => exact ⟨x, l.map T.int, rfl⟩
  · obtain ⟨z, _, rfl⟩ := List.mem_map.mp ht
    obtain ⟨y, _, rfl⟩ := List.mem_map.mp hu
    exact cmp_I z y
theorem encI_inj {a b : List Int} (h : encI a = encI b) : a = b := by
  unfold encI at h
  have h := T.tup.inj h
  have e1 := congrArg T.ints h
  rw [ints_map, ints_map] at e1
  exact Option.some.inj e1
def leT (a b : T) : Bool := !lexI b.cod a.cod
def srtN (L : List (Int × List Int)) : List (Int × List Int) := L.mergeSort (fun a b => leT (prN a) (prN b))
def srtI (L : List (List Int)) : List (List Int) := L.mergeSort (fun a b => leT (encI a) (encI b))
theorem sortX_N (L : List (Int × List Int)) : sortX (L.map prN) = (srtN L).map prN := by
  exact (List.map_mergeSort (r := fun a b => leT (prN a) (prN b)) (s := fun (a b : T) => !lexI b.cod a.cod) fun a _ b _ => rfl).symm
theorem sortX_I (L : List (List Int)) : sortX (L.map encI) = (srtI L).map encI := by
  exact (List.map_mergeSort (r := fun a b => leT (encI a) (encI b)) (s := fun (a b : T) => !lexI b.cod a.cod) fun a _ b _ => rfl).symm
theorem srtN_perm (L : List (Int × List Int)) : (srtN L).Perm L := List.mergeSort_perm _ _
theorem srtI_perm (L : List (List Int)) : (srtI L).Perm L := List.mergeSort_perm _ _
theorem srtN_le (L : List (Int × List Int)) : (srtN L).Pairwise (fun a b => lexI (prN b).cod (prN a).cod = false) := by
  have := sortX_le (L.map prN)
  rw [sortX_N, List.pairwise_map] at this
  exact this
/-! ### the lots -/
def dbl : Nat → List (List Int)
  | 0 => [[]]
  | n + 1 => dbl n ++ (dbl n).map fun l => l ++ [(n : Int)]
theorem dbl_len : ∀ n, (dbl n).length = 2 ^ n
  | 0 => rfl
  | n + 1 => by rw [dbl, List.length_append, List.length_map, dbl_len n, Nat.pow_succ]; omega
theorem mem_dbl : ∀ {n : Nat} {l : List Int}, l ∈ dbl n ↔ l.Pairwise (· < ·) ∧ ∀ x ∈ l, 0 ≤ x ∧ x < (n : Int)
  | 0, l => by
    rw [dbl, List.mem_singleton]
    constructor
    · rintro rfl; exact ⟨.nil, fun x h => by simp at h⟩
    · rintro ⟨_, h⟩
      cases l with
      | nil => rfl
      | cons x l => have := h x List.mem_cons_self; omega
  | n + 1, l => by
    rw [dbl, List.mem_append, mem_dbl, List.mem_map]
    constructor
    · rintro (⟨h1, h2⟩ | ⟨m, hm, rfl⟩)
      · exact ⟨h1, fun x hx => by have := h2 x hx; omega⟩
      · obtain ⟨h1, h2⟩ := mem_dbl.mp hm
        refine ⟨List.pairwise_append.mpr ⟨h1, List.pairwise_singleton _ _, fun a ha b hb => ?_⟩, fun x hx => ?_⟩
        · rw [List.mem_singleton] at hb; have := h2 a ha; omega
        · rcases List.mem_append.mp hx with h | h
          · have := h2 x h; omega
          · rw [List.mem_singleton] at h; omega
    · rintro ⟨h1, h2⟩
      by_cases hn : (n : Int) ∈ l
      · right
        refine ⟨l.dropLast, ?_, ?_⟩
        · have hne : l ≠ [] := fun e => by rw [e] at hn; simp at hn
          have e := List.dropLast_concat_getLast hne
          rw [← e] at h1 h2 hn
          obtain ⟨p1, _, p3⟩ := List.pairwise_append.mp h1
          have hl : l.getLast hne = (n : Int) := by
            rcases List.mem_append.mp hn with h | h
            · have a := p3 _ h _ (List.mem_singleton.mpr rfl)
              have b := h2 (l.getLast hne) (by simp)
              omega
            · exact (List.mem_singleton.mp h).symm
          refine mem_dbl.mpr ⟨p1, fun x hx => ?_⟩
          have a := p3 x hx _ (List.mem_singleton.mpr rfl)
          have b := h2 x (List.mem_append_left _ hx)
          omega
        · have hne : l ≠ [] := fun e => by rw [e] at hn; simp at hn
          have e := List.dropLast_concat_getLast hne
          have hl : l.getLast hne = (n : Int) := by
            rw [← e] at h1 h2 hn
            obtain ⟨p1, _, p3⟩ := List.pairwise_append.mp h1
            rcases List.mem_append.mp hn with h | h
            · have a := p3 _ h _ (List.mem_singleton.mpr rfl)
              have b := h2 (l.getLast hne) (by simp)
              omega
            · exact (List.mem_singleton.mp h).symm
          rw [hl] at e
          exact e
      · left
        exact ⟨h1, fun x hx => by
          have := h2 x hx
          have : x ≠ (n : Int) := fun e => hn (e ▸ hx)
          omega⟩
def lots (n : Nat) : List (List Int) := (srtN ((dbl n).map fun l => ((l.length : Int), l))).map (·.2)
theorem lots_perm (n : Nat) : (lots n).Perm (dbl n) := by
  have := (srtN_perm ((dbl n).map fun l => ((l.length : Int), l))).map (·.2)
  rw [List.map_map] at this
  exact this.trans (.of_eq (List.map_id _))
theorem mem_lots {n : Nat} {l : List Int} : l ∈ lots n ↔ l.Pairwise (· < ·) ∧ ∀ x ∈ l, 0 ≤ x ∧ x < (n : Int) := by
  rw [(lots_perm n).mem_iff]; exact mem_dbl
theorem lots_len (n : Nat) : (lots n).length = 2 ^ n := by rw [(lots_perm n).length_eq, dbl_len]
theorem lots_all {n : Nat} (p : Int → Bool) : (rngI n).filter p ∈ lots n := by
  refine mem_lots.mpr ⟨(rngI_lt n).filter _, fun x hx => ?_⟩
  exact rngI_mem.mp (List.mem_filter.mp hx).1
theorem lots_sz {n : Nat} {l : List Int} (h : l ∈ lots n) : l.length ≤ n := by
  obtain ⟨h1, h2⟩ := mem_lots.mp h
  exact nodup_len (h1.imp fun h e => by omega) h2
theorem lots_head (n : Nat) : ∃ L, lots n = [] :: L := by
  have h0 : ([] : List Int) ∈ lots n := mem_lots.mpr ⟨.nil, fun x h => by simp at h⟩
  have hs := srtN_le ((dbl n).map fun l => ((l.length : Int), l))
  have hm : ∀ z ∈ srtN ((dbl n).map fun l => ((l.length : Int), l)), z.1 = (z.2.length : Int) := fun z hz => by
    obtain ⟨l, _, rfl⟩ := List.mem_map.mp ((srtN_perm _).mem_iff.mp hz)
    rfl
  unfold lots at h0 ⊢
  generalize srtN ((dbl n).map fun l => ((l.length : Int), l)) = S at h0 hs hm ⊢
  obtain ⟨z, hz, ez⟩ := List.mem_map.mp h0
  cases S with
  | nil => simp at hz
  | cons y S =>
    refine ⟨S.map (·.2), ?_⟩
    rw [List.map_cons]
    congr 1
    rcases List.mem_cons.mp hz with e | e
    · rw [← e]; exact ez
    · have hp := (List.pairwise_cons.mp hs).1 z e
      have e1 := hm z (List.mem_cons_of_mem _ e)
      have e2 := hm y List.mem_cons_self
      obtain ⟨y1, y2⟩ := y
      obtain ⟨z1, z2⟩ := z
      simp only at e1 e2 ez
      subst ez e1 e2
      cases y2 with
      | nil => rfl
      | cons a y2 =>
        exfalso
        unfold prN at hp
        simp only [T.cod, T.cods, List.cons_append, List.nil_append, List.append_nil, lexI_cons, List.length_nil, List.length_cons] at hp
        simp at hp
        omega
/-- the places of a mask -/
def mskL (n : Nat) (m : Int) : List Int := (rngI n).filter fun i => decide (Builtin.bitAnd (m / 2 ^ i.toNat) 1 = 1)
theorem msk_all : ∀ n : Nat, n ≤ 6 → (rngI (2 ^ n)).map (mskL n) = dbl n
  | 0, _ => by decide +kernel
  | 1, _ => by decide +kernel
  | 2, _ => by decide +kernel
  | 3, _ => by decide +kernel
  | 4, _ => by decide +kernel
  | 5, _ => by decide +kernel
  | 6, _ => by decide +kernel
  | n + 7, h => by omega
/-! ### none of which holds another one -/
def holdB (found : List (List Int)) (lot : List Int) : Bool := found.any fun o => o.all fun i => decide (i ∈ lot)
def grS (p : List Int → Bool) (found : List (List Int)) (lot : List Int) : List (List Int) := if holdB found lot = false ∧ p lot = true then found ++ [lot] else found
def grL (p : List Int → Bool) (L : List (List Int)) : List (List Int) := L.foldl (grS p) []
theorem grS_sub {p : List Int → Bool} {f : List (List Int)} {l o : List Int} (h : o ∈ grS p f l) : o ∈ f ∨ (o = l ∧ p l = true) := by
  unfold grS at h
  split at h
  · rename_i c
    rcases List.mem_append.mp h with h | h
    · exact .inl h
    · exact .inr ⟨List.mem_singleton.mp h, c.2⟩
  · exact .inl h
theorem grS_keep {p : List Int → Bool} {f : List (List Int)} {l o : List Int} (h : o ∈ f) : o ∈ grS p f l := by
  unfold grS
  split
  · exact List.mem_append_left _ h
  · exact h
theorem foldl_gr_sub {p : List Int → Bool} : ∀ {L f : List (List Int)} {o : List Int}, o ∈ L.foldl (grS p) f → o ∈ f ∨ (o ∈ L ∧ p o = true)
  | [], f, o, h => .inl h
  | l :: L, f, o, h => by
    rcases foldl_gr_sub (L := L) h with h | h
    · rcases grS_sub h with h | ⟨rfl, h⟩
      · exact .inl h
      · exact .inr ⟨List.mem_cons_self, h⟩
    · exact .inr ⟨List.mem_cons_of_mem _ h.1, h.2⟩
theorem foldl_gr_keep {p : List Int → Bool} : ∀ {L f : List (List Int)} {o : List Int}, o ∈ f → o ∈ L.foldl (grS p) f
  | [], f, o, h => h
  | l :: L, f, o, h => foldl_gr_keep (L := L) (grS_keep h)
theorem foldl_gr_has {p : List Int → Bool} : ∀ {L f : List (List Int)} {l : List Int}, l ∈ L → p l = true → ∃ o ∈ L.foldl (grS p) f, ∀ i ∈ o, i ∈ l
  | [], f, l, h, _ => by simp at h
  | m :: L, f, l, h, hp => by
    rcases List.mem_cons.mp h with rfl | h
    · by_cases c : holdB f l = false
      · refine ⟨l, foldl_gr_keep (L := L) (f := grS p f l) ?_, fun i h => h⟩
        unfold grS
        rw [if_pos ⟨c, hp⟩]
        simp
      · have c : holdB f l = true := by simpa using c
        unfold holdB at c
        obtain ⟨o, ho, ho2⟩ := List.any_eq_true.mp c
        refine ⟨o, foldl_gr_keep (L := L) (f := grS p f l) (grS_keep ho), fun i hi => ?_⟩
        exact of_decide_eq_true (List.all_eq_true.mp ho2 i hi)
    · exact foldl_gr_has (L := L) (f := grS p f m) h hp
theorem grL_sub {p : List Int → Bool} {L : List (List Int)} {o : List Int} (h : o ∈ grL p L) : o ∈ L ∧ p o = true := by
  rcases foldl_gr_sub h with h | h
  · simp at h
  · exact h
theorem grL_filter (p : List Int → Bool) (L : List (List Int)) : grL (fun _ => true) (L.filter p) = grL p L := by
  unfold grL
  generalize ([] : List (List Int)) = f
  induction L generalizing f with
  | nil => rfl
  | cons l L ih =>
    rw [List.filter_cons]
    by_cases c : p l = true
    · rw [if_pos c, List.foldl_cons, List.foldl_cons]
      have : grS (fun _ => true) f l = grS p f l := by unfold grS; rw [c]
      rw [this]; exact ih _
    · rw [if_neg c, List.foldl_cons]
      have : grS p f l = f := by unfold grS; rw [if_neg (fun z => c z.2)]
      rw [this]; exact ih _
theorem holdB_nil {f : List (List Int)} {l : List Int} (h : ([] : List Int) ∈ f) : holdB f l = true := List.any_eq_true.mpr ⟨[], h, rfl⟩
theorem grL_one {p : List Int → Bool} {L : List (List Int)} (h : p [] = true) : grL p ([] :: L) = [[]] := by
  unfold grL
  have e : grS p [] [] = [[]] := by unfold grS; rw [if_pos ⟨rfl, h⟩]; rfl
  rw [List.foldl_cons, e]
  induction L with
  | nil => rfl
  | cons l L ih =>
    have : grS p [[]] l = [[]] := by unfold grS; rw [holdB_nil (List.mem_singleton.mpr rfl), if_neg (by simp)]
    rw [List.foldl_cons, this]; exact ih
theorem grL_ok {p : List Int → Bool} {n : Nat} (h : 2 ≤ (grL p (lots n)).length) : ∀ l ∈ grL p (lots n), l ≠ [] := by
  obtain ⟨L, e⟩ := lots_head n
  rintro l hl rfl
  have := (grL_sub hl).2
  rw [e, grL_one this] at h
  simp at h
theorem need_iff {p : List Int → Bool} {L : List (List Int)} {i : Int} : ((grL p L).all fun l => decide (i ∈ l)) = (L.filter p).all fun l => decide (i ∈ l) := by
  rw [Bool.eq_iff_iff, List.all_eq_true, List.all_eq_true]
  constructor
  · intro h l hl
    obtain ⟨h1, h2⟩ := List.mem_filter.mp hl
    obtain ⟨o, ho, hs⟩ := foldl_gr_has (f := []) h1 h2
    exact decide_eq_true (hs i (of_decide_eq_true (h o ho)))
  · intro h o ho
    obtain ⟨h1, h2⟩ := grL_sub ho
    exact h o (List.mem_filter.mpr ⟨h1, h2⟩)
/-! ### the first two of them -/
theorem two_of {R : List (List Int)} {row : List Int} (nd : R.Nodup) (hr : row ∈ R) : ((R.take 2).length = 1 ↔ R.filter (fun o => decide (o ≠ row)) = []) ∧ ((R.take 2).filter (fun o => decide (o ≠ row))).headD [] = (R.filter (fun o => decide (o ≠ row))).headD [] ∧ ((R.take 2).filter (fun o => decide (o ≠ row)) = [] ↔ R.filter (fun o => decide (o ≠ row)) = []) := by
  match R, nd, hr with
  | [a], nd, hr =>
    have : row = a := List.mem_singleton.mp hr
    subst this
    simp
  | a :: b :: t, nd, hr =>
    have hab : a ≠ b := fun e => by
      rw [List.nodup_cons] at nd
      exact nd.1 (by rw [e]; exact List.mem_cons_self)
    by_cases ca : a = row
    · have cb : b ≠ row := fun e => hab (ca.trans e.symm)
      simp [ca, cb]
    · by_cases cb : b = row
      · simp [ca, cb]
      · simp [ca, cb]
end Twl

/-! TL50: sorted of a tuple of ints; the least and the greatest of lists, tuples of anything that can be ordered. -/
namespace Twl
open PySem PySem.Spec PyProof.Rows L2 SrtO Srt
section
variable {prog : Program} {w : World} {A : Around} {E : Value → Shared → Prop} {s : Shared}
theorem collect_tupT {l : Addr} {us : List Value} {Q : List Value → Shared → Prop} (ht : s.heap.IsTuple l us.toArray) (hz : us.length ≤ sizeLine)
    (q : Q us { s with heap := (s.heap.push (seqObj "list" #[] 0)).update s.heap.objs.size (Obj.mapSeq (· ++ us.toArray)) }) : wpAny (model prog w) A (collect (.ref l)) Q E s := by
  obtain ⟨ob, h1, h2, ep, h3⟩ := id ht
  have k1 : (s.heap.push (seqObj "list" #[] 0)).get? l = some ob := Heap.get?_push_of_some _ h1
  have k2 : (s.heap.push (seqObj "list" #[] 0)).get? s.heap.objs.size = some (seqObj "list" #[] 0) := Heap.get?_push_size _ rfl
  have tt : (Value.type "tuple" == Value.type "tuple") = true := by decide +kernel
  have last : wpAny (model prog w) A (do
      let o ← load s.heap.objs.size
      match o.data with
      | .seq xs _ => pure xs.toList
      | _ => unsupported "internal:collect") Q E { s with heap := (s.heap.push (seqObj "list" #[] 0)).update s.heap.objs.size (Obj.mapSeq (· ++ us.toArray)) } := by
    refine wpAny_bind (wpAny_load (get?_update_seq k2 _) ?_)
    have e : ((#[] : Array Value) ++ us.toArray).toList = us := by simp
    exact wpAny_pure (by rw [e]; exact q)
  unfold collect
  refine wpAny_bind (wpAny_runValue (codeAny_builtin entry_proto_collect' (wpAny_bind (m := newList []) (wpAny_newList (wpAny_pure ⟨Code.quiet_builtin _ (by decide +kernel), codeAny_builtin entry_list_iadd' ?_⟩)))))
  show wpAny _ _ (Builtin.List.listExtendWith (.ref s.heap.objs.size) (.ref l) (.ref s.heap.objs.size)) _ _ { s with heap := s.heap.push (seqObj "list" #[] 0) }
  unfold Builtin.List.listExtendWith
  refine wpAny_bind (wpAny_typeOf (T := "tuple") ⟨ob, k1, h2⟩ ?_)
  rw [if_pos (by rw [tt]; simp)]
  refine wpAny_bind (listItems_at k1 h3 (wpAny_bind (listItems_at (xs := #[]) (n := 0) k2 rfl ?_)))
  rw [if_neg (by simp)]
  have hz2 : (#[] ++ us.toArray).size ≤ sizeLine + 1 := by simp only [Array.size_append, List.size_toArray, List.length_nil]; omega
  exact wpAny_bind (listUpdate_at (xs := #[]) (n := 0) k2 rfl (wpAny_pure last) (Nat.zero_le _) hz2)
theorem sorted_tupO {l : Addr} {us : List Value} {lt : Value → Value → Bool} {Q : Value → Shared → Prop} (O : Swo lt) (ht : s.heap.IsTuple l us.toArray) (hz : us.length ≤ sizeLine)
    (hS : 2 ≤ us.length → ∀ (h₁ : Heap) (a : Addr), h₁.get? a = some (seqObj "list" us.toArray 0) → (∀ b o, s.heap.get? b = some o → b ≠ a ∧ h₁.get? b = some o) → SortableO prog w A.in1.in1 { s with heap := h₁ } a us lt)
    (q : ∀ out : List Value, Srtd lt out → Stb lt out us → Q (.ref (s.heap.objs.size + 1)) { s with heap := sortedAll s.heap us out.toArray }) :
    wpAny (model prog w) A (call (.builtin "sorted") [.ref l]) Q E s := by
  have z1 : ((s.heap.push (seqObj "list" #[] 0)).update s.heap.objs.size (Obj.mapSeq (· ++ us.toArray))).objs.size = s.heap.objs.size + 1 := by rw [Heap.size_update]; exact size_push' _ _
  have at_ : (((s.heap.push (seqObj "list" #[] 0)).update s.heap.objs.size (Obj.mapSeq (· ++ us.toArray))).push (seqObj "list" us.toArray 0)).get? (s.heap.objs.size + 1) = some (seqObj "list" us.toArray 0) := by
    have := Heap.get?_push_size ((s.heap.push (seqObj "list" #[] 0)).update s.heap.objs.size (Obj.mapSeq (· ++ us.toArray))) (o := seqObj "list" us.toArray 0) rfl
    rwa [z1] at this
  have old : ∀ b o, s.heap.get? b = some o → b ≠ s.heap.objs.size + 1 ∧ (((s.heap.push (seqObj "list" #[] 0)).update s.heap.objs.size (Obj.mapSeq (· ++ us.toArray))).push (seqObj "list" us.toArray 0)).get? b = some o := fun b o e => by
    have lt' := Heap.lt_size e
    refine ⟨Nat.ne_of_lt (Nat.lt_succ_of_lt lt'), Heap.get?_push_of_some _ ?_⟩
    rw [Heap.get?_update_ne _ _ _ _ (Nat.ne_of_lt lt')]
    exact Heap.get?_push_of_some _ e
  refine Calls.call_function_entry kind_sorted plain_sorted entry_sorted (args_sorted1 _) ?_
  unfold Builtin.«sorted»
  refine wpAny_bind (m := checkCount "sorted" 1 1 _) (wpAny_pure (wpAny_bind (collect_tupT ht hz (wpAny_bind (wpAny_newList ?_ hz)))))
  show wpAny _ _ _ _ _ { s with heap := ((s.heap.push (seqObj "list" #[] 0)).update s.heap.objs.size (Obj.mapSeq (· ++ us.toArray))).push (seqObj "list" us.toArray 0) }
  rw [z1]
  have go := fun (k : 2 ≤ us.length) => hS k _ _ at_ old
  exact wpAny_bind (wpAny_holding (wpAny_call_entry slot_list_sort ⟨_, at_, rfl⟩ entry_list_sort
    (list_sort_ord O at_ hz go fun out h1 h2 => ⟨_, rfl, wpAny_pure ⟨_, rfl, q out h1 h2⟩⟩) (args_list_sort _)))
end
section
variable {X : Cx} {S : Kx} {W : WX} {k d : Nat} {e : Expr} {mas : Env → M (List T)} {p pos : Pos}
def rSortTI (K : PySem.W.Frag) : List V → Hp → VK → Prop := fun vs H Q => ∃ (a : Addr) (ms : List Int), vs = [V.ref a] ∧ SqT K H a (ms.map V.int) ∧
  ∀ (ns : List Int) (r : Addr), ns.Perm ms → ns.Pairwise (· ≤ ·) → H r = none → Q (.ref r) (upd H r (.lst (ns.map V.int)))
theorem cr_sortTI : CallR X (.builtin "sorted") (rSortTI X.K) := by
  intro pins s σ H vs us Q I r h
  obtain ⟨a, ms, rfl, hs, q⟩ := h
  obtain ⟨its, rv, ht, hz⟩ := I.tuple hs
  rw [Vals.ref1 r]
  have are := rv.ints
  have hzz : its.length ≤ sizeLine := by rw [← rv.length]; exact hz
  refine sorted_tupO swo_int ht hzz (fun h2 h₁ a' _ _ => ints_sortable are h2) fun out h1 h2 => ?_
  obtain ⟨k1, k2, k3⟩ := ints_out are h1 h2
  obtain ⟨ep, he⟩ := PyProof.Rows.sortedAll_at s.heap its out.toArray
  have hl : ((out.map iv).map V.int).length ≤ sizeLine := by
    rw [List.length_map] at hz
    rw [List.length_map, k2.length_eq]; exact hz
  have I2 := I.laid (t' := s.toks) (o := .lst ((out.map iv).map V.int)) (fun _ _ e => PyProof.Rows.sortedAll_old e) (Nat.le_succ _) ⟨hl, out, ep, vals_of_ints k1, he⟩
  exact ⟨.ref _, _, I2, rfl, q _ _ k2 k3 (I.hok.fresh (Nat.le_succ _))⟩
def gSortedT : T → M T := fun t => match t with
  | .tup ts => ofO (T.ints ts) fun ns => ret (.lst ((sortI ns).map T.int))
  | _ => stuck
theorem de_sortedT (E : Eu X S) (hm : S.mg "sorted" = none) (hd : d ≤ 1) (ha : DAB X S W [e] mas) (hg : Gl X "sorted" := by rfl) (he : starEach (e :: []) X.env = (false, eval e X.env) :: starEach [] X.env := by first | exact star_c rfl | rfl) (hpl : (backTo pos (starEach [] X.env)).any (·.1) = false := by first | exact star_any rfl | rfl) :
    DE X S W d (.Call (.Name "sorted" p) [e] [] pos) (mCall (g1 gSortedT) mas) := by
  have h : CallR X (.builtin "sorted") (rSortTI S.K) := by rw [← E.hK]; exact cr_sortTI
  refine de_callB E h (sim_1 fun w t x Q' QE Q ok r hg k => ?_) hm (by decide +kernel) ha hg (by decide) (by decide) he hpl
  unfold gSortedT at hg
  split at hg
  · obtain ⟨ns, e1, q⟩ := ofO_inv hg
    obtain ⟨q1, vs, rfl, h1, h2⟩ := r.tup_inv
    have ev := ints_rep h2 e1
    subst ev
    refine ⟨q1, ns, rfl, h1.sq, fun ms p1 h3 h4 hp => ?_⟩
    have e2 : ms = sortI ns := sort_uniq (h3.trans (sortI_perm ns).symm) h4 (sortI_le ns)
    subst e2
    exact kont_lst ok (ints_repT _) hd k q p1 hp
  · exact hg.elim
theorem e_sortedT (xs : List Int) : Ev (g1 gSortedT [.tup (xs.map T.int)]) (.lst ((sortI xs).map T.int)) := fun Q E q => by
  show ofO (T.ints (xs.map T.int)) _ Q E
  rw [ints_map]; exact q
/-! ### the least, the greatest -/
def pickX (f : PyData → List PyData → PyData) : List T → M T
  | [] => stuck
  | t :: tl => gd ((∀ u ∈ t :: tl, u.shp = true) ∧ PySem.W.AlikeAll ((t :: tl).map T.pd)) fun Q _ => ∀ u ∈ t :: tl, u.pd = f t.pd (tl.map T.pd) → Q u
def seqOf : T → Option (List T)
  | .lst ts => some ts
  | .tup ts => some ts
  | _ => none
def gMinX : T → M T := fun t => ofO (seqOf t) (pickX PySem.W.minD)
def gMaxX : T → M T := fun t => ofO (seqOf t) (pickX PySem.W.maxD)
def rBest (S : Kx) (f : PyData → List PyData → PyData) : List V → Hp → VK → Prop := fun xs H Q => ∃ (w : Wd) (a : Addr) (t : T) (tl : List T) (vs : List V), w.H = H ∧ xs = [V.ref a] ∧ (SqL S.K w.H a vs ∨ SqT S.K w.H a vs) ∧ Reps S w (t :: tl) vs ∧
  (∀ u ∈ t :: tl, u.shp = true) ∧ PySem.W.AlikeAll ((t :: tl).map T.pd) ∧ ∀ u ∈ t :: tl, u.pd = f t.pd (tl.map T.pd) → ∀ x, Rep S w u x → Q x H
theorem depths {ts : List T} (h : ∀ u ∈ ts, u.shp = true) : PyData.depthAll (ts.map T.pd) ≤ 64 := by
  induction ts with
  | nil => rw [List.map_nil, PyData.depthAll]; exact Nat.zero_le _
  | cons t ts ih =>
    rw [List.map_cons, PyData.depthAll]
    exact Nat.max_le.mpr ⟨shp_dep (h t List.mem_cons_self), ih fun u hu => h u (List.mem_cons_of_mem _ hu)⟩
theorem dats_of {ts : List T} (h : ∀ u ∈ ts, u.shp = true) : T.dats ts = true := by
  induction ts with
  | nil => rw [T.dats]
  | cons t ts ih =>
    have h0 := h t List.mem_cons_self
    unfold T.shp at h0
    rw [Bool.and_eq_true] at h0
    rw [T.dats, h0.1, ih fun u hu => h u (List.mem_cons_of_mem _ hu)]
    rfl
theorem best_use {f : PyData → List PyData → PyData} (hK : X.K = S.K) {pins : List (Addr × Obj)} {s : Shared} {σ : L2.St} {w : Wd} (I : Inv X pins σ w.H s) {t : T} {tl : List T} {vs : List V} {its : List Value} (hr : Reps S w (t :: tl) vs) (rv : Vals vs its) (hs : ∀ u ∈ t :: tl, u.shp = true) {Q : VK}
    (q : ∀ u ∈ t :: tl, u.pd = f t.pd (tl.map T.pd) → ∀ x, Rep S w u x → Q x w.H) {i : Nat} {v : Value} {h' : Heap} {tk : Nat} {bs : List Addr} (hi : its.toArray[i]? = some v) (rd : Reads h' v (f t.pd (tl.map T.pd)) bs) (hk : ∀ b o, s.heap.get? b = some o → h'.get? b = some o) :
    EP X pins σ Q v { s with heap := h', toks := tk } := by
  have hi : its[i]? = some v := by simpa using hi
  obtain ⟨x, e1, rx⟩ : ∃ x, vs[i]? = some x ∧ RelV x v := by
    have hl := rv.length
    have hlt := (List.getElem?_eq_some_iff.mp hi).1
    have e0 : vs[i]? = some (vs[i]'(by omega)) := List.getElem?_eq_getElem (by omega)
    obtain ⟨u, e2, r⟩ := rv.get e0
    rw [hi] at e2
    cases e2
    exact ⟨_, e0, r⟩
  obtain ⟨u, e2, ru⟩ := hr.get' e1
  have mu := List.mem_of_getElem? e2
  have hd : u.dat = true := by
    have h0 := hs u mu
    unfold T.shp at h0
    rw [Bool.and_eq_true] at h0
    exact h0.1
  have dp := dp_of u x ru hd
  rw [← hK] at dp
  obtain ⟨as, ra⟩ := Dp.reads I _ _ _ dp rx
  have e3 := (PySem.Reads.unique (PySem.W.reads_keeps hk ra) _ _ rd).1
  exact ⟨x, w.H, I.kept hk, rx, q u mu e3 x ru⟩
theorem reads_of (hK : X.K = S.K) {pins : List (Addr × Obj)} {s : Shared} {σ : L2.St} {w : Wd} (I : Inv X pins σ w.H s) {ts : List T} {vs : List V} {its : List Value} (hr : Reps S w ts vs) (rv : Vals vs its) (hs : ∀ u ∈ ts, u.shp = true) : ∃ as, ReadsAll s.heap its.toArray.toList (ts.map T.pd) as := by
  have dp := dps_of ts vs hr (dats_of hs)
  rw [← hK, T.pds_map] at dp
  exact Dp.readsAll I _ _ _ dp rv
theorem cr_minX (hK : X.K = S.K) (hc : X.calm = true) (hu : X.A.units + 200 < cLine) : CallR X (.builtin "min") (rBest S PySem.W.minD) := by
  intro pins s σ H xs us Q I r h
  obtain ⟨w, a, t, tl, vs, rfl, rfl, ha, hr, hs, hal, q⟩ := h
  rw [Vals.ref1 r]
  have dl := depths hs
  rcases ha with ha | ha
  · obtain ⟨its, rv, hl, _⟩ := I.list (by rw [hK]; exact ha)
    obtain ⟨as, ra⟩ := reads_of hK I hr rv hs
    exact PySem.W.min_list_data (I.ok.hd hc) hl.isList ra hal (by show _ + 1 + PyData.depthAll ((t :: tl).map T.pd) < _; omega) fun i v h' tk bs hi rd hk => best_use hK I hr rv hs q hi rd hk
  · obtain ⟨its, rv, hl, _⟩ := I.tuple (by rw [hK]; exact ha)
    obtain ⟨as, ra⟩ := reads_of hK I hr rv hs
    exact PySem.W.min_tuple_data (I.ok.hd hc) hl ra hal (by show _ + 1 + PyData.depthAll ((t :: tl).map T.pd) < _; omega) fun i v h' tk bs hi rd hk => best_use hK I hr rv hs q hi rd hk
theorem cr_maxX (hK : X.K = S.K) (hc : X.calm = true) (hu : X.A.units + 200 < cLine) : CallR X (.builtin "max") (rBest S PySem.W.maxD) := by
  intro pins s σ H xs us Q I r h
  obtain ⟨w, a, t, tl, vs, rfl, rfl, ha, hr, hs, hal, q⟩ := h
  rw [Vals.ref1 r]
  have dl := depths hs
  rcases ha with ha | ha
  · obtain ⟨its, rv, hl, _⟩ := I.list (by rw [hK]; exact ha)
    obtain ⟨as, ra⟩ := reads_of hK I hr rv hs
    exact PySem.W.max_list_data (I.ok.hd hc) hl.isList ra hal (by show _ + 1 + PyData.depthAll ((t :: tl).map T.pd) < _; omega) fun i v h' tk bs hi rd hk => best_use hK I hr rv hs q hi rd hk
  · obtain ⟨its, rv, hl, _⟩ := I.tuple (by rw [hK]; exact ha)
    obtain ⟨as, ra⟩ := reads_of hK I hr rv hs
    exact PySem.W.max_tuple_data (I.ok.hd hc) hl ra hal (by show _ + 1 + PyData.depthAll ((t :: tl).map T.pd) < _; omega) fun i v h' tk bs hi rd hk => best_use hK I hr rv hs q hi rd hk
theorem sim_best {f : PyData → List PyData → PyData} {w : Wd} {t : T} {x : V} {Q' : T → Prop} {QE : Exn → Prop} {Q : VK} (ok : Wok S w) (r : RepB S w t x) (hg : ofO (seqOf t) (pickX f) Q' QE) (k : Kont S w 0 Q' Q) : rBest S f [x] w.H Q := by
  obtain ⟨ts, e, hg⟩ := ofO_inv hg
  obtain ⟨a, vs, rfl, hsq, hr⟩ : ∃ a vs, x = V.ref a ∧ (SqL S.K w.H a vs ∨ SqT S.K w.H a vs) ∧ Reps S w ts vs := by
    cases t with
    | lst us =>
      cases e
      obtain ⟨a, vs, rfl, h0, h1, h2⟩ := r.lst_inv
      exact ⟨a, vs, rfl, .inl (.inl (.inl h1)), h2⟩
    | tup us =>
      cases e
      obtain ⟨a, vs, rfl, h1, h2⟩ := r.tup_inv
      exact ⟨a, vs, rfl, .inr h1.sq, h2⟩
    | _ => cases e
  cases ts with
  | nil => exact hg.elim
  | cons t tl =>
    obtain ⟨⟨g1, g2⟩, g3⟩ := hg
    exact ⟨w, a, t, tl, vs, rfl, rfl, hsq, hr, g1, g2, fun u hu e x rx => kont_0 ok rx (.inl rfl) k (g3 u hu e)⟩
theorem de_minX (E : Ex X S W k) (hm : S.mg "min" = none) (ha : DAB X S W [e] mas) (hv : bootBuiltins "min" = some (.builtin "min") := by decide +kernel) (hg : Gl X "min" := by rfl) (he : starEach (e :: []) X.env = (false, eval e X.env) :: starEach [] X.env := by first | exact star_c rfl | rfl) (hpl : (backTo pos (starEach [] X.env)).any (·.1) = false := by first | exact star_any rfl | rfl) :
    DE X S W 0 (.Call (.Name "min" p) [e] [] pos) (mCall (g1 gMinX) mas) :=
  de_callB E.toEu (cr_minX E.hK E.calm E.un) (sim_1 fun w t x Q' QE Q ok r hg k => sim_best ok r hg k) hm hv ha hg (by decide) (by decide) he hpl
theorem de_maxX (E : Ex X S W k) (hm : S.mg "max" = none) (ha : DAB X S W [e] mas) (hv : bootBuiltins "max" = some (.builtin "max") := by decide +kernel) (hg : Gl X "max" := by rfl) (he : starEach (e :: []) X.env = (false, eval e X.env) :: starEach [] X.env := by first | exact star_c rfl | rfl) (hpl : (backTo pos (starEach [] X.env)).any (·.1) = false := by first | exact star_any rfl | rfl) :
    DE X S W 0 (.Call (.Name "max" p) [e] [] pos) (mCall (g1 gMaxX) mas) :=
  de_callB E.toEu (cr_maxX E.hK E.calm E.un) (sim_1 fun w t x Q' QE Q ok r hg k => sim_best ok r hg k) hm hv ha hg (by decide) (by decide) he hpl
end
end Twl

/-! TL51: first fits, orders, the fewest colours. -/
namespace Twl
open PySem PySem.Spec PyProof.Rows L2
/-! ### the least that is not used -/
theorem pig {c : Nat} {L : List Int} (h : ∀ d : Int, 0 ≤ d → d < c → d ∈ L) : c ≤ L.length := by
  have := sub_len (rngI_nd c) fun v hv => h v (rngI_mem.mp hv).1 (rngI_mem.mp hv).2
  simpa [rngI] using this
def lfF (used : List Int) : Nat → Int → Int
  | 0, c => c
  | f + 1, c => if c ∈ used then lfF used f (c + 1) else c
def lfI (used : List Int) : Int := lfF used used.length 0
structure IsLf (used : List Int) (c : Int) : Prop where
  nn : 0 ≤ c
  no : c ∉ used
  lt : ∀ d, 0 ≤ d → d < c → d ∈ used
theorem lfF_ok (used : List Int) : ∀ (f : Nat) (c : Nat), (∀ d : Int, 0 ≤ d → d < c → d ∈ used) → used.length ≤ c + f → IsLf used (lfF used f c)
  | 0, c, h, hl => ⟨by rw [lfF]; omega, fun hm => by
      rw [lfF] at hm
      have := pig (c := c + 1) (L := used) fun d h0 h1 => by
        by_cases e : d = (c : Int)
        · rw [e]; exact hm
        · exact h d h0 (by omega)
      omega, by rw [lfF]; exact h⟩
  | f + 1, c, h, hl => by
    rw [lfF]
    by_cases hm : (c : Int) ∈ used
    · rw [if_pos hm]
      have := lfF_ok used f (c + 1) (fun d h0 h1 => by
        by_cases e : d = (c : Int)
        · rw [e]; exact hm
        · exact h d h0 (by omega)) (by omega)
      rw [show ((c + 1 : Nat) : Int) = (c : Int) + 1 by omega] at this
      exact this
    · rw [if_neg hm]
      exact ⟨by omega, hm, h⟩
theorem lf_ok (used : List Int) : IsLf used (lfI used) := lfF_ok used used.length 0 (fun d h0 h1 => by omega) (by omega)
theorem IsLf.uniq {used : List Int} {c d : Int} (h1 : IsLf used c) (h2 : IsLf used d) : c = d := by
  rcases Int.lt_trichotomy c d with h | h | h
  · exact absurd (h2.lt c h1.nn h) h1.no
  · exact h
  · exact absurd (h1.lt d h2.nn h) h2.no
theorem lf_eq {used : List Int} {c : Int} (h : IsLf used c) : lfI used = c := (lf_ok used).uniq h
theorem lf_congr {L M : List Int} (h : ∀ x, x ∈ L ↔ x ∈ M) : lfI L = lfI M := by
  have h2 := lf_ok M
  exact lf_eq ⟨h2.nn, fun hm => h2.no ((h _).mp hm), fun d h0 h1 => (h d).mpr (h2.lt d h0 h1)⟩
theorem lf_le {used : List Int} {c : Int} (h0 : 0 ≤ c) (h : c ∉ used) : lfI used ≤ c := by
  rcases Int.lt_or_le c (lfI used) with q | q
  · exact absurd ((lf_ok used).lt c h0 q) h
  · exact q
theorem lf_len (used : List Int) : lfI used ≤ used.length := by
  have h := lf_ok used
  obtain ⟨c, hc⟩ := Int.eq_ofNat_of_zero_le h.nn
  have := pig (c := c) (L := used) fun d h0 h1 => h.lt d h0 (by omega)
  omega
/-! ### ties -/
section
variable {n : Nat} {ps : List (Int × Int)} (ho : ps.all (okP n) = true) (ha : ascP ps = true)
theorem tie_bd (ho : ps.all (okP n) = true) {p : Int × Int} (hp : p ∈ ps) : 0 ≤ p.1 ∧ p.1 < p.2 ∧ p.2 < n := by
  have := okP_iff2.mp (List.all_eq_true.mp ho p hp)
  omega
theorem nbr_bd (ho : ps.all (okP n) = true) (ha : ascP ps = true) {v u : Int} (h : u ∈ nb (nearS n ps) v) : 0 ≤ u ∧ u < n := (near_Gr ho ha).bd _ (nb_mem h) _ h
theorem nb_sym (ho : ps.all (okP n) = true) (ha : ascP ps = true) {v u : Int} (hv : 0 ≤ v ∧ v < n) (h : u ∈ nb (nearS n ps) v) : v ∈ nb (nearS n ps) u := by
  have hu := nbr_bd ho ha h
  rw [nb_iff ho ha hu]
  exact ((nb_iff ho ha hv).mp h).symm
theorem nb_irr (ho : ps.all (okP n) = true) (ha : ascP ps = true) {v : Int} (hv : 0 ≤ v ∧ v < n) : v ∉ nb (nearS n ps) v := fun h => by
  rcases (nb_iff ho ha hv).mp h with h | h
  · have := tie_bd ho h; simp only at this; omega
  · have := tie_bd ho h; simp only at this; omega
theorem pt_nb (ho : ps.all (okP n) = true) (ha : ascP ps = true) {k : Int} {row : List Int} (pt : Pt n ps k row) {v u : Int} (hv : 0 ≤ v ∧ v < n) (h : u ∈ nb (nearS n ps) v) : cl row u ≠ cl row v := by
  rcases (nb_iff ho ha hv).mp h with h | h
  · exact fun e => pt.ne _ h e.symm
  · exact fun e => pt.ne _ h e
end
/-! ### first fits -/
def usedO (near : List (List Int)) (f : List (Option Int)) (p : Int) : List Int := (nb near p).filterMap (co f)
def fitS (near : List (List Int)) (f : List (Option Int)) (p : Int) : List (Option Int) := f.set p.toNat (some (lfI (usedO near f p)))
def fitO (near : List (List Int)) (n : Nat) (order : List Int) : List (Option Int) := order.foldl (fitS near) (List.replicate n none)
def fitL (near : List (List Int)) (n : Nat) (order : List Int) : List Int := unO (fitO near n order)
theorem usedO_mem {near : List (List Int)} {f : List (Option Int)} {p c : Int} : c ∈ usedO near f p ↔ ∃ u ∈ nb near p, co f u = some c := by
  unfold usedO
  rw [List.mem_filterMap]
structure Fit (n : Nat) (ps : List (Int × Int)) (pre : List Int) (f : List (Option Int)) : Prop where
  len : f.length = n
  dom : ∀ v : Int, 0 ≤ v → v < n → (co f v ≠ none ↔ v ∈ pre)
  ne : ∀ v u c : Int, 0 ≤ v → v < n → u ∈ nb (nearS n ps) v → co f v = some c → co f u ≠ some c
  nn : ∀ v c : Int, 0 ≤ v → v < n → co f v = some c → 0 ≤ c
  lt : ∀ v c d : Int, 0 ≤ v → v < n → co f v = some c → 0 ≤ d → d < c → ∃ u ∈ nb (nearS n ps) v, co f u = some d
theorem co_rep (n : Nat) (v : Int) : co (List.replicate n none) v = none := by
  unfold co
  rw [List.getElem?_replicate]
  split <;> rfl
theorem Fit.init {n : Nat} {ps : List (Int × Int)} : Fit n ps [] (List.replicate n none) := by
  refine ⟨by simp, fun v _ _ => ?_, fun v u c _ _ _ h => ?_, fun v c _ _ h => ?_, fun v c d _ _ h => ?_⟩
  · rw [co_rep]; simp
  · rw [co_rep] at h; cases h
  · rw [co_rep] at h; cases h
  · rw [co_rep] at h; cases h
theorem fit_co {near : List (List Int)} {f : List (Option Int)} {p : Int} (hp : 0 ≤ p ∧ p < f.length) {v : Int} (hv : 0 ≤ v) : co (fitS near f p) v = if v = p then some (lfI (usedO near f p)) else co f v := co_set hp.1 hp.2 hv
theorem Fit.step {n : Nat} {ps : List (Int × Int)} (ho : ps.all (okP n) = true) (ha : ascP ps = true) {pre : List Int} {f : List (Option Int)} (h : Fit n ps pre f) {p : Int} (hp : 0 ≤ p ∧ p < n) (hn : p ∉ pre) : Fit n ps (pre ++ [p]) (fitS (nearS n ps) f p) := by
  have hl := h.len
  have hpl : 0 ≤ p ∧ p < (f.length : Int) := ⟨hp.1, by omega⟩
  have hpn : co f p = none := by
    refine Classical.byContradiction fun e => hn ((h.dom p hp.1 hp.2).mp e)
  have lf := lf_ok (usedO (nearS n ps) f p)
  have cc : ∀ v : Int, 0 ≤ v → co (fitS (nearS n ps) f p) v = if v = p then some (lfI (usedO (nearS n ps) f p)) else co f v := fun v hv => fit_co hpl hv
  refine ⟨by unfold fitS; rw [List.length_set]; exact hl, fun v h0 h1 => ?_, fun v u c h0 h1 hu e1 e2 => ?_, fun v c h0 h1 e => ?_, fun v c d h0 h1 e hd0 hd1 => ?_⟩
  · rw [cc v h0, List.mem_append, List.mem_singleton]
    by_cases e : v = p
    · rw [if_pos e]; simp [e]
    · rw [if_neg e, h.dom v h0 h1]; simp [e]
  · have hub := nbr_bd ho ha hu
    rw [cc v h0] at e1
    rw [cc u hub.1] at e2
    by_cases a : v = p
    · rw [if_pos a] at e1
      by_cases b : u = p
      · rw [a, b] at hu; exact nb_irr ho ha hp hu
      · rw [if_neg b] at e2
        refine lf.no (usedO_mem.mpr ⟨u, by rw [← a]; exact hu, ?_⟩)
        rw [e2, Option.some.inj e1]
    · rw [if_neg a] at e1
      by_cases b : u = p
      · rw [if_pos b] at e2
        refine lf.no (usedO_mem.mpr ⟨v, by rw [← b]; exact nb_sym ho ha ⟨h0, h1⟩ hu, ?_⟩)
        rw [e1, Option.some.inj e2]
      · rw [if_neg b] at e2
        exact h.ne v u c h0 h1 hu e1 e2
  · rw [cc v h0] at e
    by_cases a : v = p
    · rw [if_pos a] at e
      rw [← Option.some.inj e]; exact lf.nn
    · rw [if_neg a] at e
      exact h.nn v c h0 h1 e
  · rw [cc v h0] at e
    by_cases a : v = p
    · rw [if_pos a] at e
      have hd := lf.lt d hd0 (by rw [Option.some.inj e]; exact hd1)
      obtain ⟨u, hu, eu⟩ := usedO_mem.mp hd
      refine ⟨u, by rw [a]; exact hu, ?_⟩
      have hub := nbr_bd ho ha hu
      rw [cc u hub.1, if_neg (fun z => by rw [z] at hu; exact nb_irr ho ha hp hu)]
      exact eu
    · rw [if_neg a] at e
      obtain ⟨u, hu, eu⟩ := h.lt v c d h0 h1 e hd0 hd1
      refine ⟨u, hu, ?_⟩
      have hub := nbr_bd ho ha hu
      rw [cc u hub.1, if_neg (fun z => by rw [z, hpn] at eu; cases eu)]
      exact eu
/-- an order of all places -/
structure Ordr (n : Nat) (o : List Int) : Prop where
  nd : o.Nodup
  bd : ∀ v ∈ o, 0 ≤ v ∧ v < (n : Int)
  len : o.length = n
theorem Ordr.all {n : Nat} {o : List Int} (h : Ordr n o) {v : Int} (hv : 0 ≤ v ∧ v < (n : Int)) : v ∈ o := by
  refine Classical.byContradiction fun hn => ?_
  have := nodup_len (n := n) (L := v :: o) (List.nodup_cons.mpr ⟨hn, h.nd⟩) fun u hu => by
    rcases List.mem_cons.mp hu with rfl | hu
    · exact hv
    · exact h.bd u hu
  have := h.len
  simp at *
  omega
theorem fit_run {n : Nat} {ps : List (Int × Int)} (ho : ps.all (okP n) = true) (ha : ascP ps = true) : ∀ (o pre : List Int) (f : List (Option Int)), Fit n ps pre f → (pre ++ o).Nodup → (∀ v ∈ o, 0 ≤ v ∧ v < (n : Int)) → Fit n ps (pre ++ o) (o.foldl (fitS (nearS n ps)) f)
  | [], pre, f, h, _, _ => by rw [List.append_nil]; exact h
  | p :: o, pre, f, h, nd, hb => by
    rw [List.foldl_cons]
    have hp := hb p List.mem_cons_self
    have hn : p ∉ pre := fun hm => by
      rw [List.nodup_append] at nd
      exact nd.2.2 p hm p List.mem_cons_self rfl
    have := fit_run ho ha o (pre ++ [p]) _ (h.step ho ha hp hn) (by rw [List.append_assoc]; exact nd) fun v hv => hb v (List.mem_cons_of_mem _ hv)
    rwa [List.append_assoc] at this
theorem fit_ok {n : Nat} {ps : List (Int × Int)} (ho : ps.all (okP n) = true) (ha : ascP ps = true) {o : List Int} (h : Ordr n o) : Fit n ps o (fitO (nearS n ps) n o) := by
  have := fit_run ho ha o [] _ Fit.init (by rw [List.nil_append]; exact h.nd) h.bd
  rwa [List.nil_append] at this
theorem fit_none {n : Nat} {ps : List (Int × Int)} (ho : ps.all (okP n) = true) (ha : ascP ps = true) {o : List Int} (h : Ordr n o) : noneL (fitO (nearS n ps) n o) = [] := by
  have f := fit_ok ho ha h
  have hl := f.len
  cases e : noneL (fitO (nearS n ps) n o) with
  | nil => rfl
  | cons x L =>
    have hx : x ∈ noneL (fitO (nearS n ps) n o) := by rw [e]; exact List.mem_cons_self
    obtain ⟨hb, hn⟩ := noneL_mem.mp hx
    have hb : 0 ≤ x ∧ x < (n : Int) := ⟨hb.1, by omega⟩
    exact absurd hn ((f.dom x hb.1 hb.2).mpr (h.all hb))
theorem fitL_len {n : Nat} {ps : List (Int × Int)} (ho : ps.all (okP n) = true) (ha : ascP ps = true) {o : List Int} (h : Ordr n o) : (fitL (nearS n ps) n o).length = n := by
  have f := fit_ok ho ha h
  unfold fitL unO
  rw [List.length_map]; exact f.len
theorem fitL_co {n : Nat} {ps : List (Int × Int)} (ho : ps.all (okP n) = true) (ha : ascP ps = true) {o : List Int} (h : Ordr n o) {v : Int} (hv : 0 ≤ v ∧ v < (n : Int)) : co (fitO (nearS n ps) n o) v = some (cl (fitL (nearS n ps) n o) v) :=
  unO_cl (fit_none ho ha h) hv.1 (by rw [(fit_ok ho ha h).len]; exact hv.2)
theorem cl_of_mem {row : List Int} {x : Int} (h : x ∈ row) : ∃ v : Int, 0 ≤ v ∧ v < (row.length : Int) ∧ cl row v = x := by
  obtain ⟨i, hi, e⟩ := List.getElem_of_mem h
  refine ⟨i, by omega, by omega, ?_⟩
  unfold cl
  rw [Int.toNat_natCast, List.getElem?_eq_getElem hi, e]
  rfl
theorem fitL_pt {n : Nat} {ps : List (Int × Int)} (ho : ps.all (okP n) = true) (ha : ascP ps = true) {o : List Int} (h : Ordr n o) {k : Int} (hk : ∀ x ∈ fitL (nearS n ps) n o, x < k) : Pt n ps k (fitL (nearS n ps) n o) := by
  have f := fit_ok ho ha h
  have hl := fitL_len ho ha h
  refine ⟨hl, fun x hx => ⟨?_, hk x hx⟩, fun p hp e => ?_⟩
  · obtain ⟨v, h0, h1, rfl⟩ := cl_of_mem hx
    exact f.nn v _ h0 (by omega) (fitL_co ho ha h ⟨h0, by omega⟩)
  · have hb := tie_bd ho hp
    have hv : 0 ≤ p.1 ∧ p.1 < (n : Int) := ⟨hb.1, by omega⟩
    have hu : 0 ≤ p.2 ∧ p.2 < (n : Int) := ⟨by omega, by omega⟩
    have := f.ne p.1 p.2 _ hv.1 hv.2 ((nb_iff ho ha hv).mpr (.inl hp)) (fitL_co ho ha h hv)
    exact this (by rw [fitL_co ho ha h hu, e])
theorem fitL_deg {n : Nat} {ps : List (Int × Int)} (ho : ps.all (okP n) = true) (ha : ascP ps = true) {o : List Int} (h : Ordr n o) {v : Int} (hv : 0 ≤ v ∧ v < (n : Int)) : cl (fitL (nearS n ps) n o) v ≤ (nb (nearS n ps) v).length := by
  have f := fit_ok ho ha h
  have e := fitL_co ho ha h hv
  obtain ⟨c, hc⟩ := Int.eq_ofNat_of_zero_le (f.nn v _ hv.1 hv.2 e)
  have := pig (c := c) (L := (nb (nearS n ps) v).map (cl (fitL (nearS n ps) n o))) fun d h0 h1 => by
    obtain ⟨u, hu, eu⟩ := f.lt v _ d hv.1 hv.2 e h0 (by omega)
    have hub := nbr_bd ho ha hu
    rw [fitL_co ho ha h hub] at eu
    exact List.mem_map.mpr ⟨u, hu, Option.some.inj eu⟩
  rw [List.length_map] at this
  omega
/-! ### an order that follows a painting takes no more colours -/
theorem fit_below {n : Nat} {ps : List (Int × Int)} (ho : ps.all (okP n) = true) (ha : ascP ps = true) {k : Int} {p : List Int} (pt : Pt n ps k p) : ∀ (o pre : List Int) (f : List (Option Int)), Fit n ps pre f → (pre ++ o).Nodup → (∀ v ∈ o, 0 ≤ v ∧ v < (n : Int)) →
    (pre ++ o).Pairwise (fun a b => cl p a ≤ cl p b) → (∀ v c : Int, 0 ≤ v → v < n → co f v = some c → c ≤ cl p v) → ∀ v c : Int, 0 ≤ v → v < n → co (o.foldl (fitS (nearS n ps)) f) v = some c → c ≤ cl p v
  | [], pre, f, h, _, _, _, hc => hc
  | q :: o, pre, f, h, nd, hb, pw, hc => by
    rw [List.foldl_cons]
    have hq := hb q List.mem_cons_self
    have hl := h.len
    have hn : q ∉ pre := fun hm => by
      rw [List.nodup_append] at nd
      exact nd.2.2 q hm q List.mem_cons_self rfl
    refine fit_below ho ha pt o (pre ++ [q]) _ (h.step ho ha hq hn) (by rw [List.append_assoc]; exact nd) (fun v hv => hb v (List.mem_cons_of_mem _ hv)) (by rw [List.append_assoc]; exact pw) fun v c h0 h1 e => ?_
    rw [fit_co ⟨hq.1, by omega⟩ h0] at e
    by_cases a : v = q
    · rw [if_pos a] at e
      rw [← Option.some.inj e, a]
      have hpq : 0 ≤ cl p q := (pt.bd _ (cl_mem hq.1 (by rw [pt.len]; exact hq.2))).1
      refine lf_le hpq fun hm => ?_
      obtain ⟨u, hu, eu⟩ := usedO_mem.mp hm
      have hub := nbr_bd ho ha hu
      have hup : u ∈ pre := (h.dom u hub.1 hub.2).mp (by rw [eu]; simp)
      have h2 := (List.pairwise_append.mp pw).2.2 u hup q List.mem_cons_self
      have h3 := hc u _ hub.1 hub.2 eu
      have h4 := pt_nb ho ha pt hq hu
      omega
    · rw [if_neg a] at e
      exact hc v c h0 h1 e
theorem fit_follow {n : Nat} {ps : List (Int × Int)} (ho : ps.all (okP n) = true) (ha : ascP ps = true) {k : Int} {p : List Int} (pt : Pt n ps k p) : ∃ o, Ordr n o ∧ ∀ x ∈ fitL (nearS n ps) n o, x < k := by
  have hp : ((rngI n).mergeSort fun a b => decide (cl p a ≤ cl p b)).Perm (rngI n) := List.mergeSort_perm _ _
  have hs : ((rngI n).mergeSort fun a b => decide (cl p a ≤ cl p b)).Pairwise (fun a b => cl p a ≤ cl p b) := by
    have := List.pairwise_mergeSort (le := fun (a b : Int) => decide (cl p a ≤ cl p b)) (fun a b c h1 h2 => by simp at h1 h2 ⊢; omega) (fun a b => by simp; omega) (rngI n)
    exact this.imp (by simp)
  generalize (rngI n).mergeSort (fun a b => decide (cl p a ≤ cl p b)) = o at hp hs
  have od : Ordr n o := ⟨hp.nodup_iff.mpr (rngI_nd n), fun v hv => rngI_mem.mp (hp.mem_iff.mp hv), by rw [hp.length_eq]; simp [rngI]⟩
  refine ⟨o, od, fun x hx => ?_⟩
  obtain ⟨v, h0, h1, rfl⟩ := cl_of_mem hx
  rw [fitL_len ho ha od] at h1
  have hb := fit_below ho ha pt o [] _ Fit.init (by rw [List.nil_append]; exact od.nd) od.bd (by rw [List.nil_append]; exact hs) (fun v c _ _ e => by rw [co_rep] at e; cases e) v _ h0 h1 (fitL_co ho ha od ⟨h0, h1⟩)
  have := (pt.bd _ (cl_mem h0 (by rw [pt.len]; exact h1))).2
  omega
/-! ### all orders -/
def nextO (n : Nat) (r : List Int) : List (List Int) := ((rngI n).filter fun a => !decide (a ∈ r)).map fun a => r ++ [a]
def ordL (n : Nat) : Nat → List (List Int)
  | 0 => [[]]
  | i + 1 => (ordL n i).flatMap (nextO n)
theorem mem_ordL {n : Nat} : ∀ {i : Nat} {r : List Int}, r ∈ ordL n i ↔ r.Nodup ∧ (∀ v ∈ r, 0 ≤ v ∧ v < (n : Int)) ∧ r.length = i
  | 0, r => by
    rw [ordL, List.mem_singleton]
    constructor
    · rintro rfl; exact ⟨List.nodup_nil, fun v h => by simp at h, rfl⟩
    · rintro ⟨_, _, h⟩; exact List.eq_nil_of_length_eq_zero h
  | i + 1, r => by
    rw [ordL, List.mem_flatMap]
    constructor
    · rintro ⟨s, hs, hr⟩
      obtain ⟨h1, h2, h3⟩ := mem_ordL.mp hs
      obtain ⟨a, hm, rfl⟩ := List.mem_map.mp hr
      obtain ⟨ha, hn⟩ := List.mem_filter.mp hm
      have hn : a ∉ s := by simpa using hn
      refine ⟨List.nodup_append.mpr ⟨h1, by simp, fun x hx y hy e => ?_⟩, fun v hv => ?_, by simp [h3]⟩
      · rw [List.mem_singleton] at hy
        exact hn (by rw [← hy, ← e]; exact hx)
      · rcases List.mem_append.mp hv with h | h
        · exact h2 v h
        · rw [List.mem_singleton] at h; rw [h]; exact rngI_mem.mp ha
    · rintro ⟨h1, h2, h3⟩
      have hne : r ≠ [] := fun e => by rw [e] at h3; simp at h3
      have e := List.dropLast_concat_getLast hne
      rw [← e] at h1 h2
      rw [List.nodup_append] at h1
      refine ⟨r.dropLast, mem_ordL.mpr ⟨h1.1, fun v hv => h2 v (List.mem_append_left _ hv), by rw [List.length_dropLast]; omega⟩, ?_⟩
      unfold nextO
      refine List.mem_map.mpr ⟨r.getLast hne, List.mem_filter.mpr ⟨rngI_mem.mpr (h2 _ (by simp)), ?_⟩, e⟩
      simp only [Bool.not_eq_true', decide_eq_false_iff_not]
      exact fun hm => h1.2.2 _ hm _ (List.mem_singleton.mpr rfl) rfl
theorem ord_iff {n : Nat} {o : List Int} : o ∈ ordL n n ↔ Ordr n o := by
  rw [mem_ordL]
  exact ⟨fun ⟨a, b, c⟩ => ⟨a, b, c⟩, fun h => ⟨h.nd, h.bd, h.len⟩⟩
theorem nextO_len (n : Nat) (r : List Int) : (nextO n r).length ≤ n := by
  unfold nextO
  rw [List.length_map]
  exact Nat.le_trans (List.length_filter_le _ _) (by simp [rngI])
theorem ordL_len (n : Nat) : ∀ i, (ordL n i).length ≤ n ^ i
  | 0 => by simp [ordL]
  | i + 1 => by
    have ih := ordL_len n i
    have key : ∀ L : List (List Int), (L.flatMap (nextO n)).length ≤ L.length * n := by
      intro L
      induction L with
      | nil => simp
      | cons r L ih =>
        rw [List.flatMap_cons, List.length_append, List.length_cons, Nat.add_mul, Nat.one_mul]
        have := nextO_len n r
        omega
    rw [ordL, Nat.pow_succ]
    exact Nat.le_trans (key _) (Nat.mul_le_mul_right _ ih)
theorem rng_ord (n : Nat) : Ordr n (rngI n) := ⟨rngI_nd n, fun v hv => rngI_mem.mp hv, by simp [rngI]⟩
end Twl

/-! TL52: the least number of colours; the first painting, walked in depth. -/
namespace Twl
open PySem PySem.Spec PyProof.Rows L2
structure IsChi (n : Nat) (ps : List (Int × Int)) (k : Nat) : Prop where
  ex : ∃ row, Pt n ps k row
  lt : ∀ j : Nat, j < k → ∀ row, ¬ Pt n ps j row
theorem IsChi.uniq {n : Nat} {ps : List (Int × Int)} {j k : Nat} (h1 : IsChi n ps j) (h2 : IsChi n ps k) : j = k := by
  rcases Nat.lt_trichotomy j k with h | h | h
  · obtain ⟨row, pt⟩ := h1.ex; exact absurd pt (h2.lt j h row)
  · exact h
  · obtain ⟨row, pt⟩ := h2.ex; exact absurd pt (h1.lt k h row)
theorem chi_le {n : Nat} {ps : List (Int × Int)} : ∀ (m : Nat), (∃ row, Pt n ps m row) → ∃ k, k ≤ m ∧ IsChi n ps k := by
  intro m
  induction m using Nat.strongRecOn with
  | _ m ih =>
    intro h
    by_cases c : ∃ j : Nat, j < m ∧ ∃ row, Pt n ps j row
    · obtain ⟨j, hj, hr⟩ := c
      obtain ⟨k, hk, hc⟩ := ih j hj hr
      exact ⟨k, by omega, hc⟩
    · exact ⟨m, Nat.le_refl _, h, fun j hj row pt => c ⟨j, hj, row, pt⟩⟩
theorem cl_rng {n : Nat} {i : Int} (h0 : 0 ≤ i) (h1 : i < n) : cl (rngI n) i = i := by
  obtain ⟨x, rfl⟩ := Int.eq_ofNat_of_zero_le h0
  unfold cl
  rw [Int.toNat_natCast, rngI_get (by omega)]
  rfl
theorem rng_pt {n : Nat} {ps : List (Int × Int)} (ho : ps.all (okP n) = true) : Pt n ps n (rngI n) := by
  refine ⟨by simp [rngI], fun x hx => rngI_mem.mp hx, fun p hp => ?_⟩
  have := tie_bd ho hp
  rw [cl_rng (by omega) (by omega), cl_rng (by omega) (by omega)]
  omega
theorem chi_ex {n : Nat} {ps : List (Int × Int)} (ho : ps.all (okP n) = true) : ∃ k, k ≤ n ∧ IsChi n ps k := chi_le n ⟨_, rng_pt ho⟩
theorem chi_pos {n : Nat} {ps : List (Int × Int)} (h1 : 1 ≤ n) {k : Nat} (h : IsChi n ps k) : 1 ≤ k := by
  obtain ⟨row, pt⟩ := h.ex
  have hl := pt.len
  cases row with
  | nil => simp at hl; omega
  | cons a row =>
    have := pt.bd a List.mem_cons_self
    omega
theorem Pt.lower {n : Nat} {ps : List (Int × Int)} {k j : Int} {row : List Int} (pt : Pt n ps k row) (h : ∀ x ∈ row, x < j) : Pt n ps j row := ⟨pt.len, fun x hx => ⟨(pt.bd x hx).1, h x hx⟩, pt.ne⟩
/-- a painting by the fewest uses the last one -/
theorem chi_top {n : Nat} {ps : List (Int × Int)} {k : Nat} (h : IsChi n ps k) (hk : 1 ≤ k) {row : List Int} (pt : Pt n ps k row) : (k : Int) - 1 ∈ row := by
  refine Classical.byContradiction fun hn => ?_
  have : Pt n ps ((k - 1 : Nat) : Int) row := pt.lower fun x hx => by
    have := (pt.bd x hx).2
    have : x ≠ (k : Int) - 1 := fun e => hn (e ▸ hx)
    omega
  exact h.lt (k - 1) (by omega) row this
/-! ### how many colours are there -/
def mxp (r : List Int) : Int := r.foldl (fun a x => max a (x + 1)) 0
theorem mxp_app (r : List Int) (c : Int) : mxp (r ++ [c]) = max (mxp r) (c + 1) := by
  unfold mxp; rw [List.foldl_append]; rfl
theorem mxp_nn : ∀ r : List Int, 0 ≤ mxp r := by
  have : ∀ (r : List Int) (a : Int), 0 ≤ a → 0 ≤ r.foldl (fun a x => max a (x + 1)) a := by
    intro r
    induction r with
    | nil => intro a h; exact h
    | cons x r ih => intro a h; rw [List.foldl_cons]; exact ih _ (by omega)
  exact fun r => this r 0 (Int.le_refl _)
theorem mxp_of {r : List Int} {m : Int} (hm : m ∈ r) (h0 : 0 ≤ m) (hb : ∀ y ∈ r, y ≤ m) : mxp r = m + 1 := by
  have up : ∀ (r : List Int) (a : Int), (∀ y ∈ r, y ≤ m) → a ≤ m + 1 → r.foldl (fun a x => max a (x + 1)) a ≤ m + 1 := by
    intro r
    induction r with
    | nil => intro a _ h; exact h
    | cons x r ih =>
      intro a hb h
      rw [List.foldl_cons]
      have := hb x List.mem_cons_self
      exact ih _ (fun y hy => hb y (List.mem_cons_of_mem _ hy)) (by omega)
  have lo : ∀ (r : List Int) (a : Int), (m + 1 ≤ a ∨ m ∈ r) → m + 1 ≤ r.foldl (fun a x => max a (x + 1)) a := by
    intro r
    induction r with
    | nil => intro a h; exact h.resolve_right (by simp)
    | cons x r ih =>
      intro a h
      rw [List.foldl_cons]
      refine ih _ ?_
      rcases h with h | h
      · left; omega
      · rcases List.mem_cons.mp h with e | h
        · left; omega
        · exact .inr h
  have a := up r 0 hb (by omega)
  have b := lo r 0 (.inr hm)
  unfold mxp
  omega
/-! ### the tree of plain paintings -/
def takenL (near : List (List Int)) (r : List Int) : List Int := ((nb near (r.length : Nat)).filter fun x => decide (x < (r.length : Int))).map (cl r)
def nextL (near : List (List Int)) (k : Int) (r : List Int) : List Int := (rngI (min (mxp r + 1) k).toNat).filter fun c => !decide (c ∈ takenL near r)
def plR (near : List (List Int)) (k : Int) : Nat → List Int → List (List Int)
  | 0, r => [r]
  | f + 1, r => (nextL near k r).flatMap fun c => plR near k f (r ++ [c])
def PL (near : List (List Int)) (n : Nat) (k : Int) (r : List Int) : List (List Int) := plR near k (n - r.length) r
theorem PL_full {near : List (List Int)} {n : Nat} {k : Int} {r : List Int} (h : r.length = n) : PL near n k r = [r] := by
  unfold PL; rw [h, Nat.sub_self, plR]
theorem PL_step {near : List (List Int)} {n : Nat} {k : Int} {r : List Int} (h : r.length < n) : PL near n k r = (nextL near k r).flatMap fun c => PL near n k (r ++ [c]) := by
  unfold PL
  obtain ⟨f, hf⟩ : ∃ f, n - r.length = f + 1 := ⟨n - r.length - 1, by omega⟩
  rw [hf, plR]
  congr 1
  funext c
  have : n - (r ++ [c]).length = f := by rw [List.length_append, List.length_singleton]; omega
  rw [this]
theorem nextL_bd {near : List (List Int)} {k : Int} {r : List Int} {c : Int} (h : c ∈ nextL near k r) : 0 ≤ c ∧ c < k ∧ c ∉ takenL near r := by
  obtain ⟨h1, h2⟩ := List.mem_filter.mp h
  have := rngI_mem.mp h1
  refine ⟨this.1, by omega, by simpa using h2⟩
theorem nextL_len (near : List (List Int)) (k : Nat) (r : List Int) : (nextL near k r).length ≤ k := by
  refine Nat.le_trans (List.length_filter_le _ _) ?_
  simp only [rngI, List.length_map, List.length_range]
  omega
theorem Pp.step {n : Nat} {ps : List (Int × Int)} (ho : ps.all (okP n) = true) (ha : ascP ps = true) {k : Int} {r : List Int} (h : Pp ps k r.length r) (hn : r.length < n) {c : Int} (hc : 0 ≤ c ∧ c < k) (ht : c ∉ takenL (nearS n ps) r) : Pp ps k (r ++ [c]).length (r ++ [c]) := by
  refine ⟨rfl, fun x hx => ?_, fun p hp h2 e => ?_⟩
  · rcases List.mem_append.mp hx with hx | hx
    · exact h.bd x hx
    · rw [List.mem_singleton] at hx; rw [hx]; exact hc
  · have hb := tie_bd ho hp
    rw [List.length_append, List.length_singleton] at h2
    by_cases a : p.2 < (r.length : Int)
    · rw [clA_lt (by omega) (by omega), clA_lt (by omega) (by omega)] at e
      exact h.ne p hp a e
    · have e2 : p.2 = (r.length : Nat) := by omega
      rw [clA_lt (by omega) (by omega), e2, clA_eq] at e
      refine ht ?_
      unfold takenL
      refine List.mem_map.mpr ⟨p.1, List.mem_filter.mpr ⟨?_, decide_eq_true (by omega)⟩, e⟩
      refine (nb_iff ho ha (by omega)).mpr (.inr ?_)
      rw [← e2]; exact hp
theorem Pp.nil {ps : List (Int × Int)} (k : Int) (hp : ∀ p ∈ ps, 0 ≤ p.2) : Pp ps k ([] : List Int).length [] := ⟨rfl, fun x h => by simp at h, fun p h h2 => by have := hp p h; simp at h2; omega⟩
theorem plR_pp {n : Nat} {ps : List (Int × Int)} (ho : ps.all (okP n) = true) (ha : ascP ps = true) {k : Int} : ∀ (f : Nat) (r : List Int), r.length + f = n → Pp ps k r.length r → ∀ s ∈ plR (nearS n ps) k f r, Pp ps k n s
  | 0, r, hl, h, s, hs => by
    rw [plR, List.mem_singleton] at hs
    have e : r.length = n := by omega
    rw [hs]
    rwa [e] at h
  | f + 1, r, hl, h, s, hs => by
    rw [plR, List.mem_flatMap] at hs
    obtain ⟨c, hc, hs⟩ := hs
    have hb := nextL_bd hc
    exact plR_pp ho ha f (r ++ [c]) (by rw [List.length_append, List.length_singleton]; omega) (h.step ho ha (by omega) ⟨hb.1, hb.2.1⟩ hb.2.2) s hs
theorem PL_pt {n : Nat} {ps : List (Int × Int)} (ho : ps.all (okP n) = true) (ha : ascP ps = true) {k : Int} {s : List Int} (h : s ∈ PL (nearS n ps) n k []) : Pt n ps k s :=
  Pp.pt ho (plR_pp ho ha _ [] (by simp) (Pp.nil k fun p hp => by have := tie_bd ho hp; omega) s h)
/-! ### where there is a painting there is a plain one -/
structure Mt (p r : List Int) : Prop where
  eq : ∀ a b : Int, 0 ≤ a → a < r.length → 0 ≤ b → b < r.length → (cl r a = cl r b ↔ cl p a = cl p b)
  bd : ∀ x ∈ r, 0 ≤ x ∧ x < mxp r
  on : ∀ d, 0 ≤ d → d < mxp r → d ∈ r
theorem Mt.count {n : Nat} {ps : List (Int × Int)} {k : Nat} {p r : List Int} (pt : Pt n ps k p) (h : Mt p r) (hl : r.length ≤ n) : mxp r ≤ k ∧ (r.length < n → (∀ j : Int, 0 ≤ j → j < r.length → cl p j ≠ cl p (r.length : Nat)) → mxp r + 1 ≤ k) := by
  have hm := mxp_nn r
  have hex : ∀ d ∈ rngI (mxp r).toNat, ∃ j : Int, 0 ≤ j ∧ j < r.length ∧ cl r j = d := fun d hd => by
    have := rngI_mem.mp hd
    exact cl_of_mem (h.on d this.1 (by omega))
  obtain ⟨f, hf⟩ : ∃ f : Int → Int, ∀ d ∈ rngI (mxp r).toNat, 0 ≤ f d ∧ f d < r.length ∧ cl r (f d) = d := by
    refine ⟨fun d => if q : d ∈ rngI (mxp r).toNat then Classical.choose (hex d q) else 0, fun d hd => ?_⟩
    simp only [dif_pos hd]
    exact Classical.choose_spec (hex d hd)
  have nd : ((rngI (mxp r).toNat).map fun d => cl p (f d)).Nodup := by
    rw [List.Nodup, List.pairwise_map]
    refine (List.Pairwise.and_mem.mp (rngI_nd (mxp r).toNat)).imp ?_
    rintro a b ⟨ma, mb, hne⟩ e
    obtain ⟨a1, a2, a3⟩ := hf a ma
    obtain ⟨b1, b2, b3⟩ := hf b mb
    exact hne (by rw [← a3, ← b3]; exact (h.eq _ _ a1 a2 b1 b2).mpr e)
  have bd : ∀ x ∈ (rngI (mxp r).toNat).map fun d => cl p (f d), 0 ≤ x ∧ x < (k : Int) := fun x hx => by
    obtain ⟨d, hd, rfl⟩ := List.mem_map.mp hx
    obtain ⟨a1, a2, _⟩ := hf d hd
    exact pt.bd _ (cl_mem a1 (by rw [pt.len]; omega))
  refine ⟨?_, fun hlt hno => ?_⟩
  · have := nodup_len nd bd
    simp only [List.length_map, rngI, List.length_range] at this
    omega
  · have := nodup_len (n := k) (L := cl p (r.length : Nat) :: (rngI (mxp r).toNat).map fun d => cl p (f d)) (List.nodup_cons.mpr ⟨fun hm2 => ?_, nd⟩) fun x hx => ?_
    · simp only [List.length_cons, List.length_map, rngI, List.length_range] at this
      omega
    · obtain ⟨d, hd, e⟩ := List.mem_map.mp hm2
      obtain ⟨a1, a2, _⟩ := hf d hd
      exact hno _ a1 a2 e
    · rcases List.mem_cons.mp hx with rfl | hx
      · exact pt.bd _ (cl_mem (by omega) (by rw [pt.len]; omega))
      · exact bd x hx
theorem Mt.step {n : Nat} {ps : List (Int × Int)} (ho : ps.all (okP n) = true) (ha : ascP ps = true) {k : Nat} {p r : List Int} (pt : Pt n ps k p) (h : Mt p r) (hl : r.length < n) : ∃ c ∈ nextL (nearS n ps) k r, Mt p (r ++ [c]) := by
  obtain ⟨k1, k2⟩ := h.count pt (by omega)
  have hm := mxp_nn r
  have hi : 0 ≤ ((r.length : Nat) : Int) ∧ ((r.length : Nat) : Int) < n := ⟨by omega, by omega⟩
  have split : ∀ a : Int, a < ((r ++ [0]).length : Nat) → a < (r.length : Int) ∨ a = (r.length : Nat) := fun a ha => by
    rw [List.length_append, List.length_singleton] at ha; omega
  by_cases c : ∃ j : Int, 0 ≤ j ∧ j < r.length ∧ cl p j = cl p (r.length : Nat)
  · obtain ⟨j, j0, j1, ej⟩ := c
    have hcb := h.bd _ (cl_mem j0 j1)
    refine ⟨cl r j, List.mem_filter.mpr ⟨rngI_mem.mpr ⟨hcb.1, by omega⟩, ?_⟩, ?_⟩
    · simp only [Bool.not_eq_true', decide_eq_false_iff_not]
      intro ht
      obtain ⟨u, hu, eu⟩ := List.mem_map.mp ht
      obtain ⟨hu, hlt⟩ := List.mem_filter.mp hu
      have hlt := of_decide_eq_true hlt
      have hub := nbr_bd ho ha hu
      have := (h.eq u j hub.1 hlt j0 j1).mp eu
      exact pt_nb ho ha pt hi hu (this.trans ej)
    · have e : mxp (r ++ [cl r j]) = mxp r := by rw [mxp_app]; omega
      refine ⟨fun a b a0 a1 b0 b1 => ?_, fun x hx => ?_, fun d d0 d1 => ?_⟩
      · rw [List.length_append, List.length_singleton] at a1 b1
        by_cases qa : a < (r.length : Int) <;> by_cases qb : b < (r.length : Int)
        · rw [clA_lt a0 qa, clA_lt b0 qb]; exact h.eq a b a0 qa b0 qb
        · have eb : b = (r.length : Nat) := by omega
          rw [clA_lt a0 qa, eb, clA_eq, ← ej]; exact h.eq a j a0 qa j0 j1
        · have ea : a = (r.length : Nat) := by omega
          rw [clA_lt b0 qb, ea, clA_eq, ← ej]; exact h.eq j b j0 j1 b0 qb
        · have ea : a = (r.length : Nat) := by omega
          have eb : b = (r.length : Nat) := by omega
          rw [ea, eb]; simp
      · rw [e]
        rcases List.mem_append.mp hx with hx | hx
        · exact h.bd x hx
        · rw [List.mem_singleton.mp hx]; exact hcb
      · rw [e] at d1
        exact List.mem_append_left _ (h.on d d0 d1)
  · have hno : ∀ j : Int, 0 ≤ j → j < r.length → cl p j ≠ cl p (r.length : Nat) := fun j j0 j1 e => c ⟨j, j0, j1, e⟩
    have hk := k2 hl hno
    refine ⟨mxp r, List.mem_filter.mpr ⟨rngI_mem.mpr ⟨hm, by omega⟩, ?_⟩, ?_⟩
    · simp only [Bool.not_eq_true', decide_eq_false_iff_not]
      intro ht
      obtain ⟨u, hu, eu⟩ := List.mem_map.mp ht
      obtain ⟨hu, hlt⟩ := List.mem_filter.mp hu
      have hlt := of_decide_eq_true hlt
      have hub := nbr_bd ho ha hu
      have := (h.bd _ (cl_mem hub.1 hlt)).2
      omega
    · have e : mxp (r ++ [mxp r]) = mxp r + 1 := by rw [mxp_app]; omega
      refine ⟨fun a b a0 a1 b0 b1 => ?_, fun x hx => ?_, fun d d0 d1 => ?_⟩
      · rw [List.length_append, List.length_singleton] at a1 b1
        by_cases qa : a < (r.length : Int) <;> by_cases qb : b < (r.length : Int)
        · rw [clA_lt a0 qa, clA_lt b0 qb]; exact h.eq a b a0 qa b0 qb
        · have eb : b = (r.length : Nat) := by omega
          rw [clA_lt a0 qa, eb, clA_eq]
          have := (h.bd _ (cl_mem a0 qa)).2
          exact ⟨fun q => by omega, fun q => absurd q (hno a a0 qa)⟩
        · have ea : a = (r.length : Nat) := by omega
          rw [clA_lt b0 qb, ea, clA_eq]
          have := (h.bd _ (cl_mem b0 qb)).2
          exact ⟨fun q => by omega, fun q => absurd q.symm (hno b b0 qb)⟩
        · have ea : a = (r.length : Nat) := by omega
          have eb : b = (r.length : Nat) := by omega
          rw [ea, eb]; simp
      · rw [e]
        rcases List.mem_append.mp hx with hx | hx
        · have := h.bd x hx; omega
        · rw [List.mem_singleton.mp hx]; omega
      · rw [e] at d1
        by_cases q : d = mxp r
        · rw [q]; simp
        · exact List.mem_append_left _ (h.on d d0 (by omega))
theorem plR_ne {n : Nat} {ps : List (Int × Int)} (ho : ps.all (okP n) = true) (ha : ascP ps = true) {k : Nat} {p : List Int} (pt : Pt n ps k p) : ∀ (f : Nat) (r : List Int), r.length + f = n → Mt p r → plR (nearS n ps) k f r ≠ []
  | 0, r, _, _ => by rw [plR]; simp
  | f + 1, r, hl, h => by
    obtain ⟨c, hc, h2⟩ := h.step ho ha pt (by omega)
    have := plR_ne ho ha pt f (r ++ [c]) (by rw [List.length_append, List.length_singleton]; omega) h2
    rw [plR]
    intro e
    rw [List.flatMap_eq_nil_iff] at e
    exact this (e c hc)
theorem PL_ne {n : Nat} {ps : List (Int × Int)} (ho : ps.all (okP n) = true) (ha : ascP ps = true) {k : Nat} {p : List Int} (pt : Pt n ps k p) : PL (nearS n ps) n k [] ≠ [] :=
  plR_ne ho ha pt _ [] (by simp) ⟨fun a b _ h => by simp at h; omega, fun x h => by simp at h, fun d h0 h1 => by unfold mxp at h1; simp at h1; omega⟩
end Twl

/-! TL53: rules for the greatest, the least, x[i] = v, x += 1, lists alike, l.index. -/
namespace Twl
open PySem PySem.Spec PyProof.Rows L2
theorem alike_ints (ns : List Int) : PySem.W.AlikeAll ((ns.map T.int).map T.pd) := by
  have hm : ∀ x ∈ (ns.map T.int).map T.pd, ∃ i, x = PyData.int i := fun x hx => by
    obtain ⟨t, ht, rfl⟩ := List.mem_map.mp hx
    obtain ⟨i, _, rfl⟩ := List.mem_map.mp ht
    exact ⟨i, by rw [T.pd]⟩
  refine ⟨fun x hx y hy => ?_, fun x hx e => ?_⟩
  · obtain ⟨i, rfl⟩ := hm x hx
    obtain ⟨j, rfl⟩ := hm y hy
    simp only [PySem.W.alike]
  · obtain ⟨i, rfl⟩ := hm x hx
    cases e
theorem pds_ints (ns : List Int) : (ns.map T.int).map T.pd = ns.map PyData.int := by
  rw [List.map_map]
  refine List.map_congr_left fun i _ => ?_
  show T.pd (.int i) = _
  rw [T.pd]
theorem foldMax : ∀ (ns : List Int) (n : Int), (ns.foldl max n = n ∨ ns.foldl max n ∈ ns) ∧ n ≤ ns.foldl max n ∧ ∀ y ∈ ns, y ≤ ns.foldl max n
  | [], n => ⟨.inl rfl, Int.le_refl _, fun y h => by simp at h⟩
  | x :: ns, n => by
    rw [List.foldl_cons]
    obtain ⟨h1, h2, h3⟩ := foldMax ns (max n x)
    refine ⟨?_, by omega, fun y hy => ?_⟩
    · rcases h1 with h1 | h1
      · rw [h1]
        rcases Int.le_total n x with q | q
        · right; rw [Int.max_eq_right q]; exact List.mem_cons_self
        · left; exact Int.max_eq_left q
      · exact .inr (List.mem_cons_of_mem _ h1)
    · rcases List.mem_cons.mp hy with rfl | hy
      · omega
      · exact h3 y hy
theorem foldMin : ∀ (ns : List Int) (n : Int), (ns.foldl min n = n ∨ ns.foldl min n ∈ ns) ∧ ns.foldl min n ≤ n ∧ ∀ y ∈ ns, ns.foldl min n ≤ y
  | [], n => ⟨.inl rfl, Int.le_refl _, fun y h => by simp at h⟩
  | x :: ns, n => by
    rw [List.foldl_cons]
    obtain ⟨h1, h2, h3⟩ := foldMin ns (min n x)
    refine ⟨?_, by omega, fun y hy => ?_⟩
    · rcases h1 with h1 | h1
      · rw [h1]
        rcases Int.le_total n x with q | q
        · left; exact Int.min_eq_left q
        · right; rw [Int.min_eq_right q]; exact List.mem_cons_self
      · exact .inr (List.mem_cons_of_mem _ h1)
    · rcases List.mem_cons.mp hy with rfl | hy
      · omega
      · exact h3 y hy
theorem n_maxX {t : T} {ns : List Int} (hs : seqOf t = some (ns.map T.int)) (hne : ns ≠ []) : Nd (g1 gMaxX [t]) (fun u => ∃ m, u = .int m ∧ m ∈ ns ∧ ∀ y ∈ ns, y ≤ m) := fun Q E q => by
  show ofO (seqOf t) (pickX PySem.W.maxD) Q E
  rw [hs]
  cases ns with
  | nil => exact absurd rfl hne
  | cons n ns =>
    refine ⟨⟨fun u hu => ?_, alike_ints (n :: ns)⟩, fun u hu e => ?_⟩
    · obtain ⟨i, _, rfl⟩ := List.mem_map.mp (show u ∈ (n :: ns).map T.int from hu)
      exact shp_int i
    · obtain ⟨i, hi, rfl⟩ := List.mem_map.mp (show u ∈ (n :: ns).map T.int from hu)
      rw [T.pd, T.pd, pds_ints, PySem.W.maxD_ints] at e
      obtain ⟨h1, h2, h3⟩ := foldMax ns n
      refine q _ ⟨i, rfl, hi, fun y hy => ?_⟩
      rw [PyData.int.inj e]
      rcases List.mem_cons.mp hy with rfl | hy
      · exact h2
      · exact h3 y hy
theorem n_minX {t : T} {ns : List Int} (hs : seqOf t = some (ns.map T.int)) (hne : ns ≠ []) : Nd (g1 gMinX [t]) (fun u => ∃ m, u = .int m ∧ m ∈ ns ∧ ∀ y ∈ ns, m ≤ y) := fun Q E q => by
  show ofO (seqOf t) (pickX PySem.W.minD) Q E
  rw [hs]
  cases ns with
  | nil => exact absurd rfl hne
  | cons n ns =>
    refine ⟨⟨fun u hu => ?_, alike_ints (n :: ns)⟩, fun u hu e => ?_⟩
    · obtain ⟨i, _, rfl⟩ := List.mem_map.mp (show u ∈ (n :: ns).map T.int from hu)
      exact shp_int i
    · obtain ⟨i, hi, rfl⟩ := List.mem_map.mp (show u ∈ (n :: ns).map T.int from hu)
      rw [T.pd, T.pd, pds_ints, PySem.W.minD_ints] at e
      obtain ⟨h1, h2, h3⟩ := foldMin ns n
      refine q _ ⟨i, rfl, hi, fun y hy => ?_⟩
      rw [PyData.int.inj e]
      rcases List.mem_cons.mp hy with rfl | hy
      · exact h2
      · exact h3 y hy
theorem e_maxX {t : T} {ns : List Int} (hs : seqOf t = some (ns.map T.int)) {m : Int} (hm : m ∈ ns) (hb : ∀ y ∈ ns, y ≤ m) : Ev (g1 gMaxX [t]) (.int m) := by
  refine ((n_maxX hs (fun e => by rw [e] at hm; simp at hm)).imp ?_).ev
  rintro _ ⟨x, rfl, hx, hxb⟩
  have a := hb x hx
  have b := hxb m hm
  rw [show x = m by omega]
theorem e_minX {t : T} {ns : List Int} (hs : seqOf t = some (ns.map T.int)) {m : Int} (hm : m ∈ ns) (hb : ∀ y ∈ ns, m ≤ y) : Ev (g1 gMinX [t]) (.int m) := by
  refine ((n_minX hs (fun e => by rw [e] at hm; simp at hm)).imp ?_).ev
  rintro _ ⟨x, rfl, hx, hxb⟩
  have a := hb x hx
  have b := hxb m hm
  rw [show x = m by omega]
theorem max_in {ns : List Int} (h : ns ≠ []) : ∃ m ∈ ns, ∀ y ∈ ns, y ≤ m := by
  cases ns with
  | nil => exact absurd rfl h
  | cons n ns =>
    obtain ⟨h1, h2, h3⟩ := foldMax ns n
    refine ⟨ns.foldl max n, ?_, fun y hy => ?_⟩
    · rcases h1 with h1 | h1
      · rw [h1]; exact List.mem_cons_self
      · exact List.mem_cons_of_mem _ h1
    · rcases List.mem_cons.mp hy with rfl | hy
      · exact h2
      · exact h3 y hy
/-- the greatest of a row without signs -/
theorem e_maxRow {t : T} {r : List Int} (hs : seqOf t = some (r.map T.int)) (hne : r ≠ []) (h0 : ∀ x ∈ r, 0 ≤ x) : Ev (g1 gMaxX [t]) (.int (mxp r - 1)) := by
  obtain ⟨m, hm, hb⟩ := max_in hne
  have := mxp_of hm (h0 m hm) hb
  rw [this, show m + 1 - 1 = m by omega]
  exact e_maxX hs hm hb
theorem mxp_lt {r : List Int} (hne : r ≠ []) (h0 : ∀ x ∈ r, 0 ≤ x) : (∀ x ∈ r, x < mxp r) ∧ mxp r - 1 ∈ r := by
  obtain ⟨m, hm, hb⟩ := max_in hne
  have := mxp_of hm (h0 m hm) hb
  rw [this]
  exact ⟨fun x hx => by have := hb x hx; omega, by rw [show m + 1 - 1 = m by omega]; exact hm⟩
section
variable {D : EndT} {env : Env} {i j d : Nat} {me mi mv : Env → M T} {ts : List T} {t v : T}
theorem i_st (h : env[i]? = some (.va 1 (.lst ts))) (hv : Ev (mv env) v) (hi : Ev (mi env) (.int (j : Int))) (hj : j < ts.length) (k : D.nx (env.set i (.va 1 (.lst (ts.set j v))))) : sSt i mv mi D env :=
  hv _ _ ⟨ts, h, hi _ _ ⟨j, j, rfl, by unfold ixN; simp [hj], k⟩⟩
theorem i_inc {c : Int} (h : env[i]? = some (.va 0 (.int c))) (k : D.nx (env.set i (.va d (.int (c + 1))))) : sAug i d gIAdd (mCon (.int 1)) D env := ⟨_, h, trivial, k⟩
end
theorem e_listR (n : Nat) (h : n < 2 ^ 20) : Ev (gListR1 (.int n)) (.lst ((rngI n).map T.int)) := fun Q E q => by
  refine ⟨?_, ?_⟩
  · unfold RgOk; omega
  · have e : rgT 0 n = (rngI n).map T.int := by simp [rgT, rngI]
    show Q _
    rw [e]
    exact q
theorem e_eqLL (L M : List Int) : Ev (gEq (.lst (L.map T.int)) (.lst (M.map T.int))) (.bl (decide (L = M))) := fun Q E q => by
  refine ⟨⟨(Sh.lst (Sh.ints L)).shp, (Sh.lst (Sh.ints M)).shp⟩, ?_⟩
  have e : (T.lst (L.map T.int)).eqv (.lst (M.map T.int)) = decide (L = M) := by
    unfold T.eqv
    rw [T.pd, T.pd, PyData.eqv, eqvAll_ints]
  show Q _
  rw [e]
  exact q
theorem e_idxI {L : List Int} {x : Int} {j : Nat} (h : L.findIdx? (fun z => decide (z = x)) = some j) : Ev (gIdx (.lst (L.map T.int)) (.int x)) (.int j) := fun Q E q => by
  refine ⟨⟨shp_int x, (Sh.lst (Sh.ints L)).shp⟩, ?_⟩
  have e : (L.map T.int).findIdx? (fun z => z.eqv (.int x)) = some j := by
    rw [List.findIdx?_map, ← h]
    refine congrArg (fun p => L.findIdx? p) ?_
    funext z
    exact eqv_int z x
  show ofO ((L.map T.int).findIdx? fun z => z.eqv (.int x)) _ Q E
  rw [e]
  exact q
/-- `colour in taken`, of which some are bare -/
theorem e_inOI {f : List (Option Int)} {near : List (List Int)} {p c : Int} : Ev (gIn (.int c) (.lst (((nb near p).map (co f)).map encO))) (.bl (decide (c ∈ usedO near f p))) := by
  have e : decide (c ∈ usedO near f p) = decide (some c ∈ (nb near p).map (co f)) := by
    rw [decide_eq_decide, usedO_mem, List.mem_map]
  rw [e]
  refine Ev.bnd (a := decide (some c ∈ (nb near p).map (co f))) (fun Q E q => ?_) (Ev.ret _)
  refine ⟨⟨shp_int c, (Sh.lst (Sh.Os _)).shp⟩, ?_⟩
  have := isIn_O (some c) ((nb near p).map (co f))
  show Q _
  rw [show T.int c = encO (some c) from rfl, this]
  exact q
end Twl

/-! TL54: ties drawn one by one, dicts of numbers, odd things. -/
namespace Twl
open PySem PySem.Spec PyProof.Rows L2
theorem putT_new {k : Key} {t : T} : ∀ {kts : List (Key × T)}, k ∉ kts.map (·.1) → putT kts k t = kts ++ [(k, t)]
  | [], _ => rfl
  | (j, u) :: r, h => by
    unfold putT
    rw [List.map_cons, List.mem_cons, not_or] at h
    rw [if_neg fun e => h.1 e.symm, putT_new h.2]
    rfl
theorem i_stD {D : EndT} {env : Twl.Env} {i : Nat} {mv mi : Twl.Env → M T} {kts : List (Key × T)} {v u : T} {k : Key} (hv : Ev (mv env) v) (h : env[i]? = some (.va 1 (.dk (kts.map (·.1)) (kts.map (·.2))))) (hn : KN kts) (hz : kts.length < sizeLine) (hk : Ev (mi env) u) (hu : u.key = some k) (next : D.nx (env.set i (.va 1 (.dk ((putT kts k v).map (·.1)) ((putT kts k v).map (·.2)))))) : sStD i mv mi D env := hv _ _ ⟨kts, h, hn, hz, hk _ _ ⟨k, hu, next⟩⟩
def dkT (kts : List (Key × T)) : T := .dk (kts.map (·.1)) (kts.map (·.2))
theorem dlook_in {k : Key} {t : T} : ∀ {kts : List (Key × T)}, KN kts → (k, t) ∈ kts → dlook (kts.map (·.1)) (kts.map (·.2)) k = some t
  | [], _, h => by simp at h
  | (j, u) :: r, hn, h => by
    unfold KN at hn
    rw [List.map_cons, List.nodup_cons] at hn
    rw [List.map_cons, List.map_cons, dlook]
    by_cases c : j = k
    · rw [if_pos c]
      rcases List.mem_cons.mp h with e | e
      · cases e; rfl
      · exact absurd (List.mem_map.mpr ⟨_, e, rfl⟩) (by rw [← c]; exact hn.1)
    · rw [if_neg c]
      rcases List.mem_cons.mp h with e | e
      · cases e; exact absurd rfl c
      · exact dlook_in hn.2 e
theorem dlook_out {k : Key} : ∀ {kts : List (Key × T)}, k ∉ kts.map (·.1) → dlook (kts.map (·.1)) (kts.map (·.2)) k = none
  | [], _ => rfl
  | (j, u) :: r, h => by
    rw [List.map_cons, List.mem_cons, not_or] at h
    rw [List.map_cons, List.map_cons, dlook, if_neg fun e => h.1 e.symm]
    exact dlook_out h.2
def lkK (kts : List (Key × T)) (i : Int) : Option T := dlook (kts.map (·.1)) (kts.map (·.2)) (Sum.inl i : Key)
theorem e_inD (i : Int) (kts : List (Key × T)) : Ev (gIn (.int i) (dkT kts)) (.bl (lkK kts i).isSome) := Ev.bnd (a := (lkK kts i).isSome) (fun Q E q => q) (Ev.ret _)
theorem e_ixD {i : Int} {kts : List (Key × T)} {t : T} (h : lkK kts i = some t) : Ev (gIxD (dkT kts) (.int i)) t := fun Q E q => by
  show ofO (lkK kts i) _ Q E
  rw [h]
  exact q
theorem lk_new {kts : List (Key × T)} {p v : Int} {t : T} (h : (Sum.inl p : Key) ∉ kts.map (·.1)) : lkK (kts ++ [(Sum.inl p, t)]) v = if v = p then some t else lkK kts v := by
  induction kts with
  | nil =>
    show dlook [Sum.inl p] [t] (Sum.inl v : Key) = _
    rw [dlook]
    by_cases e : v = p
    · rw [if_pos e, if_pos (by rw [e])]
    · rw [if_neg e, if_neg (fun z => e (Sum.inl.inj z).symm), dlook] <;> first | rfl | simp
  | cons a r ih =>
    obtain ⟨j, u⟩ := a
    rw [List.map_cons, List.mem_cons, not_or] at h
    show dlook (j :: (r ++ [((Sum.inl p : Key), t)]).map Prod.fst) (u :: (r ++ [((Sum.inl p : Key), t)]).map Prod.snd) (Sum.inl v : Key) = if v = p then some t else dlook (j :: r.map (·.1)) (u :: r.map (·.2)) (Sum.inl v : Key)
    rw [dlook, dlook]
    by_cases c : j = Sum.inl v
    · rw [if_pos c, if_pos c, if_neg (fun e => h.1 (by rw [c, e]))]
    · rw [if_neg c, if_neg c]
      exact ih h.2
/-! ### branches that hang on a draw -/
section
variable {D : EndT} {env : Env} {c c2 : Env → M Bool} {a b : SM}
theorem n_andT (h : Nd (c env) fun _ => True) (k : Nd (c2 env) fun _ => True) : Nd (mAnd c c2 env) (fun _ => True) := fun Q E q => h _ _ fun v _ => by
  cases v with
  | true => exact (if_pos rfl).mpr (k Q E q)
  | false => exact (if_neg Bool.false_ne_true).mpr (q false trivial)
theorem n_orT (h : Nd (c env) fun _ => True) (k : Nd (c2 env) fun _ => True) : Nd (mOr c c2 env) (fun _ => True) := fun Q E q => h _ _ fun v _ => by
  cases v with
  | true => exact (if_pos rfl).mpr (q true trivial)
  | false => exact (if_neg Bool.false_ne_true).mpr (k Q E q)
theorem i_ifN (h : Nd (c env) fun _ => True) (k1 : a D env) (k2 : b D env) : sIf c a b D env := h _ _ fun v _ => by
  cases v with
  | true => exact (if_pos rfl).mpr k1
  | false => exact (if_neg Bool.false_ne_true).mpr k2
theorem Ev.tt {α : Type} {m : M α} {x : α} (h : Ev m x) : Nd m (fun _ => True) := h.nd trivial
end
/-- the ties of the rows below a, and those of row a that end below b -/
structure Ud (n : Nat) (a b : Int) (ps : List (Int × Int)) : Prop where
  ok : ∀ p ∈ ps, 0 ≤ p.1 ∧ p.1 < p.2 ∧ p.2 ≤ (n : Int) - 1
  lt : ∀ p ∈ ps, p.1 < a ∨ (p.1 = a ∧ p.2 < b)
  pw : ps.Pairwise fun p q => ltP2 p q = true
theorem Ud.nil {n : Nat} {a b : Int} : Ud n a b [] := ⟨fun p h => by simp at h, fun p h => by simp at h, .nil⟩
theorem Ud.more {n : Nat} {a b b' : Int} {ps : List (Int × Int)} (h : Ud n a b ps) (hb : b ≤ b') : Ud n a b' ps := ⟨h.ok, fun p hp => by have := h.lt p hp; omega, h.pw⟩
theorem Ud.row {n : Nat} {a a' b b' : Int} {ps : List (Int × Int)} (h : Ud n a b ps) (ha : a < a') : Ud n a' b' ps := ⟨h.ok, fun p hp => by have := h.lt p hp; omega, h.pw⟩
theorem Ud.put {n : Nat} {a b : Int} {ps : List (Int × Int)} (h : Ud n a b ps) (h0 : 0 ≤ a) (hab : a < b) (hb : b ≤ (n : Int) - 1) : Ud n a (b + 1) (ps ++ [(a, b)]) := by
  refine ⟨fun p hp => ?_, fun p hp => ?_, List.pairwise_append.mpr ⟨h.pw, List.pairwise_singleton _ _, fun p hp q hq => ?_⟩⟩
  · rcases List.mem_append.mp hp with hp | hp
    · exact h.ok p hp
    · rw [List.mem_singleton.mp hp]; exact ⟨h0, hab, hb⟩
  · rcases List.mem_append.mp hp with hp | hp
    · have := h.lt p hp; omega
    · rw [List.mem_singleton.mp hp]; right; exact ⟨rfl, by simp; omega⟩
  · rw [List.mem_singleton.mp hq]
    refine (ltP2_iff _ _).mpr ?_
    have := h.lt p hp
    simp only
    omega
theorem Ud.fin {n : Nat} {a b : Int} {ps : List (Int × Int)} (h : Ud n a b ps) : ps.all (okP n) = true ∧ ascP ps = true := ⟨List.all_eq_true.mpr fun p hp => okP_iff2.mpr (h.ok p hp), pw_ascP h.pw⟩
/-! ### a tie among ties -/
theorem eqv_P (p q : Int × Int) : (encP p).eqv (encP q) = decide (p = q) := by
  have e : encP p = .tup ([p.1, p.2].map T.int) := rfl
  have e2 : encP q = .tup ([q.1, q.2].map T.int) := rfl
  rw [e, e2]
  unfold T.eqv
  rw [T.pd, T.pd, PyData.eqv, eqvAll_ints, decide_eq_decide]
  obtain ⟨a, b⟩ := p
  obtain ⟨c, d⟩ := q
  simp
theorem isIn_P (p : Int × Int) : ∀ L : List (Int × Int), T.isIn (encP p) (L.map encP) = decide (p ∈ L)
  | [] => by simp [T.isIn]
  | y :: L => by
    have ih := isIn_P p L
    unfold T.isIn at ih ⊢
    rw [List.map_cons, List.any_cons, ih, eqv_P]
    by_cases h : p = y
    · subst h; simp
    · have h2 : ¬ y = p := fun e => h e.symm
      simp [h, h2]
theorem sh_P (p : Int × Int) : Sh 1 (encP p) := Sh.tup fun t ht => by
  simp only [List.mem_cons, List.not_mem_nil, or_false] at ht
  rcases ht with rfl | rfl <;> exact Sh.int _
theorem shs_P (ps : List (Int × Int)) : ∀ t ∈ ps.map encP, Sh 1 t := fun t h => by
  obtain ⟨p, _, rfl⟩ := List.mem_map.mp h
  exact sh_P p
theorem e_inP (p : Int × Int) (ps : List (Int × Int)) : Ev (gIn (encP p) (.tup (ps.map encP))) (.bl (decide (p ∈ ps))) := by
  refine Ev.bnd (a := decide (p ∈ ps)) (fun Q E q => ?_) (Ev.ret _)
  refine ⟨⟨(sh_P p).shp, (Sh.tup (shs_P ps)).shp⟩, ?_⟩
  rw [isIn_P]
  exact q
theorem e_notInP (p : Int × Int) (ps : List (Int × Int)) : Ev (gNotIn (encP p) (.tup (ps.map encP))) (.bl (!decide (p ∈ ps))) := by
  refine Ev.bnd (a := decide (p ∈ ps)) (fun Q E q => ?_) (Ev.ret _)
  refine ⟨⟨(sh_P p).shp, (Sh.tup (shs_P ps)).shp⟩, ?_⟩
  rw [isIn_P]
  exact q
def pairP (a b : Int) : Int × Int := (if b < a then b else a, if b > a then b else a)
theorem pairP_iff {n : Nat} {ps : List (Int × Int)} (ho : ps.all (okP n) = true) (ha : ascP ps = true) {a b : Int} (h : 0 ≤ a ∧ a < (n : Int)) : pairP a b ∈ ps ↔ b ∈ nb (nearS n ps) a := by
  rw [nb_iff ho ha h]
  unfold pairP
  have hirr : ∀ x : Int, (x, x) ∉ ps := fun x hx => by have := tie_bd ho hx; simp only at this; omega
  have hlt : ∀ x y : Int, (x, y) ∈ ps → x < y := fun x y hx => (tie_bd ho hx).2.1
  rcases Int.lt_trichotomy a b with q | q | q
  · rw [if_neg (by omega), if_pos (by omega)]
    exact ⟨.inl, fun z => z.elim id fun z => by have := hlt _ _ z; omega⟩
  · subst q
    rw [if_neg (by omega)]
    exact ⟨.inl, fun z => z.elim id id⟩
  · rw [if_pos q, if_neg (by omega)]
    exact ⟨.inr, fun z => z.elim (fun z => by have := hlt _ _ z; omega) id⟩
theorem near_sorted (n : Nat) (ps : List (Int × Int)) (v : Int) : (nb (nearS n ps) v).Pairwise (· ≤ ·) := by
  unfold nb nearS
  rw [List.getElem?_map]
  cases (rowsOf n ps)[v.toNat]? with
  | none => exact .nil
  | some L => exact sortI_le L
theorem nb_nd {n : Nat} {near : List (List Int)} (g : Gr n near) (v : Int) : (nb near v).Nodup := by
  by_cases h : nb near v = []
  · rw [h]; exact List.nodup_nil
  · obtain ⟨x, hx⟩ := List.exists_mem_of_ne_nil _ h
    exact g.nd _ (nb_mem hx)
theorem tied_eq {n : Nat} {ps : List (Int × Int)} (ho : ps.all (okP n) = true) (ha : ascP ps = true) {a : Int} (h : 0 ≤ a ∧ a < (n : Int)) : (rngI n).filter (fun b => decide (pairP a b ∈ ps)) = nb (nearS n ps) a := by
  have nd := nb_nd (near_Gr ho ha) a
  have so := near_sorted n ps a
  have lt : (nb (nearS n ps) a).Pairwise (· < ·) := (so.and nd).imp fun {x y} q => by omega
  refine sorted_ext (R := (· < ·)) (fun a b h1 h2 => by omega) ((rngI_lt n).filter _) lt fun x => ?_
  rw [List.mem_filter, rngI_mem, decide_eq_true_eq, pairP_iff ho ha h]
  exact ⟨fun z => z.2, fun z => ⟨nbr_bd ho ha z, z⟩⟩
/-! ### odd things -/
inductive Od : T → Prop where
  | non : Od .non
  | web : Od (.str "web")
  | dk : Od (.dk [] [])
  | tup {t : T} : Od t → Od (.tup [t])
  | lst {t : T} : Od t → Od (.lst [t])
theorem Od.kn {t : T} (h : Od t) : t.kn = true := by
  induction h with
  | non => rfl
  | web => rfl
  | dk => rfl
  | tup _ ih => rw [T.kn, T.kns, ih]; rfl
  | lst _ ih => rw [T.kn, T.kns, ih]; rfl
theorem Od.not_int {t : T} (h : Od t) (lo hi : Int) : wthn t lo hi = false := by cases h <;> rfl
theorem Od.sized {t : T} (h : Od t) {lo hi : Int} (h2 : 2 ≤ lo) : sizedB t lo hi = false := by
  cases h with
  | tup _ => simp only [sizedB, List.length_singleton]; rw [Bool.and_eq_false_iff]; left; exact decide_eq_false (by simp; omega)
  | _ => rfl
theorem filterMap_co (f : List (Option Int)) : ∀ L : List Int, (L.filter fun u => (co f u).isSome).map (fun u => (co f u).getD 0) = L.filterMap (co f)
  | [] => rfl
  | u :: L => by
    have ih := filterMap_co f L
    rw [List.filter_cons, List.filterMap_cons]
    cases e : co f u with
    | none => simp [ih]
    | some c => simp [ih, e]
end Twl

/-! TL55: loops and calls whose things are drawn; the first place in a list. -/
namespace Twl
open PySem PySem.Spec PyProof.Rows L2
section
variable {D : EndT} {env : Env} {mi : Env → M (List T)} {g : GM} {m : SM} {me : Env → M T} {mas : Env → M (List T)}
theorem i_forN {L : List T → Prop} (hi : Nd (mi env) L) (k : ∀ items, L items → sFor (fun _ => ret items) g m D env) : sFor mi g m D env := hi _ _ fun items hL => k items hL
theorem n_ucallN {n : Nat} {den : List T → M T} {P : T → Prop} {L : List T → Prop} (h : Nd (mas env) L) (r : ∀ ts, L ts → ts.length = n ∧ Nd (den ts) P) : Nd ((fun env => bnd (mas env) fun ts => gd (ts.length = n) (den ts)) env) P := Nd.bnd h fun ts ht => Nd.gd (r ts ht).1 (r ts ht).2
theorem n_lst {L : List T → Prop} (h : Nd (mas env) L) (hz : ∀ ts, L ts → ts.length ≤ sizeLine) : Nd (mLst mas env) (fun t => ∃ ts, t = .lst ts ∧ L ts) := Nd.bnd h fun ts ht => Nd.gd (hz ts ht) (Nd.ret ⟨ts, rfl, ht⟩)
/-- all of a kind, so many -/
def AllP (P : T → Prop) (k : Nat) (ts : List T) : Prop := ts.length = k ∧ ∀ t ∈ ts, P t
theorem n_nilP {P : T → Prop} : Nd (mNil env) (AllP P 0) := Nd.ret ⟨rfl, fun t h => by simp at h⟩
theorem n_consP {P : T → Prop} {k : Nat} (h : Nd (me env) P) (r : Nd (mas env) (AllP P k)) : Nd (mCons me mas env) (AllP P (k + 1)) := (n_cons h r).imp fun ts ⟨t, us, e, hp, hl, ha⟩ => by
  subst e
  exact ⟨by rw [List.length_cons, hl], fun u hu => by
    rcases List.mem_cons.mp hu with rfl | hu
    · exact hp
    · exact ha u hu⟩
end
theorem first_idx {f : List Int → Int} {x : Int} : ∀ {L : List (List Int)}, x ∈ L.map f → ∃ (j : Nat) (A B : List (List Int)) (o : List Int), (L.map f).findIdx? (fun z => decide (z = x)) = some j ∧ L = A ++ o :: B ∧ L[j]? = some o ∧ f o = x ∧ ∀ y ∈ A, f y ≠ x
  | [], h => by simp at h
  | a :: L, h => by
    by_cases c : f a = x
    · exact ⟨0, [], L, a, by rw [List.map_cons, List.findIdx?_cons, decide_eq_true c]; rfl, rfl, rfl, c, fun y hy => by simp at hy⟩
    · have h : x ∈ L.map f := by
        rw [List.map_cons] at h
        rcases List.mem_cons.mp h with e | h
        · exact absurd e.symm c
        · exact h
      obtain ⟨j, A, B, o, h1, h2, h3, h4, h5⟩ := first_idx h
      refine ⟨j + 1, a :: A, B, o, ?_, by rw [h2]; rfl, by rw [List.getElem?_cons_succ]; exact h3, h4, fun y hy => ?_⟩
      · rw [List.map_cons, List.findIdx?_cons, decide_eq_false c, h1]; rfl
      · rcases List.mem_cons.mp hy with rfl | hy
        · exact c
        · exact h5 y hy
end Twl

/-! TL56: sorted of a tuple of tuples. -/
namespace Twl
open PySem PySem.Spec PyProof.Rows L2
section
variable {X : Cx} {S : Kx}
def rSortXT (S : Kx) : List V → Hp → VK → Prop := fun xs H Q => ∃ (w : Wd) (a : Addr) (ts : List T) (vs : List V), w.H = H ∧ xs = [V.ref a] ∧ TupAt S w a vs ∧ Reps S w ts vs ∧ (2 ≤ ts.length → OkX ts) ∧ ∀ us p, Reps S w (sortX ts) us → H p = none → Q (.ref p) (upd H p (.lst us))
theorem cr_sortXT (hK : X.K = S.K) (hu : X.A.units + 200 < cLine) : CallR X (.builtin "sorted") (rSortXT S) := by
  intro pins s σ H xs us Q I r h
  obtain ⟨w, a, ts, vs, rfl, rfl, ha, hr, ok, q⟩ := h
  obtain ⟨its, rv, hl, hz⟩ := I.tuple (a := a) (xs := vs) (by rw [hK]; exact ha.sq)
  rw [Vals.ref1 r]
  have lv := rv.length
  have lr := hr.length
  have hzz : its.length ≤ sizeLine := by rw [← rv.length]; exact hz
  have fin : ∀ out usv, Vals usv out → Reps S w (sortX ts) usv → EP X pins σ Q (.ref (s.heap.objs.size + 1)) { s with heap := sortedAll s.heap its out.toArray } := fun out usv rr hs => by
    obtain ⟨ep, he'⟩ := PyProof.Rows.sortedAll_at s.heap its out.toArray
    have hlen : usv.length ≤ sizeLine := by rw [hs.length, (sortX_perm ts).length_eq, ← lr]; exact hz
    exact ⟨.ref _, upd w.H (s.heap.objs.size + 1) (.lst usv), I.laid (t' := s.toks) (fun _ _ => PyProof.Rows.sortedAll_old) (Nat.le_succ _) ⟨hlen, out, ep, rr, he'⟩, rfl, q _ _ hs (I.hok.fresh (Nat.le_succ _))⟩
  by_cases h2 : ts.length < 2
  · have sw : SrtO.Swo (fun (_ _ : Value) => false) := ⟨fun _ _ h => by simp at h, fun _ _ _ _ _ => rfl⟩
    refine sorted_tupO sw hl hzz (fun h3 => absurd h3 (by omega)) fun out h1 hb => ?_
    have e : out = its := by
      have p := hb.perm
      match its, lv with
      | [], _ => exact p.eq_nil
      | [v], _ => exact List.perm_singleton.mp p
      | _ :: _ :: _, lv => simp at lv; omega
    rw [e]
    refine fin its vs rv ?_
    rw [sortX_short h2]; exact hr
  obtain ⟨o1, o2⟩ := ok (by omega)
  let tv : Value → T := fun v => @Classical.epsilon T ⟨.non⟩ (fun t => t.pur = true ∧ Rep S w t (backV v))
  have at_ : ∀ (k : Nat) (v : Value), its[k]? = some v → ∃ t, ts[k]? = some t ∧ tv v = t ∧ Rep S w t (backV v) ∧ RelV (backV v) v := fun k v e => by
    have hk : k < its.length := (List.getElem?_eq_some_iff.mp e).1
    have e1 : vs[k]? = some (vs[k]'(by omega)) := List.getElem?_eq_getElem (by omega)
    obtain ⟨t, e2, rt⟩ := hr.get' e1
    obtain ⟨u, e3, ru⟩ := rv.get e1
    rw [e] at e3
    cases e3
    obtain ⟨pt, st, i, us, et⟩ := o1 t (List.mem_of_getElem? e2)
    generalize vs[k]'(by omega) = x at rt ru
    have rt' := rt
    rw [et, Rep] at rt'
    obtain ⟨p, _, rfl, _⟩ := rt'
    cases ru
    have sp := @Classical.epsilon_spec T (fun t => t.pur = true ∧ Rep S w t (backV (Value.ref p))) ⟨t, pt, rt⟩
    exact ⟨t, e2, rep_uniq hK I _ _ _ sp.1 pt sp.2 rt, rt, rfl⟩
  have em : its.map tv = ts := by
    refine List.ext_getElem? fun k => ?_
    rw [List.getElem?_map]
    by_cases hk : k < its.length
    · obtain ⟨t, e1, e2, _⟩ := at_ k _ (List.getElem?_eq_getElem hk)
      rw [List.getElem?_eq_getElem hk, e1, Option.map_some, e2]
    · rw [List.getElem?_eq_none (by omega), List.getElem?_eq_none (by omega)]; rfl
  have mem : ∀ v ∈ its, tv v ∈ ts ∧ Rep S w (tv v) (backV v) ∧ RelV (backV v) v := fun v hv => by
    obtain ⟨k, hk, e⟩ := List.getElem_of_mem hv
    obtain ⟨t, e1, e2, e3, e4⟩ := at_ k v (by rw [List.getElem?_eq_getElem hk, e])
    rw [e2]
    exact ⟨List.mem_of_getElem? e1, e3, e4⟩
  have sw : SrtO.Swo (fun v u => lexI (tv v).cod (tv u).cod) := ⟨fun x y h => lexI_as _ _ h, fun x y z h1 h2 => lexI_tr _ _ _ h1 h2⟩
  refine sorted_tupO sw hl hzz (fun h3 h₁ a' ha' kk => ?_) fun out h1 hb => ?_
  · intro h' keep
    have I' : Inv X pins σ w.H { s with heap := h' } := I.kept (t' := s.toks) fun b u e => keep b u (kk b u e).1 (kk b u e).2
    have pt : ∀ v ∈ its, ∃ a o xs n i t, v = .ref a ∧ h'.get? a = some o ∧ o.cls = .type "tuple" ∧ o.data = .seq xs n ∧ xs[0]? = some (Value.int i t) := fun v hv => by
      obtain ⟨m1, m2, m3⟩ := mem v hv
      obtain ⟨_, _, i, us, et⟩ := o1 _ m1
      rw [et, Rep] at m2
      obtain ⟨p, vs', e, a1, a2⟩ := m2
      rw [e] at m3
      cases m3
      obtain ⟨its2, rv2, ⟨o, ho, hc, n, hd⟩, _⟩ := I'.tuple (a := p) (xs := vs') (by rw [hK]; exact a1.sq)
      obtain ⟨b, vy, rfl, rb, r2⟩ := a2.cons_inv
      rw [Rep] at rb
      subst rb
      cases rv2 with | cons qb rv2 =>
      obtain ⟨t, rfl⟩ := qb
      exact ⟨p, o, _, n, i, t, rfl, ho, hc, hd, rfl⟩
    obtain ⟨fs, f1, f2, f3⟩ := firstsX pt
    refine ⟨tuples' true, fun Q E hq => ?_, ?_⟩
    · refine PySem.W.kat_kind (T := .type "int") f1 (by omega) (fun f hm => ?_) (by rfl) ?_
      · obtain ⟨x, t, rfl⟩ := f3 f hm
        exact PySem.W.Looks.now
      · have e : (Value.type "int" != Value.type "tuple") = true := by first | decide +kernel | rfl | decide
        rw [e]
        exact hq
    · intro p q hm hm'
      obtain ⟨m1, m2, m3⟩ := mem _ hm
      obtain ⟨m1', m2', m3'⟩ := mem _ hm'
      obtain ⟨p1, s1, i, us, et⟩ := o1 _ m1
      obtain ⟨p1', s1', j, us', et'⟩ := o1 _ m1'
      have c := o2 _ m1 _ m1'
      have e := cod_rel p1 p1' (.inr c)
      show wpAny (model X.prog X.w) X.A.in1.in1 (keyLt' (tuples' true) p.1 q.1) (fun r s' => s' = _ ∧ r = lexI (tv p.1).cod (tv q.1).cod) (fun _ _ => False) _
      rw [e]
      rw [et] at m2 s1 c ⊢
      rw [et'] at m2' s1' c ⊢
      exact katX_lt hK I' (by show X.A.units + 1 + 1 + 100 < cLine; omega) m2 m2' m3 m3' s1 s1' c ⟨rfl, rfl⟩
  · have mo : ∀ v ∈ out, v ∈ its := fun v hv => hb.perm.mem_iff.mp hv
    have e : out.map tv = sortX ts := by
      refine sortX_uniq (fun t ht => (o1 t ht).1) ?_ ?_
      · rw [← em]; exact hb.perm.map tv
      · exact List.pairwise_map.mpr h1
    refine fin out (out.map backV) (vals_back fun u hu => ?_) ?_
    · obtain ⟨m1, m2, m3⟩ := mem u (mo u hu)
      obtain ⟨_, _, i, us, et⟩ := o1 _ m1
      rw [et, Rep] at m2
      obtain ⟨p, vs', e, _⟩ := m2
      rw [e] at m3
      exact ⟨p, m3⟩
    · rw [← e]
      have : ∀ l : List Value, (∀ v ∈ l, v ∈ its) → Reps S w (l.map tv) (l.map backV) := by
        intro l
        induction l with
        | nil => intro _; exact .nil
        | cons v l ih => intro hm; exact .cons (mem v (hm v List.mem_cons_self)).2.1 (ih fun u hu => hm u (List.mem_cons_of_mem _ hu))
      exact this out mo
def gSortedXT : T → M T := fun t => match t with
  | .tup ts => gd (2 ≤ ts.length → OkX ts) (ret (.lst (sortX ts)))
  | _ => stuck
variable {W : WX} {d : Nat} {e : Expr} {mas : Env → M (List T)} {p pos : Pos}
theorem de_sortedXT (E : Eu X S) (hm : S.mg "sorted" = none) (hd : d ≤ 1) (ha : DAB X S W [e] mas) (hg : Gl X "sorted" := by rfl) (he : starEach (e :: []) X.env = (false, eval e X.env) :: starEach [] X.env := by first | exact star_c rfl | rfl) (hpl : (backTo pos (starEach [] X.env)).any (·.1) = false := by first | exact star_any rfl | rfl) :
    DE X S W d (.Call (.Name "sorted" p) [e] [] pos) (mCall (g1 gSortedXT) mas) := by
  refine de_callB E (cr_sortXT E.hK E.un) (sim_1 fun w t x Q' QE Q ok r hg k => ?_) hm (by decide +kernel) ha hg (by decide) (by decide) he hpl
  unfold gSortedXT at hg
  split at hg
  · obtain ⟨q1, q2⟩ := hg
    obtain ⟨a, vs, rfl, h1, h2⟩ := r.tup_inv
    exact ⟨w, a, _, vs, rfl, rfl, h1, h2, q1, fun us p' rs hp => kont_lst ok rs hd k q2 p' hp⟩
  · exact hg.elim
theorem e_sortXT {ts : List T} (h : 2 ≤ ts.length → OkX ts) : Ev (g1 gSortedXT [.tup ts]) (.lst (sortX ts)) := fun Q E q => ⟨h, q⟩
end
end Twl

/-! TL57: what is never reached; defs that call themselves. -/
namespace Twl
open PySem PySem.Spec PyProof.Rows L2
section
variable {X : Cx} {S : Kx} {W : WX} {dr : Nat} {w0 : Wd} {st : Stmt} {sts : List Stmt}
def sStuck : SM := fun _ _ => False
theorem dss_stuck : DSs X S W dr w0 sts sStuck := ⟨fun pins s σ H D I q => by
  obtain ⟨w, env, fp, D', rfl, ok, l, er, ow, hm, en⟩ := q
  exact hm.elim⟩
theorem ds_stuck : DS X S W dr w0 st sStuck := ⟨fun pins s σ H D I q => by
  obtain ⟨w, env, fp, D', rfl, ok, l, er, ow, hm, en⟩ := q
  exact hm.elim⟩
end
section
variable {X : Cx} {S : Kx} {W : WX} {dr : Nat} {w0 : Wd} {x name : Str} {p apos cpos pos : Pos} {id : String} {r : RM} {f : List T → List T → M (T × List T)} {vs : List Nat} {tg : Expr} {g : GM}
/-- a, b = x.m() -/
theorem ds_asgMt0 (i : Nat) (slot : Slot "list" name id) (hty : typeOf (.builtin id) = pure (.type "method_descriptor")) (hm : MtR X id r) (sm : SimU S true f r) (hg : DG X S vs tg g) (hN : X.N[i]? = some x := by rfl) (hv : Vis X.env.scope x := by first | exact Or.inl rfl | exact Or.inr (Or.inl rfl) | exact Or.inr (Or.inr rfl))
    (hd : (x == ("__debug__" : Str)) = false := by decide) (hcd : (x == ("__classdict__" : Str)) = false := by decide)
    (hbase : attributeBase (.Name x p) name X.env (eval (.Name x p) X.env) = eval (.Name x p) X.env := by rfl) (hline : (apos.endLine == cpos.line) = true := by rfl)
    (hs : swapsWithSole [tg] (.Call (.Attribute (.Name x p) name apos) [] [] cpos) pos.line X.env = pure false := by rfl) (hw : swappedStores [tg] (.Call (.Attribute (.Name x p) name apos) [] [] cpos) X.env = pure none := by rfl)
    (h1 : (assignEach [tg] X.env).map (·.2) = [assign tg X.env] := by rfl) :
    DS X S W dr w0 (.Assign [tg] (.Call (.Attribute (.Name x p) name apos) [] [] cpos) pos) (sAsgMt g i f mNil) :=
  PSmono (ps_asg (pe_bm0 F.plainAttrs_list slot hty hm (pe_var hN hv hd hcd) hbase hline) hg hs hw h1) fun D σ H h => by
    obtain ⟨w, env, fp, D', rfl, ok, l, er, ow, hm, en⟩ := h
    obtain ⟨p, e1, ⟨us, h1⟩, h2⟩ := uM_run (Q := fun v H' => rdg S vs g v σ H' (fun σ' H'' => D.nx σ' H'')) sm ok l er ow hm (en.kx ok l) fun z v w2 env2 fp2 ok2 l2 g2 er2 ow2 rz q => by
      obtain ⟨env', k1, q⟩ := q
      exact ⟨w2, z, env2, fp2, env', rfl, ok2, er2, rz, k1, fun σ' fp' er' sub _ => en.nx env' σ' w2 fp' ok2 l2 g2 er' (fun a ha => ow2 a (sub a ha)) q⟩
    obtain ⟨w', env', fp', Q', QE, q0, q1, q2, q3, q4, q5⟩ := h2
    refine ⟨_, e1, tyL h1, ?_⟩
    rw [← q0]
    exact q4 [] [] w' q1 (.refl w') .nil q3
theorem i_popAsg {D : EndT} {env env' : Env} {i : Nat} {ts : List T} {t : T} (h : env[i]? = some (.va 1 (.lst (ts ++ [t])))) (hg : g t (env.set i (.va 1 (.lst ts))) = some env') (k : D.nx env') : sAsgMt g i fPop mNil D env := by
  have hlt : ts.length < (ts ++ [t]).length := by simp
  refine ⟨ts ++ [t], h, ?_⟩
  show fPop (ts ++ [t]) [] _ _
  unfold fPop
  have e : (ts ++ [t])[(ts ++ [t]).length - 1]? = some t := by simp
  show ofO ((ts ++ [t])[(ts ++ [t]).length - 1]?) _ _ _
  rw [e]
  show ∃ e', _
  rw [List.dropLast_concat]
  exact ⟨env', hg, k⟩
end
end Twl

/-! TL58: all plain paintings; those of at most k colours among them; refusals. -/
namespace Twl
open PySem PySem.Spec PyProof.Rows L2
def nextP (near : List (List Int)) (r : List Int) : List Int := (rngI (mxp r + 1).toNat).filter fun c => !decide (c ∈ takenL near r)
def ppR (near : List (List Int)) : Nat → List Int → List (List Int)
  | 0, r => [r]
  | f + 1, r => (nextP near r).flatMap fun c => ppR near f (r ++ [c])
def plainL (near : List (List Int)) : Nat → List (List Int)
  | 0 => [[]]
  | i + 1 => (plainL near i).flatMap fun r => (nextP near r).map fun c => r ++ [c]
theorem plain_pp (near : List (List Int)) : ∀ (i f : Nat), (plainL near i).flatMap (ppR near f) = ppR near (i + f) []
  | 0, f => by simp [plainL]
  | i + 1, f => by
    have ih := plain_pp near i (f + 1)
    rw [show i + 1 + f = i + (f + 1) by omega, ← ih, plainL, List.flatMap_assoc]
    congr 1
    funext r
    rw [ppR, List.flatMap_map]
theorem plain_eq (near : List (List Int)) (n : Nat) : plainL near n = ppR near n [] := by
  have := plain_pp near n 0
  rw [Nat.add_zero] at this
  rw [← this]
  have e : ppR near 0 = fun r => [r] := by funext r; rw [ppR]
  rw [e]
  induction plainL near n with
  | nil => rfl
  | cons a L ih => rw [List.flatMap_cons, ← ih]; rfl
theorem mem_ppR {near : List (List Int)} : ∀ (f : Nat) (r s : List Int), s ∈ ppR near f r → ∃ u, s = r ++ u
  | 0, r, s, h => by
    rw [ppR, List.mem_singleton] at h
    exact ⟨[], by rw [h, List.append_nil]⟩
  | f + 1, r, s, h => by
    rw [ppR, List.mem_flatMap] at h
    obtain ⟨c, _, h⟩ := h
    obtain ⟨u, e⟩ := mem_ppR f _ s h
    exact ⟨[c] ++ u, by rw [e, List.append_assoc]⟩
theorem filter_below (k : Int) (m : Nat) : (rngI m).filter (fun c => decide (c < k)) = rngI (min (m : Int) k).toNat := by
  refine sorted_ext (R := (· < ·)) (fun a b h1 h2 => by omega) ((rngI_lt m).filter _) (rngI_lt _) fun x => ?_
  rw [List.mem_filter, rngI_mem, rngI_mem, decide_eq_true_eq]
  omega
theorem nextL_eq (near : List (List Int)) (k : Int) (r : List Int) : nextL near k r = (nextP near r).filter fun c => decide (c < k) := by
  have hm := mxp_nn r
  unfold nextL nextP
  have e : (min (mxp r + 1) k).toNat = (min (((mxp r + 1).toNat : Nat) : Int) k).toNat := by omega
  rw [e, ← filter_below, List.filter_filter, List.filter_filter]
  congr 1
  funext c
  exact Bool.and_comm _ _
theorem plR_filter {near : List (List Int)} {k : Int} : ∀ (f : Nat) (r : List Int), (∀ x ∈ r, x < k) → plR near k f r = (ppR near f r).filter fun s => s.all fun x => decide (x < k)
  | 0, r, h => by
    rw [plR, ppR, List.filter_cons, if_pos (List.all_eq_true.mpr fun x hx => decide_eq_true (h x hx)), List.filter_nil]
  | f + 1, r, h => by
    rw [plR, ppR, List.filter_flatMap, nextL_eq]
    induction nextP near r with
    | nil => rfl
    | cons c L ih =>
      rw [List.flatMap_cons, List.filter_cons]
      by_cases q : c < k
      · rw [if_pos (decide_eq_true q), List.flatMap_cons, ih, plR_filter f (r ++ [c]) fun x hx => ?_]
        rcases List.mem_append.mp hx with hx | hx
        · exact h x hx
        · rw [List.mem_singleton.mp hx]; exact q
      · rw [if_neg (by simpa using q), ih]
        have : (ppR near f (r ++ [c])).filter (fun s => s.all fun x => decide (x < k)) = [] := by
          refine List.filter_eq_nil_iff.mpr fun s hs hc => ?_
          obtain ⟨u, e⟩ := mem_ppR f _ s hs
          have := of_decide_eq_true (List.all_eq_true.mp hc c (by rw [e]; simp))
          exact q this
        rw [this, List.nil_append]
theorem PL_filter (near : List (List Int)) (n : Nat) (k : Int) : PL near n k [] = (plainL near n).filter fun s => s.all fun x => decide (x < k) := by
  rw [plain_eq]
  unfold PL
  exact plR_filter _ _ fun x h => by simp at h
/-- a painting, each colour first behind all lesser ones -/
structure Pn (ps : List (Int × Int)) (i : Nat) (r : List Int) : Prop where
  len : r.length = i
  nn : ∀ x ∈ r, 0 ≤ x
  mx : mxp r ≤ i
  ne : ∀ p ∈ ps, p.2 < i → cl r p.1 ≠ cl r p.2
theorem mxp_lt2 {r : List Int} (h : ∀ x ∈ r, 0 ≤ x) : ∀ x ∈ r, x < mxp r := fun x hx => (mxp_lt (fun e => by rw [e] at hx; simp at hx) h).1 x hx
theorem Pn.pp {ps : List (Int × Int)} {i : Nat} {r : List Int} (h : Pn ps i r) : Pp ps (mxp r) r.length r := ⟨rfl, fun x hx => ⟨h.nn x hx, mxp_lt2 h.nn x hx⟩, fun p hp h2 => h.ne p hp (by rw [h.len] at h2; exact h2)⟩
theorem nextP_bd {near : List (List Int)} {r : List Int} {c : Int} (h : c ∈ nextP near r) : 0 ≤ c ∧ c ≤ mxp r ∧ c ∉ takenL near r := by
  obtain ⟨h1, h2⟩ := List.mem_filter.mp h
  have := rngI_mem.mp h1
  have := mxp_nn r
  refine ⟨by omega, by omega, by simpa using h2⟩
theorem Pn.step {n : Nat} {ps : List (Int × Int)} (ho : ps.all (okP n) = true) (ha : ascP ps = true) {i : Nat} {r : List Int} (h : Pn ps i r) (hi : i < n) {c : Int} (hc : c ∈ nextP (nearS n ps) r) : Pn ps (i + 1) (r ++ [c]) := by
  have hb := nextP_bd hc
  have hl := h.len
  have pp : Pp ps (mxp r + 1) r.length r := ⟨rfl, fun x hx => ⟨h.nn x hx, by have := mxp_lt2 h.nn x hx; omega⟩, fun p hp h2 => h.ne p hp (by rw [hl] at h2; exact h2)⟩
  have st := Pp.step ho ha pp (by omega) (c := c) ⟨hb.1, by omega⟩ hb.2.2
  refine ⟨by rw [List.length_append, List.length_singleton, hl], fun x hx => (st.bd x hx).1, ?_, fun p hp h2 => st.ne p hp ?_⟩
  · rw [mxp_app]; have := h.mx; omega
  · rw [List.length_append, List.length_singleton, hl]; exact h2
theorem plain_pn {n : Nat} {ps : List (Int × Int)} (ho : ps.all (okP n) = true) (ha : ascP ps = true) : ∀ i : Nat, i ≤ n → ∀ r ∈ plainL (nearS n ps) i, Pn ps i r
  | 0, _, r, h => by
    rw [plainL, List.mem_singleton] at h
    subst h
    exact ⟨rfl, fun x h => by simp at h, by unfold mxp; simp, fun p hp h2 => by have := tie_bd ho hp; omega⟩
  | i + 1, hi, r, h => by
    rw [plainL, List.mem_flatMap] at h
    obtain ⟨s, hs, h⟩ := h
    obtain ⟨c, hc, rfl⟩ := List.mem_map.mp h
    exact (plain_pn ho ha i (by omega) s hs).step ho ha (by omega) hc
theorem Pn.pt {n : Nat} {ps : List (Int × Int)} (ho : ps.all (okP n) = true) {r : List Int} (h : Pn ps n r) : Pt n ps (mxp r) r := ⟨h.len, fun x hx => ⟨h.nn x hx, mxp_lt2 h.nn x hx⟩, fun p hp => h.ne p hp (by have := tie_bd ho hp; omega)⟩
theorem nextP_len {ps : List (Int × Int)} {near : List (List Int)} {i : Nat} {r : List Int} (h : Pn ps i r) : (nextP near r).length ≤ i + 1 := by
  refine Nat.le_trans (List.length_filter_le _ _) ?_
  simp only [rngI, List.length_map, List.length_range]
  have := h.mx
  omega
theorem plainL_len {n : Nat} {ps : List (Int × Int)} (ho : ps.all (okP n) = true) (ha : ascP ps = true) (h7 : n ≤ 7) : ∀ i : Nat, i ≤ n → (plainL (nearS n ps) i).length ≤ 7 ^ i
  | 0, _ => by simp [plainL]
  | i + 1, hi => by
    have ih := plainL_len ho ha h7 i (by omega)
    have hp := plain_pn ho ha i (by omega)
    have key : ∀ L : List (List Int), (∀ r ∈ L, Pn ps i r) → (L.flatMap fun r => (nextP (nearS n ps) r).map fun c => r ++ [c]).length ≤ L.length * 7 := by
      intro L
      induction L with
      | nil => intro _; simp
      | cons r L ih =>
        intro h
        have h1 := nextP_len (near := nearS n ps) (h r List.mem_cons_self)
        have h2 := ih fun s hs => h s (List.mem_cons_of_mem _ hs)
        rw [List.flatMap_cons, List.length_append, List.length_map, List.length_cons, Nat.add_mul, Nat.one_mul]
        omega
    rw [plainL, Nat.pow_succ]
    exact Nat.le_trans (key _ hp) (Nat.mul_le_mul_right _ ih)
theorem all_mxp {r : List Int} (h0 : ∀ x ∈ r, 0 ≤ x) (hne : r ≠ []) (k : Int) : (r.all fun x => decide (x < k)) = decide (mxp r - 1 < k) := by
  obtain ⟨a, b⟩ := mxp_lt hne h0
  rw [Bool.eq_iff_iff, List.all_eq_true, decide_eq_true_eq]
  exact ⟨fun h => of_decide_eq_true (h _ b), fun h x hx => decide_eq_true (by have := a x hx; omega)⟩
/-! ### refusals -/
def ndT (near : List (List Int)) (k : Int) : Nat → List Int → T
  | 0, _ => .tup []
  | f + 1, r => .tup ((nextL near k r).map fun c => .tup [.int c, ndT near k f (r ++ [c])])
def nodT (near : List (List Int)) (n : Nat) (k : Int) (r : List Int) : T := ndT near k (n - r.length) r
theorem nodT_step {near : List (List Int)} {n : Nat} {k : Int} {r : List Int} (h : r.length < n) : nodT near n k r = .tup ((nextL near k r).map fun c => .tup [.int c, nodT near n k (r ++ [c])]) := by
  unfold nodT
  obtain ⟨f, hf⟩ : ∃ f, n - r.length = f + 1 := ⟨n - r.length - 1, by omega⟩
  rw [hf, ndT]
  congr 2
  funext c
  have : n - (r ++ [c]).length = f := by rw [List.length_append, List.length_singleton]; omega
  rw [this]
/-- a begun painting that can not be ended -/
structure Dd (n : Nat) (ps : List (Int × Int)) (k : Int) (r : List Int) : Prop where
  pp : Pp ps k r.length r
  lt : r.length < n
  no : PL (nearS n ps) n k r = []
theorem Dd.step {n : Nat} {ps : List (Int × Int)} (ho : ps.all (okP n) = true) (ha : ascP ps = true) {k : Int} {r : List Int} (h : Dd n ps k r) {c : Int} (hc : c ∈ nextL (nearS n ps) k r) : Dd n ps k (r ++ [c]) := by
  have hb := nextL_bd hc
  have hno := h.no
  rw [PL_step h.lt, List.flatMap_eq_nil_iff] at hno
  have hn := hno c hc
  refine ⟨h.pp.step ho ha h.lt ⟨hb.1, hb.2.1⟩ hb.2.2, ?_, hn⟩
  have := h.lt
  rcases Nat.lt_or_ge (r ++ [c]).length n with q | q
  · exact q
  · rw [PL_full (by rw [List.length_append, List.length_singleton] at q ⊢; omega)] at hn
    cases hn
theorem Dd.init {n : Nat} {ps : List (Int × Int)} (ho : ps.all (okP n) = true) (h1 : 1 ≤ n) {k : Int} (h : PL (nearS n ps) n k [] = []) : Dd n ps k [] := ⟨Pp.nil k fun p hp => by have := tie_bd ho hp; omega, by simp; omega, h⟩
theorem ndT_kn (near : List (List Int)) (k : Int) : ∀ (f : Nat) (r : List Int), (ndT near k f r).kn = true
  | 0, r => rfl
  | f + 1, r => by
    rw [ndT, T.kn]
    refine kns_all fun t ht => ?_
    obtain ⟨c, _, rfl⟩ := List.mem_map.mp ht
    rw [T.kn, T.kns, T.kns, T.kns, ndT_kn near k f (r ++ [c])]
    rfl
theorem ndT_sh (near : List (List Int)) (k : Int) : ∀ (f : Nat) (r : List Int), Sh (2 * f + 1) (ndT near k f r)
  | 0, r => Sh.tup fun t h => by simp at h
  | f + 1, r => by
    rw [ndT]
    refine Sh.tup fun t ht => ?_
    obtain ⟨c, _, rfl⟩ := List.mem_map.mp ht
    refine (Sh.tup (k := 2 * f + 1) fun u hu => ?_).mono (by omega)
    simp only [List.mem_cons, List.not_mem_nil, or_false] at hu
    rcases hu with rfl | rfl
    · exact (Sh.int _).mono (by omega)
    · exact ndT_sh near k f _
/-- each colour comes first behind all lesser ones -/
def turnB (r : List Int) : Bool := (rngI r.length).all fun i => decide (cl r i ≤ mxp (r.take i.toNat))
end Twl

/-! TN1: typed rules: what a tactic can apply by itself. -/
namespace Twl
open PySem PySem.Spec PyProof.Rows L2
theorem Ev.to {α : Type} {m : M α} {a b : α} (h : Ev m a) (e : a = b) : Ev m b := e ▸ h
section
variable {env : Env} {D : EndT} {me ma mb : Env → M T} {mi : Env → M (List T)} {t u x y z : T} {ts : List T}
theorem fn_ev {N : Nat} {m : SM} {ts : List T} {v : T} (h : ∀ (Q : T → Prop) (E : Exn → Prop), (∀ t, t = v → Q t) → m { nx := fun _ => Q .non, rt := fun _ => Q, bk := fun _ => False, ct := fun _ => False, ex := E } (env0 N ts)) : Ev (fnDen N m ts) v := fun Q E q => h Q E fun t e => e ▸ q
theorem fn_nd {N : Nat} {m : SM} {ts : List T} {P : T → Prop} (h : ∀ (Q : T → Prop) (E : Exn → Prop), (∀ t, P t → Q t) → m { nx := fun _ => Q .non, rt := fun _ => Q, bk := fun _ => False, ct := fun _ => False, ex := E } (env0 N ts)) : Nd (fnDen N m ts) P := fun Q E q => h Q E q
theorem fn_rz {N : Nat} {m : SM} {ts : List T} {x : Exn} (h : ∀ (Q : T → Prop) (E : Exn → Prop), E x → m { nx := fun _ => Q .non, rt := fun _ => Q, bk := fun _ => False, ct := fun _ => False, ex := E } (env0 N ts)) : Rz (fnDen N m ts) x := fun Q E q => h Q E q
/-! calls -/
theorem e_uc {mas : M (List T)} {n : Nat} {den : List T → M T} (h : Ev mas ts) (hn : ts.length = n) (r : Ev (den ts) z) : Ev (bnd mas fun ts => gd (ts.length = n) (den ts)) z := Ev.bnd h (Ev.gd hn r)
theorem x_uc {mas : M (List T)} {n : Nat} {den : List T → M T} {x : Exn} (h : Ev mas ts) (hn : ts.length = n) (r : Rz (den ts) x) : Rz (bnd mas fun ts => gd (ts.length = n) (den ts)) x := Rz.bnd2 h (Rz.gd hn r)
theorem n_uc {mas : M (List T)} {n : Nat} {den : List T → M T} {P : T → Prop} (h : Ev mas ts) (hn : ts.length = n) (r : Nd (den ts) P) : Nd (bnd mas fun ts => gd (ts.length = n) (den ts)) P := Ev.bndN h (Nd.gd hn r)
/-! iterables -/
theorem e_src (h : Ev (me env) t) (k : seqOf t = some ts) : Ev (mSrc me env) ts := by
  cases t with
  | tup us => cases k; exact e_srcT h
  | lst us => cases k; exact e_srcL h
  | _ => cases k
theorem e_rngN {n : Nat} (h : n ≤ 2 ^ 20) : Ev (gRng1 [.int (n : Int)]) ((rngI n).map T.int) := fun Q E q => by
  have hz : (2 ^ 20 : Nat) < sizeLine := by unfold sizeLine; decide
  refine ⟨⟨by omega, by omega⟩, ?_⟩
  rw [Int.toNat_natCast, irT_rngI]
  exact q
theorem e_rngZ {i : Int} (h : -(2 ^ 20) ≤ i ∧ i ≤ 2 ^ 20) : Ev (gRng1 [.int i]) ((rngI i.toNat).map T.int) := fun Q E q => by
  have hz : (2 ^ 20 : Nat) < sizeLine := by unfold sizeLine; decide
  refine ⟨⟨by omega, by omega⟩, ?_⟩
  rw [irT_rngI]
  exact q
/-- a, a + 1, .., b - 1 -/
def rngZ (a b : Int) : List Int := (List.range (b - a).toNat).map fun i => a + (i : Nat)
theorem rngZ_mem {a b x : Int} : x ∈ rngZ a b ↔ a ≤ x ∧ x < b := by
  unfold rngZ
  rw [List.mem_map]
  constructor
  · rintro ⟨i, hi, rfl⟩
    have := List.mem_range.mp hi
    omega
  · intro h
    exact ⟨(x - a).toNat, List.mem_range.mpr (by omega), by omega⟩
theorem rngZ_lt (a b : Int) : (rngZ a b).Pairwise (· < ·) := by
  unfold rngZ
  rw [List.pairwise_map]
  exact List.pairwise_lt_range.imp fun h => by omega
theorem rngZ_len (a b : Int) : (rngZ a b).length = (b - a).toNat := by simp [rngZ]
theorem rngZ_get {a b : Int} {i : Nat} (h : i < (b - a).toNat) : (rngZ a b)[i]? = some (a + i) := by
  unfold rngZ
  rw [List.getElem?_map, List.getElem?_range h]
  rfl
theorem rngZ_zero (n : Nat) : rngZ 0 n = rngI n := by
  unfold rngZ rngI
  rw [Int.sub_zero, Int.toNat_natCast]
  exact List.map_congr_left fun i _ => by omega
theorem e_rng2Z {a b : Int} (h : (-(2 ^ 20) ≤ a ∧ a ≤ 2 ^ 20) ∧ -(2 ^ 20) ≤ b ∧ b ≤ 2 ^ 20) : Ev (gRng2 [.int a, .int b]) ((rngZ a b).map T.int) := fun Q E q => by
  have hz : (2 ^ 22 : Nat) < sizeLine := by unfold sizeLine; decide
  refine ⟨⟨⟨by omega, by omega, by omega, by omega⟩, by omega⟩, ?_⟩
  have e : irT a (b - a).toNat = (rngZ a b).map T.int := by
    unfold irT rngZ
    rw [List.map_map]
    rfl
  rw [e]
  exact q
theorem its_seq {t : T} {ts : List T} (h : seqOf t = some ts) : t.its = some ts ∧ okTxt t := by
  cases t with
  | tup us => cases h; exact ⟨rfl, fun x e => nomatch e⟩
  | lst us => cases h; exact ⟨rfl, fun x e => nomatch e⟩
  | _ => cases h
theorem e_zpM {α β : Type} {f : α → T} {g : β → T} {L : List α} {K : List β} (hx : seqOf t = some (L.map f)) (hy : seqOf u = some (K.map g)) : Ev (gZp [t, u]) ((L.zip K).map fun p => T.tup [f p.1, g p.2]) := fun Q E q => by
  obtain ⟨h1, h2⟩ := its_seq hx
  obtain ⟨h3, h4⟩ := its_seq hy
  show ofO t.its _ Q E
  rw [h1]
  show ofO u.its _ Q E
  rw [h3]
  refine ⟨⟨h2, h4⟩, ?_⟩
  have e : ∀ (L : List α) (K : List β), zpT (L.map f) (K.map g) = (L.zip K).map fun p => T.tup [f p.1, g p.2] := by
    intro L
    induction L with
    | nil => intro K; simp [zpT]
    | cons a L ih =>
      intro K
      cases K with
      | nil => simp [zpT]
      | cons b K => simp [zpT, ih]
  rw [e]
  exact q
/-- each with its number -/
def enZ {α : Type} (L : List α) : List (Int × α) := (rngI L.length).zip L
theorem enT_enZ {α : Type} {f : α → T} : ∀ (L : List α) (k : Int), enT k (L.map f) = ((rngZ k (k + L.length)).zip L).map fun p => T.tup [.int p.1, f p.2]
  | [], k => by simp [enT]
  | a :: L, k => by
    rw [List.map_cons, enT, enT_enZ L]
    have e : rngZ k (k + (a :: L).length) = k :: rngZ (k + 1) (k + 1 + L.length) := by
      unfold rngZ
      have h1 : (k + ((a :: L).length : Nat) - k).toNat = L.length + 1 := by simp; omega
      have h2 : (k + 1 + (L.length : Int) - (k + 1)).toNat = L.length := by omega
      rw [h1, h2, List.range_succ_eq_map, List.map_cons, List.map_map]
      congr 1
      · simp
      · exact List.map_congr_left fun i _ => by simp; omega
    rw [e]
    rfl
theorem e_enM {α : Type} {f : α → T} {L : List α} (hx : seqOf t = some (L.map f)) : Ev (gEn1 [t]) ((enZ L).map fun p => T.tup [.int p.1, f p.2]) := fun Q E q => by
  obtain ⟨h1, h2⟩ := its_seq hx
  show ofO t.its _ Q E
  rw [h1]
  refine ⟨h2, ?_⟩
  have := enT_enZ (f := f) L 0
  rw [Int.zero_add, rngZ_zero] at this
  rw [this]
  exact q
theorem enZ_mem {α : Type} {L : List α} {p : Int × α} (h : p ∈ enZ L) : 0 ≤ p.1 ∧ p.1 < L.length ∧ L[p.1.toNat]? = some p.2 := by
  obtain ⟨i, hi, e⟩ := List.getElem_of_mem h
  unfold enZ at hi e
  rw [List.length_zip] at hi
  rw [List.getElem_zip] at e
  have hl : (rngI L.length).length = L.length := by simp [rngI]
  have hiL : i < L.length := by omega
  have e1 : (rngI L.length)[i]'(by omega) = (i : Int) := by simp [rngI]
  rw [e1] at e
  subst e
  refine ⟨by simp, by simp; omega, ?_⟩
  simp [hiL]
/-! comprehensions -/
section
variable {α : Type} {enc : α → T} {L : List α} {g : GM} {c : Env → M Bool} {vs : List Nat} {ev : α → Env} {p : α → Bool}
theorem e_lc {f : α → T} (hi : Ev (mi env) (L.map enc)) (hg : ∀ x ∈ L, g (enc x) (wipeE env vs) = some (ev x)) (hc : ∀ x ∈ L, Ev (c (ev x)) (p x)) (hf : ∀ x ∈ L, p x = true → Ev (me (ev x)) (f x)) : Ev (mLc mi g c me vs env) (.lst ((L.filter p).map f)) := by
  refine Ev.bnd hi (Ev.bnd (a := (L.filter p).map f) (fun Q E q => ?_) (Ev.ret _))
  have key : ∀ (L : List α) (Q : List T → Prop) (E : Exn → Prop), (∀ x ∈ L, g (enc x) (wipeE env vs) = some (ev x)) → (∀ x ∈ L, Ev (c (ev x)) (p x)) → (∀ x ∈ L, p x = true → Ev (me (ev x)) (f x)) → Q ((L.filter p).map f) → lcM g c me (L.map enc) (wipeE env vs) Q E := by
    intro L
    induction L with
    | nil => intro Q E _ _ _ q; exact q
    | cons x L ih =>
      intro Q E hg hc hf q
      refine ⟨ev x, hg x List.mem_cons_self, hc x List.mem_cons_self _ E ?_⟩
      have ih' := fun Q => ih Q E (fun y hy => hg y (List.mem_cons_of_mem _ hy)) (fun y hy => hc y (List.mem_cons_of_mem _ hy)) (fun y hy => hf y (List.mem_cons_of_mem _ hy))
      cases hp : p x with
      | true =>
        rw [if_pos rfl]
        refine hf x List.mem_cons_self hp _ E (ih' _ ?_)
        simpa [List.filter_cons, hp] using q
      | false =>
        rw [if_neg Bool.false_ne_true]
        refine ih' _ ?_
        simpa [List.filter_cons, hp] using q
  exact key L Q _ hg hc hf q
theorem e_lc0 {f : α → T} (hi : Ev (mi env) (L.map enc)) (hg : ∀ x ∈ L, g (enc x) (wipeE env vs) = some (ev x)) (hf : ∀ x ∈ L, Ev (me (ev x)) (f x)) : Ev (mLc mi g (fun _ => ret true) me vs env) (.lst (L.map f)) := by
  have := e_lc (me := me) (c := fun _ => ret true) (p := fun _ => true) (f := f) hi hg (fun _ _ => Ev.ret true) fun x hx _ => hf x hx
  rwa [List.filter_eq_self.mpr (fun _ _ => rfl)] at this
theorem e_lcI {f : α → Int} (hi : Ev (mi env) (L.map enc)) (hg : ∀ x ∈ L, g (enc x) (wipeE env vs) = some (ev x)) (hc : ∀ x ∈ L, Ev (c (ev x)) (p x)) (hf : ∀ x ∈ L, p x = true → Ev (me (ev x)) (.int (f x))) : Ev (mLc mi g c me vs env) (.lst (((L.filter p).map f).map T.int)) := by
  have := e_lc hi hg hc hf
  rw [List.map_map]
  exact this
theorem e_lcI0 {f : α → Int} (hi : Ev (mi env) (L.map enc)) (hg : ∀ x ∈ L, g (enc x) (wipeE env vs) = some (ev x)) (hf : ∀ x ∈ L, Ev (me (ev x)) (.int (f x))) : Ev (mLc mi g (fun _ => ret true) me vs env) (.lst ((L.map f).map T.int)) := by
  have := e_lc0 hi hg hf
  rw [List.map_map]
  exact this
/-- the elements themselves -/
theorem e_lcId {j : Nat} (hi : Ev (mi env) (L.map enc)) (hg : ∀ x ∈ L, g (enc x) (wipeE env vs) = some (ev x)) (hc : ∀ x ∈ L, Ev (c (ev x)) (p x)) (hf : ∀ x ∈ L, (ev x)[j]? = some (.va 0 (enc x))) : Ev (mLc mi g c (mVar j) vs env) (.lst ((L.filter p).map enc)) :=
  e_lc hi hg hc fun x hx _ => e_var (hf x hx)
theorem e_lcM {β : Type} {e2 : β → T} {f : α → β} (hi : Ev (mi env) (L.map enc)) (hg : ∀ x ∈ L, g (enc x) (wipeE env vs) = some (ev x)) (hc : ∀ x ∈ L, Ev (c (ev x)) (p x)) (hf : ∀ x ∈ L, p x = true → Ev (me (ev x)) (e2 (f x))) : Ev (mLc mi g c me vs env) (.lst (((L.filter p).map f).map e2)) := by
  have := e_lc hi hg hc hf
  rw [List.map_map]
  exact this
theorem e_lcM0 {β : Type} {e2 : β → T} {f : α → β} (hi : Ev (mi env) (L.map enc)) (hg : ∀ x ∈ L, g (enc x) (wipeE env vs) = some (ev x)) (hf : ∀ x ∈ L, Ev (me (ev x)) (e2 (f x))) : Ev (mLc mi g (fun _ => ret true) me vs env) (.lst ((L.map f).map e2)) := by
  have := e_lc0 hi hg hf
  rw [List.map_map]
  exact this
theorem e_allM {f : α → Bool} (hi : Ev (mi env) (L.map enc)) (hg : ∀ x ∈ L, g (enc x) (wipeE env vs) = some (ev x)) (hf : ∀ x ∈ L, Ev (me (ev x)) (.bl (f x))) : Ev (mCall (g1 gAll) (mCons (mLc mi g (fun _ => ret true) me vs) mNil) env) (.bl (L.all f)) := by
  have h1 := e_lcM0 (e2 := T.bl) hi hg hf
  have h2 := e_all (L.map f)
  rw [List.all_map] at h2
  exact e_call (e_cons h1 e_nil) h2
theorem e_anyM {f : α → Bool} (hi : Ev (mi env) (L.map enc)) (hg : ∀ x ∈ L, g (enc x) (wipeE env vs) = some (ev x)) (hf : ∀ x ∈ L, Ev (me (ev x)) (.bl (f x))) : Ev (mCall (g1 gAny) (mCons (mLc mi g (fun _ => ret true) me vs) mNil) env) (.bl (L.any f)) := by
  have h1 := e_lcM0 (e2 := T.bl) hi hg hf
  have h2 := e_any (L.map f)
  rw [List.any_map] at h2
  exact e_call (e_cons h1 e_nil) h2
theorem e_allMp {f : α → Bool} (hi : Ev (mi env) (L.map enc)) (hg : ∀ x ∈ L, g (enc x) (wipeE env vs) = some (ev x)) (hc : ∀ x ∈ L, Ev (c (ev x)) (p x)) (hf : ∀ x ∈ L, p x = true → Ev (me (ev x)) (.bl (f x))) : Ev (mCall (g1 gAll) (mCons (mLc mi g c me vs) mNil) env) (.bl ((L.filter p).all f)) := by
  have h1 := e_lcM (e2 := T.bl) hi hg hc hf
  have h2 := e_all ((L.filter p).map f)
  rw [List.all_map] at h2
  exact e_call (e_cons h1 e_nil) h2
theorem e_anyMp {f : α → Bool} (hi : Ev (mi env) (L.map enc)) (hg : ∀ x ∈ L, g (enc x) (wipeE env vs) = some (ev x)) (hc : ∀ x ∈ L, Ev (c (ev x)) (p x)) (hf : ∀ x ∈ L, p x = true → Ev (me (ev x)) (.bl (f x))) : Ev (mCall (g1 gAny) (mCons (mLc mi g c me vs) mNil) env) (.bl ((L.filter p).any f)) := by
  have h1 := e_lcM (e2 := T.bl) hi hg hc hf
  have h2 := e_any ((L.filter p).map f)
  rw [List.any_map] at h2
  exact e_call (e_cons h1 e_nil) h2
end
/-! leaves: what is told of the operands' kind comes as an equation -/
theorem l_ix0 {a : T} {as : List T} : Ev (gIx (.tup (a :: as)) (.int 0)) a := e_ixT (i := 0) rfl
theorem l_ix1 {a b : T} {as : List T} : Ev (gIx (.tup (a :: b :: as)) (.int 1)) b := e_ixT (i := 1) rfl
theorem l_ix2 {a b c : T} {as : List T} : Ev (gIx (.tup (a :: b :: c :: as)) (.int 2)) c := e_ixT (i := 2) rfl
theorem l_ix0L {a : T} {as : List T} : Ev (gIx (.lst (a :: as)) (.int 0)) a := e_ixL (i := 0) rfl
theorem l_ix1L {a b : T} {as : List T} : Ev (gIx (.lst (a :: b :: as)) (.int 1)) b := e_ixL (i := 1) rfl
theorem l_cl {row : List Int} {i : Int} (h : seqOf t = some (row.map T.int)) (hb : 0 ≤ i ∧ i < row.length) : Ev (gIx t (.int i)) (.int (cl row i)) := by
  refine e_clS ?_ hb.1 hb.2
  cases t with
  | tup us => cases h; exact .inl rfl
  | lst us => cases h; exact .inr rfl
  | _ => cases h
theorem l_nb {near : List (List Int)} {i : Int} (hb : 0 ≤ i ∧ i < near.length) : Ev (gIx (encRs near) (.int i)) (encR (nb near i)) := by
  obtain ⟨j, rfl⟩ := Int.eq_ofNat_of_zero_le hb.1
  refine e_ixL (i := j) ?_
  have hj : j < near.length := by omega
  rw [List.getElem?_map, List.getElem?_eq_getElem hj]
  unfold nb
  rw [Int.toNat_natCast, List.getElem?_eq_getElem hj]
  rfl
theorem l_sq {row : List Int} (h : seqOf t = some (row.map T.int)) : SqI t row := by
  cases t with
  | tup us => cases h; exact .inl rfl
  | lst us => cases h; exact .inr rfl
  | _ => cases h
theorem l_in {row : List Int} {i : Int} (h : seqOf t = some (row.map T.int)) : Ev (gIn (.int i) t) (.bl (decide (i ∈ row))) := e_inS i (l_sq h)
theorem l_notIn {row : List Int} {i : Int} (h : seqOf t = some (row.map T.int)) : Ev (gNotIn (.int i) t) (.bl (!decide (i ∈ row))) := e_notInS i (l_sq h)
theorem l_len (h : seqOf t = some ts) : Ev (g1 gLen [t]) (.int ts.length) := by
  cases t with
  | tup us => cases h; exact e_lenT _
  | lst us => cases h; exact e_lenL _
  | _ => cases h
theorem l_lenM {α : Type} {f : α → T} {L : List α} (h : seqOf t = some (L.map f)) : Ev (g1 gLen [t]) (.int L.length) := by
  have := l_len h
  rwa [List.length_map] at this
theorem l_tuple (h : seqOf t = some ts) : Ev (g1 gTuple [t]) (.tup ts) := by
  cases t with
  | tup us => cases h; exact fun Q E q => q
  | lst us => cases h; exact e_tupleL _
  | _ => cases h
theorem l_list (h : seqOf t = some ts) : Ev (g1 gList [t]) (.lst ts) := by
  cases t with
  | tup us => cases h; exact e_listT
  | lst us => cases h; exact fun Q E q => q
  | _ => cases h
theorem l_sum {ns : List Int} (h : seqOf t = some (ns.map T.int)) : Ev (g1 gSum [t]) (.int ns.sum) := by
  cases t with
  | tup us => cases h; exact e_sumT ns
  | lst us => cases h; exact e_sumI ns
  | _ => cases h
theorem l_addT {xs ys : List T} (h : xs.length + ys.length ≤ sizeLine) : Ev (gAdd (.tup xs) (.tup ys)) (.tup (xs ++ ys)) := e_addT h
theorem l_addTM {α : Type} {f : α → T} {a b : List α} (h : a.length + b.length ≤ sizeLine) : Ev (gAdd (.tup (a.map f)) (.tup (b.map f))) (.tup ((a ++ b).map f)) := by
  rw [List.map_append]
  exact e_addT (by rw [List.length_map, List.length_map]; exact h)
theorem l_addT1 {a : List Int} {c : Int} (h : a.length + 1 ≤ sizeLine) : Ev (gAdd (.tup (a.map T.int)) (.tup [.int c])) (.tup ((a ++ [c]).map T.int)) := by
  rw [List.map_append]
  exact e_addT (by rw [List.length_map]; exact h)
theorem l_add1T {a : List Int} {c : Int} (h : 1 + a.length ≤ sizeLine) : Ev (gAdd (.tup [.int c]) (.tup (a.map T.int))) (.tup (([c] ++ a).map T.int)) := by
  rw [List.map_append]
  exact e_addT (by rw [List.length_map]; exact h)
theorem l_addI1 {a : List Int} {c : Int} (h : a.length + 1 ≤ sizeLine) : Ev (gAdd (encI a) (.tup [.int c])) (encI (a ++ [c])) := l_addT1 h
theorem l_addL1 {a : List Int} {c : Int} (h : a.length + 1 ≤ sizeLine) : Ev (gAdd (.lst (a.map T.int)) (.lst [.int c])) (.lst ((a ++ [c]).map T.int)) := by
  rw [List.map_append]
  exact e_addL (by rw [List.length_map]; exact h)
theorem l_add1L {a : List Int} {c : Int} (h : 1 + a.length ≤ sizeLine) : Ev (gAdd (.lst [.int c]) (.lst (a.map T.int))) (.lst (([c] ++ a).map T.int)) := by
  rw [List.map_append]
  exact e_addL (by rw [List.length_map]; exact h)
theorem l_addLM {α : Type} {f : α → T} {a b : List α} (h : a.length + b.length ≤ sizeLine) : Ev (gAdd (.lst (a.map f)) (.lst (b.map f))) (.lst ((a ++ b).map f)) := by
  rw [List.map_append]
  exact e_addL (by rw [List.length_map, List.length_map]; exact h)
theorem l_eqTT {L K : List Int} (h1 : t = .tup (L.map T.int)) (h2 : u = .tup (K.map T.int)) : Ev (gEq t u) (.bl (decide (L = K))) := by rw [h1, h2]; exact e_eqTT L K
theorem l_neTT {L K : List Int} (h1 : t = .tup (L.map T.int)) (h2 : u = .tup (K.map T.int)) : Ev (gNe t u) (.bl (!decide (L = K))) := by rw [h1, h2]; exact e_neTT L K
theorem l_eqLL {L K : List Int} (h1 : t = .lst (L.map T.int)) (h2 : u = .lst (K.map T.int)) : Ev (gEq t u) (.bl (decide (L = K))) := by rw [h1, h2]; exact e_eqLL L K
theorem l_mul {i j : Int} (h : (-(2 ^ 64) < i ∧ i < 2 ^ 64) ∨ (-(2 ^ 64) < j ∧ j < 2 ^ 64)) : Ev (gMul (.int i) (.int j)) (.int (i * j)) := fun Q E q => ⟨h.elim (fun h => CMul_l h.1 h.2) fun h => CMul_r h.1 h.2, q⟩
theorem l_takeT {α : Type} {f : α → T} {L : List α} {i : Nat} {mh : Env → M T} (h : Ev (me env) (.tup (L.map f))) (k : Ev (mh env) (.int (i : Nat))) : Ev (mSl me mNoPart (mPart mh) env) (.tup ((L.take i).map f)) := by
  have := e_takeT h k
  rwa [← List.map_take] at this
theorem l_dropT {α : Type} {f : α → T} {L : List α} {i : Nat} {mh : Env → M T} (h : Ev (me env) (.tup (L.map f))) (k : Ev (mh env) (.int (i : Nat))) : Ev (mSl me (mPart mh) mNoPart env) (.tup ((L.drop i).map f)) := by
  have := e_dropT h k
  rwa [← List.map_drop] at this
theorem l_drop1 {α : Type} {f : α → T} {L : List α} (h : Ev (me env) (.tup (L.map f))) : Ev (mSl me (mPart (mCon (.int 1))) mNoPart env) (.tup ((L.drop 1).map f)) := by
  have := e_sl1T h
  rwa [← List.map_drop] at this
theorem l_drop1L {α : Type} {f : α → T} {L : List α} (h : Ev (me env) (.lst (L.map f))) : Ev (mSl me (mPart (mCon (.int 1))) mNoPart env) (.lst ((L.drop 1).map f)) := by
  have := e_sl1L h
  rwa [← List.map_drop] at this
/-! statements -/
/-- a test that does not hold: on we go -/
theorem i_chk {c : Env → M Bool} {a b : SM} {v : Bool} (h : Ev (c env) v) (e : v = false) (k : b D env) : sSeq (sIf c a sNil) b D env := by
  subst e
  exact i_seq (i_if h (fun hv => nomatch hv) fun _ => i_nil k)
theorem i_yes {c : Env → M Bool} {a b : SM} {v : Bool} (h : Ev (c env) v) (e : v = true) (k : a D env) : sIf c a b D env := by
  subst e
  exact i_if h (fun _ => k) fun hv => nomatch hv
theorem i_no {c : Env → M Bool} {a b : SM} {v : Bool} (h : Ev (c env) v) (e : v = false) (k : b D env) : sIf c a b D env := by
  subst e
  exact i_if h (fun hv => nomatch hv) fun _ => k
/-- the slots of ws may hold anything -/
def wild (ws : List Nat) (σ : Nat → Sl) (env : Env) : Env := ws.foldl (fun e j => e.set j (σ j)) env
def putA (sp : List (Nat × Sl)) (env : Env) : Env := sp.foldl (fun e z => e.set z.1 z.2) env
def at_ (e : Env) (j : Nat) : Sl := e[j]?.getD .no
theorem i_forW {β : Type} {enc : β → T} {L : List β} {g : GM} {m : SM} {α : Type} (ws : List Nat) (R : Nat → α → Prop) (sp : Nat → α → List (Nat × Sl)) (a0 : α) (hi : Ev (mi env) (L.map enc)) (r0 : R 0 a0) (h0 : env = putA (sp 0 a0) (wild ws (at_ env) env))
    (step : ∀ (i : Nat) (x : β) (a : α) (σ : Nat → Sl) (N C : Env → Prop), L[i]? = some x → R i a → (∀ (a' : α) (e : Env), R (i + 1) a' → e = putA (sp (i + 1) a') (wild ws (at_ e) env) → N e) → (∀ (a' : α) (e : Env), R (i + 1) a' → e = putA (sp (i + 1) a') (wild ws (at_ e) env) → C e) → ∃ env', g (enc x) (putA (sp i a) (wild ws σ env)) = some env' ∧ m { D with nx := N, ct := C, bk := D.nx } env')
    (done : ∀ (a : α) (σ : Nat → Sl), R L.length a → D.nx (putA (sp L.length a) (wild ws σ env))) : sFor mi g m D env := by
  refine hi _ _ ?_
  have key : ∀ (n i : Nat) (a : α) (σ : Nat → Sl), L.length - i = n → i ≤ L.length → R i a → frL g m ((L.map enc).drop i) D (putA (sp i a) (wild ws σ env)) := by
    intro n
    induction n with
    | zero =>
      intro i a σ hn hl hr
      obtain rfl : i = L.length := by omega
      rw [List.drop_eq_nil_of_le (by rw [List.length_map]; exact Nat.le_refl _)]
      exact done a σ hr
    | succ n ih =>
      intro i a σ hn hl hr
      have hlt : i < L.length := by omega
      have e2 : (L.map enc).drop i = enc L[i] :: (L.map enc).drop (i + 1) := by
        rw [List.drop_eq_getElem_cons (by rw [List.length_map]; exact hlt), List.getElem_map]
      rw [e2]
      have nxt : ∀ (a' : α) (e : Env), R (i + 1) a' → e = putA (sp (i + 1) a') (wild ws (at_ e) env) → frL g m ((L.map enc).drop (i + 1)) D e := fun a' e hr' he => by
        rw [he]
        exact ih (i + 1) a' _ (by omega) (by omega) hr'
      exact step i L[i] a σ _ _ (List.getElem?_eq_getElem hlt) hr nxt nxt
  have := key L.length 0 a0 (at_ env) (by omega) (Nat.zero_le _) r0
  rw [← h0] at this
  simpa using this
/-- a loop whose slots are known by the number of turns -/
theorem i_forU {β : Type} {enc : β → T} {L : List β} {g : GM} {m : SM} (ws : List Nat) (sp : Nat → List (Nat × Sl)) (hi : Ev (mi env) (L.map enc)) (h0 : env = putA (sp 0) (wild ws (at_ env) env))
    (step : ∀ (i : Nat) (x : β) (σ : Nat → Sl) (N C : Env → Prop), L[i]? = some x → (∀ e : Env, e = putA (sp (i + 1)) (wild ws (at_ e) env) → N e) → (∀ e : Env, e = putA (sp (i + 1)) (wild ws (at_ e) env) → C e) → ∃ env', g (enc x) (putA (sp i) (wild ws σ env)) = some env' ∧ m { D with nx := N, ct := C, bk := D.nx } env')
    (done : ∀ σ : Nat → Sl, D.nx (putA (sp L.length) (wild ws σ env))) : sFor mi g m D env :=
  i_forW (α := Unit) ws (fun _ _ => True) (fun i _ => sp i) () hi trivial h0 (fun i x _ σ N C hx _ hN hC => step i x σ N C hx (fun e he => hN () e trivial he) fun e he => hC () e trivial he) fun _ σ _ => done σ
theorem i_whileW {c : Env → M Bool} {m : SM} {α : Type} (ws : List Nat) (R : α → Prop) (μ : α → Nat) (sp : α → List (Nat × Sl)) (a0 : α) (r0 : R a0) (h0 : env = putA (sp a0) (wild ws (at_ env) env))
    (step : ∀ (a : α) (σ : Nat → Sl), R a → ∃ v, Ev (c (putA (sp a) (wild ws σ env))) v ∧ (v = false → D.nx (putA (sp a) (wild ws σ env))) ∧ (v = true → ∀ N C : Env → Prop, (∀ (a' : α) (e : Env), R a' → μ a' < μ a → e = putA (sp a') (wild ws (at_ e) env) → N e) → (∀ (a' : α) (e : Env), R a' → μ a' < μ a → e = putA (sp a') (wild ws (at_ e) env) → C e) → m { D with nx := N, ct := C, bk := D.nx } (putA (sp a) (wild ws σ env)))) : sWhile c m D env := by
  have key : ∀ (n : Nat) (a : α) (σ : Nat → Sl), μ a < n → R a → wh c m n D (putA (sp a) (wild ws σ env)) := by
    intro n
    induction n with
    | zero => intro a σ h; omega
    | succ n ih =>
      intro a σ h hr
      obtain ⟨v, h1, h2, h3⟩ := step a σ hr
      refine h1 _ _ ?_
      cases v with
      | true =>
        have nxt : ∀ (a' : α) (e : Env), R a' → μ a' < μ a → e = putA (sp a') (wild ws (at_ e) env) → wh c m n D e := fun a' e hr' hl he => by
          rw [he]
          exact ih a' _ (by omega) hr'
        exact (if_pos rfl).mpr (h3 rfl _ _ nxt nxt)
      | false => exact (if_neg Bool.false_ne_true).mpr (h2 rfl)
  refine ⟨μ a0 + 1, ?_⟩
  have := key (μ a0 + 1) a0 (at_ env) (Nat.lt_succ_self _) r0
  rwa [← h0] at this
end
end Twl

/-! TN2: more typed rules. -/
namespace Twl
open PySem PySem.Spec PyProof.Rows L2
theorem szl : sizeLine = 16777216 := by unfold sizeLine; decide
theorem rngl2 (n : Nat) : (rngI n).length = n := by simp [rngI]
theorem e_rngL {k : Nat} (h : k ≤ 2 ^ 20) : Ev (gRng1 [.int (@OfNat.ofNat Int k instOfNat)]) ((rngI k).map T.int) := e_rngN h
theorem rngI_at {n i : Nat} {x : Int} (h : (rngI n)[i]? = some x) : x = i ∧ i < n := by
  have hl := (List.getElem?_eq_some_iff.mp h).1
  rw [rngl2] at hl
  rw [rngI_get hl] at h
  exact ⟨(Option.some.inj h).symm, hl⟩
theorem rngZ_at {a b : Int} {i : Nat} {x : Int} (h : (rngZ a b)[i]? = some x) : x = a + i ∧ a + i < b := by
  have hl := (List.getElem?_eq_some_iff.mp h).1
  rw [rngZ_len] at hl
  rw [rngZ_get hl] at h
  exact ⟨(Option.some.inj h).symm, by omega⟩
theorem max_m1 {r : List Int} (h0 : ∀ x ∈ r, 0 ≤ x) : Ev (g1 gMaxX [.tup (r.map T.int ++ [.int (-1)])]) (.int (mxp r - 1)) := by
  have hs : seqOf (T.tup (r.map T.int ++ [.int (-1)])) = some ((r ++ [-1]).map T.int) := by rw [List.map_append]; rfl
  refine e_maxX hs ?_ ?_
  · by_cases hne : r = []
    · subst hne
      exact List.mem_singleton.mpr (by decide)
    · exact List.mem_append_left _ (mxp_lt hne h0).2
  · intro y hy
    rcases List.mem_append.mp hy with hy | hy
    · have := mxp_lt2 h0 y hy
      omega
    · rw [List.mem_singleton.mp hy]
      have := mxp_nn r
      omega
theorem max_m1' {r : List Int} (h0 : ∀ x ∈ r, 0 ≤ x) : Ev (g1 gMaxX [.tup ((r ++ [-1]).map T.int)]) (.int (mxp r - 1)) := by
  rw [List.map_append]
  exact max_m1 h0
theorem ne_nilS {k : Nat} {ts : List T} (h : ∀ t ∈ ts, Sh k t) (hk : k + 1 ≤ 64) : Ev (gNe (.lst ts) (.lst [])) (.bl (!ts.isEmpty)) := fun Q E q => by
  refine ⟨⟨(Sh.lst h).shp hk, (Sh.lst (k := 0) (ts := []) fun t h => by simp at h).shp⟩, ?_⟩
  have e : (T.lst ts).eqv (.lst []) = ts.isEmpty := by
    unfold T.eqv
    cases ts with
    | nil => simp [T.pd, T.pds, PyData.eqv, PyData.eqvAll]
    | cons x L => simp [T.pd, T.pds, PyData.eqv, PyData.eqvAll]
  show Q _
  rw [e]
  exact q
theorem eq_nilS {k : Nat} {ts : List T} (h : ∀ t ∈ ts, Sh k t) (hk : k + 1 ≤ 64) : Ev (gEq (.lst ts) (.lst [])) (.bl ts.isEmpty) := fun Q E q => by
  refine ⟨⟨(Sh.lst h).shp hk, (Sh.lst (k := 0) (ts := []) fun t h => by simp at h).shp⟩, ?_⟩
  have e : (T.lst ts).eqv (.lst []) = ts.isEmpty := by
    unfold T.eqv
    cases ts with
    | nil => simp [T.pd, T.pds, PyData.eqv, PyData.eqvAll]
    | cons x L => simp [T.pd, T.pds, PyData.eqv, PyData.eqvAll]
  show Q _
  rw [e]
  exact q
section
variable {env : Env} {D : EndT} {me ma mb : Env → M T} {mi : Env → M (List T)} {t u x y z : T} {ts : List T} {c : Env → M Bool} {v : Bool}
theorem e_lcId0 {α : Type} {enc : α → T} {L : List α} {g : GM} {vs : List Nat} {ev : α → Env} {j : Nat} (hi : Ev (mi env) (L.map enc)) (hg : ∀ x ∈ L, g (enc x) (wipeE env vs) = some (ev x)) (hf : ∀ x ∈ L, (ev x)[j]? = some (.va 0 (enc x))) : Ev (mLc mi g (fun _ => ret true) (mVar j) vs env) (.lst (L.map enc)) :=
  e_lc0 hi hg fun x hx => e_var (hf x hx)
theorem l_ifI {a b : Int} (h : Ev (c env) v) (k1 : v = true → Ev (ma env) (.int a)) (k2 : v = false → Ev (mb env) (.int b)) : Ev (mIf c ma mb env) (.int (if v = true then a else b)) :=
  e_if h (fun hv => by subst hv; exact k1 rfl) fun hv => by subst hv; exact k2 rfl
theorem l_ifT (h : Ev (c env) v) (k1 : v = true → Ev (ma env) x) (k2 : v = false → Ev (mb env) y) : Ev (mIf c ma mb env) (if v = true then x else y) :=
  e_if h (fun hv => by subst hv; exact k1 rfl) fun hv => by subst hv; exact k2 rfl
theorem l_takeZ {α : Type} {f : α → T} {L : List α} {i : Int} {mh : Env → M T} (h : Ev (me env) t) (ht : t = .tup (L.map f)) (k : Ev (mh env) (.int i)) (h0 : 0 ≤ i) : Ev (mSl me mNoPart (mPart mh) env) (.tup ((L.take i.toNat).map f)) := by
  obtain ⟨j, rfl⟩ := Int.eq_ofNat_of_zero_le h0
  subst ht
  exact l_takeT h k
theorem l_dropZ {α : Type} {f : α → T} {L : List α} {i : Int} {mh : Env → M T} (h : Ev (me env) t) (ht : t = .tup (L.map f)) (k : Ev (mh env) (.int i)) (h0 : 0 ≤ i) : Ev (mSl me (mPart mh) mNoPart env) (.tup ((L.drop i.toNat).map f)) := by
  obtain ⟨j, rfl⟩ := Int.eq_ofNat_of_zero_le h0
  subst ht
  exact l_dropT h k
theorem l_takeZL {α : Type} {f : α → T} {L : List α} {i : Int} {mh : Env → M T} (h : Ev (me env) t) (ht : t = .lst (L.map f)) (k : Ev (mh env) (.int i)) (h0 : 0 ≤ i) : Ev (mSl me mNoPart (mPart mh) env) (.lst ((L.take i.toNat).map f)) := by
  obtain ⟨j, rfl⟩ := Int.eq_ofNat_of_zero_le h0
  subst ht
  have := e_takeL h k
  rwa [← List.map_take] at this
theorem l_dropZL {α : Type} {f : α → T} {L : List α} {i : Int} {mh : Env → M T} (h : Ev (me env) t) (ht : t = .lst (L.map f)) (k : Ev (mh env) (.int i)) (h0 : 0 ≤ i) : Ev (mSl me (mPart mh) mNoPart env) (.lst ((L.drop i.toNat).map f)) := by
  obtain ⟨j, rfl⟩ := Int.eq_ofNat_of_zero_le h0
  subst ht
  have := e_dropL h k
  rwa [← List.map_drop] at this
theorem l_drop1' {α : Type} {f : α → T} {L : List α} (h : Ev (me env) t) (ht : t = .tup (L.map f)) : Ev (mSl me (mPart (mCon (.int 1))) mNoPart env) (.tup ((L.drop 1).map f)) := by subst ht; exact l_drop1 h
theorem l_drop1L' {α : Type} {f : α → T} {L : List α} (h : Ev (me env) t) (ht : t = .lst (L.map f)) : Ev (mSl me (mPart (mCon (.int 1))) mNoPart env) (.lst ((L.drop 1).map f)) := by subst ht; exact l_drop1L h
/-- the element of a row of anything -/
theorem l_ixM {α : Type} {f : α → T} {L : List α} {i : Int} {x : α} (h : seqOf t = some (L.map f)) (h0 : 0 ≤ i) (hx : L[i.toNat]? = some x) : Ev (gIx t (.int i)) (f x) := by
  obtain ⟨j, rfl⟩ := Int.eq_ofNat_of_zero_le h0
  rw [Int.toNat_natCast] at hx
  cases t with
  | tup us => cases h; exact e_ixT (i := j) (by rw [List.getElem?_map, hx]; rfl)
  | lst us => cases h; exact e_ixL (i := j) (by rw [List.getElem?_map, hx]; rfl)
  | _ => cases h
theorem l_addM {α : Type} {f : α → T} {a : List α} {c : α} (h : a.length + 1 ≤ sizeLine) : Ev (gAdd (.lst (a.map f)) (.lst [f c])) (.lst ((a ++ [c]).map f)) := by
  rw [List.map_append]
  exact e_addL (by rw [List.length_map]; exact h)
theorem i_appM {α : Type} {f : α → T} {L : List α} {x : α} {i : Nat} (h : env[i]? = some (.va 1 (.lst (L.map f)))) (ha : Ev (me env) (f x)) (hz : L.length < sizeLine) (k : D.nx (env.set i (.va 1 (.lst ((L ++ [x]).map f))))) : sMt i fApp (mCons me mNil) D env :=
  i_app h ha (by rw [List.length_map]; exact hz) (by rw [List.map_append] at k; exact k)
theorem i_extM {α : Type} {f : α → T} {L K : List α} {i : Nat} (h : env[i]? = some (.va 1 (.lst (L.map f)))) (ha : Ev (me env) (.lst (K.map f))) (hz : L.length + K.length ≤ sizeLine) (k : D.nx (env.set i (.va 1 (.lst ((L ++ K).map f))))) : sMt i fExt (mCons me mNil) D env :=
  i_ext h ha (by rw [List.length_map, List.length_map]; exact hz) (by rw [List.map_append] at k; exact k)
theorem i_appI {L : List Int} {x : Int} {i : Nat} (h : env[i]? = some (.va 1 (.lst (L.map T.int)))) (ha : Ev (me env) (.int x)) (hz : L.length < sizeLine) (k : D.nx (env.set i (.va 1 (.lst ((L ++ [x]).map T.int))))) : sMt i fApp (mCons me mNil) D env := i_appM h ha hz k
theorem strs_sh {L : List Str} (h : L.all PyData.strOk = true) : ∀ t ∈ L.map T.str, Sh 0 t := fun t ht => by
  obtain ⟨x, hx, rfl⟩ := List.mem_map.mp ht
  exact Sh.str (List.all_eq_true.mp h x hx)
/-- the words told are those asked -/
theorem words_ok (ws : List Str) {i : Nat} {ts : List T} {mas : Env → M (List T)} (h : env[i]? = some (.va 1 (.lst ts))) (hm : Ev (mas env) ts) (he : ts = ws.map T.str) (hs : ws.all PyData.strOk = true) (hz : ws.length ≤ sizeLine) : Ev (mB (mBin gNe (mVarB i) (mLst mas)) env) false := by
  subst he
  exact b_val (e_bin (e_varB h (Nat.le_refl 1)) (e_lst hm (by rw [List.length_map]; exact hz)) (e_neS (k := 1) (Sh.lst (strs_sh hs))))
theorem n_row {α : Type} {enc : α → T} {L : List α} {g : GM} {vs : List Nat} {ev : α → Env} {P : Int → Prop} (hi : Ev (mi env) (L.map enc)) (hg : ∀ x ∈ L, g (enc x) (wipeE env vs) = some (ev x)) (hf : ∀ x ∈ L, Nd (me (ev x)) (fun t => ∃ i : Int, t = .int i ∧ P i)) : Nd (mLc mi g (fun _ => ret true) me vs env) (fun t => ∃ row : List Int, t = .lst (row.map T.int) ∧ row.length = L.length ∧ ∀ x ∈ row, P x) := by
  have key : ∀ L : List α, (∀ x ∈ L, g (enc x) (wipeE env vs) = some (ev x)) → (∀ x ∈ L, Nd (me (ev x)) (fun t => ∃ i : Int, t = .int i ∧ P i)) → Nd (lcM g (fun _ => ret true) me (L.map enc) (wipeE env vs)) (fun us => ∃ row : List Int, us = row.map T.int ∧ row.length = L.length ∧ ∀ x ∈ row, P x) := by
    intro L
    induction L with
    | nil => intro _ _ Q E q; exact q _ ⟨[], rfl, rfl, fun x h => by simp at h⟩
    | cons a L ih =>
      intro hg hf Q E q
      refine ⟨ev a, hg a List.mem_cons_self, ?_⟩
      change (if (true = true) then me (ev a) (fun x => lcM g (fun _ => ret true) me (L.map enc) (wipeE env vs) (fun xs => Q (x :: xs)) E) E else lcM g (fun _ => ret true) me (L.map enc) (wipeE env vs) Q E)
      rw [if_pos rfl]
      refine hf a List.mem_cons_self _ E ?_
      rintro _ ⟨i, rfl, hp⟩
      refine ih (fun y hy => hg y (List.mem_cons_of_mem _ hy)) (fun y hy => hf y (List.mem_cons_of_mem _ hy)) _ E ?_
      rintro _ ⟨row, rfl, hl, hr⟩
      refine q _ ⟨i :: row, rfl, by simp [hl], fun x hx => ?_⟩
      rcases List.mem_cons.mp hx with rfl | hx
      · exact hp
      · exact hr x hx
  exact Ev.bndN hi (Nd.bnd (P := fun us => ∃ row : List Int, us = row.map T.int ∧ row.length = L.length ∧ ∀ x ∈ row, P x) (fun Q E q => key L hg hf Q _ q) fun us ⟨row, e, h1, h2⟩ => Nd.ret ⟨row, by rw [e], h1, h2⟩)
/-- a tuple of drawn numbers -/
theorem n_rowT {α : Type} {enc : α → T} {L : List α} {g : GM} {vs : List Nat} {ev : α → Env} {P : Int → Prop} (hi : Ev (mi env) (L.map enc)) (hg : ∀ x ∈ L, g (enc x) (wipeE env vs) = some (ev x)) (hf : ∀ x ∈ L, Nd (me (ev x)) (fun t => ∃ i : Int, t = .int i ∧ P i)) : Nd (mCall (g1 gTuple) (mCons (mLc mi g (fun _ => ret true) me vs) mNil) env) (fun t => ∃ row : List Int, t = encI row ∧ row.length = L.length ∧ ∀ x ∈ row, P x) :=
  Nd.bnd (n_one (n_row hi hg hf)) fun ts ⟨t, e, row, e2, h1, h2⟩ => by
    subst e; subst e2
    exact (e_tupleL _).nd ⟨row, rfl, h1, h2⟩
theorem n_addR {a : Int} {P : Int → Prop} (h : Nd (me env) (fun t => ∃ i : Int, t = .int i ∧ P i)) : Nd (mBin gAdd (mCon (.int a)) me env) (fun t => ∃ i : Int, t = .int (a + i) ∧ P i) := n_binR e_con h fun y ⟨i, e, p⟩ => by
  subst e
  exact (e_addI _ _).nd ⟨i, rfl, p⟩
theorem l_takeT0 {i : Int} {mh : Env → M T} (h : Ev (me env) (.tup ts)) (k : Ev (mh env) (.int i)) (h0 : 0 ≤ i) : Ev (mSl me mNoPart (mPart mh) env) (.tup (ts.take i.toNat)) := by
  obtain ⟨j, rfl⟩ := Int.eq_ofNat_of_zero_le h0
  exact e_takeT h k
theorem l_dropT0 {i : Int} {mh : Env → M T} (h : Ev (me env) (.tup ts)) (k : Ev (mh env) (.int i)) (h0 : 0 ≤ i) : Ev (mSl me (mPart mh) mNoPart env) (.tup (ts.drop i.toNat)) := by
  obtain ⟨j, rfl⟩ := Int.eq_ofNat_of_zero_le h0
  exact e_dropT h k
theorem l_rep1 {n : Nat} {x : T} (h1 : 1 ≤ n) (h2 : n ≤ 1000) : Ev (gMul (.tup [x]) (.int n)) (.tup (List.replicate n x)) := by
  have := e_repT (xs := [x]) (k := n) (by simp) h1 h2 (by simp)
  rwa [rep_flat] at this
theorem i_chkN {c : Env → M Bool} {a b : SM} (h : Nd (c env) (· = false)) (k : b D env) : sSeq (sIf c a sNil) b D env := h _ _ fun v e => by subst e; exact (if_neg Bool.false_ne_true).mpr k
theorem i_endN {c : Env → M Bool} {a : SM} (h : Nd (c env) (· = false)) (k : D.nx env) : sIf c a sNil D env := h _ _ fun v e => by subst e; exact (if_neg Bool.false_ne_true).mpr k
theorem i_end {c : Env → M Bool} {a : SM} {v : Bool} (h : Ev (c env) v) (e : v = false) (k : D.nx env) : sIf c a sNil D env := by subst e; exact i_if h (fun hv => nomatch hv) fun _ => k
theorem n_mB {v : Bool} (h : Nd (me env) (· = .bl v)) : Nd (mB me env) (· = v) := fun Q E q => h _ _ fun t e => ⟨v, e, q v rfl⟩
theorem n_mBP {P : Bool → Prop} (h : Nd (me env) (fun t => ∃ v, t = .bl v ∧ P v)) : Nd (mB me env) P := fun Q E q => h _ _ fun t ⟨v, e, p⟩ => ⟨v, e, q v p⟩
theorem Ev.ndE {α : Type} {m : M α} {a : α} (h : Ev m a) : Nd m (· = a) := h.nd rfl
section
variable {m1 m2 m3 : Env → M T} {a b : T} {P : T → Prop} {R : T → Prop} {den : List T → M T}
theorem n_arg1 (h : Nd (m1 env) P) (r : ∀ t, P t → Nd (den [t]) R) : Nd (bnd (mCons m1 mNil env) fun ts => gd (ts.length = 1) (den ts)) R :=
  Nd.bnd (n_one h) fun ts ⟨t, e, p⟩ => by subst e; exact Nd.gd rfl (r t p)
theorem n_arg2 (h1 : Ev (m1 env) a) (h : Nd (m2 env) P) (r : ∀ t, P t → Nd (den [a, t]) R) : Nd (bnd (mCons m1 (mCons m2 mNil) env) fun ts => gd (ts.length = 2) (den ts)) R :=
  Nd.bnd (Ev.bndN (R := fun ts => ∃ t, ts = [a, t] ∧ P t) h1 (Nd.bnd (n_one h) fun ts ⟨t, e, p⟩ => Nd.ret ⟨t, by rw [e], p⟩)) fun ts ⟨t, e, p⟩ => by subst e; exact Nd.gd rfl (r t p)
theorem n_arg3 (h1 : Ev (m1 env) a) (h2 : Ev (m2 env) b) (h : Nd (m3 env) P) (r : ∀ t, P t → Nd (den [a, b, t]) R) : Nd (bnd (mCons m1 (mCons m2 (mCons m3 mNil)) env) fun ts => gd (ts.length = 3) (den ts)) R :=
  fun Q E q => h1 _ E (h2 _ E (h _ E fun t p => ⟨rfl, r t p Q E q⟩))
end
end
end Twl

local macro_rules | `(tactic| bv_omega) => `(tactic| first | with_reducible exact Nat.le_of_ble_eq_true rfl | omega | (simp only [Twl.szl, Twl.rngl2, Twl.rngZ_len, List.length_map, List.length_append, List.length_cons, List.length_nil, List.length_take, List.length_drop, List.length_replicate, List.length_zip, decide_eq_true_eq] at *; omega))
local macro_rules | `(tactic| sizeOf_list_dec) => `(tactic| (intro x hx; (try have hb := Twl.rngI_mem.mp hx); (try have hb := Twl.rngZ_mem.mp hx); (try have hb := Twl.nbr_bd (by assumption) (by assumption) hx); (try have hb := Twl.tie_bd (by assumption) hx); (try have hb := Twl.enZ_mem hx)))
local macro_rules | `(tactic| array_mem_dec) => `(tactic| (intro h; (try simp only [Bool.and_eq_true, Bool.or_eq_true, Bool.not_eq_true', decide_eq_true_eq, decide_eq_false_iff_not, Bool.and_eq_false_iff, Bool.or_eq_false_iff, Twl.cI] at h)))
local macro_rules | `(tactic| ac_rfl) => `(tactic| first
  | ((with_reducible apply Twl.e_var); exact rfl)
  | ((with_reducible apply Twl.e_varB); (exact rfl); (exact Nat.le_of_ble_eq_true rfl))
  | (with_reducible exact Twl.e_con)
  | (with_reducible exact Twl.e_nil)
  | ((with_reducible apply Twl.e_cons); ac_rfl; ac_rfl)
  | ((with_reducible apply Twl.e_bin); ac_rfl; ac_rfl; decreasing_trivial_pre_omega)
  | ((with_reducible apply Twl.e_uc); ac_rfl; (exact rfl); decreasing_trivial_pre_omega)
  | ((with_reducible apply Twl.b_val); ac_rfl)
  | ((with_reducible apply Twl.b_not); ac_rfl)
  | ((with_reducible apply Twl.b_and); ac_rfl; array_mem_dec; ac_rfl)
  | ((with_reducible apply Twl.b_or); ac_rfl; array_mem_dec; ac_rfl)
  | ((with_reducible apply Twl.v_and); ac_rfl; array_mem_dec; ac_rfl)
  | ((with_reducible apply Twl.v_or); ac_rfl; array_mem_dec; ac_rfl)
  | ((with_reducible apply Twl.v_not); ac_rfl)
  | ((with_reducible apply Twl.v_chain); ac_rfl; ac_rfl; decreasing_trivial_pre_omega; array_mem_dec; constructor; ac_rfl; decreasing_trivial_pre_omega)
  | ((with_reducible apply Twl.e_tup); ac_rfl; bv_omega)
  | ((with_reducible apply Twl.e_lst); ac_rfl; bv_omega)
  | ((with_reducible apply Twl.e_src); ac_rfl; exact rfl)
  | ((with_reducible apply Twl.e_arg); ac_rfl; decreasing_trivial_pre_omega)
  | ((with_reducible apply Twl.e_allM); ac_rfl; (intro _ _; exact rfl); sizeOf_list_dec; ac_rfl)
  | ((with_reducible apply Twl.e_anyM); ac_rfl; (intro _ _; exact rfl); sizeOf_list_dec; ac_rfl)
  | ((with_reducible apply Twl.e_allMp); ac_rfl; (intro _ _; exact rfl); (sizeOf_list_dec; ac_rfl); sizeOf_list_dec; array_mem_dec; ac_rfl)
  | ((with_reducible apply Twl.e_anyMp); ac_rfl; (intro _ _; exact rfl); (sizeOf_list_dec; ac_rfl); sizeOf_list_dec; array_mem_dec; ac_rfl)
  | ((with_reducible apply Twl.e_call); ac_rfl; decreasing_trivial_pre_omega)
  | ((with_reducible apply Twl.e_un); ac_rfl; decreasing_trivial_pre_omega)
  | ((with_reducible apply Twl.e_lcId0); ac_rfl; (intro _ _; exact rfl); (intro _ _; exact rfl))
  | ((with_reducible apply Twl.e_lcId); ac_rfl; (intro _ _; exact rfl); (sizeOf_list_dec; ac_rfl); (intro _ _; exact rfl))
  | ((with_reducible apply Twl.e_lcI0); ac_rfl; (intro _ _; exact rfl); sizeOf_list_dec; ac_rfl)
  | ((with_reducible apply Twl.e_lcI); ac_rfl; (intro _ _; exact rfl); (sizeOf_list_dec; ac_rfl); sizeOf_list_dec; array_mem_dec; ac_rfl)
  | ((with_reducible apply Twl.e_lc0); ac_rfl; (intro _ _; exact rfl); sizeOf_list_dec; ac_rfl)
  | ((with_reducible apply Twl.e_lc); ac_rfl; (intro _ _; exact rfl); (sizeOf_list_dec; ac_rfl); sizeOf_list_dec; array_mem_dec; ac_rfl)
  | ((with_reducible apply Twl.l_drop1'); ac_rfl; exact rfl)
  | ((with_reducible apply Twl.l_drop1L'); ac_rfl; exact rfl)
  | ((with_reducible apply Twl.l_takeZ); ac_rfl; (exact rfl); ac_rfl; bv_omega)
  | ((with_reducible apply Twl.l_dropZ); ac_rfl; (exact rfl); ac_rfl; bv_omega)
  | ((with_reducible apply Twl.l_takeZL); ac_rfl; (exact rfl); ac_rfl; bv_omega)
  | ((with_reducible apply Twl.l_dropZL); ac_rfl; (exact rfl); ac_rfl; bv_omega)
  | ((with_reducible apply Twl.l_takeT0); ac_rfl; ac_rfl; bv_omega)
  | ((with_reducible apply Twl.l_dropT0); ac_rfl; ac_rfl; bv_omega)
  | ((with_reducible apply Twl.e_binL); ac_rfl; ac_rfl; decreasing_trivial_pre_omega)
  | ((with_reducible apply Twl.l_ifI); ac_rfl; (array_mem_dec; ac_rfl); array_mem_dec; ac_rfl)
  | ((with_reducible apply Twl.l_ifT); ac_rfl; (array_mem_dec; ac_rfl); array_mem_dec; ac_rfl)
  | (with_reducible exact Twl.Ev.ret _))
local macro_rules | `(tactic| decreasing_trivial_pre_omega) => `(tactic| first
  | with_reducible assumption
  | (with_reducible exact Twl.e_addI _ _)
  | (with_reducible exact Twl.e_subI _ _)
  | (with_reducible exact Twl.e_rel _ _)
  | (with_reducible exact Twl.e_eqI _ _)
  | (with_reducible exact Twl.e_neI _ _)
  | (with_reducible exact Twl.e_negI _)
  | (with_reducible exact Twl.l_ix0)
  | (with_reducible exact Twl.l_ix1)
  | (with_reducible exact Twl.l_ix2)
  | (with_reducible exact Twl.l_ix0L)
  | (with_reducible exact Twl.l_ix1L)
  | ((with_reducible apply Twl.l_cl); (exact rfl); bv_omega)
  | ((with_reducible apply Twl.l_nb); bv_omega)
  | ((with_reducible apply Twl.l_in); exact rfl)
  | ((with_reducible apply Twl.l_notIn); exact rfl)
  | ((with_reducible apply Twl.l_lenM); exact rfl)
  | ((with_reducible apply Twl.l_len); exact rfl)
  | ((with_reducible apply Twl.l_tuple); exact rfl)
  | ((with_reducible apply Twl.l_list); exact rfl)
  | ((with_reducible apply Twl.l_sum); exact rfl)
  | (with_reducible exact Twl.e_eqB _ _)
  | (with_reducible exact Twl.e_neB _ _)
  | (with_reducible exact Twl.e_isB _ _)
  | (with_reducible exact Twl.e_isNotB _ _)
  | (with_reducible exact Twl.e_eqO _ _)
  | (with_reducible exact Twl.e_neO _ _)
  | (with_reducible exact Twl.e_isO _)
  | (with_reducible exact Twl.e_isNotO _)
  | ((with_reducible apply Twl.l_eqTT); (exact rfl); (exact rfl))
  | ((with_reducible apply Twl.l_neTT); (exact rfl); (exact rfl))
  | ((with_reducible apply Twl.l_addI1); bv_omega)
  | ((with_reducible apply Twl.l_addT1); bv_omega)
  | ((with_reducible apply Twl.l_add1T); bv_omega)
  | ((with_reducible apply Twl.l_addTM); bv_omega)
  | ((with_reducible apply Twl.l_addT); bv_omega)
  | ((with_reducible apply Twl.l_addL1); bv_omega)
  | ((with_reducible apply Twl.l_add1L); bv_omega)
  | ((with_reducible apply Twl.l_addLM); bv_omega)
  | ((with_reducible apply Twl.e_addL); bv_omega)
  | ((with_reducible apply Twl.l_mul); bv_omega)
  | ((with_reducible apply Twl.e_rngL); bv_omega)
  | ((with_reducible apply Twl.e_rngN); bv_omega)
  | ((with_reducible apply Twl.e_rngZ); bv_omega)
  | ((with_reducible apply Twl.e_rng2Z); bv_omega)
  | ((with_reducible apply Twl.e_zpM); (exact rfl); (exact rfl))
  | ((with_reducible apply Twl.e_enM); (exact rfl))
  | (with_reducible exact Twl.e_max2 _ _)
  | (with_reducible exact Twl.e_min2 _ _)
  | (with_reducible exact Twl.e_sortedR _)
  | ((with_reducible apply Twl.l_rep1); bv_omega; bv_omega)
  | ((with_reducible apply_assumption) <;> first | assumption | bv_omega))
local macro_rules | `(tactic| array_get_dec) => `(tactic| first
  | ((with_reducible apply Twl.i_set); ac_rfl; (try dsimp only [List.set]))
  | ((with_reducible apply Twl.i_frz); (exact rfl); (try dsimp only [List.set]))
  | ((with_reducible apply Twl.i_par); ac_rfl; (try dsimp only [Twl.setAll, List.set]))
  | ((with_reducible apply Twl.i_asg); ac_rfl; (exact rfl); (try dsimp only [List.set]))
  | ((with_reducible apply Twl.i_drop); ac_rfl; (try dsimp only))
  | ((with_reducible apply Twl.i_appI); (exact rfl); ac_rfl; bv_omega; (try dsimp only [List.set]))
  | ((with_reducible apply Twl.i_app); (exact rfl); ac_rfl; bv_omega; (try dsimp only [List.set, List.cons_append, List.nil_append]))
  | ((with_reducible apply Twl.i_ret); ac_rfl; (try dsimp only))
  | ((with_reducible apply Twl.i_nil); (try dsimp only))
  | (refine Twl.i_seq ?_; array_get_dec))
local macro_rules | `(tactic| subst_eqs) => `(tactic| (try dsimp only [Twl.env0, List.map, List.length, Nat.reduceAdd, Nat.reduceSub, List.replicate, List.cons_append, List.nil_append]))
local macro_rules | `(tactic| exists $e) => `(tactic| (refine Twl.i_seq (Twl.i_setN (Twl.n_uc (by ac_rfl) (by rfl) $e) ?_)))

/-! TM4: x[i] op= e, x.append(y.pop(..)). -/
namespace Twl
open PySem PySem.Spec PyProof.Rows L2
theorem get_list {X : Cx} : PGet X (rIxL X.K) := by
  intro pins s σ H x y v u Q I rx ry h
  obtain ⟨p, xs, i, z, rfl, rfl, hq, he, q⟩ := h
  cases rx
  obtain ⟨t, rfl⟩ := ry
  obtain ⟨its, r, pl, hz⟩ := I.list hq
  obtain ⟨j, h1, h2, h3, h4, h5⟩ := atI_get he
  obtain ⟨w, ew, rw'⟩ := r.get h2
  have hl := r.length
  have hn := line63
  have fin : EP X pins σ Q w s := ⟨z, H, I, rw', q⟩
  by_cases h0 : 0 ≤ i
  · have hj : i.toNat = j := by
      rw [seqIndex_of h0 h5] at h1
      exact Option.some.inj h1
    exact wpAny_getItem_list pl.isList h0 (by omega) (by rw [hj]; simpa using ew) fin
  · have hj : (i + (its.toArray.size : Int)).toNat = j := by
      rw [seqIndex_neg (by omega) h4] at h1
      rw [List.size_toArray, ← hl]
      exact Option.some.inj h1
    exact wpAny_getItem_list_neg pl.isList (by omega) (by rw [List.size_toArray] <;> omega) (by omega) (by rw [hj]; simpa using ew) fin
section
variable {X : Cx} {S : Kx} {W : WX} {dr : Nat} {w0 : Wd} {x y : Str} {p p1 apos cpos pos pos' py ap2 cp2 : Pos} {e b value : Expr} {es : List Expr} {mas : Env → M (List T)} {mb me : Env → M T}
theorem ds_augSt (i : Nat) {op : Operator} {rp : TIp} {g : T → T → M T} (E : Eu X S) (he : DE X S W 0 value me) (hb : DE X S W 0 b mb) (ho : PIp X op rp) (sm : Sim2 S 0 g rp) (hN : X.N[i]? = some x := by rfl) (hv : Vis X.env.scope x := by first | exact Or.inl rfl | exact Or.inr (Or.inl rfl) | exact Or.inr (Or.inr rfl))
    (hd : (x == ("__debug__" : Str)) = false := by decide) (hcd : (x == ("__classdict__" : Str)) = false := by decide)
    (ha : ∀ ov iv new, augStore b ov iv new = (do holding [new, ov, iv] (setItem ov iv new); release [new, ov, iv] []; pure .next) := by intros; rfl) :
    DS X S W dr w0 (.AugAssign (.Subscript (.Name x p) b pos') op value pos) (sAugSt i g mb me) := by
  have hg : PGet X (rIxL S.K) := by rw [← E.hK]; exact get_list
  refine PSmono (ps_augS (pe_var hN hv hd hcd) hb hg he ho set_list ha) fun D σ H h => ?_
  obtain ⟨w, env, fp, D', rfl, ok, l, er, ow, ⟨ts, e0, hm⟩, en⟩ := h
  obtain ⟨p, vs, e1, h1, h2, h3, U⟩ := slot1 ok l er ow e0
  refine ⟨_, e1, rd_use ok er hm (.z fun u y w1 ok1 l1 r1 q1 => ?_) (en.kx ok l)⟩
  obtain ⟨n, j, t, rfl, hj, ht, q1⟩ := q1
  rw [Rep] at r1
  subst r1
  obtain ⟨mi1, _⟩ := U w1 ok1 l1
  have h2a := Reps.agr (l1.agr ok) _ _ h2
  obtain ⟨v, ev, rv⟩ := h2a.get ht
  refine ⟨p, vs, n, v, rfl, rfl, .inl (.inl mi1.at_), by unfold atI; rw [h2.length, hj]; exact ev, ?_⟩
  refine rd_use ok1 (er.le ok l1) q1 (.z fun u y w2 ok2 l2 r2 q2 => ?_) ((en.agr (l1.agr ok)).kx ok1 (l.trans l1))
  refine sm w2 t u v y _ _ _ ok2 ((Rep.agr (l2.agr ok1) _ _ rv).b ok2) (r2.b ok2) q2 fun z zv w3 f3 ok3 l3 r3 fr3 q3 => ?_
  have rz := r3.zero_inv.2
  obtain ⟨mi3, U3⟩ := U w3 ok3 (l1.trans (l2.trans l3))
  have h2b := Reps.agr ((l2.trans l3).agr ok1) _ _ h2a
  obtain ⟨fp2, er2, ow2, ok4, l4, ag4⟩ := U3 (ts.set j z) (vs.set j zv) (Reps.set rz j h2b)
  exact ⟨p, vs, n, j, rfl, rfl, mi3.at_, by rw [h2.length]; exact hj, en.nx _ σ _ fp2 ok4 l4 (((l1.trans (l2.trans l3)).agr ok).trans ag4) er2 ow2 q3⟩
theorem i_augSt {D : EndT} {env : Env} {i j : Nat} {g : T → T → M T} {mi me : Env → M T} {ts : List T} {t u z : T} (h : env[i]? = some (.va 1 (.lst ts))) (hi : Ev (mi env) (.int (j : Int))) (hj : ts[j]? = some t) (he : Ev (me env) u) (hg : Ev (g t u) z) (k : D.nx (env.set i (.va 1 (.lst (ts.set j z))))) : sAugSt i g mi me D env := by
  have hl := (List.getElem?_eq_some_iff.mp hj).1
  exact ⟨ts, h, hi _ _ ⟨j, j, t, rfl, by unfold ixN; simp [hl], hj, he _ _ (hg _ _ k)⟩⟩
/-- x.append(y.pop(..)) -/
def sAppPop (i j : Nat) (f : List T → List T → M (T × List T)) (mas : Env → M (List T)) : SM := fun D env =>
  ∃ ts0, env[i]? = some (.va 1 (.lst ts0)) ∧ uM j f mas (fun z env' => ∃ ts, env'[i]? = some (.va 1 (.lst ts)) ∧ ts.length < sizeLine ∧ D.nx (env'.set i (.va 1 (.lst (ts ++ [z]))))) D.ex env
theorem ds_appPop (i j : Nat) {name : Str} {id : String} {r : RM} {fz : Bool} {f : List T → List T → M (T × List T)} (slot : Slot "list" name id) (hty : typeOf (.builtin id) = pure (.type "method_descriptor")) (hm : MtR X id r) (sm : SimU S fz f r) (ha : DAF X S W fz (e :: es) mas) (hij : i ≠ j)
    (hN : X.N[i]? = some x := by rfl) (hv : Vis X.env.scope x := by first | exact Or.inl rfl | exact Or.inr (Or.inl rfl) | exact Or.inr (Or.inr rfl))
    (hN2 : X.N[j]? = some y := by rfl) (hv2 : Vis X.env.scope y := by first | exact Or.inl rfl | exact Or.inr (Or.inl rfl) | exact Or.inr (Or.inr rfl))
    (hd : (x == ("__debug__" : Str)) = false := by decide) (hcd : (x == ("__classdict__" : Str)) = false := by decide) (hd2 : (y == ("__debug__" : Str)) = false := by decide) (hcd2 : (y == ("__classdict__" : Str)) = false := by decide)
    (hbase : attributeBase (.Name x p) "append" X.env (eval (.Name x p) X.env) = eval (.Name x p) X.env := by rfl) (hbase2 : attributeBase (.Name y py) name X.env (eval (.Name y py) X.env) = eval (.Name y py) X.env := by rfl)
    (hfew : ((backTo cpos (starEach (.Call (.Attribute (.Name y py) name ap2) (e :: es) [] cp2 :: []) X.env)).all (fun x => !x.1) && (backToKw cpos (keywordEach [] X.env)).all (fun x => x.1.isSome)
      && decide ((Expr.Call (.Attribute (.Name y py) name ap2) (e :: es) [] cp2 :: []).length + ([] : List Keyword).length + (if ([] : List Keyword).isEmpty then 0 else 1) < 30)) = true := by rfl)
    (hfew2 : ((backTo cp2 (starEach (e :: es) X.env)).all (fun x => !x.1) && (backToKw cp2 (keywordEach [] X.env)).all (fun x => x.1.isSome)
      && decide ((e :: es).length + ([] : List Keyword).length + (if ([] : List Keyword).isEmpty then 0 else 1) < 30)) = true := by rfl)
    (hline : (apos.endLine == cpos.line) = true := by rfl) (hline2 : (ap2.endLine == cp2.line) = true := by rfl)
    (hs : starEach (.Call (.Attribute (.Name y py) name ap2) (e :: es) [] cp2 :: []) X.env = (false, eval (.Call (.Attribute (.Name y py) name ap2) (e :: es) [] cp2) X.env) :: starEach [] X.env := by first | exact star_c rfl | rfl) (hplain : (backTo cpos (starEach [] X.env)).any (·.1) = false := by first | exact star_any rfl | rfl)
    (hs2 : starEach (e :: es) X.env = (false, eval e X.env) :: starEach es X.env := by first | exact star_c rfl | rfl) (hplain2 : (backTo cp2 (starEach es X.env)).any (·.1) = false := by first | exact star_any rfl | rfl)
    (hsw : swapsWith (.Call (.Attribute (.Name x p) "append" apos) (.Call (.Attribute (.Name y py) name ap2) (e :: es) [] cp2 :: []) [] cpos) none pos.line X.env = pure false := by rfl) :
    DS X S W dr w0 (.Expr (.Call (.Attribute (.Name x p) "append" apos) (.Call (.Attribute (.Name y py) name ap2) (e :: es) [] cp2 :: []) [] cpos) pos) (sAppPop i j f mas) :=
  PSmono (ps_expr (pe_bm F.plainAttrs_list PySem.F.slot_list_append rfl mt_append (pe_var hN hv hd hcd) (pa_cons (pe_bm F.plainAttrs_list slot hty hm (pe_var hN2 hv2 hd2 hcd2) ha hbase2 hfew2 hline2 hs2 hplain2) pa_nil hs) hbase hfew hline hs hplain) hsw) fun D σ H h => by
    obtain ⟨w, env, fp, D', rfl, ok, l, er, ow, ⟨ts0, e0, hm⟩, en⟩ := h
    obtain ⟨q, us, e1, h1, _, _, _⟩ := slot1 ok l er ow e0
    obtain ⟨p2, e2, ⟨vs2, h2⟩, run⟩ := uM_run (Q := fun v H' => rAppend (.ref q) [v] H' fun _ H'' => D.nx σ H'') sm ok l er ow hm (en.kx ok l) fun z v w2 env2 fp2 ok2 l2 g2 er2 ow2 rz q2 => by
      obtain ⟨ts, e3, hz, q2⟩ := q2
      obtain ⟨q', us2, e4, h4, h5, _, U⟩ := slot1 ok2 l2 er2 ow2 e3
      rw [e1] at e4
      cases e4
      obtain ⟨mi, U⟩ := U w2 ok2 (.refl w2)
      obtain ⟨fp3, er3, ow3, ok3, l3, ag3⟩ := U (ts ++ [z]) (us2 ++ [v]) (h5.append (.cons rz .nil))
      exact ⟨q, us2, v, rfl, rfl, h4, by rw [h5.length]; exact hz, en.nx _ σ _ fp3 ok3 l3 (g2.trans ag3) er3 ow3 q2⟩
    exact ⟨_, e1, tyL h1, _, e2, tyL h2, run⟩
theorem i_appPop {D : EndT} {env : Env} {i j k : Nat} {me : Env → M T} {ts us : List T} {z : T} (hij : i ≠ j) (h1 : env[i]? = some (.va 1 (.lst ts))) (h2 : env[j]? = some (.va 1 (.lst us))) (hk : Ev (me env) (.int (k : Int))) (hz : us[k]? = some z) (hl : us.length < 2 ^ 20) (ht : ts.length < sizeLine) (nx : D.nx ((env.set j (.va 1 (.lst (us.eraseIdx k)))).set i (.va 1 (.lst (ts ++ [z]))))) : sAppPop i j fPopAt (mCons me mNil) D env := by
  have hkl := (List.getElem?_eq_some_iff.mp hz).1
  have hs : seqIndex? (k : Int) us.length = some k := by rw [seqIndex_of (by omega) (by omega), Int.toNat_natCast]
  refine ⟨ts, h1, us, h2, hk _ _ ?_⟩
  show fPopAt us [.int k] _ _
  unfold fPopAt
  show ofO (seqIndex? (k : Int) us.length) _ _ _
  rw [hs]
  show ofO us[k]? _ _ _
  rw [hz]
  refine ⟨⟨by omega, by omega⟩, ts, ?_, ht, nx⟩
  rw [List.getElem?_set_ne (fun e => hij e.symm)]
  exact h1
theorem i_appPopN {D : EndT} {env : Env} {i j : Nat} {me : Env → M T} {ts us : List T} (hij : i ≠ j) (h1 : env[i]? = some (.va 1 (.lst ts))) (h2 : env[j]? = some (.va 1 (.lst us))) (hk : Nd (me env) (fun t => ∃ k : Nat, t = .int k ∧ k < us.length)) (hl : us.length < 2 ^ 20) (ht : ts.length < sizeLine) (nx : ∀ k z, us[k]? = some z → D.nx ((env.set j (.va 1 (.lst (us.eraseIdx k)))).set i (.va 1 (.lst (ts ++ [z]))))) : sAppPop i j fPopAt (mCons me mNil) D env := by
  refine ⟨ts, h1, us, h2, hk _ _ ?_⟩
  rintro _ ⟨k, rfl, hkl⟩
  have hs : seqIndex? (k : Int) us.length = some k := by rw [seqIndex_of (by omega) (by omega), Int.toNat_natCast]
  have hz : us[k]? = some us[k] := List.getElem?_eq_getElem hkl
  show fPopAt us [.int k] _ _
  unfold fPopAt
  show ofO (seqIndex? (k : Int) us.length) _ _ _
  rw [hs]
  show ofO us[k]? _ _ _
  rw [hz]
  refine ⟨⟨by omega, by omega⟩, ts, ?_, ht, nx k _ hz⟩
  rw [List.getElem?_set_ne (fun e => hij e.symm)]
  exact h1
end
end Twl

/-! TN3: paintings counted by falling products. -/
namespace Twl
open PySem PySem.Spec PyProof.Rows L2
theorem rngI_succ (n : Nat) : rngI (n + 1) = rngI n ++ [(n : Int)] := by
  unfold rngI
  rw [List.range_succ, List.map_append]
  rfl
/-- x (x - 1) .. : j factors -/
def fall (x : Int) : Nat → Int
  | 0 => 1
  | j + 1 => x * fall (x - 1) j
theorem fall_r : ∀ (j : Nat) (x : Int), fall x (j + 1) = fall x j * (x - j)
  | 0, x => by simp [fall]
  | j + 1, x => by
    rw [fall, fall_r j (x - 1), fall]
    have e : x - 1 - (j : Int) = x - ((j + 1 : Nat) : Int) := by omega
    rw [e, Int.mul_assoc]
theorem fall_zero : ∀ (j k : Nat), k < j → fall (k : Int) j = 0
  | 0, k, h => by omega
  | j + 1, 0, h => by simp [fall]
  | j + 1, k + 1, h => by
    rw [fall]
    have e : ((k + 1 : Nat) : Int) - 1 = (k : Int) := by omega
    rw [e, fall_zero j k (by omega), Int.mul_zero]
theorem fall_pos : ∀ (k : Nat), 0 < fall (k : Int) k
  | 0 => by simp [fall]
  | k + 1 => by
    rw [fall]
    have e : ((k + 1 : Nat) : Int) - 1 = (k : Int) := by omega
    rw [e]
    exact Int.mul_pos (by omega) (fall_pos k)
theorem sum_app (a b : List Int) : (a ++ b).sum = a.sum + b.sum := by
  induction a with
  | nil => simp
  | cons x a ih => simp [ih]; omega
theorem sum_perm {a b : List Int} (h : a.Perm b) : a.sum = b.sum := by
  induction h with
  | nil => rfl
  | cons x _ ih => simp [ih]
  | swap x y l => simp; omega
  | trans _ _ h1 h2 => rw [h1, h2]
theorem one_hot (f : Int → Int) (g : Int) (h0 : 0 ≤ g) : ∀ N : Nat, ((rngI N).map fun j => (if g = j then (1 : Int) else 0) * f j).sum = if g < N then f g else 0
  | 0 => by
    rw [if_neg (by omega)]
    rfl
  | N + 1 => by
    rw [rngI_succ, List.map_append, sum_app, one_hot f g h0 N]
    simp only [List.map_cons, List.map_nil, List.sum_cons, List.sum_nil, Int.add_zero]
    by_cases e : g = N
    · rw [if_neg (by omega), if_pos e, if_pos (by omega), e]; omega
    · rw [if_neg e]
      by_cases h : g < N
      · rw [if_pos h, if_pos (by omega)]; omega
      · rw [if_neg h, if_neg (by omega)]; omega
theorem sum_add {α : Type} (f g : α → Int) : ∀ L : List α, (L.map fun x => f x + g x).sum = (L.map f).sum + (L.map g).sum
  | [] => by simp
  | x :: L => by simp [sum_add f g L]; omega
/-- a sum, put together by a number -/
theorem sum_by {α : Type} (g : α → Int) (f : Int → Int) (N : Nat) : ∀ L : List α, (∀ r ∈ L, 0 ≤ g r ∧ (g r < N ∨ f (g r) = 0)) → (L.map fun r => f (g r)).sum = ((rngI N).map fun j => ((L.filter fun r => decide (g r = j)).length : Int) * f j).sum
  | [], _ => by
    have : ((rngI N).map fun j => ((([] : List α).filter fun r => decide (g r = j)).length : Int) * f j) = (rngI N).map fun _ => 0 := List.map_congr_left fun j _ => by simp
    rw [this]
    induction rngI N with
    | nil => rfl
    | cons x L ih => simpa using ih
  | r :: L, h => by
    obtain ⟨h0, h1⟩ := h r List.mem_cons_self
    rw [List.map_cons, List.sum_cons, sum_by g f N L fun x hx => h x (List.mem_cons_of_mem _ hx)]
    have e : ((rngI N).map fun j => (((r :: L).filter fun r => decide (g r = j)).length : Int) * f j) = (rngI N).map fun j => (if g r = j then (1 : Int) else 0) * f j + ((L.filter fun r => decide (g r = j)).length : Int) * f j := by
      refine List.map_congr_left fun j _ => ?_
      rw [List.filter_cons]
      by_cases q : g r = j
      · rw [if_pos (decide_eq_true q), if_pos q, List.length_cons, ← Int.add_mul]
        congr 1
        omega
      · rw [if_neg (by simpa using q), if_neg q]
        omega
    rw [e, sum_add, one_hot f (g r) h0]
    rcases h1 with h1 | h1
    · rw [if_pos h1]
    · rw [h1]; split <;> rfl
theorem flat_congr {α β : Type} {f g : α → List β} : ∀ {L : List α}, (∀ a ∈ L, f a = g a) → L.flatMap f = L.flatMap g
  | [], _ => rfl
  | a :: L, h => by rw [List.flatMap_cons, List.flatMap_cons, h a List.mem_cons_self, flat_congr fun b hb => h b (List.mem_cons_of_mem _ hb)]
/-! ### paintings as a tree -/
def ptR (near : List (List Int)) (k : Nat) : Nat → List Int → List (List Int)
  | 0, r => [r]
  | f + 1, r => ((rngI k).filter fun c => !decide (c ∈ takenL near r)).flatMap fun c => ptR near k f (r ++ [c])
theorem longer_tk (near : List (List Int)) (k : Nat) (r : List Int) : longerL near k r.length r = ((rngI k).filter fun c => !decide (c ∈ takenL near r)).map fun c => r ++ [c] := rfl
theorem paintsL_len2 (near : List (List Int)) (k : Nat) : ∀ i, ∀ r ∈ paintsL near k i, r.length = i
  | 0, r, h => by
    rw [paintsL, List.mem_singleton] at h
    rw [h]; rfl
  | i + 1, r, h => by
    rw [paintsL, List.mem_flatMap] at h
    obtain ⟨s, hs, h⟩ := h
    unfold longerL at h
    obtain ⟨c, _, rfl⟩ := List.mem_map.mp h
    rw [List.length_append, paintsL_len2 near k i s hs]
    rfl
theorem paints_tree (near : List (List Int)) (k : Nat) : ∀ (i f : Nat), (paintsL near k i).flatMap (ptR near k f) = ptR near k (i + f) []
  | 0, f => by simp [paintsL]
  | i + 1, f => by
    have ih := paints_tree near k i (f + 1)
    rw [show i + 1 + f = i + (f + 1) by omega, ← ih, paintsL, List.flatMap_assoc]
    refine flat_congr fun r hr => ?_
    have hl := paintsL_len2 near k i r hr
    rw [ptR, ← hl, longer_tk, List.flatMap_map]
theorem paints_eq (near : List (List Int)) (k n : Nat) : paintsL near k n = ptR near k n [] := by
  have := paints_tree near k n 0
  rw [Nat.add_zero] at this
  rw [← this]
  have e : ptR near k 0 = fun r => [r] := by funext r; rw [ptR]
  rw [e]
  induction paintsL near k n with
  | nil => rfl
  | cons a L ih => rw [List.flatMap_cons, ← ih]; rfl
theorem mxp_mono (r : List Int) : ∀ u : List Int, mxp r ≤ mxp (r ++ u) := by
  intro u
  unfold mxp
  rw [List.foldl_append]
  generalize r.foldl (fun a x => max a (x + 1)) 0 = z
  induction u generalizing z with
  | nil => exact Int.le_refl _
  | cons c u ih =>
    rw [List.foldl_cons]
    exact Int.le_trans (by omega) (ih (max z (c + 1)))
theorem flat_sum {α : Type} (f : α → List (List Int)) (g : List Int → Int) (L : List α) : ((L.flatMap f).map g).sum = (L.map fun a => ((f a).map g).sum).sum := by
  induction L with
  | nil => rfl
  | cons a L ih => rw [List.flatMap_cons, List.map_append, sum_app, ih]; rfl
theorem flat_len {α : Type} (f : α → List (List Int)) (L : List α) : ((L.flatMap f).length : Int) = (L.map fun a => ((f a).length : Int)).sum := by
  induction L with
  | nil => rfl
  | cons a L ih => rw [List.flatMap_cons, List.length_append, List.map_cons, List.sum_cons, ← ih]; omega
theorem sum_mul (c : Int) (L : List Int) : (L.map fun x => c * x).sum = c * L.sum := by
  induction L with
  | nil => simp
  | cons x L ih => simp [ih, Int.mul_add]
theorem sum_const (c : Int) {α : Type} (L : List α) : (L.map fun _ => c).sum = L.length * c := by
  induction L with
  | nil => simp
  | cons x L ih => simp [ih, Int.add_mul]; omega
theorem cl_map {r : List Int} {f : Int → Int} {i : Int} (h0 : 0 ≤ i) (h1 : i < r.length) : cl (r.map f) i = f (cl r i) := by
  have hi : i.toNat < r.length := by omega
  unfold cl
  rw [List.getElem?_map, List.getElem?_eq_getElem hi]
  rfl
/-- a one to one renaming of m numbers by numbers below k -/
structure Inj (m : Int) (k : Nat) (f : Int → Int) : Prop where
  bd : ∀ c, 0 ≤ c → c < m → 0 ≤ f c ∧ f c < k
  inj : ∀ c d, 0 ≤ c → c < m → 0 ≤ d → d < m → f c = f d → c = d
theorem nodup_map_on {f : Int → Int} : ∀ {L : List Int}, (∀ c ∈ L, ∀ d ∈ L, f c = f d → c = d) → L.Nodup → (L.map f).Nodup
  | [], _, _ => List.nodup_nil
  | a :: L, h, nd => by
    rw [List.nodup_cons] at nd
    rw [List.map_cons, List.nodup_cons]
    refine ⟨fun hm => ?_, nodup_map_on (fun c hc d hd => h c (List.mem_cons_of_mem _ hc) d (List.mem_cons_of_mem _ hd)) nd.2⟩
    obtain ⟨b, hb, e⟩ := List.mem_map.mp hm
    exact nd.1 (h a List.mem_cons_self b (List.mem_cons_of_mem _ hb) e.symm ▸ hb)
theorem perm_of_nd {A B : List Int} (h1 : A.Nodup) (h2 : B.Nodup) (h : ∀ x, x ∈ A ↔ x ∈ B) : A.Perm B := (List.perm_ext_iff_of_nodup h1 h2).mpr h
theorem img_perm {m : Nat} {k : Nat} {f : Int → Int} (h : Inj m k f) : (rngI k).Perm ((rngI m).map f ++ (rngI k).filter fun c => !decide (c ∈ (rngI m).map f)) := by
  have nd1 : ((rngI m).map f).Nodup := nodup_map_on (fun c hc d hd e => by
    have h1 := rngI_mem.mp hc
    have h2 := rngI_mem.mp hd
    exact h.inj c d h1.1 h1.2 h2.1 h2.2 e) (rngI_nd m)
  refine perm_of_nd (rngI_nd k) ?_ fun x => ?_
  · rw [List.nodup_append]
    refine ⟨nd1, (rngI_nd k).filter _, fun a ha b hb e => ?_⟩
    subst e
    have := (List.mem_filter.mp hb).2
    simp only [Bool.not_eq_true', decide_eq_false_iff_not] at this
    exact this ha
  · rw [List.mem_append, List.mem_filter]
    constructor
    · intro hx
      by_cases q : x ∈ (rngI m).map f
      · exact .inl q
      · exact .inr ⟨hx, by simpa using q⟩
    · rintro (hx | hx)
      · obtain ⟨c, hc, rfl⟩ := List.mem_map.mp hx
        have h1 := rngI_mem.mp hc
        exact rngI_mem.mpr (h.bd c h1.1 h1.2)
      · exact hx.1
theorem rest_len {m : Nat} {k : Nat} {f : Int → Int} (h : Inj m k f) : ((rngI k).filter fun c => !decide (c ∈ (rngI m).map f)).length + m = k := by
  have := (img_perm h).length_eq
  rw [List.length_append, List.length_map, rngl2, rngl2] at this
  omega
theorem taken_map {near : List (List Int)} (hn : ∀ i, ∀ x ∈ nb near i, 0 ≤ x) (r : List Int) (f : Int → Int) : takenL near (r.map f) = (takenL near r).map f := by
  unfold takenL
  rw [List.length_map, List.map_map]
  refine List.map_congr_left fun x hx => ?_
  obtain ⟨h1, h2⟩ := List.mem_filter.mp hx
  exact cl_map (hn _ x h1) (of_decide_eq_true h2)
theorem taken_mem {near : List (List Int)} (hn : ∀ i, ∀ x ∈ nb near i, 0 ≤ x) {r : List Int} {c : Int} (h : c ∈ takenL near r) : c ∈ r := by
  unfold takenL at h
  obtain ⟨x, hx, rfl⟩ := List.mem_map.mp h
  obtain ⟨h1, h2⟩ := List.mem_filter.mp hx
  exact cl_mem (hn _ x h1) (of_decide_eq_true h2)
/-- how many ways a begun painting ends, by the plain ends -/
theorem ways {near : List (List Int)} (hn : ∀ i, ∀ x ∈ nb near i, 0 ≤ x) {k : Nat} : ∀ (f : Nat) (r : List Int) (φ : Int → Int), (∀ x ∈ r, 0 ≤ x) → Inj (mxp r) k φ →
    ((ptR near k f (r.map φ)).length : Int) = ((ppR near f r).map fun s => fall ((k : Int) - mxp r) (mxp s - mxp r).toNat).sum
  | 0, r, φ, _, _ => by simp [ptR, ppR, fall]
  | f + 1, r, φ, h0, inj => by
    obtain ⟨m, hm⟩ := Int.eq_ofNat_of_zero_le (mxp_nn r)
    rw [hm] at inj
    have hlt : ∀ x ∈ r, x < m := fun x hx => by have := mxp_lt2 h0 x hx; omega
    have hmk : m ≤ k := by have := rest_len inj; omega
    have htb : ∀ c ∈ takenL near r, 0 ≤ c ∧ c < (m : Int) := fun c hc => ⟨h0 c (taken_mem hn hc), hlt c (taken_mem hn hc)⟩
    rw [ptR, flat_len, ppR, flat_sum, hm]
    -- the colours, the old ones first
    have hp := ((img_perm inj).filter fun c => !decide (c ∈ takenL near (r.map φ))).map fun c => ((ptR near k f (r.map φ ++ [c])).length : Int)
    rw [sum_perm hp, List.filter_append, List.map_append, sum_app]
    have hnx : nextP near r = ((rngI m).filter fun c => !decide (c ∈ takenL near r)) ++ [(m : Int)] := by
      unfold nextP
      rw [hm]
      have e : ((m : Int) + 1).toNat = m + 1 := by omega
      rw [e, rngI_succ, List.filter_append, List.filter_cons, if_pos (by
        simp only [Bool.not_eq_true', decide_eq_false_iff_not]
        intro h
        have := (htb _ h).2
        omega)]
      rfl
    rw [hnx, List.map_append, sum_app]
    have hold : (((rngI m).map φ).filter fun c => !decide (c ∈ takenL near (r.map φ))) = ((rngI m).filter fun c => !decide (c ∈ takenL near r)).map φ := by
      rw [List.filter_map]
      congr 1
      refine List.filter_congr fun c hc => ?_
      have hcb := rngI_mem.mp hc
      show (!decide (φ c ∈ takenL near (r.map φ))) = _
      rw [taken_map hn]
      congr 1
      rw [decide_eq_decide, List.mem_map]
      constructor
      · rintro ⟨d, hd, e⟩
        have hb := htb d hd
        rw [← inj.inj d c hb.1 hb.2 hcb.1 hcb.2 e]
        exact hd
      · intro h; exact ⟨c, h, rfl⟩
    congr 1
    · rw [hold, List.map_map]
      congr 1
      refine List.map_congr_left fun c hc => ?_
      have hcb := rngI_mem.mp (List.mem_filter.mp hc).1
      have e : r.map φ ++ [φ c] = (r ++ [c]).map φ := by rw [List.map_append]; rfl
      have em : mxp (r ++ [c]) = m := by rw [mxp_app, hm]; omega
      have ih := ways hn (k := k) f (r ++ [c]) φ (fun x hx => by
        rcases List.mem_append.mp hx with hx | hx
        · exact h0 x hx
        · rw [List.mem_singleton.mp hx]; exact hcb.1) (by rw [em]; exact inj)
      rw [em] at ih
      show ((ptR near k f (r.map φ ++ [φ c])).length : Int) = _
      rw [e, ih]
    · have hrest : (((rngI k).filter fun c => !decide (c ∈ (rngI m).map φ)).filter fun c => !decide (c ∈ takenL near (r.map φ))) = (rngI k).filter fun c => !decide (c ∈ (rngI m).map φ) := by
        rw [List.filter_eq_self]
        intro c hc
        have hc2 := (List.mem_filter.mp hc).2
        simp only [Bool.not_eq_true', decide_eq_false_iff_not] at hc2 ⊢
        rw [taken_map hn]
        intro h
        obtain ⟨d, hd, rfl⟩ := List.mem_map.mp h
        exact hc2 (List.mem_map_of_mem (rngI_mem.mpr (htb d hd)))
      rw [hrest]
      have em : mxp (r ++ [(m : Int)]) = m + 1 := by rw [mxp_app, hm]; omega
      have each : ((rngI k).filter fun c => !decide (c ∈ (rngI m).map φ)).map (fun c => ((ptR near k f (r.map φ ++ [c])).length : Int)) = ((rngI k).filter fun c => !decide (c ∈ (rngI m).map φ)).map fun _ => ((ppR near f (r ++ [(m : Int)])).map fun s => fall ((k : Int) - (m + 1)) (mxp s - (m + 1)).toNat).sum := by
        refine List.map_congr_left fun c hc => ?_
        obtain ⟨hc1, hc2⟩ := List.mem_filter.mp hc
        simp only [Bool.not_eq_true', decide_eq_false_iff_not] at hc2
        have hcb := rngI_mem.mp hc1
        let ψ : Int → Int := fun x => if x = m then c else φ x
        have hψ : ∀ x, x < (m : Int) → ψ x = φ x := fun x hx => if_neg (by omega)
        have hψm : ψ m = c := if_pos rfl
        have e : r.map φ ++ [c] = (r ++ [(m : Int)]).map ψ := by
          rw [List.map_append]
          congr 1
          · exact List.map_congr_left fun x hx => (hψ x (hlt x hx)).symm
          · show [c] = [ψ m]
            rw [hψm]
        have ih := ways hn (k := k) f (r ++ [(m : Int)]) ψ (fun x hx => by
          rcases List.mem_append.mp hx with hx | hx
          · exact h0 x hx
          · rw [List.mem_singleton.mp hx]; omega) (by
          rw [em]
          refine ⟨fun x hx0 hx1 => ?_, fun x y hx0 hx1 hy0 hy1 exy => ?_⟩
          · by_cases q : x = m
            · rw [q, hψm]; exact hcb
            · rw [hψ x (by omega)]; exact inj.bd x hx0 (by omega)
          · by_cases q : x = m
            · by_cases q2 : y = m
              · rw [q, q2]
              · rw [q, hψm, hψ y (by omega)] at exy
                exact absurd (List.mem_map.mpr ⟨y, rngI_mem.mpr ⟨hy0, by omega⟩, exy.symm⟩) hc2
            · by_cases q2 : y = m
              · rw [q2, hψm, hψ x (by omega)] at exy
                exact absurd (List.mem_map.mpr ⟨x, rngI_mem.mpr ⟨hx0, by omega⟩, exy⟩) hc2
              · rw [hψ x (by omega), hψ y (by omega)] at exy
                exact inj.inj x y hx0 (by omega) hy0 (by omega) exy)
        rw [em] at ih
        rw [e, ih]
      rw [each, sum_const]
      have hl := rest_len inj
      have e1 : (((rngI k).filter fun c => !decide (c ∈ (rngI m).map φ)).length : Int) = (k : Int) - m := by omega
      rw [e1, List.map_cons, List.map_nil, List.sum_cons, List.sum_nil, Int.add_zero, ← sum_mul, List.map_map]
      congr 1
      refine List.map_congr_left fun s hs => ?_
      obtain ⟨u, rfl⟩ := mem_ppR f _ s hs
      have := mxp_mono (r ++ [(m : Int)]) u
      rw [em] at this
      show ((k : Int) - m) * fall ((k : Int) - (m + 1)) (mxp (r ++ [(m : Int)] ++ u) - (m + 1)).toNat = _
      have e2 : (mxp (r ++ [(m : Int)] ++ u) - m).toNat = (mxp (r ++ [(m : Int)] ++ u) - (m + 1)).toNat + 1 := by omega
      rw [e2, fall]
      congr 2
      omega
theorem paints_fall {near : List (List Int)} (hn : ∀ i, ∀ x ∈ nb near i, 0 ≤ x) (k n : Nat) : ((paintsL near k n).length : Int) = ((plainL near n).map fun s => fall (k : Int) (mxp s).toNat).sum := by
  have := ways hn (k := k) n [] (fun x => x) (fun x h => by simp at h) ⟨fun c h0 h1 => by have : mxp [] = 0 := rfl; omega, fun c d _ _ _ _ e => e⟩
  rw [List.map_nil, ← paints_eq, ← plain_eq] at this
  have e : mxp [] = 0 := rfl
  rw [this, e]
  simp only [Int.sub_zero]
end Twl

/-! TN4: webs by other names. -/
namespace Twl
open PySem PySem.Spec PyProof.Rows L2
theorem sub_lenG {α : Type} [DecidableEq α] : ∀ {L M : List α}, L.Nodup → (∀ v ∈ L, v ∈ M) → L.length ≤ M.length
  | [], _, _, _ => Nat.zero_le _
  | a :: L, M, nd, h => by
    rw [List.nodup_cons] at nd
    have hm := h a List.mem_cons_self
    have := sub_lenG (L := L) (M := M.erase a) nd.2 fun v hv => (List.mem_erase_of_ne (fun (e : v = a) => nd.1 (by rw [← e]; exact hv))).mpr (h v (List.mem_cons_of_mem _ hv))
    rw [List.length_erase_of_mem hm] at this
    have hp : 0 < M.length := List.length_pos_of_mem hm
    rw [List.length_cons]
    omega
/-! ### pairs in their order -/
def srtP (L : List (Int × Int)) : List (Int × Int) := L.mergeSort (fun a b => leT (encP a) (encP b))
theorem sortX_P (L : List (Int × Int)) : sortX (L.map encP) = (srtP L).map encP :=
  (List.map_mergeSort (r := fun a b => leT (encP a) (encP b)) (s := fun (a b : T) => !lexI b.cod a.cod) fun a _ b _ => rfl).symm
theorem srtP_perm (L : List (Int × Int)) : (srtP L).Perm L := List.mergeSort_perm _ _
theorem ok_P (L : List (Int × Int)) : OkX (L.map encP) := by
  have e : L.map encP = (L.map fun p => [p.1, p.2]).map encI := by rw [List.map_map]; rfl
  rw [e]
  exact ok_I _ fun l hl => by
    obtain ⟨p, _, rfl⟩ := List.mem_map.mp hl
    exact fun h => by cases h
theorem e_sortP (L : List (Int × Int)) : Ev (g1 gSortedX [.lst (L.map encP)]) (.lst ((srtP L).map encP)) := by
  rw [← sortX_P]
  exact e_sortX fun _ => ok_P L
theorem pur_P (p : Int × Int) : (encP p).pur = true := pur_I [p.1, p.2]
theorem encP_inj {p q : Int × Int} (h : encP p = encP q) : p = q := by
  have := encI_inj (a := [p.1, p.2]) (b := [q.1, q.2]) h
  simp only [List.cons.injEq, and_true] at this
  exact Prod.ext this.1 this.2
theorem cod_P (p q : Int × Int) : lexI (encP p).cod (encP q).cod = ltP2 p q := by
  rw [cod_rel (pur_P p) (pur_P q) (.inr (cmp_I [p.1, p.2] [q.1, q.2]))]
  unfold encP ltP2
  simp only [T.rel, T.rels, eqv_int, cI]
  by_cases h1 : p.1 = q.1
  · by_cases h2 : p.2 = q.2
    · simp [h1, h2]
    · simp [h1, h2]
  · simp [h1]
theorem srtP_asc {L : List (Int × Int)} (nd : L.Nodup) : ascP (srtP L) = true := by
  refine pw_ascP ?_
  have h1 := sortX_le (L.map encP)
  rw [sortX_P, List.pairwise_map] at h1
  have h2 : (srtP L).Nodup := (srtP_perm L).nodup_iff.mpr nd
  refine (List.pairwise_and_iff.mpr ⟨h1, h2⟩).imp fun {a b} ⟨h, hne⟩ => ?_
  rw [cod_P] at h
  rw [ltP2_iff]
  have : ¬ ltP2 b a = true := by rw [h]; exact Bool.false_ne_true
  rw [ltP2_iff] at this
  rcases Int.lt_trichotomy a.1 b.1 with q | q | q
  · exact .inl q
  · refine .inr ⟨q, ?_⟩
    rcases Int.lt_trichotomy a.2 b.2 with r | r | r
    · exact r
    · exact absurd (Prod.ext q r) hne
    · exact absurd (.inr ⟨q.symm, r⟩) this
  · exact absurd (.inl q) this
/-! ### names -/
theorem ord_len {n : Nat} {o : List Int} (h : Ordr n o) : o.length = n := h.len
theorem ord_cl {n : Nat} {o : List Int} (h : Ordr n o) {i : Int} (hi : 0 ≤ i ∧ i < (n : Int)) : 0 ≤ cl o i ∧ cl o i < (n : Int) := h.bd _ (cl_mem hi.1 (by rw [h.len]; exact hi.2))
theorem ord_inj {n : Nat} {o : List Int} (h : Ordr n o) {i j : Int} (hi : 0 ≤ i ∧ i < (n : Int)) (hj : 0 ≤ j ∧ j < (n : Int)) (e : cl o i = cl o j) : i = j := by
  have hl := h.len
  have nd := List.pairwise_iff_getElem.mp h.nd
  have e1 : cl o i = o[i.toNat]'(by omega) := by unfold cl; rw [List.getElem?_eq_getElem (by omega)]; rfl
  have e2 : cl o j = o[j.toNat]'(by omega) := by unfold cl; rw [List.getElem?_eq_getElem (by omega)]; rfl
  rcases Int.lt_trichotomy i j with q | q | q
  · exact absurd (e1.symm.trans (e.trans e2)) (nd i.toNat j.toNat (by omega) (by omega) (by omega))
  · exact q
  · exact absurd (e2.symm.trans (e.symm.trans e1)) (nd j.toNat i.toNat (by omega) (by omega) (by omega))
theorem ord_sur {n : Nat} {o : List Int} (h : Ordr n o) {v : Int} (hv : 0 ≤ v ∧ v < (n : Int)) : ∃ i : Int, (0 ≤ i ∧ i < (n : Int)) ∧ cl o i = v := by
  obtain ⟨i, h0, h1, e⟩ := cl_of_mem (h.all hv)
  exact ⟨i, ⟨h0, by rw [h.len] at h1; exact h1⟩, e⟩
/-- where a name stands -/
def whr (n : Nat) (o : List Int) (v : Int) : Int := ((rngI n).find? fun i => decide (cl o i = v)).getD 0
theorem whr_ok {n : Nat} {o : List Int} (h : Ordr n o) {v : Int} (hv : 0 ≤ v ∧ v < (n : Int)) : (0 ≤ whr n o v ∧ whr n o v < (n : Int)) ∧ cl o (whr n o v) = v := by
  unfold whr
  cases e : (rngI n).find? fun i => decide (cl o i = v) with
  | none =>
    obtain ⟨i, hi, ei⟩ := ord_sur h hv
    have := List.find?_eq_none.mp e i (rngI_mem.mpr hi)
    simp [ei] at this
  | some i =>
    have h1 := List.mem_of_find?_eq_some e
    have h2 := List.find?_some e
    exact ⟨rngI_mem.mp h1, of_decide_eq_true h2⟩
theorem whr_cl {n : Nat} {o : List Int} (h : Ordr n o) {i : Int} (hi : 0 ≤ i ∧ i < (n : Int)) : whr n o (cl o i) = i := by
  obtain ⟨h1, h2⟩ := whr_ok h (ord_cl h hi)
  exact ord_inj h h1 hi h2
/-! ### the web by other names -/
def renP (o : List Int) (p : Int × Int) : Int × Int := pairP (cl o p.1) (cl o p.2)
def renL (o : List Int) (ps : List (Int × Int)) : List (Int × Int) := srtP (ps.map (renP o))
theorem pairP_lo (a b : Int) : (pairP a b).1 ≤ (pairP a b).2 ∧ ((pairP a b).1 = a ∧ (pairP a b).2 = b ∨ (pairP a b).1 = b ∧ (pairP a b).2 = a) := by
  unfold pairP
  dsimp only
  by_cases h : b < a
  · have h2 : ¬ b > a := by omega
    rw [if_pos h, if_neg h2]
    omega
  · rw [if_neg h]
    by_cases h2 : b > a
    · rw [if_pos h2]
      omega
    · rw [if_neg h2]
      omega
section
variable {n : Nat} {ps : List (Int × Int)} {o : List Int}
theorem renP_inj (ho : ps.all (okP n) = true) (h : Ordr n o) : ∀ p ∈ ps, ∀ q ∈ ps, renP o p = renP o q → p = q := by
  intro p hp q hq e
  have hp := tie_bd ho hp
  have hq := tie_bd ho hq
  have h1 := pairP_lo (cl o p.1) (cl o p.2)
  have h2 := pairP_lo (cl o q.1) (cl o q.2)
  unfold renP at e
  rw [e] at h1
  obtain ⟨_, h1⟩ := h1
  obtain ⟨_, h2⟩ := h2
  have same : (cl o p.1 = cl o q.1 ∧ cl o p.2 = cl o q.2) ∨ (cl o p.1 = cl o q.2 ∧ cl o p.2 = cl o q.1) := by omega
  rcases same with ⟨a, b⟩ | ⟨a, b⟩
  · exact Prod.ext (ord_inj h (by omega) (by omega) a) (ord_inj h (by omega) (by omega) b)
  · have e1 := ord_inj h (i := p.1) (j := q.2) (by omega) (by omega) a
    have e2 := ord_inj h (i := p.2) (j := q.1) (by omega) (by omega) b
    omega
theorem ps_nodup (ha : ascP ps = true) : ps.Nodup := (ascP_pw ha).imp fun {a b} h e => by
  subst e
  rw [ltP2_iff] at h
  omega
theorem map_nd {α β : Type} {f : α → β} : ∀ {L : List α}, (∀ a ∈ L, ∀ b ∈ L, f a = f b → a = b) → L.Nodup → (L.map f).Nodup
  | [], _, _ => List.nodup_nil
  | a :: L, h, nd => by
    rw [List.nodup_cons] at nd
    rw [List.map_cons, List.nodup_cons]
    refine ⟨fun hm => ?_, map_nd (fun c hc d hd => h c (List.mem_cons_of_mem _ hc) d (List.mem_cons_of_mem _ hd)) nd.2⟩
    obtain ⟨b, hb, e⟩ := List.mem_map.mp hm
    exact nd.1 (h a List.mem_cons_self b (List.mem_cons_of_mem _ hb) e.symm ▸ hb)
theorem ren_mem {q : Int × Int} : q ∈ renL o ps ↔ ∃ p ∈ ps, renP o p = q := by
  unfold renL
  rw [(srtP_perm _).mem_iff, List.mem_map]
theorem ren_ok (ho : ps.all (okP n) = true) (h : Ordr n o) : (renL o ps).all (okP n) = true := List.all_eq_true.mpr fun q hq => by
  obtain ⟨p, hp, rfl⟩ := ren_mem.mp hq
  have hb := tie_bd ho hp
  have h1 := ord_cl h (i := p.1) (by omega)
  have h2 := ord_cl h (i := p.2) (by omega)
  have hne : cl o p.1 ≠ cl o p.2 := fun e => by have := ord_inj h (i := p.1) (j := p.2) (by omega) (by omega) e; omega
  have := pairP_lo (cl o p.1) (cl o p.2)
  rw [okP_iff2]
  unfold renP
  omega
theorem ren_asc (ho : ps.all (okP n) = true) (ha : ascP ps = true) (h : Ordr n o) : ascP (renL o ps) = true := srtP_asc (map_nd (renP_inj ho h) (ps_nodup ha))
/-- a painting of the web by other names, told of the first one -/
def cmpR (n : Nat) (o row : List Int) : List Int := (rngI n).map fun v => cl row (cl o v)
theorem cmpR_cl {row : List Int} {v : Int} (hv : 0 ≤ v ∧ v < (n : Int)) : cl (cmpR n o row) v = cl row (cl o v) := by
  unfold cmpR
  rw [cl_map hv.1 (by rw [rngl2]; exact hv.2), cl_rng hv.1 hv.2]
theorem cmpR_len {row : List Int} : (cmpR n o row).length = n := by simp [cmpR, rngl2]
theorem pt_ren (ho : ps.all (okP n) = true) (h : Ordr n o) {k : Int} {row : List Int} (pt : Pt n (renL o ps) k row) : Pt n ps k (cmpR n o row) := by
  refine ⟨cmpR_len, fun x hx => ?_, fun p hp => ?_⟩
  · obtain ⟨v, hv, rfl⟩ := List.mem_map.mp hx
    have := ord_cl h (rngI_mem.mp hv)
    exact pt.bd _ (cl_mem this.1 (by rw [pt.len]; exact this.2))
  · have hb := tie_bd ho hp
    rw [cmpR_cl (by omega), cmpR_cl (by omega)]
    have := pt.ne _ (ren_mem.mpr ⟨p, hp, rfl⟩)
    have hl := pairP_lo (cl o p.1) (cl o p.2)
    unfold renP at this
    rcases hl.2 with ⟨a, b⟩ | ⟨a, b⟩
    · rw [a, b] at this; exact this
    · rw [a, b] at this; exact fun e => this e.symm
/-- and back -/
def bckR (n : Nat) (o row : List Int) : List Int := (rngI n).map fun v => cl row (whr n o v)
theorem bckR_cl {row : List Int} {v : Int} (hv : 0 ≤ v ∧ v < (n : Int)) : cl (bckR n o row) v = cl row (whr n o v) := by
  unfold bckR
  rw [cl_map hv.1 (by rw [rngl2]; exact hv.2), cl_rng hv.1 hv.2]
theorem bckR_len {row : List Int} : (bckR n o row).length = n := by simp [bckR, rngl2]
theorem pt_bck (ho : ps.all (okP n) = true) (h : Ordr n o) {k : Int} {row : List Int} (pt : Pt n ps k row) : Pt n (renL o ps) k (bckR n o row) := by
  refine ⟨bckR_len, fun x hx => ?_, fun q hq => ?_⟩
  · obtain ⟨v, hv, rfl⟩ := List.mem_map.mp hx
    have := (whr_ok h (rngI_mem.mp hv)).1
    exact pt.bd _ (cl_mem this.1 (by rw [pt.len]; exact this.2))
  · have hqb := tie_bd (ren_ok ho h) hq
    obtain ⟨p, hp, rfl⟩ := ren_mem.mp hq
    have hb := tie_bd ho hp
    rw [bckR_cl (by omega), bckR_cl (by omega)]
    have hl := pairP_lo (cl o p.1) (cl o p.2)
    unfold renP
    have w1 := whr_cl h (i := p.1) (by omega)
    have w2 := whr_cl h (i := p.2) (by omega)
    rcases hl.2 with ⟨a, b⟩ | ⟨a, b⟩
    · rw [a, b, w1, w2]; exact pt.ne p hp
    · rw [a, b, w1, w2]; exact fun e => pt.ne p hp e.symm
theorem bck_cmp (h : Ordr n o) {row : List Int} (hl : row.length = n) : bckR n o (cmpR n o row) = row := by
  refine row_ext (by rw [bckR_len, hl]) fun i h0 h1 => ?_
  rw [bckR_len] at h1
  have hw := whr_ok h (v := i) ⟨h0, h1⟩
  rw [bckR_cl ⟨h0, h1⟩, cmpR_cl hw.1, hw.2]
theorem cmp_bck (h : Ordr n o) {row : List Int} (hl : row.length = n) : cmpR n o (bckR n o row) = row := by
  refine row_ext (by rw [cmpR_len, hl]) fun i h0 h1 => ?_
  rw [cmpR_len] at h1
  have hw := ord_cl h (i := i) ⟨h0, h1⟩
  rw [cmpR_cl ⟨h0, h1⟩, bckR_cl hw, whr_cl h ⟨h0, h1⟩]
theorem ren_paints (ho : ps.all (okP n) = true) (ha : ascP ps = true) (h : Ordr n o) (k : Nat) : (paintsL (nearS n (renL o ps)) k n).length = (paintsL (nearS n ps) k n).length := by
  have ho' := ren_ok ho h
  have ha' := ren_asc ho ha h
  refine Nat.le_antisymm ?_ ?_
  · rw [← List.length_map (f := cmpR n o)]
    refine sub_lenG (map_nd (fun a hma b hmb e => ?_) (paints_nd _ _ _)) fun r hr => ?_
    · rw [← bck_cmp h ((paints_mem ho' ha').mp hma).len, e, bck_cmp h ((paints_mem ho' ha').mp hmb).len]
    · obtain ⟨s, hs, rfl⟩ := List.mem_map.mp hr
      exact (paints_mem ho ha).mpr (pt_ren ho h ((paints_mem ho' ha').mp hs))
  · rw [← List.length_map (f := bckR n o)]
    refine sub_lenG (map_nd (fun a hma b hmb e => ?_) (paints_nd _ _ _)) fun r hr => ?_
    · rw [← cmp_bck h ((paints_mem ho ha).mp hma).len, e, cmp_bck h ((paints_mem ho ha).mp hmb).len]
    · obtain ⟨s, hs, rfl⟩ := List.mem_map.mp hr
      exact (paints_mem ho' ha').mpr (pt_bck ho h ((paints_mem ho ha).mp hs))
end
/-! ### plain paintings counted -/
/-- how many plain paintings have j colours -/
def cntP (near : List (List Int)) (n : Nat) (j : Int) : Int := ((plainL near n).filter fun r => decide (mxp r = j)).length
section
variable {n : Nat} {ps : List (Int × Int)} {o : List Int}
theorem near_nn (ho : ps.all (okP n) = true) (ha : ascP ps = true) : ∀ i, ∀ x ∈ nb (nearS n ps) i, 0 ≤ x := fun i x hx => (nbr_bd ho ha hx).1
theorem paints_cnt (ho : ps.all (okP n) = true) (ha : ascP ps = true) (k N : Nat) (hN : n < N ∨ k < N) : ((paintsL (nearS n ps) k n).length : Int) = ((rngI N).map fun j => cntP (nearS n ps) n j * fall (k : Int) j.toNat).sum := by
  rw [paints_fall (near_nn ho ha)]
  refine sum_by mxp (fun j => fall (k : Int) j.toNat) N _ fun r hr => ?_
  have hm := (plain_pn ho ha n (Nat.le_refl _) r hr).mx
  have h0 := mxp_nn r
  refine ⟨h0, ?_⟩
  by_cases q : mxp r < N
  · exact .inl q
  · right
    obtain ⟨m, e⟩ := Int.eq_ofNat_of_zero_le h0
    rw [e, Int.toNat_natCast]
    exact fall_zero m k (by omega)
theorem ren_cnt (ho : ps.all (okP n) = true) (ha : ascP ps = true) (h : Ordr n o) : ∀ j : Nat, cntP (nearS n (renL o ps)) n j = cntP (nearS n ps) n j := by
  intro j
  induction j using Nat.strongRecOn with
  | ind k ih =>
    have h1 := paints_cnt ho ha k (k + 1) (.inr (by omega))
    have h2 := paints_cnt (ren_ok ho h) (ren_asc ho ha h) k (k + 1) (.inr (by omega))
    rw [ren_paints ho ha h, h1, rngI_succ, List.map_append, List.map_append, sum_app, sum_app] at h2
    have e : ((rngI k).map fun j => cntP (nearS n (renL o ps)) n j * fall (k : Int) j.toNat) = (rngI k).map fun j => cntP (nearS n ps) n j * fall (k : Int) j.toNat := by
      refine List.map_congr_left fun j hj => ?_
      have hb := rngI_mem.mp hj
      obtain ⟨i, rfl⟩ := Int.eq_ofNat_of_zero_le hb.1
      rw [ih i (by omega)]
    rw [e] at h2
    simp only [List.map_cons, List.map_nil, List.sum_cons, List.sum_nil, Int.add_zero, Int.toNat_natCast] at h2
    have h3 := Int.add_left_cancel h2
    exact (Int.eq_of_mul_eq_mul_right (Int.ne_of_gt (fall_pos k)) h3).symm
end
end Twl

/-! the walk of law_k05_whole_paintings_counted (printed by gen.py) -/
namespace Wk05
open PySem PySem.Spec PyProof.Rows L2 Twl
def top (i : Nat) : Stmt := PySem.Challenge.pw_colourhouse_k05_whole_paintings_counted.main.body.getD i (.Pass ⟨0, 0, 0, 0⟩)
abbrev s_is_integer : Stmt := top 1
abbrev s_is_within : Stmt := top 2
abbrev s_is_sized : Stmt := top 3
abbrev s_is_lot : Stmt := top 4
abbrev s_are_all : Stmt := top 5
abbrev s_are_ties : Stmt := top 14
abbrev s_is_web : Stmt := top 15
abbrev s_check_web : Stmt := top 16
abbrev s_near_of : Stmt := top 17
abbrev s_raw_renamed : Stmt := top 18
abbrev s_renamed : Stmt := top 19
abbrev s_next_colours : Stmt := top 20
abbrev s_check_colours : Stmt := top 22
abbrev s_all_in_turn : Stmt := top 23
abbrev s_raw_counts : Stmt := top 24
abbrev s_falling_product : Stmt := top 25
abbrev s_raw_many : Stmt := top 26
abbrev s_how_many_paintings : Stmt := top 27
abbrev s_plain_count : Stmt := top 28
abbrev s_all_plain : Stmt := top 29
abbrev s__law_hand : Stmt := top 31
abbrev s__law_draw : Stmt := top 32
abbrev s__law_any : Stmt := top 33
abbrev s__law_web : Stmt := top 34
abbrev s__law_near : Stmt := top 35
abbrev s__law_no_web : Stmt := top 36
abbrev s__law_paintings : Stmt := top 37
abbrev s__law_plain : Stmt := top 38
abbrev s__law_names : Stmt := top 39
abbrev s__law_word : Stmt := top 40
abbrev s_law : Stmt := top 41
def names : List Str := ["NoCount", "NoNames", "NoWeb", "TooMany"]
def tests : List Str := ["TooMany", "ColourError", "NoCount", "NoWeb"]
def subT : List (Str × List Str) := [("NoCount", ["NoCount", "ColourError", "ValueError"]), ("NoNames", ["NoNames", "ColourError", "ValueError"]), ("NoWeb", ["NoWeb", "ColourError", "ValueError"]), ("TooMany", ["TooMany", "ColourError", "ValueError"])]
def sub (x y : Str) : Bool := match subT.lookup x with
  | some l => l.contains y
  | none => false
def N_is_integer : List Str := ["thing"]
theorem nd_is_integer : N_is_integer.Nodup := by decide
def m_is_integer : SM := sRet (mAndV (mCall (g2 gIsi) (mCons (mVarB 0) (mCons (mCon (.ty "int")) (mNil)))) (mNotV (mCall (g2 gIsi) (mCons (mVarB 0) (mCons (mCon (.ty "bool")) (mNil))))))
def den_is_integer : List T → M T := fnDen 1 m_is_integer
def N_is_within : List Str := ["thing", "low", "high"]
theorem nd_is_within : N_is_within.Nodup := by decide
def m_is_within : SM := sRet (mAndV ((fun env => bnd ((mCons (mVar 0) (mNil)) env) fun ts => gd (ts.length = 1) (den_is_integer ts))) (mChain (gRel .LtE) (gRel .LtE) (mVarB 1) (mVarB 0) (mVarB 2)))
def den_is_within : List T → M T := fnDen 3 m_is_within
def N_is_sized : List Str := ["thing", "low", "high"]
theorem nd_is_sized : N_is_sized.Nodup := by decide
def m_is_sized : SM := sRet (mAndV (mCall (g2 gIsi) (mCons (mVarB 0) (mCons (mCon (.ty "tuple")) (mNil)))) (mChain (gRel .LtE) (gRel .LtE) (mVarB 1) (mCall (g1 gLen) (mCons (mVarB 0) (mNil))) (mVarB 2)))
def den_is_sized : List T → M T := fnDen 3 m_is_sized
def N_is_lot : List Str := ["thing", "many", "one", "other"]
theorem nd_is_lot : N_is_lot.Nodup := by decide
def m_is_lot : SM := sSeq (sIf (mOr (mNot (mB (mCall (g2 gIsi) (mCons (mVarB 0) (mCons (mCon (.ty "tuple")) (mNil)))))) (mNot (mB (mCall (g1 gAll) (mCons (mLc (mSrc (mVarB 0)) (gN 2) (fun _ => ret true) ((fun env => bnd ((mCons (mVar 2) (mCons (mCon (.int 0)) (mCons (mBin gSub (mVarB 1) (mCon (.int 1))) (mNil)))) env) fun ts => gd (ts.length = 3) (den_is_within ts))) [2]) (mNil)))))) (sRet (mCon (.bl false))) (sNil)) (sRet (mCall (g1 gAll) (mCons (mLc (mArg gZp (mCons (mVarB 0) (mCons (mSl (mVarB 0) (mPart (mCon (.int 1))) (mNoPart)) (mNil)))) (gTp (gsCons (gN 2) (gsCons (gN 3) (gsNil)))) (fun _ => ret true) (mBin (gRel .Lt) (mVarB 2) (mVarB 3)) [2, 3]) (mNil))))
def den_is_lot : List T → M T := fnDen 4 m_is_lot
def N_are_all : List Str := ["thing", "many", "one"]
theorem nd_are_all : N_are_all.Nodup := by decide
def m_are_all : SM := sSeq (sIf (mOr (mNot (mB ((fun env => bnd ((mCons (mVar 0) (mCons (mVar 1) (mCons (mVar 1) (mNil)))) env) fun ts => gd (ts.length = 3) (den_is_sized ts))))) (mNot (mB (mCall (g1 gAll) (mCons (mLc (mSrc (mVarB 0)) (gN 2) (fun _ => ret true) ((fun env => bnd ((mCons (mVar 2) (mCons (mCon (.int 0)) (mCons (mBin gSub (mVarB 1) (mCon (.int 1))) (mNil)))) env) fun ts => gd (ts.length = 3) (den_is_within ts))) [2]) (mNil)))))) (sRet (mCon (.bl false))) (sNil)) (sRet (mBin gEq (mCall (g1 gSortedT) (mCons (mVarB 0) (mNil))) (mListR1 (mVar 1))))
def den_are_all : List T → M T := fnDen 3 m_are_all
def N_are_ties : List Str := ["n", "thing", "one", "other", "pair"]
theorem nd_are_ties : N_are_ties.Nodup := by decide
def m_are_ties : SM := sSeq (sIf (mOr (mNot (mB (mCall (g2 gIsi) (mCons (mVarB 1) (mCons (mCon (.ty "tuple")) (mNil)))))) (mNot (mB (mCall (g1 gAll) (mCons (mLc (mSrc (mVarB 1)) (gN 4) (fun _ => ret true) (mAndV ((fun env => bnd ((mCons (mVar 4) (mCons (mCon (.int 2)) (mCons (mCon (.int 2)) (mNil)))) env) fun ts => gd (ts.length = 3) (den_is_sized ts))) ((fun env => bnd ((mCons (mVar 4) (mCons (mVar 0) (mNil))) env) fun ts => gd (ts.length = 2) (den_is_lot ts)))) [4]) (mNil)))))) (sRet (mCon (.bl false))) (sNil)) (sRet (mCall (g1 gAll) (mCons (mLc (mArg gZp (mCons (mVarB 1) (mCons (mSl (mVarB 1) (mPart (mCon (.int 1))) (mNoPart)) (mNil)))) (gTp (gsCons (gN 2) (gsCons (gN 3) (gsNil)))) (fun _ => ret true) (mBin (gRel .Lt) (mVarB 2) (mVarB 3)) [2, 3]) (mNil))))
def den_are_ties : List T → M T := fnDen 5 m_are_ties
def N_is_web : List Str := ["thing"]
theorem nd_is_web : N_is_web.Nodup := by decide
def m_is_web : SM := sSeq (sIf (mOr (mNot (mB ((fun env => bnd ((mCons (mVar 0) (mCons (mCon (.int 2)) (mCons (mCon (.int 2)) (mNil)))) env) fun ts => gd (ts.length = 3) (den_is_sized ts))))) (mNot (mB ((fun env => bnd ((mCons (mBin gIx (mVarB 0) (mCon (.int 0))) (mCons (mCon (.int 1)) (mCons (mCon (.int 8)) (mNil)))) env) fun ts => gd (ts.length = 3) (den_is_within ts)))))) (sRet (mCon (.bl false))) (sNil)) (sRet ((fun env => bnd ((mCons (mBin gIx (mVarB 0) (mCon (.int 0))) (mCons (mBin gIx (mVarB 0) (mCon (.int 1))) (mNil))) env) fun ts => gd (ts.length = 2) (den_are_ties ts))))
def den_is_web : List T → M T := fnDen 1 m_is_web
def N_check_web : List Str := ["web"]
theorem nd_check_web : N_check_web.Nodup := by decide
def m_check_web : SM := sIf (mNot (mB ((fun env => bnd ((mCons (mVar 0) (mNil)) env) fun ts => gd (ts.length = 1) (den_is_web ts))))) (sRaise0 "NoWeb") (sNil)
def den_check_web : List T → M T := fnDen 1 m_check_web
def N_near_of : List Str := ["web", "found", "n", "ties", "a", "b", "place", "near"]
theorem nd_near_of : N_near_of.Nodup := by decide
def m_near_of : SM := sSeq (sAsg (gTp (gsCons (gN 2) (gsCons (gN 3) (gsNil)))) (mVar 0)) (sSeq (sSet 1 2 (mLc (mArg gRng1 (mCons (mVar 2) (mNil))) (gN 6) (fun _ => ret true) (mLst (mNil)) [6])) (sSeq (sFor (mSrc (mVar 3)) (gTp (gsCons (gN 4) (gsCons (gN 5) (gsNil)))) (sSeq (sMt2 1 (mVar 4) fApp (mCons (mVar 5) (mNil))) (sMt2 1 (mVar 5) fApp (mCons (mVar 4) (mNil))))) (sSeq (sFrz 1) (sRet (mLc (mSrc (mVarB 1)) (gN 7) (fun _ => ret true) (mCall (g1 gSorted) (mCons (mVarB 7) (mNil))) [7])))))
def den_near_of : List T → M T := fnDen 8 m_near_of
def N_raw_renamed : List Str := ["web", "names", "ties", "a", "b"]
theorem nd_raw_renamed : N_raw_renamed.Nodup := by decide
def m_raw_renamed : SM := sSeq (sSet 2 0 (mLc (mSrc (mBin gIx (mVarB 0) (mCon (.int 1)))) (gTp (gsCons (gN 3) (gsCons (gN 4) (gsNil)))) (fun _ => ret true) (mTup (mCons (mCall (g2 gMin2) (mCons (mBin gIx (mVarB 1) (mVarB 3)) (mCons (mBin gIx (mVarB 1) (mVarB 4)) (mNil)))) (mCons (mCall (g2 gMax2) (mCons (mBin gIx (mVarB 1) (mVarB 3)) (mCons (mBin gIx (mVarB 1) (mVarB 4)) (mNil)))) (mNil)))) [3, 4])) (sRet (mTup (mCons (mBin gIx (mVarB 0) (mCon (.int 0))) (mCons (mCall (g1 gTuple) (mCons (mCall (g1 gSortedX) (mCons (mVarB 2) (mNil))) (mNil))) (mNil)))))
def den_raw_renamed : List T → M T := fnDen 5 m_raw_renamed
def N_renamed : List Str := ["web", "names"]
theorem nd_renamed : N_renamed.Nodup := by decide
def m_renamed : SM := sSeq (sDrop ((fun env => bnd ((mCons (mVar 0) (mNil)) env) fun ts => gd (ts.length = 1) (den_check_web ts)))) (sSeq (sIf (mNot (mB ((fun env => bnd ((mCons (mVar 1) (mCons (mBin gIx (mVarB 0) (mCon (.int 0))) (mNil))) env) fun ts => gd (ts.length = 2) (den_are_all ts))))) (sRaise0 "NoNames") (sNil)) (sRet ((fun env => bnd ((mCons (mVar 0) (mCons (mVar 1) (mNil))) env) fun ts => gd (ts.length = 2) (den_raw_renamed ts)))))
def den_renamed : List T → M T := fnDen 2 m_renamed
def N_next_colours : List Str := ["near", "painting", "k", "used", "taken", "other", "colour"]
theorem nd_next_colours : N_next_colours.Nodup := by decide
def m_next_colours : SM := sSeq (sSet 3 0 (mIf (mB (mBin (gRel .Gt) (mCall (g1 gLen) (mCons (mVarB 1) (mNil))) (mCon (.int 0)))) (mBin gAdd (mCall (g1 gMaxX) (mCons (mVarB 1) (mNil))) (mCon (.int 1))) (mCon (.int 0)))) (sSeq (sSet 4 0 (mLc (mSrc (mBin gIx (mVarB 0) (mCall (g1 gLen) (mCons (mVarB 1) (mNil))))) (gN 5) (mB (mBin (gRel .Lt) (mVarB 5) (mCall (g1 gLen) (mCons (mVarB 1) (mNil))))) (mBin gIx (mVarB 1) (mVarB 5)) [5])) (sRet (mLc (mArg gRng1 (mCons (mCall (g2 gMin2) (mCons (mBin gAdd (mVarB 3) (mCon (.int 1))) (mCons (mVarB 2) (mNil)))) (mNil))) (gN 6) (mB (mBin gNotIn (mVarB 6) (mVarB 4))) (mVar 6) [6])))
def den_next_colours : List T → M T := fnDen 7 m_next_colours
def N_check_colours : List Str := ["web", "k"]
theorem nd_check_colours : N_check_colours.Nodup := by decide
def m_check_colours : SM := sSeq (sDrop ((fun env => bnd ((mCons (mVar 0) (mNil)) env) fun ts => gd (ts.length = 1) (den_check_web ts)))) (sIf (mNot (mB ((fun env => bnd ((mCons (mVar 1) (mCons (mCon (.int 1)) (mCons (mCon (.int 8)) (mNil)))) env) fun ts => gd (ts.length = 3) (den_is_within ts))))) (sRaise0 "NoCount") (sNil))
def den_check_colours : List T → M T := fnDen 2 m_check_colours
def N_all_in_turn : List Str := ["web", "place", "near", "found", "longer", "painting", "colour"]
theorem nd_all_in_turn : N_all_in_turn.Nodup := by decide
def m_all_in_turn : SM := sSeq (sPar [2, 3] [0, 0] (mCons ((fun env => bnd ((mCons (mVar 0) (mNil)) env) fun ts => gd (ts.length = 1) (den_near_of ts))) (mCons (mLst (mCons (mTup (mNil)) (mNil))) (mNil)))) (sSeq (sFor (mArg gRng1 (mCons (mBin gIx (mVarB 0) (mCon (.int 0))) (mNil))) (gN 1) (sSeq (sSet 4 1 (mLst (mNil))) (sSeq (sFor (mSrc (mVar 3)) (gN 5) (sMt 4 fExt (mCons (mLc (mSrc ((fun env => bnd ((mCons (mVar 2) (mCons (mVar 5) (mCons (mCon (.int 8)) (mNil)))) env) fun ts => gd (ts.length = 3) (den_next_colours ts)))) (gN 6) (fun _ => ret true) (mBin gAdd (mVarB 5) (mTup (mCons (mVar 6) (mNil)))) [6]) (mNil)))) (sSeq (sFrz 4) (sSet 3 0 (mVar 4)))))) (sRet (mVar 3)))
def den_all_in_turn : List T → M T := fnDen 7 m_all_in_turn
def N_raw_counts : List Str := ["web", "found", "painting"]
theorem nd_raw_counts : N_raw_counts.Nodup := by decide
def m_raw_counts : SM := sSeq (sSet 1 1 (mBin gMul (mLst (mCons (mCon (.int 0)) (mNil))) (mBin gAdd (mCon (.int 8)) (mCon (.int 1))))) (sSeq (sFor (mSrc ((fun env => bnd ((mCons (mVar 0) (mNil)) env) fun ts => gd (ts.length = 1) (den_all_in_turn ts)))) (gN 2) (sAugSt 1 gIAdd (mBin gAdd (mCall (g1 gMaxX) (mCons (mVarB 2) (mNil))) (mCon (.int 1))) (mCon (.int 1)))) (sSeq (sFrz 1) (sRet (mVar 1))))
def den_raw_counts : List T → M T := fnDen 3 m_raw_counts
def N_falling_product : List Str := ["x", "many", "found", "step"]
theorem nd_falling_product : N_falling_product.Nodup := by decide
def m_falling_product : SM := sSeq (sSet 2 0 (mCon (.int 1))) (sSeq (sFor (mArg gRng1 (mCons (mVar 1) (mNil))) (gN 3) (sSet 2 0 (mBin gMul (mVarB 2) (mBin gSub (mVarB 0) (mVarB 3))))) (sRet (mVar 2)))
def den_falling_product : List T → M T := fnDen 4 m_falling_product
def N_raw_many : List Str := ["web", "k", "used", "many"]
theorem nd_raw_many : N_raw_many.Nodup := by decide
def m_raw_many : SM := sRet (mCall (g1 gSum) (mCons (mLc (mArg gEn1 (mCons ((fun env => bnd ((mCons (mVar 0) (mNil)) env) fun ts => gd (ts.length = 1) (den_raw_counts ts))) (mNil))) (gTp (gsCons (gN 2) (gsCons (gN 3) (gsNil)))) (fun _ => ret true) (mBin gMul (mVarB 3) ((fun env => bnd ((mCons (mVar 1) (mCons (mVar 2) (mNil))) env) fun ts => gd (ts.length = 2) (den_falling_product ts)))) [2, 3]) (mNil)))
def den_raw_many : List T → M T := fnDen 4 m_raw_many
def N_how_many_paintings : List Str := ["web", "k"]
theorem nd_how_many_paintings : N_how_many_paintings.Nodup := by decide
def m_how_many_paintings : SM := sSeq (sDrop ((fun env => bnd ((mCons (mVar 0) (mCons (mVar 1) (mNil))) env) fun ts => gd (ts.length = 2) (den_check_colours ts)))) (sRet ((fun env => bnd ((mCons (mVar 0) (mCons (mVar 1) (mNil))) env) fun ts => gd (ts.length = 2) (den_raw_many ts))))
def den_how_many_paintings : List T → M T := fnDen 2 m_how_many_paintings
def N_plain_count : List Str := ["web", "k"]
theorem nd_plain_count : N_plain_count.Nodup := by decide
def m_plain_count : SM := sSeq (sDrop ((fun env => bnd ((mCons (mVar 0) (mCons (mVar 1) (mNil))) env) fun ts => gd (ts.length = 2) (den_check_colours ts)))) (sRet (mBin gIx ((fun env => bnd ((mCons (mVar 0) (mNil)) env) fun ts => gd (ts.length = 1) (den_raw_counts ts))) (mVarB 1)))
def den_plain_count : List T → M T := fnDen 2 m_plain_count
def N_all_plain : List Str := ["web", "k", "painting"]
theorem nd_all_plain : N_all_plain.Nodup := by decide
def m_all_plain : SM := sSeq (sDrop ((fun env => bnd ((mCons (mVar 0) (mCons (mVar 1) (mNil))) env) fun ts => gd (ts.length = 2) (den_check_colours ts)))) (sRet (mCall (g1 gTuple) (mCons (mLc (mSrc ((fun env => bnd ((mCons (mVar 0) (mNil)) env) fun ts => gd (ts.length = 1) (den_all_in_turn ts)))) (gN 2) (mB (mBin gEq (mBin gAdd (mCall (g1 gMaxX) (mCons (mVarB 2) (mNil))) (mCon (.int 1))) (mVarB 1))) (mVar 2) [2]) (mNil))))
def den_all_plain : List T → M T := fnDen 3 m_all_plain
def N__law_hand : List Str := ["script", "cells", "cell"]
theorem nd__law_hand : N__law_hand.Nodup := by decide
def m__law_hand : SM := sSeq (sSet 1 0 (mLc (mScr 0 63) (gN 2) (fun _ => ret true) (mCall (g1 gAbs) (mCons (mCall (g1 gInt) (mCons (mVarB 2) (mNil))) (mNil))) [2])) (sRet (mLst (mCons (mVar 1) (mCons (mCon (.int 0)) (mCons (mCon (.int 0)) (mCons (mBin gAdd (mCon (.int 61)) (mBin gMul (mCon (.int 7)) (mCall (g1 gLen) (mCons (mVarB 1) (mNil))))) (mCons (mCon (.int 0)) (mNil))))))))
def N__law_draw : List Str := ["hand", "many", "number", "cell", "digit"]
theorem nd__law_draw : N__law_draw.Nodup := by decide
def m__law_draw : SM := sSeq (sIf (mAnd (mB (mBin gEq (mBin gIx (mVarH 0) (mCon (.int 2))) (mCon (.int 0)))) (mB (mBin (gRel .Lt) (mBin gIx (mVarH 0) (mCon (.int 1))) (mCall (g1 gLen) (mCons (mBin gIx (mVarH 0) (mCon (.int 0))) (mNil)))))) (sSeq (sSet 3 0 (mBin gIx (mBin gIx (mVarH 0) (mCon (.int 0))) (mBin gIx (mVarH 0) (mCon (.int 1))))) (sSeq (sStH 0 (mBin gAdd (mBin gIx (mVarH 0) (mCon (.int 1))) (mCon (.int 1))) (mCon (.int 1))) (sSeq (sStH 0 (mBin gMod (mCall (g1 gInt) (mCons (mBin gAdd (mBin gAdd (mBin gMul (mBin gIx (mVarH 0) (mCon (.int 3))) (mCon (.int 69621))) (mBin gMul (mVarB 3) (mCon (.int 40692)))) (mCon (.int 31))) (mNil))) (mCon (.int 2147483629))) (mCon (.int 3))) (sIf (mB (mBin (gRel .GtE) (mVarB 3) (mBin gPow (mCon (.int 10)) (mCon (.int 18))))) (sStH 0 (mVar 3) (mCon (.int 2))) (sNil))))) (sNil)) (sSeq (sIf (mB (mBin (gRel .Gt) (mBin gIx (mVarH 0) (mCon (.int 2))) (mCon (.int 0)))) (sSeq (sSet 4 0 (mBin gMod (mCall (g1 gInt) (mCons (mBin gIx (mVarH 0) (mCon (.int 2))) (mNil))) (mVarB 1))) (sSeq (sStH 0 (mBin gFdiv (mBin gIx (mVarH 0) (mCon (.int 2))) (mVarB 1)) (mCon (.int 2))) (sRet (mVar 4)))) (sNil)) (sSeq (sStH 0 (mBin gAdd (mBin gIx (mVarH 0) (mCon (.int 4))) (mCon (.int 1))) (mCon (.int 4))) (sSeq (sSet 2 0 (mBin gMod (mCall (g1 gInt) (mCons (mBin gMul (mCall (g1 gInt) (mCons (mBin gAdd (mBin gIx (mVarH 0) (mCon (.int 3))) (mBin gMul (mCon (.int 7919)) (mBin gIx (mVarH 0) (mCon (.int 4))))) (mNil))) (mCon (.int 48271))) (mNil))) (mCon (.int 2147483647)))) (sSeq (sSet 2 0 (mBin gMod (mCall (g1 gInt) (mCons (mBin gMul (mVarB 2) (mBin gAdd (mBin gFdiv (mVarB 2) (mCon (.int 1009))) (mCon (.int 69621)))) (mNil))) (mCon (.int 2147483647)))) (sSeq (sSet 2 0 (mBin gMod (mCall (g1 gInt) (mCons (mBin gMul (mVarB 2) (mBin gAdd (mBin gFdiv (mVarB 2) (mCon (.int 2003))) (mCon (.int 40014)))) (mNil))) (mCon (.int 2147483563)))) (sRet (mBin gMod (mCall (g1 gInt) (mCons (mBin gFdiv (mVarB 2) (mCon (.int 16))) (mNil))) (mVarB 1))))))))
def den__law_draw : List T → M T := drawDen
def N__law_any : List Str := ["hand", "some"]
theorem nd__law_any : N__law_any.Nodup := by decide
def m__law_any : SM := sRet (mBin gIx (mVarB 1) ((fun env => bnd ((mCons (mVar 0) (mCons (mCall (g1 gLen) (mCons (mVarB 1) (mNil))) (mNil))) env) fun ts => gd (ts.length = 2) (den__law_draw ts))))
def den__law_any : List T → M T := fnDen 2 m__law_any
def N__law_web : List Str := ["hand", "most", "ties", "a", "n", "share", "b"]
theorem nd__law_web : N__law_web.Nodup := by decide
def m__law_web : SM := sSeq (sPar [4, 5] [0, 0] (mCons (mBin gAdd (mCon (.int 1)) ((fun env => bnd ((mCons (mVar 0) (mCons (mVar 1) (mNil))) env) fun ts => gd (ts.length = 2) (den__law_draw ts)))) (mCons (mBin gAdd (mCon (.int 1)) ((fun env => bnd ((mCons (mVar 0) (mCons (mCon (.int 3)) (mNil))) env) fun ts => gd (ts.length = 2) (den__law_draw ts)))) (mNil)))) (sSeq (sSet 2 0 (mLst (mNil))) (sSeq (sFor (mArg gRng1 (mCons (mVar 4) (mNil))) (gN 3) (sSet 2 0 (mBin gAdd (mVarB 2) (mLc (mArg gRng2 (mCons (mBin gAdd (mVarB 3) (mCon (.int 1))) (mCons (mVar 4) (mNil)))) (gN 6) (mB (mBin (gRel .Lt) ((fun env => bnd ((mCons (mVar 0) (mCons (mCon (.int 4)) (mNil))) env) fun ts => gd (ts.length = 2) (den__law_draw ts))) (mVarB 5))) (mTup (mCons (mVar 3) (mCons (mVar 6) (mNil)))) [6])))) (sRet (mTup (mCons (mVar 4) (mCons (mCall (g1 gTuple) (mCons (mVarB 2) (mNil))) (mNil)))))))
def den__law_web : List T → M T := fnDen 7 m__law_web
def N__law_near : List Str := ["web", "found", "a", "b", "place", "some"]
theorem nd__law_near : N__law_near.Nodup := by decide
def m__law_near : SM := sSeq (sSet 1 2 (mLc (mArg gRng1 (mCons (mBin gIx (mVarB 0) (mCon (.int 0))) (mNil))) (gN 4) (fun _ => ret true) (mLst (mNil)) [4])) (sSeq (sFor (mSrc (mBin gIx (mVarB 0) (mCon (.int 1)))) (gTp (gsCons (gN 2) (gsCons (gN 3) (gsNil)))) (sSeq (sMt2 1 (mVar 2) fApp (mCons (mVar 3) (mNil))) (sMt2 1 (mVar 3) fApp (mCons (mVar 2) (mNil))))) (sSeq (sFrz 1) (sRet (mLc (mSrc (mVarB 1)) (gN 5) (fun _ => ret true) (mCall (g1 gSorted) (mCons (mVarB 5) (mNil))) [5]))))
def den__law_near : List T → M T := fnDen 6 m__law_near
def N__law_no_web : List Str := ["hand", "some"]
theorem nd__law_no_web : N__law_no_web.Nodup := by decide
def m__law_no_web : SM := sSeq (sSet 1 0 (mLst (mCons (mCon .non) (mCons (mTup (mNil)) (mCons (mCon (.int 0)) (mCons (mTup (mCons (mCon (.int 2)) (mNil))) (mCons (mLst (mCons (mCon (.int 2)) (mCons (mTup (mNil)) (mNil)))) (mCons (mTup (mCons (mCon (.int 0)) (mCons (mTup (mNil)) (mNil)))) (mCons (mTup (mCons (mCon (.int 9)) (mCons (mTup (mNil)) (mNil)))) (mCons (mTup (mCons (mCon (.int 2)) (mCons (mLst (mCons (mTup (mCons (mCon (.int 0)) (mCons (mCon (.int 1)) (mNil)))) (mNil))) (mNil)))) (mCons (mTup (mCons (mCon (.int 2)) (mCons (mTup (mCons (mTup (mCons (mCon (.int 1)) (mCons (mCon (.int 0)) (mNil)))) (mNil))) (mNil)))) (mCons (mTup (mCons (mCon (.int 2)) (mCons (mTup (mCons (mTup (mCons (mCon (.int 0)) (mCons (mCon (.int 2)) (mNil)))) (mNil))) (mNil)))) (mCons (mTup (mCons (mCon (.int 2)) (mCons (mTup (mCons (mTup (mCons (mCon (.int 0)) (mCons (mCon (.int 0)) (mNil)))) (mNil))) (mNil)))) (mNil)))))))))))))) (sRet ((fun env => bnd ((mCons (mVar 0) (mCons (mBin gAdd (mVarB 1) (mLst (mCons (mTup (mCons (mCon (.int 3)) (mCons (mTup (mCons (mTup (mCons (mCon (.int 0)) (mCons (mCon (.int 2)) (mNil)))) (mCons (mTup (mCons (mCon (.int 0)) (mCons (mCon (.int 1)) (mNil)))) (mNil)))) (mNil)))) (mCons (mTup (mCons (mCon (.int 2)) (mCons (mTup (mCons (mTup (mCons (mCon (.int 0)) (mCons (mCon (.int 1)) (mNil)))) (mCons (mTup (mCons (mCon (.int 0)) (mCons (mCon (.int 1)) (mNil)))) (mNil)))) (mNil)))) (mCons (mTup (mCons (mCon (.bl true)) (mCons (mTup (mNil)) (mNil)))) (mCons (mTup (mCons (mCon (.int 2)) (mCons (mTup (mCons (mTup (mCons (mCon (.int 0)) (mCons (mCon (.bl true)) (mNil)))) (mNil))) (mNil)))) (mCons (mCon (.dk [] [])) (mNil)))))))) (mNil))) env) fun ts => gd (ts.length = 2) (den__law_any ts))))
def den__law_no_web : List T → M T := fnDen 2 m__law_no_web
def N__law_paintings : List Str := ["web", "k", "place", "near", "found", "longer", "row", "used", "other", "colour"]
theorem nd__law_paintings : N__law_paintings.Nodup := by decide
def m__law_paintings : SM := sSeq (sPar [3, 4] [0, 0] (mCons ((fun env => bnd ((mCons (mVar 0) (mNil)) env) fun ts => gd (ts.length = 1) (den__law_near ts))) (mCons (mLst (mCons (mTup (mNil)) (mNil))) (mNil)))) (sSeq (sFor (mArg gRng1 (mCons (mBin gIx (mVarB 0) (mCon (.int 0))) (mNil))) (gN 2) (sSeq (sSet 5 0 (mLst (mNil))) (sSeq (sFor (mSrc (mVar 4)) (gN 6) (sSeq (sSet 7 0 (mLc (mSrc (mBin gIx (mVarB 3) (mVarB 2))) (gN 8) (mB (mBin (gRel .Lt) (mVarB 8) (mVarB 2))) (mBin gIx (mVarB 6) (mVarB 8)) [8])) (sSet 5 0 (mBin gAdd (mVarB 5) (mLc (mArg gRng1 (mCons (mVar 1) (mNil))) (gN 9) (mB (mBin gNotIn (mVarB 9) (mVarB 7))) (mBin gAdd (mVarB 6) (mTup (mCons (mVar 9) (mNil)))) [9]))))) (sSet 4 0 (mVar 5))))) (sRet (mVar 4)))
def den__law_paintings : List T → M T := fnDen 10 m__law_paintings
def N__law_plain : List Str := ["web", "place", "near", "found", "longer", "row", "used", "some", "other", "colour"]
theorem nd__law_plain : N__law_plain.Nodup := by decide
def m__law_plain : SM := sSeq (sPar [2, 3] [0, 0] (mCons ((fun env => bnd ((mCons (mVar 0) (mNil)) env) fun ts => gd (ts.length = 1) (den__law_near ts))) (mCons (mLst (mCons (mTup (mNil)) (mNil))) (mNil)))) (sSeq (sFor (mArg gRng1 (mCons (mBin gIx (mVarB 0) (mCon (.int 0))) (mNil))) (gN 1) (sSeq (sSet 4 0 (mLst (mNil))) (sSeq (sFor (mSrc (mVar 3)) (gN 5) (sSeq (sSet 6 0 (mLc (mSrc (mBin gIx (mVarB 2) (mVarB 1))) (gN 8) (mB (mBin (gRel .Lt) (mVarB 8) (mVarB 1))) (mBin gIx (mVarB 5) (mVarB 8)) [8])) (sSeq (sSet 7 0 (mBin gAdd (mCall (g1 gMaxX) (mCons (mBin gAdd (mVarB 5) (mTup (mCons (mUn gNeg (mCon (.int 1))) (mNil)))) (mNil))) (mCon (.int 2)))) (sSet 4 0 (mBin gAdd (mVarB 4) (mLc (mArg gRng1 (mCons (mVar 7) (mNil))) (gN 9) (mB (mBin gNotIn (mVarB 9) (mVarB 6))) (mBin gAdd (mVarB 5) (mTup (mCons (mVar 9) (mNil)))) [9])))))) (sSet 3 0 (mVar 4))))) (sRet (mVar 3)))
def den__law_plain : List T → M T := fnDen 10 m__law_plain
def N__law_names : List Str := ["hand", "n", "step", "left", "found"]
theorem nd__law_names : N__law_names.Nodup := by decide
def m__law_names : SM := sSeq (sPar [3, 4] [1, 1] (mCons (mListR1 (mVar 1)) (mCons (mLst (mNil)) (mNil)))) (sSeq (sFor (mArg gRng1 (mCons (mVar 1) (mNil))) (gN 2) (sAppPop 4 3 fPopAt (mCons ((fun env => bnd ((mCons (mVar 0) (mCons (mCall (g1 gLen) (mCons (mVarB 3) (mNil))) (mNil))) env) fun ts => gd (ts.length = 2) (den__law_draw ts))) (mNil)))) (sRet (mCall (g1 gTuple) (mCons (mVarB 4) (mNil)))))
def den__law_names : List T → M T := fnDen 5 m__law_names
def N__law_word : List Str := ["call", "word", "e", "flags", "names"]
theorem nd__law_word : N__law_word.Nodup := by decide
def m__law_word (f : Addr) (b : M T) : SM := sSeq (sSet 1 0 (mCon (.str "let"))) (sSeq (sTryAct 5 f names sub b ((("TooMany", some 2, fun a cls dd => sSet 1 0 (mFldE a cls dd 2 "TooMany" "most")) : HD) :: (("ColourError", some 2, fun a cls dd => sSeq (sSet 3 0 (mLst (mCons (mIsE names sub a cls dd 2 "NoCount") (mCons (mIsE names sub a cls dd 2 "NoWeb") (mNil))))) (sSeq (sSet 4 0 (mLst (mCons (mCon (.str "count")) (mCons (mCon (.str "web")) (mNil))))) (sSet 1 0 (mIf (mB (mBin gEq (mBinL gCnt (mVarB 3) (mCon (.bl true))) (mCon (.int 1)))) (mBin gIx (mVarB 4) (mBinL gIdx (mVarB 3) (mCon (.bl true)))) (mCon (.str "other")))))) : HD) :: [])) (sRet (mVar 1)))
def den__law_word : M T → M T := wordDen 5 m__law_word
def N_law : List Str := ["script", "hand", "turn", "web", "k", "j", "there", "words", "rows", "every", "total", "falling", "some", "bad", "off", "row"]
theorem nd_law : N_law.Nodup := by decide
def m_law : SM := sSeq (sFor (mArg gRng1 (mCons (mCon (.int 3)) (mNil))) (gN 2) (sSeq (sSet 3 0 ((fun env => bnd ((mCons (mVar 1) (mCons (mCon (.int 6)) (mNil))) env) fun ts => gd (ts.length = 2) (den__law_web ts)))) (sSeq (sSet 4 0 (mBin gAdd (mCon (.int 1)) ((fun env => bnd ((mCons (mVar 1) (mCons (mCon (.int 4)) (mNil))) env) fun ts => gd (ts.length = 2) (den__law_draw ts))))) (sSeq (sPar [8, 9] [0, 0] (mCons ((fun env => bnd ((mCons (mVar 3) (mNil)) env) fun ts => gd (ts.length = 1) (den__law_plain ts))) (mCons ((fun env => bnd ((mCons (mVar 3) (mCons (mVar 4) (mNil))) env) fun ts => gd (ts.length = 2) (den__law_paintings ts))) (mNil)))) (sSeq (sIf (mB (mBin gNe ((fun env => bnd ((mCons (mVar 3) (mCons (mVar 4) (mNil))) env) fun ts => gd (ts.length = 2) (den_how_many_paintings ts))) (mCall (g1 gLen) (mCons (mVarB 9) (mNil))))) (sRet (mCon (.bl false))) (sNil)) (sSeq (sPar [10, 11] [0, 0] (mCons (mCon (.int 0)) (mCons (mCon (.int 1)) (mNil)))) (sSeq (sFor (mArg gRng2 (mCons (mCon (.int 1)) (mCons (mBin gAdd (mVarB 4) (mCon (.int 1))) (mNil)))) (gN 5) (sSeq (sSet 11 0 (mBin gMul (mVarB 11) (mBin gSub (mBin gAdd (mVarB 4) (mCon (.int 1))) (mVarB 5)))) (sSeq (sSet 12 0 (mCall (g1 gTuple) (mCons (mLc (mSrc (mVarB 8)) (gN 15) (mB (mBin gEq (mBin gAdd (mCall (g1 gMaxX) (mCons (mVarB 15) (mNil))) (mCon (.int 1))) (mVarB 5))) (mVar 15) [15]) (mNil)))) (sSeq (sIf (mOr (mB (mBin gNe ((fun env => bnd ((mCons (mVar 3) (mCons (mVar 5) (mNil))) env) fun ts => gd (ts.length = 2) (den_plain_count ts))) (mCall (g1 gLen) (mCons (mVarB 12) (mNil))))) (mB (mBin gNe ((fun env => bnd ((mCons (mVar 3) (mCons (mVar 5) (mNil))) env) fun ts => gd (ts.length = 2) (den_all_plain ts))) (mVarB 12)))) (sRet (mCon (.bl false))) (sNil)) (sSet 10 0 (mBin gAdd (mVarB 10) (mBin gMul (mCall (g1 gLen) (mCons (mVarB 12) (mNil))) (mVarB 11)))))))) (sSeq (sIf (mB (mBin gNe (mVarB 10) (mCall (g1 gLen) (mCons (mVarB 9) (mNil))))) (sRet (mCon (.bl false))) (sNil)) (sSeq (sSet 6 0 ((fun env => bnd ((mCons (mVar 3) (mCons ((fun env => bnd ((mCons (mVar 1) (mCons (mBin gIx (mVarB 3) (mCon (.int 0))) (mNil))) env) fun ts => gd (ts.length = 2) (den__law_names ts))) (mNil))) env) fun ts => gd (ts.length = 2) (den_renamed ts)))) (sSeq (sIf (mOr (mB (mBin gNe ((fun env => bnd ((mCons (mVar 6) (mCons (mVar 4) (mNil))) env) fun ts => gd (ts.length = 2) (den_how_many_paintings ts))) (mCall (g1 gLen) (mCons (mVarB 9) (mNil))))) (mB (mBin gNe ((fun env => bnd ((mCons (mVar 6) (mCons (mVar 4) (mNil))) env) fun ts => gd (ts.length = 2) (den_plain_count ts))) ((fun env => bnd ((mCons (mVar 3) (mCons (mVar 4) (mNil))) env) fun ts => gd (ts.length = 2) (den_plain_count ts)))))) (sRet (mCon (.bl false))) (sNil)) (sSeq (sPar [13, 14] [0, 0] (mCons ((fun env => bnd ((mCons (mVar 1) (mNil)) env) fun ts => gd (ts.length = 1) (den__law_no_web ts))) (mCons ((fun env => bnd ((mCons (mVar 1) (mCons (mLst (mCons (mCon .non) (mCons (mCon (.int 0)) (mCons (mCon (.int 9)) (mCons (mCon (.bl true)) (mCons (mCon (.str "1")) (mNil))))))) (mNil))) env) fun ts => gd (ts.length = 2) (den__law_any ts))) (mNil)))) (sSeq (sSet 7 1 (mLst (mCons ((fun env => den__law_word (((fun env => bnd ((mCons (mVar 13) (mCons (mVar 14) (mNil))) env) fun ts => gd (ts.length = 2) (den_how_many_paintings ts))) env))) (mNil)))) (sSeq (sMt 7 fApp (mCons ((fun env => den__law_word (((fun env => bnd ((mCons (mVar 3) (mCons (mVar 14) (mNil))) env) fun ts => gd (ts.length = 2) (den_how_many_paintings ts))) env))) (mNil))) (sSeq (sMt 7 fApp (mCons ((fun env => den__law_word (((fun env => bnd ((mCons (mVar 13) (mCons (mVar 14) (mNil))) env) fun ts => gd (ts.length = 2) (den_plain_count ts))) env))) (mNil))) (sSeq (sMt 7 fApp (mCons ((fun env => den__law_word (((fun env => bnd ((mCons (mVar 3) (mCons (mVar 14) (mNil))) env) fun ts => gd (ts.length = 2) (den_plain_count ts))) env))) (mNil))) (sSeq (sMt 7 fApp (mCons ((fun env => den__law_word (((fun env => bnd ((mCons (mVar 3) (mCons (mVar 14) (mNil))) env) fun ts => gd (ts.length = 2) (den_all_plain ts))) env))) (mNil))) (sIf (mB (mBin gNe (mVarB 7) (mLst (mCons (mCon (.str "web")) (mCons (mCon (.str "count")) (mCons (mCon (.str "web")) (mCons (mCon (.str "count")) (mCons (mCon (.str "count")) (mNil))))))))) (sRet (mCon (.bl false))) (sNil)))))))))))))))))) (sRet (mCon (.bl true)))
structure Bas (S : Kx) : Prop where
  dummy : True
  c_MOST_PLACES : IsI S "MOST_PLACES" 8
  b_abs : NoN S "abs"
  b_all : NoN S "all"
  b_bool : NoN S "bool"
  b_enumerate : NoN S "enumerate"
  b_int : NoN S "int"
  b_isinstance : NoN S "isinstance"
  b_len : NoN S "len"
  b_list : NoN S "list"
  b_max : NoN S "max"
  b_min : NoN S "min"
  b_range : NoN S "range"
  b_sorted : NoN S "sorted"
  b_sum : NoN S "sum"
  b_tuple : NoN S "tuple"
  b_zip : NoN S "zip"
structure Bas0 (S : Kx) : Prop where
  dummy : True
  e_NoCount : Er0 S "NoCount"
  e_NoNames : Er0 S "NoNames"
  e_NoWeb : Er0 S "NoWeb"
structure Bas1 (P : Program) (w : World) (S : Kx) (base : Heap) : Prop where
  dummy : True
  e_TooMany : Er1 P w S base "TooMany" "most"
section
variable {P : Program} {w : World} {S : Kx} {base : Heap} {f : Addr} {fd : FuncData}
theorem sc_is_integer : FnScope N_is_integer ["thing"] (defScope s_is_integer) := ⟨rfl, rfl, rfl, nd_is_integer, rfl, by decide +kernel, by decide +kernel⟩
theorem ok_is_integer (B : Bas S) (B0 : Bas0 S) (B1 : Bas1 P w S base) (R : ErS S names tests sub)  (F : FunD S.K "is_integer" "is_integer" (defArgs s_is_integer) (defBody s_is_integer) (defScope s_is_integer) [] [] f fd) (hm : S.mg "is_integer" = some (.ref f)) : Fn P w S base 1 "is_integer" 0 1 den_is_integer :=
  fn_mk (k := 0) (N := N_is_integer) (m := m_is_integer) F hm sc_is_integer rfl (fun _ _ _ _ _ _ us hl => match us, hl with | [_], _ => rfl) fun cdv A outer s H E w0 EX => dss_one (ds_ret (de_and (de_isi (Ex.toEu EX) B.b_isinstance (dab_cons (db_var 0) (dab_cons (db (de_ty "int" (Ex.toEu EX) B.b_int)) (dab_nil)))) (de_one (de_not (de_isi (Ex.toEu EX) B.b_isinstance (dab_cons (db_var 0) (dab_cons (db (de_ty "bool" (Ex.toEu EX) B.b_bool)) (dab_nil))))))))
theorem sc_is_within : FnScope N_is_within ["thing", "low", "high"] (defScope s_is_within) := ⟨rfl, rfl, rfl, nd_is_within, rfl, by decide +kernel, by decide +kernel⟩
theorem ok_is_within (B : Bas S) (B0 : Bas0 S) (B1 : Bas1 P w S base) (R : ErS S names tests sub) (G_is_integer : Fn P w S base 1 "is_integer" 0 1 den_is_integer) (F : FunD S.K "is_within" "is_within" (defArgs s_is_within) (defBody s_is_within) (defScope s_is_within) [] [] f fd) (hm : S.mg "is_within" = some (.ref f)) : Fn P w S base 2 "is_within" 0 3 den_is_within :=
  fn_mk (k := 1) (N := N_is_within) (m := m_is_within) F hm sc_is_within rfl (fun _ _ _ _ _ _ us hl => match us, hl with | [_, _, _], _ => rfl) fun cdv A outer s H E w0 EX => dss_one (ds_ret (de_and (de_call EX G_is_integer (by decide) rfl (da_cons (de_var 0) (da_nil))) (de_one (de_chain (Ex.toEu EX) (o1 := .LtE) (o2 := .LtE) rfl rfl (db_var 1) (db_var 0) (db_var 2)))))
theorem sc_is_sized : FnScope N_is_sized ["thing", "low", "high"] (defScope s_is_sized) := ⟨rfl, rfl, rfl, nd_is_sized, rfl, by decide +kernel, by decide +kernel⟩
theorem ok_is_sized (B : Bas S) (B0 : Bas0 S) (B1 : Bas1 P w S base) (R : ErS S names tests sub)  (F : FunD S.K "is_sized" "is_sized" (defArgs s_is_sized) (defBody s_is_sized) (defScope s_is_sized) [] [] f fd) (hm : S.mg "is_sized" = some (.ref f)) : Fn P w S base 1 "is_sized" 0 3 den_is_sized :=
  fn_mk (k := 0) (N := N_is_sized) (m := m_is_sized) F hm sc_is_sized rfl (fun _ _ _ _ _ _ us hl => match us, hl with | [_, _, _], _ => rfl) fun cdv A outer s H E w0 EX => dss_one (ds_ret (de_and (de_isi (Ex.toEu EX) B.b_isinstance (dab_cons (db_var 0) (dab_cons (db (de_ty "tuple" (Ex.toEu EX) B.b_tuple)) (dab_nil)))) (de_one (de_chain (Ex.toEu EX) (o1 := .LtE) (o2 := .LtE) rfl rfl (db_var 1) (db (de_len (Ex.toEu EX) B.b_len (dab_cons (db_var 0) (dab_nil)))) (db_var 2)))))
theorem sc_is_lot : FnScope N_is_lot ["thing", "many"] (defScope s_is_lot) := ⟨rfl, rfl, rfl, nd_is_lot, rfl, by decide +kernel, by decide +kernel⟩
theorem ok_is_lot (B : Bas S) (B0 : Bas0 S) (B1 : Bas1 P w S base) (R : ErS S names tests sub) (G_is_within : Fn P w S base 2 "is_within" 0 3 den_is_within) (F : FunD S.K "is_lot" "is_lot" (defArgs s_is_lot) (defBody s_is_lot) (defScope s_is_lot) [] [] f fd) (hm : S.mg "is_lot" = some (.ref f)) : Fn P w S base 3 "is_lot" 0 2 den_is_lot :=
  fn_mk (k := 2) (N := N_is_lot) (m := m_is_lot) F hm sc_is_lot rfl (fun _ _ _ _ _ _ us hl => match us, hl with | [_, _], _ => rfl) fun cdv A outer s H E w0 EX => dss_cons (ds_if (dt_w (dw_or (dt_not (dt_val (de_isi (Ex.toEu EX) B.b_isinstance (dab_cons (db_var 0) (dab_cons (db (de_ty "tuple" (Ex.toEu EX) B.b_tuple)) (dab_nil)))))) (dw_or1 (dt_not (dt_val (de_all EX B.b_all (dab_cons (db (de_lc (own := [("one", 2)]) EX (by decide) nd_is_lot (di_seqB EX.hK (db_var 0)) (blk_ok (by kernel_rfl)) ⟨fun s H C cl fp => dg_name 2 nd_is_lot, fun s H C cl fp => pts_none, fun s H C cl fp => de_call (Ex.blk EX) G_is_within (by decide) rfl (da_cons (de_var 2) (da_cons (de_int) (da_cons (de_sub (db_var 1) (db (de_int))) (da_nil))))⟩)) (dab_nil)))))))) (dss_one (ds_ret (de_bl))) (dss_nil)) (dss_one (ds_ret (de_all EX B.b_all (dab_cons (db (de_lc (own := [("one", 2), ("other", 3)]) EX (by decide) nd_is_lot (di_zp B.b_zip (Ex.toEu EX) (dafb (dab_cons (db_var 0) (dab_cons (db (de_sl (Ex.toEu EX) (db_var 0) (do_some (de_int)) (do_none))) (dab_nil))))) (blk_ok (by kernel_rfl)) ⟨fun s H C cl fp => dg_tup (Ex.blk EX).hK (Ex.blk EX).calm (dgs_cons (dg_name 2 nd_is_lot) (dgs_cons (dg_name 3 nd_is_lot) (dgs_nil))) (gsCons_len (gsCons_len (fun _ _ _ h => gsNil_len h))), fun s H C cl fp => pts_none, fun s H C cl fp => de_lt (Ex.toEu (Ex.blk EX)) (db_var 2) (db_var 3)⟩)) (dab_nil)))))
theorem sc_are_all : FnScope N_are_all ["thing", "many"] (defScope s_are_all) := ⟨rfl, rfl, rfl, nd_are_all, rfl, by decide +kernel, by decide +kernel⟩
theorem ok_are_all (B : Bas S) (B0 : Bas0 S) (B1 : Bas1 P w S base) (R : ErS S names tests sub) (G_is_sized : Fn P w S base 1 "is_sized" 0 3 den_is_sized) (G_is_within : Fn P w S base 2 "is_within" 0 3 den_is_within) (F : FunD S.K "are_all" "are_all" (defArgs s_are_all) (defBody s_are_all) (defScope s_are_all) [] [] f fd) (hm : S.mg "are_all" = some (.ref f)) : Fn P w S base 3 "are_all" 0 2 den_are_all :=
  fn_mk (k := 2) (N := N_are_all) (m := m_are_all) F hm sc_are_all rfl (fun _ _ _ _ _ _ us hl => match us, hl with | [_, _], _ => rfl) fun cdv A outer s H E w0 EX => dss_cons (ds_if (dt_w (dw_or (dt_not (dt_val (de_call EX G_is_sized (by decide) rfl (da_cons (de_var 0) (da_cons (de_var 1) (da_cons (de_var 1) (da_nil))))))) (dw_or1 (dt_not (dt_val (de_all EX B.b_all (dab_cons (db (de_lc (own := [("one", 2)]) EX (by decide) nd_are_all (di_seqB EX.hK (db_var 0)) (blk_ok (by kernel_rfl)) ⟨fun s H C cl fp => dg_name 2 nd_are_all, fun s H C cl fp => pts_none, fun s H C cl fp => de_call (Ex.blk EX) G_is_within (by decide) rfl (da_cons (de_var 2) (da_cons (de_int) (da_cons (de_sub (db_var 1) (db (de_int))) (da_nil))))⟩)) (dab_nil)))))))) (dss_one (ds_ret (de_bl))) (dss_nil)) (dss_one (ds_ret (de_eq (Ex.toEu EX) (db (de_sortedT (Ex.toEu EX) B.b_sorted (by decide) (dab_cons (db_var 0) (dab_nil)))) (db (de_listR1 EX B.b_list B.b_range (de_var 1))))))
theorem sc_are_ties : FnScope N_are_ties ["n", "thing"] (defScope s_are_ties) := ⟨rfl, rfl, rfl, nd_are_ties, rfl, by decide +kernel, by decide +kernel⟩
theorem ok_are_ties (B : Bas S) (B0 : Bas0 S) (B1 : Bas1 P w S base) (R : ErS S names tests sub) (G_is_lot : Fn P w S base 3 "is_lot" 0 2 den_is_lot) (G_is_sized : Fn P w S base 1 "is_sized" 0 3 den_is_sized) (F : FunD S.K "are_ties" "are_ties" (defArgs s_are_ties) (defBody s_are_ties) (defScope s_are_ties) [] [] f fd) (hm : S.mg "are_ties" = some (.ref f)) : Fn P w S base 4 "are_ties" 0 2 den_are_ties :=
  fn_mk (k := 3) (N := N_are_ties) (m := m_are_ties) F hm sc_are_ties rfl (fun _ _ _ _ _ _ us hl => match us, hl with | [_, _], _ => rfl) fun cdv A outer s H E w0 EX => dss_cons (ds_if (dt_w (dw_or (dt_not (dt_val (de_isi (Ex.toEu EX) B.b_isinstance (dab_cons (db_var 1) (dab_cons (db (de_ty "tuple" (Ex.toEu EX) B.b_tuple)) (dab_nil)))))) (dw_or1 (dt_not (dt_val (de_all EX B.b_all (dab_cons (db (de_lc (own := [("pair", 4)]) EX (by decide) nd_are_ties (di_seqB EX.hK (db_var 1)) (blk_ok (by kernel_rfl)) ⟨fun s H C cl fp => dg_name 4 nd_are_ties, fun s H C cl fp => pts_none, fun s H C cl fp => de_and (de_call (Ex.blk EX) G_is_sized (by decide) rfl (da_cons (de_var 4) (da_cons (de_int) (da_cons (de_int) (da_nil))))) (de_one (de_call (Ex.blk EX) G_is_lot (by decide) rfl (da_cons (de_var 4) (da_cons (de_var 0) (da_nil)))))⟩)) (dab_nil)))))))) (dss_one (ds_ret (de_bl))) (dss_nil)) (dss_one (ds_ret (de_all EX B.b_all (dab_cons (db (de_lc (own := [("one", 2), ("other", 3)]) EX (by decide) nd_are_ties (di_zp B.b_zip (Ex.toEu EX) (dafb (dab_cons (db_var 1) (dab_cons (db (de_sl (Ex.toEu EX) (db_var 1) (do_some (de_int)) (do_none))) (dab_nil))))) (blk_ok (by kernel_rfl)) ⟨fun s H C cl fp => dg_tup (Ex.blk EX).hK (Ex.blk EX).calm (dgs_cons (dg_name 2 nd_are_ties) (dgs_cons (dg_name 3 nd_are_ties) (dgs_nil))) (gsCons_len (gsCons_len (fun _ _ _ h => gsNil_len h))), fun s H C cl fp => pts_none, fun s H C cl fp => de_lt (Ex.toEu (Ex.blk EX)) (db_var 2) (db_var 3)⟩)) (dab_nil)))))
theorem sc_is_web : FnScope N_is_web ["thing"] (defScope s_is_web) := ⟨rfl, rfl, rfl, nd_is_web, rfl, by decide +kernel, by decide +kernel⟩
theorem ok_is_web (B : Bas S) (B0 : Bas0 S) (B1 : Bas1 P w S base) (R : ErS S names tests sub) (G_are_ties : Fn P w S base 4 "are_ties" 0 2 den_are_ties) (G_is_sized : Fn P w S base 1 "is_sized" 0 3 den_is_sized) (G_is_within : Fn P w S base 2 "is_within" 0 3 den_is_within) (F : FunD S.K "is_web" "is_web" (defArgs s_is_web) (defBody s_is_web) (defScope s_is_web) [] [] f fd) (hm : S.mg "is_web" = some (.ref f)) : Fn P w S base 5 "is_web" 0 1 den_is_web :=
  fn_mk (k := 4) (N := N_is_web) (m := m_is_web) F hm sc_is_web rfl (fun _ _ _ _ _ _ us hl => match us, hl with | [_], _ => rfl) fun cdv A outer s H E w0 EX => dss_cons (ds_if (dt_w (dw_or (dt_not (dt_val (de_call EX G_is_sized (by decide) rfl (da_cons (de_var 0) (da_cons (de_int) (da_cons (de_int) (da_nil))))))) (dw_or1 (dt_not (dt_val (de_call EX G_is_within (by decide) rfl (da_cons (de_ix (Ex.toEu EX) (db_var 0) (db (de_int))) (da_cons (de_int) (da_cons (de_gint (Ex.toEu EX) B.c_MOST_PLACES) (da_nil)))))))))) (dss_one (ds_ret (de_bl))) (dss_nil)) (dss_one (ds_ret (de_call EX G_are_ties (by decide) rfl (da_cons (de_ix (Ex.toEu EX) (db_var 0) (db (de_int))) (da_cons (de_ix (Ex.toEu EX) (db_var 0) (db (de_int))) (da_nil))))))
theorem sc_check_web : FnScope N_check_web ["web"] (defScope s_check_web) := ⟨rfl, rfl, rfl, nd_check_web, rfl, by decide +kernel, by decide +kernel⟩
theorem ok_check_web (B : Bas S) (B0 : Bas0 S) (B1 : Bas1 P w S base) (R : ErS S names tests sub) (G_is_web : Fn P w S base 5 "is_web" 0 1 den_is_web) (F : FunD S.K "check_web" "check_web" (defArgs s_check_web) (defBody s_check_web) (defScope s_check_web) [] [] f fd) (hm : S.mg "check_web" = some (.ref f)) : Fn P w S base 6 "check_web" 0 1 den_check_web :=
  fn_mk (k := 5) (N := N_check_web) (m := m_check_web) F hm sc_check_web rfl (fun _ _ _ _ _ _ us hl => match us, hl with | [_], _ => rfl) fun cdv A outer s H E w0 EX => dss_one (ds_if (dt_not (dt_val (de_call EX G_is_web (by decide) rfl (da_cons (de_var 0) (da_nil))))) (dss_one (ds_raise0 EX B0.e_NoWeb)) (dss_nil))
theorem sc_near_of : FnScope N_near_of ["web"] (defScope s_near_of) := ⟨rfl, rfl, rfl, nd_near_of, rfl, by decide +kernel, by decide +kernel⟩
theorem ok_near_of (B : Bas S) (B0 : Bas0 S) (B1 : Bas1 P w S base) (R : ErS S names tests sub)  (F : FunD S.K "near_of" "near_of" (defArgs s_near_of) (defBody s_near_of) (defScope s_near_of) [] [] f fd) (hm : S.mg "near_of" = some (.ref f)) : Fn P w S base 1 "near_of" 0 1 den_near_of :=
  fn_mk (k := 0) (N := N_near_of) (m := m_near_of) F hm sc_near_of rfl (fun _ _ _ _ _ _ us hl => match us, hl with | [_], _ => rfl) fun cdv A outer s H E w0 EX => dss_cons (ds_asg (vs := [2, 3]) (de_var 0) (dg_tup EX.hK EX.calm (dgs_cons (dg_name 2 nd_near_of) (dgs_cons (dg_name 3 nd_near_of) (dgs_nil))) (gsCons_len (gsCons_len (fun _ _ _ h => gsNil_len h))))) (dss_cons (ds_setLc2 (own := [("place", 6)]) EX 1 nd_near_of (di_rng1 B.b_range (Ex.toEu EX) (da_cons (de_var 2) (da_nil))) (blk_ok (by kernel_rfl)) ⟨fun s H C cl fp => dg_name 6 nd_near_of, fun s H C cl fp => pts_none, fun s H C cl fp => de_lst (da_nil)⟩) (dss_cons (ds_for (vs := [4, 5]) body_passes EX.calm (di_seq EX.hK (de_var 3)) (dg_tup EX.hK EX.calm (dgs_cons (dg_name 4 nd_near_of) (dgs_cons (dg_name 5 nd_near_of) (dgs_nil))) (gsCons_len (gsCons_len (fun _ _ _ h => gsNil_len h)))) (dss_cons (ds_mt2 (Ex.toEu EX) 1 PySem.F.slot_list_append rfl mt_append simU_app (de_var 4) (daf (da_cons (de_var 5) (da_nil)))) (dss_one (ds_mt2 (Ex.toEu EX) 1 PySem.F.slot_list_append rfl mt_append simU_app (de_var 5) (daf (da_cons (de_var 4) (da_nil))))))) (dss_frz 1 (dss_one (ds_ret (de_lc (own := [("near", 7)]) EX (by decide) nd_near_of (di_seqB EX.hK (db_var 1)) (blk_ok (by kernel_rfl)) ⟨fun s H C cl fp => dg_name 7 nd_near_of, fun s H C cl fp => pts_none, fun s H C cl fp => de_sorted (Ex.toEu (Ex.blk EX)) B.b_sorted (by decide) (dab_cons (db_var 7) (dab_nil))⟩))))))
theorem sc_raw_renamed : FnScope N_raw_renamed ["web", "names"] (defScope s_raw_renamed) := ⟨rfl, rfl, rfl, nd_raw_renamed, rfl, by decide +kernel, by decide +kernel⟩
theorem ok_raw_renamed (B : Bas S) (B0 : Bas0 S) (B1 : Bas1 P w S base) (R : ErS S names tests sub)  (F : FunD S.K "raw_renamed" "raw_renamed" (defArgs s_raw_renamed) (defBody s_raw_renamed) (defScope s_raw_renamed) [] [] f fd) (hm : S.mg "raw_renamed" = some (.ref f)) : Fn P w S base 1 "raw_renamed" 0 2 den_raw_renamed :=
  fn_mk (k := 0) (N := N_raw_renamed) (m := m_raw_renamed) F hm sc_raw_renamed rfl (fun _ _ _ _ _ _ us hl => match us, hl with | [_, _], _ => rfl) fun cdv A outer s H E w0 EX => dss_cons (ds_setLc (own := [("a", 3), ("b", 4)]) EX 2 (by decide) nd_raw_renamed (di_seq EX.hK (de_ix (Ex.toEu EX) (db_var 0) (db (de_int)))) (blk_ok (by kernel_rfl)) ⟨fun s H C cl fp => dg_tup (Ex.blk EX).hK (Ex.blk EX).calm (dgs_cons (dg_name 3 nd_raw_renamed) (dgs_cons (dg_name 4 nd_raw_renamed) (dgs_nil))) (gsCons_len (gsCons_len (fun _ _ _ h => gsNil_len h))), fun s H C cl fp => pts_none, fun s H C cl fp => de_tup (da_cons (de_min2 (Ex.blk EX) B.b_min (dab_cons (db (de_ix (Ex.toEu (Ex.blk EX)) (db_var 1) (db_var 3))) (dab_cons (db (de_ix (Ex.toEu (Ex.blk EX)) (db_var 1) (db_var 4))) (dab_nil)))) (da_cons (de_max2 (Ex.blk EX) B.b_max (dab_cons (db (de_ix (Ex.toEu (Ex.blk EX)) (db_var 1) (db_var 3))) (dab_cons (db (de_ix (Ex.toEu (Ex.blk EX)) (db_var 1) (db_var 4))) (dab_nil)))) (da_nil)))⟩) (dss_one (ds_ret (de_tup (da_cons (de_ix (Ex.toEu EX) (db_var 0) (db (de_int))) (da_cons (de_tuple (Ex.toEu EX) B.b_tuple (dab_cons (db (de_sortedX (Ex.toEu EX) B.b_sorted (by decide) (dab_cons (db_var 2) (dab_nil)))) (dab_nil))) (da_nil))))))
theorem sc_renamed : FnScope N_renamed ["web", "names"] (defScope s_renamed) := ⟨rfl, rfl, rfl, nd_renamed, rfl, by decide +kernel, by decide +kernel⟩
theorem ok_renamed (B : Bas S) (B0 : Bas0 S) (B1 : Bas1 P w S base) (R : ErS S names tests sub) (G_are_all : Fn P w S base 3 "are_all" 0 2 den_are_all) (G_check_web : Fn P w S base 6 "check_web" 0 1 den_check_web) (G_raw_renamed : Fn P w S base 1 "raw_renamed" 0 2 den_raw_renamed) (F : FunD S.K "renamed" "renamed" (defArgs s_renamed) (defBody s_renamed) (defScope s_renamed) [] [] f fd) (hm : S.mg "renamed" = some (.ref f)) : Fn P w S base 7 "renamed" 0 2 den_renamed :=
  fn_mk (k := 6) (N := N_renamed) (m := m_renamed) F hm sc_renamed rfl (fun _ _ _ _ _ _ us hl => match us, hl with | [_, _], _ => rfl) fun cdv A outer s H E w0 EX => dss_cons (ds_expr (de_call EX G_check_web (by decide) rfl (da_cons (de_var 0) (da_nil)))) (dss_cons (ds_if (dt_not (dt_val (de_call EX G_are_all (by decide) rfl (da_cons (de_var 1) (da_cons (de_ix (Ex.toEu EX) (db_var 0) (db (de_int))) (da_nil)))))) (dss_one (ds_raise0 EX B0.e_NoNames)) (dss_nil)) (dss_one (ds_ret (de_call EX G_raw_renamed (by decide) rfl (da_cons (de_var 0) (da_cons (de_var 1) (da_nil)))))))
theorem sc_next_colours : FnScope N_next_colours ["near", "painting", "k"] (defScope s_next_colours) := ⟨rfl, rfl, rfl, nd_next_colours, rfl, by decide +kernel, by decide +kernel⟩
theorem ok_next_colours (B : Bas S) (B0 : Bas0 S) (B1 : Bas1 P w S base) (R : ErS S names tests sub)  (F : FunD S.K "next_colours" "next_colours" (defArgs s_next_colours) (defBody s_next_colours) (defScope s_next_colours) [] [] f fd) (hm : S.mg "next_colours" = some (.ref f)) : Fn P w S base 1 "next_colours" 0 3 den_next_colours :=
  fn_mk (k := 0) (N := N_next_colours) (m := m_next_colours) F hm sc_next_colours rfl (fun _ _ _ _ _ _ us hl => match us, hl with | [_, _, _], _ => rfl) fun cdv A outer s H E w0 EX => dss_cons (ds_set 3 nd_next_colours (de_if (dt_gt (Ex.toEu EX) (db (de_len (Ex.toEu EX) B.b_len (dab_cons (db_var 1) (dab_nil)))) (db (de_int))) (de_add (Ex.toEu EX) (db (de_maxX EX B.b_max (dab_cons (db_var 1) (dab_nil)))) (db (de_int))) (de_int))) (dss_cons (ds_set 4 nd_next_colours (de_lc (own := [("other", 5)]) EX (by decide) nd_next_colours (di_seq EX.hK (de_ix (Ex.toEu EX) (db_var 0) (db (de_len (Ex.toEu EX) B.b_len (dab_cons (db_var 1) (dab_nil)))))) (blk_ok (by kernel_rfl)) ⟨fun s H C cl fp => dg_name 5 nd_next_colours, fun s H C cl fp => pts_c (dt_lt (Ex.toEu (Ex.blk EX)) (db_var 5) (db (de_len (Ex.toEu (Ex.blk EX)) B.b_len (dab_cons (db_var 1) (dab_nil))))), fun s H C cl fp => de_ix (Ex.toEu (Ex.blk EX)) (db_var 1) (db_var 5)⟩)) (dss_one (ds_ret (de_lc (own := [("colour", 6)]) EX (by decide) nd_next_colours (di_rng1 B.b_range (Ex.toEu EX) (da_cons (de_min2 EX B.b_min (dab_cons (db (de_add (Ex.toEu EX) (db_var 3) (db (de_int)))) (dab_cons (db_var 2) (dab_nil)))) (da_nil))) (blk_ok (by kernel_rfl)) ⟨fun s H C cl fp => dg_name 6 nd_next_colours, fun s H C cl fp => pts_c (dt_notin (Ex.toEu (Ex.blk EX)) (db_var 6) (db_var 4)), fun s H C cl fp => de_var 6⟩))))
theorem sc_check_colours : FnScope N_check_colours ["web", "k"] (defScope s_check_colours) := ⟨rfl, rfl, rfl, nd_check_colours, rfl, by decide +kernel, by decide +kernel⟩
theorem ok_check_colours (B : Bas S) (B0 : Bas0 S) (B1 : Bas1 P w S base) (R : ErS S names tests sub) (G_check_web : Fn P w S base 6 "check_web" 0 1 den_check_web) (G_is_within : Fn P w S base 2 "is_within" 0 3 den_is_within) (F : FunD S.K "check_colours" "check_colours" (defArgs s_check_colours) (defBody s_check_colours) (defScope s_check_colours) [] [] f fd) (hm : S.mg "check_colours" = some (.ref f)) : Fn P w S base 7 "check_colours" 0 2 den_check_colours :=
  fn_mk (k := 6) (N := N_check_colours) (m := m_check_colours) F hm sc_check_colours rfl (fun _ _ _ _ _ _ us hl => match us, hl with | [_, _], _ => rfl) fun cdv A outer s H E w0 EX => dss_cons (ds_expr (de_call EX G_check_web (by decide) rfl (da_cons (de_var 0) (da_nil)))) (dss_one (ds_if (dt_not (dt_val (de_call EX G_is_within (by decide) rfl (da_cons (de_var 1) (da_cons (de_int) (da_cons (de_gint (Ex.toEu EX) B.c_MOST_PLACES) (da_nil))))))) (dss_one (ds_raise0 EX B0.e_NoCount)) (dss_nil)))
theorem sc_all_in_turn : FnScope N_all_in_turn ["web"] (defScope s_all_in_turn) := ⟨rfl, rfl, rfl, nd_all_in_turn, rfl, by decide +kernel, by decide +kernel⟩
theorem ok_all_in_turn (B : Bas S) (B0 : Bas0 S) (B1 : Bas1 P w S base) (R : ErS S names tests sub) (G_near_of : Fn P w S base 1 "near_of" 0 1 den_near_of) (G_next_colours : Fn P w S base 1 "next_colours" 0 3 den_next_colours) (F : FunD S.K "all_in_turn" "all_in_turn" (defArgs s_all_in_turn) (defBody s_all_in_turn) (defScope s_all_in_turn) [] [] f fd) (hm : S.mg "all_in_turn" = some (.ref f)) : Fn P w S base 2 "all_in_turn" 0 1 den_all_in_turn :=
  fn_mk (k := 1) (N := N_all_in_turn) (m := m_all_in_turn) F hm sc_all_in_turn rfl (fun _ _ _ _ _ _ us hl => match us, hl with | [_], _ => rfl) fun cdv A outer s H E w0 EX => dss_cons (ds_par2 EX 2 3 rfl nd_all_in_turn (dad_cons (de_call EX G_near_of (by decide) rfl (da_cons (de_var 0) (da_nil))) (dad_cons (de_lst (da_cons (de_tup (da_nil)) (da_nil))) (dad_nil)))) (dss_cons (ds_for (vs := [1]) body_passes EX.calm (di_rng1 B.b_range (Ex.toEu EX) (da_cons (de_ix (Ex.toEu EX) (db_var 0) (db (de_int))) (da_nil))) (dg_name 1 nd_all_in_turn) (dss_cons (ds_set 4 nd_all_in_turn (de_lst (da_nil))) (dss_cons (ds_for (vs := [5]) body_passes EX.calm (di_seq EX.hK (de_var 3)) (dg_name 5 nd_all_in_turn) (dss_one (ds_mt 4 PySem.F.slot_list_extend rfl mt_extend simU_ext (dafb (dab_cons (db (de_lc (own := [("colour", 6)]) EX (by decide) nd_all_in_turn (di_seq EX.hK (de_call EX G_next_colours (by decide) rfl (da_cons (de_var 2) (da_cons (de_var 5) (da_cons (de_gint (Ex.toEu EX) B.c_MOST_PLACES) (da_nil)))))) (blk_ok (by kernel_rfl)) ⟨fun s H C cl fp => dg_name 6 nd_all_in_turn, fun s H C cl fp => pts_none, fun s H C cl fp => de_add (Ex.toEu (Ex.blk EX)) (db_var 5) (db (de_tup (da_cons (de_var 6) (da_nil))))⟩)) (dab_nil)))))) (dss_frz 4 (dss_one (ds_set 3 nd_all_in_turn (de_var 4))))))) (dss_one (ds_ret (de_var 3))))
theorem sc_raw_counts : FnScope N_raw_counts ["web"] (defScope s_raw_counts) := ⟨rfl, rfl, rfl, nd_raw_counts, rfl, by decide +kernel, by decide +kernel⟩
theorem ok_raw_counts (B : Bas S) (B0 : Bas0 S) (B1 : Bas1 P w S base) (R : ErS S names tests sub) (G_all_in_turn : Fn P w S base 2 "all_in_turn" 0 1 den_all_in_turn) (F : FunD S.K "raw_counts" "raw_counts" (defArgs s_raw_counts) (defBody s_raw_counts) (defScope s_raw_counts) [] [] f fd) (hm : S.mg "raw_counts" = some (.ref f)) : Fn P w S base 3 "raw_counts" 0 1 den_raw_counts :=
  fn_mk (k := 2) (N := N_raw_counts) (m := m_raw_counts) F hm sc_raw_counts rfl (fun _ _ _ _ _ _ us hl => match us, hl with | [_], _ => rfl) fun cdv A outer s H E w0 EX => dss_cons (ds_set 1 nd_raw_counts (de_mul (Ex.toEu EX) (db (de_lst (da_cons (de_int) (da_nil)))) (db (de_add (Ex.toEu EX) (db (de_gint (Ex.toEu EX) B.c_MOST_PLACES)) (db (de_int)))))) (dss_cons (ds_for (vs := [2]) body_passes EX.calm (di_seq EX.hK (de_call EX G_all_in_turn (by decide) rfl (da_cons (de_var 0) (da_nil)))) (dg_name 2 nd_raw_counts) (dss_one (ds_augSt 1 (Ex.toEu EX) (de_int) (de_add (Ex.toEu EX) (db (de_maxX EX B.b_max (dab_cons (db_var 2) (dab_nil)))) (db (de_int))) ip_add sim_ip_add))) (dss_frz 1 (dss_one (ds_ret (de_var 1)))))
theorem sc_falling_product : FnScope N_falling_product ["x", "many"] (defScope s_falling_product) := ⟨rfl, rfl, rfl, nd_falling_product, rfl, by decide +kernel, by decide +kernel⟩
theorem ok_falling_product (B : Bas S) (B0 : Bas0 S) (B1 : Bas1 P w S base) (R : ErS S names tests sub)  (F : FunD S.K "falling_product" "falling_product" (defArgs s_falling_product) (defBody s_falling_product) (defScope s_falling_product) [] [] f fd) (hm : S.mg "falling_product" = some (.ref f)) : Fn P w S base 1 "falling_product" 0 2 den_falling_product :=
  fn_mk (k := 0) (N := N_falling_product) (m := m_falling_product) F hm sc_falling_product rfl (fun _ _ _ _ _ _ us hl => match us, hl with | [_, _], _ => rfl) fun cdv A outer s H E w0 EX => dss_cons (ds_set 2 nd_falling_product (de_int)) (dss_cons (ds_for (vs := [3]) body_passes EX.calm (di_rng1 B.b_range (Ex.toEu EX) (da_cons (de_var 1) (da_nil))) (dg_name 3 nd_falling_product) (dss_one (ds_set 2 nd_falling_product (de_mul (Ex.toEu EX) (db_var 2) (db (de_sub (db_var 0) (db_var 3))))))) (dss_one (ds_ret (de_var 2))))
theorem sc_raw_many : FnScope N_raw_many ["web", "k"] (defScope s_raw_many) := ⟨rfl, rfl, rfl, nd_raw_many, rfl, by decide +kernel, by decide +kernel⟩
theorem ok_raw_many (B : Bas S) (B0 : Bas0 S) (B1 : Bas1 P w S base) (R : ErS S names tests sub) (G_falling_product : Fn P w S base 1 "falling_product" 0 2 den_falling_product) (G_raw_counts : Fn P w S base 3 "raw_counts" 0 1 den_raw_counts) (F : FunD S.K "raw_many" "raw_many" (defArgs s_raw_many) (defBody s_raw_many) (defScope s_raw_many) [] [] f fd) (hm : S.mg "raw_many" = some (.ref f)) : Fn P w S base 4 "raw_many" 0 2 den_raw_many :=
  fn_mk (k := 3) (N := N_raw_many) (m := m_raw_many) F hm sc_raw_many rfl (fun _ _ _ _ _ _ us hl => match us, hl with | [_, _], _ => rfl) fun cdv A outer s H E w0 EX => dss_one (ds_ret (de_sum EX B.b_sum (dab_cons (db (de_lc (own := [("used", 2), ("many", 3)]) EX (by decide) nd_raw_many (di_en1 B.b_enumerate (Ex.toEu EX) (dafb (dab_cons (db (de_call EX G_raw_counts (by decide) rfl (da_cons (de_var 0) (da_nil)))) (dab_nil)))) (blk_ok (by kernel_rfl)) ⟨fun s H C cl fp => dg_tup (Ex.blk EX).hK (Ex.blk EX).calm (dgs_cons (dg_name 2 nd_raw_many) (dgs_cons (dg_name 3 nd_raw_many) (dgs_nil))) (gsCons_len (gsCons_len (fun _ _ _ h => gsNil_len h))), fun s H C cl fp => pts_none, fun s H C cl fp => de_mul (Ex.toEu (Ex.blk EX)) (db_var 3) (db (de_call (Ex.blk EX) G_falling_product (by decide) rfl (da_cons (de_var 1) (da_cons (de_var 2) (da_nil)))))⟩)) (dab_nil))))
theorem sc_how_many_paintings : FnScope N_how_many_paintings ["web", "k"] (defScope s_how_many_paintings) := ⟨rfl, rfl, rfl, nd_how_many_paintings, rfl, by decide +kernel, by decide +kernel⟩
theorem ok_how_many_paintings (B : Bas S) (B0 : Bas0 S) (B1 : Bas1 P w S base) (R : ErS S names tests sub) (G_check_colours : Fn P w S base 7 "check_colours" 0 2 den_check_colours) (G_raw_many : Fn P w S base 4 "raw_many" 0 2 den_raw_many) (F : FunD S.K "how_many_paintings" "how_many_paintings" (defArgs s_how_many_paintings) (defBody s_how_many_paintings) (defScope s_how_many_paintings) [] [] f fd) (hm : S.mg "how_many_paintings" = some (.ref f)) : Fn P w S base 8 "how_many_paintings" 0 2 den_how_many_paintings :=
  fn_mk (k := 7) (N := N_how_many_paintings) (m := m_how_many_paintings) F hm sc_how_many_paintings rfl (fun _ _ _ _ _ _ us hl => match us, hl with | [_, _], _ => rfl) fun cdv A outer s H E w0 EX => dss_cons (ds_expr (de_call EX G_check_colours (by decide) rfl (da_cons (de_var 0) (da_cons (de_var 1) (da_nil))))) (dss_one (ds_ret (de_call EX G_raw_many (by decide) rfl (da_cons (de_var 0) (da_cons (de_var 1) (da_nil))))))
theorem sc_plain_count : FnScope N_plain_count ["web", "k"] (defScope s_plain_count) := ⟨rfl, rfl, rfl, nd_plain_count, rfl, by decide +kernel, by decide +kernel⟩
theorem ok_plain_count (B : Bas S) (B0 : Bas0 S) (B1 : Bas1 P w S base) (R : ErS S names tests sub) (G_check_colours : Fn P w S base 7 "check_colours" 0 2 den_check_colours) (G_raw_counts : Fn P w S base 3 "raw_counts" 0 1 den_raw_counts) (F : FunD S.K "plain_count" "plain_count" (defArgs s_plain_count) (defBody s_plain_count) (defScope s_plain_count) [] [] f fd) (hm : S.mg "plain_count" = some (.ref f)) : Fn P w S base 8 "plain_count" 0 2 den_plain_count :=
  fn_mk (k := 7) (N := N_plain_count) (m := m_plain_count) F hm sc_plain_count rfl (fun _ _ _ _ _ _ us hl => match us, hl with | [_, _], _ => rfl) fun cdv A outer s H E w0 EX => dss_cons (ds_expr (de_call EX G_check_colours (by decide) rfl (da_cons (de_var 0) (da_cons (de_var 1) (da_nil))))) (dss_one (ds_ret (de_ix (Ex.toEu EX) (db (de_call EX G_raw_counts (by decide) rfl (da_cons (de_var 0) (da_nil)))) (db_var 1))))
theorem sc_all_plain : FnScope N_all_plain ["web", "k"] (defScope s_all_plain) := ⟨rfl, rfl, rfl, nd_all_plain, rfl, by decide +kernel, by decide +kernel⟩
theorem ok_all_plain (B : Bas S) (B0 : Bas0 S) (B1 : Bas1 P w S base) (R : ErS S names tests sub) (G_all_in_turn : Fn P w S base 2 "all_in_turn" 0 1 den_all_in_turn) (G_check_colours : Fn P w S base 7 "check_colours" 0 2 den_check_colours) (F : FunD S.K "all_plain" "all_plain" (defArgs s_all_plain) (defBody s_all_plain) (defScope s_all_plain) [] [] f fd) (hm : S.mg "all_plain" = some (.ref f)) : Fn P w S base 8 "all_plain" 0 2 den_all_plain :=
  fn_mk (k := 7) (N := N_all_plain) (m := m_all_plain) F hm sc_all_plain rfl (fun _ _ _ _ _ _ us hl => match us, hl with | [_, _], _ => rfl) fun cdv A outer s H E w0 EX => dss_cons (ds_expr (de_call EX G_check_colours (by decide) rfl (da_cons (de_var 0) (da_cons (de_var 1) (da_nil))))) (dss_one (ds_ret (de_tuple (Ex.toEu EX) B.b_tuple (dab_cons (db (de_lc (own := [("painting", 2)]) EX (by decide) nd_all_plain (di_seq EX.hK (de_call EX G_all_in_turn (by decide) rfl (da_cons (de_var 0) (da_nil)))) (blk_ok (by kernel_rfl)) ⟨fun s H C cl fp => dg_name 2 nd_all_plain, fun s H C cl fp => pts_c (dt_eq (Ex.toEu (Ex.blk EX)) (db (de_add (Ex.toEu (Ex.blk EX)) (db (de_maxX (Ex.blk EX) B.b_max (dab_cons (db_var 2) (dab_nil)))) (db (de_int)))) (db_var 1)), fun s H C cl fp => de_var 2⟩)) (dab_nil)))))
theorem sc__law_hand : FnScope N__law_hand ["script"] (defScope s__law_hand) := ⟨rfl, rfl, rfl, nd__law_hand, rfl, by decide +kernel, by decide +kernel⟩
theorem ok__law_hand (B : Bas S) (B0 : Bas0 S) (B1 : Bas1 P w S base) (R : ErS S names tests sub)  (hd : ∀ (p : Addr) (ns : List Int), m__law_hand handEnd (.sc p ns :: List.replicate (3 - 1) .no)) (F : FunD S.K "_law_hand" "_law_hand" (defArgs s__law_hand) (defBody s__law_hand) (defScope s__law_hand) [] [] f fd) (hm : S.mg "_law_hand" = some (.ref f)) : HandFn P w S base 1 "_law_hand" :=
  hand_mk (k := 0) (N := N__law_hand) (m := m__law_hand) F hm sc__law_hand (by decide) (fun _ _ _ _ _ _ us hl => match us, hl with | [_], _ => rfl) (fun cdv A outer s H E w0 EX => dss_cons (ds_setLc (own := [("cell", 2)]) EX 1 (by decide) nd__law_hand (di_scr (Ex.toEu EX) 0) (blk_ok (by kernel_rfl)) ⟨fun s H C cl fp => dg_name 2 nd__law_hand, fun s H C cl fp => pts_none, fun s H C cl fp => de_abs (Ex.toEu (Ex.blk EX)) B.b_abs (dab_cons (db (de_toint (Ex.toEu (Ex.blk EX)) B.b_int (dab_cons (db_var 2) (dab_nil)))) (dab_nil))⟩) (dss_one (ds_ret (de_lst (da_cons (de_var 1) (da_cons (de_int) (da_cons (de_int) (da_cons (de_add (Ex.toEu EX) (db (de_int)) (db (de_mul (Ex.toEu EX) (db (de_int)) (db (de_len (Ex.toEu EX) B.b_len (dab_cons (db_var 1) (dab_nil))))))) (da_cons (de_int) (da_nil)))))))))) hd
theorem sc__law_draw : FnScope N__law_draw ["hand", "many"] (defScope s__law_draw) := ⟨rfl, rfl, rfl, nd__law_draw, rfl, by decide +kernel, by decide +kernel⟩
theorem ok__law_draw (B : Bas S) (B0 : Bas0 S) (B1 : Bas1 P w S base) (R : ErS S names tests sub)  (hd : ∀ (p : Addr) (cells : List Int) (i r mm kk n : Int), 0 ≤ i → 0 < n → n < 2 ^ 64 → m__law_draw (drawEnd p n) (.hs p (hdT cells i r mm kk) :: .va 0 (.int n) :: List.replicate (5 - 2) .no)) (F : FunD S.K "_law_draw" "_law_draw" (defArgs s__law_draw) (defBody s__law_draw) (defScope s__law_draw) [] [] f fd) (hm : S.mg "_law_draw" = some (.ref f)) : Fn P w S base 1 "_law_draw" 0 2 den__law_draw :=
  draw_mk (k := 0) (N := N__law_draw) (m := m__law_draw) F hm sc__law_draw (by decide) (fun _ _ _ _ _ _ us hl => match us, hl with | [_, _], _ => rfl) (fun cdv A outer s H E w0 EX => dss_cons (ds_if (dt_w (dw_and (dt_eq (Ex.toEu EX) (db (de_ix (Ex.toEu EX) (db_varH 0) (db (de_int)))) (db (de_int))) (dw_and1 (dt_lt (Ex.toEu EX) (db (de_ix (Ex.toEu EX) (db_varH 0) (db (de_int)))) (db (de_len (Ex.toEu EX) B.b_len (dab_cons (db (de_ix (Ex.toEu EX) (db_varH 0) (db (de_int)))) (dab_nil)))))))) (dss_cons (ds_set 3 nd__law_draw (de_ix (Ex.toEu EX) (db (de_ix (Ex.toEu EX) (db_varH 0) (db (de_int)))) (db (de_ix (Ex.toEu EX) (db_varH 0) (db (de_int)))))) (dss_cons (ds_stH 0 (de_add (Ex.toEu EX) (db (de_ix (Ex.toEu EX) (db_varH 0) (db (de_int)))) (db (de_int))) (de_int)) (dss_cons (ds_stH 0 (de_mod (db (de_toint (Ex.toEu EX) B.b_int (dab_cons (db (de_add (Ex.toEu EX) (db (de_add (Ex.toEu EX) (db (de_mul (Ex.toEu EX) (db (de_ix (Ex.toEu EX) (db_varH 0) (db (de_int)))) (db (de_int)))) (db (de_mul (Ex.toEu EX) (db_var 3) (db (de_int)))))) (db (de_int)))) (dab_nil)))) (db (de_int))) (de_int)) (dss_one (ds_if (dt_ge (Ex.toEu EX) (db_var 3) (db (de_pow (db (de_int)) (db (de_int))))) (dss_one (ds_stH 0 (de_var 3) (de_int))) (dss_nil)))))) (dss_nil)) (dss_cons (ds_if (dt_gt (Ex.toEu EX) (db (de_ix (Ex.toEu EX) (db_varH 0) (db (de_int)))) (db (de_int))) (dss_cons (ds_set 4 nd__law_draw (de_mod (db (de_toint (Ex.toEu EX) B.b_int (dab_cons (db (de_ix (Ex.toEu EX) (db_varH 0) (db (de_int)))) (dab_nil)))) (db_var 1))) (dss_cons (ds_stH 0 (de_fdiv (db (de_ix (Ex.toEu EX) (db_varH 0) (db (de_int)))) (db_var 1)) (de_int)) (dss_one (ds_ret (de_var 4))))) (dss_nil)) (dss_cons (ds_stH 0 (de_add (Ex.toEu EX) (db (de_ix (Ex.toEu EX) (db_varH 0) (db (de_int)))) (db (de_int))) (de_int)) (dss_cons (ds_set 2 nd__law_draw (de_mod (db (de_toint (Ex.toEu EX) B.b_int (dab_cons (db (de_mul (Ex.toEu EX) (db (de_toint (Ex.toEu EX) B.b_int (dab_cons (db (de_add (Ex.toEu EX) (db (de_ix (Ex.toEu EX) (db_varH 0) (db (de_int)))) (db (de_mul (Ex.toEu EX) (db (de_int)) (db (de_ix (Ex.toEu EX) (db_varH 0) (db (de_int)))))))) (dab_nil)))) (db (de_int)))) (dab_nil)))) (db (de_int)))) (dss_cons (ds_set 2 nd__law_draw (de_mod (db (de_toint (Ex.toEu EX) B.b_int (dab_cons (db (de_mul (Ex.toEu EX) (db_var 2) (db (de_add (Ex.toEu EX) (db (de_fdiv (db_var 2) (db (de_int)))) (db (de_int)))))) (dab_nil)))) (db (de_int)))) (dss_cons (ds_set 2 nd__law_draw (de_mod (db (de_toint (Ex.toEu EX) B.b_int (dab_cons (db (de_mul (Ex.toEu EX) (db_var 2) (db (de_add (Ex.toEu EX) (db (de_fdiv (db_var 2) (db (de_int)))) (db (de_int)))))) (dab_nil)))) (db (de_int)))) (dss_one (ds_ret (de_mod (db (de_toint (Ex.toEu EX) B.b_int (dab_cons (db (de_fdiv (db_var 2) (db (de_int)))) (dab_nil)))) (db_var 1)))))))))) hd
theorem sc__law_any : FnScope N__law_any ["hand", "some"] (defScope s__law_any) := ⟨rfl, rfl, rfl, nd__law_any, rfl, by decide +kernel, by decide +kernel⟩
theorem ok__law_any (B : Bas S) (B0 : Bas0 S) (B1 : Bas1 P w S base) (R : ErS S names tests sub) (G__law_draw : Fn P w S base 1 "_law_draw" 0 2 den__law_draw) (F : FunD S.K "_law_any" "_law_any" (defArgs s__law_any) (defBody s__law_any) (defScope s__law_any) [] [] f fd) (hm : S.mg "_law_any" = some (.ref f)) : Fn P w S base 2 "_law_any" 0 2 den__law_any :=
  fn_mk (k := 1) (N := N__law_any) (m := m__law_any) F hm sc__law_any rfl (fun _ _ _ _ _ _ us hl => match us, hl with | [_, _], _ => rfl) fun cdv A outer s H E w0 EX => dss_one (ds_ret (de_ix (Ex.toEu EX) (db_var 1) (db (de_call EX G__law_draw (by decide) rfl (da_cons (de_var 0) (da_cons (de_len (Ex.toEu EX) B.b_len (dab_cons (db_var 1) (dab_nil))) (da_nil)))))))
theorem sc__law_web : FnScope N__law_web ["hand", "most"] (defScope s__law_web) := ⟨rfl, rfl, rfl, nd__law_web, rfl, by decide +kernel, by decide +kernel⟩
theorem ok__law_web (B : Bas S) (B0 : Bas0 S) (B1 : Bas1 P w S base) (R : ErS S names tests sub) (G__law_draw : Fn P w S base 1 "_law_draw" 0 2 den__law_draw) (F : FunD S.K "_law_web" "_law_web" (defArgs s__law_web) (defBody s__law_web) (defScope s__law_web) [] [] f fd) (hm : S.mg "_law_web" = some (.ref f)) : Fn P w S base 2 "_law_web" 0 2 den__law_web :=
  fn_mk (k := 1) (N := N__law_web) (m := m__law_web) F hm sc__law_web rfl (fun _ _ _ _ _ _ us hl => match us, hl with | [_, _], _ => rfl) fun cdv A outer s H E w0 EX => dss_cons (ds_parN EX [4, 5] rfl (by decide) (dad_cons (de_add (Ex.toEu EX) (db (de_int)) (db (de_call EX G__law_draw (by decide) rfl (da_cons (de_var 0) (da_cons (de_var 1) (da_nil)))))) (dad_cons (de_add (Ex.toEu EX) (db (de_int)) (db (de_call EX G__law_draw (by decide) rfl (da_cons (de_var 0) (da_cons (de_int) (da_nil)))))) (dad_nil))) (pgr_cons 4 nd__law_web (pgr_cons 5 nd__law_web (pgr_nil)))) (dss_cons (ds_set 2 nd__law_web (de_lst (da_nil))) (dss_cons (ds_for (vs := [3]) body_passes EX.calm (di_rng1 B.b_range (Ex.toEu EX) (da_cons (de_var 4) (da_nil))) (dg_name 3 nd__law_web) (dss_one (ds_set 2 nd__law_web (de_add (Ex.toEu EX) (db_var 2) (db (de_lc (own := [("b", 6)]) EX (by decide) nd__law_web (di_rng2 B.b_range (Ex.toEu EX) (da_cons (de_add (Ex.toEu EX) (db_var 3) (db (de_int))) (da_cons (de_var 4) (da_nil)))) (blk_ok (by kernel_rfl)) ⟨fun s H C cl fp => dg_name 6 nd__law_web, fun s H C cl fp => pts_c (dt_lt (Ex.toEu (Ex.blk EX)) (db (de_call (Ex.blk EX) G__law_draw (by decide) rfl (da_cons (de_var 0) (da_cons (de_int) (da_nil))))) (db_var 5)), fun s H C cl fp => de_tup (da_cons (de_var 3) (da_cons (de_var 6) (da_nil)))⟩)))))) (dss_one (ds_ret (de_tup (da_cons (de_var 4) (da_cons (de_tuple (Ex.toEu EX) B.b_tuple (dab_cons (db_var 2) (dab_nil))) (da_nil))))))))
theorem sc__law_near : FnScope N__law_near ["web"] (defScope s__law_near) := ⟨rfl, rfl, rfl, nd__law_near, rfl, by decide +kernel, by decide +kernel⟩
theorem ok__law_near (B : Bas S) (B0 : Bas0 S) (B1 : Bas1 P w S base) (R : ErS S names tests sub)  (F : FunD S.K "_law_near" "_law_near" (defArgs s__law_near) (defBody s__law_near) (defScope s__law_near) [] [] f fd) (hm : S.mg "_law_near" = some (.ref f)) : Fn P w S base 1 "_law_near" 0 1 den__law_near :=
  fn_mk (k := 0) (N := N__law_near) (m := m__law_near) F hm sc__law_near rfl (fun _ _ _ _ _ _ us hl => match us, hl with | [_], _ => rfl) fun cdv A outer s H E w0 EX => dss_cons (ds_setLc2 (own := [("place", 4)]) EX 1 nd__law_near (di_rng1 B.b_range (Ex.toEu EX) (da_cons (de_ix (Ex.toEu EX) (db_var 0) (db (de_int))) (da_nil))) (blk_ok (by kernel_rfl)) ⟨fun s H C cl fp => dg_name 4 nd__law_near, fun s H C cl fp => pts_none, fun s H C cl fp => de_lst (da_nil)⟩) (dss_cons (ds_for (vs := [2, 3]) body_passes EX.calm (di_seq EX.hK (de_ix (Ex.toEu EX) (db_var 0) (db (de_int)))) (dg_tup EX.hK EX.calm (dgs_cons (dg_name 2 nd__law_near) (dgs_cons (dg_name 3 nd__law_near) (dgs_nil))) (gsCons_len (gsCons_len (fun _ _ _ h => gsNil_len h)))) (dss_cons (ds_mt2 (Ex.toEu EX) 1 PySem.F.slot_list_append rfl mt_append simU_app (de_var 2) (daf (da_cons (de_var 3) (da_nil)))) (dss_one (ds_mt2 (Ex.toEu EX) 1 PySem.F.slot_list_append rfl mt_append simU_app (de_var 3) (daf (da_cons (de_var 2) (da_nil))))))) (dss_frz 1 (dss_one (ds_ret (de_lc (own := [("some", 5)]) EX (by decide) nd__law_near (di_seqB EX.hK (db_var 1)) (blk_ok (by kernel_rfl)) ⟨fun s H C cl fp => dg_name 5 nd__law_near, fun s H C cl fp => pts_none, fun s H C cl fp => de_sorted (Ex.toEu (Ex.blk EX)) B.b_sorted (by decide) (dab_cons (db_var 5) (dab_nil))⟩)))))
theorem sc__law_no_web : FnScope N__law_no_web ["hand"] (defScope s__law_no_web) := ⟨rfl, rfl, rfl, nd__law_no_web, rfl, by decide +kernel, by decide +kernel⟩
theorem ok__law_no_web (B : Bas S) (B0 : Bas0 S) (B1 : Bas1 P w S base) (R : ErS S names tests sub) (G__law_any : Fn P w S base 2 "_law_any" 0 2 den__law_any) (F : FunD S.K "_law_no_web" "_law_no_web" (defArgs s__law_no_web) (defBody s__law_no_web) (defScope s__law_no_web) [] [] f fd) (hm : S.mg "_law_no_web" = some (.ref f)) : Fn P w S base 3 "_law_no_web" 0 1 den__law_no_web :=
  fn_mk (k := 2) (N := N__law_no_web) (m := m__law_no_web) F hm sc__law_no_web rfl (fun _ _ _ _ _ _ us hl => match us, hl with | [_], _ => rfl) fun cdv A outer s H E w0 EX => dss_cons (ds_set 1 nd__law_no_web (de_lst (da_cons (de_non) (da_cons (de_tup (da_nil)) (da_cons (de_int) (da_cons (de_tup (da_cons (de_int) (da_nil))) (da_cons (de_lst (da_cons (de_int) (da_cons (de_tup (da_nil)) (da_nil)))) (da_cons (de_tup (da_cons (de_int) (da_cons (de_tup (da_nil)) (da_nil)))) (da_cons (de_tup (da_cons (de_int) (da_cons (de_tup (da_nil)) (da_nil)))) (da_cons (de_tup (da_cons (de_int) (da_cons (de_lst (da_cons (de_tup (da_cons (de_int) (da_cons (de_int) (da_nil)))) (da_nil))) (da_nil)))) (da_cons (de_tup (da_cons (de_int) (da_cons (de_tup (da_cons (de_tup (da_cons (de_int) (da_cons (de_int) (da_nil)))) (da_nil))) (da_nil)))) (da_cons (de_tup (da_cons (de_int) (da_cons (de_tup (da_cons (de_tup (da_cons (de_int) (da_cons (de_int) (da_nil)))) (da_nil))) (da_nil)))) (da_cons (de_tup (da_cons (de_int) (da_cons (de_tup (da_cons (de_tup (da_cons (de_int) (da_cons (de_int) (da_nil)))) (da_nil))) (da_nil)))) (da_nil)))))))))))))) (dss_one (ds_ret (de_call EX G__law_any (by decide) rfl (da_cons (de_var 0) (da_cons (de_add (Ex.toEu EX) (db_var 1) (db (de_lst (da_cons (de_tup (da_cons (de_int) (da_cons (de_tup (da_cons (de_tup (da_cons (de_int) (da_cons (de_int) (da_nil)))) (da_cons (de_tup (da_cons (de_int) (da_cons (de_int) (da_nil)))) (da_nil)))) (da_nil)))) (da_cons (de_tup (da_cons (de_int) (da_cons (de_tup (da_cons (de_tup (da_cons (de_int) (da_cons (de_int) (da_nil)))) (da_cons (de_tup (da_cons (de_int) (da_cons (de_int) (da_nil)))) (da_nil)))) (da_nil)))) (da_cons (de_tup (da_cons (de_bl) (da_cons (de_tup (da_nil)) (da_nil)))) (da_cons (de_tup (da_cons (de_int) (da_cons (de_tup (da_cons (de_tup (da_cons (de_int) (da_cons (de_bl) (da_nil)))) (da_nil))) (da_nil)))) (da_cons (de_dk0) (da_nil))))))))) (da_nil))))))
theorem sc__law_paintings : FnScope N__law_paintings ["web", "k"] (defScope s__law_paintings) := ⟨rfl, rfl, rfl, nd__law_paintings, rfl, by decide +kernel, by decide +kernel⟩
theorem ok__law_paintings (B : Bas S) (B0 : Bas0 S) (B1 : Bas1 P w S base) (R : ErS S names tests sub) (G__law_near : Fn P w S base 1 "_law_near" 0 1 den__law_near) (F : FunD S.K "_law_paintings" "_law_paintings" (defArgs s__law_paintings) (defBody s__law_paintings) (defScope s__law_paintings) [] [] f fd) (hm : S.mg "_law_paintings" = some (.ref f)) : Fn P w S base 2 "_law_paintings" 0 2 den__law_paintings :=
  fn_mk (k := 1) (N := N__law_paintings) (m := m__law_paintings) F hm sc__law_paintings rfl (fun _ _ _ _ _ _ us hl => match us, hl with | [_, _], _ => rfl) fun cdv A outer s H E w0 EX => dss_cons (ds_par2 EX 3 4 rfl nd__law_paintings (dad_cons (de_call EX G__law_near (by decide) rfl (da_cons (de_var 0) (da_nil))) (dad_cons (de_lst (da_cons (de_tup (da_nil)) (da_nil))) (dad_nil)))) (dss_cons (ds_for (vs := [2]) body_passes EX.calm (di_rng1 B.b_range (Ex.toEu EX) (da_cons (de_ix (Ex.toEu EX) (db_var 0) (db (de_int))) (da_nil))) (dg_name 2 nd__law_paintings) (dss_cons (ds_set 5 nd__law_paintings (de_lst (da_nil))) (dss_cons (ds_for (vs := [6]) body_passes EX.calm (di_seq EX.hK (de_var 4)) (dg_name 6 nd__law_paintings) (dss_cons (ds_set 7 nd__law_paintings (de_lc (own := [("other", 8)]) EX (by decide) nd__law_paintings (di_seq EX.hK (de_ix (Ex.toEu EX) (db_var 3) (db_var 2))) (blk_ok (by kernel_rfl)) ⟨fun s H C cl fp => dg_name 8 nd__law_paintings, fun s H C cl fp => pts_c (dt_lt (Ex.toEu (Ex.blk EX)) (db_var 8) (db_var 2)), fun s H C cl fp => de_ix (Ex.toEu (Ex.blk EX)) (db_var 6) (db_var 8)⟩)) (dss_one (ds_set 5 nd__law_paintings (de_add (Ex.toEu EX) (db_var 5) (db (de_lc (own := [("colour", 9)]) EX (by decide) nd__law_paintings (di_rng1 B.b_range (Ex.toEu EX) (da_cons (de_var 1) (da_nil))) (blk_ok (by kernel_rfl)) ⟨fun s H C cl fp => dg_name 9 nd__law_paintings, fun s H C cl fp => pts_c (dt_notin (Ex.toEu (Ex.blk EX)) (db_var 9) (db_var 7)), fun s H C cl fp => de_add (Ex.toEu (Ex.blk EX)) (db_var 6) (db (de_tup (da_cons (de_var 9) (da_nil))))⟩))))))) (dss_one (ds_set 4 nd__law_paintings (de_var 5)))))) (dss_one (ds_ret (de_var 4))))
theorem sc__law_plain : FnScope N__law_plain ["web"] (defScope s__law_plain) := ⟨rfl, rfl, rfl, nd__law_plain, rfl, by decide +kernel, by decide +kernel⟩
theorem ok__law_plain (B : Bas S) (B0 : Bas0 S) (B1 : Bas1 P w S base) (R : ErS S names tests sub) (G__law_near : Fn P w S base 1 "_law_near" 0 1 den__law_near) (F : FunD S.K "_law_plain" "_law_plain" (defArgs s__law_plain) (defBody s__law_plain) (defScope s__law_plain) [] [] f fd) (hm : S.mg "_law_plain" = some (.ref f)) : Fn P w S base 2 "_law_plain" 0 1 den__law_plain :=
  fn_mk (k := 1) (N := N__law_plain) (m := m__law_plain) F hm sc__law_plain rfl (fun _ _ _ _ _ _ us hl => match us, hl with | [_], _ => rfl) fun cdv A outer s H E w0 EX => dss_cons (ds_par2 EX 2 3 rfl nd__law_plain (dad_cons (de_call EX G__law_near (by decide) rfl (da_cons (de_var 0) (da_nil))) (dad_cons (de_lst (da_cons (de_tup (da_nil)) (da_nil))) (dad_nil)))) (dss_cons (ds_for (vs := [1]) body_passes EX.calm (di_rng1 B.b_range (Ex.toEu EX) (da_cons (de_ix (Ex.toEu EX) (db_var 0) (db (de_int))) (da_nil))) (dg_name 1 nd__law_plain) (dss_cons (ds_set 4 nd__law_plain (de_lst (da_nil))) (dss_cons (ds_for (vs := [5]) body_passes EX.calm (di_seq EX.hK (de_var 3)) (dg_name 5 nd__law_plain) (dss_cons (ds_set 6 nd__law_plain (de_lc (own := [("other", 8)]) EX (by decide) nd__law_plain (di_seq EX.hK (de_ix (Ex.toEu EX) (db_var 2) (db_var 1))) (blk_ok (by kernel_rfl)) ⟨fun s H C cl fp => dg_name 8 nd__law_plain, fun s H C cl fp => pts_c (dt_lt (Ex.toEu (Ex.blk EX)) (db_var 8) (db_var 1)), fun s H C cl fp => de_ix (Ex.toEu (Ex.blk EX)) (db_var 5) (db_var 8)⟩)) (dss_cons (ds_set 7 nd__law_plain (de_add (Ex.toEu EX) (db (de_maxX EX B.b_max (dab_cons (db (de_add (Ex.toEu EX) (db_var 5) (db (de_tup (da_cons (de_neg (db (de_int))) (da_nil)))))) (dab_nil)))) (db (de_int)))) (dss_one (ds_set 4 nd__law_plain (de_add (Ex.toEu EX) (db_var 4) (db (de_lc (own := [("colour", 9)]) EX (by decide) nd__law_plain (di_rng1 B.b_range (Ex.toEu EX) (da_cons (de_var 7) (da_nil))) (blk_ok (by kernel_rfl)) ⟨fun s H C cl fp => dg_name 9 nd__law_plain, fun s H C cl fp => pts_c (dt_notin (Ex.toEu (Ex.blk EX)) (db_var 9) (db_var 6)), fun s H C cl fp => de_add (Ex.toEu (Ex.blk EX)) (db_var 5) (db (de_tup (da_cons (de_var 9) (da_nil))))⟩)))))))) (dss_one (ds_set 3 nd__law_plain (de_var 4)))))) (dss_one (ds_ret (de_var 3))))
theorem sc__law_names : FnScope N__law_names ["hand", "n"] (defScope s__law_names) := ⟨rfl, rfl, rfl, nd__law_names, rfl, by decide +kernel, by decide +kernel⟩
theorem ok__law_names (B : Bas S) (B0 : Bas0 S) (B1 : Bas1 P w S base) (R : ErS S names tests sub) (G__law_draw : Fn P w S base 1 "_law_draw" 0 2 den__law_draw) (F : FunD S.K "_law_names" "_law_names" (defArgs s__law_names) (defBody s__law_names) (defScope s__law_names) [] [] f fd) (hm : S.mg "_law_names" = some (.ref f)) : Fn P w S base 2 "_law_names" 0 2 den__law_names :=
  fn_mk (k := 1) (N := N__law_names) (m := m__law_names) F hm sc__law_names rfl (fun _ _ _ _ _ _ us hl => match us, hl with | [_, _], _ => rfl) fun cdv A outer s H E w0 EX => dss_cons (ds_par2 EX 3 4 rfl nd__law_names (dad_cons (de_listR1 EX B.b_list B.b_range (de_var 1)) (dad_cons (de_lst (da_nil)) (dad_nil)))) (dss_cons (ds_for (vs := [2]) body_passes EX.calm (di_rng1 B.b_range (Ex.toEu EX) (da_cons (de_var 1) (da_nil))) (dg_name 2 nd__law_names) (dss_one (ds_appPop 4 3 PySem.F.slot_list_pop rfl mt_popAt simU_popAt (daf (da_cons (de_call EX G__law_draw (by decide) rfl (da_cons (de_var 0) (da_cons (de_len (Ex.toEu EX) B.b_len (dab_cons (db_var 3) (dab_nil))) (da_nil)))) (da_nil))) (by decide)))) (dss_one (ds_ret (de_tuple (Ex.toEu EX) B.b_tuple (dab_cons (db_var 4) (dab_nil))))))
theorem sc__law_word : FnScope N__law_word ["call"] (defScope s__law_word) := ⟨rfl, rfl, rfl, nd__law_word, rfl, by decide +kernel, by decide +kernel⟩
theorem ok__law_word (B : Bas S) (B0 : Bas0 S) (B1 : Bas1 P w S base) (R : ErS S names tests sub)  (F : FunD S.K "_law_word" "_law_word" (defArgs s__law_word) (defBody s__law_word) (defScope s__law_word) [] [] f fd) (hm : S.mg "_law_word" = some (.ref f)) : WordFn P w S base 0 "_law_word" den__law_word := by
  obtain ⟨oc, od, dV, kV, doc, pm, an, cdv, ct, osl, rfl, lk, hcd, _, _⟩ := F.ex
  refine ⟨f, _, defBody s__law_word, _, dV, kV, doc, pm, cdv, ct, oc, an, od, osl, N__law_word, "call", m__law_word, hm, F.kp, lk, hcd, F.bindsN (fun _ _ _ _ _ _ us hl => match us, hl with | [_], _ => rfl), sc__law_word, rfl, .inl rfl, by decide, by decide, rfl, fun A outer s H l f b w0 EX ACT => ?_⟩
  have B : Bas (S.more l) := { B with }
  have R := R.more (l := l)
  have U := EX.toEu
  exact dss_cons (ds_set 1 nd__law_word (de_str)) (dss_cons (ds_tryAct EX nd__law_word R ACT (HdsC.as (by rfl) (by decide) (by decide) (by rfl) (by rfl) (fun a oe cls dd pn hz hf => dss_one (ds_set 1 nd__law_word (de_fldE 2 U (Er1.more B1.e_TooMany) hz hf))) (HdsC.as (by rfl) (by decide) (by decide) (by rfl) (by rfl) (fun a oe cls dd pn hz hf => dss_cons (ds_set 3 nd__law_word (de_lst (da_cons (de_isE 2 U R hz hf B.b_isinstance (by decide)) (da_cons (de_isE 2 U R hz hf B.b_isinstance (by decide)) (da_nil))))) (dss_cons (ds_set 4 nd__law_word (de_lst (da_cons (de_str) (da_cons (de_str) (da_nil))))) (dss_one (ds_set 1 nd__law_word (de_if (dt_eq (Eu.suite U) (db (de_cnt (Eu.suite U) (db_var 3) (db (de_bl)))) (db (de_int))) (de_ix (Eu.suite U) (db_var 4) (db (de_idx (Eu.suite U) (db_var 3) (db (de_bl))))) (de_str)))))) (HdsC.nil)))) (dss_one (ds_ret (de_var 1))))
theorem sc_law : FnScope N_law ["script"] (defScope s_law) := ⟨rfl, rfl, rfl, nd_law, rfl, by decide +kernel, by decide +kernel⟩
def lamQ : Str := (envOfC "law" (defScope s_law) 0 0 .none).qual ++ "<lambda>"
open LamX in
theorem ok_law {oc ct cdv dV kV doc pm : Value} {od an : Option Addr} {osl : Array (Option Value)} (B : Bas S) (B0 : Bas0 S) (B1 : Bas1 P w S base) (R : ErS S names tests sub) (G__law_any : Fn P w S base 2 "_law_any" 0 2 den__law_any) (G__law_draw : Fn P w S base 1 "_law_draw" 0 2 den__law_draw) (G__law_names : Fn P w S base 2 "_law_names" 0 2 den__law_names) (G__law_no_web : Fn P w S base 3 "_law_no_web" 0 1 den__law_no_web) (G__law_paintings : Fn P w S base 2 "_law_paintings" 0 2 den__law_paintings) (G__law_plain : Fn P w S base 2 "_law_plain" 0 1 den__law_plain) (G__law_web : Fn P w S base 2 "_law_web" 0 2 den__law_web) (G__law_word : WordFn P w S base 0 "_law_word" den__law_word) (G_all_plain : Fn P w S base 8 "all_plain" 0 2 den_all_plain) (G_how_many_paintings : Fn P w S base 8 "how_many_paintings" 0 2 den_how_many_paintings) (G_plain_count : Fn P w S base 8 "plain_count" 0 2 den_plain_count) (G_renamed : Fn P w S base 7 "renamed" 0 2 den_renamed) (G__law_hand : HandFn P w S base 1 "_law_hand") (LMc : ∃ c Pt, cdv = .ref c ∧ TabB base S.mg c Pt ∧ S.tb = [(Pt, lamQ)]) (hd : m_law lawEnd ((List.replicate 16 Sl.no).set 1 (.va 0 .hand)))
    (lk : S.K.lookup f = some ⟨oc, od, .func (PySem.W.fnOf "law" "law" (defArgs s_law) (defBody s_law) (defScope s_law) dV kV doc pm an cdv ct), osl⟩) (hcd : PySem.W.codeIn S.K cdv "law" = true) : FnOk P w S.K S.mg base (L2.CX P w) 11 f (PySem.W.fnOf "law" "law" (defArgs s_law) (defBody s_law) (defScope s_law) dV kV doc pm an cdv ct) ["script"] (spLaw S) :=
  law_fn (k := 10) (N := N_law) (j := 1) (m := m_law) lk hcd sc_law (HandFn.mono G__law_hand (by decide)) rfl (by first | exact .inl rfl | exact .inr (.inl rfl)) rfl (by first | exact .inl rfl | exact .inr rfl) rfl (by decide) (by decide) (by decide) (by decide) (by intros; rfl) (fun A outer s H E w0 EX => by
    have LM : Lam (bodyX P w S base N_law "law" (defScope s_law) f cdv A outer s H E) S := by
      obtain ⟨c, Pt, h1, h2, h3⟩ := LMc
      exact ⟨c, Pt, h1, h2, by rw [h3]; exact List.mem_cons_self, fun p hp _ => by rw [h3] at hp; rw [List.mem_singleton.mp hp]; rfl⟩
    exact dss_cons (ds_for (vs := [2]) body_passes EX.calm (di_rng1 B.b_range (Ex.toEu EX) (da_cons (de_int) (da_nil))) (dg_name 2 nd_law) (dss_cons (ds_set 3 nd_law (de_call EX G__law_web (by decide) rfl (da_cons (de_var 1) (da_cons (de_int) (da_nil))))) (dss_cons (ds_set 4 nd_law (de_add (Ex.toEu EX) (db (de_int)) (db (de_call EX G__law_draw (by decide) rfl (da_cons (de_var 1) (da_cons (de_int) (da_nil))))))) (dss_cons (ds_par2 EX 8 9 rfl nd_law (dad_cons (de_call EX G__law_plain (by decide) rfl (da_cons (de_var 3) (da_nil))) (dad_cons (de_call EX G__law_paintings (by decide) rfl (da_cons (de_var 3) (da_cons (de_var 4) (da_nil)))) (dad_nil)))) (dss_cons (ds_if (dt_ne (Ex.toEu EX) (db (de_call EX G_how_many_paintings (by decide) rfl (da_cons (de_var 3) (da_cons (de_var 4) (da_nil))))) (db (de_len (Ex.toEu EX) B.b_len (dab_cons (db_var 9) (dab_nil))))) (dss_one (ds_ret (de_bl))) (dss_nil)) (dss_cons (ds_parN EX [10, 11] rfl (by decide) (dad_cons (de_int) (dad_cons (de_int) (dad_nil))) (pgr_cons 10 nd_law (pgr_cons 11 nd_law (pgr_nil)))) (dss_cons (ds_for (vs := [5]) body_passes EX.calm (di_rng2 B.b_range (Ex.toEu EX) (da_cons (de_int) (da_cons (de_add (Ex.toEu EX) (db_var 4) (db (de_int))) (da_nil)))) (dg_name 5 nd_law) (dss_cons (ds_set 11 nd_law (de_mul (Ex.toEu EX) (db_var 11) (db (de_sub (db (de_add (Ex.toEu EX) (db_var 4) (db (de_int)))) (db_var 5))))) (dss_cons (ds_set 12 nd_law (de_tuple (Ex.toEu EX) B.b_tuple (dab_cons (db (de_lc (own := [("row", 15)]) EX (by decide) nd_law (di_seqB EX.hK (db_var 8)) (blk_ok (by kernel_rfl)) ⟨fun s H C cl fp => dg_name 15 nd_law, fun s H C cl fp => pts_c (dt_eq (Ex.toEu (Ex.blk EX)) (db (de_add (Ex.toEu (Ex.blk EX)) (db (de_maxX (Ex.blk EX) B.b_max (dab_cons (db_var 15) (dab_nil)))) (db (de_int)))) (db_var 5)), fun s H C cl fp => de_var 15⟩)) (dab_nil)))) (dss_cons (ds_if (dt_w (dw_or (dt_ne (Ex.toEu EX) (db (de_call EX G_plain_count (by decide) rfl (da_cons (de_var 3) (da_cons (de_var 5) (da_nil))))) (db (de_len (Ex.toEu EX) B.b_len (dab_cons (db_var 12) (dab_nil))))) (dw_or1 (dt_ne (Ex.toEu EX) (db (de_call EX G_all_plain (by decide) rfl (da_cons (de_var 3) (da_cons (de_var 5) (da_nil))))) (db_var 12))))) (dss_one (ds_ret (de_bl))) (dss_nil)) (dss_one (ds_set 10 nd_law (de_add (Ex.toEu EX) (db_var 10) (db (de_mul (Ex.toEu EX) (db (de_len (Ex.toEu EX) B.b_len (dab_cons (db_var 12) (dab_nil)))) (db_var 11)))))))))) (dss_cons (ds_if (dt_ne (Ex.toEu EX) (db_var 10) (db (de_len (Ex.toEu EX) B.b_len (dab_cons (db_var 9) (dab_nil))))) (dss_one (ds_ret (de_bl))) (dss_nil)) (dss_cons (ds_set 6 nd_law (de_call EX G_renamed (by decide) rfl (da_cons (de_var 3) (da_cons (de_call EX G__law_names (by decide) rfl (da_cons (de_var 1) (da_cons (de_ix (Ex.toEu EX) (db_var 3) (db (de_int))) (da_nil)))) (da_nil))))) (dss_cons (ds_if (dt_w (dw_or (dt_ne (Ex.toEu EX) (db (de_call EX G_how_many_paintings (by decide) rfl (da_cons (de_var 6) (da_cons (de_var 4) (da_nil))))) (db (de_len (Ex.toEu EX) B.b_len (dab_cons (db_var 9) (dab_nil))))) (dw_or1 (dt_ne (Ex.toEu EX) (db (de_call EX G_plain_count (by decide) rfl (da_cons (de_var 6) (da_cons (de_var 4) (da_nil))))) (db (de_call EX G_plain_count (by decide) rfl (da_cons (de_var 3) (da_cons (de_var 4) (da_nil))))))))) (dss_one (ds_ret (de_bl))) (dss_nil)) (dss_cons (ds_parN EX [13, 14] rfl (by decide) (dad_cons (de_call EX G__law_no_web (by decide) rfl (da_cons (de_var 1) (da_nil))) (dad_cons (de_call EX G__law_any (by decide) rfl (da_cons (de_var 1) (da_cons (de_lst (da_cons (de_non) (da_cons (de_int) (da_cons (de_int) (da_cons (de_bl) (da_cons (de_str) (da_nil))))))) (da_nil)))) (dad_nil))) (pgr_cons 13 nd_law (pgr_cons 14 nd_law (pgr_nil)))) (dss_cons (ds_set 7 nd_law (de_lst (da_cons (de_word EX G__law_word LM (by decide) (fun A outer s H E f c' EX => de_call EX G_how_many_paintings (by decide) rfl (da_cons (de_var 13) (da_cons (de_var 14) (da_nil)))) (by decide)) (da_nil)))) (dss_cons (ds_mt 7 PySem.F.slot_list_append rfl mt_append simU_app (daf (da_cons (de_word EX G__law_word LM (by decide) (fun A outer s H E f c' EX => de_call EX G_how_many_paintings (by decide) rfl (da_cons (de_var 3) (da_cons (de_var 14) (da_nil)))) (by decide)) (da_nil)))) (dss_cons (ds_mt 7 PySem.F.slot_list_append rfl mt_append simU_app (daf (da_cons (de_word EX G__law_word LM (by decide) (fun A outer s H E f c' EX => de_call EX G_plain_count (by decide) rfl (da_cons (de_var 13) (da_cons (de_var 14) (da_nil)))) (by decide)) (da_nil)))) (dss_cons (ds_mt 7 PySem.F.slot_list_append rfl mt_append simU_app (daf (da_cons (de_word EX G__law_word LM (by decide) (fun A outer s H E f c' EX => de_call EX G_plain_count (by decide) rfl (da_cons (de_var 3) (da_cons (de_var 14) (da_nil)))) (by decide)) (da_nil)))) (dss_cons (ds_mt 7 PySem.F.slot_list_append rfl mt_append simU_app (daf (da_cons (de_word EX G__law_word LM (by decide) (fun A outer s H E f c' EX => de_call EX G_all_plain (by decide) rfl (da_cons (de_var 3) (da_cons (de_var 14) (da_nil)))) (by decide)) (da_nil)))) (dss_one (ds_if (dt_ne (Ex.toEu EX) (db_var 7) (db (de_lst (da_cons (de_str) (da_cons (de_str) (da_cons (de_str) (da_cons (de_str) (da_cons (de_str) (da_nil))))))))) (dss_one (ds_ret (de_bl))) (dss_nil))))))))))))))))))) (dss_one (ds_ret (de_bl)))) hd
end
end Wk05

/-! what stands alike in other laws (printed by port.py) -/
namespace Wk05
open PySem PySem.Spec PyProof.Rows L2 Twl
theorem c_ix0 {Q : T → Prop} {E : Exn → Prop} (a b c d e : T) : gIx (.lst [a, b, c, d, e]) (.int 0) Q E ↔ Q a := Iff.rfl
theorem c_ix1 {Q : T → Prop} {E : Exn → Prop} (a b c d e : T) : gIx (.lst [a, b, c, d, e]) (.int 1) Q E ↔ Q b := Iff.rfl
theorem c_ix2 {Q : T → Prop} {E : Exn → Prop} (a b c d e : T) : gIx (.lst [a, b, c, d, e]) (.int 2) Q E ↔ Q c := Iff.rfl
theorem c_ix3 {Q : T → Prop} {E : Exn → Prop} (a b c d e : T) : gIx (.lst [a, b, c, d, e]) (.int 3) Q E ↔ Q d := Iff.rfl
theorem c_ix4 {Q : T → Prop} {E : Exn → Prop} (a b c d e : T) : gIx (.lst [a, b, c, d, e]) (.int 4) Q E ↔ Q e := Iff.rfl
theorem c_len {Q : T → Prop} {E : Exn → Prop} (ts : List T) : g1 gLen [.lst ts] Q E ↔ Q (.int ts.length) := Iff.rfl
theorem c_int {Q : T → Prop} {E : Exn → Prop} (i : Int) : g1 gInt [.int i] Q E ↔ Q (.int i) := Iff.rfl
theorem c_abs {Q : T → Prop} {E : Exn → Prop} (i : Int) : g1 gAbs [.int i] Q E ↔ Q (.int (if i < 0 then -i else i)) := Iff.rfl
theorem c_at {Q : T → Prop} {E : Exn → Prop} (cells : List Int) (i : Int) (h0 : 0 ≤ i) (h1 : i < cells.length) : gIx (.lst (cells.map T.int)) (.int i) Q E ↔ Q (.int (cells[i.toNat]'(by omega))) := by
  unfold gIx ofO atI ixN
  have h2 : i.toNat < cells.length := by omega
  simp [h0, h1, h2]
theorem cm_r (i j : Int) (h1 : -(2 ^ 64) < j) (h2 : j < 2 ^ 64) : (CMul i j ∨ CMulW i j) = True := eq_true (CMul_r h1 h2)
theorem cm_l (i j : Int) (h1 : -(2 ^ 64) < i) (h2 : i < 2 ^ 64) : (CMul i j ∨ CMulW i j) = True := eq_true (CMul_l h1 h2)
theorem cm_m (i j c : Int) (h1 : 0 < c) (h2 : c < 2 ^ 64) : (CMul (i % c) j ∨ CMulW (i % c) j) = True := by
  have a := Int.emod_nonneg i (b := c) (by omega)
  have b := Int.emod_lt_of_pos i h1
  exact eq_true (CMul_l (by omega) (by omega))
theorem cd_l (i j : Int) (h1 : 0 < j) (h2 : j < 2 ^ 64) : CDivW i j = True := eq_true (CDivW_of h1 h2)
theorem cp_l : CPow 10 18 = True := eq_true ⟨by decide, by decide, by decide⟩
theorem ex_map (cells : List Int) : (∃ x, List.map T.int cells = List.map T.int x) = True := eq_true ⟨cells, rfl⟩
theorem draw_ok (p : Addr) (cells : List Int) (i r mm kk n : Int) (hi : 0 ≤ i) (hn : 0 < n) (hn2 : n < 2 ^ 64) : m__law_draw (drawEnd p n) (.hs p (hdT cells i r mm kk) :: .va 0 (.int n) :: List.replicate (5 - 2) .no) := by
  have hD : ∀ j, CDivW j n := fun j => CDivW_of hn hn2
  have ha : ∀ z : Int, 0 ≤ z % n := fun z => Int.emod_nonneg _ (by omega)
  have hb : ∀ z : Int, z % n < n := fun z => Int.emod_lt_of_pos _ hn
  have hi1 : 0 ≤ i + 1 := by omega
  by_cases h1 : r = 0 <;> by_cases h2 : i < (cells.length : Int)
  all_goals simp [m__law_draw, sSeq, sIf, mAnd, mB, mBin, mVarH, mCon, mCall, mCons, mNil, mVarB, mVar, sSet, sStH, sRet, sNil, hdT, c_ix0, c_ix1, c_ix2, c_ix3, c_ix4, c_len, c_int, cI, ixN, h1, h2, c_at, hi, drawEnd, hD, and_assoc, cm_r, cm_l, cm_m, cd_l, cp_l, ex_map, ha, hb, hn, hi1]
  all_goals omega
def absT : T → T
  | .int i => .int (if i < 0 then -i else i)
  | t => t
theorem hand_ok (p : Addr) (ns : List Int) : m__law_hand handEnd (.sc p ns :: List.replicate (3 - 1) .no) := by
  unfold m__law_hand sSeq sSet
  have e1 : Ev (mScr 0 63 (.sc p ns :: List.replicate (3 - 1) .no)) ((cutL ns none (some 63)).map T.int) := fun Q E q => ⟨p, ns, rfl, by rw [cutL_map]; exact q⟩
  refine mLc_ev (fun _ => true) absT e1 (fun t ht => ?_) _ _ ?_
  · obtain ⟨i, _, rfl⟩ := List.mem_map.mp ht
    exact ⟨_, rfl, Ev.ret true, fun _ Q E q => ⟨0, .int i, rfl, by decide, q⟩⟩
  · have e2 : (((cutL ns none (some 63)).map T.int).filter (fun _ => true)).map absT = ((cutL ns none (some 63)).map fun i => if i < 0 then -i else i).map T.int := by
      rw [List.filter_eq_self.mpr (fun _ _ => rfl), List.map_map, List.map_map]
      rfl
    rw [e2]
    generalize ((cutL ns none (some 63)).map fun i => if i < 0 then -i else i) = cells
    simp [sRet, mLst, mCons, mVar, mCon, mBin, mCall, mNil, mVarB, handEnd, hdT, c_len, cm_l, sizeLine, and_assoc, ex_map]
theorem is_integer_k {t : T} {m : String} {b1 b2 : Bool} (h : t.tyn = some m) (k1 : kitB m "int" = some b1) (k2 : kitB m "bool" = some b2) : Ev (den_is_integer [t]) (.bl (b1 && !b2)) := by
  intro Q E q
  unfold den_is_integer fnDen m_is_integer
  refine i_ret ?_ q
  exact v_and (e_call (e_cons (e_varB rfl (Nat.zero_le 1)) (e_cons e_con e_nil)) (e_isi h k1)) fun _ =>
    v_not (e_call (e_cons (e_varB rfl (Nat.zero_le 1)) (e_cons e_con e_nil)) (e_isi h k2))
theorem is_integer_ev {t : T} (h : kin t = true) : Ev (den_is_integer [t]) (.bl (isI t)) := by
  cases t with
  | non => exact is_integer_k (m := "NoneType") rfl rfl rfl
  | bl b => exact is_integer_k (m := "bool") rfl rfl rfl
  | int i => exact is_integer_k (m := "int") rfl rfl rfl
  | str x => exact is_integer_k (m := "str") rfl rfl rfl
  | tup ts => exact is_integer_k (m := "tuple") rfl rfl rfl
  | lst ts => exact is_integer_k (m := "list") rfl rfl rfl
  | dk ks ts => exact is_integer_k (m := "dict") rfl rfl rfl
  | dt ks ts => exact is_integer_k (m := "dict") rfl rfl rfl
  | _ => cases h
theorem is_within_ev {t : T} (h : kin t = true) (lo hi : Int) : Ev (den_is_within [t, .int lo, .int hi]) (.bl (wthn t lo hi)) := by
  intro Q E q
  unfold den_is_within fnDen m_is_within
  refine i_ret (t := .bl (wthn t lo hi)) ?_ q
  have e : wthn t lo hi = (isI t && wthn t lo hi) := by cases t <;> rfl
  rw [e]
  refine v_and (e_ucall (e_cons (e_var rfl) e_nil) rfl (is_integer_ev h)) fun hi' => ?_
  cases t with
  | int i => exact v_chain (e_varB rfl (Nat.zero_le 1)) (e_varB rfl (Nat.zero_le 1)) (e_rel lo i) fun _ => ⟨e_varB rfl (Nat.zero_le 1), e_rel i hi⟩
  | _ => cases hi'
def sizedB (t : T) (lo hi : Int) : Bool := match t with
  | .tup ts => decide (lo ≤ (ts.length : Int)) && decide ((ts.length : Int) ≤ hi)
  | _ => false
theorem is_sized_ev {t : T} (h : kin t = true) (lo hi : Int) : Ev (den_is_sized [t, .int lo, .int hi]) (.bl (sizedB t lo hi)) := by
  intro Q E q
  unfold den_is_sized fnDen m_is_sized
  refine i_ret (t := .bl (sizedB t lo hi)) ?_ q
  have e : sizedB t lo hi = (isTup t && sizedB t lo hi) := by cases t <;> rfl
  rw [e]
  refine v_and (e_call (e_cons (e_varB rfl (Nat.zero_le 1)) (e_cons e_con e_nil)) (e_isTup h)) fun hi' => ?_
  cases t with
  | tup ts => exact v_chain (e_varB rfl (Nat.zero_le 1)) (e_call (e_cons (e_varB rfl (Nat.zero_le 1)) e_nil) (e_lenT ts)) (e_rel lo _) fun _ => ⟨e_varB rfl (Nat.zero_le 1), e_rel _ hi⟩
  | _ => cases hi'
theorem is_lot_ev {t : T} (h : t.kn = true) (many : Int) : Ev (den_is_lot [t, .int many]) (.bl (lotB t many)) := by
  intro Q E q
  unfold den_is_lot fnDen m_is_lot
  refine i_seq ?_
  by_cases ht : isTup t = true
  · obtain ⟨ts, rfl⟩ := isTup_inv ht
    have hk := kns_kin h
    refine i_if (b_or (b_not (b_val (e_call (e_cons (e_varB rfl (Nat.zero_le 1)) (e_cons e_con e_nil)) (e_isTup (T.kn.kin h))))) fun _ => b_not (b_val (e_allLc (fun u => wthn u 0 (many - 1)) (e_srcT (e_varB rfl (Nat.zero_le 1))) fun u hu =>
      ⟨_, rfl, e_ucall (e_cons (e_var rfl) (e_cons e_con (e_cons (e_bin (e_varB rfl (Nat.zero_le 1)) e_con (e_subI _ _)) e_nil))) rfl (is_within_ev (hk u hu) 0 (many - 1))⟩))) (fun hv => ?_) (fun hv => ?_)
    · refine i_ret e_con ?_
      rw [lotB_no (by simpa [isTup] using hv)] at q
      exact q
    · obtain ⟨ns, rfl, hin⟩ := wthn_ints (ts := ts) (lo := 0) (hi := many - 1) (by simpa [isTup] using hv)
      refine i_nil ?_
      rw [lotB_ints, hin] at q
      have ea : ascI ns = ((ns.zip (ns.drop 1)).map fun p => T.tup [.int p.1, .int p.2]).all (fun t => match t with | .tup [.int a, .int b] => decide (a < b) | _ => false) := by
        unfold ascI; rw [List.all_map]; rfl
      have q : Q (.bl (ascI ns)) := by simpa using q
      dsimp only
      refine i_ret (t := .bl (ascI ns)) ?_ q
      rw [ea]
      refine e_allLc _ ?_ fun u hu => ?_
      · have := e_zpT (env := [.va 0 (.tup (ns.map T.int)), .va 0 (.int many), .no, .no]) (mas := mCons (mVarB 0) (mCons (mSl (mVarB 0) (mPart (mCon (.int 1))) mNoPart) mNil)) (ts := ns.map T.int) (us := (ns.map T.int).drop 1) (e_cons (e_varB rfl (Nat.zero_le 1)) (e_cons (e_sl1T (e_varB rfl (Nat.zero_le 1))) e_nil))
        rw [← List.map_drop, zpT_ints] at this
        exact this
      · obtain ⟨p, _, rfl⟩ := List.mem_map.mp hu
        exact ⟨_, rfl, e_bin (e_varB rfl (Nat.zero_le 1)) (e_varB rfl (Nat.zero_le 1)) (e_rel p.1 p.2)⟩
  · refine i_if (v := true) (b_or (v := true) (u := true) ?_ fun hh => by cases hh) (fun _ => ?_) (fun hv => by cases hv)
    · have e : isTup t = false := by simpa using ht
      have := b_not (b_val (e_call (env := [.va 0 t, .va 0 (.int many), .no, .no]) (e_cons (e_varB (i := 0) rfl (Nat.zero_le 1)) (e_cons e_con e_nil)) (e_isTup (T.kn.kin h))))
      rw [e] at this
      exact this
    · refine i_ret e_con ?_
      have e : lotB t many = false := by cases t <;> first | rfl | exact absurd rfl ht
      rw [e] at q
      exact q
/-- the answer of are_ties: by the pairs where all are pairs -/
def tiesV (n : Int) (t : T) : Bool := match t with
  | .tup ts => ts.all (fun u => Twl.sizedB u 2 2 && lotB u n) && (zpT ts (ts.drop 1)).all fun z => match z with
    | .tup [.tup [.int a, .int b], .tup [.int c, .int d]] => ltP2 (a, b) (c, d)
    | _ => false
  | _ => false
theorem tiesV_pairs (n : Int) (ps : List (Int × Int)) : tiesV n (.tup (ps.map encP)) = (ps.all (okP n) && ascP ps) := by
  unfold tiesV
  simp only [all_pairs]
  rw [← List.map_drop, zpT_map, List.all_map]
  rfl
theorem sized_eq : Wk05.sizedB = Twl.sizedB := by
  funext t lo hi
  cases t <;> rfl
theorem are_ties_ev {t : T} (h : t.kn = true) (n : Int) : Ev (den_are_ties [.int n, t]) (.bl (tiesV n t)) := by
  intro Q E q
  unfold den_are_ties fnDen m_are_ties
  refine i_seq ?_
  by_cases ht : isTup t = true
  · obtain ⟨ts, rfl⟩ := isTup_inv ht
    have hk := kns_kin h
    have hkn : ∀ u ∈ ts, u.kn = true := fun u hu => T.kns_mem (by simpa [T.kn] using h) u hu
    refine i_if (b_or (b_not (b_val (e_call (e_cons (e_varB rfl (Nat.zero_le 1)) (e_cons e_con e_nil)) (e_isTup (T.kn.kin h))))) fun _ => b_not (b_val (e_allLc (fun u => Twl.sizedB u 2 2 && lotB u n) (e_srcT (e_varB rfl (Nat.zero_le 1))) fun u hu =>
      ⟨_, rfl, v_and (e_ucall (e_cons (e_var rfl) (e_cons e_con (e_cons e_con e_nil))) rfl (by rw [← sized_eq]; exact is_sized_ev (hk u hu) 2 2)) fun _ => e_ucall (e_cons (e_var rfl) (e_cons (e_var rfl) e_nil)) rfl (is_lot_ev (hkn u hu) n)⟩))) (fun hv => ?_) (fun hv => ?_)
    · refine i_ret e_con ?_
      have h2 : ts.all (fun u => Twl.sizedB u 2 2 && lotB u n) = false := by simpa [isTup] using hv
      have e : tiesV n (.tup ts) = false := by
        show (ts.all (fun u => Twl.sizedB u 2 2 && lotB u n) && _) = false
        rw [h2]; rfl
      rw [e] at q
      exact q
    · obtain ⟨ps, rfl, hin⟩ := pairs_of (ts := ts) (n := n) (by simpa [isTup] using hv)
      refine i_nil ?_
      rw [tiesV_pairs, hin] at q
      have ea : ascP ps = ((ps.zip (ps.drop 1)).map fun z => T.tup [encP z.1, encP z.2]).all (fun z => match z with | .tup [.tup [.int a, .int b], .tup [.int c, .int d]] => ltP2 (a, b) (c, d) | _ => false) := by
        unfold ascP; rw [List.all_map]; rfl
      have q : Q (.bl (ascP ps)) := by simpa using q
      dsimp only
      refine i_ret (t := .bl (ascP ps)) ?_ q
      rw [ea]
      refine e_allLc _ ?_ fun u hu => ?_
      · have := e_zpT (env := [.va 0 (.int n), .va 0 (.tup (ps.map encP)), .no, .no, .no]) (mas := mCons (mVarB 1) (mCons (mSl (mVarB 1) (mPart (mCon (.int 1))) mNoPart) mNil)) (ts := ps.map encP) (us := (ps.map encP).drop 1) (e_cons (e_varB rfl (Nat.zero_le 1)) (e_cons (e_sl1T (e_varB rfl (Nat.zero_le 1))) e_nil))
        rw [← List.map_drop, zpT_map] at this
        exact this
      · obtain ⟨z, _, rfl⟩ := List.mem_map.mp hu
        exact ⟨_, rfl, e_bin (e_varB rfl (Nat.zero_le 1)) (e_varB rfl (Nat.zero_le 1)) (e_ltP z.1 z.2)⟩
  · refine i_if (v := true) (b_or (v := true) (u := true) ?_ fun hh => by cases hh) (fun _ => ?_) (fun hv => by cases hv)
    · have e : isTup t = false := by simpa using ht
      have := b_not (b_val (e_call (env := [.va 0 (.int n), .va 0 t, .no, .no, .no]) (e_cons (e_varB (i := 1) rfl (Nat.zero_le 1)) (e_cons e_con e_nil)) (e_isTup (T.kn.kin h))))
      rw [e] at this
      exact this
    · refine i_ret e_con ?_
      have e : tiesV n t = false := by cases t <;> first | rfl | exact absurd rfl ht
      rw [e] at q
      exact q
/-- the answer of is_web -/
def webB (t : T) : Bool := match t with
  | .tup [a, b] => match a with
    | .int n => wthn a 1 8 && tiesV n b
    | _ => false
  | _ => false
theorem sized2 {t : T} (h : Wk05.sizedB t 2 2 = true) : ∃ a b, t = .tup [a, b] := by
  cases t with
  | tup ts =>
    simp only [Wk05.sizedB, Bool.and_eq_true, decide_eq_true_eq] at h
    match ts, h with
    | [a, b], _ => exact ⟨a, b, rfl⟩
    | [], h => simp at h
    | [_], h => simp at h
    | _ :: _ :: _ :: _, h => simp at h; omega
  | _ => cases h
theorem kn_two {a b : T} (h : (T.tup [a, b]).kn = true) : a.kn = true ∧ b.kn = true := by
  have := T.kns_mem (ts := [a, b]) (by simpa [T.kn] using h)
  exact ⟨this a (by simp), this b (by simp)⟩
theorem is_web_ev {t : T} (h : t.kn = true) : Ev (den_is_web [t]) (.bl (webB t)) := by
  intro Q E q
  unfold den_is_web fnDen m_is_web
  refine i_seq ?_
  have h1 : Ev (den_is_sized [t, .int 2, .int 2]) (.bl (Wk05.sizedB t 2 2)) := is_sized_ev (T.kn.kin h) 2 2
  by_cases hs : Wk05.sizedB t 2 2 = true
  · obtain ⟨a, b, rfl⟩ := sized2 hs
    obtain ⟨ka, kb⟩ := kn_two h
    rw [hs] at h1
    refine i_if (b_or (b_not (b_val (e_ucall (e_cons (e_var rfl) (e_cons e_con (e_cons e_con e_nil))) rfl h1))) fun _ => b_not (b_val (e_ucall (e_cons (e_bin (e_varB rfl (Nat.zero_le 1)) e_con (e_ixT (i := 0) rfl)) (e_cons e_con (e_cons e_con e_nil))) rfl (is_within_ev (T.kn.kin ka) 1 8)))) (fun hv => ?_) (fun hv => ?_)
    · refine i_ret e_con ?_
      have hw : wthn a 1 8 = false := by simpa using hv
      have e : webB (.tup [a, b]) = false := by
        cases a <;> first | rfl | (simp only [webB, hw, Bool.false_and])
      rw [e] at q
      exact q
    · have hw : wthn a 1 8 = true := by simpa using hv
      refine i_nil ?_
      dsimp only
      cases a with
      | int n =>
        have e : webB (.tup [.int n, b]) = tiesV n b := by simp only [webB, hw, Bool.true_and]
        rw [e] at q
        refine i_ret (t := .bl (tiesV n b)) ?_ q
        exact e_ucall (e_cons (e_bin (e_varB rfl (Nat.zero_le 1)) e_con (e_ixT (i := 0) rfl)) (e_cons (e_bin (e_varB rfl (Nat.zero_le 1)) e_con (e_ixT (i := 1) rfl)) e_nil)) rfl (are_ties_ev kb n)
      | _ => cases hw
  · have hs' : Wk05.sizedB t 2 2 = false := by simpa using hs
    rw [hs'] at h1
    refine i_if (b_or (u := true) (b_not (b_val (e_ucall (e_cons (e_var rfl) (e_cons e_con (e_cons e_con e_nil))) rfl h1))) fun hh => by cases hh) (fun _ => ?_) (fun hv => by cases hv)
    · refine i_ret e_con ?_
      have e : webB t = false := by
        unfold webB
        split
        · exact (by simp [Wk05.sizedB] at hs')
        · rfl
      rw [e] at q
      exact q
theorem check_web_x {t : T} (h : t.kn = true) (hw : webB t = false) : Rz (den_check_web [t]) ⟨"NoWeb", none⟩ := by
  intro Q E q
  unfold den_check_web fnDen m_check_web
  refine i_if (b_not (b_val (e_ucall (e_cons (e_var rfl) e_nil) rfl (is_web_ev h)))) (fun _ => ?_) (fun hv => ?_)
  · exact q
  · rw [hw] at hv; cases hv
theorem check_web_ev {t : T} (h : t.kn = true) (hw : webB t = true) : Ev (den_check_web [t]) .non := by
  intro Q E q
  unfold den_check_web fnDen m_check_web
  refine i_if (b_not (b_val (e_ucall (e_cons (e_var rfl) e_nil) rfl (is_web_ev h)))) (fun hv => ?_) (fun _ => ?_)
  · rw [hw] at hv; cases hv
  · exact q
/-- a web: n places, ties -/
def encW (n : Int) (ps : List (Int × Int)) : T := .tup [.int n, .tup (ps.map encP)]
theorem web_inv {t : T} (h : webB t = true) : ∃ n ps, t = encW n ps ∧ 1 ≤ n ∧ n ≤ 8 ∧ ps.all (okP n) = true ∧ ascP ps = true := by
  unfold webB at h
  split at h
  · next a b =>
    cases a with
    | int n =>
      simp only [Bool.and_eq_true] at h
      obtain ⟨h1, h2⟩ := h
      simp only [wthn, Bool.and_eq_true, decide_eq_true_eq] at h1
      cases b with
      | tup ts =>
        have h3 := h2
        unfold tiesV at h3
        rw [Bool.and_eq_true] at h3
        obtain ⟨ps, rfl, hp⟩ := pairs_of h3.1
        rw [tiesV_pairs, Bool.and_eq_true] at h2
        exact ⟨n, ps, rfl, h1.1, h1.2, h2.1, h2.2⟩
      | _ => cases h2
    | _ => cases h
  · cases h
theorem webB_enc (n : Int) (ps : List (Int × Int)) : webB (encW n ps) = (decide (1 ≤ n) && decide (n ≤ 8) && (ps.all (okP n) && ascP ps)) := by
  unfold webB encW
  simp only [tiesV_pairs, wthn]
theorem rows_take {n : Nat} {ps : List (Int × Int)} {i : Nat} {p : Int × Int} (h : ps[i]? = some p) : rowsOf n (ps.take (i + 1)) = addT (rowsOf n (ps.take i)) p := by
  unfold rowsOf
  rw [List.take_add_one, h, List.foldl_append]
  rfl
theorem rows_len (n : Nat) : ∀ (i : Nat) (ps : List (Int × Int)), (rowsOf n (ps.take i)).length = n := by
  intro i ps
  unfold rowsOf
  generalize ps.take i = qs
  suffices ∀ xss : List (List Int), (qs.foldl addT xss).length = xss.length by rw [this]; simp
  induction qs with
  | nil => intro xss; rfl
  | cons q qs ih => intro xss; rw [List.foldl_cons, ih, addT_len]
theorem rows_row (n : Nat) (ps : List (Int × Int)) : ∀ (i : Nat), ∀ xs ∈ rowsOf n (ps.take i), xs.length ≤ 2 * i := by
  intro i
  induction i with
  | zero =>
    intro xs hx
    simp [rowsOf] at hx
    simp [hx.2]
  | succ i ih =>
    by_cases h : i < ps.length
    · rw [rows_take (List.getElem?_eq_getElem h)]
      exact addT_row ih
    · intro xs hx
      rw [List.take_of_length_le (by omega)] at hx ih
      have := ih xs hx
      omega
theorem near_rng (n : Nat) (hz : n < 2 ^ 20) : Ev (gRng1 [.int (n : Int)]) (irT 0 n) := fun Q E q => by
  refine ⟨⟨by omega, ?_⟩, ?_⟩
  · have : n ≤ sizeLine := by unfold sizeLine; omega
    simpa using this
  · simpa using q
theorem near_of_ev {n : Nat} {ps : List (Int × Int)} (hn : n < 2 ^ 20) (hp : ps.all (okP n) = true) (hl : ps.length < 2 ^ 20) : Ev (den_near_of [encW n ps]) (encRs (nearS n ps)) := by
  intro Q E q
  unfold den_near_of fnDen m_near_of
  refine i_seq (i_asg (e_var rfl) rfl ?_)
  dsimp only [List.set]
  refine i_seq (i_set (t := encRs (List.replicate n [])) ?_ ?_)
  · have := mLc_map (env := [.va 0 (encW n ps), .no, .va 0 (.int n), .va 0 (.tup (ps.map encP)), .no, .no, .no, .no]) (vs := [6]) (g := gN 6) (me := mLst mNil) (mi := mArg gRng1 (mCons (mVar 2) mNil)) (items := irT 0 n) (fun _ => T.lst []) (e_arg (e_cons (e_var rfl) e_nil) (near_rng n hn)) (fun t _ => ⟨_, rfl, e_lst e_nil (Nat.zero_le _)⟩)
    have e : (irT 0 n).map (fun _ => T.lst []) = (List.replicate n ([] : List Int)).map encR := by
      simp [irT, encR, List.map_map]
      apply List.ext_getElem
      · simp
      · intro i h1 h2; simp
    rw [e] at this
    exact this
  dsimp only [List.set]
  refine i_seq (i_for (items := ps.map encP) (fun i e => ∃ s4 s5, e = [.va 0 (encW n ps), .va 2 (encRs (rowsOf n (ps.take i))), .va 0 (.int n), .va 0 (.tup (ps.map encP)), s4, s5, .no, .no]) (e_srcT (e_var rfl)) ⟨_, _, rfl⟩ ?_ ?_)
  · rintro i t env D' ht ⟨s4, s5, rfl⟩ - - - hnx -
    obtain ⟨p, hpi, rfl⟩ : ∃ p, ps[i]? = some p ∧ encP p = t := by simpa [List.getElem?_map] using ht
    obtain ⟨a, b⟩ := p
    have hok : okP n (a, b) = true := List.all_eq_true.mp hp _ (List.mem_of_getElem? hpi)
    simp [okP] at hok
    obtain ⟨x, rfl⟩ := Int.eq_ofNat_of_zero_le (a := a) (by omega)
    obtain ⟨y, rfl⟩ := Int.eq_ofNat_of_zero_le (a := b) (by omega)
    have hil : i < ps.length := (List.getElem?_eq_some_iff.mp hpi).1
    have hsz : (2 ^ 22 : Nat) < sizeLine := by unfold sizeLine; decide
    refine ⟨_, rfl, ?_⟩
    dsimp only [List.set]
    refine i_seq (i_mtR (a := x) (b := (y : Int)) (z := 2 * i) rfl (e_var rfl) (by rw [rows_len]; omega) (e_var rfl) (rows_row n ps i) (by omega) ?_)
    dsimp only [List.set]
    refine i_mtR (a := y) (b := (x : Int)) (z := 2 * i + 1) rfl (e_var rfl) (by rw [app1_len, rows_len]; omega) (e_var rfl) (app1_row (rows_row n ps i)) (by omega) ?_
    refine hnx _ ⟨.va 0 (.int x), .va 0 (.int y), ?_⟩
    rw [rows_take hpi]
    rfl
  · rintro env ⟨s4, s5, rfl⟩
    rw [List.length_map, List.take_length]
    refine i_seq (i_frz rfl ?_)
    dsimp only [List.set]
    refine i_ret ?_ q
    have := mLc_map (env := [.va 0 (encW n ps), .va 0 (encRs (rowsOf n ps)), .va 0 (.int n), .va 0 (.tup (ps.map encP)), s4, s5, .no, .no]) (vs := [7]) (g := gN 7) (me := mCall (g1 gSorted) (mCons (mVarB 7) mNil)) (mi := mSrc (mVarB 1)) (items := (rowsOf n ps).map encR) (fun t => match T.ints (match t with | .lst ts => ts | _ => []) with | some xs => encR (sortI xs) | none => t) (e_srcL (e_varB rfl (Nat.zero_le 1))) (fun t ht => by
      obtain ⟨xs, _, rfl⟩ := List.mem_map.mp ht
      refine ⟨_, rfl, ?_⟩
      have e : T.ints (xs.map T.int) = some xs := ints_map xs
      simp only [encR, e]
      exact e_call (e_cons (e_varB rfl (Nat.zero_le 1)) e_nil) (e_sortedR xs))
    have e : ((rowsOf n ps).map encR).map (fun t => match T.ints (match t with | .lst ts => ts | _ => []) with | some xs => encR (sortI xs) | none => t) = (nearS n ps).map encR := by
      unfold nearS
      rw [List.map_map, List.map_map]
      apply List.map_congr_left
      intro xs _
      have e : T.ints (xs.map T.int) = some xs := ints_map xs
      simp only [Function.comp, encR, e]
    rw [e] at this
    exact this
theorem law_near_ev {n : Nat} {ps : List (Int × Int)} (hn : n < 2 ^ 20) (hp : ps.all (okP n) = true) (hl : ps.length < 2 ^ 20) : Ev (den__law_near [encW n ps]) (encRs (nearS n ps)) := by
  intro Q E q
  unfold den__law_near fnDen m__law_near
  refine i_seq (i_set (t := encRs (List.replicate n [])) ?_ ?_)
  · have := mLc_map (env := [.va 0 (encW n ps), .no, .no, .no, .no, .no]) (vs := [4]) (g := gN 4) (me := mLst mNil) (mi := mArg gRng1 (mCons (mBin gIx (mVarB 0) (mCon (.int 0))) mNil)) (items := irT 0 n) (fun _ => T.lst []) (e_arg (e_cons (e_bin (e_varB rfl (Nat.zero_le 1)) e_con (e_ixT (i := 0) rfl)) e_nil) (near_rng n hn)) (fun t _ => ⟨_, rfl, e_lst e_nil (Nat.zero_le _)⟩)
    have e : (irT 0 n).map (fun _ => T.lst []) = (List.replicate n ([] : List Int)).map encR := by
      simp [irT, encR, List.map_map]
      apply List.ext_getElem
      · simp
      · intro i h1 h2; simp
    rw [e] at this
    exact this
  dsimp only [List.set]
  refine i_seq (i_for (items := ps.map encP) (fun i e => ∃ s4 s5, e = [.va 0 (encW n ps), .va 2 (encRs (rowsOf n (ps.take i))), s4, s5, .no, .no]) (e_srcT (e_bin (e_varB rfl (Nat.zero_le 1)) e_con (e_ixT (i := 1) rfl))) ⟨_, _, rfl⟩ ?_ ?_)
  · rintro i t env D' ht ⟨s4, s5, rfl⟩ - - - hnx -
    obtain ⟨p, hpi, rfl⟩ : ∃ p, ps[i]? = some p ∧ encP p = t := by simpa [List.getElem?_map] using ht
    obtain ⟨a, b⟩ := p
    have hok : okP n (a, b) = true := List.all_eq_true.mp hp _ (List.mem_of_getElem? hpi)
    simp [okP] at hok
    obtain ⟨x, rfl⟩ := Int.eq_ofNat_of_zero_le (a := a) (by omega)
    obtain ⟨y, rfl⟩ := Int.eq_ofNat_of_zero_le (a := b) (by omega)
    have hil : i < ps.length := (List.getElem?_eq_some_iff.mp hpi).1
    have hsz : (2 ^ 22 : Nat) < sizeLine := by unfold sizeLine; decide
    refine ⟨_, rfl, ?_⟩
    dsimp only [List.set]
    refine i_seq (i_mtR (a := x) (b := (y : Int)) (z := 2 * i) rfl (e_var rfl) (by rw [rows_len]; omega) (e_var rfl) (rows_row n ps i) (by omega) ?_)
    dsimp only [List.set]
    refine i_mtR (a := y) (b := (x : Int)) (z := 2 * i + 1) rfl (e_var rfl) (by rw [app1_len, rows_len]; omega) (e_var rfl) (app1_row (rows_row n ps i)) (by omega) ?_
    refine hnx _ ⟨.va 0 (.int x), .va 0 (.int y), ?_⟩
    rw [rows_take hpi]
    rfl
  · rintro env ⟨s4, s5, rfl⟩
    rw [List.length_map, List.take_length]
    refine i_seq (i_frz rfl ?_)
    dsimp only [List.set]
    refine i_ret ?_ q
    have := mLc_map (env := [.va 0 (encW n ps), .va 0 (encRs (rowsOf n ps)), s4, s5, .no, .no]) (vs := [5]) (g := gN 5) (me := mCall (g1 gSorted) (mCons (mVarB 5) mNil)) (mi := mSrc (mVarB 1)) (items := (rowsOf n ps).map encR) (fun t => match T.ints (match t with | .lst ts => ts | _ => []) with | some xs => encR (sortI xs) | none => t) (e_srcL (e_varB rfl (Nat.zero_le 1))) (fun t ht => by
      obtain ⟨xs, _, rfl⟩ := List.mem_map.mp ht
      refine ⟨_, rfl, ?_⟩
      have e : T.ints (xs.map T.int) = some xs := ints_map xs
      simp only [encR, e]
      exact e_call (e_cons (e_varB rfl (Nat.zero_le 1)) e_nil) (e_sortedR xs))
    have e : ((rowsOf n ps).map encR).map (fun t => match T.ints (match t with | .lst ts => ts | _ => []) with | some xs => encR (sortI xs) | none => t) = (nearS n ps).map encR := by
      unfold nearS
      rw [List.map_map, List.map_map]
      apply List.map_congr_left
      intro xs _
      have e : T.ints (xs.map T.int) = some xs := ints_map xs
      simp only [Function.comp, encR, e]
    rw [e] at this
    exact this
def encTs (fs : List (List Int)) : T := .lst (fs.map fun xs => .tup (xs.map T.int))
theorem rgT_rngI (n : Nat) : rgT 0 n = (rngI n).map T.int := by
  simp [rgT, rngI]
theorem nb_enc {near : List (List Int)} {n : Nat} (g : Gr n near) {v : Int} (hv : 0 ≤ v ∧ v < n) : Ev (gIx (encRs near) (.int v)) (encR (nb near v)) := by
  obtain ⟨x, rfl⟩ := Int.eq_ofNat_of_zero_le hv.1
  have hx : x < near.length := by rw [g.len]; omega
  refine e_ixL (i := x) ?_
  rw [List.getElem?_map, nb, Int.toNat_natCast, List.getElem?_eq_getElem hx]
  rfl
theorem e_tupSort {env : Twl.Env} {me : Twl.Env → M T} {L : List Int} (h : Ev (me env) (encR L)) : Ev (mCall (g1 gTuple) (mCons (mCall (g1 gSorted) (mCons me mNil)) mNil) env) (.tup ((sortI L).map T.int)) :=
  e_call (e_cons (e_call (e_cons h e_nil) (e_sortedR L)) e_nil) (e_tupleL _)
theorem e_neNil (L : List Int) : Ev (gNe (encR L) (.lst [])) (.bl (!decide (L = []))) := fun Q E q => by
  refine ⟨⟨ints_shp L, ints_shp []⟩, ?_⟩
  have e : (encR L).eqv (.lst []) = decide (L = []) := by
    unfold T.eqv encR
    cases L with
    | nil => simp [T.pd, T.pds, PyData.eqv, PyData.eqvAll]
    | cons x L => simp [T.pd, T.pds, PyData.eqv, PyData.eqvAll]
  show Q _
  rw [e]
  exact q
theorem kns_pairs : ∀ ps : List (Int × Int), T.kns (ps.map encP) = true
  | [] => rfl
  | p :: ps => by simp only [List.map_cons, T.kns, encP, T.kn, kns_pairs ps]; rfl
theorem encW_kn (n : Int) (ps : List (Int × Int)) : (encW n ps).kn = true := by
  simp only [encW, T.kn, T.kns, kns_pairs]; rfl
/-- a web as the law draws it -/
structure Wb (n : Nat) (ps : List (Int × Int)) : Prop where
  h1 : 1 ≤ n
  h8 : n ≤ 8
  ok : ps.all (okP n) = true
  asc : ascP ps = true
theorem Wb.webB {n : Nat} {ps : List (Int × Int)} (w : Wb n ps) : Wk05.webB (encW n ps) = true := by
  rw [webB_enc, w.ok, w.asc]
  have := w.h1
  have := w.h8
  simp
  omega
theorem Wb.len {n : Nat} {ps : List (Int × Int)} (w : Wb n ps) : ps.length < 2 ^ 20 := by have := ties_len w.h8 w.ok w.asc; omega
theorem Wb.pcs {n : Nat} {ps : List (Int × Int)} (w : Wb n ps) : ∃ fs, Pcs (nearS n ps) (rngI n) fs := (near_Gr w.ok w.asc).pcs n (rngI n) (by simp [rngI]) fun v hv => rngI_mem.mp hv
theorem draw_nd {m : Int} (h0 : 0 < m) (h1 : m < 2 ^ 64) : Nd (drawDen [.hand, .int m]) (fun t => ∃ i : Nat, t = .int i ∧ (i : Int) < m) := fun Q E q => by
  refine ⟨m, rfl, h0, h1, fun n a b => ?_⟩
  obtain ⟨i, rfl⟩ := Int.eq_ofNat_of_zero_le a
  exact q _ ⟨i, rfl, b⟩
theorem law_any_nd {ts : List T} (h0 : 0 < ts.length) (h1 : ts.length < 2 ^ 32) : Nd (den__law_any [.hand, .lst ts]) (fun t => t ∈ ts) := by
  intro Q E q
  unfold den__law_any fnDen m__law_any
  refine i_retN (P := fun t => t ∈ ts) ?_ q
  refine Ev.bndN (e_varB rfl (Nat.zero_le 1)) ?_
  refine Nd.bnd (n_ucall (e_cons (e_var rfl) (e_cons (e_call (e_cons (e_varB rfl (Nat.zero_le 1)) e_nil) (e_lenL ts)) e_nil)) rfl (draw_nd (by omega) (by omega))) ?_
  rintro _ ⟨i, rfl, hi⟩
  have hl : i < ts.length := by omega
  intro Q E q
  exact (e_ixL (i := i) (List.getElem?_eq_getElem hl)) Q E (q _ (List.getElem_mem hl))
theorem law_no_web_nd : Nd (den__law_no_web [.hand]) (fun t => webB t = false ∧ t.kn = true) := by
  intro Q E q
  unfold den__law_no_web fnDen m__law_no_web
  refine i_seq ?_
  apply i_set
  · apply e_lst
    · repeat' (first | exact e_con | exact e_nil | apply e_cons | apply e_tup | apply e_lst)
      all_goals exact Nat.le_of_ble_eq_true rfl
    · exact Nat.le_of_ble_eq_true rfl
  dsimp only [List.set]
  apply i_retN
  · apply n_ucall
    · apply e_cons
      · exact e_var rfl
      apply e_cons
      · apply e_bin
        · exact e_varB rfl (Nat.zero_le 1)
        · apply e_lst
          · repeat' (first | exact e_con | exact e_nil | apply e_cons | apply e_tup | apply e_lst)
            all_goals exact Nat.le_of_ble_eq_true rfl
          · exact Nat.le_of_ble_eq_true rfl
        · exact fun Q E q => ⟨Nat.le_of_ble_eq_true rfl, q⟩
      · exact e_nil
    · rfl
    · exact law_any_nd (Nat.le_of_ble_eq_true rfl) (Nat.le_of_ble_eq_true rfl)
  intro t ht
  refine q t ?_
  have key : ∀ ts : List T, (ts.all fun t => !webB t && t.kn) = true → t ∈ ts → webB t = false ∧ t.kn = true := by
    intro ts h m
    have := List.all_eq_true.mp h t m
    simpa using this
  exact key _ rfl ht
theorem law_web_nd {most : Nat} (hm1 : 1 ≤ most) (hm8 : most ≤ 8) : Nd (den__law_web [.hand, .int (most : Nat)]) (fun t => ∃ (n : Nat) (ps : List (Int × Int)), t = encW n ps ∧ Wb n ps ∧ n ≤ most) := by
  intro Q E q
  unfold den__law_web fnDen m__law_web
  refine i_seq (i_parN (P := fun ts => ∃ (i j : Nat), ts = [.int (1 + (i : Int)), .int (1 + (j : Int))] ∧ i < most ∧ j < 3) ?_ ?_)
  · refine (n_two (P := fun t => ∃ i : Nat, t = .int (1 + (i : Int)) ∧ i < most) (P2 := fun t => ∃ i : Nat, t = .int (1 + (i : Int)) ∧ i < 3) ?_ ?_).imp ?_
    · refine n_binR e_con (n_ucall (e_cons (e_var rfl) (e_cons (e_var rfl) e_nil)) rfl (draw_nd (by omega) (by omega))) ?_
      rintro _ ⟨i, rfl, hi⟩
      exact (e_addI _ _).nd ⟨i, rfl, by omega⟩
    · refine n_binR e_con (n_ucall (e_cons (e_var rfl) (e_cons e_con e_nil)) rfl (draw_nd (by decide) (by decide))) ?_
      rintro _ ⟨i, rfl, hi⟩
      exact (e_addI _ _).nd ⟨i, rfl, by omega⟩
    · rintro _ ⟨t, u, rfl, ⟨i, rfl, hi⟩, ⟨j, rfl, hj⟩⟩
      exact ⟨i, j, rfl, hi, hj⟩
  rintro _ ⟨i, j, rfl, hi, hj⟩
  obtain ⟨n, hn, h1, hnm⟩ : ∃ n : Nat, 1 + (i : Int) = (n : Int) ∧ 1 ≤ n ∧ n ≤ most := ⟨1 + i, by omega, by omega, by omega⟩
  have h8 : n ≤ 8 := by omega
  rw [hn]
  dsimp only [setAll, List.set]
  refine i_seq (i_set (e_lst e_nil (Nat.zero_le _)) ?_)
  dsimp only [List.set]
  refine i_seq (i_for (items := irT 0 n) (fun k e => ∃ ps s3, Up n k ps ∧ e = [.va 0 .hand, .va 0 (.int (most : Nat)), .va 0 (.lst (ps.map encP)), s3, .va 0 (.int n), .va 0 (.int (1 + (j : Int))), .no]) (e_arg (e_cons (e_var rfl) e_nil) (e_rng1 (by omega))) ⟨[], .no, ⟨fun p h => by simp at h, fun p h => by simp at h, List.Pairwise.nil⟩, rfl⟩ ?_ ?_)
  · rintro k t env D' ht ⟨ps, s3, up, rfl⟩ - - - hnx -
    obtain ⟨hk, rfl⟩ := irT_get ht
    refine ⟨_, rfl, ?_⟩
    dsimp only [List.set]
    refine i_setN (P := fun t => ∃ ps', t = .lst (ps'.map encP) ∧ Up n (k + 1) ps') ?_ ?_
    · refine n_binR (e_varB rfl (Nat.zero_le 1)) (mLc_nd (items := irT ((0 + (k : Int)) + 1) ((n : Int) - ((0 + (k : Int)) + 1)).toNat) (fun t => .tup [.int (0 + (k : Int)), t]) (e_arg (e_cons (e_bin (e_varB rfl (Nat.zero_le 1)) e_con (e_addI _ _)) (e_cons (e_var rfl) e_nil)) (e_rng2 (by omega) (by omega))) fun t ht => ?_) ?_
      · refine ⟨_, rfl, ?_, e_tup (e_cons (e_var rfl) (e_cons (e_var rfl) e_nil)) (Nat.le_of_ble_eq_true rfl)⟩
        refine n_b (n_binL (n_ucall (e_cons (e_var rfl) (e_cons e_con e_nil)) rfl (draw_nd (by decide) (by decide))) (e_varB rfl (Nat.zero_le 1)) ?_)
        rintro _ ⟨x, rfl, _⟩
        exact (e_rel _ _).nd ⟨_, rfl⟩
      · rintro _ ⟨zs, hz, rfl⟩
        obtain ⟨js, rfl, hb, hp⟩ := sub_irT hz
        have st := up.step (js := js) (fun x hx => by have := hb x hx; omega) hp
        have e0 : (0 : Int) + (k : Int) = k := by omega
        have el : (ps.map encP) ++ ((js.map T.int).map fun t => T.tup [T.int (0 + (k : Int)), t]) = (ps ++ js.map fun x => ((k : Int), x)).map encP := by
          rw [List.map_append, List.map_map, List.map_map, e0]
          rfl
        have hl := ties_len h8 (List.all_eq_true.mpr fun p hp => okP_iff2.mpr (st.ok p hp)) (pw_ascP st.pw)
        have hl2 : (ps.map encP).length + ((js.map T.int).map fun t => T.tup [T.int (0 + (k : Int)), t]).length ≤ sizeLine := by
          unfold sizeLine
          simp at hl ⊢
          omega
        intro Q E q
        refine ⟨hl2, q _ ⟨_, ?_, st⟩⟩
        rw [el]
    · rintro _ ⟨ps', rfl, up'⟩
      dsimp only [List.set]
      exact hnx _ ⟨ps', _, up', rfl⟩
  · rintro env ⟨ps, s3, up, rfl⟩
    dsimp only
    refine i_ret (e_tup (e_cons (e_var rfl) (e_cons (e_call (e_cons (e_varB rfl (Nat.zero_le 1)) e_nil) (e_tupleL _)) e_nil)) (Nat.le_of_ble_eq_true rfl)) ?_
    exact q _ ⟨n, ps, rfl, ⟨h1, h8, List.all_eq_true.mpr fun p hp => okP_iff2.mpr (up.ok p hp), pw_ascP up.pw⟩, hnm⟩
end Wk05

/-! what stands alike in other laws (printed by port.py) -/
namespace Wk05
open PySem PySem.Spec PyProof.Rows L2 Twl
theorem ints_kn : ∀ row : List Int, T.kns (row.map T.int) = true
  | [] => rfl
  | x :: row => by
    simp only [List.map_cons, T.kns, ints_kn row]
    rfl
theorem row_kn (row : List Int) : (T.tup (row.map T.int)).kn = true := by rw [T.kn]; exact ints_kn row
theorem Gr.bdn {n : Nat} {near : List (List Int)} (g : Gr n near) {i : Int} (v : Int) (h : v ∈ nb near i) : 0 ≤ v ∧ v < n := g.bd _ (nb_mem h) _ h
theorem free_len (near : List (List Int)) (k : Nat) (row : List Int) (i : Int) : (freeL near k row i).length ≤ k := by
  unfold freeL
  refine Nat.le_trans (List.length_filter_le _ _) ?_
  simp [rngI]
def frozL (n : Nat) (near : List (List Int)) (k : Nat) (row : List Int) : List Int := (rngI n).filter fun i => decide (freeL near k row i = [])
def jsR (n a : Nat) : List Int := (List.range (n - (a + 1))).map fun i => ((a : Int) + 1) + (i : Nat)
/-- all pairs, row by row -/
def fullR (n : Nat) : Nat → List (Int × Int)
  | 0 => []
  | a + 1 => fullR n a ++ (jsR n a).map fun b => ((a : Int), b)
theorem full_up (n : Nat) : ∀ a : Nat, a ≤ n → Up n a (fullR n a)
  | 0, _ => ⟨fun p h => by simp [fullR] at h, fun p h => by simp [fullR] at h, List.Pairwise.nil⟩
  | a + 1, h => by
    refine (full_up n a (by omega)).step (fun j hj => ?_) ?_
    · simp only [jsR, List.mem_map, List.mem_range] at hj
      obtain ⟨i, hi, rfl⟩ := hj
      omega
    · unfold jsR
      rw [List.pairwise_map]
      exact List.pairwise_lt_range.imp fun hl => by omega
theorem full_mem (n : Nat) {x y : Int} (h0 : 0 ≤ x) (h1 : x < y) (h2 : y < n) : ∀ a : Nat, x < a → (x, y) ∈ fullR n a
  | 0, h => by omega
  | a + 1, h => by
    unfold fullR
    rw [List.mem_append]
    by_cases e : x = a
    · right
      rw [List.mem_map]
      refine ⟨y, ?_, by rw [e]⟩
      unfold jsR
      rw [List.mem_map]
      exact ⟨(y - (a + 1)).toNat, by rw [List.mem_range]; omega, by omega⟩
    · left
      exact full_mem n h0 h1 h2 a (by omega)
theorem full_wb {n : Nat} (h1 : 1 ≤ n) (h8 : n ≤ 8) : Wb n (fullR n n) := by
  have up := full_up n n (Nat.le_refl _)
  exact ⟨h1, h8, List.all_eq_true.mpr fun p hp => okP_iff2.mpr (up.ok p hp), pw_ascP up.pw⟩
theorem cl_rngI {n : Nat} {i : Int} (h0 : 0 ≤ i) (h1 : i < n) : cl (rngI n) i = i := by
  unfold cl
  rw [rngI_get (by omega)]
  simp
  omega
theorem rngI_len (n : Nat) : (rngI n).length = n := by simp [rngI]
theorem full_ok {n : Nat} (h1 : 1 ≤ n) (h8 : n ≤ 8) : okRow n (fullR n n) n (rngI n) = true := by
  have w := full_wb h1 h8
  refine Pt.iff.mpr ⟨rngI_len n, fun x hx => rngI_mem.mp hx, fun p hp => ?_⟩
  have hok := okP_iff2.mp (List.all_eq_true.mp w.ok p hp)
  rw [cl_rngI hok.1 (by omega), cl_rngI (by omega) (by omega)]
  omega
theorem full_froz {n : Nat} (h1 : 1 ≤ n) (h8 : n ≤ 8) : (frozL n (nearS n (fullR n n)) n (rngI n)).length = n := by
  have w := full_wb h1 h8
  have e : frozL n (nearS n (fullR n n)) n (rngI n) = rngI n := by
    unfold frozL
    rw [List.filter_eq_self]
    intro i hi
    have hib := rngI_mem.mp hi
    rw [decide_eq_true_eq]
    unfold freeL
    rw [List.filter_eq_nil_iff]
    intro c hc
    have hcb := rngI_mem.mp hc
    simp only [Bool.not_eq_true', decide_eq_false_iff_not, Classical.not_not, List.mem_append, List.mem_map, List.mem_singleton]
    by_cases hci : c = i
    · right
      rw [hci, cl_rngI hib.1 hib.2]
    · left
      refine ⟨c, ?_, cl_rngI hcb.1 hcb.2⟩
      rw [nb_iff w.ok w.asc hib]
      rcases Int.lt_or_gt_of_ne hci with h | h
      · exact .inr (full_mem n hcb.1 h hib.2 n hcb.2)
      · exact .inl (full_mem n hib.1 h hcb.2 n (by omega))
  rw [e, rngI_len]
/-- rows as the law draws them -/
structure Gd (ps : List (Int × Int)) (i : Nat) (r : List Int) : Prop where
  len : r.length = i
  bd : ∀ x ∈ r, 0 ≤ x ∧ x ≤ 5
  ne : ∀ p ∈ ps, p.2 < i → cl r p.2 = 5 ∨ cl r p.1 ≠ cl r p.2
theorem cl_app_lt {r : List Int} {c : Int} {i : Int} (h0 : 0 ≤ i) (h1 : i < r.length) : cl (r ++ [c]) i = cl r i := by
  unfold cl
  rw [List.getElem?_append_left (by omega)]
theorem cl_app_eq {r : List Int} {c : Int} : cl (r ++ [c]) r.length = c := by
  unfold cl
  rw [Int.toNat_natCast, List.getElem?_append_right (Nat.le_refl _), Nat.sub_self]
  rfl
theorem Gd.step {n : Nat} {ps : List (Int × Int)} (w : Wb n ps) {i : Nat} {r : List Int} (h : Gd ps i r) (hi : i < n) {c : Int} (hc : 0 ≤ c ∧ c ≤ 5) (hu : c = 5 ∨ c ∉ ((nb (nearS n ps) i).filter fun x => decide (x < (i : Int))).map (cl r)) : Gd ps (i + 1) (r ++ [c]) := by
  have hl := h.len
  refine ⟨by simp [hl], fun x hx => ?_, fun p hp hlt => ?_⟩
  · rcases List.mem_append.mp hx with hx | hx
    · exact h.bd x hx
    · rw [List.mem_singleton.mp hx]; exact hc
  · have hok := okP_iff2.mp (List.all_eq_true.mp w.ok p hp)
    have e1 : cl (r ++ [c]) p.1 = cl r p.1 := cl_app_lt hok.1 (by omega)
    by_cases e : p.2 = i
    · have e2 : cl (r ++ [c]) p.2 = c := by
        rw [e, ← hl]
        exact cl_app_eq
      rw [e1, e2]
      rcases hu with hu | hu
      · exact .inl hu
      · right
        intro ec
        apply hu
        rw [List.mem_map]
        refine ⟨p.1, ?_, ec⟩
        rw [List.mem_filter, nb_iff w.ok w.asc ⟨by omega, by omega⟩]
        refine ⟨.inr ?_, by simp; omega⟩
        rw [← e]
        exact hp
    · have e2 : cl (r ++ [c]) p.2 = cl r p.2 := cl_app_lt (by omega) (by omega)
      rw [e1, e2]
      exact h.ne p hp (by omega)
theorem Gd.pt {n : Nat} {ps : List (Int × Int)} (w : Wb n ps) {r : List Int} (h : Gd ps n r) {k : Int} (hk : k ≤ 5) (hm : ∀ x ∈ r, x < k) : Pt n ps k r := by
  have hl := h.len
  refine ⟨hl, fun x hx => ⟨(h.bd x hx).1, hm x hx⟩, fun p hp => ?_⟩
  have hok := okP_iff2.mp (List.all_eq_true.mp w.ok p hp)
  rcases h.ne p hp (by omega) with e | e
  · have := hm _ (cl_mem (row := r) (i := p.2) (by omega) (by omega))
    omega
  · exact e
theorem freeL_eq (near : List (List Int)) (k : Nat) (row : List Int) (i : Int) : ((rngI k).filter fun c => !decide (c ∈ [cl row i] ++ (nb near i).map (cl row))) = freeL near k row i := by
  unfold freeL
  congr 1
  funext c
  congr 1
  rw [decide_eq_decide, List.mem_append, List.mem_append]
  exact Or.comm
theorem frees_sh (n : Nat) (near : List (List Int)) (k : Nat) (row : List Int) : Sh 2 (.tup ((rngI n).map fun i => .tup ((freeL near k row i).map T.int))) := Sh.tup fun t ht => by
  obtain ⟨xs, _, rfl⟩ := List.mem_map.mp ht
  exact Sh.tup (Sh.ints _)
end Wk05

/-! what stands alike in other laws (printed by port.py) -/
namespace Wk05
open PySem PySem.Spec PyProof.Rows L2 Twl
theorem rngl (n : Nat) : (rngI n).length = n := by simp [rngI]
theorem app_enc (r : List Int) (c : Int) : encI (r ++ [c]) = .tup (r.map T.int ++ [.int c]) := by unfold encI; rw [List.map_append]; rfl
/-! ### are_all -/
theorem flat_take {α β : Type} {f : α → List β} {L : List α} {i : Nat} {x : α} (h : L[i]? = some x) : (L.take (i + 1)).flatMap f = (L.take i).flatMap f ++ f x := by
  obtain ⟨hi, e⟩ := List.getElem?_eq_some_iff.mp h
  rw [List.take_succ_eq_append_getElem hi, e, List.flatMap_append]
  simp
theorem flat_le {α β : Type} {f : α → List β} (L : List α) (i : Nat) : ((L.take i).flatMap f).length ≤ (L.flatMap f).length := by
  conv => rhs; rw [← List.take_append_drop i L]
  rw [List.flatMap_append, List.length_append]
  omega
theorem full_enc {v : List (Option Int)} (h : noneL v = []) : encS v = encI (unO v) := by
  unfold encS encI
  conv => lhs; rw [unO_eq h]
  rw [List.map_map]
  rfl
theorem encW_kn2 (n : Nat) (ps : List (Int × Int)) : (encW n ps).kn = true := encW_kn n ps
theorem I_kn (o : List Int) : (encI o).kn = true := row_kn o
theorem lenI (r : List Int) : Ev (g1 gLen [encI r]) (.int (r.length : Nat)) := by
  have := e_lenT (r.map T.int)
  rw [List.length_map] at this
  exact this
theorem next_colours_ev {n : Nat} {ps : List (Int × Int)} (w : Wb n ps) {r : List Int} (hl : r.length < n) (h0 : ∀ x ∈ r, 0 ≤ x) {k : Nat} (hk : k ≤ 8) : Ev (den_next_colours [encRs (nearS n ps), encI r, .int k]) (.lst ((nextL (nearS n ps) k r).map T.int)) := by
  have h8 := w.h8
  have gr := near_Gr w.ok w.asc
  have hm0 := mxp_nn r
  have hi : 0 ≤ ((r.length : Nat) : Int) ∧ ((r.length : Nat) : Int) < n := ⟨by omega, by omega⟩
  intro Q E q
  unfold den_next_colours fnDen m_next_colours
  refine i_seq (i_set (t := .int (mxp r)) (e_if (b_val (e_bin (e_call (e_cons (e_varB rfl (Nat.zero_le 1)) e_nil) (lenI r)) e_con (e_rel _ _))) (fun hv => ?_) fun hv => ?_) ?_)
  · have hne : r ≠ [] := fun e => by
      subst e
      have : cI .Gt ((([] : List Int).length : Nat) : Int) 0 = false := by decide
      rw [this] at hv; cases hv
    have := e_maxRow (t := encI r) (r := r) rfl hne h0
    have e : mxp r = mxp r - 1 + 1 := by omega
    rw [e]
    exact e_bin (e_call (e_cons (e_varB rfl (Nat.zero_le 1)) e_nil) this) e_con (e_addI _ _)
  · have he : r = [] := by
      cases r with
      | nil => rfl
      | cons a r =>
        have : cI .Gt (((a :: r).length : Nat) : Int) 0 = true := decide_eq_true (by simp <;> omega)
        rw [this] at hv; cases hv
    subst he
    exact e_con
  dsimp only [List.set]
  have htk := mLc_ev (env := [.va 0 (encRs (nearS n ps)), .va 0 (encI r), .va 0 (.int k), .va 0 (.int (mxp r)), .no, .no, .no]) (vs := [5]) (g := gN 5) (c := mB (mBin (gRel .Lt) (mVarB 5) (mCall (g1 gLen) (mCons (mVarB 1) mNil)))) (me := mBin gIx (mVarB 1) (mVarB 5)) (mi := mSrc (mBin gIx (mVarB 0) (mCall (g1 gLen) (mCons (mVarB 1) mNil)))) (items := (nb (nearS n ps) (r.length : Nat)).map T.int) (fun t => match t with | .int x => decide (x < (r.length : Int)) | _ => false) (fun t => match t with | .int x => .int (cl r x) | _ => t) (e_srcL (e_bin (e_varB rfl (Nat.zero_le 1)) (e_call (e_cons (e_varB rfl (Nat.zero_le 1)) e_nil) (lenI r)) (nb_enc gr hi))) fun t ht => by
    obtain ⟨x, hx, rfl⟩ := List.mem_map.mp ht
    have hxb := nbr_bd w.ok w.asc hx
    refine ⟨_, rfl, b_val (e_bin (e_varB rfl (Nat.zero_le 1)) (e_call (e_cons (e_varB rfl (Nat.zero_le 1)) e_nil) (lenI r)) (e_rel _ _)), fun hp => ?_⟩
    have hp : x < (r.length : Int) := by simpa using hp
    exact e_bin (e_varB rfl (Nat.zero_le 1)) (e_varB rfl (Nat.zero_le 1)) (e_cl hxb.1 hp)
  have etk : (((nb (nearS n ps) (r.length : Nat)).map T.int).filter (fun t => match t with | .int x => decide (x < (r.length : Int)) | _ => false)).map (fun t => match t with | .int x => T.int (cl r x) | _ => t) = (takenL (nearS n ps) r).map T.int := by
    rw [List.filter_map, List.map_map]
    unfold takenL
    rw [List.map_map]
    rfl
  rw [etk] at htk
  refine i_seq (i_set htk ?_)
  dsimp only [List.set]
  have hmin : (if (k : Int) < mxp r + 1 then (k : Int) else mxp r + 1) = (((min (mxp r + 1) (k : Int)).toNat : Nat) : Int) := by
    split <;> omega
  have hrng := e_min2 (mxp r + 1) (k : Int)
  rw [hmin] at hrng
  have hle : (min (mxp r + 1) (k : Int)).toNat ≤ 8 := by omega
  have hm := mLc_ev (env := [.va 0 (encRs (nearS n ps)), .va 0 (encI r), .va 0 (.int k), .va 0 (.int (mxp r)), .va 0 (.lst ((takenL (nearS n ps) r).map T.int)), .no, .no]) (vs := [6]) (g := gN 6) (c := mB (mBin gNotIn (mVarB 6) (mVarB 4))) (me := mVar 6) (mi := mArg gRng1 (mCons (mCall (g2 gMin2) (mCons (mBin gAdd (mVarB 3) (mCon (.int 1))) (mCons (mVarB 2) mNil))) mNil)) (items := (rngI (min (mxp r + 1) (k : Int)).toNat).map T.int) (fun t => match t with | .int x => !decide (x ∈ takenL (nearS n ps) r) | _ => false) (fun t => t) (e_arg (e_cons (e_call (e_cons (e_bin (e_varB rfl (Nat.zero_le 1)) e_con (e_addI _ _)) (e_cons (e_varB rfl (Nat.zero_le 1)) e_nil)) hrng) e_nil) (by rw [← irT_rngI]; exact e_rng1 (by omega))) fun t ht => by
    obtain ⟨x, hx, rfl⟩ := List.mem_map.mp ht
    exact ⟨_, rfl, b_val (e_bin (e_varB rfl (Nat.zero_le 1)) (e_varB rfl (Nat.zero_le 1)) (e_notInS x (.inr rfl))), fun _ => e_var rfl⟩
  have e : (((rngI (min (mxp r + 1) (k : Int)).toNat).map T.int).filter (fun t => match t with | .int x => !decide (x ∈ takenL (nearS n ps) r) | _ => false)).map (fun t => t) = (nextL (nearS n ps) k r).map T.int := by
    rw [List.map_id', List.filter_map]
    rfl
  rw [e] at hm
  exact i_ret hm q
def encF : Option (List Int) → T
  | none => .non
  | some r => encI r
theorem e_isNotF (o : Option (List Int)) : Ev (gIsNot (encF o) .non) (.bl o.isSome) := fun Q E q => by cases o <;> exact ⟨rfl, q⟩
def wtP (n : Nat) (W : List (List Int)) : Nat := (W.map fun r => 9 ^ (n - r.length)).sum
theorem wtP_app (n : Nat) (V W : List (List Int)) : wtP n (V ++ W) = wtP n V + wtP n W := by simp [wtP]
theorem wtP_len (n : Nat) : ∀ W : List (List Int), W.length ≤ wtP n W
  | [] => Nat.zero_le _
  | r :: W => by
    have := wtP_len n W
    have h1 : 1 ≤ 9 ^ (n - r.length) := Nat.one_le_pow _ _ (by decide)
    have e : wtP n (r :: W) = 9 ^ (n - r.length) + wtP n W := by simp [wtP]
    rw [e, List.length_cons]
    omega
theorem chi_first {n : Nat} {ps : List (Int × Int)} (w : Wb n ps) {k : Nat} (h : IsChi n ps k) : (∀ j : Nat, j < k → PL (nearS n ps) n j [] = []) ∧ ∃ r L, PL (nearS n ps) n k [] = r :: L ∧ Pt n ps k r := by
  refine ⟨fun j hj => ?_, ?_⟩
  · cases e : PL (nearS n ps) n j [] with
    | nil => rfl
    | cons r L => exact absurd (PL_pt w.ok w.asc (by rw [e]; exact List.mem_cons_self)) (h.lt j hj r)
  · obtain ⟨row, pt⟩ := h.ex
    have := PL_ne w.ok w.asc pt
    cases e : PL (nearS n ps) n k [] with
    | nil => exact absurd e this
    | cons r L => exact ⟨r, L, rfl, PL_pt w.ok w.asc (by rw [e]; exact List.mem_cons_self)⟩
theorem chi_max {n : Nat} {ps : List (Int × Int)} (w : Wb n ps) {k : Nat} (hc : IsChi n ps k) {r : List Int} (pt : Pt n ps k r) : mxp r = k ∧ r ≠ [] ∧ ∀ x ∈ r, 0 ≤ x := by
  have hk1 := chi_pos w.h1 hc
  have ht := chi_top hc hk1 pt
  refine ⟨?_, fun e => by rw [e] at ht; simp at ht, fun x hx => (pt.bd x hx).1⟩
  rw [mxp_of ht (by omega) fun y hy => by have := (pt.bd y hy).2; omega]
  omega
theorem check_colours_ev {n : Nat} {ps : List (Int × Int)} (w : Wb n ps) {k : T} (hk : kin k = true) (h : wthn k 1 8 = true) : Ev (den_check_colours [encW n ps, k]) .non := by
  intro Q E q
  unfold den_check_colours fnDen m_check_colours
  refine i_seq (i_drop (e_ucall (e_cons (e_var rfl) e_nil) rfl (check_web_ev (encW_kn n ps) w.webB)) ?_)
  dsimp only
  refine i_if (b_not (b_val (e_ucall (e_cons (e_var rfl) (e_cons e_con (e_cons e_con e_nil))) rfl (is_within_ev hk 1 8)))) (fun hv => ?_) (fun _ => q)
  rw [h] at hv
  cases hv
theorem check_colours_x {n : Nat} {ps : List (Int × Int)} (w : Wb n ps) {k : T} (hk : kin k = true) (h : wthn k 1 8 = false) : Rz (den_check_colours [encW n ps, k]) ⟨"NoCount", none⟩ := by
  intro Q E q
  unfold den_check_colours fnDen m_check_colours
  refine i_seq (i_drop (e_ucall (e_cons (e_var rfl) e_nil) rfl (check_web_ev (encW_kn n ps) w.webB)) ?_)
  dsimp only
  refine i_if (b_not (b_val (e_ucall (e_cons (e_var rfl) (e_cons e_con (e_cons e_con e_nil))) rfl (is_within_ev hk 1 8)))) (fun _ => q) (fun hv => ?_)
  rw [h] at hv
  cases hv
theorem check_colours_w {t k : T} (ht : t.kn = true) (h : webB t = false) : Rz (den_check_colours [t, k]) ⟨"NoWeb", none⟩ := by
  intro Q E q
  unfold den_check_colours fnDen m_check_colours
  exact i_seq (i_dropX (x_ucall (e_cons (e_var rfl) e_nil) rfl (check_web_x ht h)) q)
theorem k_in {k : Nat} (h1 : 1 ≤ k) (h8 : k ≤ 8) : wthn (.int k) 1 8 = true := by
  simp only [wthn, Bool.and_eq_true, decide_eq_true_eq]
  omega
/-! ### refusals -/
def encPd (near : List (List Int)) (n : Nat) (k : Int) : T := match (PL near n k []).head? with
  | some r => .tup [.str "painting", encI r]
  | none => .tup [.str "none", nodT near n k []]
theorem PL_none {near : List (List Int)} {n : Nat} {k : Int} (h : (PL near n k []).head? = none) : PL near n k [] = [] := by
  cases e : PL near n k [] with
  | nil => rfl
  | cons a L => rw [e] at h; cases h
theorem e_isF (o : Option (List Int)) : Ev (gIs (encF o) .non) (.bl (!o.isSome)) := fun Q E q => by cases o <;> exact ⟨rfl, q⟩
def wItem (near : List (List Int)) (n : Nat) (k : Int) (r : List Int) : T := .tup [encI r, nodT near n k r]
theorem nod_kn (near : List (List Int)) (n : Nat) (k : Int) (r : List Int) : (nodT near n k r).kn = true := ndT_kn _ _ _ _
theorem wt_step {n : Nat} {near : List (List Int)} {k : Nat} (hk : k ≤ 8) {v : List Int} (hlt : v.length < n) : wtP n ((nextL near k v).map fun c => v ++ [c]) < 9 ^ (n - v.length) := by
  have hnl := nextL_len near k v
  have key : ∀ cs : List Int, wtP n (cs.map fun c => v ++ [c]) = cs.length * 9 ^ (n - (v.length + 1)) := by
    intro cs
    induction cs with
    | nil => simp [wtP]
    | cons c cs ih =>
      have e : wtP n ((c :: cs).map fun c => v ++ [c]) = 9 ^ (n - (v.length + 1)) + wtP n (cs.map fun c => v ++ [c]) := by simp [wtP]
      rw [e, ih, List.length_cons, Nat.add_mul, Nat.one_mul]
      omega
  rw [key]
  have e9 : 9 ^ (n - v.length) = 9 ^ (n - (v.length + 1)) * 9 := by
    rw [← Nat.pow_succ]
    congr 1
    omega
  have hp : 1 ≤ 9 ^ (n - (v.length + 1)) := Nat.one_le_pow _ _ (by decide)
  rw [e9, Nat.mul_comm (9 ^ _) 9]
  exact Nat.mul_lt_mul_of_pos_right (by omega) hp
theorem two_kn {a b : T} (ha : a.kn = true) (hb : b.kn = true) : (T.tup [a, b]).kn = true := by rw [T.kn, T.kns, T.kns, T.kns, ha, hb]; rfl
theorem e_maxM {r : List Int} (h0 : ∀ x ∈ r, 0 ≤ x) : Ev (g1 gMaxX [.tup (r.map T.int ++ [.int (-1)])]) (.int (mxp r - 1)) := by
  have hs : seqOf (T.tup (r.map T.int ++ [.int (-1)])) = some ((r ++ [-1]).map T.int) := by rw [List.map_append]; rfl
  refine e_maxX hs ?_ ?_
  · by_cases hne : r = []
    · subst hne
      exact List.mem_singleton.mpr (by decide)
    · exact List.mem_append_left _ (mxp_lt hne h0).2
  · intro y hy
    rcases List.mem_append.mp hy with hy | hy
    · have := mxp_lt2 h0 y hy
      omega
    · rw [List.mem_singleton.mp hy]
      have := mxp_nn r
      omega
theorem e_top {env : Twl.Env} {i : Nat} {r : List Int} (h : env[i]? = some (.va 0 (encI r))) (h0 : ∀ x ∈ r, 0 ≤ x) (hl : r.length ≤ 8) : Ev (mCall (g1 gMaxX) (mCons (mBin gAdd (mVarB i) (mTup (mCons (mUn gNeg (mCon (.int 1))) mNil))) mNil) env) (.int (mxp r - 1)) := by
  have hsz : (2 ^ 13 : Nat) < sizeLine := by unfold sizeLine; decide
  exact e_call (e_cons (e_bin (e_varB h (Nat.zero_le 1)) (e_tup (e_cons (e_un e_con (e_negI 1)) e_nil) (Nat.le_of_ble_eq_true rfl)) (e_addT (by rw [List.length_map, List.length_singleton]; omega))) e_nil) (e_maxM h0)
theorem law_plain_ev {n : Nat} {ps : List (Int × Int)} (w : Wb n ps) (hn : n ≤ 7) : Ev (den__law_plain [encW n ps]) (.lst ((plainL (nearS n ps) n).map encI)) := by
  have hsz : (2 ^ 23 : Nat) < sizeLine := by unfold sizeLine; decide
  have h8 := w.h8
  have gr := near_Gr w.ok w.asc
  intro Q E q
  unfold den__law_plain fnDen m__law_plain
  refine i_seq (i_par (e_cons (e_ucall (e_cons (e_var rfl) e_nil) rfl (law_near_ev (by omega) w.ok w.len)) (e_cons (e_lst (e_cons (e_tup e_nil (Nat.zero_le _)) e_nil) (Nat.le_of_ble_eq_true rfl)) e_nil)) ?_)
  dsimp only [setAll, List.set]
  refine i_seq (i_for (items := irT 0 n) (fun i e => ∃ s1 s4 s5 s6 s7, e = [.va 0 (encW n ps), s1, .va 0 (encRs (nearS n ps)), .va 0 (.lst ((plainL (nearS n ps) i).map encI)), s4, s5, s6, s7, .no, .no]) (e_arg (e_cons (e_bin (e_varB rfl (Nat.zero_le 1)) e_con (e_ixT (i := 0) rfl)) e_nil) (e_rng1 (by omega))) ⟨_, _, _, _, _, rfl⟩ ?_ ?_)
  · rintro i t env D2 ht ⟨s1, s4, s5, s6, s7, rfl⟩ - - - h2nx -
    obtain ⟨hi, rfl⟩ := irT_get ht
    rw [Int.zero_add]
    have hlen := plainL_len w.ok w.asc hn (i + 1) (by omega)
    have h7 : (7 : Nat) ^ (i + 1) ≤ 7 ^ 7 := Nat.pow_le_pow_right (by decide) (by omega)
    have h77 : (7 : Nat) ^ 7 = 823543 := by decide
    refine ⟨_, rfl, ?_⟩
    dsimp only [List.set]
    refine i_seq (i_set (e_lst e_nil (Nat.zero_le _)) ?_)
    dsimp only [List.set]
    refine i_seq (i_for (items := (plainL (nearS n ps) i).map encI) (fun j e => ∃ s5 s6 s7, e = [.va 0 (encW n ps), .va 0 (.int i), .va 0 (encRs (nearS n ps)), .va 0 (.lst ((plainL (nearS n ps) i).map encI)), .va 0 (.lst ((((plainL (nearS n ps) i).take j).flatMap fun r => (nextP (nearS n ps) r).map fun c => r ++ [c]).map encI)), s5, s6, s7, .no, .no]) (e_srcL (e_var rfl)) ⟨_, _, _, rfl⟩ ?_ ?_)
    · rintro j t env D3 ht ⟨s5, s6, s7, rfl⟩ - - - h3nx -
      rw [List.getElem?_map] at ht
      obtain ⟨r, hr, rfl⟩ := Option.map_eq_some_iff.mp ht
      have pn := plain_pn w.ok w.asc i (by omega) r (List.mem_of_getElem? hr)
      have hrl := pn.len
      have hm0 := mxp_nn r
      have hmx := pn.mx
      refine ⟨_, rfl, ?_⟩
      dsimp only [List.set]
      have htk := mLc_ev (env := [.va 0 (encW n ps), .va 0 (.int i), .va 0 (encRs (nearS n ps)), .va 0 (.lst ((plainL (nearS n ps) i).map encI)), .va 0 (.lst ((((plainL (nearS n ps) i).take j).flatMap fun r => (nextP (nearS n ps) r).map fun c => r ++ [c]).map encI)), .va 0 (encI r), s6, s7, .no, .no]) (vs := [8]) (g := gN 8) (c := mB (mBin (gRel .Lt) (mVarB 8) (mVarB 1))) (me := mBin gIx (mVarB 5) (mVarB 8)) (mi := mSrc (mBin gIx (mVarB 2) (mVarB 1))) (items := (nb (nearS n ps) (r.length : Nat)).map T.int) (fun t => match t with | .int x => decide (x < (r.length : Int)) | _ => false) (fun t => match t with | .int x => .int (cl r x) | _ => t) (e_srcL (e_bin (e_varB rfl (Nat.zero_le 1)) (e_varB rfl (Nat.zero_le 1)) (by rw [hrl]; exact nb_enc gr ⟨by omega, by omega⟩))) fun t ht => by
        obtain ⟨x, hx, rfl⟩ := List.mem_map.mp ht
        have hxb := nbr_bd w.ok w.asc hx
        refine ⟨_, rfl, by rw [hrl]; exact b_val (e_bin (e_varB rfl (Nat.zero_le 1)) (e_varB rfl (Nat.zero_le 1)) (e_rel _ _)), fun hp => ?_⟩
        have hp : x < (r.length : Int) := by simpa using hp
        exact e_bin (e_varB rfl (Nat.zero_le 1)) (e_varB rfl (Nat.zero_le 1)) (e_cl hxb.1 hp)
      have etk : (((nb (nearS n ps) (r.length : Nat)).map T.int).filter (fun t => match t with | .int x => decide (x < (r.length : Int)) | _ => false)).map (fun t => match t with | .int x => T.int (cl r x) | _ => t) = (takenL (nearS n ps) r).map T.int := by
        rw [List.filter_map, List.map_map]
        unfold takenL
        rw [List.map_map]
        rfl
      rw [etk] at htk
      refine i_seq (i_set htk ?_)
      dsimp only [List.set]
      refine i_seq (i_set (e_bin (e_top rfl pn.nn (by omega)) e_con (e_addI _ _)) ?_)
      dsimp only [List.set]
      have e2 : mxp r - 1 + 2 = (((mxp r + 1).toNat : Nat) : Int) := by omega
      rw [e2]
      have hm := mLc_ev (env := [.va 0 (encW n ps), .va 0 (.int i), .va 0 (encRs (nearS n ps)), .va 0 (.lst ((plainL (nearS n ps) i).map encI)), .va 0 (.lst ((((plainL (nearS n ps) i).take j).flatMap fun r => (nextP (nearS n ps) r).map fun c => r ++ [c]).map encI)), .va 0 (encI r), .va 0 (.lst ((takenL (nearS n ps) r).map T.int)), .va 0 (.int (((mxp r + 1).toNat : Nat) : Int)), .no, .no]) (vs := [9]) (g := gN 9) (c := mB (mBin gNotIn (mVarB 9) (mVarB 6))) (me := mBin gAdd (mVarB 5) (mTup (mCons (mVar 9) mNil))) (mi := mArg gRng1 (mCons (mVar 7) mNil)) (items := (rngI (mxp r + 1).toNat).map T.int) (fun t => match t with | .int x => !decide (x ∈ takenL (nearS n ps) r) | _ => false) (fun t => match t with | .int x => encI (r ++ [x]) | _ => t) (e_arg (e_cons (e_var rfl) e_nil) (by rw [← irT_rngI]; exact e_rng1 (by omega))) fun t ht => by
        obtain ⟨x, hx, rfl⟩ := List.mem_map.mp ht
        refine ⟨_, rfl, b_val (e_bin (e_varB rfl (Nat.zero_le 1)) (e_varB rfl (Nat.zero_le 1)) (e_notInS x (.inr rfl))), fun _ => ?_⟩
        have hap : Ev (gAdd (encI r) (.tup [.int x])) (encI (r ++ [x])) := by
          rw [app_enc]
          exact e_addT (by rw [List.length_map, List.length_singleton]; omega)
        exact e_bin (e_varB rfl (Nat.zero_le 1)) (e_tup (e_cons (e_var rfl) e_nil) (Nat.le_of_ble_eq_true rfl)) hap
      have em : (((rngI (mxp r + 1).toNat).map T.int).filter (fun t => match t with | .int x => !decide (x ∈ takenL (nearS n ps) r) | _ => false)).map (fun t => match t with | .int x => encI (r ++ [x]) | _ => t) = ((nextP (nearS n ps) r).map fun c => r ++ [c]).map encI := by
        rw [List.filter_map, List.map_map, List.map_map]
        rfl
      rw [em] at hm
      have hfl := flat_take (f := fun r => (nextP (nearS n ps) r).map fun c => r ++ [c]) hr
      have hle := flat_le (f := fun r => (nextP (nearS n ps) r).map fun c => r ++ [c]) (plainL (nearS n ps) i) (j + 1)
      rw [hfl, List.length_append] at hle
      have hpl : ((plainL (nearS n ps) i).flatMap fun r => (nextP (nearS n ps) r).map fun c => r ++ [c]) = plainL (nearS n ps) (i + 1) := rfl
      rw [hpl] at hle
      refine i_set (e_bin (e_varB rfl (Nat.zero_le 1)) hm (e_addL (by rw [List.length_map, List.length_map]; omega))) ?_
      dsimp only [List.set]
      rw [← List.map_append, ← hfl]
      exact h3nx _ ⟨_, _, _, rfl⟩
    · rintro env ⟨s5, s6, s7, rfl⟩
      rw [List.length_map, List.take_length]
      dsimp only
      refine i_set (e_var rfl) ?_
      dsimp only [List.set]
      exact h2nx _ ⟨_, _, _, _, _, rfl⟩
  · rintro env ⟨s1, s4, s5, s6, s7, rfl⟩
    rw [irT_rngI, List.length_map, rngl]
    dsimp only
    exact i_ret (e_var rfl) q
theorem e_anyLc {env : Twl.Env} {mi : Twl.Env → M (List T)} {g : GM} {me : Twl.Env → M T} {vs : List Nat} {items : List T} (f : T → Bool) (hi : Ev (mi env) items) (h : ∀ t ∈ items, ∃ env', g t (wipeE env vs) = some env' ∧ Ev (me env') (.bl (f t))) : Ev (mCall (g1 gAny) (mCons (mLc mi g (fun _ => ret true) me vs) mNil) env) (.bl (items.any f)) := by
  have e : (items.map fun t => T.bl (f t)) = (items.map f).map T.bl := by rw [List.map_map]; rfl
  have h1 := mLc_map (fun t => T.bl (f t)) hi h
  rw [e] at h1
  have h2 := e_any (items.map f)
  rw [List.any_map] at h2
  exact e_call (e_cons h1 e_nil) h2
end Wk05

/-! what stands alike in other laws (printed by port.py) -/
namespace Wk05
open PySem PySem.Spec PyProof.Rows L2 Twl
def allB (t : T) (n : Nat) : Bool := match t with
  | .tup ts => (match T.ints ts with
    | some ns => decide (ns.length = n) && (inI 0 ((n : Int) - 1) ns && decide (sortI ns = rngI n))
    | none => false)
  | _ => false
theorem allB_no {ts : List T} {n : Nat} (h : ts.all (fun u => wthn u 0 ((n : Int) - 1)) = false) : allB (.tup ts) n = false := by
  unfold allB
  simp only []
  cases e : T.ints ts with
  | none => rfl
  | some ns =>
    have := ints_inv e
    subst this
    rw [ints_wthn] at h
    simp only [h, Bool.false_and, Bool.and_false]
theorem allB_row (ns : List Int) (n : Nat) : allB (.tup (ns.map T.int)) n = (decide (ns.length = n) && (inI 0 ((n : Int) - 1) ns && decide (sortI ns = rngI n))) := by
  unfold allB
  simp only [Twl.ints_map]
theorem are_all_ev {t : T} (ht : t.kn = true) {n : Nat} (hn : n ≤ 8) : Ev (den_are_all [t, .int n]) (.bl (allB t n)) := by
  intro Q E q
  unfold den_are_all fnDen m_are_all
  have h1 : Ev (den_is_sized [t, .int n, .int n]) (.bl (Wk05.sizedB t n n)) := is_sized_ev (T.kn.kin ht) n n
  by_cases hs : Wk05.sizedB t n n = true
  · rw [hs] at h1
    obtain ⟨ts, rfl, hl⟩ : ∃ ts, t = .tup ts ∧ ts.length = n := by
      cases t with
      | tup ts =>
        simp only [Wk05.sizedB, Bool.and_eq_true, decide_eq_true_eq] at hs
        exact ⟨ts, rfl, by omega⟩
      | _ => cases hs
    refine i_seq (i_if (b_or (b_not (b_val (e_ucall (e_cons (e_var rfl) (e_cons (e_var rfl) (e_cons (e_var rfl) e_nil))) rfl h1))) fun _ => b_not (b_val (e_allLc (fun u => wthn u 0 ((n : Int) - 1)) (e_srcT (e_varB rfl (Nat.zero_le 1))) fun u hu => ⟨_, rfl, e_ucall (e_cons (e_var rfl) (e_cons e_con (e_cons (e_bin (e_varB rfl (Nat.zero_le 1)) e_con (e_subI _ _)) e_nil))) rfl (is_within_ev (kns_kin ht u hu) 0 ((n : Int) - 1))⟩))) (fun hv => ?_) (fun hv => ?_))
    · have h2 : ts.all (fun u => wthn u 0 ((n : Int) - 1)) = false := by simpa using hv
      refine i_ret e_con ?_
      rw [allB_no h2] at q
      exact q
    · have h2 : ts.all (fun u => wthn u 0 ((n : Int) - 1)) = true := by simpa using hv
      obtain ⟨row, rfl, hin⟩ := wthn_ints h2
      refine i_nil ?_
      dsimp only
      rw [allB_row, hin, decide_eq_true (by simpa using hl)] at q
      exact i_ret (e_bin (e_call (e_cons (e_varB rfl (Nat.zero_le 1)) e_nil) (e_sortedT row)) (e_un (e_var rfl) (e_listR n (by omega))) (e_eqLL _ _)) q
  · have hs' : Wk05.sizedB t n n = false := by simpa using hs
    rw [hs'] at h1
    refine i_seq (i_if (b_or (u := true) (b_not (b_val (e_ucall (e_cons (e_var rfl) (e_cons (e_var rfl) (e_cons (e_var rfl) e_nil))) rfl h1))) fun hh => by cases hh) (fun _ => ?_) (fun hv => by cases hv))
    refine i_ret e_con ?_
    have e : allB t n = false := by
      cases t with
      | tup ts =>
        have hl : ¬ ts.length = n := by
          intro e
          simp [Wk05.sizedB, e] at hs'
        cases e : T.ints ts with
        | none => simp only [allB, e]
        | some row =>
          have := ints_inv e
          subst this
          rw [allB_row, decide_eq_false (by simpa using hl), Bool.false_and]
      | _ => rfl
    rw [e] at q
    exact q
theorem allB_ord {n : Nat} {o : List Int} (h : Ordr n o) : allB (encI o) n = true := by
  unfold encI
  rw [allB_row, decide_eq_true h.len]
  have e : sortI o = rngI n := by
    have p : o.Perm (rngI n) := (List.perm_ext_iff_of_nodup h.nd (rngI_nd n)).mpr fun v => by
      rw [rngI_mem]
      exact ⟨fun hv => h.bd v hv, fun hv => h.all hv⟩
    exact sort_uniq ((sortI_perm o).trans p) (sortI_le o) ((rngI_lt n).imp fun h => by omega)
  rw [e, decide_eq_true rfl]
  have : inI 0 ((n : Int) - 1) o = true := by
    unfold inI
    rw [List.all_eq_true]
    intro x hx
    have := h.bd x hx
    simp only [Bool.and_eq_true, decide_eq_true_eq]
    omega
  rw [this]; rfl
/-! ### all orders -/
theorem ord_sz {n : Nat} (hn : n ≤ 5) {i : Nat} (hi : i ≤ n) : (ordL n i).length ≤ 3125 := by
  have h1 := ordL_len n i
  have h2 : n ^ i ≤ 5 ^ i := Nat.pow_le_pow_left hn i
  have h3 : 5 ^ i ≤ 5 ^ 5 := Nat.pow_le_pow_right (by decide) (by omega)
  omega
theorem pow5 {n k : Nat} (hk : k ≤ 5) (h5 : n ≤ 5) : ∀ i, i ≤ n → k ^ i ≤ 4096 := fun i hi => by
  have h1 : k ^ i ≤ 5 ^ i := Nat.pow_le_pow_left hk i
  have h2 : 5 ^ i ≤ 5 ^ 5 := Nat.pow_le_pow_right (by decide) (by omega)
  omega
theorem rowsL_sh (rs : List (List Int)) : Sh 2 (.lst (rs.map encI)) := Sh.lst fun t ht => by
  obtain ⟨xs, _, rfl⟩ := List.mem_map.mp ht
  exact Sh.tup (Sh.ints _)
theorem e_eqNilS {k : Nat} {ts : List T} (s : Sh k (.lst ts)) (hk : k ≤ 64 := by decide) : Ev (gEq (.lst ts) (.lst [])) (.bl ts.isEmpty) := fun Q E q => by
  refine ⟨⟨s.shp hk, (Sh.lst (k := 0) (ts := []) fun t h => by simp at h).shp⟩, ?_⟩
  have e : (T.lst ts).eqv (.lst []) = ts.isEmpty := by
    unfold T.eqv
    cases ts <;> simp [T.pd, T.pds, PyData.eqv, PyData.eqvAll]
  rw [e]
  exact q
theorem paints_chi {n : Nat} {ps : List (Int × Int)} (w : Wb n ps) {k j : Nat} (hc : IsChi n ps k) : (j < k → paintsL (nearS n ps) j n = []) ∧ (j = k → paintsL (nearS n ps) j n ≠ []) := by
  refine ⟨fun hj => ?_, fun hj => ?_⟩
  · cases e : paintsL (nearS n ps) j n with
    | nil => rfl
    | cons r L => exact absurd ((paints_mem w.ok w.asc).mp (by rw [e]; exact List.mem_cons_self)) (hc.lt j hj r)
  · subst hj
    obtain ⟨row, pt⟩ := hc.ex
    intro e
    have := (paints_mem w.ok w.asc).mpr pt
    rw [e] at this
    simp at this
theorem Od.webB {t : T} (h : Od t) : Wk05.webB t = false := by cases h <;> rfl
end Wk05

namespace Wk05
open PySem PySem.Spec PyProof.Rows L2 Twl
theorem law_paintings_ev {n : Nat} {ps : List (Int × Int)} (w : Wb n ps) {k : Nat} (hk8 : k ≤ 8) (hk : ∀ i, i ≤ n → k ^ i ≤ 2 ^ 20) : Ev (den__law_paintings [encW n ps, .int k]) (.lst ((paintsL (nearS n ps) k n).map encI)) := by
  have h8 := w.h8
  have ho := w.ok
  have ha := w.asc
  have hnl := (near_Gr w.ok w.asc).len
  have hw0 : Ev (gIx (encW n ps) (.int 0)) (.int n) := l_ix0
  have hcnt : ∀ i, i ≤ n → (paintsL (nearS n ps) k i).length ≤ 2 ^ 20 := fun i hi => Nat.le_trans (paints_len _ _ _) (hk i hi)
  have h1 := law_near_ev (n := n) (ps := ps) (by omega) w.ok w.len
  unfold den__law_paintings m__law_paintings
  refine fn_ev fun Q E q => ?_
  subst_eqs
  array_get_dec
  refine i_seq (i_forU [2, 5, 6, 7] (fun i => [(4, .va 0 (.lst ((paintsL (nearS n ps) k i).map encI)))]) (enc := T.int) (L := rngI n) (by ac_rfl) rfl (fun i x σ N C hx hN hC => ?_) fun σ => ?_)
  · refine ⟨_, rfl, ?_⟩
    dsimp only [putA, wild, List.foldl, List.set]
    obtain ⟨rfl, hi⟩ := rngI_at hx
    array_get_dec
    refine i_seq (i_forU [6, 7] (fun j => [(5, .va 0 (.lst ((((paintsL (nearS n ps) k i).take j).flatMap (longerL (nearS n ps) k i)).map encI)))]) (enc := encI) (L := paintsL (nearS n ps) k i) (by ac_rfl) rfl (fun j r σ2 N2 C2 hr hN2 hC2 => ?_) fun σ2 => ?_)
    · refine ⟨_, rfl, ?_⟩
      dsimp only [putA, wild, List.foldl, List.set]
      have hrl := paintsL_len2 _ _ _ _ (List.mem_of_getElem? hr)
      have hfl := flat_take (f := longerL (nearS n ps) k i) hr
      have hle := flat_le (f := longerL (nearS n ps) k i) (paintsL (nearS n ps) k i) (j + 1)
      rw [hfl, List.length_append] at hle
      have hpl : (paintsL (nearS n ps) k i).flatMap (longerL (nearS n ps) k i) = paintsL (nearS n ps) k (i + 1) := rfl
      rw [hpl] at hle
      have := hcnt (i + 1) (by omega)
      array_get_dec
      refine i_set (t := .lst ((((paintsL (nearS n ps) k i).take (j + 1)).flatMap (longerL (nearS n ps) k i)).map encI)) ?_ ?_
      · rw [hfl]
        have hlg : longerL (nearS n ps) k i r = ((rngI k).filter fun c => !decide (c ∈ ((nb (nearS n ps) i).filter fun x => cI .Lt x (i : Int)).map fun x => cl r x)).map fun c => r ++ [c] := rfl
        refine e_bin (by ac_rfl) (z := .lst ((((paintsL (nearS n ps) k i).take j).flatMap (longerL (nearS n ps) k i) ++ longerL (nearS n ps) k i r).map encI)) (y := .lst ((longerL (nearS n ps) k i r).map encI)) ?_ (l_addLM (by bv_omega))
        rw [hlg]
        refine e_lcM (f := fun c => r ++ [c]) (e2 := encI) (by ac_rfl) (fun _ _ => rfl) (fun _ _ => by ac_rfl) fun _ _ _ => by ac_rfl
      · dsimp only [List.set]
        exact hN2 _ rfl
    · dsimp only [putA, wild, List.foldl, List.set]
      rw [List.take_length]
      array_get_dec
      exact hN _ rfl
  · dsimp only [putA, wild, List.foldl, List.set]
    rw [rngl2]
    array_get_dec
    exact q _ rfl
theorem law_names_nd {n : Nat} (hn : n ≤ 8) : Nd (den__law_names [.hand, .int n]) (fun t => ∃ o, t = encI o ∧ Ordr n o) := by
  unfold den__law_names m__law_names
  refine fn_nd fun Q E q => ?_
  subst_eqs
  refine i_seq (i_par (e_cons (e_un (e_var rfl) (e_listR n (by omega))) (e_cons (e_lst e_nil (Nat.zero_le _)) e_nil)) ?_)
  dsimp only [setAll, List.set]
  refine i_seq (i_forW (α := List Int × List Int) [2] (fun i z => (z.1 ++ z.2).Nodup ∧ (∀ v ∈ z.1 ++ z.2, 0 ≤ v ∧ v < (n : Int)) ∧ z.1.length + i = n ∧ z.2.length = i) (fun i z => [(3, .va 1 (.lst (z.1.map T.int))), (4, .va 1 (.lst (z.2.map T.int)))]) (rngI n, []) (enc := T.int) (L := rngI n) (by ac_rfl) ⟨by simpa using rngI_nd n, fun v hv => rngI_mem.mp (by simpa using hv), by simp [rngl2], rfl⟩ rfl (fun i x z σ N C hx hz hN hC => ?_) fun z σ hz => ?_)
  · refine ⟨_, rfl, ?_⟩
    dsimp only [putA, wild, List.foldl, List.set]
    obtain ⟨l, f⟩ := z
    obtain ⟨hnd, hbd, hl1, hl2⟩ := hz
    dsimp only at hnd hbd hl1 hl2 ⊢
    obtain ⟨rfl, hi⟩ := rngI_at hx
    refine i_appPopN (by decide) rfl rfl (n_uc (by ac_rfl) (by rfl) ((draw_nd (m := (l.length : Nat)) (by omega) (by omega)).imp fun t ⟨j, e, h⟩ => ⟨j, e, by rw [List.length_map]; omega⟩)) (by rw [List.length_map]; omega) (by rw [List.length_map, szl]; omega) fun j z hj => ?_
    rw [List.getElem?_map] at hj
    obtain ⟨v, hv, rfl⟩ := Option.map_eq_some_iff.mp hj
    have hjl := (List.getElem?_eq_some_iff.mp hv).1
    dsimp only [List.set]
    have hp : (l.eraseIdx j ++ (f ++ [v])).Perm (l ++ f) := by
      have h1 : (v :: l.eraseIdx j).Perm l := by
        obtain ⟨_, e⟩ := List.getElem?_eq_some_iff.mp hv
        rw [List.eraseIdx_eq_take_drop_succ]
        have e2 : l = l.take j ++ v :: l.drop (j + 1) := by
          rw [← e, ← List.drop_eq_getElem_cons hjl, List.take_append_drop]
        conv => rhs; rw [e2]
        exact List.perm_middle.symm
      have h2 : (l.eraseIdx j ++ (f ++ [v])).Perm (v :: (l.eraseIdx j ++ f)) := by
        rw [← List.append_assoc]
        exact List.perm_append_singleton _ _
      exact h2.trans (h1.append_right f)
    refine hN (l.eraseIdx j, f ++ [v]) _ ⟨hp.nodup_iff.mpr hnd, fun u hu => hbd u (hp.mem_iff.mp hu), ?_, by simp [hl2]⟩ ?_
    · dsimp only
      rw [List.length_eraseIdx, if_pos hjl]
      omega
    · dsimp only
      rw [List.map_append, List.eraseIdx_eq_take_drop_succ, List.eraseIdx_eq_take_drop_succ, List.map_append, List.map_take, List.map_drop]
      rfl
  · dsimp only [putA, wild, List.foldl, List.set]
    obtain ⟨l, f⟩ := z
    obtain ⟨hnd, hbd, hl1, hl2⟩ := hz
    dsimp only at hnd hbd hl1 hl2 ⊢
    rw [rngl2] at hl1 hl2
    have : l = [] := List.eq_nil_of_length_eq_zero (by omega)
    subst this
    refine i_ret (e_call (e_cons (e_varB rfl (Nat.le_refl 1)) e_nil) (e_tupleL _)) ?_
    exact q _ ⟨f, rfl, by simpa using hnd, by simpa using hbd, hl2⟩
theorem nextL_8 {near : List (List Int)} {r : List Int} (h : mxp r ≤ 7) : nextL near 8 r = nextP near r := by
  rw [nextL_eq, List.filter_eq_self]
  intro c hc
  have := nextP_bd hc
  exact decide_eq_true (by omega)
theorem all_in_turn_ev {n : Nat} {ps : List (Int × Int)} (w : Wb n ps) (hn : n ≤ 7) : Ev (den_all_in_turn [encW n ps]) (.lst ((plainL (nearS n ps) n).map encI)) := by
  have h8 := w.h8
  have ho := w.ok
  have ha := w.asc
  have hw0 : Ev (gIx (encW n ps) (.int 0)) (.int n) := l_ix0
  have h1 := near_of_ev (n := n) (ps := ps) (by omega) w.ok w.len
  have h77 : (7 : Nat) ^ 7 = 823543 := by decide
  unfold den_all_in_turn m_all_in_turn
  refine fn_ev fun Q E q => ?_
  subst_eqs
  array_get_dec
  refine i_seq (i_forU [1, 4, 5, 6] (fun i => [(3, .va 0 (.lst ((plainL (nearS n ps) i).map encI)))]) (enc := T.int) (L := rngI n) (by ac_rfl) rfl (fun i x σ N C hx hN hC => ?_) fun σ => ?_)
  · refine ⟨_, rfl, ?_⟩
    dsimp only [putA, wild, List.foldl, List.set]
    obtain ⟨rfl, hi⟩ := rngI_at hx
    have hlen := plainL_len ho ha hn (i + 1) (by omega)
    have h7 : (7 : Nat) ^ (i + 1) ≤ 7 ^ 7 := Nat.pow_le_pow_right (by decide) (by omega)
    array_get_dec
    refine i_seq (i_forU [5, 6] (fun j => [(4, .va 1 (.lst ((((plainL (nearS n ps) i).take j).flatMap fun r => (nextP (nearS n ps) r).map fun c => r ++ [c]).map encI)))]) (enc := encI) (L := plainL (nearS n ps) i) (by ac_rfl) rfl (fun j r σ2 N2 C2 hr hN2 hC2 => ?_) fun σ2 => ?_)
    · refine ⟨_, rfl, ?_⟩
      dsimp only [putA, wild, List.foldl, List.set]
      have pn := plain_pn ho ha i (by omega) r (List.mem_of_getElem? hr)
      have hrl := pn.len
      have hmx := pn.mx
      have hnc : Ev (den_next_colours [encRs (nearS n ps), encI r, .int 8]) (.lst ((nextP (nearS n ps) r).map T.int)) := by
        rw [← nextL_8 (near := nearS n ps) (r := r) (by omega)]
        exact next_colours_ev w (k := 8) (by omega) pn.nn (by decide)
      have hfl := flat_take (f := fun r => (nextP (nearS n ps) r).map fun c => r ++ [c]) hr
      have hle := flat_le (f := fun r => (nextP (nearS n ps) r).map fun c => r ++ [c]) (plainL (nearS n ps) i) (j + 1)
      rw [hfl, List.length_append] at hle
      have hpl : ((plainL (nearS n ps) i).flatMap fun r => (nextP (nearS n ps) r).map fun c => r ++ [c]) = plainL (nearS n ps) (i + 1) := rfl
      rw [hpl] at hle
      refine i_extM (K := (nextP (nearS n ps) r).map fun c => r ++ [c]) rfl ?_ (by rw [szl]; omega) ?_
      · exact e_lcM0 (f := fun c => r ++ [c]) (e2 := encI) (by ac_rfl) (fun _ _ => rfl) fun _ _ => by ac_rfl
      · dsimp only [List.set]
        rw [← hfl]
        exact hN2 _ rfl
    · dsimp only [putA, wild, List.foldl, List.set]
      rw [List.take_length]
      array_get_dec
      array_get_dec
      exact hN _ rfl
  · dsimp only [putA, wild, List.foldl, List.set]
    rw [rngl2]
    array_get_dec
    exact q _ rfl
end Wk05

namespace Wk05
open PySem PySem.Spec PyProof.Rows L2 Twl
/-- how many have j colours among some -/
def cntL (L : List (List Int)) (j : Int) : Int := (L.filter fun r => decide (mxp r = j)).length
theorem enZ_map {c : Int → Int} (N : Nat) : enZ ((rngI N).map c) = (rngI N).map fun j => (j, c j) := by
  unfold enZ
  rw [List.length_map, rngl2, List.zip_map_right]
  generalize rngI N = L
  induction L with
  | nil => rfl
  | cons x L ih => rw [List.zip_cons_cons, List.map_cons, List.map_cons, ih]; rfl
theorem cntL_add (L : List (List Int)) (r : List Int) (j : Int) : cntL (L ++ [r]) j = cntL L j + (if mxp r = j then 1 else 0) := by
  unfold cntL
  rw [List.filter_append, List.length_append, List.filter_cons]
  by_cases h : mxp r = j
  · rw [if_pos (decide_eq_true h), if_pos h]; simp
  · rw [if_neg (by simpa using h), if_neg h]; simp
theorem raw_counts_ev {n : Nat} {ps : List (Int × Int)} (w : Wb n ps) (hn : n ≤ 7) : Ev (den_raw_counts [encW n ps]) (.lst (((rngI 9).map (cntP (nearS n ps) n)).map T.int)) := by
  have ho := w.ok
  have ha := w.asc
  have h1 := w.h1
  have hal := all_in_turn_ev w hn
  unfold den_raw_counts m_raw_counts
  refine fn_ev fun Q E q => ?_
  subst_eqs
  refine i_seq (i_set (t := .lst (((rngI 9).map (cntL [])).map T.int)) (e_bin (x := .lst [.int 0]) (y := .int (9 : Nat)) (by ac_rfl) (Ev.to (by ac_rfl) (by rfl)) (Ev.to (e_mulL (xs := [.int 0]) (k := 9) (by decide) (by decide)) (by rfl))) ?_)
  dsimp only [List.set]
  refine i_seq (i_forU [2] (fun i => [(1, .va 1 (.lst (((rngI 9).map (cntL ((plainL (nearS n ps) n).take i))).map T.int)))]) (enc := encI) (L := plainL (nearS n ps) n) (by ac_rfl) rfl (fun i r σ N C hr hN hC => ?_) fun σ => ?_)
  · refine ⟨_, rfl, ?_⟩
    dsimp only [putA, wild, List.foldl, List.set]
    have pn := plain_pn ho ha n (Nat.le_refl _) r (List.mem_of_getElem? hr)
    have hrl := pn.len
    have hmx := pn.mx
    have hne : r ≠ [] := fun e => by rw [e] at hrl; simp at hrl; omega
    have hm := e_maxRow (t := encI r) rfl hne pn.nn
    obtain ⟨m, em⟩ := Int.eq_ofNat_of_zero_le (mxp_nn r)
    have hml : m < 9 := by omega
    refine i_augSt (j := m) (t := .int (cntL ((plainL (nearS n ps) n).take i) m)) (u := .int 1) (z := .int (cntL ((plainL (nearS n ps) n).take i) m + 1)) rfl (Ev.to (by ac_rfl) (by rw [em]; congr 1; omega)) ?_ (by ac_rfl) (fun Q E q => ⟨trivial, q⟩) ?_
    · rw [List.getElem?_map, List.getElem?_map, rngI_get hml]
      rfl
    · dsimp only [List.set]
      refine hN _ ?_
      dsimp only [putA, wild, List.foldl, List.set, at_]
      congr 4
      obtain ⟨hi, er⟩ := List.getElem?_eq_some_iff.mp hr
      rw [List.take_succ_eq_append_getElem hi, er, ← List.map_set]
      congr 1
      refine List.ext_getElem? fun j => ?_
      rw [List.getElem?_set, List.length_map, rngl2]
      by_cases hj : j < 9
      · rw [List.getElem?_map, List.getElem?_map, rngI_get hj]
        by_cases e : m = j
        · subst e
          rw [if_pos rfl, if_pos hj]
          simp only [Option.map_some, cntL_add, em, if_true]
        · rw [if_neg e]
          simp only [Option.map_some, cntL_add, em]
          rw [if_neg (by omega), Int.add_zero]
      · rw [if_neg (by omega), List.getElem?_eq_none (by simp [rngl2]; omega), List.getElem?_eq_none (by simp [rngl2]; omega)]
  · dsimp only [putA, wild, List.foldl, List.set]
    rw [List.take_length]
    array_get_dec
    array_get_dec
    exact q _ rfl
theorem falling_ev {k : Int} (hk : 0 ≤ k ∧ k ≤ 8) {j : Int} (hj : 0 ≤ j ∧ j ≤ 8) : Ev (den_falling_product [.int k, .int j]) (.int (fall k j.toNat)) := by
  unfold den_falling_product m_falling_product
  refine fn_ev fun Q E q => ?_
  subst_eqs
  array_get_dec
  refine i_seq (i_forU [3] (fun i => [(2, .va 0 (.int (fall k i)))]) (enc := T.int) (L := rngI j.toNat) (by ac_rfl) rfl (fun i x σ N C hx hN hC => ?_) fun σ => ?_)
  · refine ⟨_, rfl, ?_⟩
    dsimp only [putA, wild, List.foldl, List.set]
    obtain ⟨rfl, hi⟩ := rngI_at hx
    array_get_dec
    refine hN _ ?_
    rw [fall_r]
    rfl
  · dsimp only [putA, wild, List.foldl, List.set]
    rw [rngl2]
    array_get_dec
    exact q _ rfl
theorem cntP_bd {n : Nat} {ps : List (Int × Int)} (w : Wb n ps) (hn : n ≤ 7) (j : Int) : 0 ≤ cntP (nearS n ps) n j ∧ cntP (nearS n ps) n j ≤ 823543 := by
  have h1 := plainL_len w.ok w.asc hn n (Nat.le_refl _)
  have h7 : (7 : Nat) ^ n ≤ 7 ^ 7 := Nat.pow_le_pow_right (by decide) hn
  have h77 : (7 : Nat) ^ 7 = 823543 := by decide
  have h2 := List.length_filter_le (fun r => decide (mxp r = j)) (plainL (nearS n ps) n)
  unfold cntP
  omega
theorem raw_many_ev {n : Nat} {ps : List (Int × Int)} (w : Wb n ps) (hn : n ≤ 7) {k : Nat} (hk : k ≤ 8) : Ev (den_raw_many [encW n ps, .int k]) (.int ((paintsL (nearS n ps) k n).length : Nat)) := by
  have hc := raw_counts_ev w hn
  have hf : ∀ j : Int, 0 ≤ j → j < 9 → Ev (den_falling_product [.int k, .int j]) (.int (fall k j.toNat)) := fun j h0 h1 => falling_ev ⟨by omega, by omega⟩ ⟨h0, by omega⟩
  unfold den_raw_many m_raw_many
  refine fn_ev fun Q E q => ?_
  subst_eqs
  have hs := e_call (env := [.va 0 (encW n ps), .va 0 (.int k), .no, .no]) (g := g1 gSum) (mas := mCons (mLc (mArg gEn1 (mCons ((fun env => bnd ((mCons (mVar 0) (mNil)) env) fun ts => gd (ts.length = 1) (den_raw_counts ts))) (mNil))) (gTp (gsCons (gN 2) (gsCons (gN 3) (gsNil)))) (fun _ => ret true) (mBin gMul (mVarB 3) ((fun env => bnd ((mCons (mVar 1) (mCons (mVar 2) (mNil))) env) fun ts => gd (ts.length = 2) (den_falling_product ts)))) [2, 3]) mNil) (e_cons (e_lcI0 (enc := fun p : Int × Int => T.tup [.int p.1, .int p.2]) (f := fun p => p.2 * fall (k : Int) p.1.toNat) (L := enZ ((rngI 9).map (cntP (nearS n ps) n))) (by ac_rfl) (fun _ _ => rfl) (fun p hp => ?_)) e_nil) (l_sum rfl)
  · refine i_ret hs (q _ ?_)
    rw [enZ_map, List.map_map]
    congr 1
    exact (paints_cnt w.ok w.asc k 9 (.inl (by omega))).symm
  · rw [enZ_map] at hp
    obtain ⟨j, hj, rfl⟩ := List.mem_map.mp hp
    have hb := rngI_mem.mp hj
    have hcb := cntP_bd w hn j
    have hb9 : j < 9 := by omega
    ac_rfl
theorem how_many_ev {n : Nat} {ps : List (Int × Int)} (w : Wb n ps) (hn : n ≤ 7) {k : Nat} (h1 : 1 ≤ k) (hk : k ≤ 8) : Ev (den_how_many_paintings [encW n ps, .int k]) (.int ((paintsL (nearS n ps) k n).length : Nat)) := by
  have hc := check_colours_ev w (k := .int k) rfl (k_in h1 hk)
  have hm := raw_many_ev w hn hk
  unfold den_how_many_paintings m_how_many_paintings
  refine fn_ev fun Q E q => ?_
  subst_eqs
  array_get_dec
  array_get_dec
  exact q _ rfl
theorem plain_count_ev {n : Nat} {ps : List (Int × Int)} (w : Wb n ps) (hn : n ≤ 7) {k : Int} (h1 : 1 ≤ k) (hk : k ≤ 8) : Ev (den_plain_count [encW n ps, .int k]) (.int (cntP (nearS n ps) n k)) := by
  obtain ⟨m, rfl⟩ := Int.eq_ofNat_of_zero_le (show 0 ≤ k by omega)
  have hc := check_colours_ev w (k := .int m) rfl (k_in (by omega) (by omega))
  have hm := raw_counts_ev w hn
  unfold den_plain_count m_plain_count
  refine fn_ev fun Q E q => ?_
  subst_eqs
  array_get_dec
  array_get_dec
  refine q _ ?_
  rw [cl_map (by omega) (by rw [rngl2]; omega), cl_rng (by omega) (by omega)]
theorem all_plain_ev {n : Nat} {ps : List (Int × Int)} (w : Wb n ps) (hn : n ≤ 7) {k : Int} (h1 : 1 ≤ k) (hk : k ≤ 8) : Ev (den_all_plain [encW n ps, .int k]) (.tup (((plainL (nearS n ps) n).filter fun r => decide (mxp r - 1 + 1 = k)).map encI)) := by
  obtain ⟨m, rfl⟩ := Int.eq_ofNat_of_zero_le (show 0 ≤ k by omega)
  have hc := check_colours_ev w (k := .int m) rfl (k_in (by omega) (by omega))
  have hm := all_in_turn_ev w hn
  have hpn := plain_pn w.ok w.asc n (Nat.le_refl _)
  have hn1 := w.h1
  have hmax : ∀ r ∈ plainL (nearS n ps) n, Ev (g1 gMaxX [encI r]) (.int (mxp r - 1)) := fun r hr => e_maxRow rfl (fun e => by have := (hpn r hr).len; rw [e] at this; simp at this; omega) (hpn r hr).nn
  unfold den_all_plain m_all_plain
  refine fn_ev fun Q E q => ?_
  subst_eqs
  array_get_dec
  array_get_dec
  exact q _ rfl
theorem how_many_w {t k : T} (ht : t.kn = true) (h : webB t = false) : Rz (den_how_many_paintings [t, k]) ⟨"NoWeb", none⟩ := fn_rz fun Q E q => i_seq (i_dropX (x_uc (by ac_rfl) (by rfl) (check_colours_w ht h)) q)
theorem how_many_x {n : Nat} {ps : List (Int × Int)} (w : Wb n ps) {k : T} (hk : kin k = true) (h : wthn k 1 8 = false) : Rz (den_how_many_paintings [encW n ps, k]) ⟨"NoCount", none⟩ := fn_rz fun Q E q => i_seq (i_dropX (x_uc (by ac_rfl) (by rfl) (check_colours_x w hk h)) q)
theorem plain_count_w {t k : T} (ht : t.kn = true) (h : webB t = false) : Rz (den_plain_count [t, k]) ⟨"NoWeb", none⟩ := fn_rz fun Q E q => i_seq (i_dropX (x_uc (by ac_rfl) (by rfl) (check_colours_w ht h)) q)
theorem plain_count_x {n : Nat} {ps : List (Int × Int)} (w : Wb n ps) {k : T} (hk : kin k = true) (h : wthn k 1 8 = false) : Rz (den_plain_count [encW n ps, k]) ⟨"NoCount", none⟩ := fn_rz fun Q E q => i_seq (i_dropX (x_uc (by ac_rfl) (by rfl) (check_colours_x w hk h)) q)
theorem all_plain_x {n : Nat} {ps : List (Int × Int)} (w : Wb n ps) {k : T} (hk : kin k = true) (h : wthn k 1 8 = false) : Rz (den_all_plain [encW n ps, k]) ⟨"NoCount", none⟩ := fn_rz fun Q E q => i_seq (i_dropX (x_uc (by ac_rfl) (by rfl) (check_colours_x w hk h)) q)
/-! ### by other names -/
theorem raw_renamed_ev {n : Nat} {ps : List (Int × Int)} (w : Wb n ps) {o : List Int} (h : Ordr n o) : Ev (den_raw_renamed [encW n ps, encI o]) (encW n (renL o ps)) := by
  have ho := w.ok
  have hl := h.len
  have hw0 : Ev (gIx (encW n ps) (.int 0)) (.int n) := l_ix0
  have hw1 : Ev (gIx (encW n ps) (.int 1)) (.tup (ps.map encP)) := l_ix1
  have hs := e_sortP (ps.map (renP o))
  unfold den_raw_renamed m_raw_renamed
  refine fn_ev fun Q E q => ?_
  subst_eqs
  refine i_seq (i_set (e_lcM0 (f := renP o) (e2 := encP) (by ac_rfl) (fun _ _ => rfl) fun p hp => ?_) ?_)
  · have hb := tie_bd ho hp
    show Ev _ (T.tup [.int (if cl o p.2 < cl o p.1 then cl o p.2 else cl o p.1), .int (if cl o p.2 > cl o p.1 then cl o p.2 else cl o p.1)])
    ac_rfl
  · dsimp only [List.set]
    array_get_dec
    exact q _ rfl
theorem renamed_ev {n : Nat} {ps : List (Int × Int)} (w : Wb n ps) {o : List Int} (h : Ordr n o) : Ev (den_renamed [encW n ps, encI o]) (encW n (renL o ps)) := by
  have hc := check_web_ev (encW_kn n ps) w.webB
  have hr := raw_renamed_ev w h
  have ha := are_all_ev (t := encI o) (I_kn o) w.h8
  rw [allB_ord h] at ha
  have hw0 : Ev (gIx (encW n ps) (.int 0)) (.int n) := l_ix0
  unfold den_renamed m_renamed
  refine fn_ev fun Q E q => ?_
  subst_eqs
  array_get_dec
  refine i_chk (by ac_rfl) (by rfl) ?_
  array_get_dec
  exact q _ rfl
theorem ren_wb {n : Nat} {ps : List (Int × Int)} (w : Wb n ps) {o : List Int} (h : Ordr n o) : Wb n (renL o ps) := ⟨w.h1, w.h8, ren_ok w.ok h, ren_asc w.ok w.asc h⟩
end Wk05

namespace Wk05
open PySem PySem.Spec PyProof.Rows L2 Twl
theorem word_count {b : M T} (h : Rz b ⟨"NoCount", none⟩) : Ev (den__law_word b) (.str "count") := by
  intro Q E q
  unfold den__law_word wordDen m__law_word
  intro f
  refine i_seq (i_set e_con ?_)
  refine i_seq ⟨rfl, h _ _ ?_⟩
  refine ⟨by decide, ?_⟩
  rw [if_neg (by decide)]
  refine ⟨by decide, ?_⟩
  rw [if_pos (by decide)]
  intro a cv dd
  dsimp only [blank, List.replicate, List.set]
  refine i_seq (i_set (t := .lst [.bl true, .bl false]) (e_lst (e_cons (t := .bl true) (fun Q E q => ⟨_, rfl, by decide, rfl, q⟩) (e_cons (t := .bl false) (fun Q E q => ⟨_, rfl, by decide, rfl, q⟩) e_nil)) (Nat.le_of_ble_eq_true rfl)) ?_)
  dsimp only [List.set]
  refine i_seq (i_set (e_lst (e_cons e_con (e_cons e_con e_nil)) (Nat.le_of_ble_eq_true rfl)) ?_)
  dsimp only [List.set]
  refine i_set (t := .str "count") (e_if (v := true) (b_val (e_bin (e_binL (z := .int 1) (e_varB rfl (Nat.zero_le 1)) e_con (fun Q E q => ⟨⟨rfl, rfl⟩, q⟩)) e_con (e_eqI 1 1))) (fun _ => e_bin (e_varB rfl (Nat.zero_le 1)) (e_binL (z := .int 0) (e_varB rfl (Nat.zero_le 1)) e_con (fun Q E q => ⟨⟨rfl, rfl⟩, q⟩)) (e_ixL (i := 0) rfl)) (fun hv => by cases hv)) ?_
  dsimp only [clr, List.set]
  exact i_ret (e_var rfl) q
theorem word_web {b : M T} (h : Rz b ⟨"NoWeb", none⟩) : Ev (den__law_word b) (.str "web") := by
  intro Q E q
  unfold den__law_word wordDen m__law_word
  intro f
  refine i_seq (i_set e_con ?_)
  refine i_seq ⟨rfl, h _ _ ?_⟩
  refine ⟨by decide, ?_⟩
  rw [if_neg (by decide)]
  refine ⟨by decide, ?_⟩
  rw [if_pos (by decide)]
  intro a cv dd
  dsimp only [blank, List.replicate, List.set]
  refine i_seq (i_set (t := .lst [.bl false, .bl true]) (e_lst (e_cons (t := .bl false) (fun Q E q => ⟨_, rfl, by decide, rfl, q⟩) (e_cons (t := .bl true) (fun Q E q => ⟨_, rfl, by decide, rfl, q⟩) e_nil)) (Nat.le_of_ble_eq_true rfl)) ?_)
  dsimp only [List.set]
  refine i_seq (i_set (e_lst (e_cons e_con (e_cons e_con e_nil)) (Nat.le_of_ble_eq_true rfl)) ?_)
  dsimp only [List.set]
  refine i_set (t := .str "web") (e_if (v := true) (b_val (e_bin (e_binL (z := .int 1) (e_varB rfl (Nat.zero_le 1)) e_con (fun Q E q => ⟨⟨rfl, rfl⟩, q⟩)) e_con (e_eqI 1 1))) (fun _ => e_bin (e_varB rfl (Nat.zero_le 1)) (e_binL (z := .int 1) (e_varB rfl (Nat.zero_le 1)) e_con (fun Q E q => ⟨⟨rfl, rfl⟩, q⟩)) (e_ixL (i := 1) rfl)) (fun hv => by cases hv)) ?_
  dsimp only [clr, List.set]
  exact i_ret (e_var rfl) q
end Wk05

namespace Wk05
open PySem PySem.Spec PyProof.Rows L2 Twl
local macro_rules | `(tactic| ac_rfl) => `(tactic| first
  | ((with_reducible apply word_web); (with_reducible apply Twl.x_uc); ac_rfl; (exact rfl); with_reducible assumption)
  | ((with_reducible apply word_count); (with_reducible apply Twl.x_uc); ac_rfl; (exact rfl); with_reducible assumption))
theorem law_ok : m_law lawEnd ((List.replicate 16 Sl.no).set 1 (.va 0 .hand)) := by
  unfold m_law
  dsimp only [List.replicate, List.set]
  refine i_seq (i_forU [2, 3, 4, 5, 6, 7, 8, 9, 10, 11, 12, 13, 14] (fun _ => []) (enc := T.int) (L := rngI 3) (by ac_rfl) rfl (fun turn x σ N C hx hN hC => ?_) fun σ => ?_)
  · refine ⟨_, rfl, ?_⟩
    dsimp only [putA, wild, List.foldl, List.set]
    have hweb : Nd (den__law_web [.hand, .int 6]) (fun t => ∃ (n : Nat) (ps : List (Int × Int)), t = encW n ps ∧ Wb n ps ∧ n ≤ 6) := law_web_nd (most := 6) (by decide) (by decide)
    exists hweb
    rintro _ ⟨n, ps, rfl, w, hn⟩
    dsimp only [List.set]
    have ho := w.ok
    have ha := w.asc
    have h8 := w.h8
    have h1 := w.h1
    have hw0 : Ev (gIx (encW n ps) (.int 0)) (.int n) := l_ix0
    have hw1 : Ev (gIx (encW n ps) (.int 1)) (.tup (ps.map encP)) := l_ix1
    refine i_seq (i_setN (P := fun t => ∃ k : Nat, t = .int k ∧ 1 ≤ k ∧ k ≤ 4) (n_binR e_con (n_uc (by ac_rfl) (by rfl) (draw_nd (m := 4) (by decide) (by decide))) ?_) ?_)
    · rintro _ ⟨i, rfl, hi⟩
      exact (e_addI _ _).nd ⟨1 + i, by rw [Int.natCast_add]; rfl, by omega, by omega⟩
    rintro _ ⟨k, rfl, hk1, hk4⟩
    dsimp only [List.set]
    have hk8 : k ≤ 8 := by omega
    have hpow : ∀ i, i ≤ n → k ^ i ≤ 2 ^ 20 := fun i hi => Nat.le_trans (Nat.pow_le_pow_left hk4 i) (Nat.le_trans (Nat.pow_le_pow_right (by decide) (show i ≤ 6 by omega)) (by decide))
    have hplain := law_plain_ev w (by omega)
    have hpaint := law_paintings_ev w hk8 hpow
    have hlenp := hpow n (Nat.le_refl _)
    have hpl := paints_len (nearS n ps) k n
    array_get_dec
    have hhm := how_many_ev w (by omega) hk1 hk8
    refine i_chk (Ev.to (by ac_rfl) (by rfl)) (by simp) ?_
    have hpn := plain_pn ho ha n (Nat.le_refl _)
    have hne : ∀ r ∈ plainL (nearS n ps) n, r ≠ [] := fun r hr e => by have := (hpn r hr).len; rw [e] at this; simp at this; omega
    have hmax : ∀ r ∈ plainL (nearS n ps) n, Ev (g1 gMaxX [encI r]) (.int (mxp r - 1)) := fun r hr => e_maxRow rfl (hne r hr) (hpn r hr).nn
    have hc0 : cntP (nearS n ps) n 0 = 0 := by
      unfold cntP
      have : (plainL (nearS n ps) n).filter (fun r => decide (mxp r = 0)) = [] := by
        rw [List.filter_eq_nil_iff]
        intro r hr
        have := (mxp_lt (hne r hr) (hpn r hr).nn).2
        have := (hpn r hr).nn _ this
        simp
        omega
      rw [this]
      rfl
    array_get_dec
    refine i_seq (i_forU [5, 12] (fun i => [(10, .va 0 (.int ((rngI (i + 1)).map fun j => cntP (nearS n ps) n j * fall (k : Int) j.toNat).sum)), (11, .va 0 (.int (fall k i)))]) (enc := T.int) (L := rngZ 1 (k + 1)) (by ac_rfl) ?_ (fun i x σ2 N2 C2 hx hN2 hC2 => ?_) fun σ2 => ?_)
    · have e : ((rngI (0 + 1)).map fun j => cntP (nearS n ps) n j * fall (k : Int) j.toNat).sum = 0 := by
        show (cntP (nearS n ps) n 0 * fall (k : Int) 0 + 0) = 0
        rw [hc0]; simp
      rw [e]
      rfl
    · refine ⟨_, rfl, ?_⟩
      dsimp only [putA, wild, List.foldl, List.set]
      obtain ⟨rfl, hi⟩ := rngZ_at hx
      have hpc := plain_count_ev w (by omega) (k := 1 + (i : Int)) (by omega) (by omega)
      have hap := all_plain_ev w (by omega) (k := 1 + (i : Int)) (by omega) (by omega)
      have ef : (plainL (nearS n ps) n).filter (fun r => decide (mxp r - 1 + 1 = 1 + (i : Int))) = (plainL (nearS n ps) n).filter fun r => decide (mxp r = 1 + (i : Int)) := List.filter_congr fun r _ => decide_eq_decide.mpr (by omega)
      rw [ef] at hap
      have hns := e_neS (t := .tup (((plainL (nearS n ps) n).filter fun r => decide (mxp r = 1 + (i : Int))).map encI)) (k := 2) (Sh.tup fun t ht => by
        obtain ⟨r, _, rfl⟩ := List.mem_map.mp ht
        exact sh_I r)
      have hcb := cntP_bd w (by omega) (1 + (i : Int))
      array_get_dec
      array_get_dec
      rw [ef]
      refine i_chk (v := false) (b_or (v := false) (u := false) (Ev.to (by ac_rfl) (by unfold cntP; simp)) fun _ => by ac_rfl) rfl ?_
      have hbd : 0 ≤ (((plainL (nearS n ps) n).filter fun r => decide (mxp r = 1 + (i : Int))).length : Int) ∧ (((plainL (nearS n ps) n).filter fun r => decide (mxp r = 1 + (i : Int))).length : Int) ≤ 823543 := hcb
      array_get_dec
      refine hN2 _ ?_
      dsimp only [putA, wild, List.foldl, List.set, at_]
      have e1 : fall (k : Int) i * ((k : Int) + 1 - (1 + (i : Int))) = fall (k : Int) (i + 1) := by
        rw [fall_r]
        congr 1
        omega
      have e2 : ((rngI (i + 1 + 1)).map fun j => cntP (nearS n ps) n j * fall (k : Int) j.toNat).sum = ((rngI (i + 1)).map fun j => cntP (nearS n ps) n j * fall (k : Int) j.toNat).sum + (((plainL (nearS n ps) n).filter fun r => decide (mxp r = 1 + (i : Int))).length : Int) * fall (k : Int) (i + 1) := by
        rw [rngI_succ (i + 1), List.map_append, sum_app]
        congr 1
        show cntP (nearS n ps) n ((i + 1 : Nat) : Int) * fall (k : Int) (i + 1) + 0 = _
        rw [Int.add_zero, Int.natCast_add, Int.add_comm (i : Int)]
        rfl
      rw [e1, e2]
      rfl
    · dsimp only [putA, wild, List.foldl, List.set]
      have e3 : (rngZ 1 ((k : Int) + 1)).length = k := by rw [rngZ_len]; omega
      rw [e3, ← paints_cnt ho ha k (k + 1) (.inr (by omega))]
      refine i_chk (Ev.to (by ac_rfl) (by rfl)) (by simp) ?_
      refine i_seq (i_setN (P := fun t => ∃ o, t = encW n (renL o ps) ∧ Ordr n o) (n_arg2 (by ac_rfl) (n_uc (by ac_rfl) (by rfl) (law_names_nd h8)) ?_) ?_)
      · rintro _ ⟨o, rfl, ho2⟩
        exact (renamed_ev w ho2).nd ⟨o, rfl, ho2⟩
      rintro _ ⟨o, rfl, ho2⟩
      dsimp only [List.set]
      have w2 := ren_wb w ho2
      have hhm2 := how_many_ev w2 (by omega) hk1 hk8
      rw [ren_paints ho ha ho2] at hhm2
      have hpc := plain_count_ev w (by omega) (k := (k : Int)) (by omega) (by omega)
      have hpc2 := plain_count_ev w2 (by omega) (k := (k : Int)) (by omega) (by omega)
      rw [ren_cnt ho ha ho2] at hpc2
      refine i_chk (v := false) (b_or (v := false) (u := false) (Ev.to (by ac_rfl) (by simp)) fun _ => Ev.to (by ac_rfl) (by simp)) rfl ?_
      have hoff : Nd (den__law_any [.hand, .lst [.non, .int 0, .int 9, .bl true, .str "1"]]) (fun o => kin o = true ∧ wthn o 1 8 = false) := by
        refine (law_any_nd (Nat.le_of_ble_eq_true rfl) (Nat.le_of_ble_eq_true rfl)).imp fun o ho => ?_
        simp only [List.mem_cons, List.not_mem_nil, or_false] at ho
        rcases ho with rfl | rfl | rfl | rfl | rfl <;> exact ⟨rfl, rfl⟩
      refine i_seq (i_parN (n_two (n_uc (by ac_rfl) (by rfl) law_no_web_nd) (n_uc (by ac_rfl) (by rfl) hoff)) ?_)
      rintro _ ⟨bad, off, rfl, ⟨hbw, hbk⟩, hok, hof⟩
      dsimp only [setAll, List.set]
      have x1 : Rz (den_how_many_paintings [bad, off]) ⟨"NoWeb", none⟩ := how_many_w hbk hbw
      have x2 := how_many_x w hok hof
      have x3 : Rz (den_plain_count [bad, off]) ⟨"NoWeb", none⟩ := plain_count_w hbk hbw
      have x4 := plain_count_x w hok hof
      have x5 := all_plain_x w hok hof
      array_get_dec
      array_get_dec
      array_get_dec
      array_get_dec
      array_get_dec
      refine i_end (words_ok ["web", "count", "web", "count", "count"] (by rfl) (by ac_rfl) (by rfl) (by decide +kernel) (Nat.le_of_ble_eq_true rfl)) rfl ?_
      exact hN _ rfl
  · dsimp only [putA, wild, List.foldl, List.set]
    array_get_dec
    rfl
end Wk05

/-! the head of law_k05_whole_paintings_counted (printed by gen.py) -/
namespace Wk05
open PySem PySem.Spec PyProof.Rows L2 Twl
def d_is_integer : He.DefD := ⟨("is_integer", none), "is_integer", "is_integer", defArgs s_is_integer, defBody s_is_integer, defScope s_is_integer, [], []⟩
def d_is_within : He.DefD := ⟨("is_within", none), "is_within", "is_within", defArgs s_is_within, defBody s_is_within, defScope s_is_within, [], []⟩
def d_is_sized : He.DefD := ⟨("is_sized", none), "is_sized", "is_sized", defArgs s_is_sized, defBody s_is_sized, defScope s_is_sized, [], []⟩
def d_is_lot : He.DefD := ⟨("is_lot", none), "is_lot", "is_lot", defArgs s_is_lot, defBody s_is_lot, defScope s_is_lot, [], []⟩
def d_are_all : He.DefD := ⟨("are_all", none), "are_all", "are_all", defArgs s_are_all, defBody s_are_all, defScope s_are_all, [], []⟩
def d_are_ties : He.DefD := ⟨("are_ties", none), "are_ties", "are_ties", defArgs s_are_ties, defBody s_are_ties, defScope s_are_ties, [], []⟩
def d_is_web : He.DefD := ⟨("is_web", none), "is_web", "is_web", defArgs s_is_web, defBody s_is_web, defScope s_is_web, [], []⟩
def d_check_web : He.DefD := ⟨("check_web", none), "check_web", "check_web", defArgs s_check_web, defBody s_check_web, defScope s_check_web, [], []⟩
def d_near_of : He.DefD := ⟨("near_of", none), "near_of", "near_of", defArgs s_near_of, defBody s_near_of, defScope s_near_of, [], []⟩
def d_raw_renamed : He.DefD := ⟨("raw_renamed", none), "raw_renamed", "raw_renamed", defArgs s_raw_renamed, defBody s_raw_renamed, defScope s_raw_renamed, [], []⟩
def d_renamed : He.DefD := ⟨("renamed", none), "renamed", "renamed", defArgs s_renamed, defBody s_renamed, defScope s_renamed, [], []⟩
def d_next_colours : He.DefD := ⟨("next_colours", none), "next_colours", "next_colours", defArgs s_next_colours, defBody s_next_colours, defScope s_next_colours, [], []⟩
def d_check_colours : He.DefD := ⟨("check_colours", none), "check_colours", "check_colours", defArgs s_check_colours, defBody s_check_colours, defScope s_check_colours, [], []⟩
def d_all_in_turn : He.DefD := ⟨("all_in_turn", none), "all_in_turn", "all_in_turn", defArgs s_all_in_turn, defBody s_all_in_turn, defScope s_all_in_turn, [], []⟩
def d_raw_counts : He.DefD := ⟨("raw_counts", none), "raw_counts", "raw_counts", defArgs s_raw_counts, defBody s_raw_counts, defScope s_raw_counts, [], []⟩
def d_falling_product : He.DefD := ⟨("falling_product", none), "falling_product", "falling_product", defArgs s_falling_product, defBody s_falling_product, defScope s_falling_product, [], []⟩
def d_raw_many : He.DefD := ⟨("raw_many", none), "raw_many", "raw_many", defArgs s_raw_many, defBody s_raw_many, defScope s_raw_many, [], []⟩
def d_how_many_paintings : He.DefD := ⟨("how_many_paintings", none), "how_many_paintings", "how_many_paintings", defArgs s_how_many_paintings, defBody s_how_many_paintings, defScope s_how_many_paintings, [], []⟩
def d_plain_count : He.DefD := ⟨("plain_count", none), "plain_count", "plain_count", defArgs s_plain_count, defBody s_plain_count, defScope s_plain_count, [], []⟩
def d_all_plain : He.DefD := ⟨("all_plain", none), "all_plain", "all_plain", defArgs s_all_plain, defBody s_all_plain, defScope s_all_plain, [], []⟩
def d__law_hand : He.DefD := ⟨("_law_hand", none), "_law_hand", "_law_hand", defArgs s__law_hand, defBody s__law_hand, defScope s__law_hand, [], []⟩
def d__law_draw : He.DefD := ⟨("_law_draw", none), "_law_draw", "_law_draw", defArgs s__law_draw, defBody s__law_draw, defScope s__law_draw, [], []⟩
def d__law_any : He.DefD := ⟨("_law_any", none), "_law_any", "_law_any", defArgs s__law_any, defBody s__law_any, defScope s__law_any, [], []⟩
def d__law_web : He.DefD := ⟨("_law_web", none), "_law_web", "_law_web", defArgs s__law_web, defBody s__law_web, defScope s__law_web, [], []⟩
def d__law_near : He.DefD := ⟨("_law_near", none), "_law_near", "_law_near", defArgs s__law_near, defBody s__law_near, defScope s__law_near, [], []⟩
def d__law_no_web : He.DefD := ⟨("_law_no_web", none), "_law_no_web", "_law_no_web", defArgs s__law_no_web, defBody s__law_no_web, defScope s__law_no_web, [], []⟩
def d__law_paintings : He.DefD := ⟨("_law_paintings", none), "_law_paintings", "_law_paintings", defArgs s__law_paintings, defBody s__law_paintings, defScope s__law_paintings, [], []⟩
def d__law_plain : He.DefD := ⟨("_law_plain", none), "_law_plain", "_law_plain", defArgs s__law_plain, defBody s__law_plain, defScope s__law_plain, [], []⟩
def d__law_names : He.DefD := ⟨("_law_names", none), "_law_names", "_law_names", defArgs s__law_names, defBody s__law_names, defScope s__law_names, [], []⟩
def d__law_word : He.DefD := ⟨("_law_word", none), "_law_word", "_law_word", defArgs s__law_word, defBody s__law_word, defScope s__law_word, [], []⟩
def d_law : He.DefD := ⟨("law", none), "law", "law", defArgs s_law, defBody s_law, defScope s_law, [], []⟩
def clsB : Stmt → Stmt
  | .ClassDef _ _ _ (b :: _) _ _ _ _ _ _ _ => b
  | s => s
abbrev i_TooMany : Stmt := clsB (top 11)
def d__init_TooMany : He.DefD := ⟨("TooMany", some "__init__"), "__init__", "TooMany.__init__", defArgs i_TooMany, defBody i_TooMany, defScope i_TooMany, [], []⟩
def fnL : List He.DefD := [d_is_integer, d_is_within, d_is_sized, d_is_lot, d_are_all, d_are_ties, d_is_web, d_check_web, d_near_of, d_raw_renamed, d_renamed, d_next_colours, d_check_colours, d_all_in_turn, d_raw_counts, d_falling_product, d_raw_many, d_how_many_paintings, d_plain_count, d_all_plain, d__law_hand, d__law_draw, d__law_any, d__law_web, d__law_near, d__law_no_web, d__law_paintings, d__law_plain, d__law_names, d__law_word, d_law, d__init_TooMany]
def faL : List He.Fa := [.glo "is_integer", .glo "is_within", .glo "is_sized", .glo "is_lot", .glo "are_all", .glo "are_ties", .glo "is_web", .glo "check_web", .glo "near_of", .glo "raw_renamed", .glo "renamed", .glo "next_colours", .glo "check_colours", .glo "all_in_turn", .glo "raw_counts", .glo "falling_product", .glo "raw_many", .glo "how_many_paintings", .glo "plain_count", .glo "all_plain", .glo "_law_hand", .glo "_law_draw", .glo "_law_any", .glo "_law_web", .glo "_law_near", .glo "_law_no_web", .glo "_law_paintings", .glo "_law_plain", .glo "_law_names", .glo "_law_word", .glo "law", .int "MOST_PLACES" 8, .free "abs", .free "all", .free "bool", .free "enumerate", .free "int", .free "isinstance", .free "len", .free "list", .free "max", .free "min", .free "range", .free "sorted", .free "sum", .free "tuple", .free "zip", .glo "NoCount", .glo "NoNames", .glo "NoWeb", .glo "TooMany", .exc "NoCount", .exc "NoNames", .exc "NoWeb"]
def exL (K : PySem.W.Frag) : Bool := ersB K names tests sub && er1B K "TooMany" "most"
def loose : List Str := [("is_integer" : Str), ("is_within" : Str), ("is_sized" : Str), ("is_lot" : Str), ("are_all" : Str), ("ColourError" : Str), ("NoCount" : Str), ("NoNames" : Str), ("NoWeb" : Str), ("TooMany" : Str), ("MOST_PLACES" : Str), ("are_ties" : Str), ("is_web" : Str), ("check_web" : Str), ("near_of" : Str), ("raw_renamed" : Str), ("renamed" : Str), ("next_colours" : Str), ("check_colours" : Str), ("all_in_turn" : Str), ("raw_counts" : Str), ("falling_product" : Str), ("raw_many" : Str), ("how_many_paintings" : Str), ("plain_count" : Str), ("all_plain" : Str), ("_law_hand" : Str), ("_law_draw" : Str), ("_law_any" : Str), ("_law_web" : Str), ("_law_near" : Str), ("_law_no_web" : Str), ("_law_paintings" : Str), ("_law_plain" : Str), ("_law_names" : Str), ("_law_word" : Str)]
abbrev Rw : PySem.W.OpenRow := PySem.W.OpenLaw.row PySem.Challenge.rw_colourhouse_k05_whole_paintings_counted
abbrev hk : PySem.W.Hook := He.hookX 4 faL fnL [] [("law", none)] exL
def ob (s : PySem.W.SharedT) : He.AlX := He.obsX 4 faL fnL [] [("law", none)] exL (HandSHeadRun.getT s)
theorem ob_eq (s : PySem.W.SharedT) : ob s = hk.obs s.abs := He.obsX_eq (HandSHeadRun.getT_eq s)
theorem hrun (w : World) : HandSHeadRun.RunEq Rw (PySem.W.view Rw.prog [41]) hk ob 3000 loose w := by
  intro os
  kernel_rfl
section
variable {w : World} {K : PySem.W.Frag} {h : Heap} {mg : Str → Option Value} {tb cd : List (Addr × Str)}
theorem bas_of (X : K.In h) (G : h.Ns mainGlobals mg) (c : He.SaysX faL fnL [] [("law", none)] exL w h K) : Bas ⟨K, mg, tb, cd⟩ :=
  { dummy := trivial, c_MOST_PLACES := He.int_ok X G (c.t.d.fact 31 rfl), b_abs := He.free_ok X G (c.t.d.fact 32 rfl), b_all := He.free_ok X G (c.t.d.fact 33 rfl), b_bool := He.free_ok X G (c.t.d.fact 34 rfl), b_enumerate := He.free_ok X G (c.t.d.fact 35 rfl), b_int := He.free_ok X G (c.t.d.fact 36 rfl), b_isinstance := He.free_ok X G (c.t.d.fact 37 rfl), b_len := He.free_ok X G (c.t.d.fact 38 rfl), b_list := He.free_ok X G (c.t.d.fact 39 rfl), b_max := He.free_ok X G (c.t.d.fact 40 rfl), b_min := He.free_ok X G (c.t.d.fact 41 rfl), b_range := He.free_ok X G (c.t.d.fact 42 rfl), b_sorted := He.free_ok X G (c.t.d.fact 43 rfl), b_sum := He.free_ok X G (c.t.d.fact 44 rfl), b_tuple := He.free_ok X G (c.t.d.fact 45 rfl), b_zip := He.free_ok X G (c.t.d.fact 46 rfl) }
theorem ers_of (X : K.In h) (G : h.Ns mainGlobals mg) (c : He.SaysX faL fnL [] [("law", none)] exL w h K) : ErS ⟨K, mg, tb, cd⟩ names tests sub := by
  have q := c.more
  unfold exL at q
  (try simp only [Bool.and_eq_true] at q)
  exact ersB_ok X G q.1
theorem bas0_of (X : K.In h) (G : h.Ns mainGlobals mg) (c : He.SaysX faL fnL [] [("law", none)] exL w h K) : Bas0 ⟨K, mg, tb, cd⟩ :=
  { dummy := trivial, e_NoCount := er0_of X G (c.t.d.fact 47 rfl) (c.t.d.fact 51 rfl) (ers_of X G c) (by decide), e_NoNames := er0_of X G (c.t.d.fact 48 rfl) (c.t.d.fact 52 rfl) (ers_of X G c) (by decide), e_NoWeb := er0_of X G (c.t.d.fact 49 rfl) (c.t.d.fact 53 rfl) (ers_of X G c) (by decide) }
theorem bas1_of {P : Program} {base : Heap} (X : K.In h) (G : h.Ns mainGlobals mg) (c : He.SaysX faL fnL [] [("law", none)] exL w h K) : Bas1 P w ⟨K, mg, tb, cd⟩ base := by
  have q := c.more
  unfold exL at q
  (try simp only [Bool.and_eq_true] at q)
  obtain ⟨fd_TooMany, F_TooMany⟩ := c.t.d.def_ 31 (d := d__init_TooMany) rfl
  exact { dummy := trivial, e_TooMany := er1_of X G (c.t.d.fact 50 rfl) q.2 (ers_of X G c) (by decide) F_TooMany ⟨rfl, rfl, rfl, by decide, rfl, by decide +kernel, by decide +kernel⟩ (.inl rfl) (.inl rfl) (fun _ _ _ _ _ _ us hl => match us, hl with | [_, _], _ => rfl) }
def DrawHolds : Prop := ∀ (p : Addr) (cells : List Int) (i r mm kk n : Int), 0 ≤ i → 0 < n → n < 2 ^ 64 → m__law_draw (drawEnd p n) (.hs p (hdT cells i r mm kk) :: .va 0 (.int n) :: List.replicate (5 - 2) .no)
def HandHolds : Prop := ∀ (p : Addr) (ns : List Int), m__law_hand handEnd (.sc p ns :: List.replicate (3 - 1) .no)
def LawHolds : Prop := m_law lawEnd ((List.replicate 16 Sl.no).set 1 (.va 0 .hand))
open LamX in
theorem law_at {fa : Addr} (X : K.In h) (G : h.Ns mainGlobals mg) (hfa : mg "law" = some (.ref fa)) (c : He.SaysX faL fnL [] [("law", none)] exL w h K) (h_draw : DrawHolds) (h_hand : HandHolds) (h_law : LawHolds) : LamX.LawAtS PySem.Challenge.rw_colourhouse_k05_whole_paintings_counted w K (L2.CX PySem.Challenge.pw_colourhouse_k05_whole_paintings_counted w) 11 63 "script" mg fa h := by
  obtain ⟨fdl, FL⟩ := c.t.d.def_ 30 (d := d_law) rfl
  have e := hfa.symm.trans (He.glo_ok X G (c.t.d.fact 30 rfl))
  cases e
  have bnd := FunD.bindsA (ps := ["script"]) FL fun _ _ _ _ _ _ us hl => match us, hl with | [_], _ => rfl
  obtain ⟨oc, od, dV, kV, doc, pm, an, cdv, ct, osl, rfl, lk, hcd, _, _⟩ := FL.ex
  obtain ⟨cc, rfl⟩ := He.codeIn_ref hcd
  have ec : He.codeOf K ("law", none) = cc := He.codeOf_eq lk rfl
  have mem : (("law", none) : He.Defn) ∈ ([("law", none)] : List He.Defn) := List.mem_cons_self
  refine ⟨_, [He.cT K ("law", none)], spLaw ⟨K, mg, [((He.cT K ("law", none)).2, lamQ)], []⟩, fun p hp => ?_, fun p hp => ?_, fun p hp => ?_, fun s v => bnd s [v] rfl, fun H a ns hl _ hT hS => ⟨a, ns, rfl, hS, ⟨fun p hp => ?_, fun p hp => by simp at hp⟩, fun _ => rfl⟩, fun base KB GB hTB => ?_⟩
  · rw [List.mem_singleton.mp hp]; exact c.empty _ mem
  · rw [List.mem_singleton.mp hp]; exact c.out _ mem
  · rw [List.mem_singleton.mp hp]; exact PySem.W.codeHd_of_K X (c.hd _ mem)
  · rw [List.mem_singleton.mp hp]; exact TabS.nil (hT _ List.mem_cons_self)
  have hb := hTB _ List.mem_cons_self
  have B : Bas ⟨K, mg, [((He.cT K ("law", none)).2, lamQ)], []⟩ := bas_of X G c
  have B0 : Bas0 ⟨K, mg, [((He.cT K ("law", none)).2, lamQ)], []⟩ := bas0_of X G c
  have B1 : Bas1 PySem.Challenge.pw_colourhouse_k05_whole_paintings_counted w ⟨K, mg, [((He.cT K ("law", none)).2, lamQ)], []⟩ base := bas1_of X G c
  have R : ErS ⟨K, mg, [((He.cT K ("law", none)).2, lamQ)], []⟩ names tests sub := ers_of X G c
  obtain ⟨fd_is_integer, F_is_integer⟩ := c.t.d.def_ 0 (d := d_is_integer) rfl
  have G_is_integer := ok_is_integer (P := PySem.Challenge.pw_colourhouse_k05_whole_paintings_counted) (w := w) (base := base) B B0 B1 R  F_is_integer (He.glo_ok X G (c.t.d.fact 0 rfl))
  obtain ⟨fd_is_within, F_is_within⟩ := c.t.d.def_ 1 (d := d_is_within) rfl
  have G_is_within := ok_is_within (P := PySem.Challenge.pw_colourhouse_k05_whole_paintings_counted) (w := w) (base := base) B B0 B1 R G_is_integer F_is_within (He.glo_ok X G (c.t.d.fact 1 rfl))
  obtain ⟨fd_is_sized, F_is_sized⟩ := c.t.d.def_ 2 (d := d_is_sized) rfl
  have G_is_sized := ok_is_sized (P := PySem.Challenge.pw_colourhouse_k05_whole_paintings_counted) (w := w) (base := base) B B0 B1 R  F_is_sized (He.glo_ok X G (c.t.d.fact 2 rfl))
  obtain ⟨fd_is_lot, F_is_lot⟩ := c.t.d.def_ 3 (d := d_is_lot) rfl
  have G_is_lot := ok_is_lot (P := PySem.Challenge.pw_colourhouse_k05_whole_paintings_counted) (w := w) (base := base) B B0 B1 R G_is_within F_is_lot (He.glo_ok X G (c.t.d.fact 3 rfl))
  obtain ⟨fd_are_all, F_are_all⟩ := c.t.d.def_ 4 (d := d_are_all) rfl
  have G_are_all := ok_are_all (P := PySem.Challenge.pw_colourhouse_k05_whole_paintings_counted) (w := w) (base := base) B B0 B1 R G_is_sized G_is_within F_are_all (He.glo_ok X G (c.t.d.fact 4 rfl))
  obtain ⟨fd_are_ties, F_are_ties⟩ := c.t.d.def_ 5 (d := d_are_ties) rfl
  have G_are_ties := ok_are_ties (P := PySem.Challenge.pw_colourhouse_k05_whole_paintings_counted) (w := w) (base := base) B B0 B1 R G_is_lot G_is_sized F_are_ties (He.glo_ok X G (c.t.d.fact 5 rfl))
  obtain ⟨fd_is_web, F_is_web⟩ := c.t.d.def_ 6 (d := d_is_web) rfl
  have G_is_web := ok_is_web (P := PySem.Challenge.pw_colourhouse_k05_whole_paintings_counted) (w := w) (base := base) B B0 B1 R G_are_ties G_is_sized G_is_within F_is_web (He.glo_ok X G (c.t.d.fact 6 rfl))
  obtain ⟨fd_check_web, F_check_web⟩ := c.t.d.def_ 7 (d := d_check_web) rfl
  have G_check_web := ok_check_web (P := PySem.Challenge.pw_colourhouse_k05_whole_paintings_counted) (w := w) (base := base) B B0 B1 R G_is_web F_check_web (He.glo_ok X G (c.t.d.fact 7 rfl))
  obtain ⟨fd_near_of, F_near_of⟩ := c.t.d.def_ 8 (d := d_near_of) rfl
  have G_near_of := ok_near_of (P := PySem.Challenge.pw_colourhouse_k05_whole_paintings_counted) (w := w) (base := base) B B0 B1 R  F_near_of (He.glo_ok X G (c.t.d.fact 8 rfl))
  obtain ⟨fd_raw_renamed, F_raw_renamed⟩ := c.t.d.def_ 9 (d := d_raw_renamed) rfl
  have G_raw_renamed := ok_raw_renamed (P := PySem.Challenge.pw_colourhouse_k05_whole_paintings_counted) (w := w) (base := base) B B0 B1 R  F_raw_renamed (He.glo_ok X G (c.t.d.fact 9 rfl))
  obtain ⟨fd_renamed, F_renamed⟩ := c.t.d.def_ 10 (d := d_renamed) rfl
  have G_renamed := ok_renamed (P := PySem.Challenge.pw_colourhouse_k05_whole_paintings_counted) (w := w) (base := base) B B0 B1 R G_are_all G_check_web G_raw_renamed F_renamed (He.glo_ok X G (c.t.d.fact 10 rfl))
  obtain ⟨fd_next_colours, F_next_colours⟩ := c.t.d.def_ 11 (d := d_next_colours) rfl
  have G_next_colours := ok_next_colours (P := PySem.Challenge.pw_colourhouse_k05_whole_paintings_counted) (w := w) (base := base) B B0 B1 R  F_next_colours (He.glo_ok X G (c.t.d.fact 11 rfl))
  obtain ⟨fd_check_colours, F_check_colours⟩ := c.t.d.def_ 12 (d := d_check_colours) rfl
  have G_check_colours := ok_check_colours (P := PySem.Challenge.pw_colourhouse_k05_whole_paintings_counted) (w := w) (base := base) B B0 B1 R G_check_web G_is_within F_check_colours (He.glo_ok X G (c.t.d.fact 12 rfl))
  obtain ⟨fd_all_in_turn, F_all_in_turn⟩ := c.t.d.def_ 13 (d := d_all_in_turn) rfl
  have G_all_in_turn := ok_all_in_turn (P := PySem.Challenge.pw_colourhouse_k05_whole_paintings_counted) (w := w) (base := base) B B0 B1 R G_near_of G_next_colours F_all_in_turn (He.glo_ok X G (c.t.d.fact 13 rfl))
  obtain ⟨fd_raw_counts, F_raw_counts⟩ := c.t.d.def_ 14 (d := d_raw_counts) rfl
  have G_raw_counts := ok_raw_counts (P := PySem.Challenge.pw_colourhouse_k05_whole_paintings_counted) (w := w) (base := base) B B0 B1 R G_all_in_turn F_raw_counts (He.glo_ok X G (c.t.d.fact 14 rfl))
  obtain ⟨fd_falling_product, F_falling_product⟩ := c.t.d.def_ 15 (d := d_falling_product) rfl
  have G_falling_product := ok_falling_product (P := PySem.Challenge.pw_colourhouse_k05_whole_paintings_counted) (w := w) (base := base) B B0 B1 R  F_falling_product (He.glo_ok X G (c.t.d.fact 15 rfl))
  obtain ⟨fd_raw_many, F_raw_many⟩ := c.t.d.def_ 16 (d := d_raw_many) rfl
  have G_raw_many := ok_raw_many (P := PySem.Challenge.pw_colourhouse_k05_whole_paintings_counted) (w := w) (base := base) B B0 B1 R G_falling_product G_raw_counts F_raw_many (He.glo_ok X G (c.t.d.fact 16 rfl))
  obtain ⟨fd_how_many_paintings, F_how_many_paintings⟩ := c.t.d.def_ 17 (d := d_how_many_paintings) rfl
  have G_how_many_paintings := ok_how_many_paintings (P := PySem.Challenge.pw_colourhouse_k05_whole_paintings_counted) (w := w) (base := base) B B0 B1 R G_check_colours G_raw_many F_how_many_paintings (He.glo_ok X G (c.t.d.fact 17 rfl))
  obtain ⟨fd_plain_count, F_plain_count⟩ := c.t.d.def_ 18 (d := d_plain_count) rfl
  have G_plain_count := ok_plain_count (P := PySem.Challenge.pw_colourhouse_k05_whole_paintings_counted) (w := w) (base := base) B B0 B1 R G_check_colours G_raw_counts F_plain_count (He.glo_ok X G (c.t.d.fact 18 rfl))
  obtain ⟨fd_all_plain, F_all_plain⟩ := c.t.d.def_ 19 (d := d_all_plain) rfl
  have G_all_plain := ok_all_plain (P := PySem.Challenge.pw_colourhouse_k05_whole_paintings_counted) (w := w) (base := base) B B0 B1 R G_all_in_turn G_check_colours F_all_plain (He.glo_ok X G (c.t.d.fact 19 rfl))
  obtain ⟨fd__law_hand, F__law_hand⟩ := c.t.d.def_ 20 (d := d__law_hand) rfl
  have G__law_hand := ok__law_hand (P := PySem.Challenge.pw_colourhouse_k05_whole_paintings_counted) (w := w) (base := base) B B0 B1 R  h_hand F__law_hand (He.glo_ok X G (c.t.d.fact 20 rfl))
  obtain ⟨fd__law_draw, F__law_draw⟩ := c.t.d.def_ 21 (d := d__law_draw) rfl
  have G__law_draw := ok__law_draw (P := PySem.Challenge.pw_colourhouse_k05_whole_paintings_counted) (w := w) (base := base) B B0 B1 R  h_draw F__law_draw (He.glo_ok X G (c.t.d.fact 21 rfl))
  obtain ⟨fd__law_any, F__law_any⟩ := c.t.d.def_ 22 (d := d__law_any) rfl
  have G__law_any := ok__law_any (P := PySem.Challenge.pw_colourhouse_k05_whole_paintings_counted) (w := w) (base := base) B B0 B1 R G__law_draw F__law_any (He.glo_ok X G (c.t.d.fact 22 rfl))
  obtain ⟨fd__law_web, F__law_web⟩ := c.t.d.def_ 23 (d := d__law_web) rfl
  have G__law_web := ok__law_web (P := PySem.Challenge.pw_colourhouse_k05_whole_paintings_counted) (w := w) (base := base) B B0 B1 R G__law_draw F__law_web (He.glo_ok X G (c.t.d.fact 23 rfl))
  obtain ⟨fd__law_near, F__law_near⟩ := c.t.d.def_ 24 (d := d__law_near) rfl
  have G__law_near := ok__law_near (P := PySem.Challenge.pw_colourhouse_k05_whole_paintings_counted) (w := w) (base := base) B B0 B1 R  F__law_near (He.glo_ok X G (c.t.d.fact 24 rfl))
  obtain ⟨fd__law_no_web, F__law_no_web⟩ := c.t.d.def_ 25 (d := d__law_no_web) rfl
  have G__law_no_web := ok__law_no_web (P := PySem.Challenge.pw_colourhouse_k05_whole_paintings_counted) (w := w) (base := base) B B0 B1 R G__law_any F__law_no_web (He.glo_ok X G (c.t.d.fact 25 rfl))
  obtain ⟨fd__law_paintings, F__law_paintings⟩ := c.t.d.def_ 26 (d := d__law_paintings) rfl
  have G__law_paintings := ok__law_paintings (P := PySem.Challenge.pw_colourhouse_k05_whole_paintings_counted) (w := w) (base := base) B B0 B1 R G__law_near F__law_paintings (He.glo_ok X G (c.t.d.fact 26 rfl))
  obtain ⟨fd__law_plain, F__law_plain⟩ := c.t.d.def_ 27 (d := d__law_plain) rfl
  have G__law_plain := ok__law_plain (P := PySem.Challenge.pw_colourhouse_k05_whole_paintings_counted) (w := w) (base := base) B B0 B1 R G__law_near F__law_plain (He.glo_ok X G (c.t.d.fact 27 rfl))
  obtain ⟨fd__law_names, F__law_names⟩ := c.t.d.def_ 28 (d := d__law_names) rfl
  have G__law_names := ok__law_names (P := PySem.Challenge.pw_colourhouse_k05_whole_paintings_counted) (w := w) (base := base) B B0 B1 R G__law_draw F__law_names (He.glo_ok X G (c.t.d.fact 28 rfl))
  obtain ⟨fd__law_word, F__law_word⟩ := c.t.d.def_ 29 (d := d__law_word) rfl
  have G__law_word := ok__law_word (P := PySem.Challenge.pw_colourhouse_k05_whole_paintings_counted) (w := w) (base := base) B B0 B1 R  F__law_word (He.glo_ok X G (c.t.d.fact 29 rfl))
  exact ok_law (P := PySem.Challenge.pw_colourhouse_k05_whole_paintings_counted) (w := w) (base := base) B B0 B1 R G__law_any G__law_draw G__law_names G__law_no_web G__law_paintings G__law_plain G__law_web G__law_word G_all_plain G_how_many_paintings G_plain_count G_renamed G__law_hand ⟨cc, (He.cT K ("law", none)).2, rfl, by have := hb; unfold He.cT at this; rw [ec] at this; unfold He.cT; rw [ec]; exact this, rfl⟩ h_law lk hcd
end
end Wk05
open PySem PySem.W PySem.Calls PyProof.Rows
theorem Wk05.holds (h_draw : Wk05.DrawHolds) (h_hand : Wk05.HandHolds) (h_law : Wk05.LawHolds) : PySem.Challenge.rw_colourhouse_k05_whole_paintings_counted.Holds := by
  w_on; o_law
  refine HandSHeadRun.head_any (r := OpenLaw.row PySem.Challenge.rw_colourhouse_k05_whole_paintings_counted) (q := view (OpenLaw.row PySem.Challenge.rw_colourhouse_k05_whole_paintings_counted).prog [41]) (H := Wk05.hk) (ob := Wk05.ob) (M := 3000) (loose := Wk05.loose) (d := HandSHeadRun.topDef (OpenLaw.row PySem.Challenge.rw_colourhouse_k05_whole_paintings_counted).prog 41) (kwd := []) Wk05.ob_eq
    (by kernel_rfl) (fun s => by kernel_rfl) Wk05.hrun (by kernel_rfl) (by kernel_rfl) (by kernel_rfl) (by rfl) (by first | assumption | decide +kernel) (by decide +kernel) ⟨rfl, rfl, rfl, rfl, rfl, by decide +kernel⟩ ?hw ?hc
  case hw => w_witness2
  case hc =>
    refine LamX.walk_ofTsE (l := PySem.Challenge.rw_colourhouse_k05_whole_paintings_counted) (n := 63) (k := 11) (x := "script") (CX := fun w => L2.CX PySem.Challenge.pw_colourhouse_k05_whole_paintings_counted w) rfl (by decide) (by kernel_rfl) ⟨rfl, by decide, by decide⟩ ?F ?hCX
    case hCX =>
      intro w H s e s' hc
      obtain ⟨_, _, _, _, _, _, _, _, _, _, _, _, z⟩ := hc
      exact z.elim
    case F =>
      intro w mg fa h Y G hmg0
      obtain ⟨K, KX, c⟩ := Y
      have hmg : mg ("law" : PySem.Str) = some (.ref fa) := by
        have e : (HandSHeadRun.topDef (OpenLaw.row PySem.Challenge.rw_colourhouse_k05_whole_paintings_counted).prog 41).name = ("law" : PySem.Str) := by kernel_rfl
        rw [← e]
        exact hmg0
      exact ⟨K, KX, Wk05.law_at KX G hmg c h_draw h_hand h_law⟩

theorem PySem.Challenge.cw_colourhouse_k05_whole_paintings_counted_holds : PySem.Challenge.rw_colourhouse_k05_whole_paintings_counted.Holds := by
  exact Wk05.holds Wk05.draw_ok Wk05.hand_ok Wk05.law_ok

