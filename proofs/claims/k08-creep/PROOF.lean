import PyProof.Rows.All
import Wide.All
import OpenK.AllK
import Wide.FinOn
import HandS.ForMost
import HandS.ForExc
import KE.DataEq
import KE.DataFind
import KE.DataIsa
import KE.DataMinMax
import KE.SortData
import KE.DataAny
import PyProof.ReprRoads
import HandS.TupAny
import HandS.Flow
import HandS.TupLe
import HandS.IsInst
import HandS.SortInts
import HandS.SortKw
import HandS.RaiseMore
import PyProof.Rows.CallKwBuiltin
import HandS.Walk
import KE.GoesEnum
import PyProof.StrOps2
import HandS.TupMul
import HandS.Style
import PyProof.SumWalkG
import PyProof.TupleOfSeq
import PyProof.Rows.SortShellAny
import HandS.ExcValue
import HandS.ExcOwn
import KE.OsSort
import PyProof.CallFns
import HandS.Conv
import PyProof.Rows.FactsN_isinstance
import PyProof.Rows.FactsN_abs
import PyProof.Rows.FactsT3
import PyProof.Rows.SeqCalls
import HandS.Replace
import HandS.SetFor
import HandS.Codes
import HandS.Words
import HandS.Ends
import KE.KEqDeep
import PySem.Challenge.RW_gathersheets_k08_creep_exact
set_option Elab.async false
set_option linter.all false
set_option maxRecDepth 100000
set_option maxHeartbeats 4000000
/-! Bk: data as trees, and how values on the heap stand for them. -/
namespace Bk
open L2 PyProof.Rows PySem.Spec PySem
inductive D where
  | non | bl (b : Bool) | int (i : Int) | str (s : Str)
  | tup (l : List D) | lst (l : List D)
  | dct (ks vs : List D) | set (l : List D) | ins (c : Nat) (vs : List D)
  /-- the law's own list -/
  | scr (ns : List Int)
abbrev Pr := Addr → Prop
/-- plain contents: what may be read behind a lock -/
def plainO : HO → Bool
  | .lst _ => true | .tup _ => true | .dK _ => true | .dT _ => true | .set _ _ => true | .ins _ _ _ => true | .ext _ => true
  | _ => false
def FzL (K : PySem.W.Frag) (Z : Pr) (H : Hp) (a : Addr) (vs : List V) : Prop := Z a ∧ H a = some (.lst vs)
def FzT (K : PySem.W.Frag) (Z : Pr) (H : Hp) (a : Addr) (vs : List V) : Prop :=
  (Z a ∧ Rd H a (.tup vs)) ∨ (∃ (o : Obj) (its : Array Value) (n : Nat), K.lookup a = some o ∧ o.cls = .type "tuple" ∧ o.data = .seq its n ∧ its.size ≤ sizeLine ∧ Vals vs its.toList)
def FzS (K : PySem.W.Frag) (Z : Pr) (H : Hp) (a : Addr) (vs : List V) : Prop :=
  (Z a ∧ Rd H a (.lst vs)) ∨ (∃ (o : Obj) (its : Array Value) (n : Nat), K.lookup a = some o ∧ o.cls = .type "list" ∧ o.dict = none ∧ o.data = .seq its n ∧ its.size ≤ sizeLine ∧ Vals vs its.toList)
theorem FzS.sq {K Z H a vs} (h : FzS K Z H a vs) : SqL K H a vs := h.elim (fun h => .inl h.2) .inr
theorem FzT.sq {K Z H a vs} (h : FzT K Z H a vs) : SqT K H a vs := h.elim (fun h => .inl h.2) .inr
mutual
/-- v stands for d; down to the depth n lists are owned: their addresses are fp; all else is frozen: it lies in Z -/
def Own (K : PySem.W.Frag) (Z : Pr) (H : Hp) : D → Nat → V → List Addr → Prop
  | .non, _, v, fp => v = .non ∧ fp = []
  | .bl b, _, v, fp => v = .bl b ∧ fp = []
  | .int i, _, v, fp => v = .int i ∧ fp = []
  | .str s, _, v, fp => v = .str s ∧ fp = []
  | .tup ds, _, v, fp => fp = [] ∧ ∃ a vs, v = .ref a ∧ FzT K Z H a vs ∧ OwnL K Z H ds 0 vs []
  | .lst ds, 0, v, fp => fp = [] ∧ ∃ a vs, v = .ref a ∧ FzL K Z H a vs ∧ OwnL K Z H ds 0 vs []
  | .lst ds, n + 1, v, fp => ∃ a vs fq, v = .ref a ∧ H a = some (.lst vs) ∧ fp = a :: fq ∧ OwnL K Z H ds n vs fq
  | .dct _ _, _, _, _ => False
  | .set _, _, _, _ => False
  | .ins _ _, _, _, _ => False
  | .scr ns, _, v, fp => fp = [] ∧ ∃ a, v = .ref a ∧ FzS K Z H a (ns.map V.int)
def OwnL (K : PySem.W.Frag) (Z : Pr) (H : Hp) : List D → Nat → List V → List Addr → Prop
  | [], _, vs, fp => vs = [] ∧ fp = []
  | d :: ds, n, vs, fp => ∃ v ws f g, vs = v :: ws ∧ fp = f ++ g ∧ Own K Z H d n v f ∧ OwnL K Z H ds n ws g
end
/-- the heap goes on: what is frozen is read as before, what is in W stands -/
structure Keep (Z W : Pr) (H : Hp) (Z' : Pr) (H' : Hp) : Prop where
  z : ∀ a, Z a → Z' a
  rd : ∀ a u, Z a → plainO u = true → Rd H a u → Rd H' a u
  ex : ∀ a vs, Z a → H a = some (.lst vs) → H' a = some (.lst vs)
  w : ∀ a o, W a → H a = some o → H' a = some o
  lv : ∀ a, H a ≠ none → H' a ≠ none
theorem Keep.refl {Z W H} : Keep Z W H Z H := ⟨fun _ h => h, fun _ _ _ _ h => h, fun _ _ _ h => h, fun _ _ _ h => h, fun _ h => h⟩
theorem Keep.trans {Z W H Z1 H1 Z2 H2} (a : Keep Z W H Z1 H1) (b : Keep Z1 W H1 Z2 H2) : Keep Z W H Z2 H2 :=
  ⟨fun x h => b.z x (a.z x h), fun x u h p r => b.rd x u (a.z x h) p (a.rd x u h p r), fun x o h e => b.ex x o (a.z x h) (a.ex x o h e), fun x o h e => b.w x o h (a.w x o h e), fun x h => b.lv x (a.lv x h)⟩
theorem Keep.less {Z W W' H Z' H'} (a : Keep Z W H Z' H') (h : ∀ x, W' x → W x) : Keep Z W' H Z' H' :=
  ⟨a.z, a.rd, a.ex, fun x o w e => a.w x o (h x w) e, a.lv⟩
theorem FzL.keep {K Z W H Z' H' a vs} (k : Keep Z W H Z' H') (h : FzL K Z H a vs) : FzL K Z' H' a vs := ⟨k.z a h.1, k.ex a _ h.1 h.2⟩
theorem FzT.keep {K Z W H Z' H' a vs} (k : Keep Z W H Z' H') (h : FzT K Z H a vs) : FzT K Z' H' a vs :=
  h.elim (fun h => .inl ⟨k.z a h.1, k.rd a _ h.1 rfl h.2⟩) .inr
mutual
theorem Own.keep {K Z W H Z' H'} (k : Keep Z W H Z' H') : ∀ {d : D} {n : Nat} {v : V} {fp : List Addr}, Own K Z H d n v fp → (∀ a ∈ fp, W a) → Own K Z' H' d n v fp
  | .non, _, _, _, h, _ => by simpa [Own] using h
  | .bl _, _, _, _, h, _ => by simpa [Own] using h
  | .int _, _, _, _, h, _ => by simpa [Own] using h
  | .str _, _, _, _, h, _ => by simpa [Own] using h
  | .tup ds, _, v, fp, h, hw => by
    simp only [Own] at h ⊢
    obtain ⟨e, a, vs, e2, f, o⟩ := h
    exact ⟨e, a, vs, e2, f.keep k, OwnL.keep k o (by simp)⟩
  | .lst ds, 0, v, fp, h, hw => by
    simp only [Own] at h ⊢
    obtain ⟨e, a, vs, e2, f, o⟩ := h
    exact ⟨e, a, vs, e2, f.keep k, OwnL.keep k o (by simp)⟩
  | .lst ds, n + 1, v, fp, h, hw => by
    simp only [Own] at h ⊢
    obtain ⟨a, vs, fq, e, e2, e3, o⟩ := h
    subst e3
    exact ⟨a, vs, fq, e, k.w a _ (hw a (by simp)) e2, rfl, OwnL.keep k o fun b hb => hw b (by simp [hb])⟩
  | .dct _ _, _, _, _, h, _ => by simp [Own] at h
  | .set _, _, _, _, h, _ => by simp [Own] at h
  | .ins _ _, _, _, _, h, _ => by simp [Own] at h
  | .scr ns, _, v, fp, h, hw => by
    rw [Own] at h; rw [Own]
    obtain ⟨e, a, e2, f⟩ := h
    exact ⟨e, a, e2, f.elim (fun h => .inl ⟨k.z a h.1, k.rd a _ h.1 rfl h.2⟩) .inr⟩
theorem OwnL.keep {K Z W H Z' H'} (k : Keep Z W H Z' H') : ∀ {ds : List D} {n : Nat} {vs : List V} {fp : List Addr}, OwnL K Z H ds n vs fp → (∀ a ∈ fp, W a) → OwnL K Z' H' ds n vs fp
  | [], _, _, _, h, _ => by simpa [OwnL] using h
  | d :: ds, n, vs, fp, h, hw => by
    simp only [OwnL] at h ⊢
    obtain ⟨v, ws, f, g, e1, e2, o, os⟩ := h
    subst e2
    exact ⟨v, ws, f, g, e1, rfl, Own.keep k o fun b hb => hw b (by simp [hb]), OwnL.keep k os fun b hb => hw b (by simp [hb])⟩
end
mutual
/-- all of it is frozen -/
theorem Own.freeze {K Z H} {Z' : Pr} (hz : ∀ a, Z a → Z' a) : ∀ {d : D} {n : Nat} {v : V} {fp : List Addr}, Own K Z H d n v fp → (∀ a ∈ fp, Z' a) → Own K Z' H d 0 v []
  | .non, _, _, _, h, _ => by rw [Own] at h; rw [Own]; exact ⟨h.1, rfl⟩
  | .bl _, _, _, _, h, _ => by rw [Own] at h; rw [Own]; exact ⟨h.1, rfl⟩
  | .int _, _, _, _, h, _ => by rw [Own] at h; rw [Own]; exact ⟨h.1, rfl⟩
  | .str _, _, _, _, h, _ => by rw [Own] at h; rw [Own]; exact ⟨h.1, rfl⟩
  | .tup ds, _, v, fp, h, hw => by
    rw [Own] at h; rw [Own]
    obtain ⟨e, a, vs, e2, f, o⟩ := h
    exact ⟨rfl, a, vs, e2, f.elim (fun h => .inl ⟨hz a h.1, h.2⟩) .inr, OwnL.freeze hz o (by simp)⟩
  | .lst ds, 0, v, fp, h, hw => by
    rw [Own] at h; rw [Own]
    obtain ⟨e, a, vs, e2, f, o⟩ := h
    exact ⟨rfl, a, vs, e2, ⟨hz a f.1, f.2⟩, OwnL.freeze hz o (by simp)⟩
  | .lst ds, n + 1, v, fp, h, hw => by
    rw [Own] at h; rw [Own]
    obtain ⟨a, vs, fq, e, e2, e3, o⟩ := h
    subst e3
    exact ⟨rfl, a, vs, e, ⟨hw a (by simp), e2⟩, OwnL.freeze hz o fun b hb => hw b (by simp [hb])⟩
  | .dct _ _, _, _, _, h, _ => by simp [Own] at h
  | .set _, _, _, _, h, _ => by simp [Own] at h
  | .ins _ _, _, _, _, h, _ => by simp [Own] at h
  | .scr ns, _, v, fp, h, hw => by
    rw [Own] at h; rw [Own]
    obtain ⟨e, a, e2, f⟩ := h
    exact ⟨rfl, a, e2, f.elim (fun h => .inl ⟨hz a h.1, h.2⟩) .inr⟩
theorem OwnL.freeze {K Z H} {Z' : Pr} (hz : ∀ a, Z a → Z' a) : ∀ {ds : List D} {n : Nat} {vs : List V} {fp : List Addr}, OwnL K Z H ds n vs fp → (∀ a ∈ fp, Z' a) → OwnL K Z' H ds 0 vs []
  | [], _, _, _, h, _ => by rw [OwnL] at h; rw [OwnL]; exact ⟨h.1, rfl⟩
  | d :: ds, n, vs, fp, h, hw => by
    rw [OwnL] at h; rw [OwnL]
    obtain ⟨v, ws, f, g, e1, e2, o, os⟩ := h
    subst e2
    exact ⟨v, ws, [], [], e1, rfl, Own.freeze hz o fun b hb => hw b (by simp [hb]), OwnL.freeze hz os fun b hb => hw b (by simp [hb])⟩
end
theorem perm4 (a b c d : List Addr) : ((a ++ b) ++ (c ++ d)).Perm ((a ++ c) ++ (b ++ d)) :=
  List.perm_iff_count.2 fun x => by simp only [List.count_append]; omega
/-- owned less deep: what is no more owned is frozen -/
def Lowers (K : PySem.W.Frag) (Z : Pr) (H : Hp) (d : D) (m : Nat) (v : V) (fp : List Addr) : Prop :=
  ∃ fp' rm, fp.Perm (fp' ++ rm) ∧ ∀ Z' : Pr, (∀ a, Z a → Z' a) → (∀ a ∈ rm, Z' a) → Own K Z' H d m v fp'
def LowersL (K : PySem.W.Frag) (Z : Pr) (H : Hp) (d : List D) (m : Nat) (v : List V) (fp : List Addr) : Prop :=
  ∃ fp' rm, fp.Perm (fp' ++ rm) ∧ ∀ Z' : Pr, (∀ a, Z a → Z' a) → (∀ a ∈ rm, Z' a) → OwnL K Z' H d m v fp'
theorem Lowers.of0 {K Z H d n v fp} (h : Own K Z H d n v fp) : Lowers K Z H d 0 v fp :=
  ⟨[], fp, by simp, fun _ hz hr => Own.freeze hz h hr⟩
mutual
theorem Own.lower {K Z H} : ∀ {d : D} {n : Nat} {v : V} {fp : List Addr} (m : Nat), m ≤ n → Own K Z H d n v fp → Lowers K Z H d m v fp
  | .non, _, _, fp, _, _, h => ⟨[], fp, by simp, fun _ _ _ => by rw [Own] at h; rw [Own]; exact ⟨h.1, rfl⟩⟩
  | .bl _, _, _, fp, _, _, h => ⟨[], fp, by simp, fun _ _ _ => by rw [Own] at h; rw [Own]; exact ⟨h.1, rfl⟩⟩
  | .int _, _, _, fp, _, _, h => ⟨[], fp, by simp, fun _ _ _ => by rw [Own] at h; rw [Own]; exact ⟨h.1, rfl⟩⟩
  | .str _, _, _, fp, _, _, h => ⟨[], fp, by simp, fun _ _ _ => by rw [Own] at h; rw [Own]; exact ⟨h.1, rfl⟩⟩
  | .tup ds, n, v, fp, m, _, h => ⟨[], fp, by simp, fun Z' hz hr => by
    rw [Own] at h; rw [Own]
    obtain ⟨e, a, vs, e2, f, o⟩ := h
    exact ⟨rfl, a, vs, e2, f.elim (fun h => .inl ⟨hz a h.1, h.2⟩) .inr, OwnL.freeze hz o (by simp)⟩⟩
  | .lst ds, n, v, fp, 0, _, h => Lowers.of0 h
  | .lst ds, 0, v, fp, m + 1, hm, h => absurd hm (by omega)
  | .lst ds, n + 1, v, fp, m + 1, hm, h => by
    rw [Own] at h
    obtain ⟨a, vs, fq, e, e2, e3, o⟩ := h
    subst e3
    obtain ⟨fq', rm, p, g⟩ := OwnL.lower m (by omega) o
    refine ⟨a :: fq', rm, p.cons a, fun Z' hz hr => ?_⟩
    rw [Own]
    exact ⟨a, vs, fq', e, e2, rfl, g Z' hz hr⟩
  | .dct _ _, _, _, _, _, _, h => by simp [Own] at h
  | .set _, _, _, _, _, _, h => by simp [Own] at h
  | .ins _ _, _, _, _, _, _, h => by simp [Own] at h
  | .scr ns, _, v, fp, m, _, h => ⟨[], fp, by simp, fun Z' hz _ => by
    rw [Own] at h; rw [Own]
    obtain ⟨e, a, e2, f⟩ := h
    exact ⟨rfl, a, e2, f.elim (fun h => .inl ⟨hz a h.1, h.2⟩) .inr⟩⟩
theorem OwnL.lower {K Z H} : ∀ {ds : List D} {n : Nat} {vs : List V} {fp : List Addr} (m : Nat), m ≤ n → OwnL K Z H ds n vs fp → LowersL K Z H ds m vs fp
  | [], _, _, fp, _, _, h => ⟨[], fp, by simp, fun _ _ _ => by rw [OwnL] at h; rw [OwnL]; exact ⟨h.1, rfl⟩⟩
  | d :: ds, n, vs, fp, m, hm, h => by
    rw [OwnL] at h
    obtain ⟨v, ws, f, g, e1, e2, o, os⟩ := h
    subst e2
    obtain ⟨f', r1, p1, g1⟩ := Own.lower m hm o
    obtain ⟨g', r2, p2, g2⟩ := OwnL.lower m hm os
    refine ⟨f' ++ g', r1 ++ r2, (p1.append p2).trans (perm4 f' r1 g' r2), fun Z' hz hr => ?_⟩
    rw [OwnL]
    exact ⟨v, ws, f', g', e1, rfl, g1 Z' hz (fun a ha => hr a (by simp [ha])), g2 Z' hz fun a ha => hr a (by simp [ha])⟩
end
end Bk
/-! Bk: the small language and its meaning. -/
namespace Bk
open L2 PyProof.Rows PySem.Spec PySem
mutual
def toPy : D → PyData
  | .non => .none | .bl b => .bool b | .int i => .int i | .str s => .str s
  | .tup l => .tuple (toPys l) | .lst l => .list (toPys l)
  | .dct _ _ => .dict [] | .set _ => .dict [] | .ins _ _ => .dict [] | .scr ns => .list (ns.map .int)
def toPys : List D → List PyData
  | [] => []
  | d :: r => toPy d :: toPys r
end
inductive Op where
  | add | sub | mul | fdiv | mod | pow | shl | shr | band | neg | not
  | lt | le | gt | ge | eq | ne | isN | notN | isB | notB | isin | notin
  | idx | slL (lo hi : Bool) | rev | evens | odds
  | len | list | tuple | repr | str | int | abs | sum | max1 | min1 | max2 | min2 | sorted | sortedR | bool
  | isT (n : Nat) | lrg | trg
  | join | split | startswith | endswith | index | count | replace | upper | cat | imul
  deriving DecidableEq
structure Ent where
  d : D
  l : Nat
  p : Bool
abbrev Env := List (Option Ent)
structure Exc where
  cls : Nat
  args : List D
inductive Out (α : Type) where
  | val (a : α) | exc (x : Exc) (r : Env) | bad
@[inline] def Out.bind {α β : Type} (o : Out α) (f : α → Out β) : Out β :=
  match o with
  | .val a => f a
  | .exc x r => .exc x r
  | .bad => .bad
@[simp] theorem Out.bind_val {α β : Type} (a : α) (f : α → Out β) : (Out.val a).bind f = f a := rfl
@[simp] theorem Out.bind_exc {α β : Type} (x : Exc) (r : Env) (f : α → Out β) : (Out.exc x r : Out α).bind f = .exc x r := rfl
@[simp] theorem Out.bind_bad {α β : Type} (f : α → Out β) : (Out.bad : Out α).bind f = .bad := rfl
def Out.of {α : Type} : Option α → Out α
  | some a => .val a
  | none => .bad
@[simp] theorem Out.of_some {α : Type} (a : α) : Out.of (some a) = .val a := rfl
/-- an exception does not leave from here -/
def Out.quiet {α : Type} : Out α → Out α
  | .exc _ _ => .bad
  | o => o
def intOf : D → Option Int
  | .int i => some i
  | _ => none
def pairI : List D → Option (Int × Int)
  | [.int i, .int j] => some (i, j)
  | _ => none
def intsOf : List D → Option (List Int)
  | [] => some []
  | .int i :: r => (intsOf r).map (i :: ·)
  | _ => none
def strsOf : List D → Option (List Str)
  | [] => some []
  | .str i :: r => (strsOf r).map (i :: ·)
  | _ => none
def small (i : Int) : Bool := decide (-18446744073709551616 < i) && decide (i < 18446744073709551616)
def truth : D → Option Bool
  | .non => some false
  | .bl b => some b
  | .int i => some (i != 0)
  | .str s => if s.length ≤ sizeLine then some (s.length != 0) else none
  | .tup l => some (!l.isEmpty)
  | .lst l => some (!l.isEmpty)
  | _ => none
def sz (n : Nat) : Bool := decide (n ≤ 16777216)
def pl (d : D) : Bool := (toPy d).plain && decide ((toPy d).depth ≤ 64)
def eqv (a b : D) : Bool := PyData.eqv (toPy a) (toPy b)
def isAtom : D → Bool
  | .non => true | .bl _ => true | .int _ => true | .str _ => true
  | _ => false
/-- == -/
def eqO (a b : D) : Option Bool :=
  match a, b with
  | .int i, .int j => some (i == j)
  | .str s, .str t => some (s == t)
  | .bl s, .bl t => some (s == t)
  | a, b => if pl a && pl b then some (eqv a b) else none
def signs (s : Str) : List D := s.cps.toList.map fun c => D.str ⟨#[c]⟩
def rangeL (lo hi : Int) : List Int := (List.range (hi - lo).toNat).map fun k => lo + (k : Nat)
def rangeC (lo c : Int) (n : Nat) : List Int := (List.range n).map fun k => lo + (k : Nat) * c
def addD : List D → Option D
  | [.int i, .int j] => some (.int (i + j))
  | [.str s, .str t] => if sz (s.length + t.length) then some (.str (s ++ t)) else none
  | [.lst s, .lst t] => if sz (s.length + t.length) then some (.lst (s ++ t)) else none
  | [.tup s, .tup t] => if sz (s.length + t.length) then some (.tup (s ++ t)) else none
  | _ => none
def subD : List D → Option D
  | [.int i, .int j] => some (.int (i - j))
  | _ => none
/-- a text over and over -/
def repS (s : Str) (k : Int) : Str := if k < 1 then Str.empty else if (k == 1 || s.length == 0) = true then s else ⟨(List.replicate k.toNat s.cps).foldl (· ++ ·) #[]⟩
def mulD : List D → Option D
  | [.int i, .int j] => if small i || small j then some (.int (i * j)) else none
  | [.lst s, .int k] => if decide (-9223372036854775808 ≤ k) && decide (k < 9223372036854775808) && sz (s.length * k.toNat) then some (.lst (List.replicate k.toNat s).flatten) else none
  | [.tup s, .int k] => if decide (0 ≤ k) && decide (k ≤ 1000) && decide (s.length ≤ 1000) && !s.isEmpty then some (.tup (List.replicate k.toNat s).flatten) else none
  | [.str s, .int k] => if decide (0 ≤ k) && decide (k ≤ 4096) && decide (s.length ≤ 4096) then some (.str (repS s k)) else none
  | _ => none
def imulD : List D → Option D
  | [.int i, .int j] => if small i || small j then some (.int (i * j)) else none
  | _ => none
def fdivD : List D → Option D
  | [.int i, .int j] => if decide (0 < j) && decide (j < 1073741824) then some (.int (i / j)) else none
  | _ => none
def modD : List D → Option D
  | [.int i, .int j] => if decide (0 < j) then some (.int (i % j)) else none
  | _ => none
def powD : List D → Option D
  | [.int i, .int j] => if decide (0 ≤ j) && decide (j ≤ 1000000) && small i then some (.int (i ^ j.toNat)) else none
  | _ => none
def shlD : List D → Option D
  | [.int i, .int j] => if decide (0 ≤ j) && decide (j ≤ 1000000) && small i then some (.int (i * 2 ^ j.toNat)) else none
  | _ => none
def shrD : List D → Option D
  | [.int i, .int j] => if decide (0 ≤ j) then some (.int (i / 2 ^ j.toNat)) else none
  | _ => none
def bandD : List D → Option D
  | [.int i, .int j] => some (.int (Builtin.bitAnd i j))
  | _ => none
def negD : List D → Option D
  | [.int i] => some (.int (-i))
  | _ => none
def notD : List D → Option D
  | [d] => (truth d).map fun b => .bl !b
  | _ => none
def cmpD (f : Int → Int → Bool) : List D → Option D
  | [.int i, .int j] => some (.bl (f i j))
  | _ => none
def eqD2 : List D → Option D
  | [a, b] => (eqO a b).map .bl
  | _ => none
def neD2 : List D → Option D
  | [a, b] => (eqO a b).map fun b => .bl !b
  | _ => none
def isNon : D → Bool
  | .non => true
  | _ => false
def isND : List D → Option D
  | [a] => some (.bl (isNon a))
  | _ => none
def notND : List D → Option D
  | [a] => some (.bl !(isNon a))
  | _ => none
def isBD : List D → Option D
  | [.bl a, .bl b] => some (.bl (decide (a = b)))
  | _ => none
def notBD : List D → Option D
  | [.bl a, .bl b] => some (.bl (!decide (a = b)))
  | _ => none
def hasD (x : D) (l : List D) : Option Bool := if pl x && PyData.plainAll (toPys l) then some (l.any fun y => eqv y x) else none
def inD : List D → Option Bool
  | [x, .lst l] => hasD x l
  | [x, .tup l] => hasD x l
  | [.str s, .str z] =>
    match s.cps.toList with
    | [c] => some (decide (c ∈ z.cps.toList))
    | _ => none
  | _ => none
def isinD (ds : List D) : Option D := (inD ds).map .bl
def notinD (ds : List D) : Option D := (inD ds).map fun b => .bl !b
def idxD : List D → Option D
  | [.lst l, .int i] => atI l i
  | [.tup l, .int i] => atI l i
  | [.scr l, .int i] => (atI l i).map .int
  | [.str s, .int i] => if sz s.length then (atI s.cps.toList i).map fun c => .str ⟨#[c]⟩ else none
  | _ => none
def sIx (n d : Nat) : Option Int → Nat
  | none => d
  | some v => if v < 0 then (v + n).toNat else min v.toNat n
def cutL {α : Type} (xs : List α) (lo hi : Option Int) : List α := (xs.drop (sIx xs.length 0 lo)).take (sIx xs.length xs.length hi - sIx xs.length 0 lo)
def bndsD : Bool → Bool → List D → Option (Option Int × Option Int)
  | false, false, [] => some (none, none)
  | true, false, [.int i] => some (some i, none)
  | false, true, [.int j] => some (none, some j)
  | true, true, [.int i, .int j] => some (some i, some j)
  | _, _, _ => none
def cutD (d : D) (b : Option Int × Option Int) : Option D :=
  match d with
  | .lst l => some (.lst (cutL l b.1 b.2))
  | .tup l => some (.tup (cutL l b.1 b.2))
  | .str s => if sz s.length then some (.str ⟨(cutL s.cps.toList b.1 b.2).toArray⟩) else none
  | _ => none
def slD (lo hi : Bool) : List D → Option D
  | d :: r => (bndsD lo hi r).bind (cutD d)
  | _ => none
def everyOther {α : Type} : List α → List α
  | [] => []
  | [x] => [x]
  | x :: _ :: r => x :: everyOther r
def stepD (f : List D → List D) : List D → Option D
  | [.lst l] => some (.lst (f l))
  | [.tup l] => some (.tup (f l))
  | _ => none
def stepT (f : List D → List D) : List D → Option D
  | [.tup l] => some (.tup (f l))
  | _ => none
def lenD : List D → Option D
  | [.lst l] => some (.int l.length)
  | [.tup l] => some (.int l.length)
  | [.scr l] => some (.int l.length)
  | [.str s] => if sz s.length then some (.int s.length) else none
  | _ => none
def listD : List D → Option D
  | [.lst l] => some (.lst l)
  | [.tup l] => some (.lst l)
  | _ => none
def tupleD : List D → Option D
  | [.lst l] => some (.tup l)
  | [.tup l] => some (.tup l)
  | _ => none
def reprD : List D → Option D
  | [d] => if (toPy d).showable && decide ((toPy d).depth ≤ 64) && sz (toPy d).shown.length && !(toPy d).hasDict then some (.str (toPy d).shown) else none
  | _ => none
def strD : List D → Option D
  | [.int i] => if decide (i.natAbs.log2 < 1920) then some (.str (toString i)) else none
  | [.str s] => some (.str s)
  | _ => none
def intD : List D → Option D
  | [.int i] => some (.int i)
  | [.bl b] => some (.int (if b then 1 else 0))
  | [.str s] =>
    match PySem.intText? s with
    | some n => if decide (s.length ≤ 640) then some (.int n) else none
    | none => none
  | _ => none
def absD : List D → Option D
  | [.int i] => some (.int (if i < 0 then -i else i))
  | _ => none
def seqI : D → Option (List Int)
  | .lst l => intsOf l
  | .tup l => intsOf l
  | _ => none
def maxI : List Int → Option Int
  | [] => none
  | x :: r => some (r.foldl max x)
def minI : List Int → Option Int
  | [] => none
  | x :: r => some (r.foldl min x)
def sumD : List D → Option D
  | [d] => (seqI d).map fun l => .int l.sum
  | _ => none
def max1D : List D → Option D
  | [d] => (seqI d).bind fun l => (maxI l).map .int
  | _ => none
def min1D : List D → Option D
  | [d] => (seqI d).bind fun l => (minI l).map .int
  | _ => none
def max2D : List D → Option D
  | [.int i, .int j] => some (.int (if j > i then j else i))
  | _ => none
def min2D : List D → Option D
  | [.int i, .int j] => some (.int (if j < i then j else i))
  | _ => none
def insI (x : Int) : List Int → List Int
  | [] => [x]
  | y :: r => if x ≤ y then x :: y :: r else y :: insI x r
def sortI : List Int → List Int
  | [] => []
  | x :: r => insI x (sortI r)
def sortedD (f : List Int → List Int) : List D → Option D
  | [d] => (seqI d).map fun l => .lst ((f l).map .int)
  | _ => none
def okR (i : Int) : Bool := decide (-4611686018427387904 ≤ i) && decide (i < 4611686018427387904)
/-- the ints of a range: one bound, two -/
def rgD : List D → Option (List Int)
  | [.int j] => if okR j && sz j.toNat then some (rangeL 0 j) else none
  | [.int i, .int j] => if okR i && okR j && sz (j - i).toNat then some (rangeL i j) else none
  | _ => none
def lrgD (ds : List D) : Option D := (rgD ds).map fun l => .lst (l.map .int)
def trgD (ds : List D) : Option D := (rgD ds).map fun l => .tup (l.map .int)
/-- isinstance: 0 int, 1 bool, 2 str, 3 tuple, 4 list -/
def isTy (n : Nat) : D → Bool
  | .int _ => n == 0
  | .bl _ => n == 0 || n == 1
  | .str _ => n == 2
  | .tup _ => n == 3
  | .lst _ => n == 4
  | .scr _ => n == 4
  | _ => false
def isTD (n : Nat) : List D → Option D
  | [d] => some (.bl (isTy n d))
  | _ => none
def joinL (a : Str) (l : List D) : Option D := (strsOf l).bind fun ys => if decide ((ys.map (·.length)).sum + ys.length * a.length ≤ 16777216) then some (.str (Txt.join a ys)) else none
def joinD : List D → Option D
  | [.str a, .lst l] => joinL a l
  | [.str a, .tup l] => joinL a l
  | _ => none
def indexD : List D → Option D
  | [.str a, .str b] =>
    match Builtin.Str.occurrences a b 0 a.length 1 with
    | i :: _ => some (.int (i : Nat))
    | [] => none
  | [.lst l, x] => if pl x && PyData.plainAll (toPys l) && sz l.length then (l.findIdx? fun y => eqv y x).map fun i => .int (i : Nat) else none
  | _ => none
def countD : List D → Option D
  | [.lst l, .int k] => (intsOf l).map fun ns => .int (ns.count k : Nat)
  | _ => none
def startsD : List D → Option D
  | [.str a, .str b] => some (.bl (Txt.startswith a b))
  | _ => none
def endsD : List D → Option D
  | [.str a, .str b] => some (.bl (Txt.endswith a b))
  | _ => none
def splitD : List D → Option D
  | [.str a, .str b] => if decide ((b.length == 0) = false) && decide (a.length + 2 ≤ 16777216) then some (.lst ((Txt.split a b).map .str)) else none
  | _ => none
def upperD : List D → Option D
  | [.str a] => if decide (a.length ≤ 5592405) then some (.str (Txt.upper a)) else none
  | _ => none
def fmtD : D → Option Str
  | .str y => if sz y.length then some y else none
  | .int i => if decide (i.natAbs.log2 < 1920) then some (toString i) else none
  | _ => none
def catG : Str → List D → Option Str
  | acc, [] => some acc
  | acc, d :: r =>
    match fmtD d with
    | some y => if sz (acc ++ y).length then catG (acc ++ y) r else none
    | none => none
def catD (ds : List D) : Option D := (catG Str.empty ds).map .str
def opD : Op → List D → Option D
  | .add => addD
  | .sub => subD
  | .mul => mulD
  | .fdiv => fdivD
  | .mod => modD
  | .pow => powD
  | .shl => shlD
  | .shr => shrD
  | .band => bandD
  | .neg => negD
  | .not => notD
  | .lt => cmpD fun i j => decide (i < j)
  | .le => cmpD fun i j => decide (i ≤ j)
  | .gt => cmpD fun i j => decide (j < i)
  | .ge => cmpD fun i j => decide (j ≤ i)
  | .eq => eqD2
  | .ne => neD2
  | .isN => isND
  | .notN => notND
  | .isB => isBD
  | .notB => notBD
  | .isin => isinD
  | .notin => notinD
  | .idx => idxD
  | .slL lo hi => slD lo hi
  | .rev => stepD List.reverse
  | .evens => stepT everyOther
  | .odds => stepT fun l => everyOther (l.drop 1)
  | .len => lenD
  | .list => listD
  | .tuple => tupleD
  | .repr => reprD
  | .str => strD
  | .int => intD
  | .abs => absD
  | .sum => sumD
  | .max1 => max1D
  | .min1 => min1D
  | .max2 => max2D
  | .min2 => min2D
  | .sorted => sortedD sortI
  | .sortedR => sortedD fun l => (sortI l).reverse
  | .isT n => isTD n
  | .lrg => lrgD
  | .trg => trgD
  | .join => joinD
  | .split => splitD
  | .startswith => startsD
  | .endswith => endsD
  | .index => indexD
  | .count => countD
  | .upper => upperD
  | .cat => catD
  | .imul => imulD
  | _ => fun _ => none
/-- what a value of the operands' phase is: a local name that is read where it is used, or a value -/
inductive R where
  | vr (i : Nat) | vl (d : D) (l : Nat)
inductive Tgt where
  | nm (i : Nat) | nil | cons (a r : Tgt)
/-- the comparisons of ints -/
inductive CmpI where
  | lt | le | gt | ge
  deriving DecidableEq
def CmpI.f : CmpI → Int → Int → Bool
  | .lt => fun i j => decide (i < j)
  | .le => fun i j => decide (i ≤ j)
  | .gt => fun i j => decide (j < i)
  | .ge => fun i j => decide (j ≤ i)
/-- what is walked -/
inductive ItK where
  | seq | range | enum | enumS | zip
  deriving DecidableEq
inductive E where
  | lit (d : D) | var (i : Nat)
  | op (o : Op) (a : E) | mkl (a : E) | mkt (a : E)
  | nil | cons (a r : E)
  | ite (c a b : E) | and (a b : E) | or (a b : E)
  | call (f : Nat) (a : E)
  | comp (vs : List Nat) (k : ItK) (s : E) (t : Tgt) (c e : E)
  | pop (i : Nat) (a : E)
  | chain (f g : CmpI) (ab c : E)
inductive S where
  | skip | seq (a b : S)
  | set (t : Tgt) (e : E) | setI (i : Nat) (ix e : E) | aug (i : Nat) (o : Op) (e : E)
  | ret (e : E) | ex (e : E) | app (i : Nat) (e : E) | ext (i : Nat) (e : E)
  | ite (c : E) (a b : S) | whl (c : E) (b : S) | for (t : Tgt) (k : ItK) (s : E) (b : S)
/-- an op that asks of its operands no more than what they are -/
def keepO : Op → Bool
  | .add => false | .mul => false | .idx => false | .slL _ _ => false | .rev => false | .evens => false | .odds => false
  | .list => false | .tuple => false | .sorted => false | .sortedR => false | .max1 => false | .min1 => false | .max2 => false | .min2 => false
  | _ => true
/-- a new list is owned -/
def lvO (d : D) : Nat :=
  match d with
  | .lst _ => 1
  | _ => 0
def lvOf (o : Op) (d : D) : Nat :=
  match o with
  | .idx => 0
  | .max1 => 0 | .min1 => 0 | .max2 => 0 | .min2 => 0
  | _ => lvO d
def getE (r : Env) (i : Nat) : Option Ent := (r[i]?).join
def lowE (m : Nat) (r : Env) (i : Nat) (e : Ent) : Env := if e.l ≤ m then r else r.set i (some { e with l := m })
/-- operands that are looked at -/
def bor (keep : Bool) : List R → Env → Option (List D × Env)
  | [], r => some ([], r)
  | .vr i :: rs, r =>
    match getE r i with
    | none => none
    | some e =>
      match bor keep rs (if keep then r else lowE 1 r i e) with
      | none => none
      | some (ds, r') => some (e.d :: ds, r')
  | .vl d _ :: rs, r =>
    match bor keep rs r with
    | none => none
    | some (ds, r') => some (d :: ds, r')
def bor1 (keep : Bool) : List R → Env → Option (D × Env)
  | [q], r =>
    match bor keep [q] r with
    | some ([d], r') => some (d, r')
    | _ => none
  | _, _ => none
/-- operands that are taken: (values, the least depth that is owned) -/
def tak : List R → Env → Option (List D × Nat × Env)
  | [], r => some ([], 8, r)
  | .vr i :: rs, r =>
    match getE r i with
    | none => none
    | some e =>
      match tak rs (lowE 0 r i e) with
      | none => none
      | some (ds, _, r') => some (e.d :: ds, 0, r')
  | .vl d l :: rs, r =>
    match tak rs r with
    | none => none
    | some (ds, m, r') => some (d :: ds, min l m, r')
/-- operands that are handed to a call: owned ones are lent -/
def lend : List R → Env → Option (List (D × Nat) × Env)
  | [], r => some ([], r)
  | .vr i :: rs, r =>
    match getE r i with
    | none => none
    | some e =>
      match lend rs (if e.l = 0 then r else r.set i none) with
      | none => none
      | some (ds, r') => some ((e.d, e.l) :: ds, r')
  | .vl d l :: rs, r =>
    match lend rs r with
    | none => none
    | some (ds, r') => some ((d, l) :: ds, r')
/-- whether a slot still holds what came in -/
def pOf (r : Env) (i : Nat) : Bool :=
  match getE r i with
  | some e => e.p
  | none => false
/-- they come back -/
def back : List R → List (Option (D × Nat)) → Env → Env → Env
  | .vr i :: rs, some (d, l) :: os, r0, r => back rs os r0 (if (getE r i).isNone then r.set i (some ⟨d, l, pOf r0 i⟩) else r)
  | _ :: rs, _ :: os, r0, r => back rs os r0 r
  | _, _, _, r => r
def bindT (ok : Nat → Bool) : Tgt → D → Env → Option Env
  | .nm i, d, r => if ok i && decide (i < r.length) then some (r.set i (some ⟨d, 0, false⟩)) else none
  | .nil, d, r =>
    match d with
    | .tup [] => some r
    | _ => none
  | .cons a t, d, r =>
    match d with
    | .tup (x :: xs) =>
      match bindT ok a x r with
      | some r1 => bindT ok t (.tup xs) r1
      | none => none
    | _ => none
def enumL (n : Int) : List D → List D
  | [] => []
  | d :: r => .tup [.int n, d] :: enumL (n + 1) r
def seqOf : D → Option (List D)
  | .lst l => some l
  | .tup l => some l
  | .str s => some (signs s)
  | _ => none
def itemsOf : ItK → List D → Option (List D)
  | .seq, [d] => seqOf d
  | .range, [.int j] => if okR j then some ((rangeL 0 j).map .int) else none
  | .range, [.int i, .int j] => if okR i && okR j then some ((rangeL i j).map .int) else none
  | .range, [.int i, .int j, .int c] => if decide (c ≠ 0) && decide (c.natAbs < 1073741824) && Builtin.Range.small i j c && decide (0 ≤ Builtin.Range.rangeSize i j c) then some ((rangeC i c (Builtin.Range.rangeSize i j c).toNat).map .int) else none
  | .enum, [d] => (seqOf d).map (enumL 0)
  | .enumS, [d, .int n] => if okR n then (seqOf d).map (enumL n) else none
  | .zip, [a, b] => do
    let x ← seqOf a
    let y ← seqOf b
    pure ((x.zip y).map fun p => .tup [p.1, p.2])
  | _, _ => none
def wipeF (vs : List Nat) : Nat → Env → Env
  | _, [] => []
  | k, x :: r => (if vs.contains k then none else x) :: wipeF vs (k + 1) r
abbrev wipeE (vs : List Nat) (r : Env) : Env := wipeF vs 0 r
def restF (vs : List Nat) : Nat → Env → Env → Env
  | k, y :: s, x :: r => (if vs.contains k then y else x) :: restF vs (k + 1) s r
  | _, _, r => r
/-- the names of a comprehension come back -/
abbrev restore (vs : List Nat) (s r : Env) : Env := restF vs 0 s r
def quietE (vs : List Nat) (r : Env) : Bool := vs.all fun i =>
  match getE r i with
  | none => true
  | some e => e.l == 0
abbrev CF := Nat → List (D × Nat) → Out (D × Nat × List (Option (D × Nat)))
/-- one value, taken -/
def one (rs : List R) (r : Env) : Option (D × Nat × Env) :=
  match rs with
  | [.vl d l] => some (d, l, r)
  | [.vr i] =>
    match getE r i with
    | some e => some (e.d, 0, lowE 0 r i e)
    | none => none
  | _ => none
/-- one value, for its truth -/
def tru (rs : List R) (r : Env) : Option Bool :=
  match bor true rs r with
  | some ([d], _) => truth d
  | _ => none
def compL (f : D → Env → Out (Option (D × Nat) × Env)) : List D → List D → Nat → Env → Out (List D × Nat × Env)
  | [], acc, l, r => .val (acc.reverse, l, r)
  | d :: ds, acc, l, r => (f d r).bind fun x =>
    match x.1 with
    | some (y, m) => compL f ds (y :: acc) (min l m) x.2
    | none => compL f ds acc l x.2
def compTurn (evc eve : Env → Out (List R × Env)) (vs : List Nat) (t : Tgt) (d : D) (r1 : Env) : Out (Option (D × Nat) × Env) :=
  (Out.of (bindT (fun i => vs.contains i) t d (wipeE vs r1))).bind fun r2 => (evc r2).bind fun x2 => (Out.of (tru x2.1 x2.2)).bind fun k =>
    if k then (eve x2.2).bind fun x3 => (Out.of (one x3.1 x3.2)).bind fun y3 => .val (some (y3.1, y3.2.1), y3.2.2) else .val (none, x2.2)
def isLstAt (r : Env) (i : Nat) : Bool :=
  match getE r i with
  | some ⟨.lst _, _, _⟩ => true
  | _ => false
def isAtomAt (r : Env) (i : Nat) : Bool :=
  match getE r i with
  | some ⟨d, _, _⟩ => isAtom d
  | none => false
/-- an item is taken out -/
def popI (r : Env) (i : Nat) (ks : List D) : Option (List R × Env) :=
  match getE r i, ks with
  | some ⟨.lst l, m + 1, p⟩, [] =>
    match l[l.length - 1]? with
    | some d => some ([.vl d 0], r.set i (some ⟨.lst l.dropLast, 1, p⟩))
    | none => none
  | some ⟨.lst l, m + 1, p⟩, [.int k] =>
    match ixN l.length k with
    | some j =>
      match l[j]? with
      | some d => if sz l.length then some ([.vl d 0], r.set i (some ⟨.lst (l.eraseIdx j), 1, p⟩)) else none
      | none => none
    | none => none
  | _, _ => none
def ev (cf : CF) : E → Env → Out (List R × Env)
  | .lit d, r => .val ([.vl d 0], r)
  | .var i, r => match getE r i with
    | some _ => .val ([.vr i], r)
    | none => .bad
  | .nil, r => .val ([], r)
  | .cons a t, r => (ev cf a r).bind fun x =>
    match x.1 with
    | [q] => (ev cf t x.2).bind fun y => .val (q :: y.1, y.2)
    | _ => .bad
  | .op o a, r => (ev cf a r).bind fun x => (Out.of (bor (keepO o) x.1 x.2)).bind fun y => (Out.of (opD o y.1)).bind fun d => .val ([.vl d (lvOf o d)], y.2)
  | .mkl a, r => (ev cf a r).bind fun x => (Out.of (tak x.1 x.2)).bind fun y => if sz y.1.length then .val ([.vl (.lst y.1) (y.2.1 + 1)], y.2.2) else .bad
  | .mkt a, r => (ev cf a r).bind fun x => (Out.of (tak x.1 x.2)).bind fun y => if sz y.1.length then .val ([.vl (.tup y.1) 0], y.2.2) else .bad
  | .ite c a b, r => (ev cf c r).bind fun x => (Out.of (tru x.1 x.2)).bind fun k => if k then ev cf a x.2 else ev cf b x.2
  | .and a b, r => (ev cf a r).bind fun x => (Out.of (tru x.1 x.2)).bind fun k => if k then ev cf b x.2 else .val x
  | .or a b, r => (ev cf a r).bind fun x => (Out.of (tru x.1 x.2)).bind fun k => if k then .val x else ev cf b x.2
  | .call f a, r => (ev cf a r).bind fun x => (Out.of (lend x.1 x.2)).bind fun y => 
    match cf f y.1 with
    | .val z => .val ([.vl z.1 z.2.1], back x.1 z.2.2 x.2 y.2)
    | .exc e _ => .exc e y.2
    | .bad => .bad
  | .comp vs k s t c e, r => (ev cf s r).bind fun x => (Out.of (tak x.1 x.2)).bind fun y => (Out.of (itemsOf k y.1)).bind fun ds =>
      if sz ds.length && quietE vs y.2.2 then
        (compL (compTurn (ev cf c) (ev cf e) vs t) ds [] 7 y.2.2).quiet.bind fun z => .val ([.vl (.lst z.1) (z.2.1 + 1)], restore vs y.2.2 z.2.2)
      else .bad
  | .pop i a, r => if isLstAt r i then (ev cf a r).bind fun x => (Out.of (bor true x.1 x.2)).bind fun y => Out.of (popI y.2 i y.1) else .bad
  | .chain f g ab c, r => (ev cf ab r).bind fun x => (Out.of (bor true x.1 x.2)).bind fun y => (Out.of (pairI y.1)).bind fun p =>
      if f.f p.1 p.2 then (ev cf c y.2).bind fun z => (Out.of (bor1 true z.1 z.2)).bind fun w => (Out.of (intOf w.1)).bind fun m => .val ([.vl (.bl (g.f p.2 m)) 0], w.2)
      else .val ([.vl (.bl false) 0], y.2)
inductive Fl where
  | nx (r : Env) | rt (d : D) (l : Nat) (r : Env)
def whileL (c : Env → Out (Bool × Env)) (b : Env → Out Fl) : Nat → Env → Out Fl
  | 0, _ => .bad
  | n + 1, r => (c r).bind fun x => if x.1 then (b x.2).bind fun f =>
      match f with
      | .nx r' => whileL c b n r'
      | .rt d l r' => .val (.rt d l r') else .val (.nx x.2)
def forL (f : D → Env → Out Fl) : List D → Env → Out Fl
  | [], r => .val (.nx r)
  | d :: ds, r => (f d r).bind fun x =>
    match x with
    | .nx r' => forL f ds r'
    | .rt d l r' => .val (.rt d l r')
def laps : Nat := 1000000
/-- an item is put -/
def putI (r : Env) (i : Nat) (k d : D) : Option Fl :=
  match getE r i, k with
  | some ⟨.lst l, _ + 1, p⟩, .int k =>
    match ixN l.length k with
    | some j => some (.nx (r.set i (some ⟨.lst (l.set j d), 1, p⟩)))
    | none => none
  | _, _ => none
def ex (cf : CF) : S → Env → Out Fl
  | .skip, r => .val (.nx r)
  | .seq a b, r => (ex cf a r).bind fun f =>
    match f with
    | .nx r' => ex cf b r'
    | .rt d l r' => .val (.rt d l r')
  | .set t e, r => (ev cf e r).bind fun x => (Out.of (one x.1 x.2)).bind fun y =>
    match t with
    | .nm i => if i < y.2.2.length then .val (.nx (y.2.2.set i (some ⟨y.1, y.2.1, false⟩))) else .bad
    | t => (Out.of (bindT (fun _ => true) t y.1 y.2.2)).bind fun r' => .val (.nx r')
  | .setI i ix e, r => (ev cf e r).bind fun x => (Out.of (one x.1 x.2)).bind fun y => if isLstAt y.2.2 i then (ev cf ix y.2.2).bind fun z => (Out.of (bor1 true z.1 z.2)).bind fun w => Out.of (putI w.2 i w.1 y.1) else .bad
  | .aug i o e, r => if isAtomAt r i then (ev cf (.op o (.cons (.var i) (.cons e .nil))) r).bind fun x => (Out.of (one x.1 x.2)).bind fun y =>
      if i < y.2.2.length then .val (.nx (y.2.2.set i (some ⟨y.1, y.2.1, false⟩))) else .bad
      else .bad
  | .ret e, r => match e with
    | .var i =>
      match getE r i with
      | some en => .val (.rt en.d en.l (r.set i none))
      | none => .bad
    | e => (ev cf e r).bind fun x => (Out.of (one x.1 x.2)).bind fun y => .val (.rt y.1 y.2.1 y.2.2)
  | .ex e, r => (ev cf e r).bind fun x =>
    match x.1 with
    | [_] => .val (.nx x.2)
    | _ => .bad
  | .app i e, r => if isLstAt r i then (ev cf e r).bind fun x => (Out.of (one x.1 x.2)).bind fun y =>
    match getE y.2.2 i with
    | some ⟨.lst l, m + 1, p⟩ => if decide (l.length < 16777216) then .val (.nx (y.2.2.set i (some ⟨.lst (l ++ [y.1]), min m y.2.1 + 1, p⟩))) else .bad
    | _ => .bad
    else .bad
  | .ext i e, r => if isLstAt r i then (ev cf e r).bind fun x => (Out.of (bor1 false x.1 x.2)).bind fun y =>
    match y.1, getE y.2 i with
    | .lst q, some ⟨.lst l, m + 1, p⟩ => if sz (l.length + q.length) then .val (.nx (y.2.set i (some ⟨.lst (l ++ q), 1, p⟩))) else .bad
    | _, _ => .bad
    else .bad
  | .ite c a b, r => (ev cf c r).bind fun x => (Out.of (tru x.1 x.2)).bind fun k => if k then ex cf a x.2 else ex cf b x.2
  | .whl c b, r => whileL (fun r => (ev cf c r).bind fun x => (Out.of (tru x.1 x.2)).bind fun k => .val (k, x.2)) (fun r => ex cf b r) laps r
  | .for t k s b, r => (ev cf s r).bind fun x => (Out.of (tak x.1 x.2)).bind fun y => (Out.of (itemsOf k y.1)).bind fun ds =>
      forL (fun d r1 => (Out.of (bindT (fun _ => true) t d r1)).bind fun r2 => ex cf b r2) ds y.2.2
structure Fn where
  np : Nat
  ns : Nat
  body : S
def outsOf (n : Nat) (r : Env) : List (Option (D × Nat)) := (r.take n).map fun x =>
  match x with
  | some ⟨d, l, true⟩ => some (d, l)
  | _ => none
def callF (T : List Fn) : Nat → CF
  | 0, _, _ => .bad
  | k + 1, f, as =>
    match T[f]? with
    | none => .bad
    | some F => if as.length = F.np then
        (ex (callF T k) F.body ((as.map fun x => some ⟨x.1, x.2, true⟩) ++ List.replicate (F.ns - F.np) none)).bind fun o =>
          match o with
          | .nx r => .val (.non, 0, outsOf F.np r)
          | .rt d l r => .val (d, l, outsOf F.np r)
      else .bad
end Bk
/-! Bk: entries and slots. -/
namespace Bk
open L2 PyProof.Rows PySem.Spec PySem
abbrev Sl := L2.St
/-- the slots stand for the entries; each owns its addresses -/
structure EnvOk (K : PySem.W.Frag) (as : List V) (Z W : Pr) (H : Hp) (r : Env) (σ : Sl) (fp : Nat → List Addr) : Prop where
  len : r.length = σ.length
  ent : ∀ i e, getE r i = some e → ∃ v, σ[i]? = some (some v) ∧ Own K Z H e.d e.l v (fp i) ∧ (e.p = true → as[i]? = some v)
  emp : ∀ i, getE r i = none → fp i = []
  nd : ∀ i, (fp i).Nodup
  dj : ∀ i j a, a ∈ fp i → a ∈ fp j → i = j
  nz : ∀ i a, a ∈ fp i → ¬ Z a ∧ ¬ W a
  zw : ∀ a, Z a → ¬ W a
  lz : ∀ a, Z a → H a ≠ none
  lw : ∀ a, W a → H a ≠ none
  lf : ∀ i a, a ∈ fp i → H a ≠ none
/-- the kept part with some addresses more -/
abbrev orL (W : Pr) (fq : List Addr) : Pr := fun a => W a ∨ a ∈ fq
abbrev fset (fp : Nat → List Addr) (i : Nat) (q : List Addr) : Nat → List Addr := fun j => if j = i then q else fp j
theorem getE_set {r : Env} {i j : Nat} {x : Option Ent} (hi : i < r.length) : getE (r.set i x) j = if j = i then x else getE r j := by
  unfold getE
  by_cases h : j = i
  · subst h; simp [hi]
  · rw [if_neg h, List.getElem?_set_ne (Ne.symm h)]
theorem getE_lt {r : Env} {i : Nat} {e : Ent} (h : getE r i = some e) : i < r.length := by
  unfold getE at h
  cases q : r[i]? with
  | none => rw [q] at h; simp at h
  | some x => exact (List.getElem?_eq_some_iff.mp q).1
section
variable {K : PySem.W.Frag} {as : List V} {Z W : Pr} {H : Hp} {r : Env} {σ : Sl} {fp : Nat → List Addr}
theorem EnvOk.less {W' : Pr} (h : EnvOk K as Z W H r σ fp) (hw : ∀ a, W' a → W a) : EnvOk K as Z W' H r σ fp :=
  ⟨h.len, h.ent, h.emp, h.nd, h.dj, fun i a m => ⟨(h.nz i a m).1, fun w => (h.nz i a m).2 (hw a w)⟩, fun a z w => h.zw a z (hw a w), h.lz, fun a w => h.lw a (hw a w), h.lf⟩
abbrev inF (fp : Nat → List Addr) : Pr := fun a => ∃ i, a ∈ fp i
/-- the heap goes on, everything that the entries own stands; what is frozen more is new -/
theorem EnvOk.keep {Z' : Pr} {H' : Hp} (h : EnvOk K as Z W H r σ fp) (k : Keep Z (inF fp) H Z' H') (hz : ∀ a, Z' a → (Z a ∨ (H a = none ∧ H' a ≠ none))) : EnvOk K as Z' W H' r σ fp := by
  refine ⟨h.len, fun i e g => ?_, h.emp, h.nd, h.dj, fun i a m => ⟨fun z => ?_, (h.nz i a m).2⟩, fun a z w => ?_, fun a z => ?_, fun a w => k.lv a (h.lw a w), fun i a m => k.lv a (h.lf i a m)⟩
  · obtain ⟨v, hv, o, hp⟩ := h.ent i e g
    exact ⟨v, hv, o.keep k fun a ha => ⟨i, ha⟩, hp⟩
  · rcases hz a z with z | ⟨z, _⟩
    · exact (h.nz i a m).1 z
    · exact h.lf i a m z
  · rcases hz a z with z | ⟨z, _⟩
    · exact h.zw a z w
    · exact h.lw a w z
  · rcases hz a z with z | ⟨_, z⟩
    · exact k.lv a (h.lz a z)
    · exact z
/-- an entry is taken out: what it owns is held apart -/
theorem EnvOk.take {i : Nat} {e : Ent} (h : EnvOk K as Z W H r σ fp) (g : getE r i = some e) :
    EnvOk K as Z (orL W (fp i)) H (r.set i none) σ (fset fp i []) ∧ ∃ v, σ[i]? = some (some v) ∧ Own K Z H e.d e.l v (fp i) ∧ (e.p = true → as[i]? = some v) := by
  have hi := getE_lt g
  refine ⟨⟨by rw [List.length_set]; exact h.len, fun j e' gj => ?_, fun j gj => ?_, fun j => ?_, fun j k a m1 m2 => ?_, fun j a m => ?_, fun a z w => ?_, h.lz, fun a w => ?_, fun j a m => ?_⟩, h.ent i e g⟩
  · rw [getE_set hi] at gj
    split at gj
    · cases gj
    · rename_i ne
      obtain ⟨v, hv, o, hp⟩ := h.ent j e' gj
      exact ⟨v, hv, by simpa [fset, ne] using o, hp⟩
  · rw [getE_set hi] at gj
    split at gj
    · rename_i e; simp [fset, e]
    · rename_i ne; simp [fset, ne, h.emp j gj]
  · by_cases e : j = i
    · simp [fset, e]
    · simp [fset, e, h.nd j]
  · by_cases e : j = i
    · simp [fset, e] at m1
    · by_cases e2 : k = i
      · simp [fset, e2] at m2
      · simp only [fset, if_neg e] at m1
        simp only [fset, if_neg e2] at m2
        exact h.dj j k a m1 m2
  · by_cases e : j = i
    · simp [fset, e] at m
    · simp only [fset, if_neg e] at m
      exact ⟨(h.nz j a m).1, fun w => w.elim (h.nz j a m).2 fun w => e (h.dj j i a m w)⟩
  · rcases w with w | w
    · exact h.zw a z w
    · exact (h.nz i a w).1 z
  · rcases w with w | w
    · exact h.lw a w
    · exact h.lf i a w
  · by_cases e : j = i
    · simp [fset, e] at m
    · simp only [fset, if_neg e] at m
      exact h.lf j a m
/-- a value is put at a place -/
theorem EnvOk.put {i : Nat} {e : Ent} {v : V} {fq : List Addr} (h : EnvOk K as Z (orL W fq) H r σ fp) (hi : i < r.length) (o : Own K Z H e.d e.l v fq) (nd : fq.Nodup) (nw : ∀ a ∈ fq, ¬ W a)
    (hp : e.p = true → as[i]? = some v) : EnvOk K as Z W H (r.set i (some e)) (σ.set i (some v)) (fset fp i fq) := by
  have hs : i < σ.length := by rw [← h.len]; exact hi
  refine ⟨by rw [List.length_set, List.length_set]; exact h.len, fun j e' gj => ?_, fun j gj => ?_, fun j => ?_, fun j k a m1 m2 => ?_, fun j a m => ?_, fun a z w => h.zw a z (.inl w), h.lz, fun a w => h.lw a (.inl w), fun j a m => ?_⟩
  · rw [getE_set hi] at gj
    by_cases e2 : j = i
    · subst e2
      rw [if_pos rfl] at gj
      cases gj
      exact ⟨v, by simp [hs], by simpa [fset] using o, hp⟩
    · rw [if_neg e2] at gj
      obtain ⟨u, hv, o', hp'⟩ := h.ent j e' gj
      exact ⟨u, by rw [List.getElem?_set_ne (Ne.symm e2)]; exact hv, by simpa [fset, e2] using o', hp'⟩
  · rw [getE_set hi] at gj
    by_cases e2 : j = i
    · rw [if_pos e2] at gj; cases gj
    · rw [if_neg e2] at gj; simp [fset, e2, h.emp j gj]
  · by_cases e2 : j = i
    · simp [fset, e2, nd]
    · simp [fset, e2, h.nd j]
  · by_cases e2 : j = i
    · by_cases e3 : k = i
      · rw [e2, e3]
      · simp only [fset, if_pos e2] at m1
        simp only [fset, if_neg e3] at m2
        exact absurd (.inr m1) (h.nz k a m2).2
    · by_cases e3 : k = i
      · simp only [fset, if_neg e2] at m1
        simp only [fset, if_pos e3] at m2
        exact absurd (.inr m2) (h.nz j a m1).2
      · simp only [fset, if_neg e2] at m1
        simp only [fset, if_neg e3] at m2
        exact h.dj j k a m1 m2
  · by_cases e2 : j = i
    · simp only [fset, if_pos e2] at m
      exact ⟨fun z => h.zw a z (.inr m), nw a m⟩
    · simp only [fset, if_neg e2] at m
      exact ⟨(h.nz j a m).1, fun w => (h.nz j a m).2 (.inl w)⟩
  · by_cases e2 : j = i
    · simp only [fset, if_pos e2] at m
      exact h.lw a (.inr m)
    · simp only [fset, if_neg e2] at m
      exact h.lf j a m
theorem set_same {σ : Sl} {i : Nat} {x : Option V} (h : σ[i]? = some x) : σ.set i x = σ := by
  apply List.ext_getElem?
  intro j
  by_cases e : i = j
  · subst e
    rw [List.getElem?_set_self (List.getElem?_eq_some_iff.mp h).1, h]
  · rw [List.getElem?_set_ne e]
/-- it comes back to its place -/
theorem EnvOk.back {i : Nat} {e : Ent} {v : V} {fq : List Addr} (h : EnvOk K as Z (orL W fq) H r σ fp) (hi : i < r.length) (hv : σ[i]? = some (some v)) (o : Own K Z H e.d e.l v fq) (nd : fq.Nodup) (nw : ∀ a ∈ fq, ¬ W a)
    (hp : e.p = true → as[i]? = some v) : EnvOk K as Z W H (r.set i (some e)) σ (fset fp i fq) := by
  have := h.put hi o nd nw hp
  rwa [set_same hv] at this
/-- what is held apart is frozen -/
theorem EnvOk.frz {fq : List Addr} (h : EnvOk K as Z (orL W fq) H r σ fp) (nw : ∀ a ∈ fq, ¬ W a) : EnvOk K as (orL Z fq) W H r σ fp :=
  ⟨h.len, fun i e g => let ⟨v, hv, o, hp⟩ := h.ent i e g; ⟨v, hv, o.keep (W := inF fp) ⟨fun _ z => .inl z, fun _ _ _ _ x => x, fun _ _ _ x => x, fun _ _ _ x => x, fun _ x => x⟩ (fun a m => ⟨i, m⟩), hp⟩, h.emp, h.nd, h.dj,
    fun i a m => ⟨fun z => z.elim (h.nz i a m).1 fun z => (h.nz i a m).2 (.inr z), fun w => (h.nz i a m).2 (.inl w)⟩,
    fun a z w => z.elim (fun z => h.zw a z (.inl w)) fun z => nw a z w, fun a z => z.elim (h.lz a) fun z => h.lw a (.inr z), fun a w => h.lw a (.inl w), h.lf⟩
/-- something new is held apart -/
theorem EnvOk.more {fq : List Addr} (h : EnvOk K as Z W H r σ fp) (hl : ∀ a ∈ fq, H a ≠ none) (hz : ∀ a ∈ fq, ¬ Z a) (hf : ∀ a ∈ fq, ∀ i, a ∉ fp i) : EnvOk K as Z (orL W fq) H r σ fp :=
  ⟨h.len, h.ent, h.emp, h.nd, h.dj, fun i a m => ⟨(h.nz i a m).1, fun w => w.elim (h.nz i a m).2 fun w => hf a w i m⟩, fun a z w => w.elim (h.zw a z) fun w => hz a w z, h.lz, fun a w => w.elim (h.lw a) (hl a), h.lf⟩
/-- a new object: held apart -/
theorem EnvOk.new {p : Addr} {o : HO} (h : EnvOk K as Z W H r σ fp) (hn : H p = none) : EnvOk K as Z (orL W [p]) (upd H p o) r σ fp := by
  have k : Keep Z (inF fp) H Z (upd H p o) := ⟨fun _ z => z, fun a u z pl rd => by
      have : a ≠ p := fun e => h.lz a z (e ▸ hn)
      rcases rd with rd | ⟨x, rd⟩
      · exact .inl (by rw [upd_ne this]; exact rd)
      · exact .inr ⟨x, by rw [upd_ne this]; exact rd⟩,
    fun a u w e => by
      have : a ≠ p := fun q => by rw [q, hn] at e; cases e
      rw [upd_ne this]; exact e,
    fun a u w e => by
      have : a ≠ p := fun q => by rw [q, hn] at e; cases e
      rw [upd_ne this]; exact e,
    fun a x => by
      by_cases q : a = p
      · subst q; rw [upd_same]; simp
      · rw [upd_ne q]; exact x⟩
  refine (h.keep k fun a z => .inl z).more (fun a m => ?_) (fun a m z => ?_) fun a m i m2 => ?_
  · simp only [List.mem_singleton] at m; subst m; rw [upd_same]; simp
  · simp only [List.mem_singleton] at m; subst m; exact h.lz a z hn
  · simp only [List.mem_singleton] at m; subst m; exact h.lf i a m2 hn
theorem keep_new {Z W : Pr} {H : Hp} {p : Addr} {o : HO} (hn : H p = none) : Keep Z W H Z (upd H p o) :=
  ⟨fun _ z => z, fun a u z pl rd => by
      have hne : a ≠ p := fun e => by
        rcases rd with rd | ⟨x, rd⟩ <;> (rw [e, hn] at rd; cases rd)
      rcases rd with rd | ⟨x, rd⟩
      · exact .inl (by rw [upd_ne hne]; exact rd)
      · exact .inr ⟨x, by rw [upd_ne hne]; exact rd⟩,
    fun a u w e => by
      have : a ≠ p := fun q => by rw [q, hn] at e; cases e
      rw [upd_ne this]; exact e,
    fun a u w e => by
      have : a ≠ p := fun q => by rw [q, hn] at e; cases e
      rw [upd_ne this]; exact e,
    fun a x => by
      by_cases q : a = p
      · subst q; rw [upd_same]; simp
      · rw [upd_ne q]; exact x⟩
theorem keep_more {Z W : Pr} {H : Hp} {fq : List Addr} : Keep Z W H (orL Z fq) H := ⟨fun _ z => .inl z, fun _ _ _ _ x => x, fun _ _ _ x => x, fun _ _ _ x => x, fun _ x => x⟩
/-- an entry owned less deep -/
theorem EnvOk.low {i : Nat} {e : Ent} (m : Nat) (h : EnvOk K as Z W H r σ fp) (g : getE r i = some e) : ∃ rm fp', EnvOk K as (orL Z rm) W H (lowE m r i e) σ fp' := by
  unfold lowE
  split
  · have h0 : EnvOk K as Z (orL W []) H r σ fp := h.less (fun a w => w.elim id fun w => by simp at w)
    exact ⟨[], fp, h0.frz (by simp)⟩
  · rename_i hm
    obtain ⟨ht, v, hv, o, hp⟩ := h.take g
    obtain ⟨fq, rm, pm, lo⟩ := o.lower m (by omega)
    have nd := h.nd i
    have nd2 : (fq ++ rm).Nodup := pm.nodup_iff.mp nd
    have hsub : ∀ a, a ∈ fp i ↔ (a ∈ fq ∨ a ∈ rm) := fun a => by rw [pm.mem_iff, List.mem_append]
    have h1 : EnvOk K as Z (orL (orL W fq) rm) H (r.set i none) σ (fset fp i []) := ht.less fun a w => by
      rcases w with (w | w) | w
      · exact .inl w
      · exact .inr ((hsub a).mpr (.inl w))
      · exact .inr ((hsub a).mpr (.inr w))
    have h2 := h1.frz fun a m w => by
      rcases w with w | w
      · exact (h.nz i a ((hsub a).mpr (.inr m))).2 w
      · exact (List.nodup_append.mp nd2).2.2 a w a m rfl
    have hi := getE_lt g
    have h3 := h2.back (e := { e with l := m }) (by rw [List.length_set]; exact hi) hv (lo _ (fun a z => .inl z) fun a z => .inr z) (List.nodup_append.mp nd2).1 (fun a q w => (h.nz i a ((hsub a).mpr (.inl q))).2 w) hp
    rw [List.set_set] at h3
    exact ⟨rm, _, h3⟩
end
end Bk
/-! Bk: operands. -/
namespace Bk
open L2 PyProof.Rows PySem.Spec PySem
mutual
/-- v reads as d -/
def Rv (K : PySem.W.Frag) (H : Hp) : D → V → Prop
  | .non, v => v = .non
  | .bl b, v => v = .bl b
  | .int i, v => v = .int i
  | .str s, v => v = .str s
  | .tup ds, v => ∃ a vs, v = .ref a ∧ SqT K H a vs ∧ RvL K H ds vs
  | .lst ds, v => ∃ a vs, v = .ref a ∧ H a = some (.lst vs) ∧ RvL K H ds vs
  | .dct _ _, _ => False
  | .set _, _ => False
  | .ins _ _, _ => False
  | .scr ns, v => ∃ a, v = .ref a ∧ SqL K H a (ns.map V.int)
def RvL (K : PySem.W.Frag) (H : Hp) : List D → List V → Prop
  | [], vs => vs = []
  | d :: ds, vs => ∃ v ws, vs = v :: ws ∧ Rv K H d v ∧ RvL K H ds ws
end
section
variable {K : PySem.W.Frag} {Z W : Pr} {H : Hp}
mutual
theorem Own.rv : ∀ {d : D} {n : Nat} {v : V} {fp : List Addr}, Own K Z H d n v fp → Rv K H d v
  | .non, _, _, _, h => by rw [Own] at h; rw [Rv]; exact h.1
  | .bl _, _, _, _, h => by rw [Own] at h; rw [Rv]; exact h.1
  | .int _, _, _, _, h => by rw [Own] at h; rw [Rv]; exact h.1
  | .str _, _, _, _, h => by rw [Own] at h; rw [Rv]; exact h.1
  | .tup ds, _, v, fp, h => by
    rw [Own] at h; rw [Rv]
    obtain ⟨e, a, vs, e2, f, o⟩ := h
    exact ⟨a, vs, e2, f.sq, OwnL.rv o⟩
  | .lst ds, 0, v, fp, h => by
    rw [Own] at h; rw [Rv]
    obtain ⟨e, a, vs, e2, f, o⟩ := h
    exact ⟨a, vs, e2, f.2, OwnL.rv o⟩
  | .lst ds, n + 1, v, fp, h => by
    rw [Own] at h; rw [Rv]
    obtain ⟨a, vs, fq, e, e2, e3, o⟩ := h
    exact ⟨a, vs, e, e2, OwnL.rv o⟩
  | .dct _ _, _, _, _, h => by simp [Own] at h
  | .set _, _, _, _, h => by simp [Own] at h
  | .ins _ _, _, _, _, h => by simp [Own] at h
  | .scr ns, _, v, fp, h => by
    rw [Own] at h; rw [Rv]
    obtain ⟨e, a, e2, f⟩ := h
    exact ⟨a, e2, f.sq⟩
theorem OwnL.rv : ∀ {ds : List D} {n : Nat} {vs : List V} {fp : List Addr}, OwnL K Z H ds n vs fp → RvL K H ds vs
  | [], _, _, _, h => by rw [OwnL] at h; rw [RvL]; exact h.1
  | d :: ds, n, vs, fp, h => by
    rw [OwnL] at h; rw [RvL]
    obtain ⟨v, ws, f, g, e1, e2, o, os⟩ := h
    exact ⟨v, ws, e1, Own.rv o, OwnL.rv os⟩
end
theorem Own.fp0 : ∀ {d : D} {v : V} {fp : List Addr}, Own K Z H d 0 v fp → fp = []
  | .non, _, _, h => by rw [Own] at h; exact h.2
  | .bl _, _, _, h => by rw [Own] at h; exact h.2
  | .int _, _, _, h => by rw [Own] at h; exact h.2
  | .str _, _, _, h => by rw [Own] at h; exact h.2
  | .tup _, _, _, h => by rw [Own] at h; exact h.1
  | .lst _, _, _, h => by rw [Own] at h; exact h.1
  | .dct _ _, _, _, h => by simp [Own] at h
  | .set _, _, _, h => by simp [Own] at h
  | .ins _ _, _, _, h => by simp [Own] at h
  | .scr _, _, _, h => by rw [Own] at h; exact h.1
theorem OwnL.fp0 : ∀ {ds : List D} {vs : List V} {fp : List Addr}, OwnL K Z H ds 0 vs fp → fp = []
  | [], _, _, h => by rw [OwnL] at h; exact h.2
  | d :: ds, _, _, h => by
    rw [OwnL] at h
    obtain ⟨v, ws, f, g, e1, e2, o, os⟩ := h
    rw [e2, o.fp0, OwnL.fp0 os]; rfl
/-- looked at: the root is read, what lies in it is frozen -/
def Bd (K : PySem.W.Frag) (Z : Pr) (H : Hp) (d : D) (v : V) : Prop :=
  match d with
  | .lst ds => ∃ a vs, v = .ref a ∧ H a = some (.lst vs) ∧ OwnL K Z H ds 0 vs []
  | d => Own K Z H d 0 v []
theorem Bd.of0 {d : D} {v : V} {fp : List Addr} (h : Own K Z H d 0 v fp) : Bd K Z H d v := by
  have e := h.fp0
  subst e
  cases d with
  | lst ds =>
    rw [Own] at h
    obtain ⟨_, a, vs, e2, f, o⟩ := h
    exact ⟨a, vs, e2, f.2, o⟩
  | _ => exact h
theorem Bd.of1 {d : D} {v : V} {fp : List Addr} (h : Own K Z H d 1 v fp) : Bd K Z H d v := by
  cases d with
  | lst ds =>
    rw [Own] at h
    obtain ⟨a, vs, fq, e, e2, e3, o⟩ := h
    have e4 := o.fp0
    subst e4
    exact ⟨a, vs, e, e2, o⟩
  | tup ds => rw [Own] at h; show Own K Z H _ 0 v []; rw [Own]; exact ⟨rfl, h.2⟩
  | non => rw [Own] at h; show Own K Z H _ 0 v []; rw [Own]; exact ⟨h.1, rfl⟩
  | bl _ => rw [Own] at h; show Own K Z H _ 0 v []; rw [Own]; exact ⟨h.1, rfl⟩
  | int _ => rw [Own] at h; show Own K Z H _ 0 v []; rw [Own]; exact ⟨h.1, rfl⟩
  | str _ => rw [Own] at h; show Own K Z H _ 0 v []; rw [Own]; exact ⟨h.1, rfl⟩
  | dct _ _ => simp [Own] at h
  | set _ => simp [Own] at h
  | ins _ _ => simp [Own] at h
  | scr _ => rw [Own] at h; show Own K Z H _ 0 v []; rw [Own]; exact ⟨rfl, h.2⟩
theorem Bd.rv {d : D} {v : V} (h : Bd K Z H d v) : Rv K H d v := by
  cases d with
  | lst ds =>
    obtain ⟨a, vs, e, s, o⟩ := h
    rw [Rv]
    exact ⟨a, vs, e, s, o.rv⟩
  | _ => exact Own.rv (Z := Z) (n := 0) (fp := []) h
theorem Bd.more {Z' : Pr} {d : D} {v : V} (h : Bd K Z H d v) (hz : ∀ a, Z a → Z' a) : Bd K Z' H d v := by
  have k : Keep Z (fun _ => False) H Z' H := ⟨hz, fun _ _ _ _ x => x, fun _ _ _ x => x, fun _ _ _ x => x, fun _ x => x⟩
  cases d with
  | lst ds =>
    obtain ⟨a, vs, e, s, o⟩ := h
    exact ⟨a, vs, e, s, o.keep k (by simp)⟩
  | _ => exact Own.keep k h (by simp)
end
/-- the values of the operands' phase -/
def RepRs (K : PySem.W.Frag) (Z : Pr) (H : Hp) (σ : Sl) : List R → List V → List Addr → Prop
  | [], vs, fq => vs = [] ∧ fq = []
  | .vr i :: rs, vs, fq => ∃ v ws, vs = v :: ws ∧ σ[i]? = some (some v) ∧ RepRs K Z H σ rs ws fq
  | .vl d l :: rs, vs, fq => ∃ v ws f g, vs = v :: ws ∧ fq = f ++ g ∧ Own K Z H d l v f ∧ RepRs K Z H σ rs ws g
section
variable {K : PySem.W.Frag} {as : List V} {Z W : Pr} {H : Hp} {σ : Sl}
theorem RepRs.keep {Z' : Pr} {H' : Hp} (k : Keep Z W H Z' H') : ∀ {rs : List R} {vs : List V} {fq : List Addr}, RepRs K Z H σ rs vs fq → (∀ a ∈ fq, W a) → RepRs K Z' H' σ rs vs fq
  | [], _, _, h, _ => h
  | .vr i :: rs, _, _, h, hw => by
    obtain ⟨v, ws, e, s, o⟩ := h
    exact ⟨v, ws, e, s, o.keep k hw⟩
  | .vl d l :: rs, _, _, h, hw => by
    obtain ⟨v, ws, f, g, e, e2, o, os⟩ := h
    subst e2
    exact ⟨v, ws, f, g, e, rfl, o.keep k fun a m => hw a (by simp [m]), os.keep k fun a m => hw a (by simp [m])⟩
theorem RepRs.len : ∀ {rs : List R} {vs : List V} {fq : List Addr}, RepRs K Z H σ rs vs fq → vs.length = rs.length
  | [], _, _, h => by rw [h.1]; rfl
  | .vr i :: rs, _, _, h => by
    obtain ⟨v, ws, e, s, o⟩ := h
    rw [e, List.length_cons, List.length_cons, o.len]
  | .vl d l :: rs, _, _, h => by
    obtain ⟨v, ws, f, g, e, e2, o, os⟩ := h
    rw [e, List.length_cons, List.length_cons, os.len]
def All2 {α β : Type} (P : α → β → Prop) : List α → List β → Prop
  | [], ys => ys = []
  | x :: xs, ys => ∃ z zs, ys = z :: zs ∧ P x z ∧ All2 P xs zs
theorem All2.imp {α β : Type} {P Q : α → β → Prop} (h : ∀ x z, P x z → Q x z) : ∀ {xs : List α} {ys : List β}, All2 P xs ys → All2 Q xs ys
  | [], _, e => e
  | x :: xs, _, ⟨z, zs, e, p, r⟩ => ⟨z, zs, e, h x z p, All2.imp h r⟩
theorem All2.len {α β : Type} {P : α → β → Prop} : ∀ {xs : List α} {ys : List β}, All2 P xs ys → ys.length = xs.length
  | [], _, e => by rw [show _ = [] from e]; rfl
  | x :: xs, _, ⟨z, zs, e, p, r⟩ => by rw [e, List.length_cons, List.length_cons, All2.len r]
theorem keepZ {Z Z' : Pr} {H : Hp} (hz : ∀ a, Z a → Z' a) : Keep Z W H Z' H := ⟨hz, fun _ _ _ _ x => x, fun _ _ _ x => x, fun _ _ _ x => x, fun _ x => x⟩
/-- the operands are looked at -/
theorem bor_ok {keep : Bool} : ∀ {rs : List R} {r r' : Env} {ds : List D} {Z : Pr} {fp : Nat → List Addr} {vs : List V} {fq : List Addr},
    EnvOk K as Z (orL W fq) H r σ fp → RepRs K Z H σ rs vs fq → fq.Nodup → (∀ a ∈ fq, ¬ W a) → bor keep rs r = some (ds, r') →
    ∃ Z' fp', EnvOk K as Z' W H r' σ fp' ∧ (∀ a, Z a → Z' a) ∧ All2 (fun d v => Rv K H d v ∧ (keep = false → Bd K Z' H d v)) ds vs
  | [], r, r', ds, Z, fp, vs, fq, E, hr, nd, nw, hb => by
    simp only [bor, Option.some.injEq, Prod.mk.injEq] at hb
    obtain ⟨rfl, rfl⟩ := hb
    exact ⟨Z, fp, E.less fun a w => .inl w, fun _ z => z, hr.1⟩
  | .vr i :: rs, r, r', ds, Z, fp, vs, fq, E, hr, nd, nw, hb => by
    obtain ⟨v, ws, e1, s, os⟩ := hr
    simp only [bor] at hb
    split at hb
    · cases hb
    · rename_i en g
      split at hb
      · cases hb
      · rename_i ds' r2 hb'
        simp only [Option.some.injEq, Prod.mk.injEq] at hb
        obtain ⟨rfl, rfl⟩ := hb
        cases keep with
        | true =>
          obtain ⟨v', hv, o, _⟩ := E.ent i en g
          rw [s] at hv; cases hv
          simp only [if_true] at hb'
          obtain ⟨Z', fp', E', hz, al⟩ := bor_ok E os nd nw hb'
          exact ⟨Z', fp', E', hz, v, ws, e1, ⟨o.rv, fun q => by simp at q⟩, al⟩
        | false =>
          simp only [Bool.false_eq_true, if_false] at hb'
          obtain ⟨rm, fp1, E1⟩ := E.low 1 g
          have g1 : ∃ e1, getE (lowE 1 r i en) i = some e1 ∧ e1.d = en.d ∧ e1.l ≤ 1 := by
            unfold lowE
            split
            · rename_i h1; exact ⟨en, g, rfl, h1⟩
            · rw [getE_set (getE_lt g), if_pos rfl]; exact ⟨_, rfl, rfl, Nat.le_refl 1⟩
          obtain ⟨en1, g1, hd1, hl1⟩ := g1
          obtain ⟨v', hv, o, _⟩ := E1.ent i en1 g1
          rw [s] at hv; cases hv
          have os1 := os.keep (Z' := orL Z rm) (H' := H) (W := orL W fq) (keepZ fun a z => .inl z) fun a m => .inr m
          obtain ⟨Z', fp', E', hz, al⟩ := bor_ok E1 os1 nd nw hb'
          refine ⟨Z', fp', E', fun a z => hz a (.inl z), v, ws, e1, ⟨hd1 ▸ o.rv, fun _ => ?_⟩, al⟩
          rw [← hd1]
          refine Bd.more ?_ hz
          obtain ⟨ed, el, ep⟩ := en1
          have hl1 : el ≤ 1 := hl1
          rcases Nat.le_one_iff_eq_zero_or_eq_one.mp hl1 with h | h
          · subst h; exact Bd.of0 o
          · subst h; exact Bd.of1 o
  | .vl d l :: rs, r, r', ds, Z, fp, vs, fq, E, hr, nd, nw, hb => by
    obtain ⟨v, ws, f, g, e1, e2, o, os⟩ := hr
    subst e2
    simp only [bor] at hb
    split at hb
    · cases hb
    · rename_i ds' r2 hb'
      simp only [Option.some.injEq, Prod.mk.injEq] at hb
      obtain ⟨rfl, rfl⟩ := hb
      have nd' := List.nodup_append.mp nd
      have E1 : EnvOk K as Z (orL (orL W g) f) H r σ fp := E.less fun a w => by
        rcases w with (w | w) | w
        · exact .inl w
        · exact .inr (by simp [w])
        · exact .inr (by simp [w])
      have E2 := E1.frz fun a m w => by
        rcases w with w | w
        · exact nw a (by simp [m]) w
        · exact nd'.2.2 a m a w rfl
      have k : Keep Z (orL W g) H (orL Z f) H := keepZ fun a z => .inl z
      have os2 := os.keep k fun a m => .inr m
      obtain ⟨Z', fp', E', hz, al⟩ := bor_ok E2 os2 nd'.2.1 (fun a m => nw a (by simp [m])) hb'
      refine ⟨Z', fp', E', fun a z => hz a (.inl z), v, ws, e1, ⟨o.rv, fun _ => ?_⟩, al⟩
      exact (Bd.of0 (o.freeze (Z' := orL Z f) (fun a z => .inl z) fun a m => .inr m)).more hz
/-- the operands are taken -/
theorem tak_ok : ∀ {W : Pr} {rs : List R} {r r' : Env} {ds : List D} {m : Nat} {Z : Pr} {fp : Nat → List Addr} {vs : List V} {fq : List Addr},
    EnvOk K as Z (orL W fq) H r σ fp → RepRs K Z H σ rs vs fq → fq.Nodup → (∀ a ∈ fq, ¬ W a) → tak rs r = some (ds, m, r') →
    ∃ Z' fp' fq', EnvOk K as Z' (orL W fq') H r' σ fp' ∧ (∀ a, Z a → Z' a) ∧ OwnL K Z' H ds m vs fq' ∧ fq'.Nodup ∧ (∀ a ∈ fq', a ∈ fq)
  | W, [], r, r', ds, m, Z, fp, vs, fq, E, hr, nd, nw, hb => by
    simp only [tak, Option.some.injEq, Prod.mk.injEq] at hb
    obtain ⟨rfl, rfl, rfl⟩ := hb
    refine ⟨Z, fp, [], E.less fun a w => w.elim .inl fun w => by simp at w, fun _ z => z, ?_, List.nodup_nil, fun a m => by simp at m⟩
    rw [OwnL]
    exact ⟨hr.1, rfl⟩
  | W, .vr i :: rs, r, r', ds, m, Z, fp, vs, fq, E, hr, nd, nw, hb => by
    obtain ⟨v, ws, e1, s, os⟩ := hr
    simp only [tak] at hb
    split at hb
    · cases hb
    · rename_i en g
      split at hb
      · cases hb
      · rename_i ds' m' r2 hb'
        simp only [Option.some.injEq, Prod.mk.injEq] at hb
        obtain ⟨rfl, rfl, rfl⟩ := hb
        obtain ⟨rm, fp1, E1⟩ := E.low 0 g
        have g1 : ∃ e1, getE (lowE 0 r i en) i = some e1 ∧ e1.d = en.d ∧ e1.l = 0 := by
          unfold lowE
          split
          · rename_i h1; exact ⟨en, g, rfl, by omega⟩
          · rw [getE_set (getE_lt g), if_pos rfl]; exact ⟨_, rfl, rfl, rfl⟩
        obtain ⟨en1, g1, hd1, hl1⟩ := g1
        obtain ⟨v', hv, o, _⟩ := E1.ent i en1 g1
        rw [s] at hv; cases hv
        rw [hl1, hd1] at o
        have o' := o
        rw [o.fp0] at o'
        have os1 := os.keep (Z' := orL Z rm) (H' := H) (W := orL W fq) (keepZ fun a z => .inl z) fun a m => .inr m
        obtain ⟨Z', fp', fq', E', hz, al, nd', sub⟩ := tak_ok E1 os1 nd nw hb'
        obtain ⟨f2, rm2, pm, lo⟩ := al.lower 0 (Nat.zero_le _)
        have E2 : EnvOk K as Z' (orL W fq') H r2 σ fp' := E'
        have E3 : EnvOk K as (orL Z' fq') W H r2 σ fp' := E2.frz fun a m w => nw a (sub a m) w
        refine ⟨orL Z' fq', fp', [], E3.less (fun a w => w.elim id fun w => by simp at w), fun a z => .inl (hz a (.inl z)), ?_, List.nodup_nil, fun a m => by simp at m⟩
        have al0 := al.freeze (Z' := orL Z' fq') (fun a z => .inl z) fun a m => .inr m
        rw [OwnL]
        exact ⟨v, ws, [], [], e1, rfl, o'.keep (W := fun _ => False) (keepZ fun a z => .inl (hz a z)) (by simp), al0⟩
  | W, .vl d l :: rs, r, r', ds, m, Z, fp, vs, fq, E, hr, nd, nw, hb => by
    obtain ⟨v, ws, f, g, e1, e2, o, os⟩ := hr
    subst e2
    simp only [tak] at hb
    split at hb
    · cases hb
    · rename_i ds' m' r2 hb'
      simp only [Option.some.injEq, Prod.mk.injEq] at hb
      obtain ⟨rfl, rfl, rfl⟩ := hb
      have nd' := List.nodup_append.mp nd
      have E1 : EnvOk K as Z (orL (orL W f) g) H r σ fp := E.less fun a w => by
        rcases w with (w | w) | w
        · exact .inl w
        · exact .inr (by simp [w])
        · exact .inr (by simp [w])
      have nwg : ∀ a ∈ g, ¬ (orL W f) a := fun a m w => by
        rcases w with w | w
        · exact nw a (by simp [m]) w
        · exact nd'.2.2 a w a m rfl
      obtain ⟨Z', fp', g', E', hz, al, ndg, sub⟩ := tak_ok E1 os nd'.2.1 nwg hb'
      have o1 : Own K Z' H d l v f := o.keep (W := fun a => a ∈ f) (keepZ hz) fun a m => m
      obtain ⟨f2, rf, pf, lf⟩ := o1.lower (min l m') (Nat.min_le_left _ _)
      obtain ⟨g2, rg, pg, lg⟩ := al.lower (min l m') (Nat.min_le_right _ _)
      have memf : ∀ a, a ∈ f ↔ a ∈ f2 ∨ a ∈ rf := fun a => by rw [pf.mem_iff, List.mem_append]
      have memg : ∀ a, a ∈ g' ↔ a ∈ g2 ∨ a ∈ rg := fun a => by rw [pg.mem_iff, List.mem_append]
      have ndf2 := List.nodup_append.mp (pf.nodup_iff.mp nd'.1)
      have ndg2 := List.nodup_append.mp (pg.nodup_iff.mp ndg)
      have dis : ∀ a, a ∈ f → a ∈ g' → False := fun a m1 m2 => nd'.2.2 a m1 a (sub a m2) rfl
      have E2 : EnvOk K as Z' (orL (orL W (f2 ++ g2)) (rf ++ rg)) H r2 σ fp' := E'.less fun a w => by
        rcases w with (w | w) | w
        · exact .inl (.inl w)
        · rcases List.mem_append.mp w with w | w
          · exact .inl (.inr ((memf a).mpr (.inl w)))
          · exact .inr ((memg a).mpr (.inl w))
        · rcases List.mem_append.mp w with w | w
          · exact .inl (.inr ((memf a).mpr (.inr w)))
          · exact .inr ((memg a).mpr (.inr w))
      have E3 := E2.frz fun a m w => by
        rcases w with w | w
        · rcases List.mem_append.mp m with m | m
          · exact nw a (by simp [(memf a).mpr (.inr m)]) w
          · exact nw a (by simp [sub a ((memg a).mpr (.inr m))]) w
        · rcases List.mem_append.mp m with m | m
          · rcases List.mem_append.mp w with w | w
            · exact ndf2.2.2 a w a m rfl
            · exact dis a ((memf a).mpr (.inr m)) ((memg a).mpr (.inl w))
          · rcases List.mem_append.mp w with w | w
            · exact dis a ((memf a).mpr (.inl w)) ((memg a).mpr (.inr m))
            · exact ndg2.2.2 a w a m rfl
      refine ⟨_, fp', f2 ++ g2, E3, fun a z => .inl (hz a z), ?_, ?_, fun a m => ?_⟩
      · rw [OwnL]
        exact ⟨v, ws, f2, g2, e1, rfl, lf _ (fun a z => .inl z) (fun a m => .inr (by simp [m])), lg _ (fun a z => .inl z) fun a m => .inr (by simp [m])⟩
      · exact List.nodup_append.mpr ⟨ndf2.1, ndg2.1, fun a m1 b m2 e => dis a ((memf a).mpr (.inl m1)) ((memg a).mpr (.inl (e ▸ m2)))⟩
      · rcases List.mem_append.mp m with m | m
        · exact List.mem_append.mpr (.inl ((memf a).mpr (.inl m)))
        · exact List.mem_append.mpr (.inr (sub a ((memg a).mpr (.inl m))))
end
end Bk
/-! Bk: expressions. -/
namespace Bk
open L2 PyProof.Rows PySem.Spec PySem
abbrev XWt := Exc → Sl → Hp → Prop
/-- behind a value's coming -/
def After (K : PySem.W.Frag) (as : List V) (Z W : Pr) (H : Hp) (σ : Sl) (rs : List R) (r' : Env) (Q : List V → Hp → Prop) : Prop :=
  ∀ vs Z' H' fp' fq, EnvOk K as Z' (orL W fq) H' r' σ fp' → RepRs K Z' H' σ rs vs fq → fq.Nodup → (∀ a ∈ fq, ¬ W a) → Keep Z W H Z' H' → Q vs H'
def AfterX (K : PySem.W.Frag) (as : List V) (Z W : Pr) (H : Hp) (σ : Sl) (r' : Env) (Q : Hp → Prop) : Prop :=
  ∀ Z' H' fp', EnvOk K as Z' W H' r' σ fp' → Keep Z W H Z' H' → Q H'
def TAs (K : PySem.W.Frag) (as : List V) (XW : XWt) (f : Env → Out (List R × Env)) : TA := fun σ H Q => ∃ Z W r fp, EnvOk K as Z W H r σ fp ∧
  match f r with
  | .val (rs, r') => After K as Z W H σ rs r' Q
  | .exc x r' => AfterX K as Z W H σ r' (XW x σ)
  | .bad => False
def TE1 (K : PySem.W.Frag) (as : List V) (XW : XWt) (f : Env → Out (List R × Env)) : TE := fun σ H Q => ∃ Z W r fp, EnvOk K as Z W H r σ fp ∧
  match f r with
  | .val ([q], r') => After K as Z W H σ [q] r' fun vs H' => ∃ v, vs = [v] ∧ Q v H'
  | .val _ => False
  | .exc x r' => AfterX K as Z W H σ r' (XW x σ)
  | .bad => False
theorem PE.weak {X : Cx} {e : Expr} {t t' : TE} (h : PE X e t) (w : ∀ σ H Q, t' σ H Q → t σ H Q) : PE X e t' :=
  ⟨fun pins s σ H Q I q => h.run pins s σ H Q I (w σ H Q q)⟩
theorem PA.weak {X : Cx} {e : List Expr} {t t' : TA} (h : PA X e t) (w : ∀ σ H Q, t' σ H Q → t σ H Q) : PA X e t' :=
  ⟨fun pos pins s σ H Q I q => h.run pos pins s σ H Q I (w σ H Q q)⟩
theorem PT.weak {X : Cx} {e : Expr} {t t' : TT} (h : PT X e t) (w : ∀ σ H Q, t' σ H Q → t σ H Q) : PT X e t' :=
  ⟨fun pins s σ H Q I q => h.run pins s σ H Q I (w σ H Q q)⟩
section
variable {K : PySem.W.Frag} {as : List V} {XW : XWt} {cf : CF} {σ : Sl} {H : Hp}
theorem sing {v : V} {R : R} {Z fq vs} (h : RepRs K Z H σ [R] vs fq) : ∃ v, vs = [v] := by
  have := h.len
  match vs, this with
  | [v], _ => exact ⟨v, rfl⟩
theorem rep_cons {q : R} {rs : List R} {v : V} {vs : List V} {Z : Pr} {f g : List Addr} (h : RepRs K Z H σ [q] [v] f) (h2 : RepRs K Z H σ rs vs g) : RepRs K Z H σ (q :: rs) (v :: vs) (f ++ g) := by
  cases q with
  | vr i =>
    obtain ⟨v', ws, e, s, o⟩ := h
    cases e
    have e2 : f = [] := o.2
    subst e2
    exact ⟨v, vs, rfl, s, h2⟩
  | vl d l =>
    obtain ⟨v', ws, f', g', e, e2, o, os⟩ := h
    cases e
    have e3 : g' = [] := os.2
    subst e3
    rw [List.append_nil] at e2
    subst e2
    exact ⟨v, vs, f, g, rfl, rfl, o, h2⟩
theorem tas_nil {Q : List V → Hp → Prop} (h : TAs K as XW (ev cf .nil) σ H Q) : Q [] H := by
  obtain ⟨Z, W, r, fp, E, h⟩ := h
  simp only [ev] at h
  exact h [] Z H fp [] (E.less fun a w => w.elim id fun w => by simp at w) ⟨rfl, rfl⟩ List.nodup_nil (by simp) Keep.refl
theorem tas_cons {a t : E} {Q : List V → Hp → Prop} (h : TAs K as XW (ev cf (.cons a t)) σ H Q) :
    TE1 K as XW (ev cf a) σ H fun x H1 => TAs K as XW (ev cf t) σ H1 fun vs H2 => Q (x :: vs) H2 := by
  obtain ⟨Z, W, r, fp, E, h⟩ := h
  refine ⟨Z, W, r, fp, E, ?_⟩
  simp only [ev] at h
  cases e1 : ev cf a r with
  | bad => rw [e1] at h; exact h
  | exc x r1 => rw [e1] at h; exact h
  | val y =>
    obtain ⟨rs, r1⟩ := y
    rw [e1] at h
    simp only [Out.bind_val] at h
    match rs, h with
    | [q], h =>
      simp only at h
      intro vs Z1 H1 fp1 fq1 E1 R1 nd1 nw1 k1
      obtain ⟨v, rfl⟩ := sing (v := .non) R1
      refine ⟨v, rfl, Z1, orL W fq1, r1, fp1, E1, ?_⟩
      cases e2 : ev cf t r1 with
      | bad => rw [e2] at h; exact h
      | exc x r2 =>
        rw [e2] at h
        intro Z2 H2 fp2 E2 k2
        exact h Z2 H2 fp2 (E2.less fun a w => .inl w) (k1.trans (k2.less fun a w => .inl w))
      | val y =>
        obtain ⟨rs2, r2⟩ := y
        rw [e2] at h
        intro vs Z2 H2 fp2 fq2 E2 R2 nd2 nw2 k2
        refine h (v :: vs) Z2 H2 fp2 (fq1 ++ fq2) (E2.less fun a w => ?_) (rep_cons (R1.keep k2 fun a m => .inr m) R2) ?_ (fun a m w => ?_) (k1.trans (k2.less fun a w => .inl w))
        · rcases w with w | w
          · exact .inl (.inl w)
          · rcases List.mem_append.mp w with w | w
            · exact .inl (.inr w)
            · exact .inr w
        · exact List.nodup_append.mpr ⟨nd1, nd2, fun a m1 b m2 e => nw2 b m2 (.inr (e ▸ m1))⟩
        · rcases List.mem_append.mp m with m | m
          · exact nw1 a m w
          · exact nw2 a m (.inl w)
    | [], h => exact h.elim
    | _ :: _ :: _, h => exact h.elim
/-- what is wanted of an op's value -/
def Cont (K : PySem.W.Frag) (as : List V) (Z W : Pr) (H : Hp) (r : Env) (σ : Sl) (d : D) (l : Nat) (Q : VK) : Prop :=
  ∀ v Z' H' fp' fq, EnvOk K as Z' (orL W fq) H' r σ fp' → Own K Z' H' d l v fq → fq.Nodup → (∀ a ∈ fq, ¬ W a) → Keep Z W H Z' H' → Q v H'
def OpK (K : PySem.W.Frag) (as : List V) (σ : Sl) (keep : Bool) (g : List D → Option (D × Nat)) (vs : List V) (H : Hp) (Q : VK) : Prop :=
  ∃ Z W r fp ds d l, EnvOk K as Z W H r σ fp ∧ All2 (fun d v => Rv K H d v ∧ (keep = false → Bd K Z H d v)) ds vs ∧ g ds = some (d, l) ∧ Cont K as Z W H r σ d l Q
def opG (o : Op) : List D → Option (D × Nat) := fun ds => (opD o ds).map fun d => (d, lvOf o d)
theorem After.cont {Z W : Pr} {r : Env} {d : D} {l : Nat} {Q : VK} (h : After K as Z W H σ [.vl d l] r fun vs H' => ∃ v, vs = [v] ∧ Q v H') : Cont K as Z W H r σ d l Q := by
  intro v Z' H' fp' fq E' o nd nw k
  obtain ⟨v', e, q⟩ := h [v] Z' H' fp' fq E' ⟨v, [], fq, [], rfl, by simp, o, rfl, rfl⟩ nd nw k
  cases e; exact q
theorem op_args {o : Op} {a : E} {Q : VK} (h : TE1 K as XW (ev cf (.op o a)) σ H Q) : TAs K as XW (ev cf a) σ H fun vs H1 => OpK K as σ (keepO o) (opG o) vs H1 Q := by
  obtain ⟨Z, W, r, fp, E, h⟩ := h
  refine ⟨Z, W, r, fp, E, ?_⟩
  simp only [ev] at h
  cases e1 : ev cf a r with
  | bad => rw [e1] at h; exact h
  | exc x r1 => rw [e1] at h; exact h
  | val y =>
    obtain ⟨rs, r1⟩ := y
    rw [e1] at h
    intro vs Z1 H1 fp1 fq1 E1 R1 nd1 nw1 k1
    simp only [Out.bind_val] at h
    cases e2 : bor (keepO o) rs r1 with
    | none => rw [e2] at h; exact h.elim
    | some y =>
      obtain ⟨ds, r2⟩ := y
      rw [e2] at h
      simp only [Out.of_some, Out.bind_val] at h
      cases e3 : opD o ds with
      | none => rw [e3] at h; exact h.elim
      | some d =>
        rw [e3] at h
        simp only [Out.of_some, Out.bind_val] at h
        obtain ⟨Z2, fp2, E2, hz, al⟩ := bor_ok E1 R1 nd1 nw1 e2
        refine ⟨Z2, W, r2, fp2, ds, d, lvOf o d, E2, al, by simp [opG, e3], ?_⟩
        have hc := After.cont h
        intro v Z' H' fp' fq E' o' nd nw k
        exact hc v Z' H' fp' fq E' o' nd nw (k1.trans ((keepZ hz).trans k))
theorem op1 {o : Op} {a : E} {Q : VK} (h : TE1 K as XW (ev cf (.op o (.cons a .nil))) σ H Q) : TE1 K as XW (ev cf a) σ H fun x H1 => OpK K as σ (keepO o) (opG o) [x] H1 Q := by
  have h2 := tas_cons (op_args h)
  obtain ⟨Z, W, r, fp, E, h2⟩ := h2
  refine ⟨Z, W, r, fp, E, ?_⟩
  cases e1 : ev cf a r with
  | bad => rw [e1] at h2; exact h2
  | exc x r1 => rw [e1] at h2; exact h2
  | val y =>
    obtain ⟨rs, r1⟩ := y
    rw [e1] at h2
    match rs, h2 with
    | [q], h2 =>
      intro vs Z1 H1 fp1 fq1 E1 R1 nd1 nw1 k1
      obtain ⟨v, e, q⟩ := h2 vs Z1 H1 fp1 fq1 E1 R1 nd1 nw1 k1
      exact ⟨v, e, tas_nil q⟩
    | [], h => exact h.elim
    | _ :: _ :: _, h => exact h.elim
theorem TE1.imp {f : Env → Out (List R × Env)} {Q Q' : VK} (h : TE1 K as XW f σ H Q) (w : ∀ v H, Q v H → Q' v H) : TE1 K as XW f σ H Q' := by
  obtain ⟨Z, W, r, fp, E, h2⟩ := h
  refine ⟨Z, W, r, fp, E, ?_⟩
  cases e1 : f r with
  | bad => rw [e1] at h2; exact h2
  | exc x r1 => rw [e1] at h2; exact h2
  | val y =>
    obtain ⟨rs, r1⟩ := y
    rw [e1] at h2
    match rs, h2 with
    | [q], h2 =>
      intro vs Z1 H1 fp1 fq1 E1 R1 nd1 nw1 k1
      obtain ⟨v, e, q⟩ := h2 vs Z1 H1 fp1 fq1 E1 R1 nd1 nw1 k1
      exact ⟨v, e, w v H1 q⟩
    | [], h => exact h.elim
    | _ :: _ :: _, h => exact h.elim
theorem op2 {o : Op} {a b : E} {Q : VK} (h : TE1 K as XW (ev cf (.op o (.cons a (.cons b .nil)))) σ H Q) :
    TE1 K as XW (ev cf a) σ H fun x H1 => TE1 K as XW (ev cf b) σ H1 fun y H2 => OpK K as σ (keepO o) (opG o) [x, y] H2 Q :=
  (tas_cons (op_args h)).imp fun v H1 q => (tas_cons q).imp fun v2 H2 q2 => tas_nil q2
/-! ### ends -/
variable {Z W : Pr} {r : Env} {fp : Nat → List Addr} {Q : VK}
theorem Cont.here {d : D} {l : Nat} {v : V} (c : Cont K as Z W H r σ d l Q) (E : EnvOk K as Z W H r σ fp) (o : Own K Z H d l v []) : Q v H :=
  c v Z H fp [] (E.less fun a w => w.elim id fun w => by simp at w) o List.nodup_nil (by simp) Keep.refl
theorem Cont.lst {ds : List D} {vs : List V} {p : Addr} (c : Cont K as Z W H r σ (.lst ds) 1 Q) (E : EnvOk K as Z W H r σ fp) (hn : H p = none) (o : OwnL K Z H ds 0 vs []) : Q (.ref p) (upd H p (.lst vs)) := by
  refine c (.ref p) Z _ fp [p] (E.new hn) ?_ (by simp) (fun a m w => ?_) (keep_new hn)
  · rw [Own]
    exact ⟨p, vs, [], rfl, upd_same, rfl, o.keep (W := fun _ => False) (keep_new hn) (by simp)⟩
  · simp only [List.mem_singleton] at m
    subst m
    exact E.lw a w hn
theorem Cont.tup {ds : List D} {vs : List V} {l : Nat} {p : Addr} (c : Cont K as Z W H r σ (.tup ds) l Q) (E : EnvOk K as Z W H r σ fp) (hn : H p = none) (o : OwnL K Z H ds 0 vs []) : Q (.ref p) (upd H p (.tup vs)) := by
  have E1 := (E.new (o := .tup vs) hn).frz fun a m w => by
    simp only [List.mem_singleton] at m
    subst m
    exact E.lw a w hn
  refine c (.ref p) (orL Z [p]) _ fp [] (E1.less fun a w => w.elim id fun w => by simp at w) ?_ List.nodup_nil (by simp) ((keep_new hn).trans keep_more)
  rw [Own]
  refine ⟨rfl, p, vs, rfl, .inl ⟨.inr (by simp), .inl upd_same⟩, ?_⟩
  exact o.keep (W := fun _ => False) ((keep_new hn).trans keep_more) (by simp)
end
end Bk
/-! Bk: operators. -/
namespace Bk
open L2 PyProof.Rows PySem.Spec PySem
theorem all2_1 {α β : Type} {P : α → β → Prop} {ds : List α} {x : β} (h : All2 P ds [x]) : ∃ d, ds = [d] ∧ P d x := by
  match ds, h with
  | [d], ⟨z, zs, e, p, r⟩ => cases e; exact ⟨d, rfl, p⟩
  | [], h => cases h
  | _ :: _ :: _, ⟨z, zs, e, p, z2, zs2, e2, _⟩ => cases e; cases e2
theorem all2_2 {α β : Type} {P : α → β → Prop} {ds : List α} {x y : β} (h : All2 P ds [x, y]) : ∃ d e, ds = [d, e] ∧ P d x ∧ P e y := by
  match ds, h with
  | d :: ds, ⟨z, zs, e, p, r⟩ =>
    cases e
    obtain ⟨e2, rfl, q⟩ := all2_1 r
    exact ⟨d, e2, rfl, p, q⟩
  | [], h => cases h
section
variable {K : PySem.W.Frag} {as : List V} {XW : XWt} {cf : CF} {σ : Sl} {H : Hp} {Q : VK} {x y : V} {Z W : Pr} {r : Env} {fp : Nat → List Addr}
theorem own_int {i : Int} {n : Nat} : Own K Z H (.int i) n (.int i) [] := by rw [Own]; exact ⟨rfl, rfl⟩
theorem own_bl {i : Bool} {n : Nat} : Own K Z H (.bl i) n (.bl i) [] := by rw [Own]; exact ⟨rfl, rfl⟩
theorem own_str {i : Str} {n : Nat} : Own K Z H (.str i) n (.str i) [] := by rw [Own]; exact ⟨rfl, rfl⟩
theorem own_non {n : Nat} : Own K Z H .non n .non [] := by rw [Own]; exact ⟨rfl, rfl⟩
theorem rv_int {i : Int} (h : Rv K H (.int i) x) : x = .int i := by rw [Rv] at h; exact h
theorem rv_bl {i : Bool} (h : Rv K H (.bl i) x) : x = .bl i := by rw [Rv] at h; exact h
theorem rv_str {i : Str} (h : Rv K H (.str i) x) : x = .str i := by rw [Rv] at h; exact h
theorem rv_non (h : Rv K H .non x) : x = .non := by rw [Rv] at h; exact h
theorem Cont.int {i : Int} {l : Nat} (c : Cont K as Z W H r σ (.int i) l Q) (E : EnvOk K as Z W H r σ fp) : Q (.int i) H := c.here E own_int
theorem Cont.bl {i : Bool} {l : Nat} (c : Cont K as Z W H r σ (.bl i) l Q) (E : EnvOk K as Z W H r σ fp) : Q (.bl i) H := c.here E own_bl
theorem Cont.str {i : Str} {l : Nat} (c : Cont K as Z W H r σ (.str i) l Q) (E : EnvOk K as Z W H r σ fp) : Q (.str i) H := c.here E own_str
theorem OwnL.app {Z : Pr} {H : Hp} {n : Nat} : ∀ {ds es : List D} {vs ws : List V}, OwnL K Z H ds n vs [] → OwnL K Z H es n ws [] → OwnL K Z H (ds ++ es) n (vs ++ ws) []
  | [], es, vs, ws, h, h2 => by rw [OwnL] at h; rw [h.1]; exact h2
  | d :: ds, es, vs, ws, h, h2 => by
    rw [OwnL] at h
    obtain ⟨v, us, f, g, rfl, e, o, os⟩ := h
    obtain ⟨rfl, rfl⟩ := List.append_eq_nil_iff.mp e.symm
    rw [List.cons_append, OwnL]
    exact ⟨v, us ++ ws, [], [], rfl, rfl, o, OwnL.app os h2⟩
theorem OwnL.len {Z : Pr} {H : Hp} {n : Nat} : ∀ {ds : List D} {vs : List V} {f : List Addr}, OwnL K Z H ds n vs f → vs.length = ds.length
  | [], vs, f, h => by rw [OwnL] at h; rw [h.1]; rfl
  | d :: ds, vs, f, h => by
    rw [OwnL] at h
    obtain ⟨v, us, f, g, rfl, e, o, os⟩ := h
    rw [List.length_cons, List.length_cons, OwnL.len os]
theorem RvL.len : ∀ {ds : List D} {vs : List V}, RvL K H ds vs → vs.length = ds.length
  | [], vs, h => by rw [RvL] at h; rw [h]; rfl
  | d :: ds, vs, h => by
    rw [RvL] at h
    obtain ⟨v, us, rfl, o, os⟩ := h
    rw [List.length_cons, List.length_cons, RvL.len os]
theorem OwnL.rep {Z : Pr} {H : Hp} {n : Nat} {ds : List D} {vs : List V} (h : OwnL K Z H ds n vs []) : ∀ k : Nat, OwnL K Z H (List.replicate k ds).flatten n (List.replicate k vs).flatten []
  | 0 => by rw [List.replicate_zero, List.replicate_zero, List.flatten_nil, List.flatten_nil, OwnL]; exact ⟨rfl, rfl⟩
  | k + 1 => by
    simp only [List.replicate_succ, List.flatten_cons]
    exact h.app (OwnL.rep h k)
theorem bd_lst {ds : List D} (h : Bd K Z H (.lst ds) x) : ∃ a vs, x = .ref a ∧ H a = some (.lst vs) ∧ OwnL K Z H ds 0 vs [] := h
theorem bd_tup {ds : List D} (h : Bd K Z H (.tup ds) x) : ∃ a vs, x = .ref a ∧ FzT K Z H a vs ∧ OwnL K Z H ds 0 vs [] := by
  have h : Own K Z H (.tup ds) 0 x [] := h
  rw [Own] at h
  exact h.2
theorem bd_own {d : D} (h : Bd K Z H d x) (hd : ∀ ds, d ≠ .lst ds) : Own K Z H d 0 x [] := by
  cases d with
  | lst ds => exact absurd rfl (hd ds)
  | _ => exact h
theorem sz_le {n : Nat} (h : sz n = true) : n ≤ sizeLine := by
  have : n ≤ 16777216 := of_decide_eq_true h
  rw [sizeLine_eq]; exact this
theorem opG_some {o : Op} {ds : List D} {d : D} {l : Nat} (h : opG o ds = some (d, l)) : opD o ds = some d ∧ l = lvOf o d := by
  unfold opG at h
  cases e : opD o ds with
  | none => rw [e] at h; cases h
  | some z => rw [e] at h; simp only [Option.map_some, Option.some.injEq, Prod.mk.injEq] at h; exact ⟨by rw [h.1], by rw [← h.2, h.1]⟩
abbrev rAddA (K : PySem.W.Frag) : R2 := fun x y H Q => rI0 (fun i j => .int (i + j)) x y H Q ∨ (∃ i j, x = .str i ∧ y = .str j ∧ i.length + j.length ≤ sizeLine ∧ Q (.str (i ++ j)) H) ∨ rCat x y H Q ∨ rCatA K x y H Q
theorem rd_add (h : OpK K as σ false (opG .add) [x, y] H Q) : rAddA K x y H Q := by
  obtain ⟨Z, W, r, fp, ds, d, l, E, al, hg, c⟩ := h
  obtain ⟨d1, d2, rfl, ⟨r1, b1⟩, r2, b2⟩ := all2_2 al
  obtain ⟨ho1, rfl⟩ := opG_some hg
  replace hg : addD [d1, d2] = some d := ho1
  unfold addD at hg
  split at hg
  · rename_i i j e
    cases e; cases hg
    exact .inl ⟨_, _, rv_int r1, rv_int r2, c.int E⟩
  · rename_i i j e
    cases e
    split at hg
    · rename_i hs; cases hg
      exact .inr (.inl ⟨_, _, rv_str r1, rv_str r2, sz_le hs, c.str E⟩)
    · cases hg
  · rename_i i j e
    cases e
    split at hg
    · rename_i hs; cases hg
      obtain ⟨a, vs, e1, h1, o1⟩ := bd_lst (b1 rfl)
      obtain ⟨b, ws, e2, h2, o2⟩ := bd_lst (b2 rfl)
      refine .inr (.inr (.inl ⟨a, b, vs, ws, e1, e2, h1, h2, ?_, fun p hn => c.lst E hn (o1.app o2)⟩))
      rw [o1.len, o2.len]; exact sz_le hs
    · cases hg
  · rename_i i j e
    cases e
    split at hg
    · rename_i hs; cases hg
      obtain ⟨a, vs, e1, h1, o1⟩ := bd_tup (b1 rfl)
      obtain ⟨b, ws, e2, h2, o2⟩ := bd_tup (b2 rfl)
      refine .inr (.inr (.inr ⟨a, b, vs, ws, e1, e2, h1.sq, h2.sq, ?_, fun hn => ?_, fun _ hn => ?_, fun _ _ p hn => c.tup E hn (o1.app o2)⟩))
      · rw [o1.len, o2.len]; exact sz_le hs
      · subst hn
        have := o1.len
        have e3 : i = [] := List.eq_nil_of_length_eq_zero this.symm
        subst e3
        refine c.here E ?_
        rw [List.nil_append, ← e2]
        exact bd_own (b2 rfl) (fun ds z => by cases z) 
      · subst hn
        have := o2.len
        have e3 : j = [] := List.eq_nil_of_length_eq_zero this.symm
        subst e3
        refine c.here E ?_
        rw [List.append_nil, ← e1]
        exact bd_own (b1 rfl) (fun ds z => by cases z)
    · cases hg
  · cases hg
theorem small_mul {i j : Int} (h : (small i || small j) = true) : CMul i j := by
  unfold small at h
  simp only [Bool.or_eq_true, Bool.and_eq_true, decide_eq_true_eq] at h
  rcases h with h | h
  · exact .inl ⟨by omega, by omega⟩
  · exact .inr ⟨by omega, by omega⟩
/-- two ints in, a value out -/
theorem rd_II {o : Op} {g : Int → Int → D} {C : Int → Int → Prop} {u : Int → Int → V} (h : OpK K as σ (keepO o) (opG o) [x, y] H Q)
    (hd : ∀ d1 d2 d, opD o [d1, d2] = some d → ∃ i j, d1 = .int i ∧ d2 = .int j ∧ C i j ∧ d = g i j) (ho : ∀ {Z H i j n}, Own K Z H (g i j) n (u i j) []) : rI C u x y H Q := by
  obtain ⟨Z, W, r, fp, ds, d, l, E, al, hg, c⟩ := h
  obtain ⟨d1, d2, rfl, ⟨r1, b1⟩, r2, b2⟩ := all2_2 al
  obtain ⟨ho1, rfl⟩ := opG_some hg
  obtain ⟨i, j, rfl, rfl, hc, rfl⟩ := hd _ _ _ ho1
  exact ⟨i, j, rv_int r1, rv_int r2, hc, c.here E ho⟩
theorem rd_II0 {o : Op} {g : Int → Int → D} {u : Int → Int → V} (h : OpK K as σ (keepO o) (opG o) [x, y] H Q)
    (hd : ∀ d1 d2 d, opD o [d1, d2] = some d → ∃ i j, d1 = .int i ∧ d2 = .int j ∧ d = g i j) (ho : ∀ {Z H i j n}, Own K Z H (g i j) n (u i j) []) : rI0 u x y H Q := by
  obtain ⟨i, j, a, b, _, q⟩ := rd_II (C := fun _ _ => True) (g := g) (u := u) h (fun d1 d2 d e => let ⟨i, j, a, b, c⟩ := hd d1 d2 d e; ⟨i, j, a, b, trivial, c⟩) ho
  exact ⟨i, j, a, b, q⟩
theorem rd_sub (h : OpK K as σ true (opG .sub) [x, y] H Q) : rI0 (fun i j => .int (i - j)) x y H Q :=
  rd_II0 (o := .sub) (g := fun i j => .int (i - j)) h (fun d1 d2 d e => by
    replace e : subD [d1, d2] = some d := e
    unfold subD at e
    split at e
    · rename_i z; cases z; cases e; exact ⟨_, _, rfl, rfl, rfl⟩
    · cases e) own_int
theorem rd_fdiv (h : OpK K as σ true (opG .fdiv) [x, y] H Q) : rI CDiv (fun i j => .int (i / j)) x y H Q :=
  rd_II (o := .fdiv) (g := fun i j => .int (i / j)) h (fun d1 d2 d e => by
    replace e : fdivD [d1, d2] = some d := e
    unfold fdivD at e
    split at e
    · rename_i z; cases z
      split at e
      · rename_i hc
        cases e
        simp only [decide_eq_true_eq, Bool.and_eq_true] at hc
        exact ⟨_, _, rfl, rfl, hc, rfl⟩
      · cases e
    · cases e) own_int
theorem rd_mod (h : OpK K as σ true (opG .mod) [x, y] H Q) : rI (fun _ j => 0 < j) (fun i j => .int (i % j)) x y H Q :=
  rd_II (o := .mod) (g := fun i j => .int (i % j)) h (fun d1 d2 d e => by
    replace e : modD [d1, d2] = some d := e
    unfold modD at e
    split at e
    · rename_i z; cases z
      split at e
      · rename_i hc
        cases e
        exact ⟨_, _, rfl, rfl, of_decide_eq_true hc, rfl⟩
      · cases e
    · cases e) own_int
theorem cpow_of {i j : Int} (hc : (decide (0 ≤ j) && decide (j ≤ 1000000) && small i) = true) : CPow i j := by
  unfold small at hc
  simp only [decide_eq_true_eq, Bool.and_eq_true] at hc
  exact ⟨hc.1.1, hc.1.2, by omega⟩
theorem rd_pow (h : OpK K as σ true (opG .pow) [x, y] H Q) : rI CPow (fun i j => .int (i ^ j.toNat)) x y H Q :=
  rd_II (o := .pow) (g := fun i j => .int (i ^ j.toNat)) h (fun d1 d2 d e => by
    replace e : powD [d1, d2] = some d := e
    unfold powD at e
    split at e
    · rename_i z; cases z
      split at e
      · rename_i hc
        cases e
        exact ⟨_, _, rfl, rfl, cpow_of hc, rfl⟩
      · cases e
    · cases e) own_int
theorem rd_shl (h : OpK K as σ true (opG .shl) [x, y] H Q) : rI CPow (fun i j => .int (i * 2 ^ j.toNat)) x y H Q :=
  rd_II (o := .shl) (g := fun i j => .int (i * 2 ^ j.toNat)) h (fun d1 d2 d e => by
    replace e : shlD [d1, d2] = some d := e
    unfold shlD at e
    split at e
    · rename_i z; cases z
      split at e
      · rename_i hc
        cases e
        exact ⟨_, _, rfl, rfl, cpow_of hc, rfl⟩
      · cases e
    · cases e) own_int
theorem rd_shr (h : OpK K as σ true (opG .shr) [x, y] H Q) : rI (fun _ j => 0 ≤ j) (fun i j => .int (i / 2 ^ j.toNat)) x y H Q :=
  rd_II (o := .shr) (g := fun i j => .int (i / 2 ^ j.toNat)) h (fun d1 d2 d e => by
    replace e : shrD [d1, d2] = some d := e
    unfold shrD at e
    split at e
    · rename_i z; cases z
      split at e
      · rename_i hc
        cases e
        exact ⟨_, _, rfl, rfl, of_decide_eq_true hc, rfl⟩
      · cases e
    · cases e) own_int
theorem rd_band (h : OpK K as σ true (opG .band) [x, y] H Q) : rI0 (fun i j => .int (Builtin.bitAnd i j)) x y H Q :=
  rd_II0 (o := .band) (g := fun i j => .int (Builtin.bitAnd i j)) h (fun d1 d2 d e => by
    replace e : bandD [d1, d2] = some d := e
    unfold bandD at e
    split at e
    · rename_i z; cases z; cases e; exact ⟨_, _, rfl, rfl, rfl⟩
    · cases e) own_int
theorem rd_cmp {o : Op} {f : Int → Int → Bool} (ho : opD o = cmpD f) (h : OpK K as σ (keepO o) (opG o) [x, y] H Q) : rI0 (fun i j => .bl (f i j)) x y H Q :=
  rd_II0 (o := o) (g := fun i j => .bl (f i j)) h (fun d1 d2 d e => by
    rw [ho] at e
    unfold cmpD at e
    split at e
    · rename_i z; cases z; cases e; exact ⟨_, _, rfl, rfl, rfl⟩
    · cases e) own_bl
/-! ### values that read as data -/
/-- the plain value of a datum that lies nowhere -/
def atomV : D → Option V
  | .non => some .non
  | .bl b => some (.bl b)
  | .int i => some (.int i)
  | .str s => some (.str s)
  | _ => none
theorem atom_own {d : D} {v : V} {n : Nat} (h : atomV d = some v) : Own K Z H d n v [] := by
  cases d with
  | non => cases h; exact own_non
  | bl _ => cases h; exact own_bl
  | int _ => cases h; exact own_int
  | str _ => cases h; exact own_str
  | _ => cases h
/-- an op whose value lies nowhere, by what its operands read as -/
def rAn (K : PySem.W.Frag) (f : List D → Option D) : List V → Hp → VK → Prop := fun vs H Q => ∃ ds e v, All2 (fun d v => Rv K H d v) ds vs ∧ f ds = some e ∧ atomV e = some v ∧ Q v H
abbrev rA2 (K : PySem.W.Frag) (f : List D → Option D) : R2 := fun x y H Q => rAn K f [x, y] H Q
theorem rd_atom {o : Op} {k : Bool} {vs : List V} (h : OpK K as σ k (opG o) vs H Q) (ha : ∀ ds e, opD o ds = some e → (atomV e).isSome = true) : rAn K (opD o) vs H Q := by
  obtain ⟨Z, W, r, fp, ds, d, l, E, al, hg, c⟩ := h
  obtain ⟨ho, rfl⟩ := opG_some hg
  obtain ⟨v, hv⟩ := Option.isSome_iff_exists.mp (ha _ _ ho)
  exact ⟨ds, d, v, al.imp fun _ _ x => x.1, ho, hv, c.here E (atom_own hv)⟩
end
section
variable {X : Cx} {pins : List (Addr × Obj)} {σ : Sl} {H : Hp} {s : Shared}
theorem ints_reads {h : Heap} : ∀ {ns : List Int} {us : List Value}, Vals (ns.map V.int) us → ReadsAll h us (ns.map PyData.int) []
  | [], _, .nil => .nil
  | n :: ns, _, .cons ⟨t, e⟩ r => by
    subst e
    exact ReadsAll.cons (as := []) (bs := []) (.int n t) (ints_reads r)
mutual
theorem Rv.reads (I : Inv X pins σ H s) : ∀ {d : D} {v : V} {u : Value}, Rv X.K H d v → RelV v u → ∃ as, Reads s.heap u (toPy d) as
  | .non, v, u, h, r => by rw [Rv] at h; subst h; cases r; exact ⟨_, .none⟩
  | .bl b, v, u, h, r => by rw [Rv] at h; subst h; cases r; exact ⟨_, .bool b⟩
  | .int i, v, u, h, r => by rw [Rv] at h; subst h; obtain ⟨t, rfl⟩ := r; exact ⟨_, .int i t⟩
  | .str x, v, u, h, r => by rw [Rv] at h; subst h; obtain ⟨t, rfl⟩ := r; exact ⟨_, .str x t⟩
  | .tup ds, v, u, h, r => by
    rw [Rv] at h
    obtain ⟨a, vs, rfl, sq, al⟩ := h
    cases r
    obtain ⟨its, rv, ⟨o, h1, h2, n, h3⟩, _⟩ := I.tuple sq
    obtain ⟨as, ra⟩ := RvL.reads I al rv
    exact ⟨as, .tuple h1 h2 h3 (by simpa using ra)⟩
  | .lst ds, v, u, h, r => by
    rw [Rv] at h
    obtain ⟨a, vs, rfl, sq, al⟩ := h
    cases r
    obtain ⟨its, rv, ⟨o, n, h1, h2, _, h3⟩, _⟩ := I.list (SqL.of sq)
    obtain ⟨as, ra⟩ := RvL.reads I al rv
    exact ⟨_, .list h1 h2 h3 (by simpa using ra)⟩
  | .scr ns, v, u, h, r => by
    rw [Rv] at h
    obtain ⟨a, rfl, rd⟩ := h
    cases r
    obtain ⟨its, rv, ⟨o, n, h1, h2, _, h3⟩, _⟩ := I.list rd
    exact ⟨_, .list h1 h2 h3 (by simpa using ints_reads rv)⟩
  | .dct _ _, v, u, h, r => by rw [Rv] at h; exact h.elim
  | .set _, v, u, h, r => by rw [Rv] at h; exact h.elim
  | .ins _ _, v, u, h, r => by rw [Rv] at h; exact h.elim
theorem RvL.reads (I : Inv X pins σ H s) : ∀ {ds : List D} {vs : List V} {us : List Value}, RvL X.K H ds vs → Vals vs us → ∃ as, ReadsAll s.heap us (toPys ds) as
  | [], vs, us, h, r => by
    rw [RvL] at h; subst h; cases r
    exact ⟨_, .nil⟩
  | d :: ds, vs, us, h, r => by
    rw [RvL] at h
    obtain ⟨v, ws, rfl, h1, h2⟩ := h
    cases r with
    | cons r1 r2 =>
      obtain ⟨as, q1⟩ := Rv.reads I h1 r1
      obtain ⟨bs, q2⟩ := RvL.reads I h2 r2
      exact ⟨_, .cons q1 q2⟩
end
theorem pl_plain {d : D} (h : pl d = true) : (toPy d).plain = true ∧ (toPy d).depth ≤ 64 := by
  unfold pl at h
  simp only [decide_eq_true_eq, Bool.and_eq_true] at h
  exact h
theorem vals2 {x y : V} {us : List Value} (r : Vals [x, y] us) : ∃ u w, us = [u, w] ∧ RelV x u ∧ RelV y w := by
  cases r with
  | cons a r => cases r with
    | cons b r => cases r; exact ⟨_, _, rfl, a, b⟩
theorem vals1 {us : List Value} {x : V} (r : Vals [x] us) : ∃ u, us = [u] ∧ RelV x u := by
  cases r with
  | cons a r => cases r; exact ⟨_, rfl, a⟩
theorem eqv_scal : ∀ (a b : D), ∀ {p}, eqO a b = some p → p = eqv a b := by
  intro a b p h
  unfold eqO at h
  split at h
  · cases h; rfl
  · cases h; rfl
  · cases h; rfl
  · split at h
    · cases h; rfl
    · cases h
theorem eqO_pl {a b : D} {p : Bool} (h : eqO a b = some p) : (pl a = true ∧ pl b = true) ∧ p = eqv a b := by
  refine ⟨?_, eqv_scal a b h⟩
  unfold eqO at h
  split at h
  · exact ⟨rfl, rfl⟩
  · exact ⟨rfl, rfl⟩
  · exact ⟨rfl, rfl⟩
  · split at h
    · rename_i hc; simp only [Bool.and_eq_true] at hc; exact hc
    · cases h
theorem or_eq {k : Nat} (hr : Room k X.A) : OpR X (compareOp .Eq) (rA2 X.K eqD2) := by
  intro pins s σ H x y v u Q I rx ry ⟨ds, e, w, al, hf, hv, q⟩
  obtain ⟨d1, d2, rfl, r1, r2⟩ := all2_2 al
  replace hf : (eqO d1 d2).map D.bl = some e := hf
  cases e1 : eqO d1 d2 with
  | none => rw [e1] at hf; cases hf
  | some p =>
    rw [e1] at hf
    cases hf; cases hv
    obtain ⟨⟨p1, p2⟩, rfl⟩ := eqO_pl e1
    obtain ⟨as, q1⟩ := r1.reads I rx
    obtain ⟨bs, q2⟩ := r2.reads I ry
    have := hr.units
    exact SeqAt.eq_plain q1 q2 (pl_plain p1).1 (pl_plain p2).1 (by have := (pl_plain p1).2; omega) (fin_bl I q rfl)
theorem or_ne {k : Nat} (hr : Room k X.A) : OpR X (compareOp .NotEq) (rA2 X.K neD2) := by
  intro pins s σ H x y v u Q I rx ry ⟨ds, e, w, al, hf, hv, q⟩
  obtain ⟨d1, d2, rfl, r1, r2⟩ := all2_2 al
  replace hf : ((eqO d1 d2).map fun b => D.bl !b) = some e := hf
  cases e1 : eqO d1 d2 with
  | none => rw [e1] at hf; cases hf
  | some p =>
    rw [e1] at hf
    cases hf; cases hv
    obtain ⟨⟨p1, p2⟩, rfl⟩ := eqO_pl e1
    obtain ⟨as, q1⟩ := r1.reads I rx
    obtain ⟨bs, q2⟩ := r2.reads I ry
    have := hr.units
    exact SeqAt.ne_plain q1 q2 (pl_plain p1).1 (pl_plain p2).1 (by have := (pl_plain p1).2; omega) (fin_bl I q rfl)
theorem toPys_any (f : PyData → Bool) : ∀ l : List D, (toPys l).any f = l.any fun y => f (toPy y)
  | [] => rfl
  | d :: r => by rw [toPys, List.any_cons, List.any_cons, toPys_any f r]
theorem un0_of {k : Nat} {A : Around} (r : Room k A) : A.units + 200 < cLine := by have := r.un; omega
theorem or_in {k : Nat} (hr : Room k X.A) : OpR X (compareOp .In) (rA2 X.K isinD) := by
  intro pins s σ H x y v u Q I rx ry ⟨ds, e, w, al, hf, hv, q⟩
  obtain ⟨d1, d2, rfl, r1, r2⟩ := all2_2 al
  unfold isinD at hf
  cases e1 : inD [d1, d2] with
  | none => rw [e1] at hf; cases hf
  | some p =>
    rw [e1] at hf
    cases hf; cases hv
    have hu := un0_of hr
    obtain ⟨as, q1⟩ := r1.reads I rx
    obtain ⟨bs, q2⟩ := r2.reads I ry
    unfold inD at e1
    split at e1
    · rename_i l e2
      cases e2
      unfold hasD at e1
      split at e1
      · rename_i hc
        simp only [Bool.and_eq_true] at hc
        cases e1
        rw [toPy] at q2
        refine SeqAt.in_list_data q2 q1 hc.2 (pl_plain hc.1).1 (by have := (pl_plain hc.1).2; omega) (fin_bl I q ?_)
        rw [toPys_any]; rfl
      · cases e1
    · rename_i l e2
      cases e2
      unfold hasD at e1
      split at e1
      · rename_i hc
        simp only [Bool.and_eq_true] at hc
        cases e1
        rw [toPy] at q2
        refine SeqAt.in_tuple_data q2 q1 hc.2 (pl_plain hc.1).1 (by have := (pl_plain hc.1).2; omega) (fin_bl I q ?_)
        rw [toPys_any]; rfl
      · cases e1
    · rename_i a z e2
      cases e2
      split at e1
      · rename_i c hc
        cases e1
        have e3 : a = ⟨#[c]⟩ := by
          cases a with
          | mk cps =>
            have : cps = #[c] := by
              apply Array.toList_inj.mp
              exact hc
            rw [this]
        subst e3
        exact op_in_sign pins s σ H x y v u Q I rx ry ⟨c, z, rv_str r1, rv_str r2, q⟩
      · cases e1
    · cases e1
theorem or_notin {k : Nat} (hr : Room k X.A) : OpR X (compareOp .NotIn) (rA2 X.K notinD) := by
  intro pins s σ H x y v u Q I rx ry ⟨ds, e, w, al, hf, hv, q⟩
  obtain ⟨d1, d2, rfl, r1, r2⟩ := all2_2 al
  unfold notinD at hf
  cases e1 : inD [d1, d2] with
  | none => rw [e1] at hf; cases hf
  | some p =>
    rw [e1] at hf
    cases hf; cases hv
    have hu := un0_of hr
    obtain ⟨as, q1⟩ := r1.reads I rx
    obtain ⟨bs, q2⟩ := r2.reads I ry
    unfold inD at e1
    split at e1
    · rename_i l e2
      cases e2
      unfold hasD at e1
      split at e1
      · rename_i hc
        simp only [Bool.and_eq_true] at hc
        cases e1
        rw [toPy] at q2
        refine SeqAt.notIn_list_data q2 q1 hc.2 (pl_plain hc.1).1 (by have := (pl_plain hc.1).2; omega) (fin_bl I q ?_)
        rw [toPys_any]; rfl
      · cases e1
    · rename_i l e2
      cases e2
      unfold hasD at e1
      split at e1
      · rename_i hc
        simp only [Bool.and_eq_true] at hc
        cases e1
        rw [toPy] at q2
        refine SeqAt.notIn_tuple_data q2 q1 hc.2 (pl_plain hc.1).1 (by have := (pl_plain hc.1).2; omega) (fin_bl I q ?_)
        rw [toPys_any]; rfl
      · cases e1
    · rename_i a z e2
      cases e2
      split at e1
      · rename_i c hc
        cases e1
        have e3 : a = ⟨#[c]⟩ := by
          cases a with
          | mk cps =>
            have : cps = #[c] := by
              apply Array.toList_inj.mp
              exact hc
            rw [this]
        subst e3
        exact op_notIn_sign pins s σ H x y v u Q I rx ry ⟨c, z, rv_str r1, rv_str r2, q⟩
      · cases e1
    · cases e1
end
end Bk
/-! Bk: truth, lengths, items, slices, built-ins. -/
namespace Bk
open L2 PyProof.Rows PySem.Spec PySem
section
variable {X : Cx} {k : Nat}
theorem truV_of {K : PySem.W.Frag} {H : Hp} {d : D} {v : V} {b : Bool} (h : Rv K H d v) (ht : truth d = some b) : TruV K v H b := by
  cases d with
  | non => cases ht; rw [rv_non h]; rfl
  | bl x => cases ht; rw [rv_bl h]; rfl
  | int i => cases ht; rw [rv_int h]; rfl
  | str z =>
    rw [rv_str h]
    replace ht : (if z.length ≤ sizeLine then some (z.length != 0) else none) = some b := ht
    split at ht
    · rename_i hz
      cases ht
      refine ⟨hz, ?_⟩
      rw [Bool.eq_iff_iff]
      simp
    · cases ht
  | tup l =>
    cases ht
    rw [Rv] at h
    obtain ⟨a, vs, rfl, sq, al⟩ := h
    refine .inr (.inl ⟨vs, sq, ?_⟩)
    have := al.len
    cases l with
    | nil => rw [List.eq_nil_of_length_eq_zero this]; rfl
    | cons x r => cases vs with
      | nil => cases this
      | cons y t => rfl
  | lst l =>
    cases ht
    rw [Rv] at h
    obtain ⟨a, vs, rfl, sq, al⟩ := h
    refine .inl ⟨vs, SqL.of sq, ?_⟩
    have := al.len
    cases l with
    | nil => rw [List.eq_nil_of_length_eq_zero this]; rfl
    | cons x r => cases vs with
      | nil => cases this
      | cons y t => rfl
  | scr l => cases ht
  | dct _ _ => cases ht
  | set _ => cases ht
  | ins _ _ => cases ht
/-! ### calls -/
theorem cr_len : CallR X (.builtin "len") (rAn X.K lenD) := by
  intro pins s σ H xs us Q I r ⟨ds, e, w, al, hf, hv, q⟩
  unfold lenD at hf
  split at hf
  · rename_i l
    cases hf; cases hv
    obtain ⟨v, zs, rfl, h, rfl⟩ := al
    rw [Rv] at h
    obtain ⟨a, vs, rfl, sq, al⟩ := h
    refine call_len_seq pins s σ H _ us Q I r ⟨a, vs, rfl, .inl (SqL.of sq), ?_⟩
    rw [al.len]; exact q
  · rename_i l
    cases hf; cases hv
    obtain ⟨v, zs, rfl, h, rfl⟩ := al
    rw [Rv] at h
    obtain ⟨a, vs, rfl, sq, al⟩ := h
    refine call_len_seq pins s σ H _ us Q I r ⟨a, vs, rfl, .inr sq, ?_⟩
    rw [al.len]; exact q
  · rename_i l
    cases hf; cases hv
    obtain ⟨v, zs, rfl, h, rfl⟩ := al
    rw [Rv] at h
    obtain ⟨a, rfl, rd⟩ := h
    refine call_len_seq pins s σ H _ us Q I r ⟨a, _, rfl, .inl (rd), ?_⟩
    rw [List.length_map]; exact q
  · rename_i z
    split at hf
    · rename_i hz
      cases hf; cases hv
      obtain ⟨v, zs, rfl, h, rfl⟩ := al
      rw [rv_str h] at r
      exact call_len_str pins s σ H _ us Q I r ⟨z, rfl, sz_le hz, q⟩
    · cases hf
  · cases hf
theorem cr_int : CallR X (.type "int") (rAn X.K intD) := by
  intro pins s σ H xs us Q I r ⟨ds, e, w, al, hf, hv, q⟩
  unfold intD at hf
  split at hf
  · cases hf; cases hv
    obtain ⟨v, zs, rfl, h, rfl⟩ := al
    rw [rv_int h] at r
    exact call_int1 pins s σ H _ us Q I r (.inl ⟨_, rfl, q⟩)
  · rename_i b
    cases hf; cases hv
    obtain ⟨v, zs, rfl, h, rfl⟩ := al
    rw [rv_bl h] at r
    exact call_int1 pins s σ H _ us Q I r (.inr ⟨_, rfl, q⟩)
  · rename_i b
    split at hf
    · rename_i n hn
      split at hf
      · rename_i hz
        cases hf; cases hv
        obtain ⟨v, zs, rfl, h, rfl⟩ := al
        rw [rv_str h] at r
        exact call_int_str pins s σ H _ us Q I r ⟨_, _, rfl, hn, of_decide_eq_true hz, q⟩
      · cases hf
    · cases hf
  · cases hf
theorem cr_str : CallR X (.type "str") (rAn X.K strD) := by
  intro pins s σ H xs us Q I r ⟨ds, e, w, al, hf, hv, q⟩
  unfold strD at hf
  split at hf
  · split at hf
    · rename_i hz
      cases hf; cases hv
      obtain ⟨v, zs, rfl, h, rfl⟩ := al
      rw [rv_int h] at r
      exact call_str_int pins s σ H _ us Q I r ⟨_, rfl, of_decide_eq_true hz, q⟩
    · cases hf
  · cases hf; cases hv
    obtain ⟨v, zs, rfl, h, rfl⟩ := al
    rw [rv_str h] at r
    exact SkE.call_str_str pins s σ H _ us Q I r ⟨_, rfl, q⟩
  · cases hf
theorem cr_absD : CallR X (.builtin "abs") (rAn X.K absD) := by
  intro pins s σ H xs us Q I r ⟨ds, e, w, al, hf, hv, q⟩
  unfold absD at hf
  split at hf
  · cases hf; cases hv
    obtain ⟨v, zs, rfl, h, rfl⟩ := al
    rw [rv_int h] at r
    exact call_abs pins s σ H _ us Q I r ⟨_, rfl, q⟩
  · cases hf
theorem all2_22 {α β : Type} {P : α → β → Prop} {a b : α} {vs : List β} (h : All2 P [a, b] vs) : ∃ x y, vs = [x, y] ∧ P a x ∧ P b y := by
  obtain ⟨x, zs, rfl, h1, y, ws, rfl, h2, rfl⟩ := h
  exact ⟨x, y, rfl, h1, h2⟩
theorem cr_max2D (hc : X.calm = true) : CallR X (.builtin "max") (rAn X.K max2D) := by
  intro pins s σ H xs us Q I r ⟨ds, e, w, al, hf, hv, q⟩
  unfold max2D at hf
  split at hf
  · cases hf; cases hv
    obtain ⟨v, w, rfl, h, h2⟩ := all2_22 al
    rw [rv_int h, rv_int h2] at r
    exact call_max2 hc pins s σ H _ us Q I r ⟨_, _, rfl, q⟩
  · cases hf
theorem cr_min2D (hc : X.calm = true) : CallR X (.builtin "min") (rAn X.K min2D) := by
  intro pins s σ H xs us Q I r ⟨ds, e, w, al, hf, hv, q⟩
  unfold min2D at hf
  split at hf
  · cases hf; cases hv
    obtain ⟨v, w, rfl, h, h2⟩ := all2_22 al
    rw [rv_int h, rv_int h2] at r
    exact call_min2 hc pins s σ H _ us Q I r ⟨_, _, rfl, q⟩
  · cases hf
/-! ### new lists and tuples; items -/
section
variable {K : PySem.W.Frag} {as : List V} {σ : Sl} {H : Hp} {Q : VK} {x y : V}
theorem Bd.own0 {Z : Pr} {d : D} (h : Bd K Z H d x) (hd : ∀ ds, d ≠ .lst ds) : Own K Z H d 0 x [] := bd_own h hd
theorem OwnL.get {Z : Pr} : ∀ {ds : List D} {vs : List V} {j : Nat} {d : D}, OwnL K Z H ds 0 vs [] → ds[j]? = some d → ∃ v, vs[j]? = some v ∧ Own K Z H d 0 v []
  | [], _, _, _, _, e => by simp at e
  | d :: ds, vs, j, d', h, e => by
    rw [OwnL] at h
    obtain ⟨v, ws, f, g, rfl, e2, o, os⟩ := h
    obtain ⟨rfl, rfl⟩ := List.append_eq_nil_iff.mp e2.symm
    cases j with
    | zero => cases e; exact ⟨v, rfl, o⟩
    | succ j =>
      obtain ⟨v', h1, h2⟩ := OwnL.get (j := j) os (by simpa using e)
      exact ⟨v', by simpa using h1, h2⟩
theorem OwnL.drop {Z : Pr} : ∀ {ds : List D} {vs : List V} (n : Nat), OwnL K Z H ds 0 vs [] → OwnL K Z H (ds.drop n) 0 (vs.drop n) []
  | _, _, 0, h => h
  | [], vs, n + 1, h => by rw [OwnL] at h; rw [h.1, List.drop_nil, List.drop_nil, OwnL]; exact ⟨rfl, rfl⟩
  | d :: ds, vs, n + 1, h => by
    rw [OwnL] at h
    obtain ⟨v, ws, f, g, rfl, e2, o, os⟩ := h
    obtain ⟨rfl, rfl⟩ := List.append_eq_nil_iff.mp e2.symm
    exact OwnL.drop n os
theorem OwnL.take {Z : Pr} : ∀ {ds : List D} {vs : List V} (n : Nat), OwnL K Z H ds 0 vs [] → OwnL K Z H (ds.take n) 0 (vs.take n) []
  | _, _, 0, h => by rw [List.take_zero, List.take_zero, OwnL]; exact ⟨rfl, rfl⟩
  | [], vs, n + 1, h => by rw [OwnL] at h; rw [h.1, List.take_nil, List.take_nil, OwnL]; exact ⟨rfl, rfl⟩
  | d :: ds, vs, n + 1, h => by
    rw [OwnL] at h
    obtain ⟨v, ws, f, g, rfl, e2, o, os⟩ := h
    obtain ⟨rfl, rfl⟩ := List.append_eq_nil_iff.mp e2.symm
    rw [List.take_succ_cons, List.take_succ_cons, OwnL]
    exact ⟨v, _, [], [], rfl, rfl, o, OwnL.take n os⟩
theorem atI_own {Z : Pr} {ds : List D} {vs : List V} {i : Int} {d : D} (h : OwnL K Z H ds 0 vs []) (e : atI ds i = some d) : ∃ v, atI vs i = some v ∧ Own K Z H d 0 v [] := by
  unfold atI at e ⊢
  rw [h.len]
  cases q : ixN ds.length i with
  | none => rw [q] at e; cases e
  | some j =>
    rw [q] at e
    exact h.get (by simpa using e)
theorem rd_idx (h : OpK K as σ false (opG .idx) [x, y] H Q) : rIx K x y H Q := by
  obtain ⟨Z, W, r, fp, ds, d, l, E, al, hg, c⟩ := h
  obtain ⟨d1, d2, rfl, ⟨r1, b1⟩, r2, b2⟩ := all2_2 al
  obtain ⟨ho, rfl⟩ := opG_some hg
  replace ho : idxD [d1, d2] = some d := ho
  unfold idxD at ho
  split at ho
  · rename_i l i e
    cases e
    obtain ⟨a, vs, rfl, h1, o1⟩ := bd_lst (b1 rfl)
    obtain ⟨v, hv, o⟩ := atI_own o1 ho
    exact .inl ⟨a, vs, i, v, rfl, rv_int r2, SqL.of h1, hv, c.here E o⟩
  · rename_i l i e
    cases e
    obtain ⟨a, vs, rfl, h1, o1⟩ := bd_tup (b1 rfl)
    obtain ⟨v, hv, o⟩ := atI_own o1 ho
    exact .inr (.inl ⟨a, vs, i, v, rfl, rv_int r2, h1.sq, hv, c.here E o⟩)
  · rename_i l i e
    cases e
    rw [Rv] at r1
    obtain ⟨a, rfl, rd⟩ := r1
    cases e2 : atI l i with
    | none => rw [e2] at ho; cases ho
    | some n =>
      rw [e2] at ho
      cases ho
      refine .inl ⟨a, _, i, .int n, rfl, rv_int r2, rd, ?_, c.int E⟩
      unfold atI at e2 ⊢
      rw [List.length_map]
      cases q : ixN l.length i with
      | none => rw [q] at e2; cases e2
      | some j =>
        rw [q] at e2
        have e2 : l[j]? = some n := e2
        show (l.map V.int)[j]? = _
        rw [List.getElem?_map, e2]
        rfl
  · rename_i z i e
    cases e
    split at ho
    · rename_i hz
      cases e2 : atI z.cps.toList i with
      | none => rw [e2] at ho; cases ho
      | some n =>
        rw [e2] at ho
        cases ho
        exact .inr (.inr ⟨z, i, n, rv_str r1, rv_int r2, sz_le hz, e2, c.str E⟩)
    · cases ho
  · cases ho
theorem rd_list (h : OpK K as σ false (opG .list) [x] H Q) : ∃ p ys, [x] = [V.ref p] ∧ (SqL K H p ys ∨ SqT K H p ys) ∧ ∀ l, H l = none → Q (.ref l) (upd H l (.lst ys)) := by
  obtain ⟨Z, W, r, fp, ds, d, l, E, al, hg, c⟩ := h
  obtain ⟨d1, rfl, r1, b1⟩ := all2_1 al
  obtain ⟨ho, rfl⟩ := opG_some hg
  replace ho : listD [d1] = some d := ho
  unfold listD at ho
  split at ho
  · rename_i l e
    cases e; cases ho
    obtain ⟨a, vs, rfl, h1, o1⟩ := bd_lst (b1 rfl)
    exact ⟨a, vs, rfl, .inl (SqL.of h1), fun p hn => c.lst E hn o1⟩
  · rename_i l e
    cases e; cases ho
    obtain ⟨a, vs, rfl, h1, o1⟩ := bd_tup (b1 rfl)
    exact ⟨a, vs, rfl, .inr h1.sq, fun p hn => c.lst E hn o1⟩
  · cases ho
theorem rd_tuple (h : OpK K as σ false (opG .tuple) [x] H Q) : ∃ p ys, [x] = [V.ref p] ∧ ((SqL K H p ys ∧ ∀ l, H l = none → Q (.ref l) (upd H l (.tup ys))) ∨ (SqT K H p ys ∧ Q (.ref p) H)) := by
  obtain ⟨Z, W, r, fp, ds, d, l, E, al, hg, c⟩ := h
  obtain ⟨d1, rfl, r1, b1⟩ := all2_1 al
  obtain ⟨ho, rfl⟩ := opG_some hg
  replace ho : tupleD [d1] = some d := ho
  unfold tupleD at ho
  split at ho
  · rename_i l e
    cases e; cases ho
    obtain ⟨a, vs, rfl, h1, o1⟩ := bd_lst (b1 rfl)
    exact ⟨a, vs, rfl, .inl ⟨SqL.of h1, fun p hn => c.tup E hn o1⟩⟩
  · rename_i l e
    cases e; cases ho
    obtain ⟨a, vs, rfl, h1, o1⟩ := bd_tup (b1 rfl)
    exact ⟨a, vs, rfl, .inr ⟨h1.sq, c.here E (bd_own (b1 rfl) fun ds z => by cases z)⟩⟩
  · cases ho
theorem rd_imul (h : OpK K as σ true (opG .imul) [x, y] H Q) : rI CMul (fun i j => .int (i * j)) x y H Q := by
  obtain ⟨Z, W, r, fp, ds, d, l, E, al, hg, c⟩ := h
  obtain ⟨d1, d2, rfl, ⟨r1, b1⟩, r2, b2⟩ := all2_2 al
  obtain ⟨ho, rfl⟩ := opG_some hg
  replace ho : imulD [d1, d2] = some d := ho
  unfold imulD at ho
  split at ho
  · rename_i i j e
    cases e
    split at ho
    · rename_i hs
      cases ho
      exact ⟨i, j, rv_int r1, rv_int r2, small_mul hs, c.int E⟩
    · cases ho
  · cases ho
theorem rd_rep (h : OpK K as σ false (opG .mul) [x, y] H Q) : rI CMul (fun i j => .int (i * j)) x y H Q ∨ rRep x y H Q ∨ (∃ s k, x = .str s ∧ y = .int k ∧ 0 ≤ k ∧ k ≤ 4096 ∧ s.length ≤ 4096 ∧ Q (.str (repS s k)) H) ∨
    (∃ a ds' k vs Z W r fp, x = .ref a ∧ y = .int k ∧ SqT K H a vs ∧ vs ≠ [] ∧ 0 ≤ k ∧ k ≤ 1000 ∧ vs.length ≤ 1000 ∧ EnvOk K as Z W H r σ fp ∧ Own K Z H (.tup ds') 0 x [] ∧ OwnL K Z H ds' 0 vs [] ∧ Cont K as Z W H r σ (.tup (List.replicate k.toNat ds').flatten) 0 Q) := by
  obtain ⟨Z, W, r, fp, ds, d, l, E, al, hg, c⟩ := h
  obtain ⟨d1, d2, rfl, ⟨r1, b1⟩, r2, b2⟩ := all2_2 al
  obtain ⟨ho, rfl⟩ := opG_some hg
  replace ho : mulD [d1, d2] = some d := ho
  unfold mulD at ho
  split at ho
  · rename_i i j e
    cases e
    split at ho
    · rename_i hs
      cases ho
      exact .inl ⟨i, j, rv_int r1, rv_int r2, small_mul hs, c.int E⟩
    · cases ho
  · rename_i l k e
    cases e
    split at ho
    · rename_i hs
      cases ho
      simp only [Bool.and_eq_true, decide_eq_true_eq] at hs
      obtain ⟨a, vs, rfl, h1, o1⟩ := bd_lst (b1 rfl)
      refine .inr (.inl ⟨a, k, vs, rfl, rv_int r2, h1, by omega, by omega, ?_, fun p hn => c.lst E hn (o1.rep _)⟩)
      rw [o1.len]; exact sz_le hs.2
    · cases ho
  · rename_i l k e
    cases e
    split at ho
    · rename_i hs
      cases ho
      simp only [Bool.and_eq_true, decide_eq_true_eq, Bool.not_eq_true', List.isEmpty_eq_false_iff] at hs
      obtain ⟨a, vs, rfl, h1, o1⟩ := bd_tup (b1 rfl)
      refine .inr (.inr (.inr ⟨a, l, k, vs, Z, W, r, fp, rfl, rv_int r2, h1.sq, fun z => ?_, hs.1.1.1, hs.1.1.2, ?_, E, bd_own (b1 rfl) (fun ds z => by cases z), o1, c⟩))
      · subst z
        have := o1.len
        exact hs.2 (List.eq_nil_of_length_eq_zero this.symm)
      · rw [o1.len]; exact hs.1.2
    · cases ho
  · rename_i l k e
    cases e
    split at ho
    · rename_i hs
      cases ho
      simp only [Bool.and_eq_true, decide_eq_true_eq] at hs
      exact .inr (.inr (.inl ⟨l, k, rv_str r1, rv_int r2, hs.1.1, hs.1.2, hs.2, c.str E⟩))
    · cases ho
  · cases ho
end
end
end Bk
/-! Bk: statements. -/
namespace Bk
open L2 PyProof.Rows PySem.Spec PySem
/-- what is wanted behind a statement's outcome -/
def FlOk (K : PySem.W.Frag) (as : List V) (XW : XWt) (Z W : Pr) (H : Hp) (D : Ends) : Out Fl → Prop
  | .val (.nx r') => ∀ σ' Z' H' fp', EnvOk K as Z' W H' r' σ' fp' → Keep Z W H Z' H' → D.nx σ' H'
  | .val (.rt d l r') => ∀ v σ' Z' H' fp' fq, EnvOk K as Z' (orL W fq) H' r' σ' fp' → Own K Z' H' d l v fq → fq.Nodup → (∀ a ∈ fq, ¬ W a) → Keep Z W H Z' H' → D.rt v H'
  | .exc x r' => ∀ σ' Z' H' fp', EnvOk K as Z' W H' r' σ' fp' → Keep Z W H Z' H' → XW x σ' H'
  | .bad => False
def TSx (K : PySem.W.Frag) (as : List V) (XW : XWt) (f : Env → Out Fl) : TS := fun D σ H => ∃ Z W r fp, EnvOk K as Z W H r σ fp ∧ FlOk K as XW Z W H D (f r)
theorem FlOk.mono {K : PySem.W.Frag} {as : List V} {XW : XWt} {Z W Z1 : Pr} {H H1 : Hp} {D : Ends} {o : Out Fl} (h : FlOk K as XW Z W H D o) (k : Keep Z W H Z1 H1) : FlOk K as XW Z1 W H1 D o := by
  cases o with
  | bad => exact h
  | exc x r' => exact fun σ' Z' H' fp' E' k' => h σ' Z' H' fp' E' (k.trans k')
  | val f =>
    cases f with
    | nx r' => exact fun σ' Z' H' fp' E' k' => h σ' Z' H' fp' E' (k.trans k')
    | rt d' l' r' => exact fun v σ' Z' H' fp' fq E' o' nd nw k' => h v σ' Z' H' fp' fq E' o' nd nw (k.trans k')
theorem PS.weak {X : Cx} {e : Stmt} {t t' : TS} (h : PS X e t) (w : ∀ D σ H, t' D σ H → t D σ H) : PS X e t' :=
  ⟨fun pins s σ H D I q => h.run pins s σ H D I (w D σ H q)⟩
theorem PSs.weak {X : Cx} {e : List Stmt} {t t' : TS} (h : PSs X e t) (w : ∀ D σ H, t' D σ H → t D σ H) : PSs X e t' :=
  ⟨fun pins s σ H D I q => h.run pins s σ H D I (w D σ H q)⟩
section
variable {K : PySem.W.Frag} {as : List V} {XW : XWt} {cf : CF} {σ : Sl} {H : Hp} {Z W : Pr} {r : Env} {fp : Nat → List Addr}
/-- one value is taken -/
theorem one_ok {q : R} {v : V} {fq : List Addr} {d : D} {l : Nat} {r' : Env} (E : EnvOk K as Z (orL W fq) H r σ fp) (h : RepRs K Z H σ [q] [v] fq) (nd : fq.Nodup) (nw : ∀ a ∈ fq, ¬ W a)
    (ho : one [q] r = some (d, l, r')) : ∃ Z' fp' fq', EnvOk K as Z' (orL W fq') H r' σ fp' ∧ (∀ a, Z a → Z' a) ∧ Own K Z' H d l v fq' ∧ fq'.Nodup ∧ (∀ a ∈ fq', ¬ W a) := by
  cases q with
  | vl d' l' =>
    simp only [one, Option.some.injEq, Prod.mk.injEq] at ho
    obtain ⟨rfl, rfl, rfl⟩ := ho
    obtain ⟨v', ws, f, g, e1, e2, o, os⟩ := h
    cases e1
    obtain ⟨_, rfl⟩ := os
    rw [List.append_nil] at e2
    subst e2
    exact ⟨Z, fp, fq, E, fun _ z => z, o, nd, nw⟩
  | vr i =>
    obtain ⟨v', ws, e1, s, os⟩ := h
    cases e1
    obtain ⟨_, rfl⟩ := os
    simp only [one] at ho
    split at ho
    · rename_i e g
      simp only [Option.some.injEq, Prod.mk.injEq] at ho
      obtain ⟨rfl, rfl, rfl⟩ := ho
      have ht : tak [.vr i] r = some ([e.d], 0, lowE 0 r i e) := by simp only [tak, g]
      obtain ⟨Z', fp', fq', E', hz, al, nd', sub⟩ := tak_ok (rs := [.vr i]) E ⟨v, [], rfl, s, rfl, rfl⟩ nd nw ht
      rw [OwnL] at al
      obtain ⟨v2, ws, f, g2, e1, e2, o, os⟩ := al
      cases e1
      have e3 := os.fp0
      have e4 := o.fp0
      subst e3 e4
      rw [List.append_nil] at e2
      subst e2
      exact ⟨Z', fp', [], E', hz, o, List.nodup_nil, by simp⟩
    · cases ho
/-- from an expression's value to what is behind -/
theorem te_one {a : E} {Q : VK} {F : D × Nat × Env → Out Fl} {D : Ends}
    (h : ∃ Z W r fp, EnvOk K as Z W H r σ fp ∧ FlOk K as XW Z W H D ((ev cf a r).bind fun x => (Out.of (one x.1 x.2)).bind F))
    (k : ∀ Z W r fp fq d l v H1, EnvOk K as Z (orL W fq) H1 r σ fp → Own K Z H1 d l v fq → fq.Nodup → (∀ a ∈ fq, ¬ W a) → FlOk K as XW Z W H1 D (F (d, l, r)) → Q v H1) : TE1 K as XW (ev cf a) σ H Q := by
  obtain ⟨Z, W, r, fp, E, h⟩ := h
  refine ⟨Z, W, r, fp, E, ?_⟩
  cases e1 : ev cf a r with
  | bad => rw [e1] at h; exact h
  | exc x r1 =>
    rw [e1] at h
    intro Z' H' fp' E' k'
    exact h σ Z' H' fp' E' k'
  | val y =>
    obtain ⟨rs, r1⟩ := y
    rw [e1] at h
    simp only [Out.bind_val] at h
    cases e2 : one rs r1 with
    | none => rw [e2] at h; exact h.elim
    | some y =>
      obtain ⟨d, l, r2⟩ := y
      rw [e2] at h
      simp only [Out.of_some, Out.bind_val] at h
      match rs, e2 with
      | [q], e2 =>
        intro vs Z1 H1 fp1 fq1 E1 R1 nd1 nw1 k1
        obtain ⟨v, rfl⟩ := sing (v := .non) R1
        obtain ⟨Z2, fp2, fq2, E2, hz, o, nd2, nw2⟩ := one_ok E1 R1 nd1 nw1 e2
        exact ⟨v, rfl, k Z2 W r2 fp2 fq2 d l v H1 E2 o nd2 nw2 (FlOk.mono h (k1.trans (keepZ hz)))⟩
      | [], e2 => cases e2
      | q1 :: q2 :: t, e2 => cases q1 <;> simp [one] at e2
theorem st_seq {a b : S} {D : Ends} (h : TSx K as XW (ex cf (.seq a b)) D σ H) : TSx K as XW (ex cf a) { D with nx := fun σ' H' => TSx K as XW (ex cf b) D σ' H' } σ H := by
  obtain ⟨Z, W, r, fp, E, h⟩ := h
  refine ⟨Z, W, r, fp, E, ?_⟩
  simp only [ex] at h
  cases e1 : ex cf a r with
  | bad => rw [e1] at h; exact h
  | exc x r1 => rw [e1] at h; exact h
  | val f =>
    rw [e1] at h
    cases f with
    | rt d l r1 => exact h
    | nx r1 =>
      simp only [Out.bind_val] at h
      exact fun σ' Z' H' fp' E' k => ⟨Z', W, r1, fp', E', h.mono k⟩
theorem st_skip {D : Ends} (h : TSx K as XW (ex cf .skip) D σ H) : D.nx σ H := by
  obtain ⟨Z, W, r, fp, E, h⟩ := h
  simp only [ex] at h
  exact h σ Z H fp E Keep.refl
theorem st_setn {i : Nat} {e : E} {D : Ends} (h : TSx K as XW (ex cf (.set (.nm i) e)) D σ H) : TE1 K as XW (ev cf e) σ H fun x H1 => D.nx (σ.set i (some x)) H1 := by
  obtain ⟨Z, W, r, fp, E, h⟩ := h
  simp only [ex] at h
  refine te_one (F := fun y => if i < y.2.2.length then .val (.nx (y.2.2.set i (some ⟨y.1, y.2.1, false⟩))) else .bad) (D := D) ⟨Z, W, r, fp, E, h⟩ ?_
  intro Z W r fp fq d l v H1 E o nd nw h
  simp only at h
  by_cases hi : i < r.length
  · rw [if_pos hi] at h
    exact h _ Z H1 _ (E.put (e := ⟨d, l, false⟩) hi o nd nw (by simp)) Keep.refl
  · rw [if_neg hi] at h; exact h.elim
theorem st_ret {e : E} {D : Ends} (he : ∀ i, e ≠ .var i) (h : TSx K as XW (ex cf (.ret e)) D σ H) : TE1 K as XW (ev cf e) σ H fun x H1 => D.rt x H1 := by
  obtain ⟨Z, W, r, fp, E, h⟩ := h
  have h2 : FlOk K as XW Z W H D ((ev cf e r).bind fun x => (Out.of (one x.1 x.2)).bind fun y => .val (.rt y.1 y.2.1 y.2.2)) := by
    cases e with
    | var i => exact absurd rfl (he i)
    | _ => exact h
  refine te_one (F := fun y => .val (.rt y.1 y.2.1 y.2.2)) (D := D) ⟨Z, W, r, fp, E, h2⟩ ?_
  intro Z W r fp fq d l v H1 E o nd nw h
  exact h v σ Z H1 fp fq E o nd nw Keep.refl
theorem st_retv {i : Nat} {D : Ends} (h : TSx K as XW (ex cf (.ret (.var i))) D σ H) : ∃ v, σ[i]? = some (some v) ∧ D.rt v H := by
  obtain ⟨Z, W, r, fp, E, h⟩ := h
  simp only [ex] at h
  cases g : getE r i with
  | none => rw [g] at h; exact h.elim
  | some e =>
    rw [g] at h
    obtain ⟨Et, v, hv, o, _⟩ := E.take g
    exact ⟨v, hv, h v σ Z H _ (fp i) Et o (E.nd i) (fun a m => (E.nz i a m).2) Keep.refl⟩
theorem st_ex {e : E} {D : Ends} (h : TSx K as XW (ex cf (.ex e)) D σ H) : TE1 K as XW (ev cf e) σ H fun _ H1 => D.nx σ H1 := by
  obtain ⟨Z, W, r, fp, E, h⟩ := h
  refine ⟨Z, W, r, fp, E, ?_⟩
  simp only [ex] at h
  cases e1 : ev cf e r with
  | bad => rw [e1] at h; exact h
  | exc x r1 => rw [e1] at h; exact fun Z' H' fp' E' k' => h σ Z' H' fp' E' k'
  | val y =>
    obtain ⟨rs, r1⟩ := y
    rw [e1] at h
    match rs, h with
    | [q], h =>
      intro vs Z1 H1 fp1 fq1 E1 R1 nd1 nw1 k1
      obtain ⟨v, rfl⟩ := sing (v := .non) R1
      exact ⟨v, rfl, h σ Z1 H1 fp1 (E1.less fun a w => .inl w) k1⟩
    | [], h => exact h.elim
    | _ :: _ :: _, h => exact h.elim
/-- a test -/
def TTx (K : PySem.W.Frag) (as : List V) (XW : XWt) (cf : CF) (c : E) : TT := fun σ H Q => ∃ Z W r fp, EnvOk K as Z W H r σ fp ∧
  match (ev cf c r).bind fun x => (Out.of (tru x.1 x.2)).bind fun k => .val (k, x.2) with
  | .val (k, r') => ∀ Z' H' fp', EnvOk K as Z' W H' r' σ fp' → Keep Z W H Z' H' → Q k H'
  | .exc x r' => AfterX K as Z W H σ r' (XW x σ)
  | .bad => False
theorem st_ite {c : E} {a b : S} {D : Ends} (h : TSx K as XW (ex cf (.ite c a b)) D σ H) :
    TTx K as XW cf c σ H fun k H1 => if k = true then TSx K as XW (ex cf a) D σ H1 else TSx K as XW (ex cf b) D σ H1 := by
  obtain ⟨Z, W, r, fp, E, h⟩ := h
  refine ⟨Z, W, r, fp, E, ?_⟩
  simp only [ex] at h
  cases e1 : ev cf c r with
  | bad => rw [e1] at h; exact h
  | exc x r1 => rw [e1] at h; exact fun Z' H' fp' E' k' => h σ Z' H' fp' E' k'
  | val y =>
    obtain ⟨rs, r1⟩ := y
    rw [e1] at h
    simp only [Out.bind_val] at h ⊢
    cases e2 : tru rs r1 with
    | none => rw [e2] at h; exact h.elim
    | some k =>
      rw [e2] at h
      simp only [Out.of_some, Out.bind_val] at h ⊢
      intro Z' H' fp' E' k'
      cases k with
      | true => rw [if_pos rfl] at h ⊢; exact ⟨Z', W, r1, fp', E', FlOk.mono h k'⟩
      | false => rw [if_neg Bool.false_ne_true] at h ⊢; exact ⟨Z', W, r1, fp', E', FlOk.mono h k'⟩
/-- truth of an expression of any kind -/
theorem tt_truth {c : E} {Q : Bool → Hp → Prop} (h : TTx K as XW cf c σ H Q) : TE1 K as XW (ev cf c) σ H fun x H' => ∃ k, TruV K x H' k ∧ Q k H' := by
  obtain ⟨Z, W, r, fp, E, h⟩ := h
  refine ⟨Z, W, r, fp, E, ?_⟩
  cases e1 : ev cf c r with
  | bad => rw [e1] at h; exact h
  | exc x r1 => rw [e1] at h; exact h
  | val y =>
    obtain ⟨rs, r1⟩ := y
    rw [e1] at h
    simp only [Out.bind_val] at h
    cases e2 : tru rs r1 with
    | none => rw [e2] at h; exact h.elim
    | some k =>
      rw [e2] at h
      simp only [Out.of_some, Out.bind_val] at h
      have e3 : ∃ d r2, bor true rs r1 = some ([d], r2) ∧ truth d = some k := by
        unfold tru at e2
        split at e2
        · rename_i d r2 e; exact ⟨d, r2, e, e2⟩
        · cases e2
      obtain ⟨d, r2, e3, e4⟩ := e3
      match rs, e3 with
      | [q], e3 =>
        intro vs Z1 H1 fp1 fq1 E1 R1 nd1 nw1 k1
        obtain ⟨v, rfl⟩ := sing (v := .non) R1
        obtain ⟨Z2, fp2, E2, hz, al⟩ := bor_ok E1 R1 nd1 nw1 e3
        obtain ⟨v', zs, e5, ⟨rv, _⟩, _⟩ := al
        cases e5
        exact ⟨v, rfl, k, truV_of rv e4, h Z1 H1 fp1 (E1.less fun a w => .inl w) k1⟩
      | [], e3 => simp [bor] at e3
      | q1 :: q2 :: t, e3 =>
        exfalso
        have hl : ∀ (rs : List R) (r : Env) (ds : List Bk.D) (r' : Env), bor true rs r = some (ds, r') → ds.length = rs.length := by
          intro rs
          induction rs with
          | nil => intro r ds r' h; simp only [bor, Option.some.injEq, Prod.mk.injEq] at h; rw [← h.1]; rfl
          | cons q t ih =>
            intro r ds r' h
            cases q with
            | vr i =>
              simp only [bor] at h
              split at h
              · cases h
              · split at h
                · cases h
                · rename_i ds' r3 hb
                  simp only [Option.some.injEq, Prod.mk.injEq] at h
                  rw [← h.1, List.length_cons, List.length_cons, ih _ _ _ hb]
            | vl d l =>
              simp only [bor] at h
              split at h
              · cases h
              · rename_i ds' r3 hb
                simp only [Option.some.injEq, Prod.mk.injEq] at h
                rw [← h.1, List.length_cons, List.length_cons, ih _ _ _ hb]
        have := hl _ _ _ _ e3
        simp at this
end
end Bk
/-! Bk: loops, targets, stores. -/
namespace Bk
open L2 PyProof.Rows PySem.Spec PySem
section
variable {K : PySem.W.Frag} {as : List V} {XW : XWt} {cf : CF} {σ : Sl} {H : Hp} {Z W : Pr} {r : Env} {fp : Nat → List Addr}
theorem st_whl {c : E} {b : S} {D : Ends} (h : TSx K as XW (ex cf (.whl c b)) D σ H) : tWhile (TTx K as XW cf c) (TSx K as XW (ex cf b)) D σ H := by
  obtain ⟨Z, W, r, fp, E, h⟩ := h
  simp only [ex] at h
  refine ⟨fun m σ H => ∃ Z r fp, EnvOk K as Z W H r σ fp ∧ FlOk K as XW Z W H D (whileL (fun r => (ev cf c r).bind fun x => (Out.of (tru x.1 x.2)).bind fun k => .val (k, x.2)) (fun r => ex cf b r) m r), ⟨laps, Z, r, fp, E, h⟩, ?_⟩
  rintro m σ H ⟨Z, r, fp, E, h⟩
  cases m with
  | zero => exact h.elim
  | succ m =>
    simp only [whileL] at h
    refine ⟨Z, W, r, fp, E, ?_⟩
    cases e1 : (ev cf c r).bind fun x => (Out.of (tru x.1 x.2)).bind fun k => .val (k, x.2) with
    | bad => rw [e1] at h; exact h
    | exc x r1 => rw [e1] at h; exact fun Z' H' fp' E' k' => h σ Z' H' fp' E' k'
    | val y =>
      obtain ⟨k, r1⟩ := y
      rw [e1] at h
      simp only [Out.bind_val] at h
      intro Z1 H1 fp1 E1 k1
      cases k with
      | false =>
        rw [if_neg Bool.false_ne_true] at h ⊢
        exact h σ Z1 H1 fp1 E1 k1
      | true =>
        rw [if_pos rfl] at h ⊢
        refine ⟨_, fun σ' H' hn => ⟨m, Nat.lt_succ_self m, hn⟩, Z1, W, r1, fp1, E1, ?_⟩
        cases e2 : ex cf b r1 with
        | bad => rw [e2] at h; exact h
        | exc x r2 => rw [e2] at h; exact fun σ' Z' H' fp' E' k' => h σ' Z' H' fp' E' (k1.trans k')
        | val f =>
          rw [e2] at h
          cases f with
          | rt d l r2 => exact fun v σ' Z' H' fp' fq E' o' nd nw k' => h v σ' Z' H' fp' fq E' o' nd nw (k1.trans k')
          | nx r2 => exact fun σ' Z' H' fp' E' k' => ⟨Z', r2, fp', E', FlOk.mono h (k1.trans k')⟩
/-! ### targets -/
abbrev nW : Pr := fun _ => False
def GT (K : PySem.W.Frag) (as : List V) (ok : Nat → Bool) (t : Tgt) : TG := fun v σ H Q => ∃ Z W r fp d r', EnvOk K as Z W H r σ fp ∧ Own K Z H d 0 v [] ∧ bindT ok t d r = some r' ∧
  ∀ σ' fp', EnvOk K as Z W H r' σ' fp' → (∀ i, ok i = false → σ'[i]? = σ[i]?) → Q σ' H
def GTs (K : PySem.W.Frag) (as : List V) (ok : Nat → Bool) (t : Tgt) : TGs := fun vs σ H Q => ∃ Z W r fp ds r', EnvOk K as Z W H r σ fp ∧ OwnL K Z H ds 0 vs [] ∧ bindT ok t (.tup ds) r = some r' ∧
  ∀ σ' fp', EnvOk K as Z W H r' σ' fp' → (∀ i, ok i = false → σ'[i]? = σ[i]?) → Q σ' H
theorem gt_name {ok : Nat → Bool} {i : Nat} {v : V} {Q : Sl → Hp → Prop} (h : GT K as ok (.nm i) v σ H Q) : gName i v σ H Q := by
  obtain ⟨Z, W, r, fp, d, r', E, o, hb, k⟩ := h
  simp only [bindT] at hb
  split at hb
  · rename_i hc
    simp only [decide_eq_true_eq, Bool.and_eq_true] at hc
    cases hb
    refine k _ _ ((E.less (W' := orL W []) fun a w => w.elim id fun w => by simp at w).put (e := ⟨d, 0, false⟩) hc.2 o List.nodup_nil (by simp) (by simp)) fun j hj => ?_
    rw [List.getElem?_set_ne]
    rintro rfl
    rw [hc.1] at hj; cases hj
  · cases hb
theorem gts_nil {ok : Nat → Bool} {vs : List V} {Q : Sl → Hp → Prop} (h : GTs K as ok .nil vs σ H Q) : gNil vs σ H Q := by
  obtain ⟨Z, W, r, fp, ds, r', E, o, hb, k⟩ := h
  simp only [bindT] at hb
  split at hb
  · rename_i e
    cases e
    cases hb
    rw [OwnL] at o
    exact ⟨o.1, k _ _ E fun _ _ => rfl⟩
  · cases hb
theorem gts_cons {ok : Nat → Bool} {a t : Tgt} {vs : List V} {Q : Sl → Hp → Prop} (h : GTs K as ok (.cons a t) vs σ H Q) : gCons (GT K as ok a) (GTs K as ok t) vs σ H Q := by
  obtain ⟨Z, W, r, fp, ds, r', E, o, hb, k⟩ := h
  simp only [bindT] at hb
  split at hb
  · rename_i x xs e
    cases e
    split at hb
    · rename_i r1 h1
      rw [OwnL] at o
      obtain ⟨v, ws, f, g, rfl, e2, o1, o2⟩ := o
      obtain ⟨rfl, rfl⟩ := List.append_eq_nil_iff.mp e2.symm
      exact ⟨v, ws, rfl, Z, W, r, fp, x, r1, E, o1, h1, fun σ1 fp1 E1 k1 => ⟨Z, W, r1, fp1, xs, r', E1, o2, hb, fun σ' fp' E' k' => k σ' fp' E' fun i hi => (k' i hi).trans (k1 i hi)⟩⟩
    · cases hb
  · cases hb
/-- a tuple's target is never a name -/
def isSeqT : Tgt → Bool
  | .nm _ => false
  | _ => true
def lenT : Tgt → Nat
  | .cons _ t => lenT t + 1
  | _ => 0
theorem bindT_len {ok : Nat → Bool} : ∀ {t : Tgt} {ds : List D} {r r' : Env}, isSeqT t = true → bindT ok t (.tup ds) r = some r' → (∀ a b, t = .cons a b → isSeqT b = true) → True
  | _, _, _, _, _, _, _ => trivial
theorem gt_tup {ok : Nat → Bool} {t : Tgt} {n : Nat} {v : V} {Q : Sl → Hp → Prop} (ht : isSeqT t = true) (hn : ∀ (ds : List D) (r r' : Env), bindT ok t (.tup ds) r = some r' → ds.length = n) (h : GT K as ok t v σ H Q) : gTup K n (GTs K as ok t) v σ H Q := by
  obtain ⟨Z, W, r, fp, d, r', E, o, hb, k⟩ := h
  have hd : ∃ ds, d = .tup ds := by
    cases t with
    | nm i => cases ht
    | nil =>
      simp only [bindT] at hb
      split at hb
      · exact ⟨_, rfl⟩
      · cases hb
    | cons a t =>
      simp only [bindT] at hb
      split at hb
      · exact ⟨_, rfl⟩
      · cases hb
  obtain ⟨ds, rfl⟩ := hd
  rw [Own] at o
  obtain ⟨_, a, vs, rfl, f, ol⟩ := o
  exact ⟨a, vs, rfl, f.sq, by rw [ol.len]; exact hn ds r r' hb, Z, W, r, fp, ds, r', E, ol, hb, k⟩
/-! ### what is walked -/
/-- an iterator over frozen data -/
structure WalkD (K : PySem.W.Frag) (J : It) (Z0 : Pr) (H0 : Hp) (ds : List D) : Prop where
  go : ∀ i Z H, i < ds.length → Keep Z0 nW H0 Z H → (∀ a, Z a → H a ≠ none) → J.go i H
  stop : ∀ Z H, Keep Z0 nW H0 Z H → (∀ a, Z a → H a ≠ none) → J.stop ds.length H
  yld : ∀ i Z H x H', i < ds.length → Keep Z0 nW H0 Z H → (∀ a, Z a → H a ≠ none) → J.yld i H x H' → ∃ d, ds[i]? = some d ∧
    ((H' = H ∧ Own K Z H d 0 x []) ∨ ∃ T o, H T = none ∧ H' = upd H T o ∧ Own K (orL Z [T]) H' d 0 x [])
def itemsE (cf : CF) (k : ItK) (s : E) (r : Env) : Out (List D × Env) := (ev cf s r).bind fun x => (Out.of (tak x.1 x.2)).bind fun y => (Out.of (itemsOf k y.1)).bind fun ds => .val (ds, y.2.2)
def TIx (K : PySem.W.Frag) (as : List V) (XW : XWt) (cf : CF) (k : ItK) (s : E) : TI := fun σ H R => ∃ Z W r fp, EnvOk K as Z W H r σ fp ∧
  match itemsE cf k s r with
  | .val (ds, r') => ∀ J Z' H' fp', EnvOk K as Z' W H' r' σ fp' → WalkD K J Z' H' ds → Keep Z W H Z' H' → R J H'
  | .exc x r' => AfterX K as Z W H σ r' (XW x σ)
  | .bad => False
/-- an item has come: the state behind -/
theorem EnvOk.came {d : D} {x : V} {H' : Hp} (E : EnvOk K as Z W H r σ fp) (h : (H' = H ∧ Own K Z H d 0 x []) ∨ ∃ T o, H T = none ∧ H' = upd H T o ∧ Own K (orL Z [T]) H' d 0 x []) :
    ∃ Z', EnvOk K as Z' W H' r σ fp ∧ Own K Z' H' d 0 x [] ∧ Keep Z W H Z' H' := by
  rcases h with ⟨rfl, o⟩ | ⟨T, o, hn, rfl, o'⟩
  · exact ⟨Z, E, o, Keep.refl⟩
  · refine ⟨orL Z [T], (E.new (o := o) hn).frz fun a m w => ?_, o', (keep_new hn).trans keep_more⟩
    simp only [List.mem_singleton] at m
    subst m
    exact E.lw a w hn
theorem st_for {t : Tgt} {k : ItK} {s : E} {b : S} {D : Ends} (h : TSx K as XW (ex cf (.for t k s b)) D σ H) : tFor (TIx K as XW cf k s) (GT K as (fun _ => true) t) (TSx K as XW (ex cf b)) D σ H := by
  obtain ⟨Z, W, r, fp, E, h⟩ := h
  refine ⟨Z, W, r, fp, E, ?_⟩
  have e0 : ex cf (.for t k s b) r = (itemsE cf k s r).bind fun x => forL (fun d r1 => (Out.of (bindT (fun _ => true) t d r1)).bind fun r2 => ex cf b r2) x.1 x.2 := by
    simp only [ex, itemsE]
    cases ev cf s r with
    | bad => rfl
    | exc x r1 => rfl
    | val y =>
      simp only [Out.bind_val]
      cases tak y.1 y.2 with
      | none => rfl
      | some z =>
        simp only [Out.of_some, Out.bind_val]
        cases itemsOf k z.1 with
        | none => rfl
        | some ds => rfl
  rw [e0] at h
  cases e1 : itemsE cf k s r with
  | bad => rw [e1] at h; exact h
  | exc x r1 => rw [e1] at h; exact fun Z' H' fp' E' k' => h σ Z' H' fp' E' k'
  | val y =>
    obtain ⟨ds, r1⟩ := y
    rw [e1] at h
    simp only [Out.bind_val] at h
    intro J Z1 H1 fp1 E1 wk k1
    refine ⟨fun i m σ H => i ≤ ds.length ∧ m = ds.length - i ∧ ∃ Z r fp, EnvOk K as Z W H r σ fp ∧ Keep Z1 W H1 Z H ∧ FlOk K as XW Z W H D (forL (fun d r1 => (Out.of (bindT (fun _ => true) t d r1)).bind fun r2 => ex cf b r2) (ds.drop i) r),
      ⟨ds.length, Nat.zero_le _, rfl, Z1, r1, fp1, E1, Keep.refl, FlOk.mono h k1⟩, ?_⟩
    rintro i m σ2 H2 ⟨hi, rfl, Z2, r2, fp2, E2, k2, h2⟩
    by_cases hlt : i < ds.length
    · refine .inr ⟨wk.go i Z2 H2 hlt (k2.less fun _ w => w.elim) E2.lz, fun σ' H' => ∃ Z r fp, EnvOk K as Z W H' r σ' fp ∧ Keep Z1 W H1 Z H' ∧ FlOk K as XW Z W H' D (forL (fun d r1 => (Out.of (bindT (fun _ => true) t d r1)).bind fun r2 => ex cf b r2) (ds.drop (i + 1)) r),
        fun σ' H' hN => ⟨ds.length - (i + 1), by omega, by omega, rfl, hN⟩, fun x H3 hy => ?_⟩
      obtain ⟨d, hd, hc⟩ := wk.yld i Z2 H2 x H3 hlt (k2.less fun _ w => w.elim) E2.lz hy
      obtain ⟨Z3, E3, o3, k3⟩ := E2.came hc
      have e2 : ds.drop i = d :: ds.drop (i + 1) := by
        have := List.getElem?_eq_some_iff.mp hd
        obtain ⟨h1, h2⟩ := this
        rw [List.drop_eq_getElem_cons h1, h2]
      rw [e2] at h2
      simp only [forL] at h2
      cases e3 : bindT (fun _ => true) t d r2 with
      | none => rw [e3] at h2; exact h2.elim
      | some r3 =>
        rw [e3] at h2
        simp only [Out.of_some, Out.bind_val] at h2
        refine ⟨Z3, W, r2, fp2, d, r3, E3, o3, e3, fun σ3 fp3 E4 _ => ⟨Z3, W, r3, fp3, E4, ?_⟩⟩
        cases e4 : ex cf b r3 with
        | bad => rw [e4] at h2; exact h2
        | exc x r4 => rw [e4] at h2; exact fun σ' Z' H' fp' E' k' => h2 σ' Z' H' fp' E' (k3.trans k')
        | val f =>
          rw [e4] at h2
          cases f with
          | rt d l r4 => exact fun v σ' Z' H' fp' fq E' o' nd nw k' => h2 v σ' Z' H' fp' fq E' o' nd nw (k3.trans k')
          | nx r4 => exact fun σ' Z' H' fp' E' k' => ⟨Z', r4, fp', E', k2.trans (k3.trans k'), FlOk.mono h2 (k3.trans k')⟩
    · have e : i = ds.length := by omega
      subst e
      refine .inl ⟨wk.stop Z2 H2 (k2.less fun _ w => w.elim) E2.lz, ?_⟩
      rw [List.drop_length] at h2
      exact h2 σ2 Z2 H2 fp2 E2 Keep.refl
end
end Bk
/-! Bk: stores into lists. -/
namespace Bk
open L2 PyProof.Rows PySem.Spec PySem
section
variable {K : PySem.W.Frag} {as : List V} {XW : XWt} {cf : CF} {σ : Sl} {H : Hp} {Z W : Pr} {r : Env} {fp : Nat → List Addr}
theorem keep_upd {a : Addr} {o : HO} (hz : ¬ Z a) (hw : ¬ W a) (hl : H a ≠ none) : Keep Z W H Z (upd H a o) :=
  ⟨fun _ z => z, fun b u z pl rd => by
      have hne : b ≠ a := fun e => hz (e ▸ z)
      rcases rd with rd | ⟨x, rd⟩
      · exact .inl (by rw [upd_ne hne]; exact rd)
      · exact .inr ⟨x, by rw [upd_ne hne]; exact rd⟩,
    fun b u z e => by
      have : b ≠ a := fun q => hz (q ▸ z)
      rw [upd_ne this]; exact e,
    fun b u w e => by
      have : b ≠ a := fun q => hw (q ▸ w)
      rw [upd_ne this]; exact e,
    fun b x => by
      by_cases q : b = a
      · subst q; rw [upd_same]; simp
      · rw [upd_ne q]; exact x⟩
/-- an owned list gets other items -/
theorem EnvOk.mut {i k : Nat} {a : Addr} {T fqn rm : List Addr} {vs' : List V} {ds' : List D} {p : Bool} (E : EnvOk K as Z (orL W T) H r σ fp) (hi : i < r.length) (hv : σ[i]? = some (some (.ref a)))
    (pm : T.Perm ((a :: fqn) ++ rm)) (nd : T.Nodup) (nw : ∀ x ∈ T, ¬ W x) (ol : OwnL K (orL Z rm) H ds' k vs' fqn) (hp : p = true → as[i]? = some (.ref a)) :
    EnvOk K as (orL Z rm) W (upd H a (.lst vs')) (r.set i (some ⟨.lst ds', k + 1, p⟩)) σ (fset fp i (a :: fqn)) ∧ Keep Z W H (orL Z rm) (upd H a (.lst vs')) := by
  have mem : ∀ x, x ∈ T ↔ x ∈ a :: fqn ∨ x ∈ rm := fun x => by rw [pm.mem_iff, List.mem_append]
  have nd2 := List.nodup_append.mp (pm.nodup_iff.mp nd)
  have ha : a ∈ T := (mem a).mpr (.inl (by simp))
  have haf : a ∉ fqn := (List.nodup_cons.mp nd2.1).1
  have E1 : EnvOk K as Z (orL (orL W (a :: fqn)) rm) H r σ fp := E.less fun x w => by
    rcases w with (w | w) | w
    · exact .inl w
    · exact .inr ((mem x).mpr (.inl w))
    · exact .inr ((mem x).mpr (.inr w))
  have E2 := E1.frz fun x m w => by
    rcases w with w | w
    · exact nw x ((mem x).mpr (.inr m)) w
    · exact nd2.2.2 x w x m rfl
  have hz : ¬ orL Z rm a := fun z => E2.zw a z (.inr (by simp))
  have hl : H a ≠ none := E.lw a (.inr ha)
  have E3 := E2.keep (Z' := orL Z rm) (H' := upd H a (.lst vs')) (keep_upd hz (fun ⟨j, m⟩ => (E2.nz j a m).2 (.inr (by simp))) hl) fun x z => .inl z
  refine ⟨E3.back (e := ⟨.lst ds', k + 1, p⟩) hi hv ?_ nd2.1 (fun x m => nw x ((mem x).mpr (.inl m))) hp, keep_more.trans (keep_upd hz (nw a ha) hl)⟩
  rw [Own]
  exact ⟨a, vs', fqn, rfl, upd_same, rfl, ol.keep (W := fun x => x ∈ fqn) (keep_upd hz haf hl) fun x m => m⟩
theorem OwnL.snoc {n : Nat} : ∀ {ds : List D} {vs : List V} {f g : List Addr} {d : D} {v : V}, OwnL K Z H ds n vs f → Own K Z H d n v g → OwnL K Z H (ds ++ [d]) n (vs ++ [v]) (f ++ g)
  | [], vs, f, g, d, v, h, o => by
    rw [OwnL] at h
    rw [h.1, h.2, List.nil_append, List.nil_append, List.nil_append, OwnL]
    refine ⟨v, [], g, [], rfl, by simp, o, ?_⟩
    rw [OwnL]; exact ⟨rfl, rfl⟩
  | d0 :: ds, vs, f, g, d, v, h, o => by
    rw [OwnL] at h
    obtain ⟨u, ws, f1, f2, rfl, rfl, o1, o2⟩ := h
    rw [List.cons_append, OwnL]
    exact ⟨u, ws ++ [v], f1, f2 ++ g, rfl, by rw [List.append_assoc], o1, OwnL.snoc o2 o⟩
theorem OwnL.set0 : ∀ {ds : List D} {vs : List V} {d : D} {v : V} (j : Nat), OwnL K Z H ds 0 vs [] → Own K Z H d 0 v [] → OwnL K Z H (ds.set j d) 0 (vs.set j v) []
  | [], vs, d, v, j, h, o => by rw [OwnL] at h; rw [h.1, List.set_nil, List.set_nil, OwnL]; exact ⟨rfl, rfl⟩
  | d0 :: ds, vs, d, v, j, h, o => by
    rw [OwnL] at h
    obtain ⟨u, ws, f1, f2, rfl, e, o1, o2⟩ := h
    obtain ⟨rfl, rfl⟩ := List.append_eq_nil_iff.mp e.symm
    cases j with
    | zero => rw [List.set_cons_zero, List.set_cons_zero, OwnL]; exact ⟨v, ws, [], [], rfl, rfl, o, o2⟩
    | succ j => rw [List.set_cons_succ, List.set_cons_succ, OwnL]; exact ⟨u, _, [], [], rfl, rfl, o1, OwnL.set0 j o2 o⟩
/-- the entry's list, taken out -/
theorem EnvOk.takeL {i m : Nat} {l : List D} {p : Bool} (E : EnvOk K as Z W H r σ fp) (g : getE r i = some ⟨.lst l, m + 1, p⟩) :
    ∃ a vs fq, σ[i]? = some (some (.ref a)) ∧ H a = some (.lst vs) ∧ fp i = a :: fq ∧ OwnL K Z H l m vs fq ∧ (p = true → as[i]? = some (.ref a)) ∧ EnvOk K as Z (orL W (fp i)) H (r.set i none) σ (fset fp i []) := by
  obtain ⟨Et, v, hv, o, hp⟩ := E.take g
  have o : Own K Z H (.lst l) (m + 1) v (fp i) := o
  rw [Own] at o
  obtain ⟨a, vs, fq, rfl, h1, h2, ol⟩ := o
  exact ⟨a, vs, fq, hv, h1, h2, ol, hp, Et⟩
theorem lst_at {i : Nat} (E : EnvOk K as Z W H r σ fp) (h : isLstAt r i = true) : ∃ a vs, σ[i]? = some (some (.ref a)) ∧ H a = some (.lst vs) := by
  unfold isLstAt at h
  split at h
  · rename_i l n p g
    obtain ⟨v, hv, o, _⟩ := E.ent i _ g
    have rv := o.rv
    simp only at rv
    rw [Rv] at rv
    obtain ⟨a, vs, rfl, h1, _⟩ := rv
    exact ⟨a, vs, hv, h1⟩
  · cases h
theorem st_app {i : Nat} {e : E} {D : Ends} (h : TSx K as XW (ex cf (.app i e)) D σ H) :
    ∃ a vs, σ[i]? = some (some (.ref a)) ∧ H a = some (.lst vs) ∧ TE1 K as XW (ev cf e) σ H fun y H1 => ∃ xs, H1 a = some (.lst xs) ∧ xs.length < sizeLine ∧ D.nx σ (upd H1 a (.lst (xs ++ [y]))) := by
  obtain ⟨Z, W, r, fp, E, h⟩ := h
  simp only [ex] at h
  by_cases hl : isLstAt r i = true
  · rw [if_pos hl] at h
    obtain ⟨a, vs, hv, h1⟩ := lst_at E hl
    refine ⟨a, vs, hv, h1, ?_⟩
    refine te_one (F := fun y => match getE y.2.2 i with
      | some ⟨.lst l, m + 1, p⟩ => if decide (l.length < 16777216) then .val (.nx (y.2.2.set i (some ⟨.lst (l ++ [y.1]), min m y.2.1 + 1, p⟩))) else .bad
      | _ => .bad) (D := D) ⟨Z, W, r, fp, E, h⟩ ?_
    intro Z W r fp fq d l v H1 E o nd nw h
    simp only at h
    split at h
    · rename_i l0 m p g
      split at h
      · rename_i hz
        obtain ⟨a', vs0, fq0, hv', h2, e3, ol, hp, Et⟩ := E.takeL g
        rw [hv] at hv'
        cases hv'
        obtain ⟨fq1, rm1, p1, lo1⟩ := ol.lower (min m l) (Nat.min_le_left _ _)
        obtain ⟨fq2, rm2, p2, lo2⟩ := o.lower (min m l) (Nat.min_le_right _ _)
        have hz : l0.length < 16777216 := of_decide_eq_true hz
        have hlen : vs0.length < sizeLine := by rw [ol.len, sizeLine_eq]; exact hz
        have pm : (fp i ++ fq).Perm ((a :: (fq1 ++ fq2)) ++ (rm1 ++ rm2)) := by
          rw [e3]
          show (a :: (fq0 ++ fq)).Perm (a :: (fq1 ++ fq2 ++ (rm1 ++ rm2)))
          exact ((p1.append p2).trans (perm4 fq1 rm1 fq2 rm2)).cons a
        have nd2 : (fp i ++ fq).Nodup := List.nodup_append.mpr ⟨E.nd i, nd, fun x m1 y m2 e => (E.nz i x m1).2 (.inr (e ▸ m2))⟩
        have E2 : EnvOk K as Z (orL W (fp i ++ fq)) H1 (r.set i none) σ (fset fp i []) := Et.less fun x w => by
          rcases w with w | w
          · exact .inl (.inl w)
          · rcases List.mem_append.mp w with w | w
            · exact .inr w
            · exact .inl (.inr w)
        have nw2 : ∀ x ∈ fp i ++ fq, ¬ W x := fun x m w => by
          rcases List.mem_append.mp m with m | m
          · exact (E.nz i x m).2 (.inl w)
          · exact nw x m w
        have on : OwnL K (orL Z (rm1 ++ rm2)) H1 (l0 ++ [d]) (min m l) (vs0 ++ [v]) (fq1 ++ fq2) :=
          OwnL.snoc (lo1 _ (fun x z => .inl z) fun x m => .inr (by simp [m])) (lo2 _ (fun x z => .inl z) fun x m => .inr (by simp [m]))
        obtain ⟨Em, km⟩ := E2.mut (k := min m l) (p := p) (by rw [List.length_set]; exact getE_lt g) hv pm nd2 nw2 on hp
        rw [List.set_set] at Em
        exact ⟨vs0, h2, hlen, h σ _ _ _ Em km⟩
      · exact h.elim
    · exact h.elim
  · rw [if_neg hl] at h; exact h.elim
theorem st_ext {i : Nat} {e : E} {D : Ends} (h : TSx K as XW (ex cf (.ext i e)) D σ H) :
    ∃ a vs, σ[i]? = some (some (.ref a)) ∧ H a = some (.lst vs) ∧ TE1 K as XW (ev cf e) σ H fun y H1 => ∃ b xs zs, y = .ref b ∧ H1 a = some (.lst xs) ∧ H1 b = some (.lst zs) ∧ xs.length + zs.length ≤ sizeLine ∧ D.nx σ (upd H1 a (.lst (xs ++ zs))) := by
  obtain ⟨Z, W, r, fp, E, h⟩ := h
  simp only [ex] at h
  by_cases hl : isLstAt r i = true
  · rw [if_pos hl] at h
    obtain ⟨a, vs, hv, h1⟩ := lst_at E hl
    refine ⟨a, vs, hv, h1, Z, W, r, fp, E, ?_⟩
    cases e1 : ev cf e r with
    | bad => rw [e1] at h; exact h
    | exc x r1 => rw [e1] at h; exact fun Z' H' fp' E' k' => h σ Z' H' fp' E' k'
    | val y =>
      obtain ⟨rs, r1⟩ := y
      rw [e1] at h
      simp only [Out.bind_val] at h
      cases e2 : bor1 false rs r1 with
      | none => rw [e2] at h; exact h.elim
      | some y =>
        obtain ⟨ds, r2⟩ := y
        rw [e2] at h
        simp only [Out.of_some, Out.bind_val] at h
        match rs, e2 with
        | [q], e2 =>
          replace e2 : bor false [q] r1 = some ([ds], r2) := by
            simp only [bor1] at e2
            split at e2
            · rename_i d r3 e3; cases e2; exact e3
            · cases e2
          intro vs1 Z1 H1 fp1 fq1 E1 R1 nd1 nw1 k1
          obtain ⟨v, rfl⟩ := sing (v := .non) R1
          refine ⟨v, rfl, ?_⟩
          obtain ⟨Z2, fp2, E2, hz, al⟩ := bor_ok E1 R1 nd1 nw1 e2
          split at h
          · rename_i q0 l m p g gz
            obtain ⟨v', zs, e5, ⟨_, bd⟩, _⟩ := al
            cases e5
            obtain ⟨b, ws, rfl, hb, ob⟩ := bd_lst (bd rfl)
            split at h
            · rename_i hs
              obtain ⟨a', vs0, fq0, hv', h2, e3, ol, hp, Et⟩ := E2.takeL g
              rw [hv] at hv'
              cases hv'
              have ol0 := ol.lower 0 (Nat.zero_le _)
              obtain ⟨f0, rm0, p0, lo0⟩ := ol0
              have on1 := lo0 (orL Z2 rm0) (fun x z => .inl z) fun x m => .inr m
              have e6 := on1.fp0
              subst e6
              have on : OwnL K (orL Z2 rm0) H1 (l ++ q0) 0 (vs0 ++ ws) [] := on1.app (ob.keep (W := nW) keep_more (by simp))
              obtain ⟨Em, km⟩ := EnvOk.mut (T := fp2 i) (rm := rm0) (fqn := []) (k := 0) (p := p) Et (by rw [List.length_set]; exact getE_lt g) hv (by rw [e3]; exact p0.cons a) (E2.nd i) (fun x m => (E2.nz i x m).2) on hp
              rw [List.set_set] at Em
              refine ⟨b, vs0, ws, rfl, h2, hb, ?_, h σ _ _ _ Em (k1.trans ((keepZ hz).trans km))⟩
              rw [ol.len, ob.len]; exact sz_le hs
            · exact h.elim
          · exact h.elim
        | [], e2 => cases e2
        | q1 :: q2 :: t, e2 => cases e2
  · rw [if_neg hl] at h; exact h.elim
end
end Bk
/-! Bk: calls of defs. -/
namespace Bk
open L2 PyProof.Rows PySem.Spec PySem
/-- a def's promise where no repr runs around -/
structure FnG (P : Program) (w : World) (K : PySem.W.Frag) (mg : Str → Option Value) (base : Heap) (CX : CXT) (k : Nat) (f : Addr) (fd : FuncData) (ps : List Str) (sp : Sp) : Prop where
  len : ∀ vs H Q E, sp vs H Q E → vs.length = ps.length
  run : ∀ (A : Around) (outer : List PySem.Env) (s : Shared) (H : Hp) (args : Args) (us : List Value) (vs : List V) (Q : VK) (E : XK), A.guards = some [] → Room k A → Env0 P w K mg base A outer s H →
    BindsTo s fd args (ps.zip us) → Vals vs us → sp vs H Q E → codeAny (model P w) A (.call (.ref f) args) (CR CX outer P w H s Q E) s
section
variable {X : Cx} {CX : CXT} {k : Nat} {f C : Addr} {fd : FuncData} {ps : List Str} {sp : Sp} {E : XK} {x m : Str} {p pos apos : Pos} {e o : Expr} {es : List Expr} {ta : TE} {t : TA}
theorem runG {pins : List (Addr × Obj)} {σ : Sl} {H : Hp} {s : Shared} {Q : VK} {us : List Value} {vs : List V} (F : FnG X.prog X.w X.K X.mg X.base CX k f fd ps sp) (hg : X.A.guards = some []) (hr : Room k X.A)
    (hb : Binds X.K fd ps []) (hx : Passes CX X E) (I : Inv X pins σ H s) (r : Vals vs us) (h : sp vs H Q E) : wpAny (model X.prog X.w) X.A (call (.ref f) us) (EP X pins σ Q) X.xe s := by
  have hl : (us ++ []).length = ps.length := by
    rw [List.append_nil, ← r.length]
    exact F.len _ _ _ _ h
  have bt := hb s us I.kIn hl
  rw [List.append_nil] at bt
  have go := F.run X.A X.stack s H ⟨us, []⟩ us vs Q E hg hr I.env0 bt r h
  refine wpAny_call (codeAny_mono go fun res s' hq => ?_)
  match res, hq with
  | .error e, hq => exact hx pins σ H s e s' I hq
  | .ok (.ret u), hq => exact I.after hq
  | .ok .next, hq => exact hq.elim
  | .ok .brk, hq => exact hq.elim
  | .ok .cont, hq => exact hq.elim
/-- f(..) of a def of the text -/
theorem pe_callG (F : FnG X.prog X.w X.K X.mg X.base CX k f fd ps sp) (hg : X.A.guards = some []) (hr : Room k X.A) (hgl : Gl X x) (hm : X.mg x = some (.ref f)) (hk : PySem.W.keepIn X.K (.ref f) = true) (hb : Binds X.K fd ps [])
    (hx : Passes CX X E) (ha : PA X (e :: es) t) (hdb : (x == ("__debug__" : Str)) = false) (he : starEach (e :: es) X.env = (false, eval e X.env) :: starEach es X.env) (hpl : (backTo pos (starEach es X.env)).any (·.1) = false) :
    PE X (.Call (.Name x p) (e :: es) [] pos) fun σ H Q => t σ H fun vs H1 => sp vs H1 Q E := by
  refine ⟨fun pins s σ H Q I h => wpAny_Call_Name_kw (ld_glob I hgl hm ?_ hdb)⟩
  refine PySem.W.callWith_K (h₀ := X.base) I.ok.mod.kin hk ?_ he hpl
  exact thn (ha.run pos pins s σ H _ I h) fun us s1 ⟨vs, H1, I1, r, q⟩ => ⟨I1.kIn, runG F hg hr hb hx I1 r q⟩
theorem pe_callG0 (F : FnG X.prog X.w X.K X.mg X.base CX k f fd ps sp) (hg : X.A.guards = some []) (hr : Room k X.A) (hgl : Gl X x) (hm : X.mg x = some (.ref f)) (hk : PySem.W.keepIn X.K (.ref f) = true) (hb : Binds X.K fd ps [])
    (hx : Passes CX X E) (hdb : (x == ("__debug__" : Str)) = false) : PE X (.Call (.Name x p) [] [] pos) fun σ H Q => sp [] H Q E :=
  ⟨fun pins s σ H Q I h => wpAny_Call_Name_kw (ld_glob I hgl hm (PySem.W.callWith_K0 I.kIn hk (runG (us := []) F hg hr hb hx I .nil h)) hdb)⟩
end
/-- the rule of a def's body -/
theorem fnG_of {CX : CXT} {P : Program} {w : World} {K : PySem.W.Frag} {mg : Str → Option Value} {base : Heap} {k : Nat} {f : Addr} {name qual : Str} {params : Arguments} {body : List Stmt} {scope : Scope} {dV kV doc pm cdv ct oc : Value}
    {an od : Option Addr} {osl : Array (Option Value)} {N ps : List Str} {sp : Sp} (lk : K.lookup f = some ⟨oc, od, .func (PySem.W.fnOf name qual params body scope dV kV doc pm an cdv ct), osl⟩) (hcd : PySem.W.codeIn K cdv qual = true)
    (S : FnScope N ps scope) (len : ∀ vs H Q E, sp vs H Q E → vs.length = ps.length)
    (hbody : ∀ (A : Around) (outer : List PySem.Env) (s : Shared) (H : Hp) (vs : List V) (Q : VK) (E : XK), (A.deeper (envOfC qual scope s.heap.objs.size f cdv)).guards = some [] → Room k (A.deeper (envOfC qual scope s.heap.objs.size f cdv)) →
      sp vs H Q E → ∃ t, PSs (cxOf CX P w K mg base N qual scope f cdv A outer s H E) body t ∧ t { nx := fun _ H' => Q .non H', rt := Q } (start N vs) H) :
    FnG P w K mg base CX (k + 1) f (PySem.W.fnOf name qual params body scope dV kV doc pm an cdv ct) ps sp := by
  refine ⟨len, fun A outer s H args us vs Q E hg hr e0 hb r hsp => ?_⟩
  have stays : ∀ b o, base.get? b = some o → s.heap.get? b = some o := fun b o e => (e0.bs b o e).1
  have KX : K.In s.heap := e0.mod.kin.keeps stays
  have lim : s.heap.NoLimit := e0.mod.nolimit.keeps stays
  have hkind : ∀ y ∈ ps.zip us, scope.names.lookup y.1 = some .local ∨ (scope.names.lookup y.1 = some .cell ∧ ((cellsFrom (s.heap.objs.size + 1) scope.names []).lookup y.1).isSome = true) := by
    rintro ⟨n, v⟩ hy
    cases S.par n (List.of_mem_zip hy).1 with
    | inl q => exact .inl q
    | inr q => exact .inr ⟨q, PySem.W.cellsFrom_some _ _ _ (.inl q)⟩
  have bt : BindsTo s (PySem.W.fnOf name qual params body scope dV kV doc pm an cdv ct) args (ps.zip us) := hb
  refine codeAny_call_function hr.depth (KX _ _ lk) rfl S.co S.gen rfl (PySem.W.codeRec_of KX hcd) (bt _ _ _ _ ?_)
  refine wpAny_newFunctionEnv_cells S.kind hkind fun env he s1 x => ?_
  subst he
  refine ⟨lim.keeps x.toInCall.keep, codeAny_func ?_⟩
  obtain ⟨t, ht, hq⟩ := hbody A outer s H vs Q E hg (hr.deeper _) hsp
  have I := inv_start (CX := CX) (mg := mg) (base := base) (E := E) S hr.hd e0 (len _ _ _ _ hsp) r x
  refine wpAny_mono (ht.run [] s1 (L2.start N vs) H _ I hq) (fun fl s' hs => ?_) (fun _ _ hx => hx)
  match fl, hs with
  | .ret u, ⟨v, σ', H', J, rv, q⟩ => exact ⟨v, H', J.os, J.bare, J.base, J.hok, rv, q⟩
  | .next, ⟨σ', H', J, q⟩ => exact ⟨V.non, H', J.os, J.bare, J.base, J.hok, rfl, q⟩
  | .brk, ⟨_, _, _, q⟩ => exact q.elim
  | .cont, ⟨_, _, _, q⟩ => exact q.elim
/-! ### the arguments -/
def ArgsOk (K : PySem.W.Frag) (Z : Pr) (H : Hp) : List (D × Nat) → List V → List (List Addr) → Prop
  | [], vs, fs => vs = [] ∧ fs = []
  | a :: as, vs, fs => ∃ v ws f gs, vs = v :: ws ∧ fs = f :: gs ∧ Own K Z H a.1 a.2 v f ∧ ArgsOk K Z H as ws gs
theorem lend_ok {K : PySem.W.Frag} {a0 : List V} {H : Hp} {σ : Sl} {Z : Pr} : ∀ {rs : List R} {W : Pr} {r r' : Env} {as : List (D × Nat)} {fp : Nat → List Addr} {vs : List V} {fq : List Addr},
    EnvOk K a0 Z (orL W fq) H r σ fp → RepRs K Z H σ rs vs fq → fq.Nodup → (∀ a ∈ fq, ¬ W a) → lend rs r = some (as, r') →
    ∃ fs fp', EnvOk K a0 Z (orL W fs.flatten) H r' σ fp' ∧ ArgsOk K Z H as vs fs ∧ fs.flatten.Nodup ∧ (∀ a ∈ fs.flatten, ¬ W a)
  | [], W, r, r', as, fp, vs, fq, E, hr, nd, nw, hb => by
    simp only [lend, Option.some.injEq, Prod.mk.injEq] at hb
    obtain ⟨rfl, rfl⟩ := hb
    exact ⟨[], fp, E.less fun a w => w.elim .inl fun w => by simp at w, ⟨hr.1, rfl⟩, List.nodup_nil, by simp⟩
  | .vr i :: rs, W, r, r', as, fp, vs, fq, E, hr, nd, nw, hb => by
    obtain ⟨v, ws, e1, s, os⟩ := hr
    simp only [lend] at hb
    split at hb
    · cases hb
    · rename_i en g
      split at hb
      · cases hb
      · rename_i ds' r2 hb'
        simp only [Option.some.injEq, Prod.mk.injEq] at hb
        obtain ⟨rfl, rfl⟩ := hb
        by_cases h0 : en.l = 0
        · rw [if_pos h0] at hb'
          obtain ⟨v', hv, o, _⟩ := E.ent i en g
          rw [s] at hv; cases hv
          obtain ⟨fs, fp', E', al, nd', nw'⟩ := lend_ok E os nd nw hb'
          have o' := o
          rw [h0] at o'
          have e4 := o'.fp0
          rw [e4] at o
          exact ⟨[] :: fs, fp', by simpa using E', ⟨v, ws, [], fs, e1, rfl, o, al⟩, by simpa using nd', by simpa using nw'⟩
        · rw [if_neg h0] at hb'
          obtain ⟨Et, v', hv, o, _⟩ := E.take g
          rw [s] at hv; cases hv
          have E1 : EnvOk K a0 Z (orL (orL W (fp i)) fq) H (r.set i none) σ (fset fp i []) := Et.less fun a w => by
            rcases w with (w | w) | w
            · exact .inl (.inl w)
            · exact .inr w
            · exact .inl (.inr w)
          obtain ⟨fs, fp', E', al, nd', nw'⟩ := lend_ok E1 os nd (fun a m w => by
            rcases w with w | w
            · exact nw a m w
            · exact (E.nz i a w).2 (.inr m)) hb'
          refine ⟨fp i :: fs, fp', E'.less fun a w => ?_, ⟨v, ws, fp i, fs, e1, rfl, o, al⟩, ?_, fun a m w => ?_⟩
          · rcases w with w | w
            · exact .inl (.inl w)
            · rw [List.flatten_cons, List.mem_append] at w
              rcases w with w | w
              · exact .inl (.inr w)
              · exact .inr w
          · rw [List.flatten_cons]
            exact List.nodup_append.mpr ⟨E.nd i, nd', fun a m1 b m2 e => nw' b m2 (.inr (e ▸ m1))⟩
          · rw [List.flatten_cons, List.mem_append] at m
            rcases m with m | m
            · exact (E.nz i a m).2 (.inl w)
            · exact nw' a m (.inl w)
  | .vl d l :: rs, W, r, r', as, fp, vs, fq, E, hr, nd, nw, hb => by
    obtain ⟨v, ws, f, g, e1, e2, o, os⟩ := hr
    subst e2
    simp only [lend] at hb
    split at hb
    · cases hb
    · rename_i ds' r2 hb'
      simp only [Option.some.injEq, Prod.mk.injEq] at hb
      obtain ⟨rfl, rfl⟩ := hb
      have nd' := List.nodup_append.mp nd
      have E1 : EnvOk K a0 Z (orL (orL W f) g) H r σ fp := E.less fun a w => by
        rcases w with (w | w) | w
        · exact .inl w
        · exact .inr (by simp [w])
        · exact .inr (by simp [w])
      obtain ⟨fs, fp', E', al, nd2, nw2⟩ := lend_ok E1 os nd'.2.1 (fun a m w => by
        rcases w with w | w
        · exact nw a (by simp [m]) w
        · exact nd'.2.2 a w a m rfl) hb'
      refine ⟨f :: fs, fp', E'.less fun a w => ?_, ⟨v, ws, f, fs, e1, rfl, o, al⟩, ?_, fun a m w => ?_⟩
      · rcases w with w | w
        · exact .inl (.inl w)
        · rw [List.flatten_cons, List.mem_append] at w
          rcases w with w | w
          · exact .inl (.inr w)
          · exact .inr w
      · rw [List.flatten_cons]
        exact List.nodup_append.mpr ⟨nd'.1, nd2, fun a m1 b m2 e => nw2 b m2 (.inr (e ▸ m1))⟩
      · rw [List.flatten_cons, List.mem_append] at m
        rcases m with m | m
        · exact nw a (by simp [m]) w
        · exact nw2 a m (.inl w)
end Bk
/-! Bk: a call's reading. -/
namespace Bk
open L2 PyProof.Rows PySem.Spec PySem
section
variable {K : PySem.W.Frag} {as : List V} {Z W : Pr} {H : Hp} {r : Env} {σ : Sl} {fp : Nat → List Addr}
/-- behind a call: what is frozen then lies apart from what is ours -/
theorem EnvOk.behind {Z' : Pr} {H' : Hp} (h : EnvOk K as Z W H r σ fp) (k : Keep Z (inF fp) H Z' H') (zw : ∀ a, Z' a → ¬ W a) (zf : ∀ a, Z' a → ∀ i, a ∉ fp i) (lz : ∀ a, Z' a → H' a ≠ none) : EnvOk K as Z' W H' r σ fp :=
  ⟨h.len, fun i e g => let ⟨v, hv, o, hp⟩ := h.ent i e g; ⟨v, hv, o.keep k fun a ha => ⟨i, ha⟩, hp⟩, h.emp, h.nd, h.dj, fun i a m => ⟨fun z => zf a z i m, (h.nz i a m).2⟩, zw, lz,
    fun a w => k.lv a (h.lw a w), fun i a m => k.lv a (h.lf i a m)⟩
theorem pOf_ok (E : EnvOk K as Z W H r σ fp) (i : Nat) (v : V) (h : pOf r i = true) (hv : σ[i]? = some (some v)) : as[i]? = some v := by
  unfold pOf at h
  split at h
  · rename_i e g
    obtain ⟨v', hv', o, hp⟩ := E.ent i e g
    rw [hv'] at hv
    cases hv
    exact hp h
  · cases h
theorem back_ok {vs0 : List V} {Wc : Pr} {fq : List Addr} {rc : Env} {σc : Sl} {fpc : Nat → List Addr} (Ec : EnvOk K vs0 Z (orL Wc fq) H rc σc fpc) (hW : ∀ a, W a → Wc a) {r0 : Env} (h00 : ∀ i v, pOf r0 i = true → σ[i]? = some (some v) → as[i]? = some v) :
    ∀ (rs : List R) (outs : List (Option (D × Nat))) (j : Nat) (r : Env) (fp : Nat → List Addr), EnvOk K as Z (orL W fq) H r σ fp → (∀ i a, a ∈ fp i → Wc a ∨ ∃ m, m < j ∧ a ∈ fpc m) →
      (∀ (m : Nat) (d : D) (l : Nat), outs[m]? = some (some (d, l)) → getE rc (j + m) = some ⟨d, l, true⟩) → (∀ (m i : Nat), rs[m]? = some (R.vr i) → ∃ v, σ[i]? = some (some v) ∧ vs0[j + m]? = some v) →
      (∀ (m i : Nat), rs[m]? = some (R.vr i) → i < r.length) → ∃ fp', EnvOk K as Z (orL W fq) H (back rs outs r0 r) σ fp'
  | [], _, j, r, fp, E, _, _, _, _ => ⟨fp, by simpa [back] using E⟩
  | .vl d l :: rs, [], j, r, fp, E, _, _, _, _ => ⟨fp, by simpa [back] using E⟩
  | .vr i :: rs, [], j, r, fp, E, _, _, _, _ => ⟨fp, by simpa [back] using E⟩
  | .vl d l :: rs, o :: os, j, r, fp, E, h1, h2, h3, h4 => by
    simp only [back]
    refine back_ok Ec hW h00 rs os (j + 1) r fp E (fun i a m => ?_) (fun m d l e => ?_) (fun m i e => ?_) fun m i e => h4 (m + 1) i (by simpa using e)
    · rcases h1 i a m with w | ⟨n, hn, w⟩
      · exact .inl w
      · exact .inr ⟨n, by omega, w⟩
    · have := h2 (m + 1) d l (by simpa using e)
      rwa [show j + 1 + m = j + (m + 1) by omega]
    · have := h3 (m + 1) i (by simpa using e)
      rwa [show j + 1 + m = j + (m + 1) by omega]
  | .vr i :: rs, none :: os, j, r, fp, E, h1, h2, h3, h4 => by
    simp only [back]
    refine back_ok Ec hW h00 rs os (j + 1) r fp E (fun i a m => ?_) (fun m d l e => ?_) (fun m i e => ?_) fun m i e => h4 (m + 1) i (by simpa using e)
    · rcases h1 i a m with w | ⟨n, hn, w⟩
      · exact .inl w
      · exact .inr ⟨n, by omega, w⟩
    · have := h2 (m + 1) d l (by simpa using e)
      rwa [show j + 1 + m = j + (m + 1) by omega]
    · have := h3 (m + 1) i (by simpa using e)
      rwa [show j + 1 + m = j + (m + 1) by omega]
  | .vr i :: rs, some (d, l) :: os, j, r, fp, E, h1, h2, h3, h4 => by
    simp only [back]
    have n2 : ∀ m d l, os[m]? = some (some (d, l)) → getE rc (j + 1 + m) = some ⟨d, l, true⟩ := fun m d l e => by
      have := h2 (m + 1) d l (by simpa using e)
      rwa [show j + 1 + m = j + (m + 1) by omega]
    have n3 : ∀ (m i : Nat), rs[m]? = some (R.vr i) → ∃ v, σ[i]? = some (some v) ∧ vs0[j + 1 + m]? = some v := fun m i e => by
      have := h3 (m + 1) i (by simpa using e)
      rwa [show j + 1 + m = j + (m + 1) by omega]
    by_cases g : (getE r i).isNone = true
    · rw [if_pos g]
      have g : getE r i = none := by simpa using g
      have gc := h2 0 d l rfl
      obtain ⟨v, hv, o, hp⟩ := Ec.ent (j + 0) _ gc
      have hp := hp rfl
      obtain ⟨v', hv', hv2⟩ := h3 0 i rfl
      rw [hp] at hv2
      cases hv2
      have hi := h4 0 i rfl
      have Em : EnvOk K as Z (orL (orL W fq) (fpc (j + 0))) H r σ fp := E.more (fun a m => Ec.lf _ a m) (fun a m => (Ec.nz _ a m).1) fun a m i' m2 => by
        rcases h1 i' a m2 with w | ⟨n, hn, w⟩
        · exact (Ec.nz _ a m).2 (.inl w)
        · have := Ec.dj _ _ a m w; omega
      have E2 := Em.back (e := ⟨d, l, pOf r0 i⟩) hi hv' o (Ec.nd _) (fun a m w => (Ec.nz _ a m).2 (w.elim (fun w => .inl (hW a w)) .inr)) (fun h => h00 i v h hv')
      refine back_ok Ec hW h00 rs os (j + 1) _ _ E2 (fun i' a m => ?_) n2 n3 fun m i e => by rw [List.length_set]; exact h4 (m + 1) i (by simpa using e)
      by_cases e : i' = i
      · simp only [fset, if_pos e] at m
        exact .inr ⟨j + 0, by omega, m⟩
      · simp only [fset, if_neg e] at m
        rcases h1 i' a m with w | ⟨n, hn, w⟩
        · exact .inl w
        · exact .inr ⟨n, by omega, w⟩
    · rw [if_neg g]
      refine back_ok Ec hW h00 rs os (j + 1) r fp E (fun i a m => ?_) n2 n3 fun m i e => h4 (m + 1) i (by simpa using e)
      rcases h1 i a m with w | ⟨n, hn, w⟩
      · exact .inl w
      · exact .inr ⟨n, by omega, w⟩
/-- the promise of a def by the small language's meaning -/
def spG (K : PySem.W.Frag) (T : List Fn) (kd fid : Nat) : Sp := fun vs H Q _ => ∃ (Z W : Pr) (as : List (D × Nat)) (fs : List (List Addr)) (d : D) (l : Nat) (outs : List (Option (D × Nat))),
  ArgsOk K Z H as vs fs ∧ fs.flatten.Nodup ∧ (∀ a ∈ fs.flatten, ¬ Z a ∧ ¬ W a ∧ H a ≠ none) ∧ (∀ a, Z a → ¬ W a) ∧ (∀ a, Z a → H a ≠ none) ∧ (∀ a, W a → H a ≠ none) ∧ callF T kd fid as = .val (d, l, outs) ∧
  ∀ v Z' H' fq r' σ' fp', EnvOk K vs Z' (orL W fq) H' r' σ' fp' → outs = outsOf as.length r' → Own K Z' H' d l v fq → fq.Nodup → (∀ a ∈ fq, ¬ W a) → Keep Z W H Z' H' → Q v H'
theorem lend_vars : ∀ {rs : List R} {r r' : Env} {as : List (D × Nat)}, lend rs r = some (as, r') → r'.length = r.length ∧ (∀ (m i : Nat), rs[m]? = some (R.vr i) → i < r.length) ∧ as.length = rs.length
  | [], r, r', as, h => by
    simp only [lend, Option.some.injEq, Prod.mk.injEq] at h
    obtain ⟨rfl, rfl⟩ := h
    exact ⟨rfl, fun m i e => by simp at e, rfl⟩
  | .vr i :: rs, r, r', as, h => by
    simp only [lend] at h
    split at h
    · cases h
    · rename_i en g
      split at h
      · cases h
      · rename_i ds r2 h2
        simp only [Option.some.injEq, Prod.mk.injEq] at h
        obtain ⟨rfl, rfl⟩ := h
        obtain ⟨a, b, c⟩ := lend_vars h2
        have hl : (if en.l = 0 then r else r.set i none).length = r.length := by split <;> simp
        refine ⟨a.trans hl, fun m j e => ?_, by simp [c]⟩
        cases m with
        | zero => cases e; exact getE_lt g
        | succ m => exact hl ▸ b m j (by simpa using e)
  | .vl d l :: rs, r, r', as, h => by
    simp only [lend] at h
    split at h
    · cases h
    · rename_i ds r2 h2
      simp only [Option.some.injEq, Prod.mk.injEq] at h
      obtain ⟨rfl, rfl⟩ := h
      obtain ⟨a, b, c⟩ := lend_vars h2
      refine ⟨a, fun m j e => ?_, by simp [c]⟩
      cases m with
      | zero => cases e
      | succ m => exact b m j (by simpa using e)
theorem RepRs.var : ∀ {rs : List R} {vs : List V} {fq : List Addr}, RepRs K Z H σ rs vs fq → ∀ (m i : Nat), rs[m]? = some (R.vr i) → ∃ v, σ[i]? = some (some v) ∧ vs[m]? = some v
  | [], _, _, _, m, i, e => by simp at e
  | .vr j :: rs, vs, fq, h, m, i, e => by
    obtain ⟨v, ws, rfl, s, o⟩ := h
    cases m with
    | zero => cases e; exact ⟨v, s, rfl⟩
    | succ m =>
      obtain ⟨u, h1, h2⟩ := RepRs.var o m i (by simpa using e)
      exact ⟨u, h1, by simpa using h2⟩
  | .vl d l :: rs, vs, fq, h, m, i, e => by
    obtain ⟨v, ws, f, g, rfl, e2, o, os⟩ := h
    cases m with
    | zero => cases e
    | succ m =>
      obtain ⟨u, h1, h2⟩ := RepRs.var os m i (by simpa using e)
      exact ⟨u, h1, by simpa using h2⟩
theorem outs_at {n : Nat} {rc : Env} {m : Nat} {d : D} {l : Nat} (h : (outsOf n rc)[m]? = some (some (d, l))) : getE rc (0 + m) = some ⟨d, l, true⟩ := by
  unfold outsOf at h
  rw [List.getElem?_map] at h
  cases e : (rc.take n)[m]? with
  | none => rw [e] at h; cases h
  | some x =>
    rw [e] at h
    have e2 : rc[m]? = some x := by
      have := List.getElem?_eq_some_iff.mp e
      obtain ⟨h1, h2⟩ := this
      rw [List.getElem_take] at h2
      rw [List.length_take] at h1
      exact List.getElem?_eq_some_iff.mpr ⟨by omega, h2⟩
    simp only [Option.map_some, Option.some.injEq] at h
    unfold getE
    rw [Nat.zero_add, e2]
    split at h
    · rename_i d' l' 
      simp only [Option.some.injEq, Prod.mk.injEq] at h
      obtain ⟨rfl, rfl⟩ := h
      rfl
    · cases h
theorem te_call {XW : XWt} {T : List Fn} {kd f : Nat} {a : E} {Q : VK} {E : XK} (h : TE1 K as XW (ev (callF T kd) (.call f a)) σ H Q) (hx : ∀ f as e r, callF T kd f as ≠ .exc e r) :
    TAs K as XW (ev (callF T kd) a) σ H fun vs H1 => spG K T kd f vs H1 Q E := by
  obtain ⟨Z, W, r, fp, E0, h⟩ := h
  refine ⟨Z, W, r, fp, E0, ?_⟩
  simp only [ev] at h
  cases e1 : ev (callF T kd) a r with
  | bad => rw [e1] at h; exact h
  | exc x r1 => rw [e1] at h; exact h
  | val y =>
    obtain ⟨rs, r1⟩ := y
    rw [e1] at h
    intro vs Z1 H1 fp1 fq1 E1 R1 nd1 nw1 k1
    simp only [Out.bind_val] at h
    cases e2 : lend rs r1 with
    | none => rw [e2] at h; exact h.elim
    | some y =>
      obtain ⟨args, r2⟩ := y
      rw [e2] at h
      simp only [Out.of_some, Out.bind_val] at h
      cases e3 : callF T kd f args with
      | bad => rw [e3] at h; exact h.elim
      | exc x r3 => exact absurd e3 (hx _ _ _ _)
      | val z =>
        obtain ⟨d, l, outs⟩ := z
        rw [e3] at h
        simp only at h
        obtain ⟨fs, fp2, E2, al, nd2, nw2⟩ := lend_ok E1 R1 nd1 nw1 e2
        obtain ⟨hlen, hvar, halen⟩ := lend_vars e2
        refine ⟨Z1, fun a => W a ∨ inF fp2 a, args, fs, d, l, outs, al, nd2, fun a m => ⟨fun z => E2.zw a z (.inr m), fun w => ?_, E2.lw a (.inr m)⟩, fun a z w => ?_, E2.lz, fun a w => ?_, e3, ?_⟩
        · rcases w with w | ⟨i, w⟩
          · exact nw2 a m w
          · exact (E2.nz i a w).2 (.inr m)
        · rcases w with w | ⟨i, w⟩
          · exact E2.zw a z (.inl w)
          · exact (E2.nz i a w).1 z
        · rcases w with w | ⟨i, w⟩
          · exact E2.lw a (.inl w)
          · exact E2.lf i a w
        · intro v Z' H' fq r' σ' fp' Ec ho o nd nw k
          have E3 : EnvOk K as Z1 W H1 r2 σ fp2 := E2.less fun a w => .inl w
          have E4 : EnvOk K as Z' W H' r2 σ fp2 := E3.behind (k.less fun a w => .inr w) (fun a z w => Ec.zw a z (.inl (.inl w))) (fun a z i m => Ec.zw a z (.inl (.inr ⟨i, m⟩))) Ec.lz
          have E5 : EnvOk K as Z' (orL W fq) H' r2 σ fp2 := E4.more (fun a m => Ec.lw a (.inr m)) (fun a m z => Ec.zw a z (.inr m)) fun a m i m2 => nw a m (.inr ⟨i, m2⟩)
          obtain ⟨fp6, E6⟩ := back_ok Ec (W := W) (fun a w => .inl w) (pOf_ok E1) rs outs 0 r2 fp2 E5 (fun i a m => .inl (.inr ⟨i, m⟩)) (fun m d l e => outs_at (by rw [← ho]; exact e)) (fun m i e => by
            obtain ⟨u, h1, h2⟩ := R1.var m i e
            exact ⟨u, h1, by rw [Nat.zero_add]; exact h2⟩) fun m i e => hlen ▸ hvar m i e
          have hc := After.cont h
          exact hc v Z' H' fp6 fq E6 o nd (fun a m w => nw a m (.inl w)) (k1.trans (k.less fun a w => .inl w))
end
end Bk
/-! Bk: displays, branches, comprehensions. -/
namespace Bk
open L2 PyProof.Rows PySem.Spec PySem
section
variable {K : PySem.W.Frag} {as : List V} {XW : XWt} {cf : CF} {σ : Sl} {H : Hp} {Z W : Pr} {r : Env} {fp : Nat → List Addr} {Q : VK}
theorem te_tak {f : List D → Nat → Env → Out (List R × Env)} {a : E} {g : List V → Hp → Prop} {QQ : Pr → Pr → Hp → Out (List R × Env) → Prop}
    (h : ∃ Z W r fp, EnvOk K as Z W H r σ fp ∧ match (ev cf a r).bind fun x => (Out.of (tak x.1 x.2)).bind fun y => f y.1 y.2.1 y.2.2 with
      | .val ([q], r') => After K as Z W H σ [q] r' fun vs H' => ∃ v, vs = [v] ∧ Q v H'
      | .val _ => False
      | .exc x r' => AfterX K as Z W H σ r' (XW x σ)
      | .bad => False)
    (hf : ∀ ds m r, f ds m r = .bad ∨ ∃ d l, f ds m r = .val ([.vl d l], r))
    (k : ∀ Z W r fp fq ds m vs H1 d l, EnvOk K as Z (orL W fq) H1 r σ fp → OwnL K Z H1 ds m vs fq → fq.Nodup → (∀ a ∈ fq, ¬ W a) → f ds m r = .val ([.vl d l], r) → Cont K as Z W H1 r σ d l Q → g vs H1) : TAs K as XW (ev cf a) σ H g := by
  obtain ⟨Z, W, r, fp, E, h⟩ := h
  refine ⟨Z, W, r, fp, E, ?_⟩
  cases e1 : ev cf a r with
  | bad => rw [e1] at h; exact h
  | exc x r1 => rw [e1] at h; exact h
  | val y =>
    obtain ⟨rs, r1⟩ := y
    rw [e1] at h
    intro vs Z1 H1 fp1 fq1 E1 R1 nd1 nw1 k1
    simp only [Out.bind_val] at h
    cases e2 : tak rs r1 with
    | none => rw [e2] at h; exact h.elim
    | some y =>
      obtain ⟨ds, m, r2⟩ := y
      rw [e2] at h
      simp only [Out.of_some, Out.bind_val] at h
      obtain ⟨Z2, fp2, fq2, E2, hz, ol, nd2, sub⟩ := tak_ok E1 R1 nd1 nw1 e2
      rcases hf ds m r2 with e3 | ⟨d, l, e3⟩
      · rw [e3] at h; exact h.elim
      · rw [e3] at h
        refine k Z2 W r2 fp2 fq2 ds m vs H1 d l E2 ol nd2 (fun a m => nw1 a (sub a m)) e3 ?_
        intro v Z' H' fp' fq E' o nd nw k'
        exact After.cont h v Z' H' fp' fq E' o nd nw (k1.trans ((keepZ hz).trans k'))
theorem te_mkl {a : E} (h : TE1 K as XW (ev cf (.mkl a)) σ H Q) : tLst (TAs K as XW (ev cf a)) σ H Q := by
  refine te_tak (QQ := fun _ _ _ _ => True) (f := fun ds m r => if sz ds.length then .val ([.vl (.lst ds) (m + 1)], r) else .bad) h (fun ds m r => by
    by_cases h : sz ds.length = true
    · exact .inr ⟨_, _, by rw [if_pos h]⟩
    · exact .inl (by rw [if_neg h])) ?_
  intro Z W r fp fq ds m vs H1 d l E ol nd nw hf c
  by_cases hs : sz ds.length = true
  · simp only [if_pos hs, Out.val.injEq, Prod.mk.injEq, List.cons.injEq, R.vl.injEq, and_true] at hf
    obtain ⟨rfl, rfl⟩ := hf
    refine ⟨by rw [ol.len]; exact sz_le hs, fun p hn => ?_⟩
    have hp : p ∉ fq := fun m => E.lw p (.inr m) hn
    refine c (.ref p) Z _ fp (p :: fq) ((E.new hn).less fun a w => ?_) ?_ (List.nodup_cons.mpr ⟨hp, nd⟩) (fun a m w => ?_) (keep_new hn)
    · rcases w with w | w
      · exact .inl (.inl w)
      · rcases List.mem_cons.mp w with w | w
        · exact .inr (by simp [w])
        · exact .inl (.inr w)
    · rw [Own]
      exact ⟨p, vs, fq, rfl, upd_same, rfl, ol.keep (W := fun a => a ∈ fq) (keep_new hn) fun a m => m⟩
    · rcases List.mem_cons.mp m with m | m
      · subst m; exact E.lw _ (.inl w) hn
      · exact nw a m w
  · rw [if_neg hs] at hf; cases hf
theorem te_mkt {a : E} (h : TE1 K as XW (ev cf (.mkt a)) σ H Q) : tTup (TAs K as XW (ev cf a)) σ H Q := by
  refine te_tak (QQ := fun _ _ _ _ => True) (f := fun ds m r => if sz ds.length then .val ([.vl (.tup ds) 0], r) else .bad) h (fun ds m r => by
    by_cases h : sz ds.length = true
    · exact .inr ⟨_, _, by rw [if_pos h]⟩
    · exact .inl (by rw [if_neg h])) ?_
  intro Z W r fp fq ds m vs H1 d l E ol nd nw hf c
  by_cases hs : sz ds.length = true
  · simp only [if_pos hs, Out.val.injEq, Prod.mk.injEq, List.cons.injEq, R.vl.injEq, and_true] at hf
    obtain ⟨rfl, rfl⟩ := hf
    refine ⟨by rw [ol.len]; exact sz_le hs, fun p hn => ?_⟩
    have E2 := E.frz nw
    have c2 : Cont K as (orL Z fq) W H1 r σ (.tup ds) 0 Q := fun v Z' H' fp' fq E' o nd nw k' => c v Z' H' fp' fq E' o nd nw (keep_more.trans k')
    exact c2.tup E2 hn (ol.freeze (fun a z => .inl z) fun a m => .inr m)
  · rw [if_neg hs] at hf; cases hf
/-! ### branches -/
theorem te_ite {c a b : E} (h : TE1 K as XW (ev cf (.ite c a b)) σ H Q) : tIf (TTx K as XW cf c) (TE1 K as XW (ev cf a)) (TE1 K as XW (ev cf b)) σ H Q := by
  obtain ⟨Z, W, r, fp, E, h⟩ := h
  refine ⟨Z, W, r, fp, E, ?_⟩
  simp only [ev] at h
  cases e1 : ev cf c r with
  | bad => rw [e1] at h; exact h
  | exc x r1 => rw [e1] at h; exact h
  | val y =>
    obtain ⟨rs, r1⟩ := y
    rw [e1] at h
    simp only [Out.bind_val] at h ⊢
    cases e2 : tru rs r1 with
    | none => rw [e2] at h; exact h.elim
    | some k =>
      rw [e2] at h
      simp only [Out.of_some, Out.bind_val] at h ⊢
      intro Z' H' fp' E' k'
      have go : ∀ s : Bk.E, (match ev cf s r1 with
          | .val ([q], r') => After K as Z W H σ [q] r' fun vs H' => ∃ v, vs = [v] ∧ Q v H'
          | .val _ => False
          | .exc x r' => AfterX K as Z W H σ r' (XW x σ)
          | .bad => False) → TE1 K as XW (ev cf s) σ H' Q := by
        intro s h
        refine ⟨Z', W, r1, fp', E', ?_⟩
        cases e3 : ev cf s r1 with
        | bad => rw [e3] at h; exact h
        | exc x r2 => rw [e3] at h; exact fun Z2 H2 fp2 E2 k2 => h Z2 H2 fp2 E2 (k'.trans k2)
        | val y =>
          obtain ⟨rs2, r2⟩ := y
          rw [e3] at h
          match rs2, h with
          | [q], h => exact fun vs Z2 H2 fp2 fq2 E2 R2 nd2 nw2 k2 => h vs Z2 H2 fp2 fq2 E2 R2 nd2 nw2 (k'.trans k2)
          | [], h => exact h.elim
          | _ :: _ :: _, h => exact h.elim
      cases k with
      | true => rw [if_pos rfl] at h ⊢; exact go a h
      | false => rw [if_neg Bool.false_ne_true] at h ⊢; exact go b h
theorem tt_and {a b : E} {Q : Bool → Hp → Prop} (h : TTx K as XW cf (.and a b) σ H Q) : tAnd (TTx K as XW cf a) (TTx K as XW cf b) σ H Q := by
  obtain ⟨Z, W, r, fp, E, h⟩ := h
  refine ⟨Z, W, r, fp, E, ?_⟩
  simp only [ev] at h
  cases e1 : ev cf a r with
  | bad => rw [e1] at h; exact h
  | exc x r1 => rw [e1] at h; exact h
  | val y =>
    obtain ⟨rs, r1⟩ := y
    rw [e1] at h
    simp only [Out.bind_val] at h ⊢
    cases e2 : tru rs r1 with
    | none => rw [e2] at h; exact h.elim
    | some k =>
      rw [e2] at h
      simp only [Out.of_some, Out.bind_val] at h ⊢
      intro Z' H' fp' E' k'
      cases k with
      | false =>
        rw [if_neg Bool.false_ne_true] at h ⊢
        simp only [Out.bind_val, e2, Out.of_some] at h
        exact h Z' H' fp' E' k'
      | true =>
        rw [if_pos rfl] at h ⊢
        refine ⟨Z', W, r1, fp', E', ?_⟩
        cases e3 : (ev cf b r1).bind fun x => (Out.of (tru x.1 x.2)).bind fun k => .val (k, x.2) with
        | bad => rw [e3] at h; exact h
        | exc x r2 => rw [e3] at h; exact fun Z2 H2 fp2 E2 k2 => h Z2 H2 fp2 E2 (k'.trans k2)
        | val y => rw [e3] at h; exact fun Z2 H2 fp2 E2 k2 => h Z2 H2 fp2 E2 (k'.trans k2)
theorem tt_or {a b : E} {Q : Bool → Hp → Prop} (h : TTx K as XW cf (.or a b) σ H Q) : tOr (TTx K as XW cf a) (TTx K as XW cf b) σ H Q := by
  obtain ⟨Z, W, r, fp, E, h⟩ := h
  refine ⟨Z, W, r, fp, E, ?_⟩
  simp only [ev] at h
  cases e1 : ev cf a r with
  | bad => rw [e1] at h; exact h
  | exc x r1 => rw [e1] at h; exact h
  | val y =>
    obtain ⟨rs, r1⟩ := y
    rw [e1] at h
    simp only [Out.bind_val] at h ⊢
    cases e2 : tru rs r1 with
    | none => rw [e2] at h; exact h.elim
    | some k =>
      rw [e2] at h
      simp only [Out.of_some, Out.bind_val] at h ⊢
      intro Z' H' fp' E' k'
      cases k with
      | true =>
        rw [if_pos rfl] at h ⊢
        simp only [Out.bind_val, e2, Out.of_some] at h
        exact h Z' H' fp' E' k'
      | false =>
        rw [if_neg Bool.false_ne_true] at h ⊢
        refine ⟨Z', W, r1, fp', E', ?_⟩
        cases e3 : (ev cf b r1).bind fun x => (Out.of (tru x.1 x.2)).bind fun k => .val (k, x.2) with
        | bad => rw [e3] at h; exact h
        | exc x r2 => rw [e3] at h; exact fun Z2 H2 fp2 E2 k2 => h Z2 H2 fp2 E2 (k'.trans k2)
        | val y => rw [e3] at h; exact fun Z2 H2 fp2 E2 k2 => h Z2 H2 fp2 E2 (k'.trans k2)
end
end Bk
/-! Bk: comprehensions. -/
namespace Bk
open L2 PyProof.Rows PySem.Spec PySem
theorem getE_cons0 {x : Option Ent} {r : Env} : getE (x :: r) 0 = x := by unfold getE; simp
theorem getE_consS {x : Option Ent} {r : Env} {i : Nat} : getE (x :: r) (i + 1) = getE r i := by unfold getE; simp
theorem getE_wipeF {vs : List Nat} : ∀ {r : Env} {k i : Nat}, getE (wipeF vs k r) i = if vs.contains (k + i) then none else getE r i
  | [], k, i => by unfold getE wipeF; simp
  | x :: r, k, 0 => by rw [wipeF, getE_cons0, getE_cons0]; rfl
  | x :: r, k, i + 1 => by rw [wipeF, getE_consS, getE_consS, getE_wipeF, show k + 1 + i = k + (i + 1) by omega]
theorem wipeF_len {vs : List Nat} : ∀ {r : Env} {k : Nat}, (wipeF vs k r).length = r.length
  | [], k => rfl
  | x :: r, k => by rw [wipeF, List.length_cons, List.length_cons, wipeF_len]
theorem getE_restF {vs : List Nat} : ∀ {s r : Env} {k i : Nat}, s.length = r.length → getE (restF vs k s r) i = if vs.contains (k + i) then getE s i else getE r i
  | [], [], k, i, _ => by unfold getE restF; simp
  | y :: s, x :: r, k, 0, h => by rw [restF, getE_cons0, getE_cons0, getE_cons0]; rfl
  | y :: s, x :: r, k, i + 1, h => by rw [restF, getE_consS, getE_consS, getE_consS, getE_restF (by simpa using h), show k + 1 + i = k + (i + 1) by omega]
  | [], x :: r, k, i, h => by cases h
  | y :: s, [], k, i, h => by cases h
theorem restF_len {vs : List Nat} : ∀ {s r : Env} {k : Nat}, s.length = r.length → (restF vs k s r).length = r.length
  | [], [], k, _ => rfl
  | y :: s, x :: r, k, h => by rw [restF, List.length_cons, List.length_cons, restF_len (by simpa using h)]
  | [], x :: r, k, h => by cases h
  | y :: s, [], k, h => by cases h
theorem wipe_in {σ : Sl} {i : Nat} : ∀ {vs : List Nat}, i ∈ vs → i < σ.length → (L2.wipe σ vs)[i]? = some none
  | j :: vs, h, hi => by
    show ((L2.wipe σ vs).set j none)[i]? = _
    by_cases e : j = i
    · subst e
      rw [List.getElem?_set_self (by rw [wipe_length]; exact hi)]
    · rw [List.getElem?_set_ne e]
      exact wipe_in ((List.mem_cons.mp h).resolve_left (Ne.symm e)) hi
theorem wipe_ext {σ σ2 : Sl} {vs : List Nat} (hl : σ2.length = σ.length) (h : ∀ i, i ∉ vs → σ2[i]? = (L2.wipe σ vs)[i]?) : L2.wipe σ2 vs = L2.wipe σ vs := by
  apply List.ext_getElem?
  intro i
  by_cases hi : i ∈ vs
  · by_cases hlt : i < σ.length
    · rw [wipe_in hi (by rw [hl]; exact hlt), wipe_in hi hlt]
    · rw [List.getElem?_eq_none (by rw [wipe_length]; omega), List.getElem?_eq_none (by rw [wipe_length]; omega)]
  · rw [L2.wipe_out hi]; exact h i hi
section
variable {K : PySem.W.Frag} {as : List V} {XW : XWt} {cf : CF} {σ : Sl} {H : Hp} {Z W : Pr} {r : Env} {fp : Nat → List Addr} {Q : VK}
theorem mem_contains {vs : List Nat} {i : Nat} : vs.contains i = true ↔ i ∈ vs := by simp
theorem EnvOk.wipe {vs : List Nat} (E : EnvOk K as Z W H r σ fp) : EnvOk K as Z W H (wipeE vs r) (L2.wipe σ vs) (fun i => if vs.contains i then [] else fp i) := by
  refine ⟨by rw [wipeF_len, wipe_length]; exact E.len, fun i e g => ?_, fun i g => ?_, fun i => ?_, fun i j a m1 m2 => ?_, fun i a m => ?_, E.zw, E.lz, E.lw, fun i a m => ?_⟩
  · rw [getE_wipeF, Nat.zero_add] at g
    split at g
    · cases g
    · rename_i hc
      obtain ⟨v, hv, o, hp⟩ := E.ent i e g
      exact ⟨v, by rw [L2.wipe_out fun m => hc (mem_contains.mpr m)]; exact hv, by rw [if_neg hc]; exact o, hp⟩
  · rw [getE_wipeF, Nat.zero_add] at g
    split at g
    · rename_i hc; simp only [if_pos hc]
    · rename_i hc; simp only [if_neg hc]; exact E.emp i g
  · split
    · exact List.nodup_nil
    · exact E.nd i
  · split at m1
    · simp at m1
    · split at m2
      · simp at m2
      · exact E.dj i j a m1 m2
  · split at m
    · simp at m
    · exact E.nz i a m
  · split at m
    · simp at m
    · exact E.lf i a m
theorem EnvOk.unwipe {vs : List Nat} {r0 : Env} {Z0 W0 : Pr} {H0 : Hp} {fp0 : Nat → List Addr} (E : EnvOk K as Z W H (wipeE vs r) (L2.wipe σ vs) fp) (E0 : EnvOk K as Z0 W0 H0 r0 σ fp0) (hq : quietE vs r0 = true) (k : Keep Z0 W0 H0 Z H) :
    EnvOk K as Z W H (restore vs r0 r) σ (fun i => if vs.contains i then [] else fp i) := by
  have hl : r.length = σ.length := by have := E.len; rwa [wipeF_len, wipe_length] at this
  have hl2 : r0.length = r.length := by rw [E0.len, hl]
  refine ⟨by rw [restF_len hl2]; exact hl, fun i e g => ?_, fun i g => ?_, fun i => ?_, fun i j a m1 m2 => ?_, fun i a m => ?_, E.zw, E.lz, E.lw, fun i a m => ?_⟩
  · rw [getE_restF hl2, Nat.zero_add] at g
    split at g
    · rename_i hc
      obtain ⟨v, hv, o, hp⟩ := E0.ent i e g
      have h0 : e.l = 0 := by
        have := List.all_eq_true.mp hq i (mem_contains.mp hc)
        rw [g] at this
        simpa using this
      rw [h0] at o
      have o' := o
      rw [o.fp0] at o'
      exact ⟨v, hv, by rw [if_pos hc, h0]; exact o'.keep (W := nW) (k.less fun _ w => w.elim) (by simp), hp⟩
    · rename_i hc
      obtain ⟨v, hv, o, hp⟩ := E.ent i e (by rw [getE_wipeF, Nat.zero_add, if_neg hc]; exact g)
      rw [L2.wipe_out fun m => hc (mem_contains.mpr m)] at hv
      exact ⟨v, hv, by rw [if_neg hc]; exact o, hp⟩
  · split
    · rfl
    · rename_i hc
      rw [getE_restF hl2, Nat.zero_add, if_neg hc] at g
      exact E.emp i (by rw [getE_wipeF, Nat.zero_add, if_neg hc]; exact g)
  · split
    · exact List.nodup_nil
    · exact E.nd i
  · split at m1
    · simp at m1
    · split at m2
      · simp at m2
      · exact E.dj i j a m1 m2
  · split at m
    · simp at m
    · exact E.nz i a m
  · split at m
    · simp at m
    · exact E.lf i a m
abbrev nX : XWt := fun _ _ _ => False
/-- what a comprehension's list is -/
theorem te_comp {vs : List Nat} {k : ItK} {s : E} {t : Tgt} {c e : E} (h : TE1 K as XW (ev cf (.comp vs k s t c e)) σ H Q) :
    tLc (TIx K as XW cf k s) (GT K as (fun i => vs.contains i) t) (TTx K as nX cf c) (TE1 K as nX (ev cf e)) vs σ H Q := by
  obtain ⟨Z, W, r, fp, E, h⟩ := h
  refine ⟨Z, W, r, fp, E, ?_⟩
  have e0 : ev cf (.comp vs k s t c e) r = (itemsE cf k s r).bind fun x => if sz x.1.length && quietE vs x.2 then
        (compL (compTurn (ev cf c) (ev cf e) vs t) x.1 [] 7 x.2).quiet.bind fun z => .val ([.vl (.lst z.1) (z.2.1 + 1)], restore vs x.2 z.2.2) else .bad := by
    simp only [ev, itemsE]
    cases ev cf s r with
    | bad => rfl
    | exc x r1 => rfl
    | val y =>
      simp only [Out.bind_val]
      cases tak y.1 y.2 with
      | none => rfl
      | some z =>
        simp only [Out.of_some, Out.bind_val]
        cases itemsOf k z.1 with
        | none => rfl
        | some ds => rfl
  rw [e0] at h
  cases e1 : itemsE cf k s r with
  | bad => rw [e1] at h; exact h
  | exc x r1 => rw [e1] at h; exact h
  | val y =>
    obtain ⟨ds, r1⟩ := y
    rw [e1] at h
    simp only [Out.bind_val] at h
    by_cases hs : (sz ds.length && quietE vs r1) = true
    · rw [if_pos hs] at h
      simp only [Bool.and_eq_true] at hs
      cases e2 : compL (compTurn (ev cf c) (ev cf e) vs t) ds [] 7 r1 with
      | bad => rw [e2] at h; exact h.elim
      | exc x r2 => rw [e2] at h; exact h.elim
      | val z =>
        obtain ⟨out, lv, r2⟩ := z
        rw [e2] at h
        simp only [Out.quiet, Out.bind_val] at h
        intro J Z1 H1 fp1 E1 wk k1 D hD
        refine ⟨fun i m H => m = ds.length - i ∧ i ≤ ds.length ∧ ∃ Z r fp acc l vsa fqD, EnvOk K as Z (orL W (D :: fqD)) H (wipeE vs r) (L2.wipe σ vs) fp ∧ Keep Z1 W H1 Z H ∧ H D = some (.lst vsa) ∧ OwnL K Z H acc.reverse l vsa fqD ∧
          (D :: fqD).Nodup ∧ (∀ a ∈ D :: fqD, ¬ W a) ∧ vsa.length ≤ i ∧ compL (compTurn (ev cf c) (ev cf e) vs t) (ds.drop i) acc l r = .val (out, lv, r2),
          ⟨ds.length, rfl, Nat.zero_le _, Z1, r1, _, [], 7, [], [], (E1.new hD).wipe, keep_new hD, upd_same, ?_, by simp, fun a m w => ?_, Nat.le_refl _, by simpa using e2⟩, ?_⟩
        · rw [List.reverse_nil, OwnL]; exact ⟨rfl, rfl⟩
        · simp only [List.mem_singleton] at m; subst m; exact E1.lw _ w hD
        · rintro i m H2 ⟨rfl, hi, Z2, r3, fp2, acc, l, vsa, fqD, E2, k2, hL, ol, nd, nw, hlen, hc⟩
          by_cases hlt : i < ds.length
          · refine .inr ⟨wk.go i Z2 H2 hlt (k2.less fun _ w => w.elim) E2.lz, fun H => ∃ Z r fp acc l vsa fqD, EnvOk K as Z (orL W (D :: fqD)) H (wipeE vs r) (L2.wipe σ vs) fp ∧ Keep Z1 W H1 Z H ∧ H D = some (.lst vsa) ∧ OwnL K Z H acc.reverse l vsa fqD ∧
              (D :: fqD).Nodup ∧ (∀ a ∈ D :: fqD, ¬ W a) ∧ vsa.length ≤ i + 1 ∧ compL (compTurn (ev cf c) (ev cf e) vs t) (ds.drop (i + 1)) acc l r = .val (out, lv, r2), fun H' hN => ⟨ds.length - (i + 1), by omega, rfl, by omega, hN⟩, fun x H3 hy => ?_⟩
            obtain ⟨d, hd, hcm⟩ := wk.yld i Z2 H2 x H3 hlt (k2.less fun _ w => w.elim) E2.lz hy
            obtain ⟨Z3, E3, o3, k3⟩ := E2.came hcm
            have e3 : ds.drop i = d :: ds.drop (i + 1) := by
              obtain ⟨h1, h2⟩ := List.getElem?_eq_some_iff.mp hd
              rw [List.drop_eq_getElem_cons h1, h2]
            rw [e3] at hc
            simp only [compL, compTurn] at hc
            cases e4 : bindT (fun i => vs.contains i) t d (wipeE vs r3) with
            | none => rw [e4] at hc; cases hc
            | some r4 =>
              rw [e4] at hc
              simp only [Out.of_some, Out.bind_val] at hc
              refine ⟨Z3, _, _, fp2, d, r4, E3, o3, e4, fun σ2 fp4 E4 hσ => ?_⟩
              have hw : L2.wipe σ2 vs = L2.wipe σ vs := wipe_ext (by
                have a1 := E4.len
                have a2 := E3.len
                have a3 : r4.length = (wipeE vs r3).length := by
                  have : ∀ (t : Tgt) (ok : Nat → Bool) (d : Bk.D) (r r' : Bk.Env), bindT ok t d r = some r' → r'.length = r.length := by
                    intro t ok
                    induction t with
                    | nm i => intro d r r' h; simp only [bindT] at h; split at h; (cases h; simp); cases h
                    | nil => intro d r r' h; simp only [bindT] at h; split at h; (cases h; rfl); cases h
                    | cons a t iha iht =>
                      intro d r r' h
                      simp only [bindT] at h
                      split at h
                      · split at h
                        · rename_i r5 h5
                          rw [iht _ _ _ h, iha _ _ _ h5]
                        · cases h
                      · cases h
                  exact this _ _ _ _ _ e4
                rw [← a1, a3, a2, wipe_length]) fun j hj => hσ j (by simpa using hj)
              refine ⟨hw, Z3, _, r4, fp4, E4, ?_⟩
              have keepD : ∀ {Z' H'}, Keep Z3 (orL W (D :: fqD)) H3 Z' H' → H' D = some (.lst vsa) ∧ OwnL K Z' H' acc.reverse l vsa fqD ∧ Keep Z1 W H1 Z' H' := fun k' =>
                ⟨k'.w D _ (.inr (by simp)) (k3.w D _ (.inr (by simp)) hL), (ol.keep k3 fun a m => .inr (by simp [m])).keep k' fun a m => .inr (by simp [m]), k2.trans ((k3.trans k').less fun a w => .inl w)⟩
              cases e5 : ev cf c r4 with
              | bad => rw [e5] at hc; cases hc
              | exc x r5 => rw [e5] at hc; cases hc
              | val y =>
                obtain ⟨rs5, r5⟩ := y
                rw [e5] at hc
                simp only [Out.bind_val] at hc ⊢
                cases e6 : tru rs5 r5 with
                | none => rw [e6] at hc; cases hc
                | some b =>
                  rw [e6] at hc
                  simp only [Out.of_some, Out.bind_val] at hc ⊢
                  intro Z6 H6 fp6 E6 k6
                  cases b with
                  | false =>
                    rw [if_neg Bool.false_ne_true] at hc ⊢
                    simp only [Out.bind_val] at hc
                    obtain ⟨hL6, ol6, k16⟩ := keepD k6
                    have E7 := E6.wipe (vs := vs)
                    rw [hw] at E7
                    exact ⟨Z6, r5, _, acc, l, vsa, fqD, E7, k16, hL6, ol6, nd, nw, by omega, hc⟩
                  | true =>
                    rw [if_pos rfl] at hc ⊢
                    refine ⟨Z6, _, r5, fp6, E6, ?_⟩
                    cases e7 : ev cf e r5 with
                    | bad => rw [e7] at hc; cases hc
                    | exc x r7 => rw [e7] at hc; cases hc
                    | val y =>
                      obtain ⟨rs7, r7⟩ := y
                      rw [e7] at hc
                      simp only [Out.bind_val] at hc
                      cases e8 : one rs7 r7 with
                      | none => rw [e8] at hc; cases hc
                      | some y =>
                        obtain ⟨dy, ly, r8⟩ := y
                        rw [e8] at hc
                        simp only [Out.of_some, Out.bind_val] at hc
                        match rs7, e8 with
                        | [q], e8 =>
                          intro vs7 Z7 H7 fp7 fq7 E7 R7 nd7 nw7 k7
                          obtain ⟨v, rfl⟩ := sing (v := .non) R7
                          obtain ⟨Z8, fp8, fq8, E8, hz8, o8, nd8, nw8⟩ := one_ok E7 R7 nd7 nw7 e8
                          obtain ⟨hL7, ol7, k17⟩ := keepD (k6.trans (k7.trans (keepZ hz8)))
                          refine ⟨v, rfl, vsa, hL7, ?_, ?_⟩
                          · have : ds.length ≤ 16777216 := of_decide_eq_true hs.1
                            rw [sizeLine_eq]; omega
                          obtain ⟨fq1, rm1, p1, lo1⟩ := ol7.lower (min l ly) (Nat.min_le_left _ _)
                          obtain ⟨fq2, rm2, p2, lo2⟩ := o8.lower (min l ly) (Nat.min_le_right _ _)
                          have pm : ((D :: fqD) ++ fq8).Perm ((D :: (fq1 ++ fq2)) ++ (rm1 ++ rm2)) := ((p1.append p2).trans (perm4 fq1 rm1 fq2 rm2)).cons D
                          have mem : ∀ a, a ∈ (D :: fqD) ++ fq8 ↔ a ∈ D :: (fq1 ++ fq2) ∨ a ∈ rm1 ++ rm2 := fun a => by rw [pm.mem_iff, List.mem_append]
                          have ndT : ((D :: fqD) ++ fq8).Nodup := List.nodup_append.mpr ⟨nd, nd8, fun a m1 b m2 e => nw8 b m2 (.inr (e ▸ m1))⟩
                          have nd2 := List.nodup_append.mp (pm.nodup_iff.mp ndT)
                          have nwT : ∀ a ∈ (D :: fqD) ++ fq8, ¬ W a := fun a m w => by
                            rcases List.mem_append.mp m with m | m
                            · exact nw a m w
                            · exact nw8 a m (.inl w)
                          have E9 : EnvOk K as Z8 (orL (orL W (D :: (fq1 ++ fq2))) (rm1 ++ rm2)) H7 r8 σ2 fp8 := E8.less fun a w => by
                            rcases w with (w | w) | w
                            · exact .inl (.inl w)
                            · rcases List.mem_append.mp ((mem a).mpr (.inl w)) with w | w
                              · exact .inl (.inr w)
                              · exact .inr w
                            · rcases List.mem_append.mp ((mem a).mpr (.inr w)) with w | w
                              · exact .inl (.inr w)
                              · exact .inr w
                          have E10 := E9.frz fun a m w => by
                            rcases w with w | w
                            · exact nwT a ((mem a).mpr (.inr m)) w
                            · exact nd2.2.2 a w a m rfl
                          have hz : ¬ orL Z8 (rm1 ++ rm2) D := fun z => E10.zw D z (.inr (by simp))
                          have hl : H7 D ≠ none := by rw [hL7]; simp
                          have ku : ∀ {W' : Pr}, ¬ W' D → Keep (orL Z8 (rm1 ++ rm2)) W' H7 (orL Z8 (rm1 ++ rm2)) (upd H7 D (.lst (vsa ++ [v]))) := fun hw' => keep_upd hz hw' hl
                          have E11 := (E10.keep (ku fun ⟨j, m⟩ => (E10.nz j D m).2 (.inr (by simp))) fun a z => .inl z).wipe (vs := vs)
                          rw [hw] at E11
                          have on : OwnL K (orL Z8 (rm1 ++ rm2)) H7 (acc.reverse ++ [dy]) (min l ly) (vsa ++ [v]) (fq1 ++ fq2) :=
                            OwnL.snoc (lo1 _ (fun x z => .inl z) fun x m => .inr (by simp [m])) (lo2 _ (fun x z => .inl z) fun x m => .inr (by simp [m]))
                          refine ⟨_, r8, _, dy :: acc, min l ly, vsa ++ [v], fq1 ++ fq2, E11, k17.trans (keep_more.trans (ku (nw D (by simp)))), upd_same, ?_, nd2.1, fun a m => nwT a ((mem a).mpr (.inl m)), ?_, hc⟩
                          · rw [List.reverse_cons]
                            exact on.keep (W := fun a => a ∈ fq1 ++ fq2) (ku (List.nodup_cons.mp nd2.1).1) fun a m => m
                          · rw [List.length_append]; simp only [List.length_cons, List.length_nil]; omega
                        | [], e8 => cases e8
                        | q1 :: q2 :: t, e8 => cases q1 <;> simp [one] at e8
          · have hi2 : i = ds.length := by omega
            subst hi2
            refine .inl ⟨wk.stop Z2 H2 (k2.less fun _ w => w.elim) E2.lz, ?_⟩
            rw [List.drop_length] at hc
            simp only [compL, Out.val.injEq, Prod.mk.injEq] at hc
            obtain ⟨rfl, rfl, rfl⟩ := hc
            have E3 := E2.unwipe E1 hs.2 k2
            refine After.cont h (.ref D) Z2 H2 _ (D :: fqD) E3 ?_ nd nw (k1.trans k2)
            rw [Own]
            exact ⟨D, vsa, fqD, rfl, hL, rfl, ol⟩
    · rw [if_neg hs] at h; exact h.elim
end
end Bk
/-! Bk: what is walked. -/
namespace Bk
open L2 PyProof.Rows PySem.Spec PySem
section
variable {K : PySem.W.Frag} {as : List V} {XW : XWt} {cf : CF} {σ : Sl} {H : Hp} {Z W : Pr} {r : Env} {fp : Nat → List Addr}
theorem OwnL.keep0 {Z' : Pr} {H' : Hp} {ds : List D} {vs : List V} (o : OwnL K Z H ds 0 vs []) (k : Keep Z nW H Z' H') : OwnL K Z' H' ds 0 vs [] := o.keep k (by simp)
theorem walkD_list {a : Addr} {ds : List D} {vs : List V} (hz : Z a) (h : H a = some (.lst vs)) (o : OwnL K Z H ds 0 vs []) : WalkD K (Itl K a) Z H ds where
  go := fun i Z' H' hi k _ => by
    have h' := k.ex a vs hz h
    exact ⟨vs, vs[i]'(by rw [o.len]; exact hi), SqL.of h', by simp⟩
  stop := fun Z' H' k _ => ⟨vs, SqL.of (k.ex a vs hz h), by rw [o.len]; exact Nat.le_refl _⟩
  yld := fun i Z' H' x H2 hi k _ y => by
    obtain ⟨rfl, y⟩ := y
    have hx := y vs (SqL.of (k.ex a vs hz h))
    have hd : ds[i]? = some ds[i] := by simp
    obtain ⟨v, hv, ov⟩ := (o.keep0 k).get hd
    rw [hx] at hv
    cases hv
    exact ⟨_, hd, .inl ⟨rfl, ov⟩⟩
theorem walkD_tup {a : Addr} {ds : List D} {vs : List V} (h : FzT K Z H a vs) (o : OwnL K Z H ds 0 vs []) : WalkD K (Itt K a) Z H ds where
  go := fun i Z' H' hi k _ => ⟨vs, vs[i]'(by rw [o.len]; exact hi), (h.keep k).sq, by simp⟩
  stop := fun Z' H' k _ => ⟨vs, (h.keep k).sq, by rw [o.len]; exact Nat.le_refl _⟩
  yld := fun i Z' H' x H2 hi k _ y => by
    obtain ⟨rfl, y⟩ := y
    have hx := y vs (h.keep k).sq
    have hd : ds[i]? = some ds[i] := by simp
    obtain ⟨v, hv, ov⟩ := (o.keep0 k).get hd
    rw [hx] at hv
    cases hv
    exact ⟨_, hd, .inl ⟨rfl, ov⟩⟩
theorem walkD_str {x : Str} : WalkD K (Its x) Z H (signs x) where
  go := fun i Z' H' hi k _ => by
    have : i < x.cps.size := by simpa [signs] using hi
    exact this
  stop := fun Z' H' k _ => by
    show x.cps.size ≤ (signs x).length
    simp [signs]
  yld := fun i Z' H' v H2 hi k _ y => by
    obtain ⟨rfl, c, hc, rfl⟩ := y
    refine ⟨.str ⟨#[c]⟩, ?_, .inl ⟨rfl, own_str⟩⟩
    unfold signs
    rw [List.getElem?_map, Array.getElem?_toList, hc]
    rfl
theorem walkD_rng {lo : Int} {n : Nat} : WalkD K (Itr lo n) Z H ((List.range n).map fun k => D.int (lo + (k : Nat))) where
  go := fun i Z' H' hi k _ => by
    have : i < n := by simpa using hi
    exact this
  stop := fun Z' H' k _ => by
    show n ≤ _
    simp
  yld := fun i Z' H' v H2 hi k _ y => by
    obtain ⟨rfl, rfl⟩ := y
    have : i < n := by simpa using hi
    refine ⟨.int (lo + (i : Nat)), ?_, .inl ⟨rfl, own_int⟩⟩
    rw [List.getElem?_map, List.getElem?_range this]
    rfl
/-- one frozen operand -/
theorem tak_one {q : R} {v : V} {fq : List Addr} {ds : List D} {m : Nat} {r' : Env} (E : EnvOk K as Z (orL W fq) H r σ fp) (h : RepRs K Z H σ [q] [v] fq) (nd : fq.Nodup) (nw : ∀ a ∈ fq, ¬ W a)
    (ht : tak [q] r = some (ds, m, r')) : ∃ Z' fp' d, ds = [d] ∧ EnvOk K as Z' W H r' σ fp' ∧ (∀ a, Z a → Z' a) ∧ Own K Z' H d 0 v [] := by
  obtain ⟨Z', fp', fq', E', hz, ol, nd', sub⟩ := tak_ok E h nd nw ht
  have E2 := E'.frz fun a m => nw a (sub a m)
  have ol2 := ol.freeze (Z' := orL Z' fq') (fun a z => .inl z) fun a m => .inr m
  match ds, ol2 with
  | [d], ol2 =>
    rw [OwnL] at ol2
    obtain ⟨u, ws, f, g, e, e2, o, os⟩ := ol2
    cases e
    obtain ⟨rfl, rfl⟩ := List.append_eq_nil_iff.mp e2.symm
    exact ⟨_, fp', d, rfl, E2, fun a z => .inl (hz a z), o⟩
  | [], ol2 => rw [OwnL] at ol2; cases ol2.1
  | d1 :: d2 :: t, ol2 => have := ol2.len; simp at this
theorem tak_len : ∀ {rs : List R} {r r' : Env} {ds : List D} {m : Nat}, tak rs r = some (ds, m, r') → ds.length = rs.length
  | [], r, r', ds, m, h => by simp only [tak, Option.some.injEq, Prod.mk.injEq] at h; rw [← h.1]; rfl
  | .vr i :: rs, r, r', ds, m, h => by
    simp only [tak] at h
    split at h
    · cases h
    · split at h
      · cases h
      · rename_i ds' m' r2 h2
        simp only [Option.some.injEq, Prod.mk.injEq] at h
        rw [← h.1, List.length_cons, List.length_cons, tak_len h2]
  | .vl d l :: rs, r, r', ds, m, h => by
    simp only [tak] at h
    split at h
    · cases h
    · rename_i ds' m' r2 h2
      simp only [Option.some.injEq, Prod.mk.injEq] at h
      rw [← h.1, List.length_cons, List.length_cons, tak_len h2]
end
section
variable {X : Cx} {as : List V} {XW : XWt} {cf : CF} {tg e a b : Expr} {s sa sb : E} {p pos : Pos}
theorem PI.weak {wi wi' : TI} (h : PI X tg e wi) (w : ∀ σ H R, wi' σ H R → wi σ H R) : PI X tg e wi' := ⟨fun pins s σ H R I q => h.run pins s σ H R I (w σ H R q)⟩
/-- a list, a tuple, a text -/
theorem pi_seq (he : PE X e (TE1 X.K as XW (ev cf s))) : PI X tg e (TIx X.K as XW cf .seq s) := by
  refine ⟨fun pins st σ H R I h => ?_⟩
  obtain ⟨Z, W, r, fp, E, h⟩ := h
  have h0 := h
  simp only [itemsE] at h
  cases e1 : ev cf s r with
  | bad => rw [e1] at h; exact h.elim
  | exc x r1 =>
    rw [e1] at h
    refine (pi_list he).run pins st σ H R I ⟨Z, W, r, fp, E, ?_⟩
    rw [e1]; exact h
  | val y =>
    obtain ⟨rs, r1⟩ := y
    rw [e1] at h
    simp only [Out.bind_val] at h
    cases e2 : tak rs r1 with
    | none => rw [e2] at h; exact h.elim
    | some y =>
      obtain ⟨ds, m, r2⟩ := y
      rw [e2] at h
      simp only [Out.of_some, Out.bind_val] at h
      cases e3 : itemsOf .seq ds with
      | none => rw [e3] at h; exact h.elim
      | some its =>
        rw [e3] at h
        simp only [Out.of_some, Out.bind_val] at h
        have hl := tak_len e2
        match ds, e3 with
        | [d], e3 =>
          match rs, hl with
          | [q], _ =>
            have e3 : seqOf d = some its := e3
            cases d with
            | lst l =>
              cases e3
              refine (pi_list he).run pins st σ H R I ⟨Z, W, r, fp, E, ?_⟩
              rw [e1]
              intro vs Z1 H1 fp1 fq1 E1 R1 nd1 nw1 k1
              obtain ⟨v, rfl⟩ := sing (v := .non) R1
              obtain ⟨Z2, fp2, d, ed, E2, hz, o⟩ := tak_one E1 R1 nd1 nw1 e2
              cases ed
              rw [Own] at o
              obtain ⟨_, a, ws, rfl, f, ol⟩ := o
              exact ⟨_, rfl, a, rfl, ⟨ws, SqL.of f.2⟩, h _ Z2 H1 fp2 E2 (walkD_list f.1 f.2 ol) (k1.trans (keepZ hz))⟩
            | scr ns => cases e3
            | tup l =>
              cases e3
              refine (pi_tup he).run pins st σ H R I ⟨Z, W, r, fp, E, ?_⟩
              rw [e1]
              intro vs Z1 H1 fp1 fq1 E1 R1 nd1 nw1 k1
              obtain ⟨v, rfl⟩ := sing (v := .non) R1
              obtain ⟨Z2, fp2, d, ed, E2, hz, o⟩ := tak_one E1 R1 nd1 nw1 e2
              cases ed
              rw [Own] at o
              obtain ⟨_, a, ws, rfl, f, ol⟩ := o
              exact ⟨_, rfl, a, rfl, ⟨ws, f.sq⟩, h _ Z2 H1 fp2 E2 (walkD_tup f ol) (k1.trans (keepZ hz))⟩
            | str x =>
              cases e3
              refine (pi_str he).run pins st σ H R I ⟨Z, W, r, fp, E, ?_⟩
              rw [e1]
              intro vs Z1 H1 fp1 fq1 E1 R1 nd1 nw1 k1
              obtain ⟨v, rfl⟩ := sing (v := .non) R1
              obtain ⟨Z2, fp2, d, ed, E2, hz, o⟩ := tak_one E1 R1 nd1 nw1 e2
              cases ed
              rw [Own] at o
              exact ⟨_, rfl, x, o.1, h _ Z2 H1 fp2 E2 walkD_str (k1.trans (keepZ hz))⟩
            | _ => cases e3
        | [], e3 => cases e3
        | d1 :: d2 :: t, e3 => cases e3
theorem okR_of {i : Int} (h : okR i = true) : -(2 ^ 62) ≤ i ∧ i < 2 ^ 62 := by
  unfold okR at h
  simp only [decide_eq_true_eq, Bool.and_eq_true] at h
  exact ⟨by omega, by omega⟩
/-- operands that are taken, by a list of them -/
theorem ev_len0 {rs : List R} {r r' : Bk.Env} (h : ev cf .nil r = .val (rs, r')) : rs.length = 0 := by
  simp only [ev, Out.val.injEq, Prod.mk.injEq] at h
  rw [← h.1]; rfl
theorem ev_lenS {a t : E} {n : Nat} (ht : ∀ (rs : List R) (r r' : Bk.Env), ev cf t r = .val (rs, r') → rs.length = n) {rs : List R} {r r' : Bk.Env} (h : ev cf (.cons a t) r = .val (rs, r')) : rs.length = n + 1 := by
  simp only [ev] at h
  cases e1 : ev cf a r with
  | bad => rw [e1] at h; cases h
  | exc x r1 => rw [e1] at h; cases h
  | val y =>
    obtain ⟨rs1, r1⟩ := y
    rw [e1] at h
    simp only [Out.bind_val] at h
    match rs1, h with
    | [q], h =>
      simp only at h
      cases e2 : ev cf t r1 with
      | bad => rw [e2] at h; cases h
      | exc x r2 => rw [e2] at h; cases h
      | val y =>
        obtain ⟨rs2, r2⟩ := y
        rw [e2] at h
        simp only [Out.bind_val, Out.val.injEq, Prod.mk.injEq] at h
        rw [← h.1, List.length_cons, ht _ _ _ e2]
    | [], h => cases h
    | _ :: _ :: _, h => cases h
theorem ev_len1 {a : E} (rs : List R) (r r' : Bk.Env) (h : ev cf (.cons a .nil) r = .val (rs, r')) : rs.length = 1 := ev_lenS (fun _ _ _ h => ev_len0 h) h
theorem ev_len2 {a b : E} (rs : List R) (r r' : Bk.Env) (h : ev cf (.cons a (.cons b .nil)) r = .val (rs, r')) : rs.length = 2 := ev_lenS (fun rs r r' h => ev_len1 rs r r' h) h
theorem tas_items {k : ItK} {sa : E} {n : Nat} {σ : Sl} {H : Hp} {R : It → Hp → Prop} {g : List V → Hp → Prop} (h : TIx X.K as XW cf k sa σ H R) (hn : ∀ (rs : List Bk.R) (r r' : Bk.Env), ev cf sa r = .val (rs, r') → rs.length = n)
    (w : ∀ Z W r fp ds vs H1 its, ds.length = n → EnvOk X.K as Z W H1 r σ fp → OwnL X.K Z H1 ds 0 vs [] → itemsOf k ds = some its → (∀ J, WalkD X.K J Z H1 its → R J H1) → g vs H1) : TAs X.K as XW (ev cf sa) σ H g := by
  obtain ⟨Z, W, r, fp, E, h⟩ := h
  refine ⟨Z, W, r, fp, E, ?_⟩
  simp only [itemsE] at h
  cases e1 : ev cf sa r with
  | bad => rw [e1] at h; exact h
  | exc x r1 => rw [e1] at h; exact h
  | val y =>
    obtain ⟨rs, r1⟩ := y
    rw [e1] at h
    intro vs Z1 H1 fp1 fq1 E1 R1 nd1 nw1 k1
    simp only [Out.bind_val] at h
    cases e2 : tak rs r1 with
    | none => rw [e2] at h; exact h.elim
    | some y =>
      obtain ⟨ds, m, r2⟩ := y
      rw [e2] at h
      simp only [Out.of_some, Out.bind_val] at h
      cases e3 : itemsOf k ds with
      | none => rw [e3] at h; exact h.elim
      | some its =>
        rw [e3] at h
        simp only [Out.of_some, Out.bind_val] at h
        obtain ⟨Z2, fp2, fq2, E2, hz, ol, nd2, sub⟩ := tak_ok E1 R1 nd1 nw1 e2
        have E3 := E2.frz fun a m => nw1 a (sub a m)
        have ol2 := ol.freeze (Z' := orL Z2 fq2) (fun a z => .inl z) fun a m => .inr m
        exact w _ W r2 fp2 ds vs H1 its ((tak_len e2).trans (hn _ _ _ e1)) E3 ol2 e3 fun J wk => h J _ H1 fp2 E3 wk (k1.trans (keepZ fun a z => .inl (hz a z)))
theorem ownL1 {K : PySem.W.Frag} {Z : Pr} {H : Hp} {d : D} {vs : List V} (o : OwnL K Z H [d] 0 vs []) : ∃ v, vs = [v] ∧ Own K Z H d 0 v [] := by
  rw [OwnL] at o
  obtain ⟨v, ws, f, g, rfl, e, o1, o2⟩ := o
  obtain ⟨rfl, rfl⟩ := List.append_eq_nil_iff.mp e.symm
  rw [OwnL] at o2
  rw [o2.1]
  exact ⟨v, rfl, o1⟩
theorem ownL2 {K : PySem.W.Frag} {Z : Pr} {H : Hp} {d e : D} {vs : List V} (o : OwnL K Z H [d, e] 0 vs []) : ∃ v w, vs = [v, w] ∧ Own K Z H d 0 v [] ∧ Own K Z H e 0 w [] := by
  rw [OwnL] at o
  obtain ⟨v, ws, f, g, rfl, e2, o1, o2⟩ := o
  obtain ⟨rfl, rfl⟩ := List.append_eq_nil_iff.mp e2.symm
  obtain ⟨w, rfl, o3⟩ := ownL1 o2
  exact ⟨v, w, rfl, o1, o3⟩
theorem pi_rng1 (hg : Gl X "range") (hm : X.mg "range" = none) (ha : PA X [a] (TAs X.K as XW (ev cf (.cons sa .nil)))) (hs : starEach [a] X.env = [(false, eval a X.env)]) :
    PI X tg (.Call (.Name "range" p) [a] [] pos) (TIx X.K as XW cf .range (.cons sa .nil)) := by
  refine PI.weak (pi_range1 hg hm ha hs) fun σ H R h => tas_items h ev_len1 fun Z W r fp ds vs H1 its hl E o hi k => ?_
  match ds, hl with
  | [d], _ =>
    obtain ⟨v, rfl, o1⟩ := ownL1 o
    cases d with
    | int j =>
      have hi : (if okR j then some ((rangeL 0 j).map D.int) else none) = some its := hi
      split at hi
      · rename_i hj
        cases hi
        obtain ⟨b1, b2⟩ := okR_of hj
        refine ⟨j, by rw [rv_int o1.rv], b1, b2, k _ ?_⟩
        have := walkD_rng (K := X.K) (Z := Z) (H := H1) (lo := 0) (n := j.toNat)
        unfold rangeL
        rw [List.map_map, Int.sub_zero]
        exact this
      · cases hi
    | _ => cases hi
theorem pi_rng2 (hg : Gl X "range") (hm : X.mg "range" = none) (ha : PA X [a, b] (TAs X.K as XW (ev cf (.cons sa (.cons sb .nil))))) (hs : starEach [a, b] X.env = [(false, eval a X.env), (false, eval b X.env)])
    (hs2 : starEach [b] X.env = [(false, eval b X.env)]) : PI X tg (.Call (.Name "range" p) [a, b] [] pos) (TIx X.K as XW cf .range (.cons sa (.cons sb .nil))) := by
  refine PI.weak (pi_range2 hg hm ha hs hs2) fun σ H R h => tas_items h ev_len2 fun Z W r fp ds vs H1 its hl E o hi k => ?_
  match ds, hl with
  | [d, d2], _ =>
    obtain ⟨v, w, rfl, o1, o2⟩ := ownL2 o
    cases d with
    | int i =>
      cases d2 with
      | int j =>
        have hi : (if okR i && okR j then some ((rangeL i j).map D.int) else none) = some its := hi
        split at hi
        · rename_i hj
          cases hi
          simp only [Bool.and_eq_true] at hj
          obtain ⟨b1, b2⟩ := okR_of hj.1
          obtain ⟨b3, b4⟩ := okR_of hj.2
          refine ⟨i, j, by rw [rv_int o1.rv, rv_int o2.rv], ⟨b1, b2, b3, b4⟩, k _ ?_⟩
          have := walkD_rng (K := X.K) (Z := Z) (H := H1) (lo := i) (n := (j - i).toNat)
          unfold rangeL
          rw [List.map_map]
          exact this
        · cases hi
      | _ => cases hi
    | _ => cases hi
end
end Bk
/-! Bk: enumerate and zip over lists, tuples, texts. -/
namespace Bk
open L2 PyProof.Rows PySem.Spec PySem
inductive Sq where
  | lst (a : Addr) | tup (a : Addr) | str (x : Str)
def Sq.v : Sq → V
  | .lst a => .ref a
  | .tup a => .ref a
  | .str x => .str x
def Sq.addrs : Sq → List Addr
  | .lst a => [a]
  | .tup a => [a]
  | .str _ => []
def Sq.at (K : PySem.W.Frag) : Sq → Hp → List V → Prop
  | .lst a, H, vs => SqL K H a vs
  | .tup a, H, vs => SqT K H a vs
  | .str x, _, vs => vs = x.cps.toList.map fun c => V.str ⟨#[c]⟩
def Sq.iter : Sq → Addr → Nat → Heap → Prop
  | .lst a, it, i, h => h.IsListIter it a i
  | .tup a, it, i, h => h.IsTupleIter it a i
  | .str x, it, i, h => ∃ t, h.IsStrIter it (strIterType x) x t i
theorem Sq.iter_at {q : Sq} {it : Addr} {i : Nat} {h h' : Heap} (st : q.iter it i h) (k : ∀ o, h.get? it = some o → h'.get? it = some o) : q.iter it i h' := by
  cases q with
  | lst a => exact Heap.IsListIter.at st k
  | tup a => exact Heap.IsTupleIter.at st k
  | str x => obtain ⟨t, o, ho, r⟩ := st; exact ⟨t, o, k o ho, r⟩
theorem Sq.iter_obj {q : Sq} {it : Addr} {i : Nat} {h : Heap} (st : q.iter it i h) : ∃ o, h.get? it = some o ∧ (∀ v, o.data ≠ .cell v) ∧ o.cls ≠ .type "list" ∧ o.cls ≠ .type "tuple" ∧ o.cls ≠ .type "enumerate" ∧ o.cls ≠ .type "zip" := by
  cases q with
  | lst a => obtain ⟨o, e, c, d⟩ := st; exact ⟨o, e, (fun v z => by rw [d] at z; cases z), (by rw [c]; decide), (by rw [c]; decide), (by rw [c]; decide), (by rw [c]; decide)⟩
  | tup a => obtain ⟨o, e, c, d⟩ := st; exact ⟨o, e, (fun v z => by rw [d] at z; cases z), (by rw [c]; decide), (by rw [c]; decide), (by rw [c]; decide), (by rw [c]; decide)⟩
  | str x =>
    obtain ⟨t, o, e, c, d⟩ := st
    refine ⟨o, e, (fun v z => by rw [d] at z; cases z), ?_⟩
    have hs : strIterType x = "str_ascii_iterator" ∨ strIterType x = "str_iterator" := by unfold strIterType; split <;> simp
    rcases hs with hs | hs <;> (rw [hs] at c; exact ⟨(by rw [c]; decide), (by rw [c]; decide), (by rw [c]; decide), (by rw [c]; decide)⟩)
theorem vals_get' {vs : List V} {us : List Value} (r : Vals vs us) {i : Nat} {u : Value} (h : us[i]? = some u) : ∃ v, vs[i]? = some v ∧ RelV v u := by
  induction r generalizing i with
  | nil => cases h
  | cons r t ih =>
    cases i with
    | zero => cases h; exact ⟨_, rfl, r⟩
    | succ i => exact ih h
theorem Sq.draws {X : Cx} {pins : List (Addr × Obj)} {σ : Sl} {H : Hp} {s : Shared} (I : Inv X pins σ H s) (hh : X.A.handled = none) {q : Sq} {vs : List V} (hq : q.at X.K H vs) {it : Addr} {i : Nat} (hit : q.iter it i s.heap) :
    ∃ (P : Nat → Value → Prop) (St : Nat → Heap → Prop), Draws X.prog X.w X.A.in1 it (it :: q.addrs) vs.length P St ∧ St i s.heap ∧ (∀ i h, St i h → q.iter it i h) ∧ (∀ i x, P i x → ∃ v, vs[i]? = some v ∧ RelV v x) ∧
      ∀ b ∈ q.addrs, ∃ o, s.heap.get? b = some o ∧ (o.cls = .type "list" ∨ o.cls = .type "tuple") ∧ o.isFreed = false := by
  obtain ⟨oi, hoi, _, nl, nt, _⟩ := Sq.iter_obj hit
  cases q with
  | lst a =>
    obtain ⟨its, rv, p, hz⟩ := I.list hq
    have p' := p.isList
    obtain ⟨o, ho, hc, n, hd⟩ := id p'
    have hne : a ≠ it := fun e => by rw [e, hoi] at ho; cases ho; exact nl hc
    have hl : its.toArray.size = vs.length := by rw [List.size_toArray]; exact rv.length.symm
    refine ⟨_, _, hl ▸ Draws.list (show X.A.in1.handled = none from hh) it a hne its.toArray, ⟨hit, p'⟩, fun i h st => st.1, fun i x hx => vals_get' rv (by simpa using hx), fun b hb => ?_⟩
    rw [List.mem_singleton.mp (show b ∈ [a] from hb)]
    exact ⟨o, ho, .inl hc, Obj.isFreed_of_seq hd⟩
  | tup a =>
    obtain ⟨its, rv, p, hz⟩ := I.tuple hq
    have p' : s.heap.IsTuple a its.toArray := p
    obtain ⟨o, ho, hc, n, hd⟩ := id p'
    have hne : a ≠ it := fun e => by rw [e, hoi] at ho; cases ho; exact nt hc
    have hl : its.toArray.size = vs.length := by rw [List.size_toArray]; exact rv.length.symm
    refine ⟨_, _, hl ▸ Draws.tuple (show X.A.in1.handled = none from hh) it a hne its.toArray, ⟨hit, p'⟩, fun i h st => st.1, fun i x hx => vals_get' rv (by simpa using hx), fun b hb => ?_⟩
    rw [List.mem_singleton.mp (show b ∈ [a] from hb)]
    exact ⟨o, ho, .inr hc, Obj.isFreed_of_seq hd⟩
  | str x =>
    obtain ⟨t, hit⟩ := hit
    have hq : vs = x.cps.toList.map fun c => V.str ⟨#[c]⟩ := hq
    subst hq
    have hl : x.cps.size = (x.cps.toList.map fun c => V.str ⟨#[c]⟩).length := by simp
    refine ⟨_, _, hl ▸ Draws.text (show X.A.in1.handled = none from hh) it x t, hit, fun i h st => ⟨t, st⟩, fun i y hy => ?_, by simp [Sq.addrs]⟩
    obtain ⟨c, u, hc, rfl⟩ := hy
    exact ⟨.str ⟨#[c]⟩, by simp [hc], ⟨u, rfl⟩⟩
theorem Sq.inj {X : Cx} {pins : List (Addr × Obj)} {σ : Sl} {H : Hp} {s : Shared} (I : Inv X pins σ H s) {q : Sq} {vs ws : List V} (h : q.at X.K H vs) (h2 : q.at X.K H ws) : ws = vs := by
  cases q with
  | lst a => exact I.list_inj h2 h
  | tup a => exact I.tuple_inj h2 h
  | str x =>
    have h : vs = _ := h
    have h2 : ws = _ := h2
    rw [h, h2]
/-- enumerate from k0 on -/
def IteQ (K : PySem.W.Frag) (q : Sq) (k0 : Int) : It :=
  ⟨fun i H => ∃ (xs : List V) (x : V), q.at K H xs ∧ xs[i]? = some x, fun i H v H' => ∃ T x, v = .ref T ∧ H T = none ∧ H' = upd H T (.tup [.int (k0 + (i : Nat)), x]) ∧ ∀ xs, q.at K H xs → xs[i]? = some x, fun i H => ∃ xs : List V, q.at K H xs ∧ xs.length = i⟩
theorem turn_enumQ {P : Program} {w : World} {K : PySem.W.Frag} {elts : List Expr} {kk : Nat} {tpos : Pos} (q : Sq) (k0 : Int) (e it : Addr) :
    Turn P w K (.Tuple elts kk tpos) (IteQ K q k0) [e, it] e (fun i h => (∃ old, IsEnum h e it (k0 + (i : Nat)) old) ∧ q.iter it i h ∧ e ≠ it) where
  mem := by simp
  obj := fun i h st b hb => by
    obtain ⟨⟨old, he⟩, hi, _⟩ := st
    have e' : b = e ∨ b = it := by simpa using hb
    rcases e' with z | z
    · rw [z]; exact ⟨_, he, fun v q => nomatch q⟩
    · rw [z]; obtain ⟨o, ho, hn, _⟩ := Sq.iter_obj hi; exact ⟨o, ho, hn⟩
  keep := fun i h h' st k => let ⟨⟨old, he⟩, hi, hne⟩ := st; ⟨⟨old, k e (by simp) _ he⟩, Sq.iter_at hi fun o q => k it (by simp) o q, hne⟩
  item := by
    intro X hP hw hK hc i pins s σ H E I hf st hg
    subst hP hw hK
    obtain ⟨⟨old, he⟩, hit, hne⟩ := st
    obtain ⟨xs, x, hq, hx⟩ := hg
    obtain ⟨PP, St, D, st0, sti, hP, hfp⟩ := Sq.draws I (I.ok.hd hc) hq hit
    have hlt : i < xs.length := (List.getElem?_eq_some_iff.mp hx).1
    have hel : e < s.heap.objs.size := Heap.lt_size he
    have hil : it < s.heap.objs.size := by obtain ⟨_, q, _⟩ := Sq.iter_obj hit; exact Heap.lt_size q
    have hef : e ∉ it :: q.addrs := fun m => by
      rcases List.mem_cons.mp m with m | m
      · exact hne m
      · obtain ⟨o, ho, hcl, _⟩ := hfp e m
        have he' : s.heap.get? e = _ := he
        rw [he'] at ho
        cases ho
        rcases hcl with z | z <;> exact absurd (show Value.type "enumerate" = _ from z) (by decide)
    refine wpAny_pyNext_enum_itemC D he st0 hlt hne hef fun y h' tk hy ho hit' hT hsz hk => ?_
    obtain ⟨v, hv, rv⟩ := hP i y hy
    rw [hx] at hv
    cases hv
    refine ⟨_, rfl, wpAny_letOwnedTupleGo_enum (s := { s with heap := h', toks := tk + 1 }) ho fun h'' he' sb => ?_⟩
    have hT2 : h''.get? s.heap.objs.size = some { cls := .type "tuple", data := .seq #[.int (k0 + (i : Nat)) tk, y] } := (sb.2 _ (Nat.ne_of_gt hel)).trans hT
    have new : ObjOk X.prog X.w (upd H s.heap.objs.size (.tup [.int (k0 + (i : Nat)), x])) h'' s.heap.objs.size (.tup [.int (k0 + (i : Nat)), x]) :=
      ⟨by show 2 ≤ sizeLine; decide, [.int (k0 + (i : Nat)) tk, y], .cons ⟨_, rfl⟩ (.cons rv .nil), ⟨_, hT2, rfl, _, rfl⟩⟩
    have I1 : Inv X pins σ (upd H s.heap.objs.size (.tup [.int (k0 + (i : Nat)), x])) { s with heap := h'', toks := tk + 1 } :=
      I.turnedNew (ch := [e, it]) (fun b ob hb q => (sb.2 b (fun z => hb (by simp [z]))).trans (hk b ob (fun z => hb (by simp [z])) (fun z => hb (by simp [z])) q)) hf (Nat.le_refl _) new
    refine ⟨.ref s.heap.objs.size, _, I1, rfl, ⟨_, x, rfl, I.hok.fresh (Nat.le_refl _), rfl, fun ys hy => by rw [Sq.inj I hq hy]; exact hx⟩, ⟨⟨y, ?_⟩, Sq.iter_at (sti _ _ hit') fun o q => (sb.2 it (Ne.symm hne)).trans q, hne⟩, fun b hb => ?_⟩
    · have e1 : k0 + ((i + 1 : Nat) : Int) = k0 + (i : Int) + 1 := by omega
      rw [e1]; exact he'
    · have hb' : b < s.heap.objs.size := by
        have e' : b = e ∨ b = it := by simpa using hb
        rcases e' with z | z
        · rw [z]; exact hel
        · rw [z]; exact hil
      rw [upd_ne (Nat.ne_of_lt hb')]
      exact (hf b hb).1
  done := by
    intro X hP hw hK hc i pins s σ H E I hf st hg
    subst hP hw hK
    obtain ⟨⟨old, he⟩, hit, hne⟩ := st
    obtain ⟨xs, hq, hl⟩ := hg
    obtain ⟨PP, St, D, st0, sti, hP, hfp⟩ := Sq.draws I (I.ok.hd hc) hq hit
    obtain ⟨f0, f1, f2, f3, f4, f5⟩ := hf it (by simp)
    rw [← hl] at st0
    exact wpAny_pyNext_enum_endD D he st0 fun h' eb => ⟨rfl, I.turned (t' := s.toks) (fun b o hb q => eb b o hb q) f0 f1 f3 f4 f5⟩
  self := fun A i s Q E st h => let ⟨⟨_, he⟩, _⟩ := st; wpAny_pyIter_enum he h
/-- enumerate(v): its two new cells -/
theorem meets_enumerate_new1 {v : Value} {o : Obj} {H : Heap → Prop} (B : Begins v o H) :
    Meets (Builtin.«enumerate.__new__» ⟨[.type "enumerate", v], []⟩) (fun _ R s => H s.heap ∧
      R (.ok (.ret (.ref (s.heap.push o).objs.size))) { s with heap := (s.heap.push o).push { cls := .type "enumerate", data := .fields #[.none, .bool false, .ref s.heap.objs.size, rawInt 0, .none, .none] } }) :=
  .of_wp fun prog w A R s h => by
    obtain ⟨hp, g, d, tk, os⟩ := s; obtain ⟨h1, h⟩ := h
    have hsub := sub_enumerate
    have q1 : ∀ {A' : Around} {E : Value → Shared → Prop} {Q : Value → Shared → Prop}, Q (.ref hp.objs.size) ⟨hp.push o, g, d, tk, os⟩ → wpAny (model prog w) A' (pyIter v) Q E ⟨hp, g, d, tk, os⟩ :=
      fun q => B.iter prog w _ _ ⟨hp, g, d, tk, os⟩ _ h1 q
    wp_walk using q1
    refine wpAny_stack_any fun st => wpAny_pure ?_
    split
    · rename_i c _ _ _ _ _
      cases (c == Value.type "enumerate")
      · wp_walk using q1
        exact ⟨_, rfl, h⟩
      · wp_walk using q1
        exact ⟨_, rfl, h⟩
    · wp_walk using q1
      exact ⟨_, rfl, h⟩
theorem enum_begins1 {prog : Program} {w : World} {A : Around} {E : Value → Shared → Prop} {s : Shared} {v : Value} {o : Obj} {H : Heap → Prop} {Q : Value → Shared → Prop} (B : Begins v o H) (h1 : H s.heap)
    (h : ∀ h', IsEnum h' (s.heap.objs.size + 1) s.heap.objs.size 0 .none → h'.get? s.heap.objs.size = some o → h'.objs.size = s.heap.objs.size + 2 →
      (∀ b o, s.heap.get? b = some o → h'.get? b = some o) → Q (.ref (s.heap.objs.size + 1)) { s with heap := h' }) :
    wpAny (model prog w) A (call (.type "enumerate") [v]) Q E s := by
  refine callType_new F.called_enumerate (by decide) (F.typeCall_enumerate_1 _) (F.newCall_enumerate_1 _) (fun obj => F.args_object_init_2 obj _) F.entry_enumerate_new
    (meets_enumerate_new1 B) ⟨h1, ?_⟩
  have hz : (s.heap.push o).objs.size = s.heap.objs.size + 1 := Heap.size_push ..
  show _ ∧ _
  rw [hz]
  have he : IsEnum ((s.heap.push o).push { cls := .type "enumerate", data := .fields #[.none, .bool false, .ref s.heap.objs.size, rawInt 0, .none, .none] }) (s.heap.objs.size + 1) s.heap.objs.size 0 .none := by
    have := Heap.get?_push_size (s.heap.push o) (o := { cls := .type "enumerate", data := .fields #[.none, .bool false, .ref s.heap.objs.size, rawInt 0, .none, .none] }) rfl
    rw [hz] at this; exact this
  refine ⟨⟨_, he, rfl⟩, h _ he (Heap.get?_push_of_some _ (Heap.get?_push_size _ B.free)) (by rw [Heap.size_push, hz]) fun b o x => Heap.get?_push_of_some _ (Heap.get?_push_of_some _ x)⟩
/-- how a source begins -/
theorem Sq.begins {X : Cx} {pins : List (Addr × Obj)} {σ : Sl} {H : Hp} {s : Shared} (I : Inv X pins σ H s) {q : Sq} {vs : List V} (hq : q.at X.K H vs) {u : Value} (r : RelV q.v u) :
    ∃ (o : Obj) (HH : Heap → Prop), Begins u o HH ∧ HH s.heap ∧ ∀ (h' : Heap) (it : Addr), h'.get? it = some o → q.iter it 0 h' := by
  cases q with
  | lst a =>
    obtain ⟨its, rv, p, hz⟩ := I.list hq
    cases r
    exact ⟨_, _, begins_list a its.toArray, p.isList, fun h' it e => ⟨_, e, rfl, rfl⟩⟩
  | tup a =>
    obtain ⟨its, rv, p, hz⟩ := I.tuple hq
    cases r
    exact ⟨_, _, begins_tuple a its.toArray, (show s.heap.IsTuple a its.toArray from p), fun h' it e => ⟨_, e, rfl, rfl⟩⟩
  | str x =>
    obtain ⟨t, rfl⟩ := r
    exact ⟨_, _, begins_text x t, trivial, fun h' it e => ⟨t, _, e, rfl, rfl⟩⟩
def iEnQ (K : PySem.W.Frag) (ta : TA) : TI := fun σ H R => ta σ H fun vs H1 => ∃ (q : Sq) (xs : List V) (k : Int), (vs = [q.v] ∧ k = 0 ∨ vs = [q.v, .int k] ∧ -(2 ^ 63) ≤ k ∧ k < 2 ^ 63) ∧ q.at K H1 xs ∧ R (IteQ K q k) H1
theorem pi_enQ1 {X : Cx} {e : Expr} {ta : TA} {p pos tpos : Pos} {elts : List Expr} {kk : Nat} (hg : Gl X "enumerate") (hm : X.mg "enumerate" = none) (ha : PA X [e] ta) (hs : starEach [e] X.env = [(false, eval e X.env)]) :
    PI X (.Tuple elts kk tpos) (.Call (.Name "enumerate" p) [e] [] pos) (fun σ H R => ta σ H fun vs H1 => ∃ (q : Sq) (xs : List V), vs = [q.v] ∧ q.at X.K H1 xs ∧ R (IteQ X.K q 0) H1) := by
  refine ⟨fun pins s σ H R I h => ?_⟩
  refine Call_ (ld_blt I hg hm boot_enumerate (PyProof.Rows.callWith_type1 (thn (ha.run pos pins s σ H _ I h) fun us s1 ⟨vs, H1, I1, r1, q1⟩ => ?_) hs rfl))
  obtain ⟨q, xs, ex, hq, q1⟩ := q1
  subst ex
  cases r1 with
  | cons r rr =>
    cases rr
    obtain ⟨o, HH, B, hB, hi⟩ := Sq.begins I1 hq r
    refine enum_begins1 B hB fun h' he hit hsz hk => wpAny_pyIter_enum he ?_
    have I2 : Inv X pins σ H1 { s1 with heap := h' } := I1.kept (t' := s1.toks) hk
    refine ⟨s1.heap.objs.size + 1, [s1.heap.objs.size + 1, s1.heap.objs.size], _, _, H1, rfl, I2, turn_enumQ q 0 (s1.heap.objs.size + 1) s1.heap.objs.size, ⟨⟨.none, he⟩, hi _ _ hit, Nat.succ_ne_self _⟩, fun b hb => ?_, q1⟩
    have hb2 : s1.heap.objs.size ≤ b := by
      have e' : b = s1.heap.objs.size + 1 ∨ b = s1.heap.objs.size := by simpa using hb
      rcases e' with z | z
      · rw [z]; exact Nat.le_succ _
      · rw [z]; exact Nat.le_refl _
    exact I1.fpOk hb2 (I1.hok.fresh hb2)
theorem pi_enQ2 {X : Cx} {e f : Expr} {ta : TA} {p pos tpos : Pos} {elts : List Expr} {kk : Nat} (hg : Gl X "enumerate") (hm : X.mg "enumerate" = none) (ha : PA X [e, f] ta)
    (hs : starEach [e, f] X.env = (false, eval e X.env) :: starEach [f] X.env) (hpl : (backTo pos (starEach [f] X.env)).any (·.1) = false) :
    PI X (.Tuple elts kk tpos) (.Call (.Name "enumerate" p) [e, f] [] pos) (fun σ H R => ta σ H fun vs H1 => ∃ (q : Sq) (xs : List V) (k : Int), vs = [q.v, .int k] ∧ (-(2 ^ 63) ≤ k ∧ k < 2 ^ 63) ∧ q.at X.K H1 xs ∧ R (IteQ X.K q k) H1) := by
  refine ⟨fun pins s σ H R I h => ?_⟩
  refine Call_ (ld_blt I hg hm boot_enumerate (PyProof.Rows.callWith_type1 (thn (ha.run pos pins s σ H _ I h) fun us s1 ⟨vs, H1, I1, r1, q1⟩ => ?_) hs hpl))
  obtain ⟨q, xs, k, ex, hk0, hq, q1⟩ := q1
  subst ex
  cases r1 with
  | cons r rr =>
    cases rr with
    | cons r' rr =>
      cases rr
      obtain ⟨t, rfl⟩ := r'
      obtain ⟨o, HH, B, hB, hi⟩ := Sq.begins I1 hq r
      refine enum_begins B hB hk0.1 hk0.2 fun h' he hit hsz hk => wpAny_pyIter_enum he ?_
      have I2 : Inv X pins σ H1 { s1 with heap := h' } := I1.kept (t' := s1.toks) hk
      refine ⟨s1.heap.objs.size + 1, [s1.heap.objs.size + 1, s1.heap.objs.size], _, _, H1, rfl, I2, turn_enumQ q k (s1.heap.objs.size + 1) s1.heap.objs.size, ⟨⟨.none, ?_⟩, hi _ _ hit, Nat.succ_ne_self _⟩, fun b hb => ?_, q1⟩
      · have e0 : k + ((0 : Nat) : Int) = k := by simp
        show IsEnum h' _ _ (k + ((0 : Nat) : Int)) _
        rw [e0]; exact he
      · have hb2 : s1.heap.objs.size ≤ b := by
          have e' : b = s1.heap.objs.size + 1 ∨ b = s1.heap.objs.size := by simpa using hb
          rcases e' with z | z
          · rw [z]; exact Nat.le_succ _
          · rw [z]; exact Nat.le_refl _
        exact I1.fpOk hb2 (I1.hok.fresh hb2)
/-! ### zip -/
def ItzQ (K : PySem.W.Frag) (q1 q2 : Sq) : It :=
  ⟨fun i H => ∃ (xs ys : List V) (x y : V), q1.at K H xs ∧ q2.at K H ys ∧ xs[i]? = some x ∧ ys[i]? = some y,
    fun i H v H' => ∃ T x y, v = .ref T ∧ H T = none ∧ H' = upd H T (.tup [x, y]) ∧ (∀ xs, q1.at K H xs → xs[i]? = some x) ∧ ∀ ys, q2.at K H ys → ys[i]? = some y,
    fun i H => ∃ xs ys : List V, q1.at K H xs ∧ q2.at K H ys ∧ i = min xs.length ys.length⟩
theorem turn_zipQ {P : Program} {w : World} {K : PySem.W.Frag} {elts : List Expr} {kk : Nat} {tpos : Pos} {q1 q2 : Sq} {N : Nat} (h1 : ∀ b ∈ q1.addrs, b < N) (h2 : ∀ b ∈ q2.addrs, b < N) :
    Turn P w K (.Tuple elts kk tpos) (ItzQ K q1 q2) [N + 4, N + 2, N + 3, N, N + 1] (N + 4) (fun i h => IsZip h (N + 4) (N + 2) (N + 3) .none ∧ IsTupOf2 h (N + 2) (.ref N) (.ref (N + 1)) ∧ (∃ x y, IsTupOf2 h (N + 3) x y) ∧ q1.iter N i h ∧ q2.iter (N + 1) i h) where
  mem := by simp
  obj := fun i h st c hc => by
    obtain ⟨hz, hTI, ⟨x, y, hTO⟩, i1, i2⟩ := st
    have e' : c = N + 4 ∨ c = N + 2 ∨ c = N + 3 ∨ c = N ∨ c = N + 1 := by simpa using hc
    rcases e' with q | q | q | q | q
    · rw [q]; exact ⟨_, hz, fun v q => nomatch q⟩
    · rw [q]; exact ⟨_, hTI, fun v q => nomatch q⟩
    · rw [q]; exact ⟨_, hTO, fun v q => nomatch q⟩
    · rw [q]; obtain ⟨o, ho, hn, _⟩ := Sq.iter_obj i1; exact ⟨o, ho, hn⟩
    · rw [q]; obtain ⟨o, ho, hn, _⟩ := Sq.iter_obj i2; exact ⟨o, ho, hn⟩
  keep := fun i h h' st k => by
    obtain ⟨hz, hTI, ⟨x, y, hTO⟩, i1, i2⟩ := st
    exact ⟨k (N + 4) (by simp) _ hz, k (N + 2) (by simp) _ hTI, ⟨x, y, k (N + 3) (by simp) _ hTO⟩, Sq.iter_at i1 fun o q => k N (by simp) o q, Sq.iter_at i2 fun o q => k (N + 1) (by simp) o q⟩
  item := by
    intro X hP hw hK hc i pins s σ H E I hf st hg
    subst hP hw hK
    obtain ⟨hz, hTI, ⟨x0, y0, hTO⟩, i1, i2⟩ := st
    obtain ⟨xs, ys, x, y, hqx, hqy, hx, hy⟩ := hg
    obtain ⟨P1, St1, D1, st1, sti1, hP1, _⟩ := Sq.draws I (I.ok.hd hc) hqx i1
    obtain ⟨P2, St2, D2, st2, sti2, hP2, _⟩ := Sq.draws I (I.ok.hd hc) hqy i2
    have S := zip_sep2 h1 h2
    have hlt1 : i < xs.length := (List.getElem?_eq_some_iff.mp hx).1
    have hlt2 : i < ys.length := (List.getElem?_eq_some_iff.mp hy).1
    have hzl : N + 4 < s.heap.objs.size := Heap.lt_size hz
    refine wpAny_pyNext_zipD2_item S D1 D2 hz hTI hTO st1 st2 hlt1 hlt2 fun u1 u2 h' tk hy1 hy2 z' TO' s1' s2' hT hsz hk => ?_
    obtain ⟨v1, hv1, rv1⟩ := hP1 i u1 hy1
    rw [hx] at hv1
    cases hv1
    obtain ⟨v2, hv2, rv2⟩ := hP2 i u2 hy2
    rw [hy] at hv2
    cases hv2
    refine ⟨_, rfl, wpAny_letOwnedTupleGo_zip (s := { s with heap := h', toks := tk }) z' fun h'' z'' sb => ?_⟩
    have hT2 : h''.get? s.heap.objs.size = some { cls := .type "tuple", data := .seq #[u1, u2] } := (sb.2 _ (Nat.ne_of_gt hzl)).trans hT
    have new : ObjOk X.prog X.w (upd H s.heap.objs.size (.tup [x, y])) h'' s.heap.objs.size (.tup [x, y]) :=
      ⟨by show 2 ≤ sizeLine; decide, [u1, u2], .cons rv1 (.cons rv2 .nil), ⟨_, hT2, rfl, _, rfl⟩⟩
    have I1 : Inv X pins σ (upd H s.heap.objs.size (.tup [x, y])) { s with heap := h'', toks := tk } :=
      I.turnedNew (ch := [N + 4, N + 2, N + 3, N, N + 1]) (fun c o hb q => (sb.2 c (fun q' => hb (by simp [q']))).trans (hk c o (fun q' => hb (by simp [q'])) (fun q' => hb (by simp [q'])) (fun q' => hb (by simp [q'])) (fun q' => hb (by simp [q'])) q)) hf (Nat.le_refl _) new
    have ne4 : ∀ {a : Nat}, a < N + 4 → a ≠ N + 4 := fun h e => by omega
    refine ⟨.ref s.heap.objs.size, _, I1, rfl, ⟨_, x, y, rfl, I.hok.fresh (Nat.le_refl _), rfl, fun l hl => by rw [Sq.inj I hqx hl]; exact hx, fun l hl => by rw [Sq.inj I hqy hl]; exact hy⟩, ⟨z'', ?_, ⟨u1, u2, ?_⟩, ?_, ?_⟩, fun c hcm => ?_⟩
    · exact (sb.2 _ S.TIz).trans (hk _ _ S.TIz S.TITO S.TIi1 S.TIi2 hTI)
    · exact (sb.2 _ S.TOz).trans TO'
    · exact Sq.iter_at (sti1 _ _ s1') fun o q => (sb.2 N S.zi1.symm).trans q
    · exact Sq.iter_at (sti2 _ _ s2') fun o q => (sb.2 (N + 1) S.zi2.symm).trans q
    · have hlt : c < s.heap.objs.size := by
        have e' : c = N + 4 ∨ c = N + 2 ∨ c = N + 3 ∨ c = N ∨ c = N + 1 := by simpa using hcm
        have : (c : Nat) ≤ N + 4 := by rcases e' with q | q | q | q | q <;> (rw [q]; first | exact Nat.le_refl _ | exact Nat.add_le_add_left (by decide) N | exact Nat.le_add_right N 4)
        exact Nat.lt_of_le_of_lt this hzl
      rw [upd_ne (Nat.ne_of_lt hlt)]
      exact (hf c hcm).1
  done := by
    intro X hP hw hK hc i pins s σ H E I hf st hg
    subst hP hw hK
    obtain ⟨hz, hTI, ⟨x0, y0, hTO⟩, i1, i2⟩ := st
    obtain ⟨xs, ys, hqx, hqy, hend⟩ := hg
    obtain ⟨P1, St1, D1, st1, sti1, hP1, _⟩ := Sq.draws I (I.ok.hd hc) hqx i1
    obtain ⟨P2, St2, D2, st2, sti2, hP2, _⟩ := Sq.draws I (I.ok.hd hc) hqy i2
    exact wpAny_pyNext_zipD2_end (zip_sep2 h1 h2) D1 D2 hz hTI hTO st1 st2 (by omega) (by omega) (by omega) fun h' tk hk => ⟨rfl, I.turnedL (t' := tk) (ch := [N + 4, N + 2, N + 3, N, N + 1]) (fun c o hb q =>
      hk c o (fun q' => hb (by simp [q'])) (fun q' => hb (by simp [q'])) (fun q' => hb (by simp [q'])) (fun q' => hb (by simp [q'])) q) hf⟩
  self := fun A i s Q E st h => wpAny_pyIter_zip st.1 h
theorem Sq.lt {X : Cx} {pins : List (Addr × Obj)} {σ : Sl} {H : Hp} {s : Shared} (I : Inv X pins σ H s) {q : Sq} {vs : List V} (hq : q.at X.K H vs) : ∀ b ∈ q.addrs, b < s.heap.objs.size := by
  intro b hb
  cases q with
  | lst a =>
    obtain ⟨its, rv, p, hz⟩ := I.list hq
    rw [List.mem_singleton.mp (show b ∈ [a] from hb)]
    obtain ⟨o, ho, _⟩ := p.isList
    exact Heap.lt_size ho
  | tup a =>
    obtain ⟨its, rv, p, hz⟩ := I.tuple hq
    rw [List.mem_singleton.mp (show b ∈ [a] from hb)]
    obtain ⟨o, ho, _⟩ := (show s.heap.IsTuple a its.toArray from p)
    exact Heap.lt_size ho
  | str x => cases hb
theorem pi_zipQ {X : Cx} {e f : Expr} {ta : TA} {p pos tpos : Pos} {elts : List Expr} {kk : Nat} (hg : Gl X "zip") (hm : X.mg "zip" = none) (ha : PA X [e, f] ta)
    (hs : starEach [e, f] X.env = (false, eval e X.env) :: starEach [f] X.env) (hpl : (backTo pos (starEach [f] X.env)).any (·.1) = false) :
    PI X (.Tuple elts kk tpos) (.Call (.Name "zip" p) [e, f] [] pos) (fun σ H R => ta σ H fun vs H1 => ∃ (q1 q2 : Sq) (xs ys : List V), vs = [q1.v, q2.v] ∧ q1.at X.K H1 xs ∧ q2.at X.K H1 ys ∧ R (ItzQ X.K q1 q2) H1) := by
  refine ⟨fun pins s σ H R I h => ?_⟩
  refine Call_ (ld_blt I hg hm PyProof.Rows.boot_zip (PyProof.Rows.callWith_type1 (thn (ha.run pos pins s σ H _ I h) fun us s1 ⟨vs, H1, I1, r1, q1⟩ => ?_) hs hpl))
  obtain ⟨qa, qb, xs, ys, ex, hqx, hqy, q1⟩ := q1
  subst ex
  cases r1 with
  | cons r rr =>
    cases rr with
    | cons r' rr =>
      cases rr
      obtain ⟨o1, HH1, B1, hB1, hi1⟩ := Sq.begins I1 hqx r
      obtain ⟨o2, HH2, B2, hB2, hi2⟩ := Sq.begins I1 hqy r'
      refine zip_begins2 B1 B2 hB1 hB2 fun h' hz hTI hTO g1 g2 hsz hk => wpAny_pyIter_zip hz ?_
      have I2 : Inv X pins σ H1 { s1 with heap := h' } := I1.kept (t' := s1.toks) hk
      refine ⟨s1.heap.objs.size + 4, [s1.heap.objs.size + 4, s1.heap.objs.size + 2, s1.heap.objs.size + 3, s1.heap.objs.size, s1.heap.objs.size + 1], _, _, H1, rfl, I2, turn_zipQ (Sq.lt I1 hqx) (Sq.lt I1 hqy), ⟨hz, hTI, ⟨_, _, hTO⟩, hi1 _ _ g1, hi2 _ _ g2⟩, fun c hcm => ?_, q1⟩
      have e' : c = s1.heap.objs.size + 4 ∨ c = s1.heap.objs.size + 2 ∨ c = s1.heap.objs.size + 3 ∨ c = s1.heap.objs.size ∨ c = s1.heap.objs.size + 1 := by simpa using hcm
      have hle : s1.heap.objs.size ≤ c := by
        rcases e' with z | z | z | z | z
        · rw [z]; exact Nat.le_add_right _ _
        · rw [z]; exact Nat.le_add_right _ _
        · rw [z]; exact Nat.le_add_right _ _
        · rw [z]; exact Nat.le_refl _
        · rw [z]; exact Nat.le_add_right _ _
      exact I1.fpOk hle (I1.hok.fresh hle)
/-! ### by the data -/
section
variable {K : PySem.W.Frag} {Z : Pr} {H : Hp}
theorem own_signs : ∀ (l : List Nat), OwnL K Z H (l.map fun c => D.str ⟨#[c]⟩) 0 (l.map fun c => V.str ⟨#[c]⟩) []
  | [] => by rw [List.map_nil, List.map_nil, OwnL]; exact ⟨rfl, rfl⟩
  | c :: l => by
    rw [List.map_cons, List.map_cons, OwnL]
    exact ⟨_, _, [], [], rfl, rfl, own_str, own_signs l⟩
theorem sq_of {d : D} {l : List D} {v : V} (o : Own K Z H d 0 v []) (h : seqOf d = some l) : ∃ (q : Sq) (vs : List V), v = q.v ∧ (∀ Z' H', Keep Z nW H Z' H' → q.at K H' vs) ∧ OwnL K Z H l 0 vs [] := by
  cases d with
  | lst l =>
    cases h
    rw [Own] at o
    obtain ⟨_, a, ws, rfl, f, ol⟩ := o
    exact ⟨.lst a, ws, rfl, fun Z' H' k => SqL.of (k.ex a ws f.1 f.2), ol⟩
  | tup l =>
    cases h
    rw [Own] at o
    obtain ⟨_, a, ws, rfl, f, ol⟩ := o
    exact ⟨.tup a, ws, rfl, fun Z' H' k => (f.keep k).sq, ol⟩
  | str x =>
    cases h
    rw [Own] at o
    exact ⟨.str x, _, o.1, fun Z' H' k => rfl, own_signs _⟩
  | _ => cases h
theorem enumL_get : ∀ (l : List D) (k : Int) (i : Nat), (enumL k l)[i]? = (l[i]?).map fun d => D.tup [.int (k + (i : Nat)), d]
  | [], k, i => by simp [enumL]
  | d :: l, k, 0 => by simp [enumL]
  | d :: l, k, i + 1 => by
    rw [enumL, List.getElem?_cons_succ, List.getElem?_cons_succ, enumL_get l (k + 1) i]
    have e : k + 1 + (i : Int) = k + ((i + 1 : Nat) : Int) := by omega
    rw [e]
theorem enumL_len : ∀ (l : List D) (k : Int), (enumL k l).length = l.length
  | [], k => rfl
  | d :: l, k => by rw [enumL, List.length_cons, enumL_len l, List.length_cons]
theorem own_pair {T : Addr} {d1 d2 : D} {v1 v2 : V} (hn : H T = none) (o1 : Own K Z H d1 0 v1 []) (o2 : Own K Z H d2 0 v2 []) : Own K (orL Z [T]) (upd H T (.tup [v1, v2])) (.tup [d1, d2]) 0 (.ref T) [] := by
  have k : Keep Z nW H (orL Z [T]) (upd H T (.tup [v1, v2])) := (keep_new hn).trans keep_more
  rw [Own]
  refine ⟨rfl, T, [v1, v2], rfl, .inl ⟨.inr (by simp), .inl upd_same⟩, ?_⟩
  rw [OwnL]
  refine ⟨v1, [v2], [], [], rfl, rfl, o1.keep k (by simp), ?_⟩
  rw [OwnL]
  refine ⟨v2, [], [], [], rfl, rfl, o2.keep k (by simp), ?_⟩
  rw [OwnL]
  exact ⟨rfl, rfl⟩
theorem walkD_enum {q : Sq} {vs : List V} {l : List D} {k0 : Int} (hq : ∀ Z' H', Keep Z nW H Z' H' → q.at K H' vs) (o : OwnL K Z H l 0 vs []) : WalkD K (IteQ K q k0) Z H (enumL k0 l) where
  go := fun i Z' H' hi k _ => by
    rw [enumL_len] at hi
    exact ⟨vs, vs[i]'(by rw [o.len]; exact hi), hq Z' H' k, by simp⟩
  stop := fun Z' H' k _ => ⟨vs, hq Z' H' k, by rw [enumL_len, o.len]⟩
  yld := fun i Z' H' x H2 hi k _ y => by
    rw [enumL_len] at hi
    obtain ⟨T, x', rfl, hT, rfl, hx⟩ := y
    have hx := hx vs (hq Z' H' k)
    have hd : l[i]? = some l[i] := by simp
    obtain ⟨v, hv, ov⟩ := (o.keep0 k).get hd
    rw [hx] at hv
    cases hv
    refine ⟨_, by rw [enumL_get, hd]; rfl, .inr ⟨T, _, hT, rfl, own_pair hT own_int ov⟩⟩
theorem walkD_zip {q1 q2 : Sq} {vs ws : List V} {l m : List D} (hq1 : ∀ Z' H', Keep Z nW H Z' H' → q1.at K H' vs) (hq2 : ∀ Z' H', Keep Z nW H Z' H' → q2.at K H' ws) (o1 : OwnL K Z H l 0 vs []) (o2 : OwnL K Z H m 0 ws []) :
    WalkD K (ItzQ K q1 q2) Z H ((l.zip m).map fun p => D.tup [p.1, p.2]) where
  go := fun i Z' H' hi k _ => by
    rw [List.length_map, List.length_zip] at hi
    exact ⟨vs, ws, vs[i]'(by rw [o1.len]; omega), ws[i]'(by rw [o2.len]; omega), hq1 Z' H' k, hq2 Z' H' k, by simp, by simp⟩
  stop := fun Z' H' k _ => ⟨vs, ws, hq1 Z' H' k, hq2 Z' H' k, by rw [List.length_map, List.length_zip, o1.len, o2.len]⟩
  yld := fun i Z' H' x H2 hi k _ y => by
    rw [List.length_map, List.length_zip] at hi
    obtain ⟨T, x', y', rfl, hT, rfl, hx, hy⟩ := y
    have hx := hx vs (hq1 Z' H' k)
    have hy := hy ws (hq2 Z' H' k)
    have hd : l[i]? = some (l[i]'(by omega)) := by simp
    have hd2 : m[i]? = some (m[i]'(by omega)) := by simp
    obtain ⟨v, hv, ov⟩ := (o1.keep0 k).get hd
    rw [hx] at hv
    cases hv
    obtain ⟨v2, hv2, ov2⟩ := (o2.keep0 k).get hd2
    rw [hy] at hv2
    cases hv2
    refine ⟨.tup [l[i]'(by omega), m[i]'(by omega)], ?_, .inr ⟨T, _, hT, rfl, own_pair hT ov ov2⟩⟩
    rw [List.getElem?_map, List.getElem?_eq_getElem (by rw [List.length_zip]; exact hi)]
    simp
theorem walkD_rngC {lo c : Int} {n : Nat} : WalkD K (Itc lo c n) Z H ((rangeC lo c n).map .int) where
  go := fun i Z' H' hi k _ => by
    have : i < n := by simpa [rangeC] using hi
    exact this
  stop := fun Z' H' k _ => by
    show n ≤ _
    simp [rangeC]
  yld := fun i Z' H' v H2 hi k _ y => by
    obtain ⟨rfl, rfl⟩ := y
    have : i < n := by simpa [rangeC] using hi
    refine ⟨.int (lo + (i : Nat) * c), ?_, .inl ⟨rfl, own_int⟩⟩
    unfold rangeC
    rw [List.getElem?_map, List.getElem?_map, List.getElem?_range this]
    rfl
end
section
variable {X : Cx} {as : List V} {XW : XWt} {cf : CF} {tg e a b c : Expr} {s sa sb sc : E} {p pos tpos : Pos} {elts : List Expr} {kk : Nat}
theorem pi_en1 (hg : Gl X "enumerate") (hm : X.mg "enumerate" = none) (ha : PA X [a] (TAs X.K as XW (ev cf (.cons sa .nil)))) (hs : starEach [a] X.env = [(false, eval a X.env)]) :
    PI X (.Tuple elts kk tpos) (.Call (.Name "enumerate" p) [a] [] pos) (TIx X.K as XW cf .enum (.cons sa .nil)) := by
  refine PI.weak (pi_enQ1 hg hm ha hs) fun σ H R h => tas_items h ev_len1 fun Z W r fp ds vs H1 its hl E o hi k => ?_
  match ds, hl with
  | [d], _ =>
    obtain ⟨v, rfl, o1⟩ := ownL1 o
    have hi : (seqOf d).map (enumL 0) = some its := hi
    cases hd : seqOf d with
    | none => rw [hd] at hi; cases hi
    | some l =>
      rw [hd] at hi
      cases hi
      obtain ⟨q, ws, rfl, hq, ol⟩ := sq_of o1 hd
      exact ⟨q, ws, rfl, hq Z H1 Keep.refl, k _ (walkD_enum hq ol)⟩
theorem pi_en2 (hg : Gl X "enumerate") (hm : X.mg "enumerate" = none) (ha : PA X [a, b] (TAs X.K as XW (ev cf (.cons sa (.cons sb .nil))))) (hs : starEach [a, b] X.env = (false, eval a X.env) :: starEach [b] X.env) (hpl : (backTo pos (starEach [b] X.env)).any (·.1) = false) :
    PI X (.Tuple elts kk tpos) (.Call (.Name "enumerate" p) [a, b] [] pos) (TIx X.K as XW cf .enumS (.cons sa (.cons sb .nil))) := by
  refine PI.weak (pi_enQ2 hg hm ha hs hpl) fun σ H R h => tas_items h ev_len2 fun Z W r fp ds vs H1 its hl E o hi k => ?_
  match ds, hl with
  | [d, d2], _ =>
    obtain ⟨v, w, rfl, o1, o2⟩ := ownL2 o
    cases d2 with
    | int n =>
      have hi : (if okR n then (seqOf d).map (enumL n) else none) = some its := hi
      split at hi
      · rename_i hn
        obtain ⟨b1, b2⟩ := okR_of hn
        cases hd : seqOf d with
        | none => rw [hd] at hi; cases hi
        | some l =>
          rw [hd] at hi
          cases hi
          obtain ⟨q, ws, rfl, hq, ol⟩ := sq_of o1 hd
          exact ⟨q, ws, n, by rw [rv_int o2.rv], ⟨by omega, by omega⟩, hq Z H1 Keep.refl, k _ (walkD_enum hq ol)⟩
      · cases hi
    | _ => cases hi
theorem pi_zp (hg : Gl X "zip") (hm : X.mg "zip" = none) (ha : PA X [a, b] (TAs X.K as XW (ev cf (.cons sa (.cons sb .nil))))) (hs : starEach [a, b] X.env = (false, eval a X.env) :: starEach [b] X.env) (hpl : (backTo pos (starEach [b] X.env)).any (·.1) = false) :
    PI X (.Tuple elts kk tpos) (.Call (.Name "zip" p) [a, b] [] pos) (TIx X.K as XW cf .zip (.cons sa (.cons sb .nil))) := by
  refine PI.weak (pi_zipQ hg hm ha hs hpl) fun σ H R h => tas_items h ev_len2 fun Z W r fp ds vs H1 its hl E o hi k => ?_
  match ds, hl with
  | [d, d2], _ =>
    obtain ⟨v, w, rfl, o1, o2⟩ := ownL2 o
    have hi : ((seqOf d).bind fun x => (seqOf d2).bind fun y => some ((x.zip y).map fun p => D.tup [p.1, p.2])) = some its := hi
    cases hd : seqOf d with
    | none => rw [hd] at hi; cases hi
    | some l =>
      cases hd2 : seqOf d2 with
      | none => rw [hd, hd2] at hi; cases hi
      | some m =>
        rw [hd, hd2] at hi
        cases hi
        obtain ⟨q, ws, rfl, hq, ol⟩ := sq_of o1 hd
        obtain ⟨q2, ws2, rfl, hq2, ol2⟩ := sq_of o2 hd2
        exact ⟨q, q2, ws, ws2, rfl, hq Z H1 Keep.refl, hq2 Z H1 Keep.refl, k _ (walkD_zip hq hq2 ol ol2)⟩
theorem ev_len3 {a b c : E} (rs : List R) (r r' : Bk.Env) (h : ev cf (.cons a (.cons b (.cons c .nil))) r = .val (rs, r')) : rs.length = 3 := ev_lenS (fun rs r r' h => ev_len2 rs r r' h) h
theorem ownL3 {K : PySem.W.Frag} {Z : Pr} {H : Hp} {d e f : D} {vs : List V} (o : OwnL K Z H [d, e, f] 0 vs []) : ∃ v w x, vs = [v, w, x] ∧ Own K Z H d 0 v [] ∧ Own K Z H e 0 w [] ∧ Own K Z H f 0 x [] := by
  rw [OwnL] at o
  obtain ⟨v, ws, f, g, rfl, e2, o1, o2⟩ := o
  obtain ⟨rfl, rfl⟩ := List.append_eq_nil_iff.mp e2.symm
  obtain ⟨w, x, rfl, o3, o4⟩ := ownL2 o2
  exact ⟨v, w, x, rfl, o1, o3, o4⟩
theorem pi_rng3 (hg : Gl X "range") (hm : X.mg "range" = none) (ha : PA X [a, b, c] (TAs X.K as XW (ev cf (.cons sa (.cons sb (.cons sc .nil)))))) (hs : starEach [a, b, c] X.env = (false, eval a X.env) :: starEach [b, c] X.env) (hpl : (backTo pos (starEach [b, c] X.env)).any (·.1) = false) :
    PI X tg (.Call (.Name "range" p) [a, b, c] [] pos) (TIx X.K as XW cf .range (.cons sa (.cons sb (.cons sc .nil)))) := by
  refine PI.weak (pi_range3 hg hm ha hs hpl) fun σ H R h => tas_items h ev_len3 fun Z W r fp ds vs H1 its hl E o hi k => ?_
  match ds, hl with
  | [d, d2, d3], _ =>
    obtain ⟨v, w, x, rfl, o1, o2, o3⟩ := ownL3 o
    cases d with
    | int i =>
      cases d2 with
      | int j =>
        cases d3 with
        | int c =>
          have hi : (if decide (c ≠ 0) && decide (c.natAbs < 1073741824) && Builtin.Range.small i j c && decide (0 ≤ Builtin.Range.rangeSize i j c) then some ((rangeC i c (Builtin.Range.rangeSize i j c).toNat).map D.int) else none) = some its := hi
          split at hi
          · rename_i hc
            cases hi
            simp only [Bool.and_eq_true, decide_eq_true_eq] at hc
            refine ⟨i, j, c, (Builtin.Range.rangeSize i j c).toNat, by rw [rv_int o1.rv, rv_int o2.rv, rv_int o3.rv], ⟨hc.1.1.1, hc.1.1.2, hc.1.2, by have := hc.2; omega⟩, k _ walkD_rngC⟩
          · cases hi
        | _ => cases hi
      | _ => cases hi
    | _ => cases hi
end
end Bk
/-! Bk: operators as rules. -/
namespace Bk
open L2 PyProof.Rows PySem.Spec PySem
theorem tup_mul1 (l : Addr) (items : Array Value) (n : Nat) (dd : Option Addr) (sl : Array (Option Value)) (u : Tok) :
    Meets (Builtin.«tuple.__mul__» ⟨[.ref l, .int 1 u], []⟩) (fun _ R s => s.heap.get? l = some { cls := .type "tuple", dict := dd, data := .seq items n, slots := sl } ∧ R (.ok (.ret (Value.ref l))) s) :=
  .of_wp fun prog w A R s h => by
    obtain ⟨hp, g, d, tk, os⟩ := s
    obtain ⟨hl, h⟩ := h
    have f1 := AutoSeq1.idx_int
    wp_walk using wpAny_loadPart' hl
    exact ⟨_, rfl, h⟩
theorem tup_mul0 (l : Addr) (items : Array Value) (n : Nat) (dd : Option Addr) (sl : Array (Option Value)) (u : Tok) (hne : items.isEmpty = false) :
    Meets (Builtin.«tuple.__mul__» ⟨[.ref l, .int 0 u], []⟩) (fun _ R s => s.heap.get? l = some { cls := .type "tuple", dict := dd, data := .seq items n, slots := sl } ∧
      R (.ok (.ret (Value.ref s.heap.objs.size))) { s with heap := s.heap.push { cls := Value.type "tuple", data := Data.seq #[] }, toks := s.toks }) :=
  .of_wp fun prog w A R s h => by
    obtain ⟨hp, g, d, tk, os⟩ := s
    obtain ⟨hl, h⟩ := h
    have f1 := AutoSeq1.idx_int
    wp_walk using wpAny_loadPart' hl
    exact ⟨_, rfl, h⟩
def rRep0 (K : PySem.W.Frag) : R2 := fun x y H Q => ∃ l xs, x = .ref l ∧ y = .int 0 ∧ SqT K H l xs ∧ xs ≠ [] ∧ ∀ p, H p = none → Q (.ref p) (upd H p (.tup []))
def rRep1 (K : PySem.W.Frag) : R2 := fun x y H Q => ∃ l xs, x = .ref l ∧ y = .int 1 ∧ SqT K H l xs ∧ Q (.ref l) H
theorem orr {X : Cx} {f : Value → Value → Sem Value} {r r' : R2} (h : OpR X f r) (h' : OpR X f r') : OpR X f fun x y H Q => r x y H Q ∨ r' x y H Q := by
  intro pins s σ H x y v u Q I rx ry q
  rcases q with q | q
  · exact h pins s σ H x y v u Q I rx ry q
  · exact h' pins s σ H x y v u Q I rx ry q
section
variable {X : Cx}
theorem op_rep1 : OpR X (binaryOp .Mult) (rRep1 X.K) := by
  intro pins s σ H x y v u Q I rx ry h
  obtain ⟨l, xs, rfl, rfl, hT, q⟩ := h
  cases rx
  obtain ⟨t, rfl⟩ := ry
  obtain ⟨its, r, ⟨⟨cls, dd, data, sl⟩, ho, hc, n, hd⟩, _⟩ := I.tuple hT
  simp only at hc hd
  subst hc hd
  refine wpAny_binaryOp_repeat_ref (T := "tuple") (U := "int") (by decide) ⟨_, ho, rfl⟩ (fun s' => typeIs_int s' 1 t) noFill_tuple_mul F.fills_int_mul F.slot_int_rmul repeat_tuple F.slot_int_index.lookup
    (call_meets F.slot_int_rmul (typeIs_int s 1 t) F.entry_int_rmul (F.args_int_rmul_2 _ _) (int_rmul_tuple 1 t l its.toArray n dd sl)
      ⟨ho, rfl, ⟨_, ho, rfl⟩, call_meets F.slot_tuple_mul ⟨_, ho, rfl⟩ F.entry_tuple_mul (F.args_tuple_mul_2 _ _) (tup_mul1 l its.toArray n dd sl t) ⟨ho, ?_⟩⟩)
  exact ⟨.ref l, H, I, rfl, q⟩
theorem op_rep0 : OpR X (binaryOp .Mult) (rRep0 X.K) := by
  intro pins s σ H x y v u Q I rx ry h
  obtain ⟨l, xs, rfl, rfl, hT, hne, q⟩ := h
  cases rx
  obtain ⟨t, rfl⟩ := ry
  obtain ⟨its, r, ⟨⟨cls, dd, data, sl⟩, ho, hc, n, hd⟩, _⟩ := I.tuple hT
  simp only at hc hd
  subst hc hd
  have hi : its.toArray.isEmpty = false := by
    cases its with
    | nil => cases r; exact absurd rfl hne
    | cons a b => rfl
  refine wpAny_binaryOp_repeat_ref (T := "tuple") (U := "int") (by decide) ⟨_, ho, rfl⟩ (fun s' => typeIs_int s' 0 t) noFill_tuple_mul F.fills_int_mul F.slot_int_rmul repeat_tuple F.slot_int_index.lookup
    (call_meets F.slot_int_rmul (typeIs_int s 0 t) F.entry_int_rmul (F.args_int_rmul_2 _ _) (int_rmul_tuple 0 t l its.toArray n dd sl)
      ⟨ho, rfl, ⟨_, ho, rfl⟩, call_meets F.slot_tuple_mul ⟨_, ho, rfl⟩ F.entry_tuple_mul (F.args_tuple_mul_2 _ _) (tup_mul0 l its.toArray n dd sl t hi) ⟨ho, ?_⟩⟩)
  refine ⟨.ref s.heap.objs.size, _, I.laid (t' := s.toks) (o := .tup []) (fun b ob q => Heap.get?_push_of_some _ q) (Nat.le_refl _) ?_, rfl, q _ (I.hok.fresh (Nat.le_refl _))⟩
  exact ⟨Nat.zero_le _, [], .nil, IsTup.new _ _⟩
variable {as : List V} {XW : XWt} {cf : CF} {a b : Expr} {sa sb : E} {pos p : Pos} {k : Nat}
/-- a text's value -/
abbrev TE1' (X : Cx) (as : List V) (XW : XWt) (cf : CF) (e : E) : TE := TE1 X.K as XW (ev cf e)
theorem pe_bin {op : Operator} {o : Op} {r : R2} (ho : OpR X (binaryOp op) r) (hr : ∀ {σ x y H Q}, OpK X.K as σ (keepO o) (opG o) [x, y] H Q → r x y H Q) (ha : PE X a (TE1' X as XW cf sa)) (hb : PE X b (TE1' X as XW cf sb)) :
    PE X (.BinOp a op b pos) (TE1' X as XW cf (.op o (.cons sa (.cons sb .nil)))) :=
  PE.weak (pe_op ho ha hb) fun σ H Q h => (op2 h).imp fun x H1 q => q.imp fun y H2 q => hr q
theorem pe_cmp2 {op : CmpOp} {o : Op} {r : R2} (ho : OpR X (compareOp op) r) (hr : ∀ {σ x y H Q}, OpK X.K as σ (keepO o) (opG o) [x, y] H Q → r x y H Q) (ha : PE X a (TE1' X as XW cf sa)) (hb : PE X b (TE1' X as XW cf sb))
    (hm : behindInMarks op b = false) : PE X (.Compare a [op] [b] pos) (TE1' X as XW cf (.op o (.cons sa (.cons sb .nil)))) :=
  PE.weak (pe_cmpR ho ha hb hm) fun σ H Q h => (op2 h).imp fun x H1 q => q.imp fun y H2 q => hr q
theorem pe_un1 {op : UnaryOp} {o : Op} {r : V → Hp → VK → Prop} (ho : UnR X (unaryOp op) r) (hr : ∀ {σ x H Q}, OpK X.K as σ (keepO o) (opG o) [x] H Q → r x H Q) (ha : PE X a (TE1' X as XW cf sa)) :
    PE X (.UnaryOp op a pos) (TE1' X as XW cf (.op o (.cons sa .nil))) :=
  PE.weak (pe_un ho ha) fun σ H Q h => (op1 h).imp fun x H1 q => hr q
def rRepS : R2 := fun x y H Q => ∃ s k, x = .str s ∧ y = .int k ∧ 0 ≤ k ∧ k ≤ 4096 ∧ s.length ≤ 4096 ∧ Q (.str (repS s k)) H
theorem rep_size (a : Array Nat) : ∀ (n : Nat) (acc : Array Nat), ((List.replicate n a).foldl (· ++ ·) acc).size = acc.size + n * a.size
  | 0, acc => by simp
  | n + 1, acc => by rw [List.replicate_succ, List.foldl_cons, rep_size a n, Array.size_append, Nat.succ_mul]; omega
theorem op_repS : OpR X (binaryOp .Mult) rRepS := by
  intro pins s σ H x y v u Q I rx ry ⟨z, k, ex, ey, h0, h1, hz, q⟩
  subst ex; subst ey
  obtain ⟨t, rfl⟩ := rx
  obtain ⟨t2, rfl⟩ := ry
  have hle : z.length * k.toNat ≤ 4096 * 4096 := Nat.mul_le_mul hz (by omega)
  refine P.mul_str ?_ (fun hk _ hc => ?_) (fun _ _ => ?_) ?_
  · simp only [Bool.or_eq_false_iff, decide_eq_false_iff_not]; omega
  · have h2 : (2 ^ 63 - 1 : Int) / k ≥ (2 ^ 63 - 1) / 4096 := by
      apply Int.le_ediv_of_mul_le (by omega)
      have : (2 ^ 63 - 1 : Int) / 4096 * k ≤ (2 ^ 63 - 1 : Int) / 4096 * 4096 := Int.mul_le_mul_of_nonneg_left h1 (by decide)
      exact Int.le_trans this (by decide)
    have h3 : (2 ^ 63 - 1 : Int) / 4096 ≥ 4096 := by decide
    omega
  · exact decide_eq_false (by rw [sizeLine_eq]; omega)
  · unfold repS at q
    split at q
    · rename_i hk; rw [if_pos hk]; exact ⟨Nat.zero_le _, .str _, H, I.tok _, ⟨_, rfl⟩, q⟩
    · rename_i hk
      rw [if_neg hk]
      split at q
      · rename_i hk2; rw [if_pos hk2]; exact ⟨.str _, H, I, ⟨_, rfl⟩, q⟩
      · rename_i hk2; rw [if_neg hk2]; exact ⟨(by show (Array.size _) ≤ _; rw [rep_size, sizeLine_eq]; have : z.cps.size = z.length := rfl; rw [this, Nat.mul_comm]; simp; omega), .str _, H, I.tok _, ⟨_, rfl⟩, q⟩
abbrev rMulA (K : PySem.W.Frag) : R2 := fun x y H Q => (rI CMul (fun i j => .int (i * j)) x y H Q ∨ (rRep x y H Q ∨ rRepS x y H Q)) ∨ (rRep0 K x y H Q ∨ rRep1 K x y H Q) ∨ rRepT K x y H Q
theorem rd_mul {σ : Sl} {x y : V} {H : Hp} {Q : VK} (h : OpK X.K as σ false (opG .mul) [x, y] H Q) : rMulA X.K x y H Q := by
  rcases rd_rep h with h | h | h | ⟨a, ds', k, vs, Z, W, r, fp, rfl, rfl, sq, hne, h0, h1, hz, E, o, ol, c⟩
  · exact .inl (.inl h)
  · exact .inl (.inr (.inl h))
  · exact .inl (.inr (.inr h))
  · by_cases k0 : k = 0
    · subst k0
      refine .inr (.inl (.inl ⟨a, vs, rfl, rfl, sq, hne, fun p hn => ?_⟩))
      have c : Cont X.K as Z W H r σ (.tup []) 0 Q := c
      exact c.tup E hn (by rw [OwnL]; exact ⟨rfl, rfl⟩)
    · by_cases k1 : k = 1
      · subst k1
        refine .inr (.inl (.inr ⟨a, vs, rfl, rfl, sq, ?_⟩))
        have e : (List.replicate (1 : Int).toNat ds').flatten = ds' := by simp
        rw [e] at c
        exact c.here E o
      · exact .inr (.inr ⟨a, k, vs, rfl, rfl, sq, hne, by omega, h1, hz, fun p hn => c.tup E hn (ol.rep _)⟩)
theorem or_mul : OpR X (binaryOp .Mult) (rMulA X.K) := orr (orr op_mul (orr op_rep op_repS)) (orr (orr op_rep0 op_rep1) op_repT)
theorem or_add : OpR X (binaryOp .Add) (rAddA X.K) := orr op_add (orr op_add_str (orr op_cat op_catA))
end
/-- the two-place operators -/
def binOf : Operator → Option Op
  | .Add => some .add | .Sub => some .sub | .Mult => some .mul | .FloorDiv => some .fdiv | .Mod => some .mod | .Pow => some .pow
  | .LShift => some .shl | .RShift => some .shr | .BitAnd => some .band
  | _ => none
def cmpOf : CmpOp → Option Op
  | .Lt => some .lt | .LtE => some .le | .Gt => some .gt | .GtE => some .ge | .Eq => some .eq | .NotEq => some .ne
  | .In => some .isin | .NotIn => some .notin | .Is => some .isB | .IsNot => some .notB
section
variable {X : Cx} {as : List V} {XW : XWt} {cf : CF} {a b : Expr} {sa sb : E} {pos p : Pos} {k : Nat}
theorem eb_bin {op : Operator} {o : Op} (h : binOf op = some o) (ha : PE X a (TE1' X as XW cf sa)) (hb : PE X b (TE1' X as XW cf sb)) :
    PE X (.BinOp a op b pos) (TE1' X as XW cf (.op o (.cons sa (.cons sb .nil)))) := by
  cases op <;> simp only [binOf, Option.some.injEq, reduceCtorEq] at h <;> subst h
  · exact pe_bin or_add rd_add ha hb
  · exact pe_bin op_sub rd_sub ha hb
  · exact pe_bin or_mul rd_mul ha hb
  · exact pe_bin op_mod rd_mod ha hb
  · exact pe_bin op_pow rd_pow ha hb
  · exact pe_bin op_shl rd_shl ha hb
  · exact pe_bin op_shr rd_shr ha hb
  · exact pe_bin op_and rd_band ha hb
  · exact pe_bin op_fdiv rd_fdiv ha hb
theorem at_map {α β : Type} {o : Option α} {f : α → β} {e : β} (h : o.map f = some e) : ∃ a, e = f a := by
  cases o with
  | none => cases h
  | some a => cases h; exact ⟨a, rfl⟩
theorem isB_at {g : Bool → Bool} {ds : List D} {e : D} (h : (match ds with | [.bl a, .bl b] => some (D.bl (g (decide (a = b)))) | _ => none) = some e) : (atomV e).isSome = true := by
  split at h
  · cases h; rfl
  · cases h
theorem rd_isB {σ : Sl} {x y : V} {H : Hp} {Q : VK} (h : OpK X.K as σ true (opG .isB) [x, y] H Q) : rIsB x y H Q := by
  obtain ⟨Z, W, r, fp, ds, d, l, E, al, hg, c⟩ := h
  obtain ⟨d1, d2, rfl, ⟨r1, b1⟩, r2, b2⟩ := all2_2 al
  obtain ⟨ho, rfl⟩ := opG_some hg
  replace ho : isBD [d1, d2] = some d := ho
  unfold isBD at ho
  split at ho
  · rename_i e; cases e; cases ho
    exact ⟨_, _, rv_bl r1, rv_bl r2, c.bl E⟩
  · cases ho
theorem rd_notB {σ : Sl} {x y : V} {H : Hp} {Q : VK} (h : OpK X.K as σ true (opG .notB) [x, y] H Q) : rNotB x y H Q := by
  obtain ⟨Z, W, r, fp, ds, d, l, E, al, hg, c⟩ := h
  obtain ⟨d1, d2, rfl, ⟨r1, b1⟩, r2, b2⟩ := all2_2 al
  obtain ⟨ho, rfl⟩ := opG_some hg
  replace ho : notBD [d1, d2] = some d := ho
  unfold notBD at ho
  split at ho
  · rename_i e; cases e; cases ho
    exact ⟨_, _, rv_bl r1, rv_bl r2, c.bl E⟩
  · cases ho
theorem eb_cmp {op : CmpOp} {o : Op} (hr : Room k X.A) (h : cmpOf op = some o) (ha : PE X a (TE1' X as XW cf sa)) (hb : PE X b (TE1' X as XW cf sb)) (hm : behindInMarks op b = false) :
    PE X (.Compare a [op] [b] pos) (TE1' X as XW cf (.op o (.cons sa (.cons sb .nil)))) := by
  have hi : ∀ ds e, isinD ds = some e → (atomV e).isSome = true := fun ds e h => by obtain ⟨b, rfl⟩ := at_map h; rfl
  have hni : ∀ ds e, notinD ds = some e → (atomV e).isSome = true := fun ds e h => by obtain ⟨b, rfl⟩ := at_map h; rfl
  have he : ∀ ds e, eqD2 ds = some e → (atomV e).isSome = true := fun ds e h => by
    unfold eqD2 at h; split at h
    · obtain ⟨b, rfl⟩ := at_map h; rfl
    · cases h
  have hne : ∀ ds e, neD2 ds = some e → (atomV e).isSome = true := fun ds e h => by
    unfold neD2 at h; split at h
    · obtain ⟨b, rfl⟩ := at_map h; rfl
    · cases h
  cases op <;> simp only [cmpOf, Option.some.injEq, reduceCtorEq] at h <;> subst h
  · exact pe_cmp2 (or_eq hr) (fun h => rd_atom h he) ha hb hm
  · exact pe_cmp2 (or_ne hr) (fun h => rd_atom h hne) ha hb hm
  · exact pe_cmp2 op_lt (fun h => rd_cmp rfl h) ha hb hm
  · exact pe_cmp2 op_le (fun h => rd_cmp rfl h) ha hb hm
  · exact pe_cmp2 op_gt (fun h => rd_cmp rfl h) ha hb hm
  · exact pe_cmp2 op_ge (fun h => rd_cmp rfl h) ha hb hm
  · exact pe_cmp2 op_isBl rd_isB ha hb hm
  · exact pe_cmp2 op_notBl rd_notB ha hb hm
  · exact pe_cmp2 (or_in hr) (fun h => rd_atom h hi) ha hb hm
  · exact pe_cmp2 (or_notin hr) (fun h => rd_atom h hni) ha hb hm
end
end Bk
/-! Bk: sums, greatest, least and order of ints. -/
namespace Bk
open L2 PyProof.Rows PySem.Spec PySem
section
variable {K : PySem.W.Frag} {H : Hp}
theorem intsOf_vals : ∀ {ds : List D} {vs : List V} {ns : List Int}, intsOf ds = some ns → RvL K H ds vs → vs = ns.map V.int
  | [], vs, ns, h, r => by
    rw [RvL] at r
    simp only [intsOf, Option.some.injEq] at h
    rw [r, ← h]; rfl
  | .int i :: ds, vs, ns, h, r => by
    rw [RvL] at r
    obtain ⟨v, ws, rfl, r1, r2⟩ := r
    simp only [intsOf] at h
    cases e : intsOf ds with
    | none => rw [e] at h; cases h
    | some ms =>
      rw [e] at h
      cases h
      rw [rv_int r1, intsOf_vals e r2]; rfl
  | .non :: _, _, _, h, _ => by cases h
  | .bl _ :: _, _, _, h, _ => by cases h
  | .str _ :: _, _, _, h, _ => by cases h
  | .tup _ :: _, _, _, h, _ => by cases h
  | .lst _ :: _, _, _, h, _ => by cases h
  | .dct _ _ :: _, _, _, h, _ => by cases h
  | .set _ :: _, _, _, h, _ => by cases h
  | .ins _ _ :: _, _, _, h, _ => by cases h
  | .scr _ :: _, _, _, h, _ => by cases h
theorem seqI_at {d : D} {v : V} {ns : List Int} (h : seqI d = some ns) (r : Rv K H d v) : ∃ a, v = .ref a ∧ (SqL K H a (ns.map V.int) ∨ SqT K H a (ns.map V.int)) := by
  unfold seqI at h
  split at h
  · rw [Rv] at r
    obtain ⟨a, vs, rfl, h1, al⟩ := r
    have := intsOf_vals h al
    subst this
    exact ⟨a, rfl, .inl (SqL.of h1)⟩
  · rw [Rv] at r
    obtain ⟨a, vs, rfl, h1, al⟩ := r
    have := intsOf_vals h al
    subst this
    exact ⟨a, rfl, .inr h1⟩
  · cases h
end
section
variable {prog : Program} {w : World} {A : Around} {E Q : Value → Shared → Prop} {s : Shared} {l : Addr} {its : List Value} {ns : List Int}
theorem isTuple_of {h : Heap} {a : Addr} {vs : Array Value} (t : IsTup h a vs) : h.IsTuple a vs := by
  obtain ⟨o, e, c, n, d⟩ := t
  exact ⟨o, e, c, n, d⟩
theorem sum_rawT (hh : A.handled = none) (hl : s.heap.IsTuple l its.toArray) (hi : IntsAre its ns)
    (h : ∀ hp tk u, (∀ b o, s.heap.get? b = some o → hp.get? b = some o) → Q (.int ns.sum u) { s with heap := hp, toks := tk }) :
    wpAny (model prog w) A (call (.builtin "sum") [.ref l]) Q E s := by
  obtain ⟨xs, e⟩ := hi.allInts.items
  have hn : numsOf (intItems xs).toList = ns := e ▸ hi.numsOf
  rw [nums_intItems] at hn
  rw [e] at hl
  have hlt : l < s.heap.objs.size := Heap.lt_size hl.choose_spec.1
  refine call_sum_walkG (wpAny_pyIter_tuple hl ?_)
  refine ⟨_, _, _, _, _, _, numAt xs, rfl, Walks.tuple (A := A.in1) hh s.heap.objs.size l (Nat.ne_of_lt hlt) (intItems xs), ⟨⟨_, Heap.get?_push_size _ rfl, rfl, rfl⟩, hl.push _⟩, ?_, (fun _ _ => intItems_at), fun h' tk t' hk => ?_⟩
  · intro b hb
    show b < (s.heap.push _).objs.size
    rw [Heap.size_push]
    rcases List.mem_cons.mp hb with rfl | hb
    · exact Nat.lt_succ_self _
    · rcases List.mem_cons.mp hb with rfl | hb
      · exact Nat.lt_succ_of_lt hlt
      · cases hb
  · have := h h' tk t' (fun b o e => hk b o (fun hb => absurd (Heap.lt_size e) ((List.mem_singleton.mp hb) ▸ Nat.lt_irrefl _)) (Heap.get?_push_of_some _ e))
    have e2 : preSum (numAt xs) (intItems xs).size = ns.sum := by
      have e3 : (intItems xs).size = xs.size := by simp [intItems]
      rw [e3, preSum_eq, List.take_of_length_le (by simp), hn]
    rw [e2]
    exact this
theorem sorted_seq {T : String} {o : Obj} {n : Nat} {kw : List (Str × Value)} {b : Bool} (hT : T = "list" ∨ T = "tuple") (ho : s.heap.get? l = some o) (hc : o.cls = .type T) (hd : o.data = .seq its.toArray n) (hI : IntsAre its ns) (hL : its.length ≤ sizeLine)
    (ha1 : argsOk "sorted" ⟨[.ref l], kw⟩) (ha2 : ∀ a, argsOk "list.sort" ⟨[a], kw⟩)
    (hk : ∀ (s1 : Shared) (a : Addr) (P : Fin → Shared → Prop), s1.heap.get? a = some (seqObj "list" its.toArray 0) → (∀ (out : Array Value) (ns' : List Int), IntsAre out.toList ns' → ns'.Perm ns → Ordered b ns' → P (.done (.ret .none)) { s1 with heap := sortedHeap s1.heap a its out }) →
      wpAny (model prog w) A.in1.in1 (Builtin.«list.sort» ⟨[.ref a], kw⟩) P E s1)
    (h : ∀ (p : Addr) (h' : Heap) (out : Array Value) (ns' : List Int) (e : Nat), (∀ b o, s.heap.get? b = some o → h'.get? b = some o) → s.heap.get? p = none → h'.get? p = some (seqObj "list" out e) → IntsAre out.toList ns' → ns'.Perm ns → Ordered b ns' → Q (.ref p) { s with heap := h' }) :
    wpAny (model prog w) A (call (.builtin "sorted") [.ref l] kw) Q E s := by
  refine call_function_entry_kw (id := "sorted") kind_sorted plain_sorted entry_sorted ha1 ?_
  unfold Builtin.«sorted»
  refine wpAny_bind (m := checkCount "sorted" 1 1 _) (wpAny_pure ?_)
  refine wpAny_bind (PySem.wpAny_collect_seq l hT ho hc hd (fun h1 hk1 => ?_) (by simpa using hL))
  refine wpAny_bind (wpAny_newList ?_)
  have hoL : (h1.push (seqObj "list" its.toArray.toList.toArray 0)).get? h1.objs.size = some (seqObj "list" its.toArray 0) := by
    rw [Array.toArray_toList]
    exact Heap.get?_push_size _ rfl
  refine wpAny_bind (wpAny_holding (wpAny_call_entry_kw slot_list_sort ⟨_, hoL, rfl⟩ entry_list_sort (hk _ _ _ hoL fun out ns' a1 a2 a3 => ⟨_, rfl, ?_⟩) (ha2 _)))
  obtain ⟨e, he⟩ := sortedHeap_at (out := out) hoL
  refine wpAny_pure ⟨_, rfl, h _ _ out ns' e (fun b o e => ?_) ?_ he a1 a2 a3⟩
  · have e1 := hk1 b o e
    have hlt := Heap.lt_size e1
    exact (sortedHeap_old (Nat.ne_of_lt hlt) (by show b < (h1.push _).objs.size; rw [Heap.size_push]; exact Nat.lt_succ_of_lt hlt)).trans (Heap.get?_push_of_some _ e1)
  · exact PySem.fresh_in hk1
end
/-! ### the calls -/
theorem ordered_one {b : Bool} {a c : List Int} (p : a.Perm c) (ha : Ordered b a) (hc : Ordered b c) : a = c := by
  cases b with
  | false => exact PySem.W.os_sorted_one p (by simpa [Ordered] using ha) (by simpa [Ordered] using hc)
  | true =>
    have ha : a.Pairwise (· ≥ ·) := by simpa [Ordered] using ha
    have hc : c.Pairwise (· ≥ ·) := by simpa [Ordered] using hc
    have := PySem.W.os_sorted_one (a := a.reverse) (b := c.reverse) ((List.reverse_perm a).trans (p.trans (List.reverse_perm c).symm)) (List.pairwise_reverse.mpr ha) (List.pairwise_reverse.mpr hc)
    simpa using congrArg List.reverse this
theorem insI_perm (x : Int) : ∀ l : List Int, (insI x l).Perm (x :: l)
  | [] => List.Perm.refl _
  | y :: r => by
    unfold insI
    split
    · exact List.Perm.refl _
    · exact ((insI_perm x r).cons y).trans (List.Perm.swap x y r)
theorem insI_ord {x : Int} : ∀ {l : List Int}, l.Pairwise (· ≤ ·) → (insI x l).Pairwise (· ≤ ·)
  | [], _ => List.pairwise_singleton _ _
  | y :: r, h => by
    obtain ⟨h1, h2⟩ := List.pairwise_cons.mp h
    unfold insI
    split
    · rename_i hx
      exact List.pairwise_cons.mpr ⟨fun z hz => by
        rcases List.mem_cons.mp hz with rfl | hz
        · exact hx
        · exact Int.le_trans hx (h1 z hz), h⟩
    · rename_i hx
      refine List.pairwise_cons.mpr ⟨fun z hz => ?_, insI_ord h2⟩
      rcases List.mem_cons.mp ((insI_perm x r).mem_iff.mp hz) with rfl | hz
      · omega
      · exact h1 z hz
theorem sortI_perm : ∀ l : List Int, (sortI l).Perm l
  | [] => List.Perm.refl _
  | x :: r => (insI_perm x _).trans ((sortI_perm r).cons x)
theorem sortI_ord : ∀ l : List Int, (sortI l).Pairwise (· ≤ ·)
  | [] => List.Pairwise.nil
  | x :: r => insI_ord (sortI_ord r)
theorem sortR_perm (l : List Int) : ((sortI l).reverse).Perm l := (List.reverse_perm _).trans (sortI_perm l)
theorem sortR_ord (l : List Int) : ((sortI l).reverse).Pairwise (· ≥ ·) := List.pairwise_reverse.mpr (sortI_ord l)
theorem all2_11 {α β : Type} {P : α → β → Prop} {d : α} {vs : List β} (h : All2 P [d] vs) : ∃ v, vs = [v] ∧ P d v := by
  obtain ⟨z, zs, rfl, p, r⟩ := h
  have r : zs = [] := r
  subst r
  exact ⟨z, rfl, p⟩
section
variable {X : Cx} {as : List V} {k : Nat}
theorem seq_obj {pins : List (Addr × Obj)} {σ : Sl} {H : Hp} {s : Shared} {a : Addr} {ns : List Int} (I : Inv X pins σ H s) (h : SqL X.K H a (ns.map V.int) ∨ SqT X.K H a (ns.map V.int)) :
    ∃ (T : String) (o : Obj) (its : List Value) (n : Nat), (T = "list" ∨ T = "tuple") ∧ s.heap.get? a = some o ∧ o.cls = .type T ∧ o.data = .seq its.toArray n ∧ IntsAre its ns ∧ its.length ≤ sizeLine := by
  rcases h with h | h
  · obtain ⟨its, rv, hl, hz⟩ := I.list h
    obtain ⟨o, e, c, n, d⟩ := hl.isList
    exact ⟨"list", o, its, _, .inl rfl, e, c, d, rv.ints, by rw [← rv.length]; exact hz⟩
  · obtain ⟨its, rv, hl, hz⟩ := I.tuple h
    obtain ⟨o, e, c, n, d⟩ := hl
    exact ⟨"tuple", o, its, n, .inr rfl, e, c, d, rv.ints, by rw [← rv.length]; exact hz⟩
theorem cr_sumD (hc : X.calm = true) : CallR X (.builtin "sum") (rAn X.K sumD) := by
  intro pins s σ H vs us Q I r ⟨ds, e, w, al, hf, hv, q⟩
  unfold sumD at hf
  split at hf
  · rename_i d
    cases e1 : seqI d with
    | none => rw [e1] at hf; cases hf
    | some ns =>
      rw [e1] at hf
      cases hf; cases hv
      obtain ⟨v, rfl, r1⟩ := all2_11 al
      obtain ⟨a, rfl, sq⟩ := seqI_at e1 r1
      rw [Vals.ref1 r]
      rcases sq with sq | sq
      · obtain ⟨its, rv, hl, _⟩ := I.list sq
        exact sum_raw (I.ok.hd hc) hl.isList rv.ints fun _ _ _ hk => ⟨.int _, H, I.kept hk, ⟨_, rfl⟩, q⟩
      · obtain ⟨its, rv, hl, _⟩ := I.tuple sq
        exact sum_rawT (I.ok.hd hc) (isTuple_of hl) rv.ints fun h' tk t' hk => ⟨.int _, H, I.kept hk, ⟨_, rfl⟩, q⟩
  · cases hf
theorem alike_int (ns : List Int) : PySem.W.AlikeAll (ns.map PyData.int) :=
  ⟨fun x hx y hy => by
    obtain ⟨i, _, rfl⟩ := List.mem_map.mp hx
    obtain ⟨j, _, rfl⟩ := List.mem_map.mp hy
    rfl, fun x hx => by
    obtain ⟨i, _, rfl⟩ := List.mem_map.mp hx
    exact fun e => by cases e⟩
theorem ints_readsA {h : Heap} {ns : List Int} {us : List Value} (r : Vals (ns.map V.int) us) : ReadsAll h us (ns.map PyData.int) [] := ints_reads r
theorem cr_max1D (hc : X.calm = true) (hr : Room k X.A) : CallR X (.builtin "max") (rAn X.K max1D) := by
  intro pins s σ H vs us Q I r ⟨ds, e, w, al, hf, hv, q⟩
  unfold max1D at hf
  split at hf
  · rename_i d
    cases e1 : seqI d with
    | none => rw [e1] at hf; cases hf
    | some ns =>
      rw [e1] at hf
      cases ns with
      | nil => cases hf
      | cons n ns =>
        cases hf; cases hv
        obtain ⟨v, rfl, r1⟩ := all2_11 al
        obtain ⟨a, rfl, sq⟩ := seqI_at e1 r1
        rw [Vals.ref1 r]
        have hu := un0_of hr
        have hd : PyData.depthAll (PyData.int n :: ns.map PyData.int) = 0 := PySem.W.depth_ints (n :: ns)
        rcases sq with sq | sq
        · obtain ⟨its, rv, hl, _⟩ := I.list sq
          refine PySem.W.max_list_data (x := .int n) (xs := ns.map .int) (I.ok.hd hc) hl.isList (ints_readsA rv) (alike_int (n :: ns)) (by rw [hd]; omega) fun i v h' tk bs _ rd hk => ?_
          rw [PySem.W.maxD_ints] at rd
          cases rd
          exact ⟨.int _, H, I.kept hk, ⟨_, rfl⟩, q⟩
        · obtain ⟨its, rv, hl, _⟩ := I.tuple sq
          refine PySem.W.max_tuple_data (x := .int n) (xs := ns.map .int) (I.ok.hd hc) (isTuple_of hl) (ints_readsA rv) (alike_int (n :: ns)) (by rw [hd]; omega) fun i v h' tk bs _ rd hk => ?_
          rw [PySem.W.maxD_ints] at rd
          cases rd
          exact ⟨.int _, H, I.kept hk, ⟨_, rfl⟩, q⟩
  · cases hf
theorem cr_min1D (hc : X.calm = true) (hr : Room k X.A) : CallR X (.builtin "min") (rAn X.K min1D) := by
  intro pins s σ H vs us Q I r ⟨ds, e, w, al, hf, hv, q⟩
  unfold min1D at hf
  split at hf
  · rename_i d
    cases e1 : seqI d with
    | none => rw [e1] at hf; cases hf
    | some ns =>
      rw [e1] at hf
      cases ns with
      | nil => cases hf
      | cons n ns =>
        cases hf; cases hv
        obtain ⟨v, rfl, r1⟩ := all2_11 al
        obtain ⟨a, rfl, sq⟩ := seqI_at e1 r1
        rw [Vals.ref1 r]
        have hu := un0_of hr
        have hd : PyData.depthAll (PyData.int n :: ns.map PyData.int) = 0 := PySem.W.depth_ints (n :: ns)
        rcases sq with sq | sq
        · obtain ⟨its, rv, hl, _⟩ := I.list sq
          refine PySem.W.min_list_data (x := .int n) (xs := ns.map .int) (I.ok.hd hc) hl.isList (ints_readsA rv) (alike_int (n :: ns)) (by rw [hd]; omega) fun i v h' tk bs _ rd hk => ?_
          rw [PySem.W.minD_ints] at rd
          cases rd
          exact ⟨.int _, H, I.kept hk, ⟨_, rfl⟩, q⟩
        · obtain ⟨its, rv, hl, _⟩ := I.tuple sq
          refine PySem.W.min_tuple_data (x := .int n) (xs := ns.map .int) (I.ok.hd hc) (isTuple_of hl) (ints_readsA rv) (alike_int (n :: ns)) (by rw [hd]; omega) fun i v h' tk bs _ rd hk => ?_
          rw [PySem.W.minD_ints] at rd
          cases rd
          exact ⟨.int _, H, I.kept hk, ⟨_, rfl⟩, q⟩
  · cases hf
abbrev rSortI (K : PySem.W.Frag) (f : List Int → List Int) : List V → Hp → VK → Prop := fun vs H Q => ∃ (a : Addr) (ns : List Int), vs = [V.ref a] ∧ (SqL K H a (ns.map V.int) ∨ SqT K H a (ns.map V.int)) ∧ ∀ p, H p = none → Q (.ref p) (upd H p (.lst ((f ns).map V.int)))
theorem sort_end {pins : List (Addr × Obj)} {σ : Sl} {H : Hp} {s : Shared} {Q : VK} {p : Addr} {h' : Heap} {out : Array Value} {ns : List Int} {e : Nat} (I : Inv X pins σ H s) (k : ∀ b o, s.heap.get? b = some o → h'.get? b = some o) (hn : s.heap.get? p = none)
    (ho : h'.get? p = some (seqObj "list" out e)) (hi : IntsAre out.toList ns) (hz : ns.length ≤ sizeLine) (q : ∀ p, H p = none → Q (.ref p) (upd H p (.lst (ns.map V.int)))) : EP X pins σ Q (.ref p) { s with heap := h' } := by
  have hH := I.hok.gone hn
  refine ⟨.ref p, _, I.laidN (t' := s.toks) (o := .lst (ns.map V.int)) k hn hH ⟨by rw [List.length_map]; exact hz, out.toList, e, vals_of_ints hi, by rw [Array.toArray_toList]; exact ho⟩, rfl, q p hH⟩
theorem cr_sortI : CallR X (.builtin "sorted") (rSortI X.K sortI) := by
  intro pins s σ H vs us Q I r h
  obtain ⟨a, ns, rfl, sq, q⟩ := h
  rw [Vals.ref1 r]
  obtain ⟨T, o, its, n, hT, ho, hc, hd, hi, hz⟩ := seq_obj I sq
  refine sorted_seq (kw := []) (b := false) hT ho hc hd hi hz (args_sorted1 _) (fun a => args_list_sort a) (fun s1 a P h1 h2 => list_sort_treeAny h1 hi hz fun out ns' h3 h4 h5 => h2 out ns' h3 h4 (by simpa [Ordered] using h5)) ?_
  intro p h' out ns' e k hn he h3 h4 h5
  have e1 := ordered_one (h4.trans (sortI_perm ns).symm) h5 (by simpa [Ordered] using sortI_ord ns)
  subst e1
  exact sort_end I k hn he h3 (by rw [(sortI_perm ns).length_eq, ← hi.length]; exact hz) q
theorem cr_sortRI : CallRK X (.builtin "sorted") [Str.ofString "reverse"] (fun vs zs H Q => zs = [.bl true] ∧ rSortI X.K (fun l => (sortI l).reverse) vs H Q) := by
  intro pins s σ H vs zs us ws Q I r rz h
  obtain ⟨rfl, a, ns, rfl, sq, q⟩ := h
  rw [Vals.ref1 r]
  obtain ⟨w1, rfl, e1⟩ := vals1 rz
  obtain rfl : w1 = Value.bool true := e1
  obtain ⟨T, o, its, n, hT, ho, hc, hd, hi, hz⟩ := seq_obj I sq
  refine sorted_seq (kw := [(Str.ofString "reverse", .bool true)]) (b := true) hT ho hc hd hi hz (PyProof.Rows.args_sorted_rev _ _) (fun _ => PyProof.Rows.args_list_sort_rev _ _) (fun s1 a P h1 h2 => list_sort_tree_revAny h1 hi hz h2) ?_
  intro p h' out ns' e k hn he h3 h4 h5
  have e1 := ordered_one (c := (sortI ns).reverse) (h4.trans (sortR_perm ns).symm) h5 (by simpa [Ordered] using sortR_ord ns)
  subst e1
  exact sort_end I k hn he h3 (by rw [(sortR_perm ns).length_eq, ← hi.length]; exact hz) q
theorem own_ints {K : PySem.W.Frag} {Z : Pr} {H : Hp} : ∀ ns : List Int, OwnL K Z H (ns.map D.int) 0 (ns.map V.int) []
  | [] => by rw [List.map_nil, List.map_nil, OwnL]; exact ⟨rfl, rfl⟩
  | n :: r => by
    rw [List.map_cons, List.map_cons, OwnL]
    exact ⟨_, _, [], [], rfl, rfl, own_int, own_ints r⟩
theorem rd_sort {o : Op} {f : List Int → List Int} (ho : opD o = sortedD f) (hl : ∀ l, lvOf o (.lst l) = 1) {kp : Bool} {σ : Sl} {vs : List V} {H : Hp} {Q : VK} (h : OpK X.K as σ kp (opG o) vs H Q) : rSortI X.K f vs H Q := by
  obtain ⟨Z, W, r, fp, ds, d, l, E, al, hg, c⟩ := h
  obtain ⟨hf, rfl⟩ := opG_some hg
  rw [ho] at hf
  unfold sortedD at hf
  split at hf
  · rename_i d1
    cases e1 : seqI d1 with
    | none => rw [e1] at hf; cases hf
    | some ns =>
      rw [e1] at hf
      cases hf
      obtain ⟨v, rfl, r1, _⟩ := all2_11 al
      obtain ⟨a, rfl, sq⟩ := seqI_at e1 r1
      rw [hl] at c
      exact ⟨a, ns, rfl, sq, fun p hn => c.lst E hn (own_ints _)⟩
  · cases hf
end
end Bk
/-! Bk: isinstance, repr. -/
namespace Bk
open L2 PyProof.Rows PySem.Spec PySem
def tyName : Nat → String
  | 0 => "int" | 1 => "bool" | 2 => "str" | 3 => "tuple" | _ => "list"
section
variable {X : Cx} {as : List V} {k : Nat}
abbrev rIsa (K : PySem.W.Frag) (n : Nat) : List V → Hp → VK → Prop := fun vs H Q => ∃ v d, vs = [v, .ty (tyName n)] ∧ Rv K H d v ∧ Q (.bl (isTy n d)) H
theorem cr_isa {n : Nat} (hn : n < 5) : CallR X (.builtin "isinstance") (rIsa X.K n) := by
  intro pins s σ H vs us Q I r h
  obtain ⟨v, d, rfl, rv, q⟩ := h
  obtain ⟨u, w, rfl, r1, r2⟩ := vals2 r
  obtain rfl : w = Value.type (tyName n) := r2
  obtain ⟨as, rd⟩ := rv.reads I r1
  have hd : (toPy d).isInt = isTy 0 d ∧ (toPy d).isBool = isTy 1 d ∧ (toPy d).isStr = isTy 2 d ∧ (toPy d).isTuple = isTy 3 d ∧ (toPy d).isList = isTy 4 d := by
    cases d <;> first | exact ⟨rfl, rfl, rfl, rfl, rfl⟩ | (rw [Rv] at rv; exact rv.elim)
  have fin : ∀ (b : Bool) (tk : Tok), Q (.bl b) H → EP X pins σ Q (.bool b) { s with toks := tk } := fun b tk q => ⟨.bl b, H, I.tok _, rfl, q⟩
  match n, hn with
  | 0, _ => exact PySem.W.isinstance_int_data rd fun tk _ => fin _ tk (by rw [hd.1]; exact q)
  | 1, _ => exact PySem.W.isinstance_bool_data rd fun tk _ => fin _ tk (by rw [hd.2.1]; exact q)
  | 2, _ => exact PySem.W.isinstance_str_data rd fun tk _ => fin _ tk (by rw [hd.2.2.1]; exact q)
  | 3, _ => exact PySem.W.isinstance_tuple_data rd fun tk _ => fin _ tk (by rw [hd.2.2.2.1]; exact q)
  | 4, _ => exact PySem.W.isinstance_list_data rd fun tk _ => fin _ tk (by rw [hd.2.2.2.2]; exact q)
theorem rd_isa {n : Nat} {σ : Sl} {v : V} {H : Hp} {Q : VK} (h : OpK X.K as σ true (opG (.isT n)) [v] H Q) : rIsa X.K n [v, .ty (tyName n)] H Q := by
  obtain ⟨Z, W, r, fp, ds, d, l, E, al, hg, c⟩ := h
  obtain ⟨d1, rfl, r1, b1⟩ := all2_1 al
  obtain ⟨ho, rfl⟩ := opG_some hg
  replace ho : isTD n [d1] = some d := ho
  cases ho
  exact ⟨v, d1, rfl, r1, c.bl E⟩
theorem cr_repr (hg : X.A.guards = some []) (hr : Room k X.A) : CallR X (.builtin "repr") (rAn X.K reprD) := by
  intro pins s σ H vs us Q I r h
  obtain ⟨ds, e, w, al, hf, hv, q⟩ := h
  unfold reprD at hf
  split at hf
  · rename_i d
    split at hf
    · rename_i hc
      cases hf; cases hv
      simp only [Bool.and_eq_true, decide_eq_true_eq, Bool.not_eq_true'] at hc
      obtain ⟨⟨⟨h1, h2⟩, h3⟩, h4⟩ := hc
      obtain ⟨v, rfl, rv⟩ := all2_11 al
      obtain ⟨u, rfl, r1⟩ := vals1 r
      have hu := un0_of hr
      obtain ⟨as, rd⟩ := rv.reads I r1
      have fin : ∀ (h' : Heap) (u : Tok) (tk : Tok), (∀ b o, s.heap.get? b = some o → h'.get? b = some o) → EP X pins σ Q (.str (toPy d).shown u) { s with heap := h', toks := tk } := fun h' u tk hk => ⟨.str (toPy d).shown, H, I.kept hk, ⟨_, rfl⟩, q⟩
      have go : ∀ a, u = Value.ref a → wpAny (model X.prog X.w) X.A (call (.builtin "repr") [u]) (EP X pins σ Q) X.xe s := by
        rintro a rfl
        exact repr_of_reads' rd h1 (fun e => by rw [h4] at e; cases e) hg (by omega) (fun _ _ e => e) (fun h' u tk hk => fin h' u tk hk) (sz_le h3)
      cases d with
      | non => rw [rv_non rv] at r1; obtain rfl : u = Value.none := r1; exact PySem.P.repr_of_none (fin s.heap _ _ fun _ _ e => e)
      | bl b => rw [rv_bl rv] at r1; obtain rfl : u = Value.bool b := r1; exact PySem.P.repr_of_bool (fin s.heap _ _ fun _ _ e => e)
      | int i =>
        rw [rv_int rv] at r1
        obtain ⟨t, rfl⟩ := r1
        refine PySem.P.repr_of_int ?_ (fin s.heap _ _ fun _ _ e => e)
        have h1 : PyData.showable (.int i) = true := h1
        simpa [PyData.showable] using h1
      | str x =>
        rw [rv_str rv] at r1
        obtain ⟨t, rfl⟩ := r1
        exact PySem.P.repr_of_str (fin s.heap _ _ fun _ _ e => e) (sz_le h3)
      | tup l => rw [Rv] at rv; obtain ⟨a, vs, rfl, _⟩ := rv; exact go a r1
      | lst l => rw [Rv] at rv; obtain ⟨a, vs, rfl, _⟩ := rv; exact go a r1
      | scr l => rw [Rv] at rv; obtain ⟨a, rfl, _⟩ := rv; exact go a r1
      | dct _ _ => rw [Rv] at rv; exact rv.elim
      | set _ => rw [Rv] at rv; exact rv.elim
      | ins _ _ => rw [Rv] at rv; exact rv.elim
    · cases hf
  · cases hf
end
end Bk
/-! Bk: stores, tests, chains. -/
namespace Bk
open L2 PyProof.Rows PySem.Spec PySem
section
variable {K : PySem.W.Frag} {as : List V} {XW : XWt} {cf : CF} {σ : Sl} {H : Hp} {Z W : Pr} {r : Env} {fp : Nat → List Addr}
theorem bor1_eq {kp : Bool} {rs : List R} {r r' : Env} {d : D} (h : bor1 kp rs r = some (d, r')) : ∃ q, rs = [q] ∧ bor kp [q] r = some ([d], r') := by
  match rs, h with
  | [q], h =>
    refine ⟨q, rfl, ?_⟩
    simp only [bor1] at h
    split at h
    · rename_i d2 r2 e
      simp only [Option.some.injEq, Prod.mk.injEq] at h
      obtain ⟨rfl, rfl⟩ := h
      exact e
    · cases h
  | [], h => cases h
  | _ :: _ :: _, h => cases h
/-- a list's items rewritten, all frozen -/
theorem EnvOk.mut0 {i m : Nat} {a : Addr} {l0 ds' : List D} {p : Bool} {fq : List Addr} {vs' : List V} (E : EnvOk K as Z W H r σ fp) (g : getE r i = some ⟨.lst l0, m + 1, p⟩) (hv : σ[i]? = some (some (.ref a))) (e3 : fp i = a :: fq)
    (ol : OwnL K (orL Z fq) H ds' 0 vs' []) (hp : p = true → as[i]? = some (.ref a)) :
    ∃ Z' fp', EnvOk K as Z' W (upd H a (.lst vs')) (r.set i (some ⟨.lst ds', 1, p⟩)) σ fp' ∧ Keep Z W H Z' (upd H a (.lst vs')) ∧ (∀ x, orL Z fq x → Z' x) := by
  obtain ⟨Et, _⟩ := E.take g
  have hi : i < (r.set i none).length := by rw [List.length_set]; exact getE_lt g
  obtain ⟨Em, km⟩ := Et.mut (k := 0) (fqn := []) (rm := fq) (p := p) hi hv (by rw [e3]; exact List.Perm.refl _) (E.nd i) (fun x m => (E.nz i x m).2) ol hp
  rw [List.set_set] at Em
  exact ⟨_, _, Em, km, fun x z => z⟩
theorem ixN_lt {n : Nat} {k : Int} {j : Nat} (h : ixN n k = some j) : j < n := (ixN_seq h).2.1
theorem st_setI {i : Nat} {ix e : E} {D : Ends} (h : TSx K as XW (ex cf (.setI i ix e)) D σ H) :
    TE1 K as XW (ev cf e) σ H fun v H1 => ∃ o, σ[i]? = some (some o) ∧ TE1 K as XW (ev cf ix) σ H1 fun y H2 => rSetL o y v H2 fun H3 => D.nx σ H3 := by
  obtain ⟨Z, W, r, fp, E, h⟩ := h
  simp only [ex] at h
  refine te_one (F := fun y => if isLstAt y.2.2 i then (ev cf ix y.2.2).bind fun z => (Out.of (bor1 true z.1 z.2)).bind fun w => Out.of (putI w.2 i w.1 y.1) else .bad) (D := D) ⟨Z, W, r, fp, E, h⟩ ?_
  intro Z W r fp fq d l v H1 E o nd nw h
  simp only at h
  by_cases hl : isLstAt r i = true
  · rw [if_pos hl] at h
    have Ef := E.frz nw
    have of := o.freeze (Z' := orL Z fq) (fun a z => .inl z) fun a m => .inr m
    obtain ⟨a, vs0, hv, h1⟩ := lst_at Ef hl
    refine ⟨.ref a, hv, orL Z fq, W, r, fp, Ef, ?_⟩
    have hz : ∀ a, Z a → orL Z fq a := fun a z => .inl z
    cases e1 : ev cf ix r with
    | bad => rw [e1] at h; exact h
    | exc x r1 => rw [e1] at h; exact fun Z' H' fp' E' k' => h σ Z' H' fp' E' ((keepZ hz).trans k')
    | val y =>
      obtain ⟨rs, r1⟩ := y
      rw [e1] at h
      simp only [Out.bind_val] at h
      cases e2 : bor1 true rs r1 with
      | none => rw [e2] at h; exact h.elim
      | some y =>
        obtain ⟨dk, r2⟩ := y
        rw [e2] at h
        simp only [Out.of_some, Out.bind_val] at h
        obtain ⟨q, rfl, e5⟩ := bor1_eq e2
        intro vs Z1 H2 fp1 fq1 E1 R1 nd1 nw1 k1
        obtain ⟨yv, rfl⟩ := sing (v := .non) R1
        obtain ⟨Z2, fp2, E2, hz2, al⟩ := bor_ok E1 R1 nd1 nw1 e5
        obtain ⟨dk2, ed, rv, _⟩ := all2_1 al
        cases ed
        have ov : Own K Z2 H2 d 0 v [] := (of.keep (W := nW) (k1.less fun _ w => w.elim) (by simp)).keep (W := nW) (keepZ hz2) (by simp)
        refine ⟨yv, rfl, ?_⟩
        cases e3 : putI r2 i dk d with
        | none => rw [e3] at h; exact h.elim
        | some f =>
          rw [e3] at h
          have hg : ∃ l0 m p k j, getE r2 i = some ⟨.lst l0, m + 1, p⟩ ∧ dk = .int k ∧ ixN l0.length k = some j ∧ f = .nx (r2.set i (some ⟨.lst (l0.set j d), 1, p⟩)) := by
            unfold putI at e3
            split at e3
            · rename_i l0 m p k g _
              split at e3
              · rename_i j hj
                cases e3
                exact ⟨l0, m, p, k, j, g, rfl, hj, rfl⟩
              · cases e3
            · cases e3
          obtain ⟨l0, m, p, k, j, g, rfl, hj, rfl⟩ := hg
          obtain ⟨a', vs1, fq2, hv', h2, e4, ol, hp, Et⟩ := E2.takeL g
          rw [hv] at hv'
          cases hv'
          refine ⟨a, vs1, k, j, rfl, rv_int rv, h2, by rw [ol.len]; exact hj, ?_⟩
          have ol2 := ol.freeze (Z' := orL Z2 fq2) (fun x z => .inl z) fun x m => .inr m
          have ov2 : Own K (orL Z2 fq2) H2 d 0 v [] := ov.keep (W := nW) (keepZ fun a z => .inl z) (by simp)
          obtain ⟨Z3, fp3, E3, k3, _⟩ := E2.mut0 g hv e4 (OwnL.set0 j ol2 ov2) hp
          exact h σ Z3 _ fp3 E3 ((keepZ hz).trans (k1.trans ((keepZ hz2).trans k3)))
  · rw [if_neg hl] at h; exact h.elim
/-- x op= e, x no object -/
theorem st_aug {i : Nat} {o : Op} {e : E} {D : Ends} (h : TSx K as XW (ex cf (.aug i o e)) D σ H) :
    ∃ x, σ[i]? = some (some x) ∧ (∀ a, x ≠ .ref a) ∧ TE1 K as XW (ev cf e) σ H fun y H1 => OpK K as σ (keepO o) (opG o) [x, y] H1 fun z H2 => D.nx (σ.set i (some z)) H2 := by
  obtain ⟨Z, W, r, fp, E, h⟩ := h
  simp only [ex] at h
  by_cases ha : isAtomAt r i = true
  · rw [if_pos ha] at h
    unfold isAtomAt at ha
    split at ha
    · rename_i d0 l0 p0 g
      obtain ⟨v, hv, ow, _⟩ := E.ent i _ g
      have hne : ∀ a, v ≠ .ref a := by
        intro a e
        subst e
        have rv := ow.rv
        cases d0 <;> first | exact (Bool.false_ne_true ha).elim | (simp only at rv; rw [Rv] at rv; cases rv)
      have h2 : TE1 K as XW (ev cf (.op o (.cons (.var i) (.cons e .nil)))) σ H fun z H2 => D.nx (σ.set i (some z)) H2 := by
        refine te_one (F := fun y => if i < y.2.2.length then .val (.nx (y.2.2.set i (some ⟨y.1, y.2.1, false⟩))) else .bad) (D := D) ⟨Z, W, r, fp, E, h⟩ ?_
        intro Z W r fp fq d l v H1 E o nd nw h
        simp only at h
        split at h
        · rename_i hc
          exact h _ Z H1 _ (E.put (e := ⟨d, l, false⟩) hc o nd nw (by simp)) Keep.refl
        · exact h.elim
      obtain ⟨Z2, W2, r2, fp2, E2, h3⟩ := op2 h2
      simp only [ev] at h3
      cases g2 : getE r2 i with
      | none => rw [g2] at h3; exact h3.elim
      | some en2 =>
        rw [g2] at h3
        obtain ⟨v2, hv2, _, _⟩ := E2.ent i _ g2
        rw [hv] at hv2; cases hv2
        obtain ⟨u, e5, q⟩ := h3 [v] Z2 H fp2 [] (E2.less fun a w => w.elim id fun w => by simp at w) ⟨v, [], rfl, hv, rfl, rfl⟩ List.nodup_nil (by simp) Keep.refl
        cases e5
        exact ⟨v, hv, hne, q⟩
    · cases ha
  · rw [if_neg ha] at h; exact h.elim
end
end Bk
/-! Bk: tests, chains, and, or, pop, tuple targets. -/
namespace Bk
open L2 PyProof.Rows PySem.Spec PySem
theorem bor_len {kp : Bool} : ∀ {rs : List R} {r : Env} {ds : List Bk.D} {r' : Env}, bor kp rs r = some (ds, r') → ds.length = rs.length
  | [], r, ds, r', h => by simp only [bor, Option.some.injEq, Prod.mk.injEq] at h; rw [← h.1]; rfl
  | .vr i :: t, r, ds, r', h => by
    simp only [bor] at h
    split at h
    · cases h
    · split at h
      · cases h
      · rename_i ds' r3 hb
        simp only [Option.some.injEq, Prod.mk.injEq] at h
        rw [← h.1, List.length_cons, List.length_cons, bor_len hb]
  | .vl d l :: t, r, ds, r', h => by
    simp only [bor] at h
    split at h
    · cases h
    · rename_i ds' r3 hb
      simp only [Option.some.injEq, Prod.mk.injEq] at h
      rw [← h.1, List.length_cons, List.length_cons, bor_len hb]
theorem bor_keep : ∀ {rs : List R} {r : Env} {ds : List Bk.D} {r' : Env}, bor true rs r = some (ds, r') → r = r'
  | [], r, ds, r', h => by simp only [bor, Option.some.injEq, Prod.mk.injEq] at h; exact h.2
  | .vr i :: t, r, ds, r', h => by
    simp only [bor] at h
    split at h
    · cases h
    · split at h
      · cases h
      · rename_i ds' r3 hb
        simp only [Option.some.injEq, Prod.mk.injEq] at h
        have := bor_keep hb
        simp only [if_true] at this
        rw [this, h.2]
  | .vl d l :: t, r, ds, r', h => by
    simp only [bor] at h
    split at h
    · cases h
    · rename_i ds' r3 hb
      simp only [Option.some.injEq, Prod.mk.injEq] at h
      rw [bor_keep hb, h.2]
theorem tru_eq {rs : List R} {r : Env} {k : Bool} (h : tru rs r = some k) : ∃ q d r2, rs = [q] ∧ bor true [q] r = some ([d], r2) ∧ truth d = some k := by
  unfold tru at h
  split at h
  · rename_i d r2 e
    have hl := bor_len e
    match rs, hl with
    | [q], _ => exact ⟨q, d, r2, rfl, e, h⟩
    | [], hl => cases hl
    | _ :: _ :: _, hl => simp at hl
  · cases h
/-- an expression's reading, from a state behind -/
theorem te_from {K : PySem.W.Frag} {as : List V} {XW : XWt} {cf : CF} {σ : Sl} {H H' : Hp} {Z W Z' : Pr} {r1 : Env} {fp' : Nat → List Addr} {Q : VK} {s : E} (h : match ev cf s r1 with
          | .val ([q], r') => After K as Z W H σ [q] r' fun vs H' => ∃ v, vs = [v] ∧ Q v H'
          | .val _ => False
          | .exc x r' => AfterX K as Z W H σ r' (XW x σ)
          | .bad => False) (E' : EnvOk K as Z' W H' r1 σ fp') (k' : Keep Z W H Z' H') : TE1 K as XW (ev cf s) σ H' Q := by
  refine ⟨Z', W, r1, fp', E', ?_⟩
  cases e3 : ev cf s r1 with
  | bad => rw [e3] at h; exact h
  | exc x r2 => rw [e3] at h; exact fun Z2 H2 fp2 E2 k2 => h Z2 H2 fp2 E2 (k'.trans k2)
  | val y =>
    obtain ⟨rs2, r2⟩ := y
    rw [e3] at h
    match rs2, h with
    | [q], h => exact fun vs Z2 H2 fp2 fq2 E2 R2 nd2 nw2 k2 => h vs Z2 H2 fp2 fq2 E2 R2 nd2 nw2 (k'.trans k2)
    | [], h => exact h.elim
    | _ :: _ :: _, h => exact h.elim
section
variable {K : PySem.W.Frag} {as : List V} {XW : XWt} {cf : CF} {σ : Sl} {H : Hp} {Z W : Pr} {r : Env} {fp : Nat → List Addr} {Q : VK}
/-- a value's truth, the value kept -/
theorem te_and {a b : E} (h : TE1 K as XW (ev cf (.and a b)) σ H Q) : TE1 K as XW (ev cf a) σ H fun x H1 => ∃ k, TruV K x H1 k ∧ if k = true then TE1 K as XW (ev cf b) σ H1 Q else Q x H1 := by
  obtain ⟨Z, W, r, fp, E, h⟩ := h
  refine ⟨Z, W, r, fp, E, ?_⟩
  simp only [ev] at h
  cases e1 : ev cf a r with
  | bad => rw [e1] at h; exact h
  | exc x r1 => rw [e1] at h; exact h
  | val y =>
    obtain ⟨rs, r1⟩ := y
    rw [e1] at h
    simp only [Out.bind_val] at h
    cases e2 : tru rs r1 with
    | none => rw [e2] at h; exact h.elim
    | some k =>
      rw [e2] at h
      simp only [Out.of_some, Out.bind_val] at h
      obtain ⟨q, d, r2, rfl, e3, e4⟩ := tru_eq e2
      intro vs Z1 H1 fp1 fq1 E1 R1 nd1 nw1 k1
      obtain ⟨v, rfl⟩ := sing (v := .non) R1
      obtain ⟨Z2, fp2, E2, hz, al⟩ := bor_ok E1 R1 nd1 nw1 e3
      obtain ⟨d', ed, rv, _⟩ := all2_1 al
      cases ed
      refine ⟨v, rfl, k, truV_of rv e4, ?_⟩
      cases k with
      | false =>
        rw [if_neg Bool.false_ne_true] at h ⊢
        obtain ⟨u, eu, q⟩ := h [v] Z1 H1 fp1 fq1 E1 R1 nd1 nw1 k1
        cases eu; exact q
      | true =>
        rw [if_pos rfl] at h ⊢
        exact te_from h (E1.less fun a w => .inl w) k1
theorem te_or {a b : E} (h : TE1 K as XW (ev cf (.or a b)) σ H Q) : TE1 K as XW (ev cf a) σ H fun x H1 => ∃ k, TruV K x H1 k ∧ if k = true then Q x H1 else TE1 K as XW (ev cf b) σ H1 Q := by
  obtain ⟨Z, W, r, fp, E, h⟩ := h
  refine ⟨Z, W, r, fp, E, ?_⟩
  simp only [ev] at h
  cases e1 : ev cf a r with
  | bad => rw [e1] at h; exact h
  | exc x r1 => rw [e1] at h; exact h
  | val y =>
    obtain ⟨rs, r1⟩ := y
    rw [e1] at h
    simp only [Out.bind_val] at h
    cases e2 : tru rs r1 with
    | none => rw [e2] at h; exact h.elim
    | some k =>
      rw [e2] at h
      simp only [Out.of_some, Out.bind_val] at h
      obtain ⟨q, d, r2, rfl, e3, e4⟩ := tru_eq e2
      intro vs Z1 H1 fp1 fq1 E1 R1 nd1 nw1 k1
      obtain ⟨v, rfl⟩ := sing (v := .non) R1
      obtain ⟨Z2, fp2, E2, hz, al⟩ := bor_ok E1 R1 nd1 nw1 e3
      obtain ⟨d', ed, rv, _⟩ := all2_1 al
      cases ed
      refine ⟨v, rfl, k, truV_of rv e4, ?_⟩
      cases k with
      | true =>
        rw [if_pos rfl] at h ⊢
        obtain ⟨u, eu, q⟩ := h [v] Z1 H1 fp1 fq1 E1 R1 nd1 nw1 k1
        cases eu; exact q
      | false =>
        rw [if_neg Bool.false_ne_true] at h ⊢
        exact te_from h (E1.less fun a w => .inl w) k1
theorem te_chain {f g : CmpI} {a b c : E} (h : TE1 K as XW (ev cf (.chain f g (.cons a (.cons b .nil)) c)) σ H Q) :
    TE1 K as XW (ev cf a) σ H fun x H1 => TE1 K as XW (ev cf b) σ H1 fun y H2 => ∃ i j, x = .int i ∧ y = .int j ∧ (f.f i j = true → TE1 K as XW (ev cf c) σ H2 fun z H3 => ∃ m, z = .int m ∧ Q (.bl (g.f j m)) H3) ∧ (f.f i j = false → Q (.bl false) H2) := by
  obtain ⟨Z, W, r, fp, E, h⟩ := h
  have h2 : TAs K as XW (ev cf (.cons a (.cons b .nil))) σ H fun vs H2 => ∃ i j, vs = [.int i, .int j] ∧ (f.f i j = true → TE1 K as XW (ev cf c) σ H2 fun z H3 => ∃ m, z = .int m ∧ Q (.bl (g.f j m)) H3) ∧ (f.f i j = false → Q (.bl false) H2) := by
    refine ⟨Z, W, r, fp, E, ?_⟩
    rw [ev] at h
    cases e1 : ev cf (.cons a (.cons b .nil)) r with
    | bad => rw [e1] at h; exact h
    | exc x r1 => rw [e1] at h; exact h
    | val y =>
      obtain ⟨rs, r1⟩ := y
      rw [e1] at h
      simp only [Out.bind_val] at h
      cases e2 : bor true rs r1 with
      | none => rw [e2] at h; exact h.elim
      | some y =>
        obtain ⟨ds, r2⟩ := y
        rw [e2] at h
        simp only [Out.of_some, Out.bind_val] at h
        intro vs Z1 H1 fp1 fq1 E1 R1 nd1 nw1 k1
        obtain ⟨Z2, fp2, E2, hz, al⟩ := bor_ok E1 R1 nd1 nw1 e2
        have hk := k1.trans (keepZ (W := W) (H := H1) hz)
        cases e9 : pairI ds with
        | none => rw [e9] at h; exact h.elim
        | some p =>
          rw [e9] at h
          simp only [Out.of_some, Out.bind_val] at h
          obtain ⟨i, j⟩ := p
          have ed : ds = [.int i, .int j] := by
            unfold pairI at e9
            split at e9
            · cases e9; rfl
            · cases e9
          subst ed
          obtain ⟨x, y, rfl, ⟨r1', _⟩, r2', _⟩ := all2_22 al
          rw [rv_int r1', rv_int r2']
          refine ⟨i, j, rfl, fun hf => ?_, fun hf => ?_⟩
          · rw [if_pos hf] at h
            refine ⟨Z2, W, r2, fp2, E2, ?_⟩
            cases e3 : ev cf c r2 with
            | bad => rw [e3] at h; exact h
            | exc x r3 => rw [e3] at h; exact fun Z' H' fp' E' k' => h Z' H' fp' E' (hk.trans k')
            | val y =>
              obtain ⟨rs3, r3⟩ := y
              rw [e3] at h
              simp only [Out.bind_val] at h
              cases e4 : bor1 true rs3 r3 with
              | none => rw [e4] at h; exact h.elim
              | some y =>
                obtain ⟨dm, r4⟩ := y
                rw [e4] at h
                simp only [Out.of_some, Out.bind_val] at h
                obtain ⟨q, rfl, e5⟩ := bor1_eq e4
                intro vs3 Z3 H3 fp3 fq3 E3 R3 nd3 nw3 k3
                obtain ⟨zv, rfl⟩ := sing (v := .non) R3
                obtain ⟨Z4, fp4, E4, hz4, al4⟩ := bor_ok E3 R3 nd3 nw3 e5
                obtain ⟨dm2, ed, rv, _⟩ := all2_1 al4
                cases ed
                refine ⟨zv, rfl, ?_⟩
                cases e6 : intOf dm with
                | none => rw [e6] at h; exact h.elim
                | some m =>
                  rw [e6] at h
                  have ed : dm = .int m := by
                    unfold intOf at e6
                    split at e6
                    · cases e6; rfl
                    · cases e6
                  subst ed
                  refine ⟨m, rv_int rv, ?_⟩
                  exact (After.cont h) _ Z4 H3 fp4 [] (E4.less fun a w => w.elim id fun w => by simp at w) own_bl List.nodup_nil (by simp) (hk.trans (k3.trans (keepZ hz4)))
          · rw [if_neg (by rw [hf]; exact Bool.false_ne_true)] at h
            exact (After.cont h) _ Z2 H1 fp2 [] (E2.less fun a w => w.elim id fun w => by simp at w) own_bl List.nodup_nil (by simp) hk
  refine (tas_cons h2).imp fun v H1 q => (tas_cons q).imp fun v2 H2 q2 => ?_
  obtain ⟨i, j, e, q3⟩ := tas_nil q2
  cases e
  exact ⟨i, j, rfl, rfl, q3⟩
/-- not -/
theorem rd_not {x : V} {H : Hp} (h : OpK K as σ true (opG .not) [x] H Q) : ∃ k, TruV K x H k ∧ Q (.bl (!k)) H := by
  obtain ⟨Z, W, r, fp, ds, d, l, E, al, hg, c⟩ := h
  obtain ⟨d1, rfl, r1, b1⟩ := all2_1 al
  obtain ⟨ho, rfl⟩ := opG_some hg
  replace ho : (truth d1).map (fun b => D.bl !b) = some d := ho
  cases e : truth d1 with
  | none => rw [e] at ho; cases ho
  | some k =>
    rw [e] at ho
    cases ho
    exact ⟨k, truV_of r1 e, c.bl E⟩
theorem rd_isN {x : V} {H : Hp} (h : OpK K as σ true (opG .isN) [x] H Q) : Q (.bl (decide (x = .non))) H := by
  obtain ⟨Z, W, r, fp, ds, d, l, E, al, hg, c⟩ := h
  obtain ⟨d1, rfl, r1, b1⟩ := all2_1 al
  obtain ⟨ho, rfl⟩ := opG_some hg
  replace ho : some (D.bl (isNon d1)) = some d := ho
  cases ho
  have e : decide (x = .non) = isNon d1 := by
    cases d1 with
    | non => rw [rv_non r1]; rfl
    | bl b => rw [rv_bl r1]; rfl
    | int b => rw [rv_int r1]; rfl
    | str b => rw [rv_str r1]; rfl
    | tup _ => rw [Rv] at r1; obtain ⟨a, vs, rfl, _⟩ := r1; rfl
    | lst _ => rw [Rv] at r1; obtain ⟨a, vs, rfl, _⟩ := r1; rfl
    | scr _ => rw [Rv] at r1; obtain ⟨a, rfl, _⟩ := r1; rfl
    | dct _ _ => rw [Rv] at r1; exact r1.elim
    | set _ => rw [Rv] at r1; exact r1.elim
    | ins _ _ => rw [Rv] at r1; exact r1.elim
  rw [e]
  exact c.bl E
theorem rd_notN {x : V} {H : Hp} (h : OpK K as σ true (opG .notN) [x] H Q) : Q (.bl (!decide (x = .non))) H := by
  obtain ⟨Z, W, r, fp, ds, d, l, E, al, hg, c⟩ := h
  obtain ⟨d1, rfl, r1, b1⟩ := all2_1 al
  obtain ⟨ho, rfl⟩ := opG_some hg
  replace ho : some (D.bl (!isNon d1)) = some d := ho
  cases ho
  have e : decide (x = .non) = isNon d1 := by
    cases d1 with
    | non => rw [rv_non r1]; rfl
    | bl b => rw [rv_bl r1]; rfl
    | int b => rw [rv_int r1]; rfl
    | str b => rw [rv_str r1]; rfl
    | tup _ => rw [Rv] at r1; obtain ⟨a, vs, rfl, _⟩ := r1; rfl
    | lst _ => rw [Rv] at r1; obtain ⟨a, vs, rfl, _⟩ := r1; rfl
    | scr _ => rw [Rv] at r1; obtain ⟨a, rfl, _⟩ := r1; rfl
    | dct _ _ => rw [Rv] at r1; exact r1.elim
    | set _ => rw [Rv] at r1; exact r1.elim
    | ins _ _ => rw [Rv] at r1; exact r1.elim
  rw [e]
  exact c.bl E
end
section
variable {X : Cx} {as : List V} {XW : XWt} {cf : CF} {a b c : Expr} {rest : List Expr} {sa sb sc : E} {pos p : Pos} {k : Nat} {ta tb tc : TE}
theorem pe_andG (ha : PE X a ta) (hb : PE X (.BoolOp .And (b :: rest) pos) tb) : PE X (.BoolOp .And (a :: b :: rest) pos) (fun σ H Q => ta σ H fun x H1 => ∃ k, TruV X.K x H1 k ∧ if k = true then tb σ H1 Q else Q x H1) := by
  refine ⟨fun pins s σ H Q I h => ?_⟩
  refine BoolOp_and (thn (ha.run pins s σ H _ I h) fun v s1 ⟨x, H1, I1, r1, k, t, q1⟩ => ?_)
  refine thn (tru_ok pins s1 σ H1 x v (fun b H' => b = k ∧ H' = H1) I1 r1 ⟨k, t, rfl, rfl⟩) fun b s2 ⟨H2, I2, e1, e2⟩ => ?_
  subst e1 e2
  cases b with
  | true => exact hb.run pins s2 σ _ Q I2 q1
  | false => exact ⟨x, _, I2, r1, q1⟩
theorem pe_orG (ha : PE X a ta) (hb : PE X (.BoolOp .Or (b :: rest) pos) tb) : PE X (.BoolOp .Or (a :: b :: rest) pos) (fun σ H Q => ta σ H fun x H1 => ∃ k, TruV X.K x H1 k ∧ if k = true then Q x H1 else tb σ H1 Q) := by
  refine ⟨fun pins s σ H Q I h => ?_⟩
  refine BoolOp_or (thn (ha.run pins s σ H _ I h) fun v s1 ⟨x, H1, I1, r1, k, t, q1⟩ => ?_)
  refine thn (tru_ok pins s1 σ H1 x v (fun b H' => b = k ∧ H' = H1) I1 r1 ⟨k, t, rfl, rfl⟩) fun b s2 ⟨H2, I2, e1, e2⟩ => ?_
  subst e1 e2
  cases b with
  | false => exact hb.run pins s2 σ _ Q I2 q1
  | true => exact ⟨x, _, I2, r1, q1⟩
theorem pe_notG (ha : PE X a ta) : PE X (.UnaryOp .Not a pos) (fun σ H Q => ta σ H fun x H1 => ∃ k, TruV X.K x H1 k ∧ Q (.bl (!k)) H1) := by
  refine ⟨fun pins s σ H Q I h => ?_⟩
  refine UnaryOp_ (thn (ha.run pins s σ H _ I h) fun v s1 ⟨x, H1, I1, r1, k, t, q1⟩ => ?_)
  exact not_of (thn (tru_ok pins s1 σ H1 x v (fun b H' => b = k ∧ H' = H1) I1 r1 ⟨k, t, rfl, rfl⟩) fun b s2 ⟨H2, I2, e1, e2⟩ => ⟨.bl (!b), H2, I2, rfl, by subst e1 e2; exact q1⟩)
/-- a comparison, as a test, from its value -/
theorem pt_cmpT {op : CmpOp} {r : R2} (ho : OpR X (compareOp op) r) (ha : PE X a ta) (hb : PE X b tb) (hm : behindInMarks op b = false) :
    PT X (.Compare a [op] [b] pos) (fun σ H Q => tOp r ta tb σ H fun x H' => ∃ k, TruV X.K x H' k ∧ Q k H') := by
  refine ⟨fun pins s σ H Q I h => ?_⟩
  refine wpAny_isTrue_Compare1 (thn (ha.run pins s σ H _ I h) fun v s1 ⟨x, H1, I1, r1, q1⟩ =>
    thn (hb.run pins s1 σ H1 _ I1 q1) fun u s2 ⟨y, H2, I2, r2, q2⟩ =>
    thn (ho pins s2 σ H2 x y v u _ I2 r1 r2 q2) fun c s3 ⟨z, H3, I3, r3, q3⟩ => tru_ok pins s3 σ H3 z c Q I3 r3 q3) hm
theorem eb_and (ha : PE X a (TE1' X as XW cf sa)) (hb : PE X (.BoolOp .And (b :: rest) pos) (TE1' X as XW cf sb)) : PE X (.BoolOp .And (a :: b :: rest) pos) (TE1' X as XW cf (.and sa sb)) :=
  PE.weak (pe_andG ha hb) fun σ H Q h => te_and h
theorem eb_or (ha : PE X a (TE1' X as XW cf sa)) (hb : PE X (.BoolOp .Or (b :: rest) pos) (TE1' X as XW cf sb)) : PE X (.BoolOp .Or (a :: b :: rest) pos) (TE1' X as XW cf (.or sa sb)) :=
  PE.weak (pe_orG ha hb) fun σ H Q h => te_or h
theorem eb_not (ha : PE X a (TE1' X as XW cf sa)) : PE X (.UnaryOp .Not a pos) (TE1' X as XW cf (.op .not (.cons sa .nil))) :=
  PE.weak (pe_notG ha) fun σ H Q h => (op1 h).imp fun x H1 q => rd_not q
theorem eb_neg (ha : PE X a (TE1' X as XW cf sa)) : PE X (.UnaryOp .USub a pos) (TE1' X as XW cf (.op .neg (.cons sa .nil))) :=
  pe_un1 un_neg (fun {σ x H Q} h => by
    obtain ⟨Z, W, r, fp, ds, d, l, E, al, hg, c⟩ := h
    obtain ⟨d1, rfl, r1, b1⟩ := all2_1 al
    obtain ⟨ho, rfl⟩ := opG_some hg
    replace ho : negD [d1] = some d := ho
    unfold negD at ho
    split at ho
    · rename_i i e
      cases e; cases ho
      exact ⟨i, rv_int r1, c.int E⟩
    · cases ho) ha
theorem eb_isN {j : Nat} {p2 : Pos} (ha : PE X a (TE1' X as XW cf sa)) : PE X (.Compare a [.Is] [.Constant .none j p2] pos) (TE1' X as XW cf (.op .isN (.cons sa .nil))) :=
  PE.weak (pe_cmpR op_isN ha (pe_non (j := j) (pos := p2)) rfl) fun σ H Q h => (op1 h).imp fun x H1 q => ⟨rfl, rd_isN q⟩
theorem eb_notN {j : Nat} {p2 : Pos} (ha : PE X a (TE1' X as XW cf sa)) : PE X (.Compare a [.IsNot] [.Constant .none j p2] pos) (TE1' X as XW cf (.op .notN (.cons sa .nil))) :=
  PE.weak (pe_cmpR op_notN ha (pe_non (j := j) (pos := p2)) rfl) fun σ H Q h => (op1 h).imp fun x H1 q => ⟨rfl, rd_notN q⟩
/-! tests -/
abbrev TTx' (X : Cx) (as : List V) (XW : XWt) (cf : CF) (e : E) : TT := TTx X.K as XW cf e
theorem tb_isN {j : Nat} {p2 : Pos} (ha : PE X a (TE1' X as XW cf sa)) : PT X (.Compare a [.Is] [.Constant .none j p2] pos) (TTx' X as XW cf (.op .isN (.cons sa .nil))) :=
  PT.weak (pt_cmpT op_isN ha (pe_non (j := j) (pos := p2)) rfl) fun σ H Q h => (op1 (tt_truth h)).imp fun x H1 q => ⟨rfl, rd_isN q⟩
theorem tb_notN {j : Nat} {p2 : Pos} (ha : PE X a (TE1' X as XW cf sa)) : PT X (.Compare a [.IsNot] [.Constant .none j p2] pos) (TTx' X as XW cf (.op .notN (.cons sa .nil))) :=
  PT.weak (pt_cmpT op_notN ha (pe_non (j := j) (pos := p2)) rfl) fun σ H Q h => (op1 (tt_truth h)).imp fun x H1 q => ⟨rfl, rd_notN q⟩
theorem tb_val (ha : PE X a (TE1' X as XW cf sa)) (he : ∀ whole, isTrue a X.env whole = (do let v ← whole; standAt a.pos; holding [v] (truthy v))) : PT X a (TTx' X as XW cf sa) :=
  PT.weak (pt_truth ha he) fun σ H Q h => tt_truth h
theorem tb_and (ha : PT X a (TTx' X as XW cf sa)) (hb : PW X (.BoolOp .And (b :: rest) pos) (TTx' X as XW cf sb)) : PW X (.BoolOp .And (a :: b :: rest) pos) (TTx' X as XW cf (.and sa sb)) :=
  ⟨fun wh pins s σ H Q I h => (pw_and ha hb).run wh pins s σ H Q I (tt_and h)⟩
theorem tb_or (ha : PT X a (TTx' X as XW cf sa)) (hb : PW X (.BoolOp .Or (b :: rest) pos) (TTx' X as XW cf sb)) : PW X (.BoolOp .Or (a :: b :: rest) pos) (TTx' X as XW cf (.or sa sb)) :=
  ⟨fun wh pins s σ H Q I h => (pw_or ha hb).run wh pins s σ H Q I (tt_or h)⟩
theorem tt_not {K : PySem.W.Frag} {σ : Sl} {H : Hp} {Q : Bool → Hp → Prop} (h : TTx K as XW cf (.op .not (.cons sa .nil)) σ H Q) : tNot (TTx K as XW cf sa) σ H Q := by
  obtain ⟨Z, W, r, fp, E, h⟩ := h
  refine ⟨Z, W, r, fp, E, ?_⟩
  simp only [ev] at h
  cases e1 : ev cf sa r with
  | bad => rw [e1] at h; exact h
  | exc x r1 => rw [e1] at h; exact h
  | val y =>
    obtain ⟨rs, r1⟩ := y
    rw [e1] at h
    simp only [Out.bind_val] at h ⊢
    match rs, h with
    | [q], h =>
      simp only [Out.bind_val] at h
      cases e2 : bor (keepO .not) [q] r1 with
      | none => rw [e2] at h; exact h.elim
      | some y =>
        obtain ⟨ds, r2⟩ := y
        rw [e2] at h
        simp only [Out.of_some, Out.bind_val] at h
        have e2' : bor true [q] r1 = some (ds, r2) := e2
        have hl := bor_len e2
        match ds, hl with
        | [d], _ =>
          have er := bor_keep e2'
          subst er
          have et : tru [q] r1 = truth d := by simp only [tru, e2']
          rw [et]
          have eo : opD .not [d] = (truth d).map fun b => D.bl !b := rfl
          rw [eo] at h
          cases e3 : truth d with
          | none => rw [e3] at h; exact h.elim
          | some k =>
            rw [e3] at h
            have h : ∀ Z' H' fp', EnvOk K as Z' W H' r1 σ fp' → Keep Z W H Z' H' → Q (!k) H' := h
            exact h
    | [], h => exact h.elim
    | _ :: _ :: _, h => exact h.elim
theorem tb_not (ha : PT X a (TTx' X as XW cf sa)) : PT X (.UnaryOp .Not a pos) (TTx' X as XW cf (.op .not (.cons sa .nil))) :=
  PT.weak (pt_not ha) fun σ H Q h => tt_not h
theorem tt_ite {K : PySem.W.Frag} {σ : Sl} {H : Hp} {Q : Bool → Hp → Prop} (h : TTx K as XW cf (.ite sa sb sc) σ H Q) : TTx K as XW cf sa σ H fun k H1 => if k = true then TTx K as XW cf sb σ H1 Q else TTx K as XW cf sc σ H1 Q := by
  obtain ⟨Z, W, r, fp, E, h⟩ := h
  refine ⟨Z, W, r, fp, E, ?_⟩
  simp only [ev] at h
  cases e1 : ev cf sa r with
  | bad => rw [e1] at h; exact h
  | exc x r1 => rw [e1] at h; exact h
  | val y =>
    obtain ⟨rs, r1⟩ := y
    rw [e1] at h
    simp only [Out.bind_val] at h ⊢
    cases e2 : tru rs r1 with
    | none => rw [e2] at h; exact h.elim
    | some k =>
      rw [e2] at h
      simp only [Out.of_some, Out.bind_val] at h ⊢
      intro Z' H' fp' E' k'
      have go : ∀ s : Bk.E, (match (ev cf s r1).bind fun x => (Out.of (tru x.1 x.2)).bind fun k => .val (k, x.2) with
          | .val (k, r') => ∀ Z' H' fp', EnvOk K as Z' W H' r' σ fp' → Keep Z W H Z' H' → Q k H'
          | .exc x r' => AfterX K as Z W H σ r' (XW x σ)
          | .bad => False) → TTx K as XW cf s σ H' Q := by
        intro s h
        refine ⟨Z', W, r1, fp', E', ?_⟩
        cases e3 : (ev cf s r1).bind fun x => (Out.of (tru x.1 x.2)).bind fun k => .val (k, x.2) with
        | bad => rw [e3] at h; exact h
        | exc x r2 => rw [e3] at h; exact fun Z2 H2 fp2 E2 k2 => h Z2 H2 fp2 E2 (k'.trans k2)
        | val y => rw [e3] at h; exact fun Z2 H2 fp2 E2 k2 => h Z2 H2 fp2 E2 (k'.trans k2)
      cases k with
      | true => rw [if_pos rfl] at h ⊢; exact go sb h
      | false => rw [if_neg Bool.false_ne_true] at h ⊢; exact go sc h
theorem eb_ite (ha : PT X a (TTx' X as XW cf sa)) (hb : PE X b (TE1' X as XW cf sb)) (hc : PE X c (TE1' X as XW cf sc)) : PE X (.IfExp a b c pos) (TE1' X as XW cf (.ite sa sb sc)) :=
  PE.weak (pe_ifExp ha hb hc) fun σ H Q h => te_ite h
end
/-! ### chains -/
def cmpI : CmpOp → Option CmpI
  | .Lt => some .lt | .LtE => some .le | .Gt => some .gt | .GtE => some .ge
  | _ => none
section
variable {X : Cx} {as : List V} {XW : XWt} {cf : CF} {a b c : Expr} {sa sb sc : E} {pos p : Pos} {op op' : CmpOp} {f g : CmpI}
theorem or_cmpI (h : cmpI op = some f) : OpR X (compareOp op) (rI0 fun i j => .bl (f.f i j)) := by
  cases op <;> simp only [cmpI, Option.some.injEq, reduceCtorEq] at h <;> subst h
  · exact op_lt
  · exact op_le
  · exact op_gt
  · exact op_ge
theorem mark_cmpI (h : cmpI op = some f) (e : Expr) : behindInMarks op e = false := by
  cases op <;> simp only [cmpI, reduceCtorEq] at h <;> cases e <;> simp [behindInMarks] <;> (intro _ _ h; cases h)
theorem eb_chain (h1 : cmpI op = some f) (h2 : cmpI op' = some g) (ha : PE X a (TE1' X as XW cf sa)) (hb : PE X b (TE1' X as XW cf sb)) (hc : PE X c (TE1' X as XW cf sc)) :
    PE X (.Compare a [op, op'] [b, c] pos) (TE1' X as XW cf (.chain f g (.cons sa (.cons sb .nil)) sc)) :=
  PE.weak (pe_chain (or_cmpI h1) (or_cmpI h2) ha hb hc (mark_cmpI h2 c)) fun σ H Q h => (te_chain h).imp fun x H1 q => q.imp fun y H2 ⟨i, j, ex, ey, q1, q2⟩ => ⟨i, j, ex, ey, f.f i j, rfl, by
    by_cases hf : f.f i j = true
    · rw [if_pos hf]
      exact (q1 hf).imp fun z H3 ⟨m, ez, q⟩ => ⟨j, m, ey, ez, q⟩
    · rw [if_neg hf]
      exact q2 (by simpa using hf)⟩
theorem tb_chain (h1 : cmpI op = some f) (h2 : cmpI op' = some g) (ha : PE X a (TE1' X as XW cf sa)) (hb : PE X b (TE1' X as XW cf sb)) (hc : PE X c (TE1' X as XW cf sc)) :
    PT X (.Compare a [op, op'] [b, c] pos) (TTx' X as XW cf (.chain f g (.cons sa (.cons sb .nil)) sc)) :=
  PT.weak (pt_chain (or_cmpI h1) (or_cmpI h2) ha hb hc (mark_cmpI h2 c)) fun σ H Q h => (te_chain (tt_truth h)).imp fun x H1 q => q.imp fun y H2 ⟨i, j, ex, ey, q1, q2⟩ => ⟨i, j, ex, ey, f.f i j, rfl, by
    by_cases hf : f.f i j = true
    · rw [if_pos hf]
      exact (q1 hf).imp fun z H3 ⟨m, ez, k, t, q⟩ => ⟨j, m, ey, ez, g.f j m, rfl, by
        have : k = g.f j m := t
        rw [← this]; exact q⟩
    · rw [if_neg hf]
      obtain ⟨k, t, q⟩ := q2 (by simpa using hf)
      have : k = false := t
      subst this
      exact ⟨false, rfl, q⟩⟩
end
end Bk
/-! Bk: slices. -/
namespace Bk
open L2 PyProof.Rows PySem.Spec PySem
section
variable {K : PySem.W.Frag} {as : List V} {σ : Sl} {H : Hp} {Q : VK} {x : V}
abbrev rSlAll (K : PySem.W.Frag) : V → Option Int → Option Int → Hp → VK → Prop := fun x lo hi H Q => rSlL K x lo hi H Q ∨ (rSlA K x lo hi H Q ∨ rSlS x lo hi H Q)
theorem OwnL.cut {Z : Pr} {ds : List D} {vs : List V} (lo hi : Option Int) (o : OwnL K Z H ds 0 vs []) : OwnL K Z H (cutL ds lo hi) 0 (cutV vs lo hi) [] := by
  have hl := o.len
  have e : ∀ (n d : Nat) (v : Option Int), HT.sIx n d v = sIx n d v := fun n d v => by cases v <;> rfl
  unfold cutL cutV
  rw [e, e, hl]
  exact (o.drop _).take _
theorem rd_cut {Z W : Pr} {r : Env} {fp : Nat → List Addr} {d1 d : D} {lo hi : Option Int} {o : Op} (E : EnvOk K as Z W H r σ fp) (b : Bd K Z H d1 x) (ho : cutD d1 (lo, hi) = some d) (hl : ∀ d, lvOf o d = lvO d)
    (c : Cont K as Z W H r σ d (lvOf o d) Q) : rSlAll K x lo hi H Q := by
  unfold cutD at ho
  split at ho
  · rename_i l
    cases ho
    obtain ⟨a, vs, rfl, h1, o1⟩ := bd_lst b
    rw [hl] at c
    exact .inl ⟨a, vs, rfl, SqL.of h1, fun p hn => c.lst E hn (o1.cut lo hi)⟩
  · rename_i l
    cases ho
    obtain ⟨a, vs, rfl, h1, o1⟩ := bd_tup b
    refine .inr (.inl ⟨a, vs, rfl, h1.sq, fun hw => ?_, fun _ p hn => c.tup E hn (o1.cut lo hi)⟩)
    rw [hl] at c
    refine c.here E ?_
    have e : cutL l lo hi = l := by
      have e : ∀ (n d : Nat) (v : Option Int), HT.sIx n d v = sIx n d v := fun n d v => by cases v <;> rfl
      have hn := o1.len
      rw [e, e, hn] at hw
      show (l.drop (sIx l.length 0 lo)).take (sIx l.length l.length hi - sIx l.length 0 lo) = l
      rw [hw.1, hw.2, List.drop_zero, Nat.sub_zero, List.take_length]
    rw [e]
    exact bd_own b fun ds z => by cases z
  · rename_i z
    split at ho
    · rename_i hz
      cases ho
      rw [hl] at c
      have e : ∀ (n d : Nat) (v : Option Int), HT.sIx n d v = sIx n d v := fun n d v => by cases v <;> rfl
      have hx : x = .str z := rv_str (bd_own b fun ds z => by cases z).rv
      refine .inr (.inr ⟨z, hx, sz_le hz, ?_⟩)
      have e2 : cutS z lo hi = ⟨(cutL z.cps.toList lo hi).toArray⟩ := by
        have e3 : z.cps.toList.length = z.length := by simp [Str.length]
        unfold cutS cutL
        rw [e, e, e3]
      rw [e2]
      exact c.str E
    · cases ho
  · cases ho
end
section
variable {X : Cx} {as : List V} {XW : XWt} {cf : CF} {a lo hi : Expr} {sa sl sh : E} {pos p2 : Pos} {te tl th : TE}
theorem sl_all : SlR X (rSlAll X.K) := sl_list.or (sl_tupA.or sl_str)
theorem lv_sl {l h : Bool} (d : D) : lvOf (.slL l h) d = lvO d := rfl
theorem eb_sl00 (ha : PE X a (TE1' X as XW cf sa)) : PE X (.Subscript a (.Slice none none none p2) pos) (TE1' X as XW cf (.op (.slL false false) (.cons sa .nil))) :=
  PE.weak (pe_slice sl_all ha po_none po_none) fun σ H Q h => (op1 h).imp fun x H1 q => by
    obtain ⟨Z, W, r, fp, ds, d, l, E, al, hg, c⟩ := q
    obtain ⟨d1, rfl, r1, b1⟩ := all2_1 al
    obtain ⟨ho, rfl⟩ := opG_some hg
    exact rd_cut E (b1 rfl) ho lv_sl c
theorem eb_sl10 (ha : PE X a (TE1' X as XW cf sa)) (hl : PE X lo (TE1' X as XW cf sl)) : PE X (.Subscript a (.Slice (some lo) none none p2) pos) (TE1' X as XW cf (.op (.slL true false) (.cons sa (.cons sl .nil)))) :=
  PE.weak (pe_slice sl_all ha (po_some hl) po_none) fun σ H Q h => (op2 h).imp fun x H1 q => q.imp fun y H2 q => by
    obtain ⟨Z, W, r, fp, ds, d, l, E, al, hg, c⟩ := q
    obtain ⟨d1, d2, rfl, ⟨r1, b1⟩, r2, b2⟩ := all2_2 al
    obtain ⟨ho, rfl⟩ := opG_some hg
    replace ho : (bndsD true false [d2]).bind (cutD d1) = some d := ho
    cases d2 with
    | int i => exact ⟨i, rv_int r2, rd_cut E (b1 rfl) ho lv_sl c⟩
    | _ => cases ho
theorem eb_sl01 (ha : PE X a (TE1' X as XW cf sa)) (hl : PE X hi (TE1' X as XW cf sh)) : PE X (.Subscript a (.Slice none (some hi) none p2) pos) (TE1' X as XW cf (.op (.slL false true) (.cons sa (.cons sh .nil)))) :=
  PE.weak (pe_slice sl_all ha po_none (po_some hl)) fun σ H Q h => (op2 h).imp fun x H1 q => q.imp fun y H2 q => by
    obtain ⟨Z, W, r, fp, ds, d, l, E, al, hg, c⟩ := q
    obtain ⟨d1, d2, rfl, ⟨r1, b1⟩, r2, b2⟩ := all2_2 al
    obtain ⟨ho, rfl⟩ := opG_some hg
    replace ho : (bndsD false true [d2]).bind (cutD d1) = some d := ho
    cases d2 with
    | int i => exact ⟨i, rv_int r2, rd_cut E (b1 rfl) ho lv_sl c⟩
    | _ => cases ho
/-- a[lo:hi], both written -/
theorem pe_sliceB {r : V → Option Int → Option Int → Hp → VK → Prop} (hr : SlR X r) (he : PE X a te) (hl : PE X lo tl) (hu : PE X hi th) :
    PE X (.Subscript a (.Slice (some lo) (some hi) none p2) pos) (fun σ H Q => te σ H fun x H1 => tl σ H1 fun y H2 => th σ H2 fun z H3 => ∃ i j, y = .int i ∧ z = .int j ∧ r x (some i) (some j) H3 Q) := by
  refine ⟨fun pins s σ H Q I h => ?_⟩
  refine Subscript_ (thn (he.run pins s σ H _ I h) fun v s1 ⟨x, H1, I1, rx, q1⟩ => ?_)
  refine wpAny_Slice (thn (hl.run pins s1 σ H1 _ I1 q1) fun vl s2 ⟨l, H2, I2, pl, q2⟩ => thn (hu.run pins s2 σ H2 _ I2 q2) fun vu s3 ⟨u, H3, I3, pu, i, j, e1, e2, q3⟩ => ?_)
  subst e1 e2
  obtain ⟨t1, rfl⟩ := pl
  obtain ⟨t2, rfl⟩ := pu
  rw [evalPart_none]
  refine wpAny_pure ?_
  have I4 : Inv X pins σ H3 { s3 with heap := s3.heap.push { cls := .type "slice", data := .fields #[.int i t1, .int j t2, .none] } } := I3.kept (t' := s3.toks) fun b ob q => Heap.get?_push_of_some _ q
  obtain ⟨T, id, hT, ht, hg⟩ := hr pins { s3 with heap := s3.heap.push { cls := .type "slice", data := .fields #[.int i t1, .int j t2, .none] } } σ H3 x v (.int i t1) (.int j t2) (some i) (some j) s3.heap.objs.size Q I4 rx (Heap.IsSliceOf.new ..) (.int i t1) (.int j t2) q3
  show wpAny (model X.prog X.w) X.A (subscriptTail a (.Slice (some lo) (some hi) none p2) v (.ref s3.heap.objs.size)) (EP X pins σ Q) X.xe { s3 with heap := s3.heap.push { cls := .type "slice", data := .fields #[.int i t1, .int j t2, .none] } }
  exact tail_any (ops := [Value.ref s3.heap.objs.size, v]) ht hT hg (by with_unfolding_all rfl)
theorem op3 {K : PySem.W.Frag} {σ : Sl} {H : Hp} {o : Op} {a b c : E} {Q : VK} (h : TE1 K as XW (ev cf (.op o (.cons a (.cons b (.cons c .nil))))) σ H Q) :
    TE1 K as XW (ev cf a) σ H fun x H1 => TE1 K as XW (ev cf b) σ H1 fun y H2 => TE1 K as XW (ev cf c) σ H2 fun z H3 => OpK K as σ (keepO o) (opG o) [x, y, z] H3 Q :=
  (tas_cons (op_args h)).imp fun v H1 q => (tas_cons q).imp fun v2 H2 q2 => (tas_cons q2).imp fun v3 H3 q3 => tas_nil q3
theorem all2_3 {α β : Type} {P : α → β → Prop} {ds : List α} {x y z : β} (h : All2 P ds [x, y, z]) : ∃ d e f, ds = [d, e, f] ∧ P d x ∧ P e y ∧ P f z := by
  match ds, h with
  | d :: ds, ⟨z, zs, e, p, r⟩ =>
    cases e
    obtain ⟨e2, f2, rfl, q⟩ := all2_2 r
    exact ⟨d, e2, f2, rfl, p, q⟩
  | [], h => cases h
theorem eb_sl11 (ha : PE X a (TE1' X as XW cf sa)) (hl : PE X lo (TE1' X as XW cf sl)) (hh : PE X hi (TE1' X as XW cf sh)) :
    PE X (.Subscript a (.Slice (some lo) (some hi) none p2) pos) (TE1' X as XW cf (.op (.slL true true) (.cons sa (.cons sl (.cons sh .nil))))) :=
  PE.weak (pe_sliceB sl_all ha hl hh) fun σ H Q h => (op3 h).imp fun x H1 q => q.imp fun y H2 q => q.imp fun z H3 q => by
    obtain ⟨Z, W, r, fp, ds, d, l, E, al, hg, c⟩ := q
    obtain ⟨d1, d2, d3, rfl, ⟨r1, b1⟩, ⟨r2, _⟩, r3, _⟩ := all2_3 al
    obtain ⟨ho, rfl⟩ := opG_some hg
    replace ho : (bndsD true true [d2, d3]).bind (cutD d1) = some d := ho
    cases d2 with
    | int i =>
      cases d3 with
      | int j => exact ⟨i, j, rv_int r2, rv_int r3, rd_cut E (b1 rfl) ho lv_sl c⟩
      | _ => cases ho
    | _ => cases ho
theorem eb_idx {b : Expr} {sb : E} (ha : PE X a (TE1' X as XW cf sa)) (hb : PE X b (TE1' X as XW cf sb)) (hs : PlainIx b) : PE X (.Subscript a b pos) (TE1' X as XW cf (.op .idx (.cons sa (.cons sb .nil)))) :=
  PE.weak (pe_ix ix_seq ha hb hs) fun σ H Q h => (op2 h).imp fun x H1 q => q.imp fun y H2 q => rd_idx q
end
end Bk
/-! Bk: slices with a step. -/
namespace Bk
open L2 PyProof.Rows PySem.Spec PySem HT
/-- the places of a slice of a row of n -/
def places (lo hi : Option Int) (st : Int) (n : Nat) : List Nat :=
  let b := Builtin.Slice.sliceAdjust lo hi st (n : Int)
  (List.range (Builtin.Slice.slicePlaces b.1 b.2 st)).map fun (m : Nat) => (b.1 + (m : Int) * st).toNat
section
variable {prog : Program} {w : World} {A : Around} {E : Value → Shared → Prop} {s : Shared}
theorem applied_st {sl : Addr} {vl vu : Value} {lo hi : Option Int} {st : Int} {t : Tok} {n : Nat} {Q : Int × Int × Nat → Shared → Prop} (hs : s.heap.IsSliceOf sl vl vu (.int st t)) (pl : IsPart vl lo) (pu : IsPart vu hi) (h0 : st ≠ 0)
    (h : Q ((Builtin.Slice.sliceAdjust lo hi st (n : Int)).1, st, Builtin.Slice.slicePlaces (Builtin.Slice.sliceAdjust lo hi st (n : Int)).1 (Builtin.Slice.sliceAdjust lo hi st (n : Int)).2 st) s) : wpAny (model prog w) A (Builtin.Slice.sliceApplied (.ref sl) (pure (n : Int))) Q E s := by
  obtain ⟨os, hos, hcs, hds⟩ := id hs
  unfold Builtin.Slice.sliceApplied Builtin.Slice.sliceFields
  refine wpAny_bind (wpAny_bind (wpAny_field hos hds (x := vl) rfl (wpAny_bind (wpAny_field hos hds (x := vu) rfl (wpAny_bind (wpAny_field hos hds (x := .int st t) rfl (wpAny_pure ?_)))))))
  refine wpAny_bind (slicePart_ (.int st t) ?_)
  show wpAny _ _ (if (st == 0) = true then _ else _) _ _ s
  rw [if_neg (by simpa using h0)]
  refine wpAny_bind (slicePart_ pl (wpAny_bind (slicePart_ pu (wpAny_bind (wpAny_pure ?_)))))
  exact wpAny_pure h
theorem item_tuple_st {t sl : Addr} {items : Array Value} {vl vu : Value} {lo hi : Option Int} {st : Int} {tk : Tok} {Q : Value → Shared → Prop} (ht : IsTup s.heap t items) (hs : s.heap.IsSliceOf sl vl vu (.int st tk)) (pl : IsPart vl lo) (pu : IsPart vu hi) (h0 : st ≠ 0) (h1 : st ≠ 1)
    (h : Q (.ref s.heap.objs.size) { s with heap := s.heap.push { cls := .type "tuple", data := .seq ((places lo hi st items.size).filterMap (items[·]?)).toArray } })
    (hsz : ((places lo hi st items.size).filterMap (items[·]?)).length ≤ sizeLine) : wpAny (model prog w) A (getItem (.ref t) (.ref sl)) Q E s := by
  obtain ⟨os, hos, hcs, hds⟩ := id hs
  have hTs : s.TypeIs (.ref sl) "slice" := ⟨os, hos, hcs⟩
  have e : ((List.range (Builtin.Slice.slicePlaces (Builtin.Slice.sliceAdjust lo hi st (items.size : Int)).1 (Builtin.Slice.sliceAdjust lo hi st (items.size : Int)).2 st)).filterMap fun (m : Nat) => items[((Builtin.Slice.sliceAdjust lo hi st (items.size : Int)).1 + (m : Int) * st).toNat]?) = (places lo hi st items.size).filterMap (items[·]?) := by
    unfold places
    rw [List.filterMap_map]
    rfl
  have htake : sizeOk (.seq ((places lo hi st items.size).filterMap (items[·]?)).toArray) := by
    show ((places lo hi st items.size).filterMap (items[·]?)).toArray.size ≤ sizeLine
    rw [List.size_toArray]; exact hsz
  unfold getItem
  try with_reducible refine wpAny_holding ?_
  first | refine wpAny_bind (wpAny_pure ?_) | skip
  refine wpAny_bind (wpAny_sequenceKey ht.typeIs (by decide) ?_)
  refine wpAny_bind (wpAny_callSpecial?_slot (name := Str.ofString "__getitem__") ht.typeIs PyProof.Rows.slot_tuple_getitem
    (wpAny_call_entry PyProof.Rows.slot_tuple_getitem ht.typeIs entry_tuple_getitem ?_ (args_tuple_getitem _ _)))
  show wpAny _ _ (Builtin.Tuple.tupleItemsOf (.ref t) >>= _) _ _ s
  refine wpAny_bind (tupleItemsOf_ ht ?_)
  refine wpAny_bind (wpAny_typeOf hTs ?_)
  rw [if_pos (by decide)]
  refine wpAny_bind (applied_st hs pl pu h0 ?_)
  show wpAny _ _ (if ((Builtin.Slice.sliceAdjust lo hi st (items.size : Int)).1 == 0 && st == 1 && Builtin.Slice.slicePlaces (Builtin.Slice.sliceAdjust lo hi st (items.size : Int)).1 (Builtin.Slice.sliceAdjust lo hi st (items.size : Int)).2 st == items.size) = true then _ else _) _ _ s
  rw [if_neg (by rw [show (st == 1) = false by simpa using h1]; simp), e]
  first
    | exact wpAny_bind (m := Builtin.Tuple.tupleExact _) (wpAny_newObj_type (wpAny_pure ⟨_, rfl, wpAny_pure h⟩) htake)
    | exact wpAny_bind (m := Builtin.Tuple.tupleExact _) (wpAny_newObj_type (wpAny_bind (wpAny_pure (wpAny_pure ⟨_, rfl, wpAny_pure h⟩))) htake)
    | exact wpAny_bind (wpAny_bind (m := Builtin.Tuple.tupleExact _) (wpAny_newObj_type (wpAny_pure (wpAny_pure ⟨_, rfl, wpAny_pure h⟩)) htake))
    | exact wpAny_bind (wpAny_bind (m := Builtin.Tuple.tupleExact _) (wpAny_newObj_type (wpAny_pure ⟨_, rfl, wpAny_pure h⟩) htake))
end
/-! ### what is picked -/
theorem range_pick {α : Type} : ∀ l : List α, (List.range l.length).filterMap (l[·]?) = l
  | [] => rfl
  | x :: r => by
    rw [List.length_cons, List.range_succ_eq_map, List.filterMap_cons, List.filterMap_map]
    have e : ((fun m => (x :: r)[m]?) ∘ Nat.succ) = (r[·]?) := funext fun m => by simp
    simp only [List.getElem?_cons_zero]
    rw [e, range_pick r]
theorem filterMap_congr' {α β : Type} {f g : α → Option β} : ∀ {l : List α}, (∀ a ∈ l, f a = g a) → l.filterMap f = l.filterMap g
  | [], _ => rfl
  | a :: r, h => by rw [List.filterMap_cons, List.filterMap_cons, h a List.mem_cons_self, filterMap_congr' fun b m => h b (List.mem_cons_of_mem _ m)]
theorem pick_rev {α : Type} (xs : List α) : ((List.range xs.length).map fun (m : Nat) => ((xs.length : Int) - 1 + (m : Int) * (-1)).toNat).filterMap (xs[·]?) = xs.reverse := by
  rw [List.filterMap_map]
  have h := range_pick xs.reverse
  rw [List.length_reverse] at h
  rw [← h]
  refine filterMap_congr' fun m hm => ?_
  have hm := List.mem_range.mp hm
  show xs[((xs.length : Int) - 1 + (m : Int) * (-1)).toNat]? = xs.reverse[m]?
  rw [List.getElem?_reverse hm]
  have : ((xs.length : Int) - 1 + (m : Int) * (-1)).toNat = xs.length - 1 - m := by omega
  rw [this]
theorem places_rev (n : Nat) : places none none (-1) n = (List.range n).map fun (m : Nat) => ((n : Int) - 1 + (m : Int) * (-1)).toNat := by
  unfold places
  have e : Builtin.Slice.sliceAdjust none none (-1) (n : Int) = ((n : Int) - 1, -1) := by simp [Builtin.Slice.sliceAdjust]
  have e2 : Builtin.Slice.slicePlaces ((n : Int) - 1) (-1) (-1) = n := by
    unfold Builtin.Slice.slicePlaces
    simp
    omega
  simp only [e, e2]
theorem bounds_rev (its : List Value) : slicePick its.toArray none none (some (-1)) = its.reverse.toArray := by
  unfold slicePick
  have e : sliceBounds none none (some (-1)) its.toArray.size = ((its.length : Int) - 1, -1, -1) := by simp [sliceBounds]
  rw [e]
  have h := pick_rev its
  have e3 : sliceRange ((its.length : Int) - 1) (-1) (-1) = (List.range its.length).map fun (m : Nat) => ((its.length : Int) - 1 + (m : Int) * (-1)).toNat := by
    unfold sliceRange
    simp only [show ¬ ((-1 : Int) > 0) by decide, if_false]
    have e4 : (if (its.length : Int) - 1 > -1 then ((its.length : Int) - 1 - -1 - -1 - 1) / - -1 else 0).toNat = its.length := by
      split
      · simp
      · rename_i hn; omega
    rw [e4]
    refine List.map_congr_left fun m _ => ?_
    rw [Int.mul_comm]
  simp only
  rw [e3]
  have e5 : (fun x : Nat => its.toArray[x]?) = (its[·]?) := funext fun m => List.getElem?_toArray
  rw [e5, h]
/-- every second one -/
theorem pick_even {α : Type} : ∀ xs : List α, ((List.range ((xs.length + 1) / 2)).map fun (m : Nat) => 2 * m).filterMap (xs[·]?) = everyOther xs
  | [] => by simp [everyOther]
  | [x] => by simp [everyOther, List.range_succ_eq_map]
  | x :: y :: r => by
    have e : ((x :: y :: r).length + 1) / 2 = (r.length + 1) / 2 + 1 := by simp only [List.length_cons]; omega
    rw [e, List.range_succ_eq_map, List.map_cons, List.filterMap_cons, List.map_map, List.filterMap_map]
    have h := pick_even r
    rw [List.filterMap_map] at h
    simp only [Nat.mul_zero, List.getElem?_cons_zero, everyOther]
    rw [← h]
    congr 1
theorem Vals.pick {vs : List V} {us : List Value} (r : Vals vs us) : ∀ ps : List Nat, Vals (ps.filterMap (vs[·]?)) (ps.filterMap (us[·]?))
  | [] => .nil
  | p :: ps => by
    have ih := Vals.pick r ps
    rw [List.filterMap_cons, List.filterMap_cons]
    cases h : vs[p]? with
    | none =>
      have h1 : us[p]? = none := by
        rw [List.getElem?_eq_none_iff] at h ⊢
        rw [← r.length]; exact h
      rw [h1]
      exact ih
    | some x =>
      obtain ⟨u, h1, h2⟩ := r.get h
      rw [h1]
      exact .cons h2 ih
section
variable {X : Cx} {as : List V} {XW : XWt} {cf : CF} {a ste : Expr} {sa : E} {pos p2 : Pos} {te tl : TE}
/-- a slice with a written step -/
def StR (X : Cx) (lo : Option Int) (k : Int) (r : V → Hp → VK → Prop) : Prop :=
  ∀ (pins : List (Addr × Obj)) (s : Shared) (σ : Sl) (H : Hp) (x : V) (v vl vs : Value) (sl : Addr) (Q : VK), Inv X pins σ H s → RelV x v → s.heap.IsSliceOf sl vl .none vs → IsPart vl lo → (∃ t, vs = .int k t) → r x H Q →
    ∃ T id, typeLookup (.type T) "__getitem__" = pure (some (.builtin id)) ∧ s.TypeIs v T ∧ wpAny (model X.prog X.w) X.A (getItem v (.ref sl)) (EP X pins σ Q) X.xe s
theorem pe_st0 {k : Int} {r : V → Hp → VK → Prop} (hr : StR X none k r) (he : PE X a te) (hst : PE X ste (tC (.int k))) : PE X (.Subscript a (.Slice none none (some ste) p2) pos) (fun σ H Q => te σ H fun x H1 => r x H1 Q) := by
  refine ⟨fun pins s σ H Q I h => ?_⟩
  refine Subscript_ (thn (he.run pins s σ H _ I h) fun v s1 ⟨x, H1, I1, rx, q1⟩ => ?_)
  refine wpAny_Slice (thn ((po_none (X := X)).run pins s1 σ H1 (fun o H' => o = none ∧ H' = H1) I1 ⟨rfl, rfl⟩) fun vl s2 ⟨l, H2, I2, pl, e1, e2⟩ => thn ((po_none (X := X)).run pins s2 σ H2 (fun o H' => o = none ∧ H' = H2) I2 ⟨rfl, rfl⟩) fun vu s3 ⟨u, H3, I3, pu, e3, e4⟩ => ?_)
  subst e1 e2 e3 e4
  cases pl
  cases pu
  rw [evalPart_some]
  refine thn (hst.run pins s3 σ _ (fun v H' => v = .int k ∧ H' = H3) I3 ⟨rfl, rfl⟩) fun w4 s4 ⟨z, H4, I4, r4, ez, eH⟩ => ?_
  subst ez eH
  obtain ⟨t, rfl⟩ := r4
  have I5 : Inv X pins σ _ { s4 with heap := s4.heap.push { cls := .type "slice", data := .fields #[.none, .none, .int k t] } } := I4.kept (t' := s4.toks) fun b ob q => Heap.get?_push_of_some _ q
  obtain ⟨T, id, hT, ht, hg⟩ := hr pins _ σ _ x v .none (.int k t) s4.heap.objs.size Q I5 rx (Heap.IsSliceOf.new ..) .none ⟨t, rfl⟩ q1
  show wpAny (model X.prog X.w) X.A (subscriptTail a (.Slice none none (some ste) p2) v (.ref s4.heap.objs.size)) (EP X pins σ Q) X.xe { s4 with heap := s4.heap.push { cls := .type "slice", data := .fields #[.none, .none, .int k t] } }
  exact tail_any (ops := [v, Value.ref s4.heap.objs.size]) ht hT hg (by with_unfolding_all rfl)
/-- [::-1] of a list, of a tuple -/
abbrev rRevs (K : PySem.W.Frag) : V → Hp → VK → Prop := fun x H Q => (∃ a xs, x = .ref a ∧ SqL K H a xs ∧ ∀ p, H p = none → Q (.ref p) (upd H p (.lst xs.reverse))) ∨ ∃ a xs, x = .ref a ∧ SqT K H a xs ∧ ∀ p, H p = none → Q (.ref p) (upd H p (.tup xs.reverse))
theorem Vals.rev {vs : List V} {us : List Value} (r : Vals vs us) : Vals vs.reverse us.reverse := by
  induction r with
  | nil => exact .nil
  | cons h _ ih =>
    rw [List.reverse_cons, List.reverse_cons]
    exact ih.append (.cons h .nil)
theorem st_rev : StR X none (-1) (rRevs X.K) := by
  intro pins s σ H x v vl vs sl Q I rx hs pl hv h
  obtain ⟨t, rfl⟩ := hv
  rcases h with ⟨a, xs, rfl, hx, q⟩ | ⟨a, xs, rfl, hx, q⟩
  · cases rx
    obtain ⟨its, r, ht, hz⟩ := I.list hx
    have hlen := r.length
    refine ⟨"list", _, slot_list_getitem.lookup, ht.isList.typeIs, ?_⟩
    refine wpAny_getItem_list_slice (hi := none) (st := some (-1)) ht.isList hs pl .none (.int (-1) t) (by simp) ?_ (by rw [List.size_toArray]; omega)
    cases pl
    rw [bounds_rev]
    refine ⟨.ref s.heap.objs.size, _, I.laid (t' := s.toks) (o := .lst xs.reverse) (fun b ob e => Heap.get?_push_of_some _ e) (Nat.le_refl _) ?_, rfl, q _ (I.hok.fresh (Nat.le_refl _))⟩
    exact ⟨by rw [List.length_reverse]; exact hz, _, 0, Vals.rev r, Heap.get?_push_size _ rfl⟩
  · cases rx
    obtain ⟨its, r, ht, hz⟩ := I.tuple hx
    have hlen := r.length
    have e0 : (places none none (-1) its.toArray.size).filterMap (its.toArray[·]?) = its.reverse := by
      have e5 : (fun x : Nat => its.toArray[x]?) = (its[·]?) := funext fun m => List.getElem?_toArray
      have e6 : its.toArray.size = its.length := by simp
      rw [e5, e6, places_rev, pick_rev]
    refine ⟨"tuple", _, PyProof.Rows.slot_tuple_getitem.lookup, ht.typeIs, ?_⟩
    cases pl
    refine item_tuple_st ht hs .none .none (by decide) (by decide) ?_ (by rw [e0, List.length_reverse]; omega)
    rw [e0]
    refine ⟨.ref s.heap.objs.size, _, I.laid (t' := s.toks) (o := .tup xs.reverse) (fun b ob e => Heap.get?_push_of_some _ e) (Nat.le_refl _) ?_, rfl, q _ (I.hok.fresh (Nat.le_refl _))⟩
    exact ⟨by rw [List.length_reverse]; exact hz, _, Vals.rev r, IsTup.new _ _⟩
theorem OwnL.rev {K : PySem.W.Frag} {Z : Pr} {H : Hp} : ∀ {ds : List D} {vs : List V}, OwnL K Z H ds 0 vs [] → OwnL K Z H ds.reverse 0 vs.reverse []
  | [], vs, h => by rw [OwnL] at h; rw [h.1]; simp only [List.reverse_nil]; rw [OwnL]; exact ⟨rfl, rfl⟩
  | d :: ds, vs, h => by
    rw [OwnL] at h
    obtain ⟨v, ws, f, g, rfl, e, o, os⟩ := h
    obtain ⟨rfl, rfl⟩ := List.append_eq_nil_iff.mp e.symm
    rw [List.reverse_cons, List.reverse_cons]
    refine OwnL.app (OwnL.rev os) ?_
    rw [OwnL]
    refine ⟨v, [], [], [], rfl, rfl, o, ?_⟩
    rw [OwnL]; exact ⟨rfl, rfl⟩
theorem eb_rev {p3 p4 : Pos} {j : Nat} (ha : PE X a (TE1' X as XW cf sa)) : PE X (.Subscript a (.Slice none none (some (.UnaryOp .USub (.Constant (.int 1) j p3) p4)) p2) pos) (TE1' X as XW cf (.op .rev (.cons sa .nil))) :=
  PE.weak (pe_st0 st_rev ha (PE.weak (pe_un un_neg pe_int) fun σ H Q h => ⟨1, rfl, h⟩)) fun σ H Q h => (op1 h).imp fun x H1 q => by
    obtain ⟨Z, W, r, fp, ds, d, l, E, al, hg, c⟩ := q
    obtain ⟨d1, rfl, r1, b1⟩ := all2_1 al
    obtain ⟨ho, rfl⟩ := opG_some hg
    replace ho : stepD List.reverse [d1] = some d := ho
    cases d1 with
    | lst l =>
      cases ho
      obtain ⟨a, vs, rfl, h1, o1⟩ := bd_lst (b1 rfl)
      exact .inl ⟨a, vs, rfl, SqL.of h1, fun p hn => c.lst E hn o1.rev⟩
    | tup l =>
      cases ho
      obtain ⟨a, vs, rfl, h1, o1⟩ := bd_tup (b1 rfl)
      exact .inr ⟨a, vs, rfl, h1.sq, fun p hn => c.tup E hn o1.rev⟩
    | _ => cases ho
end
end Bk
/-! Bk: every second item. -/
namespace Bk
open L2 PyProof.Rows PySem.Spec PySem HT
theorem places_even (n : Nat) : places none none 2 n = (List.range ((n + 1) / 2)).map fun (m : Nat) => 2 * m := by
  unfold places
  have e : Builtin.Slice.sliceAdjust none none 2 (n : Int) = (0, (n : Int)) := by simp [Builtin.Slice.sliceAdjust]
  have e2 : Builtin.Slice.slicePlaces 0 (n : Int) 2 = (n + 1) / 2 := by
    unfold Builtin.Slice.slicePlaces
    simp only [show ((2 : Int) > 0) by decide, if_true]
    split <;> omega
  simp only [e, e2]
  refine List.map_congr_left fun m _ => ?_
  omega
theorem places_odd (n : Nat) : places (some 1) none 2 n = (List.range (n / 2)).map fun (m : Nat) => 2 * m + 1 := by
  unfold places
  have e : Builtin.Slice.sliceAdjust (some 1) none 2 (n : Int) = (min 1 (n : Int), (n : Int)) := by simp [Builtin.Slice.sliceAdjust]
  have e2 : Builtin.Slice.slicePlaces (min 1 (n : Int)) (n : Int) 2 = n / 2 := by
    unfold Builtin.Slice.slicePlaces
    simp only [show ((2 : Int) > 0) by decide, if_true]
    split <;> omega
  simp only [e, e2]
  refine List.map_congr_left fun m hm => ?_
  have := List.mem_range.mp hm
  omega
theorem pick_odd {α : Type} (xs : List α) : ((List.range (xs.length / 2)).map fun (m : Nat) => 2 * m + 1).filterMap (xs[·]?) = everyOther (xs.drop 1) := by
  cases xs with
  | nil => simp [everyOther]
  | cons x r =>
    have h := pick_even r
    rw [List.length_cons, List.drop_succ_cons, List.drop_zero, ← h, List.filterMap_map, List.filterMap_map]
    refine filterMap_congr' fun m _ => ?_
    simp
/-- every second item of a tuple -/
abbrev rPick (K : PySem.W.Frag) (f : List V → List V) : V → Hp → VK → Prop := fun x H Q => ∃ a xs, x = .ref a ∧ SqT K H a xs ∧ ∀ p, H p = none → Q (.ref p) (upd H p (.tup (f xs)))
theorem st_pick {X : Cx} {lo : Option Int} {f : {α : Type} → List α → List α} (hf : ∀ {α : Type} (xs : List α), (places lo none 2 xs.length).filterMap (xs[·]?) = f xs) (hl : ∀ {α : Type} (xs : List α), (f xs).length ≤ xs.length) : StR X lo 2 (rPick X.K f) := by
  intro pins s σ H x v vl vs sl Q I rx hs pl hv h
  obtain ⟨t, rfl⟩ := hv
  obtain ⟨a, xs, rfl, hx, q⟩ := h
  cases rx
  obtain ⟨its, r, ht, hz⟩ := I.tuple hx
  have hlen := r.length
  have e0 : (places lo none 2 its.toArray.size).filterMap (its.toArray[·]?) = f its := by
    have e5 : (fun x : Nat => its.toArray[x]?) = (its[·]?) := funext fun m => List.getElem?_toArray
    have e6 : its.toArray.size = its.length := by simp
    rw [e5, e6, hf]
  refine ⟨"tuple", _, PyProof.Rows.slot_tuple_getitem.lookup, ht.typeIs, ?_⟩
  refine item_tuple_st ht hs pl .none (by decide) (by decide) ?_ (by rw [e0]; have := hl its; omega)
  rw [e0]
  have hlx := hl xs
  refine ⟨.ref s.heap.objs.size, _, I.laid (t' := s.toks) (o := .tup (f xs)) (fun b ob e => Heap.get?_push_of_some _ e) (Nat.le_refl _) ?_, rfl, q _ (I.hok.fresh (Nat.le_refl _))⟩
  refine ⟨by omega, _, ?_, IsTup.new _ _⟩
  rw [← hf xs, ← hf its, ← hlen]
  exact Vals.pick r _
theorem other_len {α : Type} : ∀ xs : List α, (everyOther xs).length ≤ xs.length
  | [] => Nat.le_refl _
  | [x] => Nat.le_refl _
  | x :: y :: r => by have := other_len r; simp only [everyOther, List.length_cons]; omega
section
variable {X : Cx} {as : List V} {XW : XWt} {cf : CF} {a ste loe : Expr} {sa : E} {pos p2 : Pos} {te tl : TE}
theorem pe_st1 {k l : Int} {r : V → Hp → VK → Prop} (hr : StR X (some l) k r) (he : PE X a te) (hlo : PE X loe (tC (.int l))) (hst : PE X ste (tC (.int k))) : PE X (.Subscript a (.Slice (some loe) none (some ste) p2) pos) (fun σ H Q => te σ H fun x H1 => r x H1 Q) := by
  refine ⟨fun pins s σ H Q I h => ?_⟩
  refine Subscript_ (thn (he.run pins s σ H _ I h) fun v s1 ⟨x, H1, I1, rx, q1⟩ => ?_)
  refine wpAny_Slice (thn ((po_some (X := X) hlo).run pins s1 σ H1 (fun o H' => o = some l ∧ H' = H1) I1 ⟨l, rfl, rfl, rfl⟩) fun vl s2 ⟨l', H2, I2, pl, e1, e2⟩ => thn ((po_none (X := X)).run pins s2 σ H2 (fun o H' => o = none ∧ H' = H2) I2 ⟨rfl, rfl⟩) fun vu s3 ⟨u, H3, I3, pu, e3, e4⟩ => ?_)
  subst e1 e2 e3 e4
  cases pu
  rw [evalPart_some]
  refine thn (hst.run pins s3 σ _ (fun v H' => v = .int k ∧ H' = H3) I3 ⟨rfl, rfl⟩) fun w4 s4 ⟨z, H4, I4, r4, ez, eH⟩ => ?_
  subst ez eH
  obtain ⟨t, rfl⟩ := r4
  have I5 : Inv X pins σ _ { s4 with heap := s4.heap.push { cls := .type "slice", data := .fields #[vl, .none, .int k t] } } := I4.kept (t' := s4.toks) fun b ob q => Heap.get?_push_of_some _ q
  obtain ⟨T, id, hT, ht, hg⟩ := hr pins _ σ _ x v vl (.int k t) s4.heap.objs.size Q I5 rx (Heap.IsSliceOf.new ..) pl ⟨t, rfl⟩ q1
  show wpAny (model X.prog X.w) X.A (subscriptTail a (.Slice (some loe) none (some ste) p2) v (.ref s4.heap.objs.size)) (EP X pins σ Q) X.xe { s4 with heap := s4.heap.push { cls := .type "slice", data := .fields #[vl, .none, .int k t] } }
  exact tail_any (ops := [v, Value.ref s4.heap.objs.size]) ht hT hg (by with_unfolding_all rfl)
theorem OwnL.filt {K : PySem.W.Frag} {Z : Pr} {H : Hp} : ∀ {ds : List D} {vs : List V}, OwnL K Z H ds 0 vs [] → OwnL K Z H (everyOther ds) 0 (everyOther vs) []
  | [], vs, h => by rw [OwnL] at h; rw [h.1]; simp only [everyOther]; rw [OwnL]; exact ⟨rfl, rfl⟩
  | [d], vs, h => by
    obtain ⟨v, rfl, o⟩ := ownL1 h
    simp only [everyOther]
    exact h
  | d :: e :: ds, vs, h => by
    rw [OwnL] at h
    obtain ⟨v, ws, f, g, rfl, e1, o, os⟩ := h
    obtain ⟨rfl, rfl⟩ := List.append_eq_nil_iff.mp e1.symm
    rw [OwnL] at os
    obtain ⟨w, xs, f, g, rfl, e1, o2, os⟩ := os
    obtain ⟨rfl, rfl⟩ := List.append_eq_nil_iff.mp e1.symm
    simp only [everyOther]
    rw [OwnL]
    exact ⟨v, everyOther xs, [], [], rfl, rfl, o, OwnL.filt os⟩
theorem OwnL.drop1 {K : PySem.W.Frag} {Z : Pr} {H : Hp} {ds : List D} {vs : List V} (h : OwnL K Z H ds 0 vs []) : OwnL K Z H (ds.drop 1) 0 (vs.drop 1) [] := by
  cases ds with
  | nil => rw [OwnL] at h; rw [h.1]; simp only [List.drop_nil]; rw [OwnL]; exact ⟨rfl, rfl⟩
  | cons d ds =>
    rw [OwnL] at h
    obtain ⟨v, ws, f, g, rfl, e1, o, os⟩ := h
    obtain ⟨rfl, rfl⟩ := List.append_eq_nil_iff.mp e1.symm
    simpa using os
theorem eb_even {p3 : Pos} {j : _} (ha : PE X a (TE1' X as XW cf sa)) : PE X (.Subscript a (.Slice none none (some (.Constant (.int 2) j p3)) p2) pos) (TE1' X as XW cf (.op .evens (.cons sa .nil))) :=
  PE.weak (pe_st0 (st_pick (f := everyOther) (fun xs => by rw [places_even, pick_even]) other_len) ha pe_int) fun σ H Q h => (op1 h).imp fun x H1 q => by
    obtain ⟨Z, W, r, fp, ds, d, l, E, al, hg, c⟩ := q
    obtain ⟨d1, rfl, r1, b1⟩ := all2_1 al
    obtain ⟨ho, rfl⟩ := opG_some hg
    replace ho : stepT everyOther [d1] = some d := ho
    cases d1 with
    | tup l =>
      cases ho
      obtain ⟨a, vs, rfl, h1, o1⟩ := bd_tup (b1 rfl)
      exact ⟨a, vs, rfl, h1.sq, fun p hn => c.tup E hn o1.filt⟩
    | _ => cases ho
theorem eb_odd {p3 p4 : Pos} {j j2 : _} (ha : PE X a (TE1' X as XW cf sa)) : PE X (.Subscript a (.Slice (some (.Constant (.int 1) j2 p4)) none (some (.Constant (.int 2) j p3)) p2) pos) (TE1' X as XW cf (.op .odds (.cons sa .nil))) :=
  PE.weak (pe_st1 (st_pick (f := fun l => everyOther (l.drop 1)) (fun xs => by rw [places_odd, pick_odd]) (fun xs => by have := other_len (xs.drop 1); rw [List.length_drop] at this; omega)) ha pe_int pe_int) fun σ H Q h => (op1 h).imp fun x H1 q => by
    obtain ⟨Z, W, r, fp, ds, d, l, E, al, hg, c⟩ := q
    obtain ⟨d1, rfl, r1, b1⟩ := all2_1 al
    obtain ⟨ho, rfl⟩ := opG_some hg
    replace ho : stepT (fun l => everyOther (l.drop 1)) [d1] = some d := ho
    cases d1 with
    | tup l =>
      cases ho
      obtain ⟨a, vs, rfl, h1, o1⟩ := bd_tup (b1 rfl)
      exact ⟨a, vs, rfl, h1.sq, fun p hn => c.tup E hn o1.drop1.filt⟩
    | _ => cases ho
end
end Bk
/-! Bk: calls of what is built in. -/
namespace Bk
open L2 PyProof.Rows PySem.Spec PySem
def isStar : Expr → Bool
  | .Starred _ _ => true
  | _ => false
theorem star_cons {e : Expr} (h : isStar e = false) (es : List Expr) (env : PySem.Env) : starEach (e :: es) env = (false, eval e env) :: starEach es env := by
  cases e <;> first | rfl | cases h
theorem star_any {env : PySem.Env} {pos : Pos} : ∀ {es : List Expr}, es.any isStar = false → (backTo pos (starEach es env)).any (·.1) = false
  | [], _ => rfl
  | e :: es, h => by
    rw [List.any_cons, Bool.or_eq_false_iff] at h
    rw [star_cons h.1]
    have := star_any (env := env) (pos := pos) h.2
    show (false || (backTo pos (starEach es env)).any (·.1)) = false
    rw [this]; rfl
theorem tas_imp {K : PySem.W.Frag} {as : List V} {XW : XWt} {f : Env → Out (List R × Env)} {σ : Sl} {H : Hp} {Q Q' : List V → Hp → Prop} (h : TAs K as XW f σ H Q) (w : ∀ vs H, Q vs H → Q' vs H) : TAs K as XW f σ H Q' := by
  obtain ⟨Z, W, r, fp, E, h2⟩ := h
  refine ⟨Z, W, r, fp, E, ?_⟩
  cases e1 : f r with
  | bad => rw [e1] at h2; exact h2
  | exc x r1 => rw [e1] at h2; exact h2
  | val y =>
    obtain ⟨rs, r1⟩ := y
    rw [e1] at h2
    exact fun vs Z1 H1 fp1 fq1 E1 R1 nd1 nw1 k1 => w _ _ (h2 vs Z1 H1 fp1 fq1 E1 R1 nd1 nw1 k1)
section
variable {X : Cx} {as : List V} {XW : XWt} {cf : CF} {e a b : Expr} {es : List Expr} {s sa sb : E} {pos p : Pos} {k : Nat} {x : Str}
theorem eb_blt {id : String} {o : Op} {r : List V → Hp → VK → Prop} (hc : CallR X (.builtin id) r) (hr : ∀ {σ vs H Q}, OpK X.K as σ (keepO o) (opG o) vs H Q → r vs H Q) (hg : Gl X x) (hm : X.mg x = none) (hv : bootBuiltins x = some (.builtin id))
    (ha : PA X (e :: es) (TAs X.K as XW (ev cf s))) (hn : x ≠ "__name__") (hdb : (x == ("__debug__" : Str)) = false) (hst : (e :: es).any isStar = false) : PE X (.Call (.Name x p) (e :: es) [] pos) (TE1' X as XW cf (.op o s)) := by
  rw [List.any_cons, Bool.or_eq_false_iff] at hst
  exact PE.weak (pe_callB hc hg hm hv ha hn hdb (star_cons hst.1 es _) (star_any hst.2)) fun σ H Q h => tas_imp (op_args h) fun vs H1 q => hr q
theorem eb_ty {T : String} {o : Op} {r : List V → Hp → VK → Prop} (hc : CallR X (.type T) r) (hr : ∀ {σ vs H Q}, OpK X.K as σ (keepO o) (opG o) vs H Q → r vs H Q) (hg : Gl X x) (hm : X.mg x = none) (hv : bootBuiltins x = some (.type T))
    (ha : PA X (e :: es) (TAs X.K as XW (ev cf s))) (hn : x ≠ "__name__") (hdb : (x == ("__debug__" : Str)) = false) (hst : (e :: es).any isStar = false) : PE X (.Call (.Name x p) (e :: es) [] pos) (TE1' X as XW cf (.op o s)) := by
  rw [List.any_cons, Bool.or_eq_false_iff] at hst
  exact PE.weak (pe_callTy hc hg hm hv ha hn hdb (star_cons hst.1 es _) (star_any hst.2)) fun σ H Q h => tas_imp (op_args h) fun vs H1 q => hr q
/-! the table -/
theorem at_len {ds : List D} {e : D} (h : lenD ds = some e) : (atomV e).isSome = true := by
  unfold lenD at h
  split at h <;> first | (cases h; rfl) | (split at h <;> first | (cases h; rfl) | cases h) | cases h
theorem at_int {ds : List D} {e : D} (h : intD ds = some e) : (atomV e).isSome = true := by
  unfold intD at h
  split at h
  · cases h; rfl
  · cases h; rfl
  · split at h
    · split at h
      · cases h; rfl
      · cases h
    · cases h
  · cases h
theorem at_str {ds : List D} {e : D} (h : strD ds = some e) : (atomV e).isSome = true := by
  unfold strD at h
  split at h <;> first | (split at h <;> first | (cases h; rfl) | cases h) | (cases h; rfl) | cases h
theorem at_abs {ds : List D} {e : D} (h : absD ds = some e) : (atomV e).isSome = true := by
  unfold absD at h
  split at h <;> first | (cases h; rfl) | cases h
theorem at_sum {ds : List D} {e : D} (h : sumD ds = some e) : (atomV e).isSome = true := by
  unfold sumD at h
  split at h
  · obtain ⟨a, rfl⟩ := at_map h; rfl
  · cases h
theorem at_bm {f : List Int → Option Int} {o : Option (List Int)} {e : D} (h : (o.bind fun l => (f l).map D.int) = some e) : (atomV e).isSome = true := by
  cases o with
  | none => cases h
  | some l => obtain ⟨a, rfl⟩ := at_map (show (f l).map D.int = some e from h); rfl
theorem at_max1 {ds : List D} {e : D} (h : max1D ds = some e) : (atomV e).isSome = true := by
  unfold max1D at h
  split at h
  · exact at_bm h
  · cases h
theorem at_min1 {ds : List D} {e : D} (h : min1D ds = some e) : (atomV e).isSome = true := by
  unfold min1D at h
  split at h
  · exact at_bm h
  · cases h
theorem at_max2 {ds : List D} {e : D} (h : max2D ds = some e) : (atomV e).isSome = true := by
  unfold max2D at h
  split at h <;> first | (cases h; rfl) | cases h
theorem at_min2 {ds : List D} {e : D} (h : min2D ds = some e) : (atomV e).isSome = true := by
  unfold min2D at h
  split at h <;> first | (cases h; rfl) | cases h
theorem at_repr {ds : List D} {e : D} (h : reprD ds = some e) : (atomV e).isSome = true := by
  unfold reprD at h
  split at h
  · split at h
    · cases h; rfl
    · cases h
  · cases h
/-- the calls of what is built in: name, arguments, op -/
def bTab : List (Str × Nat × Op) := [("len", 1, .len), ("int", 1, .int), ("str", 1, .str), ("abs", 1, .abs), ("sum", 1, .sum), ("max", 1, .max1), ("max", 2, .max2), ("min", 1, .min1), ("min", 2, .min2), ("sorted", 1, .sorted), ("repr", 1, .repr), ("list", 1, .list)]
theorem eb_tab {n : Nat} {o : Op} (hc : X.calm = true) (hgd : X.A.guards = some []) (hr : Room k X.A) (h : (x, n, o) ∈ bTab) (hg : Gl X x) (hm : X.mg x = none) (hl : (e :: es).length = n)
    (ha : PA X (e :: es) (TAs X.K as XW (ev cf s))) (hst : (e :: es).any isStar = false) : PE X (.Call (.Name x p) (e :: es) [] pos) (TE1' X as XW cf (.op o s)) := by
  simp only [bTab, List.mem_cons, Prod.mk.injEq, List.not_mem_nil, or_false] at h
  rcases h with ⟨rfl, rfl, rfl⟩ | ⟨rfl, rfl, rfl⟩ | ⟨rfl, rfl, rfl⟩ | ⟨rfl, rfl, rfl⟩ | ⟨rfl, rfl, rfl⟩ | ⟨rfl, rfl, rfl⟩ | ⟨rfl, rfl, rfl⟩ | ⟨rfl, rfl, rfl⟩ | ⟨rfl, rfl, rfl⟩ | ⟨rfl, rfl, rfl⟩ | ⟨rfl, rfl, rfl⟩ | ⟨rfl, rfl, rfl⟩
  · exact eb_blt (o := .len) cr_len (fun q => rd_atom (o := .len) q fun ds e h => at_len h) hg hm boot_len ha (by decide +kernel) (by decide +kernel) hst
  · exact eb_ty (o := .int) cr_int (fun q => rd_atom (o := .int) q fun ds e h => at_int h) hg hm boot_int ha (by decide +kernel) (by decide +kernel) hst
  · exact eb_ty (o := .str) cr_str (fun q => rd_atom (o := .str) q fun ds e h => at_str h) hg hm boot_str ha (by decide +kernel) (by decide +kernel) hst
  · exact eb_blt (o := .abs) cr_absD (fun q => rd_atom (o := .abs) q fun ds e h => at_abs h) hg hm boot_abs ha (by decide +kernel) (by decide +kernel) hst
  · exact eb_blt (o := .sum) (cr_sumD hc) (fun q => rd_atom (o := .sum) q fun ds e h => at_sum h) hg hm boot_sum ha (by decide +kernel) (by decide +kernel) hst
  · exact eb_blt (o := .max1) (cr_max1D hc hr) (fun q => rd_atom (o := .max1) q fun ds e h => at_max1 h) hg hm boot_max ha (by decide +kernel) (by decide +kernel) hst
  · exact eb_blt (o := .max2) (cr_max2D hc) (fun q => rd_atom (o := .max2) q fun ds e h => at_max2 h) hg hm boot_max ha (by decide +kernel) (by decide +kernel) hst
  · exact eb_blt (o := .min1) (cr_min1D hc hr) (fun q => rd_atom (o := .min1) q fun ds e h => at_min1 h) hg hm boot_min ha (by decide +kernel) (by decide +kernel) hst
  · exact eb_blt (o := .min2) (cr_min2D hc) (fun q => rd_atom (o := .min2) q fun ds e h => at_min2 h) hg hm boot_min ha (by decide +kernel) (by decide +kernel) hst
  · exact eb_blt (o := .sorted) cr_sortI (fun q => rd_sort (f := sortI) rfl (fun _ => rfl) q) hg hm boot_sorted ha (by decide +kernel) (by decide +kernel) hst
  · exact eb_blt (o := .repr) (cr_repr hgd hr) (fun q => rd_atom (o := .repr) q fun ds e h => at_repr h) hg hm boot_repr ha (by decide +kernel) (by decide +kernel) hst
  · refine eb_ty (o := .list) call_list_of (fun {σ vs H Q} q => ?_) hg hm boot_list ha (by decide +kernel) (by decide +kernel) hst
    match vs, q with
    | [v], q => exact rd_list q
    | [], ⟨Z, W, r, fp, ds, d, l, E, al, hg, c⟩ =>
      exfalso
      cases ds with
      | nil => cases (opG_some hg).1
      | cons d ds => obtain ⟨z, zs, e, _⟩ := al; cases e
    | _ :: _ :: _, ⟨Z, W, r, fp, ds, d, l, E, al, hg, c⟩ =>
      exfalso
      match ds, al with
      | [d], ⟨z, zs, e, _, e2⟩ => cases e; cases e2
      | [], e => cases e
      | d1 :: d2 :: ds, _ =>
        have h : listD (d1 :: d2 :: ds) = some d := (opG_some hg).1
        cases d1 <;> simp [listD] at h
theorem eb_tuple (hg : Gl X "tuple") (hm : X.mg "tuple" = none) (ha : PE X a (TE1' X as XW cf sa)) (hst : isStar a = false) : PE X (.Call (.Name "tuple" p) [a] [] pos) (TE1' X as XW cf (.op .tuple (.cons sa .nil))) :=
  PE.weak (pe_tupleOf hg hm ha (star_cons hst [] _)) fun σ H Q h => (op1 h).imp fun x H1 q => by
    obtain ⟨p, ys, e, h⟩ := rd_tuple q
    cases e
    rcases h with ⟨h1, h2⟩ | ⟨h1, h2⟩
    · exact .inl ⟨p, ys, rfl, h1, h2⟩
    · exact .inr ⟨p, ys, rfl, h1, h2⟩
/-- isinstance(a, T) -/
def isaOf (T : Str) : Option Nat := if T = "int" then some 0 else if T = "bool" then some 1 else if T = "str" then some 2 else if T = "tuple" then some 3 else if T = "list" then some 4 else none
theorem eb_isa {T : Str} {n : Nat} {p2 : Pos} (hT : isaOf T = some n) (hg : Gl X "isinstance") (hm : X.mg "isinstance" = none) (hg2 : Gl X T) (hm2 : X.mg T = none) (ha : PE X a (TE1' X as XW cf sa)) (hst : isStar a = false) :
    PE X (.Call (.Name "isinstance" p) [a, .Name T p2] [] pos) (TE1' X as XW cf (.op (.isT n) (.cons sa .nil))) := by
  have hty : ∃ t : PE X (.Name T p2) (tC (.ty (tyName n))), n < 5 := by
    unfold isaOf at hT
    split at hT
    · cases hT; subst_vars; exact ⟨pe_bltn hg2 hm2 boot_int rfl (by decide +kernel) (by decide +kernel), by decide⟩
    · split at hT
      · cases hT; subst_vars; exact ⟨pe_bltn hg2 hm2 boot_bool rfl (by decide +kernel) (by decide +kernel), by decide⟩
      · split at hT
        · cases hT; subst_vars; exact ⟨pe_bltn hg2 hm2 boot_str rfl (by decide +kernel) (by decide +kernel), by decide⟩
        · split at hT
          · cases hT; subst_vars; exact ⟨pe_bltn hg2 hm2 boot_tuple rfl (by decide +kernel) (by decide +kernel), by decide⟩
          · split at hT
            · cases hT; subst_vars; exact ⟨pe_bltn hg2 hm2 boot_list rfl (by decide +kernel) (by decide +kernel), by decide⟩
            · cases hT
  obtain ⟨ht, hn⟩ := hty
  refine PE.weak (pe_callB (cr_isa hn) hg hm boot_isinstance (pa_cons ha (pa_cons ht pa_nil (star_cons rfl [] _)) (star_cons hst _ _)) (by decide +kernel) (by decide +kernel) (star_cons hst _ _) rfl) fun σ H Q h => (op1 h).imp fun x H1 q => rd_isa q
theorem eb_sortR {p2 kp : Pos} {j : Nat} (hg : Gl X "sorted") (hm : X.mg "sorted" = none) (ha : PE X a (TE1' X as XW cf sa)) (hst : isStar a = false) :
    PE X (.Call (.Name "sorted" p) [a] [⟨some "reverse", .Constant (.bool true) j p2, kp⟩] pos) (TE1' X as XW cf (.op .sortedR (.cons sa .nil))) := by
  refine PE.weak (pe_callBK cr_sortRI hg hm boot_sorted (pa_cons ha pa_nil (star_cons hst _ _)) (pk_cons pe_bl pk_nil) (by decide +kernel) (by decide +kernel) (by rw [star_cons hst]; rfl) (by rw [star_cons hst]; rfl) rfl rfl rfl) fun σ H Q h => (op1 h).imp fun x H1 q => ?_
  exact ⟨rfl, rd_sort (o := .sortedR) rfl (fun _ => rfl) q⟩
/-! list(range(..)), tuple(range(..)) -/
theorem rg_map (a b : Int) : (rangeL a b).map V.int = rgV a b := by
  unfold rangeL rgV
  rw [List.map_map]
  rfl
theorem rgD_ok {ds : List D} {l : List Int} (h : rgD ds = some l) : (∃ j, ds = [.int j] ∧ l = rangeL 0 j ∧ RgOk 0 j) ∨ ∃ i j, ds = [.int i, .int j] ∧ l = rangeL i j ∧ RgOk i j := by
  unfold rgD at h
  split at h
  · split at h
    · rename_i j hc
      cases h
      rw [Bool.and_eq_true] at hc
      obtain ⟨b1, b2⟩ := okR_of hc.1
      have b3 : j.toNat ≤ 16777216 := of_decide_eq_true hc.2
      exact .inl ⟨j, rfl, rfl, by omega, by omega, b1, b2, by omega⟩
    · cases h
  · split at h
    · rename_i i j hc
      cases h
      rw [Bool.and_eq_true, Bool.and_eq_true] at hc
      obtain ⟨b1, b2⟩ := okR_of hc.1.1
      obtain ⟨b3, b4⟩ := okR_of hc.1.2
      have b5 : (j - i).toNat ≤ 16777216 := of_decide_eq_true hc.2
      exact .inr ⟨i, j, rfl, rfl, b1, b2, b3, b4, by omega⟩
    · cases h
  · cases h
theorem own_rg {K : PySem.W.Frag} {Z : Pr} {H : Hp} (ns : List Int) : OwnL K Z H (ns.map D.int) 0 (ns.map V.int) [] := own_ints ns
theorem eb_lrg1 {p2 pos2 : Pos} (hc : X.calm = true) (hg : Gl X "list") (hm : X.mg "list" = none) (hg2 : Gl X "range") (hm2 : X.mg "range" = none) (ha : PE X a (TE1' X as XW cf sa)) (hst : isStar a = false) :
    PE X (.Call (.Name "list" p) [.Call (.Name "range" p2) [a] [] pos2] [] pos) (TE1' X as XW cf (.op .lrg (.cons sa .nil))) :=
  PE.weak (pe_listRg hc hg hm (prg_1 hg2 hm2 ha (star_cons hst [] _))) fun σ H Q h => (op1 h).imp fun x H1 q => by
    obtain ⟨Z, W, r, fp, ds, d, l, E, al, hgo, c⟩ := q
    obtain ⟨d1, rfl, r1, b1⟩ := all2_1 al
    obtain ⟨ho, rfl⟩ := opG_some hgo
    replace ho : (rgD [d1]).map (fun l => D.lst (l.map .int)) = some d := ho
    cases e : rgD [d1] with
    | none => rw [e] at ho; cases ho
    | some L =>
      rw [e] at ho
      cases ho
      rcases rgD_ok e with ⟨j, ed, rfl, ok⟩ | ⟨i, j, ed, _⟩
      · cases ed
        exact ⟨j, rv_int r1, ok, fun q hn => by rw [← rg_map]; exact c.lst E hn (own_rg _)⟩
      · cases ed
theorem eb_trg1 {p2 pos2 : Pos} (hc : X.calm = true) (hg : Gl X "tuple") (hm : X.mg "tuple" = none) (hg2 : Gl X "range") (hm2 : X.mg "range" = none) (ha : PE X a (TE1' X as XW cf sa)) (hst : isStar a = false) :
    PE X (.Call (.Name "tuple" p) [.Call (.Name "range" p2) [a] [] pos2] [] pos) (TE1' X as XW cf (.op .trg (.cons sa .nil))) :=
  PE.weak (pe_tupRg hc hg hm (prg_1 hg2 hm2 ha (star_cons hst [] _))) fun σ H Q h => (op1 h).imp fun x H1 q => by
    obtain ⟨Z, W, r, fp, ds, d, l, E, al, hgo, c⟩ := q
    obtain ⟨d1, rfl, r1, b1⟩ := all2_1 al
    obtain ⟨ho, rfl⟩ := opG_some hgo
    replace ho : (rgD [d1]).map (fun l => D.tup (l.map .int)) = some d := ho
    cases e : rgD [d1] with
    | none => rw [e] at ho; cases ho
    | some L =>
      rw [e] at ho
      cases ho
      rcases rgD_ok e with ⟨j, ed, rfl, ok⟩ | ⟨i, j, ed, _⟩
      · cases ed
        exact ⟨j, rv_int r1, ok, fun q hn => by rw [← rg_map]; exact c.tup E hn (own_rg _)⟩
      · cases ed
theorem eb_lrg2 {p2 pos2 : Pos} (hc : X.calm = true) (hg : Gl X "list") (hm : X.mg "list" = none) (hg2 : Gl X "range") (hm2 : X.mg "range" = none) (ha : PE X a (TE1' X as XW cf sa)) (hb : PE X b (TE1' X as XW cf sb)) (hst : isStar a = false) (hst2 : isStar b = false) :
    PE X (.Call (.Name "list" p) [.Call (.Name "range" p2) [a, b] [] pos2] [] pos) (TE1' X as XW cf (.op .lrg (.cons sa (.cons sb .nil)))) :=
  PE.weak (pe_listRg hc hg hm (prg_2 hg2 hm2 ha hb (star_cons hst _ _) (star_cons hst2 [] _) (by rw [star_cons hst2]; rfl))) fun σ H Q h => (op2 h).imp fun x H1 q => q.imp fun y H2 q => by
    obtain ⟨Z, W, r, fp, ds, d, l, E, al, hgo, c⟩ := q
    obtain ⟨d1, d2, rfl, ⟨r1, b1⟩, r2, b2⟩ := all2_2 al
    obtain ⟨ho, rfl⟩ := opG_some hgo
    replace ho : (rgD [d1, d2]).map (fun l => D.lst (l.map .int)) = some d := ho
    cases e : rgD [d1, d2] with
    | none => rw [e] at ho; cases ho
    | some L =>
      rw [e] at ho
      cases ho
      rcases rgD_ok e with ⟨j, ed, _⟩ | ⟨i, j, ed, rfl, ok⟩
      · cases ed
      · cases ed
        exact ⟨i, j, rv_int r1, rv_int r2, ok, fun q hn => by rw [← rg_map]; exact c.lst E hn (own_rg _)⟩
theorem eb_trg2 {p2 pos2 : Pos} (hc : X.calm = true) (hg : Gl X "tuple") (hm : X.mg "tuple" = none) (hg2 : Gl X "range") (hm2 : X.mg "range" = none) (ha : PE X a (TE1' X as XW cf sa)) (hb : PE X b (TE1' X as XW cf sb)) (hst : isStar a = false) (hst2 : isStar b = false) :
    PE X (.Call (.Name "tuple" p) [.Call (.Name "range" p2) [a, b] [] pos2] [] pos) (TE1' X as XW cf (.op .trg (.cons sa (.cons sb .nil)))) :=
  PE.weak (pe_tupRg hc hg hm (prg_2 hg2 hm2 ha hb (star_cons hst _ _) (star_cons hst2 [] _) (by rw [star_cons hst2]; rfl))) fun σ H Q h => (op2 h).imp fun x H1 q => q.imp fun y H2 q => by
    obtain ⟨Z, W, r, fp, ds, d, l, E, al, hgo, c⟩ := q
    obtain ⟨d1, d2, rfl, ⟨r1, b1⟩, r2, b2⟩ := all2_2 al
    obtain ⟨ho, rfl⟩ := opG_some hgo
    replace ho : (rgD [d1, d2]).map (fun l => D.tup (l.map .int)) = some d := ho
    cases e : rgD [d1, d2] with
    | none => rw [e] at ho; cases ho
    | some L =>
      rw [e] at ho
      cases ho
      rcases rgD_ok e with ⟨j, ed, _⟩ | ⟨i, j, ed, rfl, ok⟩
      · cases ed
      · cases ed
        exact ⟨i, j, rv_int r1, rv_int r2, ok, fun q hn => by rw [← rg_map]; exact c.tup E hn (own_rg _)⟩
end
end Bk
/-! Bk: methods of texts and lists. -/
namespace Bk
open L2 PyProof.Rows PySem.Spec PySem
/-- what does not call -/
def simp0 : E → Bool
  | .lit _ => true | .var _ => true | .nil => true
  | .cons a t => simp0 a && simp0 t
  | .op _ a => simp0 a
  | .mkt a => simp0 a
  | _ => false
def sameD (r r' : Env) : Prop := ∀ i, (getE r' i).map (·.d) = (getE r i).map (·.d)
theorem sameD.refl (r : Env) : sameD r r := fun _ => rfl
theorem sameD.trans {a b c : Env} (h : sameD a b) (k : sameD b c) : sameD a c := fun i => (k i).trans (h i)
theorem sameD_low {r : Env} {i : Nat} {e : Ent} (m : Nat) (g : getE r i = some e) : sameD r (lowE m r i e) := by
  intro j
  unfold lowE
  split
  · rfl
  · rw [getE_set (getE_lt g)]
    split
    · rename_i h; subst h; rw [g]; rfl
    · rfl
theorem sameD_bor {k : Bool} : ∀ {rs : List R} {r : Env} {ds : List D} {r' : Env}, bor k rs r = some (ds, r') → sameD r r'
  | [], r, ds, r', h => by
    simp only [bor, Option.some.injEq, Prod.mk.injEq] at h
    rw [h.2]; exact sameD.refl _
  | .vr i :: rs, r, ds, r', h => by
    simp only [bor] at h
    split at h
    · cases h
    · rename_i e g
      split at h
      · cases h
      · rename_i ds1 r1 h2
        simp only [Option.some.injEq, Prod.mk.injEq] at h
        obtain ⟨_, rfl⟩ := h
        have := sameD_bor h2
        split at this
        · exact this
        · exact (sameD_low 1 g).trans this
  | .vl d l :: rs, r, ds, r', h => by
    simp only [bor] at h
    split at h
    · cases h
    · rename_i ds1 r1 h2
      simp only [Option.some.injEq, Prod.mk.injEq] at h
      obtain ⟨_, rfl⟩ := h
      exact sameD_bor h2
theorem sameD_tak : ∀ {rs : List R} {r : Env} {ds : List D} {m : Nat} {r' : Env}, tak rs r = some (ds, m, r') → sameD r r'
  | [], r, ds, m, r', h => by
    simp only [tak, Option.some.injEq, Prod.mk.injEq] at h
    rw [h.2.2]; exact sameD.refl _
  | .vr i :: rs, r, ds, m, r', h => by
    simp only [tak] at h
    split at h
    · cases h
    · rename_i e g
      split at h
      · cases h
      · rename_i ds1 m1 r1 h2
        simp only [Option.some.injEq, Prod.mk.injEq] at h
        obtain ⟨_, _, rfl⟩ := h
        exact (sameD_low 0 g).trans (sameD_tak h2)
  | .vl d l :: rs, r, ds, m, r', h => by
    simp only [tak] at h
    split at h
    · cases h
    · rename_i ds1 m1 r1 h2
      simp only [Option.some.injEq, Prod.mk.injEq] at h
      obtain ⟨_, _, rfl⟩ := h
      exact sameD_tak h2
theorem simp0_ev {cf : CF} : ∀ {e : E}, simp0 e = true → ∀ r, (∀ x q, ev cf e r ≠ .exc x q) ∧ ∀ rs r', ev cf e r = .val (rs, r') → sameD r r'
  | .lit d, _, r => by
    simp only [ev]
    exact ⟨fun _ _ h => (nomatch h), fun rs r' h => by cases h; exact sameD.refl _⟩
  | .var i, _, r => by
    simp only [ev]
    split
    · exact ⟨fun _ _ h => (nomatch h), fun rs r' h => by cases h; exact sameD.refl _⟩
    · exact ⟨fun _ _ h => (nomatch h), fun rs r' h => (nomatch h)⟩
  | .nil, _, r => by
    simp only [ev]
    exact ⟨fun _ _ h => (nomatch h), fun rs r' h => by cases h; exact sameD.refl _⟩
  | .cons a t, hs, r => by
    simp only [simp0, Bool.and_eq_true] at hs
    simp only [ev]
    obtain ⟨i1, i2⟩ := simp0_ev (cf := cf) hs.1 r
    cases e1 : ev cf a r with
    | bad => exact ⟨fun _ _ h => (nomatch h), fun rs r' h => (nomatch h)⟩
    | exc x r1 => exact absurd e1 (i1 x r1)
    | val y =>
      obtain ⟨rs1, r1⟩ := y
      simp only [Out.bind_val]
      split
      · obtain ⟨j1, j2⟩ := simp0_ev (cf := cf) hs.2 r1
        cases e2 : ev cf t r1 with
        | bad => exact ⟨fun _ _ h => (nomatch h), fun rs r' h => (nomatch h)⟩
        | exc x r2 => exact absurd e2 (j1 x r2)
        | val y =>
          obtain ⟨rs2, r2⟩ := y
          refine ⟨fun _ _ h => (nomatch h), fun rs r' h => ?_⟩
          simp only [Out.bind_val, Out.val.injEq, Prod.mk.injEq] at h
          obtain ⟨_, rfl⟩ := h
          exact (i2 _ _ e1).trans (j2 _ _ e2)
      · exact ⟨fun _ _ h => (nomatch h), fun rs r' h => (nomatch h)⟩
  | .op o a, hs, r => by
    simp only [simp0] at hs
    simp only [ev]
    obtain ⟨i1, i2⟩ := simp0_ev (cf := cf) hs r
    cases e1 : ev cf a r with
    | bad => exact ⟨fun _ _ h => (nomatch h), fun rs r' h => (nomatch h)⟩
    | exc x r1 => exact absurd e1 (i1 x r1)
    | val y =>
      obtain ⟨rs1, r1⟩ := y
      simp only [Out.bind_val]
      cases e2 : bor (keepO o) rs1 r1 with
      | none => exact ⟨fun _ _ h => (nomatch h), fun rs r' h => (nomatch h)⟩
      | some y =>
        obtain ⟨ds, r2⟩ := y
        simp only [Out.of_some, Out.bind_val]
        cases e3 : opD o ds with
        | none => exact ⟨fun _ _ h => (nomatch h), fun rs r' h => (nomatch h)⟩
        | some d =>
          refine ⟨fun _ _ h => (nomatch h), fun rs r' h => ?_⟩
          simp only [Out.of_some, Out.bind_val, Out.val.injEq, Prod.mk.injEq] at h
          obtain ⟨_, rfl⟩ := h
          exact (i2 _ _ e1).trans (sameD_bor e2)
  | .mkt a, hs, r => by
    simp only [simp0] at hs
    simp only [ev]
    obtain ⟨i1, i2⟩ := simp0_ev (cf := cf) hs r
    cases e1 : ev cf a r with
    | bad => exact ⟨fun _ _ h => (nomatch h), fun rs r' h => (nomatch h)⟩
    | exc x r1 => exact absurd e1 (i1 x r1)
    | val y =>
      obtain ⟨rs1, r1⟩ := y
      simp only [Out.bind_val]
      cases e2 : tak rs1 r1 with
      | none => exact ⟨fun _ _ h => (nomatch h), fun rs r' h => (nomatch h)⟩
      | some y =>
        obtain ⟨ds, m, r2⟩ := y
        simp only [Out.of_some, Out.bind_val]
        split
        · refine ⟨fun _ _ h => (nomatch h), fun rs r' h => ?_⟩
          simp only [Out.val.injEq, Prod.mk.injEq] at h
          obtain ⟨_, rfl⟩ := h
          exact (i2 _ _ e1).trans (sameD_tak e2)
        · exact ⟨fun _ _ h => (nomatch h), fun rs r' h => (nomatch h)⟩
def kdD : D → Nat
  | .str _ => 1 | .lst _ => 2 | .tup _ => 3 | .scr _ => 2 | _ => 0
def opC (k : Nat) (o : Op) : List D → Option (D × Nat)
  | d :: ds => if kdD d = k then opG o (d :: ds) else none
  | [] => none
section
variable {K : PySem.W.Frag} {as : List V} {XW : XWt} {cf : CF} {σ : Sl} {H : Hp}
theorem op_recv {o : Op} {a b : E} {Q : VK} (hb : simp0 b = true) (hk : keepO o = true) (h : TE1 K as XW (ev cf (.op o (.cons a b))) σ H Q) :
    TE1 K as XW (ev cf a) σ H fun x H1 => ∃ d1, Rv K H1 d1 x ∧ (∃ ds e, opD o (d1 :: ds) = some e) ∧ TAs K as XW (ev cf b) σ H1 fun ys H2 => OpK K as σ true (opC (kdD d1) o) (x :: ys) H2 Q := by
  obtain ⟨Z, W, r, fp, E, h⟩ := h
  refine ⟨Z, W, r, fp, E, ?_⟩
  simp only [ev] at h
  cases e1 : ev cf a r with
  | bad => rw [e1] at h; exact h
  | exc x r1 => rw [e1] at h; exact h
  | val y =>
    obtain ⟨rs, r1⟩ := y
    rw [e1] at h
    simp only [Out.bind_val] at h
    match rs, h with
    | [q], h =>
      simp only at h
      intro vs Z1 H1 fp1 fq1 E1 R1 nd1 nw1 k1
      obtain ⟨v, rfl⟩ := sing (v := .non) R1
      obtain ⟨j1, j2⟩ := simp0_ev (cf := cf) hb r1
      cases e2 : ev cf b r1 with
      | bad => rw [e2] at h; exact h.elim
      | exc x r2 => exact absurd e2 (j1 x r2)
      | val y =>
        obtain ⟨rs2, r2⟩ := y
        have sd := j2 _ _ e2
        rw [e2] at h
        simp only [Out.bind_val] at h
        rw [hk] at h
        cases e3 : bor true (q :: rs2) r2 with
        | none => rw [e3] at h; exact h.elim
        | some y =>
          obtain ⟨ds, r3⟩ := y
          rw [e3] at h
          simp only [Out.of_some, Out.bind_val] at h
          cases e4 : opD o ds with
          | none => rw [e4] at h; exact h.elim
          | some d =>
            rw [e4] at h
            simp only [Out.of_some, Out.bind_val] at h
            have hq : ∃ d1 ds1, ds = d1 :: ds1 ∧ bor true [q] r1 = some ([d1], r1) := by
              cases q with
              | vl d l =>
                simp only [bor] at e3
                split at e3
                · cases e3
                · cases e3; exact ⟨_, _, rfl, rfl⟩
              | vr i =>
                simp only [bor] at e3
                split at e3
                · cases e3
                · rename_i en g
                  split at e3
                  · cases e3
                  · rename_i ds1 r4 e5
                    simp only [Option.some.injEq, Prod.mk.injEq] at e3
                    have := sd i
                    rw [g] at this
                    cases g2 : getE r1 i with
                    | none => rw [g2] at this; cases this
                    | some en2 =>
                      rw [g2] at this
                      simp only [Option.map_some, Option.some.injEq] at this
                      refine ⟨en2.d, ds1, by rw [← e3.1, this], ?_⟩
                      simp only [bor, g2, if_true]
            obtain ⟨d1, ds1, rfl, hq⟩ := hq
            obtain ⟨Z2, fp2, E2, hz, al⟩ := bor_ok (W := W) E1 R1 nd1 nw1 hq
            obtain ⟨_, _, ev1, ⟨rv1, _⟩, _⟩ := al
            cases ev1
            refine ⟨v, rfl, d1, rv1, ⟨ds1, d, e4⟩, Z1, orL W fq1, r1, fp1, E1, ?_⟩
            rw [e2]
            intro vs Z3 H3 fp3 fq3 E3 R3 nd3 nw3 k3
            have RR := rep_cons (R1.keep k3 fun a m => .inr m) R3
            have E4 : EnvOk K as Z3 (orL W (fq1 ++ fq3)) H3 r2 σ fp3 := E3.less fun a w => by
              rcases w with w | w
              · exact .inl (.inl w)
              · rcases List.mem_append.mp w with w | w
                · exact .inl (.inr w)
                · exact .inr w
            have ndd : (fq1 ++ fq3).Nodup := List.nodup_append.mpr ⟨nd1, nd3, fun a m1 b m2 e => nw3 b m2 (.inr (e ▸ m1))⟩
            have nww : ∀ a ∈ fq1 ++ fq3, ¬ W a := fun a m w => by
              rcases List.mem_append.mp m with m | m
              · exact nw1 a m w
              · exact nw3 a m (.inl w)
            obtain ⟨Z5, fp5, E5, hz5, al5⟩ := bor_ok E4 RR ndd nww e3
            refine ⟨Z5, W, r3, fp5, d1 :: ds1, d, lvOf o d, E5, al5.imp fun _ _ q => ⟨q.1, fun h => nomatch h⟩, by simp [opC, opG, e4], ?_⟩
            have hc := After.cont h
            intro v' Z' H' fp' fq E' o' nd nw k
            exact hc v' Z' H' fp' fq E' o' nd nw (k1.trans ((k3.less fun a w => .inl w).trans ((keepZ hz5).trans k)))
    | [], h => exact h.elim
    | _ :: _ :: _, h => exact h.elim
end
/-! ### the methods -/
def mOf (m : Str) : Option Op := if m = "join" then some .join else if m = "index" then some .index else if m = "count" then some .count else if m = "startswith" then some .startswith else if m = "endswith" then some .endswith else if m = "split" then some .split else none
theorem strs_rv {K : PySem.W.Frag} {H : Hp} : ∀ {l : List D} {ys : List Str} {vs : List V}, strsOf l = some ys → RvL K H l vs → vs = ys.map V.str
  | [], ys, vs, h, r => by
    simp only [strsOf, Option.some.injEq] at h
    subst h
    rw [RvL] at r
    subst r; rfl
  | .str a :: l, ys, vs, h, r => by
    simp only [strsOf, Option.map_eq_some_iff] at h
    obtain ⟨zs, h, rfl⟩ := h
    rw [RvL] at r
    obtain ⟨v, ws, rfl, r1, r2⟩ := r
    rw [rv_str r1, strs_rv h r2]; rfl
  | .non :: l, ys, vs, h, r => by simp [strsOf] at h
  | .bl _ :: l, ys, vs, h, r => by simp [strsOf] at h
  | .int _ :: l, ys, vs, h, r => by simp [strsOf] at h
  | .tup _ :: l, ys, vs, h, r => by simp [strsOf] at h
  | .lst _ :: l, ys, vs, h, r => by simp [strsOf] at h
  | .dct _ _ :: l, ys, vs, h, r => by simp [strsOf] at h
  | .set _ :: l, ys, vs, h, r => by simp [strsOf] at h
  | .ins _ _ :: l, ys, vs, h, r => by simp [strsOf] at h
  | .scr _ :: l, ys, vs, h, r => by simp [strsOf] at h
section
variable {X : Cx} {as : List V} {XW : XWt} {cf : CF} {σ : Sl} {H : Hp} {Q : VK}
theorem mweak {id : String} {r r' : V → List V → Hp → VK → Prop} (h : MtR X id r) (w : ∀ x xs H Q, r' x xs H Q → r x xs H Q) : MtR X id r' :=
  fun pins s σ H x xs v us Q I rx rs q => h pins s σ H x xs v us Q I rx rs (w x xs H Q q)
/-- the receiver's kind is known -/
def rKd (X : Cx) (as : List V) (k : Nat) (o : Op) : V → List V → Hp → VK → Prop := fun x xs H Q => ∃ σ, OpK X.K as σ true (opC k o) (x :: xs) H Q
theorem rKd_of {k : Nat} {o : Op} {x : V} {xs : List V} (h : rKd X as k o x xs H Q) : ∃ σ Z W r fp d1 ds d, EnvOk X.K as Z W H r σ fp ∧ kdD d1 = k ∧ Rv X.K H d1 x ∧ All2 (fun d v => Rv X.K H d v) ds xs ∧ opD o (d1 :: ds) = some d ∧ Cont X.K as Z W H r σ d (lvOf o d) Q := by
  obtain ⟨σ, Z, W, r, fp, ds, d, l, E, al, hg, c⟩ := h
  match ds, hg with
  | d1 :: ds, hg =>
    replace hg : (if kdD d1 = k then opG o (d1 :: ds) else none) = some (d, l) := hg
    split at hg
    · rename_i hk
      obtain ⟨ho, rfl⟩ := opG_some hg
      obtain ⟨_, _, e, ⟨r1, _⟩, al⟩ := al
      cases e
      exact ⟨σ, Z, W, r, fp, d1, ds, d, E, hk, r1, al.imp fun _ _ q => q.1, ho, c⟩
    · cases hg
  | [], hg => cases hg
theorem all2_1' {α β : Type} {P : α → β → Prop} {d : α} {xs : List β} (h : All2 P [d] xs) : ∃ x, xs = [x] ∧ P d x := by
  obtain ⟨z, zs, e, p, e2⟩ := h
  cases e2
  exact ⟨z, e, p⟩
theorem mr_join : MtR X "str.join" (rKd X as 1 .join) := mweak mt_join fun x xs H Q h => by
  obtain ⟨σ, Z, W, r, fp, d1, ds, d, E, hk, r1, al, ho, c⟩ := rKd_of h
  replace ho : joinD (d1 :: ds) = some d := ho
  unfold joinD at ho
  have fin : ∀ {a : Str} {l : List D} {p : Addr} {vs : List V}, joinL a l = some d → RvL X.K H l vs → (SqL X.K H p vs ∨ SqT X.K H p vs) → x = .str a → xs = [.ref p] → 
      ∃ a p, ∃ ys : List Str, x = .str a ∧ xs = [.ref p] ∧ (SqL X.K H p (ys.map V.str) ∨ SqT X.K H p (ys.map V.str)) ∧ (ys.map (·.length)).sum + ys.length * a.length ≤ 16777216 ∧ Q (.str (Txt.join a ys)) H := by
    intro a l p vs hj hr hs e1 e2
    unfold joinL at hj
    cases e : strsOf l with
    | none => rw [e] at hj; cases hj
    | some ys =>
      rw [e] at hj
      simp only [Option.bind_some] at hj
      split at hj
      · rename_i hz
        cases hj
        have := strs_rv e hr
        subst this
        exact ⟨a, p, ys, e1, e2, hs, of_decide_eq_true hz, c.str E⟩
      · cases hj
  split at ho
  · rename_i a l e
    cases e
    obtain ⟨y, rfl, r2⟩ := all2_1' al
    rw [Rv] at r2
    obtain ⟨p, vs, rfl, h1, h2⟩ := r2
    exact fin ho h2 (.inl (SqL.of h1)) (rv_str r1) rfl
  · rename_i a l e
    cases e
    obtain ⟨y, rfl, r2⟩ := all2_1' al
    rw [Rv] at r2
    obtain ⟨p, vs, rfl, h1, h2⟩ := r2
    exact fin ho h2 (.inr h1) (rv_str r1) rfl
  · cases ho
theorem mr_sindex : MtR X "str.index" (rKd X as 1 .index) := mweak mt_sindex fun x xs H Q h => by
  obtain ⟨σ, Z, W, r, fp, d1, ds, d, E, hk, r1, al, ho, c⟩ := rKd_of h
  replace ho : indexD (d1 :: ds) = some d := ho
  unfold indexD at ho
  split at ho
  · rename_i a b e
    cases e
    obtain ⟨y, rfl, r2⟩ := all2_1' al
    split at ho
    · rename_i i rest hi
      cases ho
      exact ⟨a, b, i, rest, rv_str r1, by rw [rv_str r2], hi, c.int E⟩
    · cases ho
  · rename_i l z e
    cases e
    cases hk
  · cases ho
theorem mr_starts : MtR X "str.startswith" (rKd X as 1 .startswith) := mweak mt_startswith fun x xs H Q h => by
  obtain ⟨σ, Z, W, r, fp, d1, ds, d, E, hk, r1, al, ho, c⟩ := rKd_of h
  replace ho : startsD (d1 :: ds) = some d := ho
  unfold startsD at ho
  split at ho
  · rename_i a b e
    cases e; cases ho
    obtain ⟨y, rfl, r2⟩ := all2_1' al
    exact ⟨a, b, rv_str r1, by rw [rv_str r2], c.bl E⟩
  · cases ho
theorem mr_ends : MtR X "str.endswith" (rKd X as 1 .endswith) := mweak mt_endswith fun x xs H Q h => by
  obtain ⟨σ, Z, W, r, fp, d1, ds, d, E, hk, r1, al, ho, c⟩ := rKd_of h
  replace ho : endsD (d1 :: ds) = some d := ho
  unfold endsD at ho
  split at ho
  · rename_i a b e
    cases e; cases ho
    obtain ⟨y, rfl, r2⟩ := all2_1' al
    exact ⟨a, b, rv_str r1, by rw [rv_str r2], c.bl E⟩
  · cases ho
theorem own_strs {K : PySem.W.Frag} {Z : Pr} {H : Hp} : ∀ ys : List Str, OwnL K Z H (ys.map D.str) 0 (ys.map V.str) []
  | [] => by rw [List.map_nil, List.map_nil, OwnL]; exact ⟨rfl, rfl⟩
  | y :: ys => by
    rw [List.map_cons, List.map_cons, OwnL]
    exact ⟨_, _, [], [], rfl, rfl, own_str, own_strs ys⟩
theorem mr_split : MtR X "str.split" (rKd X as 1 .split) := mweak mt_split fun x xs H Q h => by
  obtain ⟨σ, Z, W, r, fp, d1, ds, d, E, hk, r1, al, ho, c⟩ := rKd_of h
  replace ho : splitD (d1 :: ds) = some d := ho
  unfold splitD at ho
  split at ho
  · rename_i a b e
    cases e
    obtain ⟨y, rfl, r2⟩ := all2_1' al
    split at ho
    · rename_i hz
      cases ho
      simp only [Bool.and_eq_true, decide_eq_true_eq] at hz
      exact ⟨a, b, rv_str r1, by rw [rv_str r2], hz.1, by rw [sizeLine_eq]; exact hz.2, fun p hn => c.lst E hn (own_strs _)⟩
    · cases ho
  · cases ho
theorem ints_rv {K : PySem.W.Frag} {H : Hp} : ∀ {l : List D} {ys : List Int} {vs : List V}, intsOf l = some ys → RvL K H l vs → vs = ys.map V.int
  | [], ys, vs, h, r => by
    simp only [intsOf, Option.some.injEq] at h
    subst h
    rw [RvL] at r
    subst r; rfl
  | .int a :: l, ys, vs, h, r => by
    simp only [intsOf, Option.map_eq_some_iff] at h
    obtain ⟨zs, h, rfl⟩ := h
    rw [RvL] at r
    obtain ⟨v, ws, rfl, r1, r2⟩ := r
    rw [rv_int r1, ints_rv h r2]; rfl
  | .non :: l, ys, vs, h, r => by simp [intsOf] at h
  | .bl _ :: l, ys, vs, h, r => by simp [intsOf] at h
  | .str _ :: l, ys, vs, h, r => by simp [intsOf] at h
  | .tup _ :: l, ys, vs, h, r => by simp [intsOf] at h
  | .lst _ :: l, ys, vs, h, r => by simp [intsOf] at h
  | .dct _ _ :: l, ys, vs, h, r => by simp [intsOf] at h
  | .set _ :: l, ys, vs, h, r => by simp [intsOf] at h
  | .ins _ _ :: l, ys, vs, h, r => by simp [intsOf] at h
  | .scr _ :: l, ys, vs, h, r => by simp [intsOf] at h
theorem mr_count : MtR X "list.count" (rKd X as 2 .count) := mweak mt_lcount fun x xs H Q h => by
  obtain ⟨σ, Z, W, r, fp, d1, ds, d, E, hk, r1, al, ho, c⟩ := rKd_of h
  replace ho : countD (d1 :: ds) = some d := ho
  unfold countD at ho
  split at ho
  · rename_i l k e
    cases e
    obtain ⟨y, rfl, r2⟩ := all2_1' al
    cases e : intsOf l with
    | none => rw [e] at ho; cases ho
    | some ns =>
      rw [e] at ho
      cases ho
      rw [Rv] at r1
      obtain ⟨p, vs, rfl, h1, h2⟩ := r1
      have := ints_rv e h2
      subst this
      exact ⟨p, ns, k, rfl, by rw [rv_int r2], SqL.of h1, c.int E⟩
  · cases ho
theorem toPys_get : ∀ (l : List D) (j : Nat), (toPys l)[j]? = (l[j]?).map toPy
  | [], j => by simp [toPys]
  | d :: l, 0 => by simp [toPys]
  | d :: l, j + 1 => by simp [toPys, toPys_get l j]
theorem mr_lindex {k : Nat} (hr : Room k X.A) : MtR X "list.index" (rKd X as 2 .index) := by
  intro pins s σ' H x xs v us Q I rx rxs h
  obtain ⟨σ, Z, W, r, fp, d1, ds, d, E, hk, r1, al, ho, c⟩ := rKd_of h
  replace ho : indexD (d1 :: ds) = some d := ho
  unfold indexD at ho
  split at ho
  · rename_i a b e
    cases e; cases hk
  · rename_i l z e
    cases e
    obtain ⟨y, rfl, r2⟩ := all2_1' al
    split at ho
    · rename_i hc
      simp only [Bool.and_eq_true] at hc
      cases e : l.findIdx? (fun y => eqv y z) with
      | none => rw [e] at ho; cases ho
      | some j =>
        rw [e] at ho
        cases ho
        obtain ⟨uy, rfl, ry⟩ := vals1 rxs
        obtain ⟨bs, q2⟩ := r2.reads I ry
        rw [Rv] at r1
        obtain ⟨p, vs, rfl, h1, h2⟩ := r1
        cases rx
        obtain ⟨its, rv, ⟨⟨cls, dd, data, sls⟩, n, ho, hcl, hdn, hdt⟩, hlen⟩ := I.list (SqL.of h1)
        simp only at hcl hdt
        subst hcl hdt
        obtain ⟨as', ra⟩ := RvL.reads I h2 rv
        have hu := un0_of hr
        have hmap := SeqAt.readsAll_map_plain _ _ _ hc.1.2 ra
        obtain ⟨hj, he, hno⟩ := List.findIdx?_eq_some_iff_getElem.mp e
        have hlen2 : its.length = l.length := by
          have := congrArg List.length hmap
          rw [List.length_map] at this
          rw [this]
          have : ∀ l : List D, (toPys l).length = l.length := fun l => by induction l with
            | nil => rfl
            | cons d l ih => simp [toPys, ih]
          exact this l
        have hzl : l.length ≤ 16777216 := of_decide_eq_true hc.2
        have hjs : j < its.toArray.size := by simpa [hlen2] using hj
        have at_ : ∀ (m : Nat) (hm : m < its.toArray.size) (hm2 : m < l.length), SeqAt.readOf s.heap its.toArray[m] = toPy l[m] := by
          intro m hm hm2
          have e1 := congrArg (·[m]?) hmap
          simp only [List.getElem?_map, toPys_get] at e1
          rw [List.getElem?_eq_getElem (by simpa using hm), List.getElem?_eq_getElem hm2] at e1
          simpa using e1
        refine call_meets PySem.F.slot_list_index ⟨_, ho, rfl⟩ PySem.F.entry_list_index (PySem.F.args_list_index_2 _ _)
          (SeqAt.list_indexAt p its.toArray n dd sls uy (fun u => PyData.eqv (SeqAt.readOf s.heap u) (toPy z)) j hjs (by omega) ?_ ?_)
          ⟨ho, SeqAt.items_plain (vs := its.toArray) (by simpa using ra) q2 hc.1.2 (pl_plain hc.1.1).1 (by have := (pl_plain hc.1.1).2; omega), ?_⟩
        · rw [at_ j hjs hj]; exact he
        · intro m hm hmj
          rw [at_ m hm (by omega)]
          have := hno m hmj
          simp only [Bool.not_eq_true] at this
          exact this
        · exact ⟨.int (j : Nat), H, I.tok _, ⟨_, rfl⟩, c.int E⟩
    · cases ho
  · cases ho
/-- a method of one argument, whatever the receiver is -/
def tAny (X : Cx) (name : Str) (to : TE) (t : TA) : TE := fun σ H Q => to σ H fun x H1 => ∃ (T id : String) (r : V → List V → Hp → VK → Prop), PlainAttrs T ∧ Slot T name id ∧ typeOf (.builtin id) = pure (.type "method_descriptor") ∧ MtR X id r ∧ tyV X.K T x H1 ∧ t σ H1 fun xs H2 => r x xs H2 Q
variable {o e : Expr} {es : List Expr} {to : TE} {t : TA} {name : Str} {apos cpos : Pos}
theorem pe_any (ho : PE X o to) (ha : PA X (e :: es) t) (hbase : attributeBase o name X.env (eval o X.env) = eval o X.env)
    (hfew : ((backTo cpos (starEach (e :: es) X.env)).all (fun x => !x.1) && (backToKw cpos (keywordEach [] X.env)).all (fun x => x.1.isSome)
      && decide ((e :: es).length + ([] : List Keyword).length + (if ([] : List Keyword).isEmpty then 0 else 1) < 30)) = true)
    (hline : (apos.endLine == cpos.line) = true) (hs : starEach (e :: es) X.env = (false, eval e X.env) :: starEach es X.env) (hplain : (backTo cpos (starEach es X.env)).any (·.1) = false) :
    PE X (.Call (.Attribute o name apos) (e :: es) [] cpos) (tAny X name to t) := by
  refine ⟨fun pins s σ H Q I h => ?_⟩
  refine wpAny_Call_method_late hbase hfew hline rfl (thn (ho.run pins s σ H _ I h) fun v s1 ⟨x, H1, I1, r1, T, id, r, pa, slot, hty, hm, ty, q1⟩ => ?_)
  obtain ⟨h1, h2⟩ := tyV_is I1 r1 ty
  refine ⟨T, id, pa, slot, hty, h1, h2, ?_⟩
  have hA := ha.run cpos pins s1 σ H1 _ I1 q1
  rw [hs] at hA ⊢
  refine Calls.callWith_builtin (by show (false || (backTo cpos (starEach es X.env)).any (·.1)) = false; rw [hplain] <;> rfl) (Calls.evalArgs_plain ?_)
  exact thn hA fun us s2 ⟨vs, H2, I2, r2, q2⟩ => hm pins s2 σ H2 x vs v us Q I2 r1 r2 q2
theorem bty_list {K : PySem.W.Frag} {p : Addr} {vs : List V} {H : Hp} (h : H p = some (.lst vs)) : tyV K "list" (.ref p) H := Or.inl ⟨rfl, vs, SqL.of h⟩
/-- the table -/
theorem m_tab {k : Nat} {op : Op} {d1 : D} {x : V} {H1 : Hp} (hr : Room k X.A) (hm : mOf name = some op) (r1 : Rv X.K H1 d1 x) (hs : ∃ ds e, opD op (d1 :: ds) = some e) :
    ∃ (T id : String), PlainAttrs T ∧ Slot T name id ∧ typeOf (.builtin id) = pure (.type "method_descriptor") ∧ MtR X id (rKd X as (kdD d1) op) ∧ tyV X.K T x H1 := by
  obtain ⟨ds, e, hs⟩ := hs
  unfold mOf at hm
  split at hm
  · cases hm; subst_vars
    replace hs : joinD (d1 :: ds) = some e := hs
    unfold joinD at hs
    split at hs
    · rename_i ee; cases ee; exact ⟨"str", _, PySem.F.plainAttrs_str, PySem.F.slot_str_join, PySem.F.type_str_join, mr_join, by rw [rv_str r1]; rfl⟩
    · rename_i ee; cases ee; exact ⟨"str", _, PySem.F.plainAttrs_str, PySem.F.slot_str_join, PySem.F.type_str_join, mr_join, by rw [rv_str r1]; rfl⟩
    · cases hs
  · split at hm
    · cases hm; subst_vars
      replace hs : indexD (d1 :: ds) = some e := hs
      unfold indexD at hs
      split at hs
      · rename_i ee; cases ee; exact ⟨"str", _, PySem.F.plainAttrs_str, PySem.F.slot_str_index, PySem.F.type_str_index, mr_sindex, by rw [rv_str r1]; rfl⟩
      · rename_i ee; cases ee
        rw [Rv] at r1
        obtain ⟨p, vs, rfl, h1, h2⟩ := r1
        exact ⟨"list", _, PySem.F.plainAttrs_list, PySem.F.slot_list_index, PySem.F.type_list_index, mr_lindex hr, bty_list h1⟩
      · cases hs
    · split at hm
      · cases hm; subst_vars
        replace hs : countD (d1 :: ds) = some e := hs
        unfold countD at hs
        split at hs
        · rename_i ee; cases ee
          rw [Rv] at r1
          obtain ⟨p, vs, rfl, h1, h2⟩ := r1
          exact ⟨"list", _, PySem.F.plainAttrs_list, PySem.F.slot_list_count, PySem.F.type_list_count, mr_count, bty_list h1⟩
        · cases hs
      · split at hm
        · cases hm; subst_vars
          replace hs : startsD (d1 :: ds) = some e := hs
          unfold startsD at hs
          split at hs
          · rename_i ee; cases ee; exact ⟨"str", _, PySem.F.plainAttrs_str, PySem.F.slot_str_startswith, PySem.F.type_str_startswith, mr_starts, by rw [rv_str r1]; rfl⟩
          · cases hs
        · split at hm
          · cases hm; subst_vars
            replace hs : endsD (d1 :: ds) = some e := hs
            unfold endsD at hs
            split at hs
            · rename_i ee; cases ee; exact ⟨"str", _, PySem.F.plainAttrs_str, PySem.F.slot_str_endswith, PySem.F.type_str_endswith, mr_ends, by rw [rv_str r1]; rfl⟩
            · cases hs
          · split at hm
            · cases hm; subst_vars
              replace hs : splitD (d1 :: ds) = some e := hs
              unfold splitD at hs
              split at hs
              · rename_i ee; cases ee; exact ⟨"str", _, PySem.F.plainAttrs_str, PySem.F.slot_str_split, PySem.F.type_str_split, mr_split, by rw [rv_str r1]; rfl⟩
              · cases hs
            · cases hm
theorem keep_m {op : Op} (hm : mOf name = some op) : keepO op = true := by
  unfold mOf at hm
  repeat (first | (split at hm) | (cases hm; rfl) | cases hm)
theorem eb_meth {k : Nat} {op : Op} {sa se : E} (hr : Room k X.A) (hm : mOf name = some op) (ho : PE X o (TE1' X as XW cf sa)) (ha : PE X e (TE1' X as XW cf se)) (hs : simp0 se = true) (hst : isStar e = false)
    (hbase : attributeBase o name X.env (eval o X.env) = eval o X.env) (hline : (apos.endLine == cpos.line) = true) : PE X (.Call (.Attribute o name apos) [e] [] cpos) (TE1' X as XW cf (.op op (.cons sa (.cons se .nil)))) :=
  PE.weak (pe_any ho (pa_cons ha pa_nil (star_cons hst _ _)) hbase (by rw [star_cons hst]; rfl) hline (star_cons hst _ _) rfl) fun σ H Q h =>
    (op_recv (by simp only [simp0, hs]; rfl) (keep_m hm) h).imp fun x H1 ⟨d1, r1, hd, q⟩ => by
      obtain ⟨T, id, pa, slot, hty, mr, ty⟩ := m_tab (as := as) hr hm r1 hd
      exact ⟨T, id, _, pa, slot, hty, mr, ty, (tas_cons q).imp fun y H2 q2 => ⟨σ, tas_nil q2⟩⟩
/-- text.join(..), the text written out -/
theorem eb_join {s : Str} {j : Nat} {p : Pos} {se : E} (hc : PE X (.Constant (.str s) j p) (tC (.str s))) (ha : PE X e (TE1' X as XW cf se)) (hst : isStar e = false) (hline : (apos.endLine == cpos.line) = true) :
    PE X (.Call (.Attribute (.Constant (.str s) j p) "join" apos) [e] [] cpos) (TE1' X as XW cf (.op .join (.cons (.lit (.str s)) (.cons se .nil)))) :=
  PE.weak (pe_bm PySem.F.plainAttrs_str PySem.F.slot_str_join PySem.F.type_str_join (mr_join (as := as)) hc (pa_cons ha pa_nil (star_cons hst _ _)) rfl (by rw [star_cons hst]; rfl) hline (star_cons hst _ _) rfl) fun σ H Q h => by
    have h2 := op2 h
    obtain ⟨Z, W, r, fp, E, h2⟩ := h2
    simp only [ev] at h2
    obtain ⟨v, e1, h3⟩ := h2 [.str s] Z H fp [] (E.less fun a w => w.elim id fun w => by simp at w) ⟨_, _, [], [], rfl, rfl, own_str, rfl, rfl⟩ List.nodup_nil (by simp) Keep.refl
    cases e1
    refine ⟨rfl, h3.imp fun y H2 q => ⟨σ, ?_⟩⟩
    obtain ⟨Z, W, r, fp, ds, d, l, E, al, hg, c⟩ := q
    refine ⟨Z, W, r, fp, ds, d, l, E, al, ?_, c⟩
    obtain ⟨d1, d2, rfl, ⟨r1, _⟩, r2, _⟩ := all2_2 al
    have ho := (opG_some hg).1
    replace ho : joinD [d1, d2] = some d := ho
    have : kdD d1 = 1 := by
      unfold joinD at ho
      split at ho
      · rename_i ee; cases ee; rfl
      · rename_i ee; cases ee; rfl
      · cases ho
    show (if kdD d1 = 1 then _ else _) = _
    rw [if_pos this]; exact hg
end
end Bk
/-! Bk: list methods. -/
namespace Bk
open L2 PyProof.Rows PySem.Spec PySem
section
variable {K : PySem.W.Frag} {as : List V} {XW : XWt} {cf : CF} {σ : Sl} {H : Hp} {Z W : Pr} {r : Env} {fp : Nat → List Addr} {Q : VK}
theorem OwnL.erase : ∀ {ds : List D} {vs : List V} (j : Nat), OwnL K Z H ds 0 vs [] → OwnL K Z H (ds.eraseIdx j) 0 (vs.eraseIdx j) []
  | [], vs, j, h => by rw [OwnL] at h; rw [h.1]; simp only [List.eraseIdx_nil]; rw [OwnL]; exact ⟨rfl, rfl⟩
  | d0 :: ds, vs, j, h => by
    rw [OwnL] at h
    obtain ⟨u, ws, f1, f2, rfl, e, o1, o2⟩ := h
    obtain ⟨rfl, rfl⟩ := List.append_eq_nil_iff.mp e.symm
    cases j with
    | zero => exact o2
    | succ j => rw [List.eraseIdx_cons_succ, List.eraseIdx_cons_succ, OwnL]; exact ⟨u, _, [], [], rfl, rfl, o1, OwnL.erase j o2⟩
abbrev rPops : V → List V → Hp → VK → Prop := fun x vs H Q => rPop x vs H Q ∨ rPopAt x vs H Q
theorem te_pop {i : Nat} {a : E} (h : TE1 K as XW (ev cf (.pop i a)) σ H Q) : ∃ p vs0, σ[i]? = some (some (.ref p)) ∧ H p = some (.lst vs0) ∧ TAs K as XW (ev cf a) σ H fun vs H1 => rPops (.ref p) vs H1 Q := by
  obtain ⟨Z, W, r, fp, E, h⟩ := h
  simp only [ev] at h
  by_cases hl : isLstAt r i = true
  · rw [if_pos hl] at h
    obtain ⟨p, vs0, hv, h1⟩ := lst_at E hl
    refine ⟨p, vs0, hv, h1, Z, W, r, fp, E, ?_⟩
    cases e1 : ev cf a r with
    | bad => rw [e1] at h; exact h
    | exc x r1 => rw [e1] at h; exact h
    | val y =>
      obtain ⟨rs, r1⟩ := y
      rw [e1] at h
      simp only [Out.bind_val] at h
      cases e2 : bor true rs r1 with
      | none => rw [e2] at h; exact h.elim
      | some y =>
        obtain ⟨ds, r2⟩ := y
        rw [e2] at h
        simp only [Out.of_some, Out.bind_val] at h
        intro vs Z1 H2 fp1 fq1 E1 R1 nd1 nw1 k1
        obtain ⟨Z2, fp2, E2, hz2, al⟩ := bor_ok E1 R1 nd1 nw1 e2
        cases e3 : popI r2 i ds with
        | none => rw [e3] at h; exact h.elim
        | some y =>
          rw [e3] at h
          have fin : ∀ (l0 : List D) (m j : Nat) (pp : Bool) (d : D), getE r2 i = some ⟨.lst l0, m + 1, pp⟩ → l0[j]? = some d → (∀ l', l' = l0.eraseIdx j → y = ([.vl d 0], r2.set i (some ⟨.lst l', 1, pp⟩))) →
              ∃ vs1 v, H2 p = some (.lst vs1) ∧ vs1[j]? = some v ∧ vs1.length = l0.length ∧ Q v (upd H2 p (.lst (vs1.eraseIdx j))) := by
            intro l0 m j pp d g hd hy
            obtain ⟨a', vs1, fq2, hv', h2, e4, ol, hp, Et⟩ := E2.takeL g
            rw [hv] at hv'
            cases hv'
            have ol2 := ol.freeze (Z' := orL Z2 fq2) (fun x z => .inl z) fun x m => .inr m
            obtain ⟨v, hv1, ov⟩ := ol2.get hd
            refine ⟨vs1, v, h2, hv1, ol.len, ?_⟩
            obtain ⟨Z3, fp3, E3, k3, hz3⟩ := E2.mut0 g hv e4 (OwnL.erase j ol2) hp
            have hy := hy _ rfl
            subst hy
            have hc := After.cont h
            have hpz : ¬ orL Z2 fq2 p := by
              have ndp : (p :: fq2).Nodup := e4 ▸ E2.nd i
              rintro (z | z)
              · exact (E2.nz i p (by rw [e4]; simp)).1 z
              · exact (List.nodup_cons.mp ndp).1 z
            have ov3 : Own K Z3 (upd H2 p (.lst (vs1.eraseIdx j))) d 0 v [] := by
              have k4 : Keep (orL Z2 fq2) nW H2 (orL Z2 fq2) (upd H2 p (.lst (vs1.eraseIdx j))) := keep_upd hpz (fun w => w) (by rw [h2]; simp)
              exact (ov.keep k4 (by simp)).keep (W := nW) (keepZ hz3) (by simp)
            exact hc v Z3 _ fp3 [] (E3.less fun a w => w.elim id fun w => by simp at w) ov3 List.nodup_nil (by simp) (k1.trans ((keepZ hz2).trans k3))
          unfold popI at e3
          split at e3
          · rename_i l0 m pp g
            split at e3
            · rename_i d hd
              cases e3
              have hv0 : vs = [] := al
              subst hv0
              obtain ⟨vs1, v, h2, h3, h4, h5⟩ := fin l0 m (l0.length - 1) pp d g hd fun l' e => by rw [e, PyProof.Rows.Copied.eraseIdx_last]
              refine .inl ⟨p, vs1, v, rfl, rfl, h2, by rw [h4]; exact h3, ?_⟩
              rw [← h4, PyProof.Rows.Copied.eraseIdx_last] at h5
              exact h5
            · cases e3
          · rename_i l0 m pp k g
            split at e3
            · rename_i j hj
              split at e3
              · rename_i d hd
                split at e3
                case isFalse => cases e3
                rename_i hz
                replace hz := sz_le hz
                cases e3
                obtain ⟨v1, rfl, rv, _⟩ := all2_11 al
                rw [rv_int rv]
                obtain ⟨vs1, v, h2, h3, h4, h5⟩ := fin l0 m j pp d g hd fun l' e => by rw [e]
                obtain ⟨q1, q2, q3, q4⟩ := ixN_seq hj
                exact .inr ⟨p, vs1, k, j, v, rfl, rfl, h2, by have := line63; omega, by have := line63; omega, by rw [h4]; exact q1, h3, h5⟩
              · cases e3
            · cases e3
          · cases e3
  · rw [if_neg hl] at h; exact h.elim
end
section
variable {X : Cx} {as : List V} {XW : XWt} {cf : CF} {e : Expr} {se : E} {x : Str} {i : Nat} {px apos cpos pos : Pos}
theorem mr_pop : MtR X "list.pop" rPops := MtR.or mt_pop mt_popAt
theorem ty_list {K : PySem.W.Frag} {p : Addr} {vs : List V} {H : Hp} (h : H p = some (.lst vs)) : tyV K "list" (.ref p) H := Or.inl ⟨rfl, vs, SqL.of h⟩
theorem eb_pop0 (hv : PE X (.Name x px) (tVar i)) (hline : (apos.endLine == cpos.line) = true) : PE X (.Call (.Attribute (.Name x px) "pop" apos) [] [] cpos) (TE1' X as XW cf (.pop i .nil)) :=
  PE.weak (pe_bm0 PySem.F.plainAttrs_list PySem.F.slot_list_pop PySem.F.type_list_pop mr_pop hv rfl hline) fun σ H Q h => by
    obtain ⟨p, vs0, h1, h2, h3⟩ := te_pop h
    exact ⟨_, h1, ty_list h2, tas_nil h3⟩
theorem tas_1 {K : PySem.W.Frag} {σ : Sl} {H : Hp} {Q : List V → Hp → Prop} (h : TAs K as XW (ev cf (.cons se .nil)) σ H Q) : tCons (TE1 K as XW (ev cf se)) tNil σ H Q :=
  (tas_cons h).imp fun x H1 q => tas_nil q
theorem eb_pop1 (hv : PE X (.Name x px) (tVar i)) (hline : (apos.endLine == cpos.line) = true) (he : PE X e (TE1' X as XW cf se)) (hst : isStar e = false) :
    PE X (.Call (.Attribute (.Name x px) "pop" apos) [e] [] cpos) (TE1' X as XW cf (.pop i (.cons se .nil))) :=
  PE.weak (pe_bm PySem.F.plainAttrs_list PySem.F.slot_list_pop PySem.F.type_list_pop mr_pop hv (pa_cons he pa_nil (star_cons hst _ _)) rfl (by rw [star_cons hst]; rfl) hline (star_cons hst _ _) rfl) fun σ H Q h => by
    obtain ⟨p, vs0, h1, h2, h3⟩ := te_pop h
    exact ⟨_, h1, ty_list h2, tas_1 h3⟩
theorem sb_app (hv : PE X (.Name x px) (tVar i)) (hline : (apos.endLine == cpos.line) = true) (he : PE X e (TE1' X as XW cf se)) (hst : isStar e = false) :
    PS X (.Expr (.Call (.Attribute (.Name x px) "append" apos) [e] [] cpos) pos) (TSx X.K as XW (ex cf (.app i se))) :=
  PS.weak (ps_expr (pe_bm PySem.F.plainAttrs_list PySem.F.slot_list_append PySem.F.type_list_append mt_append hv (pa_cons he pa_nil (star_cons hst _ _)) rfl (by rw [star_cons hst]; rfl) hline (star_cons hst _ _) rfl) rfl) fun D σ H h => by
    obtain ⟨a, vs, h1, h2, h3⟩ := st_app h
    exact ⟨_, h1, ty_list h2, h3.imp fun y H1 ⟨xs, q1, q2, q3⟩ => ⟨a, xs, y, rfl, rfl, q1, q2, q3⟩⟩
theorem sb_ext (hv : PE X (.Name x px) (tVar i)) (hline : (apos.endLine == cpos.line) = true) (he : PE X e (TE1' X as XW cf se)) (hst : isStar e = false) :
    PS X (.Expr (.Call (.Attribute (.Name x px) "extend" apos) [e] [] cpos) pos) (TSx X.K as XW (ex cf (.ext i se))) :=
  PS.weak (ps_expr (pe_bm PySem.F.plainAttrs_list PySem.F.slot_list_extend PySem.F.type_list_extend mt_extend hv (pa_cons he pa_nil (star_cons hst _ _)) rfl (by rw [star_cons hst]; rfl) hline (star_cons hst _ _) rfl) rfl) fun D σ H h => by
    obtain ⟨a, vs, h1, h2, h3⟩ := st_ext h
    exact ⟨_, h1, ty_list h2, h3.imp fun y H1 ⟨b, xs, zs, e, q1, q2, q3, q4⟩ => ⟨a, b, xs, zs, rfl, by rw [e], q1, q2, q3, q4⟩⟩
theorem pt_cmp2 {op : CmpOp} {o : Op} {r : R2} {a b : Expr} {sa sb : E} (ho : OpR X (compareOp op) r) (hr : ∀ {σ x y H Q}, OpK X.K as σ (keepO o) (opG o) [x, y] H Q → r x y H Q) (ha : PE X a (TE1' X as XW cf sa)) (hb : PE X b (TE1' X as XW cf sb))
    (hm : behindInMarks op b = false) : PT X (.Compare a [op] [b] pos) (TTx' X as XW cf (.op o (.cons sa (.cons sb .nil)))) :=
  PT.weak (pt_cmpT ho ha hb hm) fun σ H Q h => (op2 (tt_truth h)).imp fun x H1 q => q.imp fun y H2 q => hr q
theorem tb_cmp {op : CmpOp} {o : Op} {a b : Expr} {sa sb : E} {k : Nat} (hr : Room k X.A) (h : cmpOf op = some o) (ha : PE X a (TE1' X as XW cf sa)) (hb : PE X b (TE1' X as XW cf sb)) (hm : behindInMarks op b = false) :
    PT X (.Compare a [op] [b] pos) (TTx' X as XW cf (.op o (.cons sa (.cons sb .nil)))) := by
  have hi : ∀ ds e, isinD ds = some e → (atomV e).isSome = true := fun ds e h => by obtain ⟨b, rfl⟩ := at_map h; rfl
  have hni : ∀ ds e, notinD ds = some e → (atomV e).isSome = true := fun ds e h => by obtain ⟨b, rfl⟩ := at_map h; rfl
  have he : ∀ ds e, eqD2 ds = some e → (atomV e).isSome = true := fun ds e h => by
    unfold eqD2 at h; split at h
    · obtain ⟨b, rfl⟩ := at_map h; rfl
    · cases h
  have hne : ∀ ds e, neD2 ds = some e → (atomV e).isSome = true := fun ds e h => by
    unfold neD2 at h; split at h
    · obtain ⟨b, rfl⟩ := at_map h; rfl
    · cases h
  cases op <;> simp only [cmpOf, Option.some.injEq, reduceCtorEq] at h <;> subst h
  · exact pt_cmp2 (or_eq hr) (fun h => rd_atom h he) ha hb hm
  · exact pt_cmp2 (or_ne hr) (fun h => rd_atom h hne) ha hb hm
  · exact pt_cmp2 op_lt (fun h => rd_cmp rfl h) ha hb hm
  · exact pt_cmp2 op_le (fun h => rd_cmp rfl h) ha hb hm
  · exact pt_cmp2 op_gt (fun h => rd_cmp rfl h) ha hb hm
  · exact pt_cmp2 op_ge (fun h => rd_cmp rfl h) ha hb hm
  · exact pt_cmp2 op_isBl rd_isB ha hb hm
  · exact pt_cmp2 op_notBl rd_notB ha hb hm
  · exact pt_cmp2 (or_in hr) (fun h => rd_atom h hi) ha hb hm
  · exact pt_cmp2 (or_notin hr) (fun h => rd_atom h hni) ha hb hm
end
end Bk
/-! Bk: a text's expressions as the small language's. -/
namespace Bk
open L2 PyProof.Rows PySem.Spec PySem
structure CC where
  sc : Scope
  N : List Str
  FT : List Str
  GC : List (Str × D)
  fn : Str → Bool
def visB (sc : Scope) (x : Str) : Bool :=
  match sc.names.lookup x with
  | some .local => true | some .cell => true | some .free => true
  | _ => false
def locB (sc : Scope) (x : Str) : Bool :=
  match sc.names.lookup x with
  | some .local => true | some .cell => true
  | _ => false
def lclB (sc : Scope) (x : Str) : Bool :=
  match sc.names.lookup x with
  | some .local => true
  | _ => false
def glB (sc : Scope) (x : Str) : Bool :=
  match sc.names.lookup x with
  | some .globalImplicit => true
  | _ => false
def ixOf (x : Str) : List Str → Option Nat
  | [] => none
  | y :: r => if x = y then some 0 else (ixOf x r).map (· + 1)
def ownF (N : List Str) : List (Str × NameKind) → List (Str × Nat)
  | [] => []
  | (x, .local) :: r =>
    match ixOf x N with
    | some i => (x, i) :: ownF N r
    | none => ownF N r
  | (x, .cell) :: r =>
    match ixOf x N with
    | some i => (x, i) :: ownF N r
    | none => ownF N r
  | _ :: r => ownF N r
def notSet : Expr → Bool
  | .Set _ _ _ => false
  | _ => true
def notSlice : Expr → Bool
  | .Slice _ _ _ _ => false
  | _ => true
def cL (f : Expr → Option E) : List Expr → Option E
  | [] => some .nil
  | e :: r => if isStar e then none else
    match f e, cL f r with
    | some a, some b => some (.cons a b)
    | _, _ => none
def cB (f : Expr → Option E) (op : BoolOp) : List Expr → Option E
  | [] => none
  | [e] => f e
  | e :: e2 :: r =>
    match f e, cB f op (e2 :: r) with
    | some a, some b => some (match op with
      | .And => .and a b
      | .Or => .or a b)
    | _, _ => none
def isTupE : Expr → Bool
  | .Tuple _ _ _ => true
  | _ => false
/-- what is walked, by its name -/
def cW (x : Str) (t : Bool) (n : Nat) : Option ItK :=
  if x = "range" then (if n = 1 ∨ n = 2 ∨ n = 3 then some .range else none)
  else if t = true ∧ x = "enumerate" then (if n = 1 then some .enum else if n = 2 then some .enumS else none)
  else if t = true ∧ x = "zip" then (if n = 2 then some .zip else none)
  else none
def cI (f : Expr → Option E) (c : CC) (tg e : Expr) : Option (ItK × E) :=
  match e with
  | .Call (.Name x p) args [] pos =>
    match (if glB c.sc x = true then cW x (isTupE tg) args.length else none) with
    | some k => (cL f args).map fun s => (k, s)
    | none => (f (.Call (.Name x p) args [] pos)).map fun s => (.seq, s)
  | e => (f e).map fun s => (.seq, s)
def tgt (f : Expr → Option Tgt) : List Expr → Option Tgt
  | [] => some .nil
  | e :: r => 
    match f e, tgt f r with
    | some a, some b => some (.cons a b)
    | _, _ => none
def cT (c : CC) : Nat → Expr → Option Tgt
  | 0, _ => none
  | n + 1, e =>
    match e with
    | .Name x _ => if (lclB c.sc x || (locB c.sc x && c.fn x)) = true then (ixOf x c.N).map .nm else none
    | .Tuple es _ _ => tgt (cT c n) es
    | _ => none
def sl (f : Expr → Option E) (a : Expr) : Option Expr → Option Expr → Option E
  | none, none => (f a).map fun s => .op (.slL false false) (.cons s .nil)
  | some lo, none =>
    match f a, f lo with
    | some s, some l => some (.op (.slL true false) (.cons s (.cons l .nil)))
    | _, _ => none
  | none, some hi =>
    match f a, f hi with
    | some s, some l => some (.op (.slL false true) (.cons s (.cons l .nil)))
    | _, _ => none
  | some lo, some hi =>
    match f a, f lo, f hi with
    | some s, some l, some h => some (.op (.slL true true) (.cons s (.cons l (.cons h .nil))))
    | _, _, _ => none
def cCmp (f : Expr → Option E) (a : Expr) (op : CmpOp) (b : Expr) : Option E :=
  match op, b with
  | .Is, .Constant .none _ _ => (f a).map fun s => .op .isN (.cons s .nil)
  | .IsNot, .Constant .none _ _ => (f a).map fun s => .op .notN (.cons s .nil)
  | op, b => if behindInMarks op b then none else
    match cmpOf op, f a, f b with
    | some o, some s, some t => some (.op o (.cons s (.cons t .nil)))
    | _, _, _ => none
def isaArgs (c : CC) : List Expr → Option (Expr × Nat)
  | [a, .Name T _] => if glB c.sc T && !isStar a then (isaOf T).map fun n => (a, n) else none
  | _ => none
def revKw : List Keyword → Bool
  | [⟨some k, .Constant (.bool true) _ _, _⟩] => decide (k = "reverse")
  | _ => false
def fndB (x : Str) (n : Nat) : List (Str × Nat × Op) → Option Op
  | [] => none
  | (y, m, o) :: r => if x = y ∧ n = m then some o else fndB x n r
def dbgB (x : Str) : Bool := (x == ("__debug__" : Str)) || (x == ("__classdict__" : Str))
/-- range(..) as the one argument -/
def rngA (c : CC) : List Expr → Option (List Expr)
  | [.Call (.Name r _) es [] _] => if r = "range" ∧ glB c.sc r = true then some es else none
  | _ => none
def cRng (f : Expr → Option E) (o : Op) : List Expr → Option E
  | [a] => if isStar a then none else (f a).map fun s => .op o (.cons s .nil)
  | [a, b] => if isStar a || isStar b then none else
    match f a, f b with
    | some s, some t => some (.op o (.cons s (.cons t .nil)))
    | _, _ => none
  | _ => none
def gcOf (x : Str) : List (Str × D) → Option D
  | [] => none
  | (y, d) :: r => if x = y then some d else gcOf x r
def cCall (f : Expr → Option E) (c : CC) (x : Str) (args : List Expr) (kws : List Keyword) : Option E :=
  if glB c.sc x = false then none else
  match kws with
  | [] =>
    if x = "isinstance" then (isaArgs c args).bind fun p => (f p.1).map fun s => .op (.isT p.2) (.cons s .nil)
    else if x = "tuple" then
      match rngA c args with
      | some es => cRng f .trg es
      | none =>
        match args with
        | [a] => if isStar a then none else (f a).map fun s => .op .tuple (.cons s .nil)
        | _ => none
    else if x = "list" ∧ (rngA c args).isSome = true then
      match rngA c args with
      | some es => cRng f .lrg es
      | none => none
    else
      match fndB x args.length bTab with
      | some o => if args.isEmpty then none else (cL f args).map fun s => .op o s
      | none => if dbgB x then none else
        match ixOf x c.FT with
        | some i => (cL f args).map fun s => .call i s
        | none => none
  | kws => if x = "sorted" ∧ revKw kws = true then
      match args with
      | [a] => if isStar a then none else (f a).map fun s => .op .sortedR (.cons s .nil)
      | _ => none
    else none
def inC (c : CC) (scope : Scope) : CC := { c with sc := relS scope c.sc, fn := fun x => scope.names.lookup x == some NameKind.cell }
def cIf (f : Expr → Option E) : List Expr → Option E
  | [] => some (.lit (.bl true))
  | [t] => f t
  | _ => none
def plainRcv : Expr → Bool
  | .Name _ _ => true | .Subscript _ _ _ => true | .List _ _ => true
  | _ => false
def cMeth (f : Expr → Option E) (o : Expr) (m : Str) (a : Expr) (ok : Bool) : Option E :=
  if (ok && plainRcv o && !isStar a) = true then
    match mOf m, f o, f a with
    | some p, some s, some t => if simp0 t = true then some (.op p (.cons s (.cons t .nil))) else none
    | _, _, _ => none
  else none
def cE : Nat → CC → Expr → Option E
  | 0, _, _ => none
  | n + 1, c, e =>
    match e with
    | .Constant (.int i) _ _ => some (.lit (.int i))
    | .Constant (.bool b) _ _ => some (.lit (.bl b))
    | .Constant .none _ _ => some (.lit .non)
    | .Constant (.str s) _ _ => some (.lit (.str s))
    | .Name x _ => if visB c.sc x && !dbgB x then (ixOf x c.N).map .var else if glB c.sc x && !dbgB x then (gcOf x c.GC).map .lit else none
    | .BinOp a op b _ =>
      match binOf op, cE n c a, cE n c b with
      | some o, some s, some t => some (.op o (.cons s (.cons t .nil)))
      | _, _, _ => none
    | .UnaryOp .Not a _ => (cE n c a).map fun s => .op .not (.cons s .nil)
    | .UnaryOp .USub a _ => (cE n c a).map fun s => .op .neg (.cons s .nil)
    | .BoolOp op es _ => cB (cE n c) op es
    | .Compare a [op] [b] _ => cCmp (cE n c) a op b
    | .Compare a [op, op'] [b, d] _ =>
      match cmpI op, cmpI op', cE n c a, cE n c b, cE n c d with
      | some f, some g, some s, some t, some u => some (.chain f g (.cons s (.cons t .nil)) u)
      | _, _, _, _, _ => none
    | .IfExp t a b _ =>
      match cE n c t, cE n c a, cE n c b with
      | some s, some t, some u => some (.ite s t u)
      | _, _, _ => none
    | .Tuple es _ _ => (cL (cE n c) es).map .mkt
    | .List es _ => (cL (cE n c) es).map .mkl
    | .Subscript a (.Slice none none (some (.UnaryOp .USub (.Constant (.int k) _ _) _)) _) _ => if k = 1 then (cE n c a).map fun s => .op .rev (.cons s .nil) else none
    | .Subscript a (.Slice none none (some (.Constant (.int k) _ _)) _) _ => if k = 2 then (cE n c a).map fun s => .op .evens (.cons s .nil) else none
    | .Subscript a (.Slice (some (.Constant (.int l) _ _)) none (some (.Constant (.int k) _ _)) _) _ => if l = 1 ∧ k = 2 then (cE n c a).map fun s => .op .odds (.cons s .nil) else none
    | .Subscript a (.Slice lo hi none _) _ => sl (cE n c) a lo hi
    | .Subscript a b _ => if notSlice b then
        match cE n c a, cE n c b with
        | some s, some t => some (.op .idx (.cons s (.cons t .nil)))
        | _, _ => none
      else none
    | .Call (.Name x _) args kws _ => cCall (cE n c) c x args kws
    | .Call (.Attribute (.Name x _) m apos) [] [] cpos => if m = "pop" ∧ (apos.endLine == cpos.line) = true ∧ visB c.sc x = true ∧ dbgB x = false then (ixOf x c.N).map fun i => .pop i .nil else none
    | .Call (.Attribute (.Name x px) m apos) [a] [] cpos => if m = "pop" ∧ (apos.endLine == cpos.line) = true ∧ visB c.sc x = true ∧ dbgB x = false ∧ isStar a = false then
        match ixOf x c.N, cE n c a with
        | some i, some s => some (.pop i (.cons s .nil))
        | _, _ => none
      else cMeth (cE n c) (.Name x px) m a (apos.endLine == cpos.line)
    | .Call (.Attribute (.Constant (.str s) j p) m apos) [a] [] cpos => if m = "join" ∧ (apos.endLine == cpos.line) = true ∧ isStar a = false then (cE n c a).map fun t => .op .join (.cons (.lit (.str s)) (.cons t .nil)) else none
    | .Call (.Attribute o m apos) [a] [] cpos => cMeth (cE n c) o m a (apos.endLine == cpos.line)
    | .ListComp elt [⟨tg, iter, ifs, 0⟩] scope _ =>
      if blkC c.N c.sc scope (ownF c.N scope.names) && notSet iter then
        match cI (cE n c) c tg iter, cT (inC c scope) n tg, cIf (cE n (inC c scope)) ifs, cE n (inC c scope) elt with
        | some p, some t, some cc, some u => some (.comp ((ownF c.N scope.names).map (·.2)) p.1 p.2 t cc u)
        | _, _, _, _ => none
      else none
    | _ => none
/-! ### it is right -/
abbrev cx0 : CXT := fun _ _ _ _ _ _ => False
def bNames : List Str := ["len", "int", "str", "abs", "sum", "max", "min", "sorted", "repr", "list", "tuple", "isinstance", "bool", "range", "enumerate", "zip"]
structure OkX (X : Cx) (c : CC) (T : List Fn) (kd : Nat) : Prop where
  hN : X.N = c.N
  hsc : X.env.scope = c.sc
  nd : X.N.Nodup
  calm : X.calm = true
  gd : X.A.guards = some []
  room : Room kd X.A
  blt : ∀ x ∈ bNames, X.mg x = none
  fn : ∀ x, c.fn x = true → X.fn x = true
  held : ∀ i x, c.FT[i]? = some x → ∃ f fd ps, X.mg x = some (.ref f) ∧ PySem.W.keepIn X.K (.ref f) = true ∧ Binds X.K fd ps [] ∧ FnG X.prog X.w X.K X.mg X.base cx0 kd f fd ps (spG X.K T kd i)
  con : ∀ x d, gcOf x c.GC = some d → ∃ v u, X.mg x = some u ∧ RelV v u ∧ ∀ Z H, Own X.K Z H d 0 v []
  nox : ∀ f as e r, callF T kd f as ≠ .exc e r
def SndE (X : Cx) (T : List Fn) (kd : Nat) (e : Expr) (s : E) : Prop := (∀ as XW, PE X e (TE1' X as XW (callF T kd) s)) ∧ ∀ as XW, PT X e (TTx' X as XW (callF T kd) s)
section
variable {X : Cx} {c : CC} {T : List Fn} {kd : Nat} {f : Expr → Option E}
theorem ixOf_get {x : Str} : ∀ {l : List Str} {i : Nat}, ixOf x l = some i → l[i]? = some x
  | [], i, h => by cases h
  | y :: r, i, h => by
    unfold ixOf at h
    split at h
    · rename_i e; subst e; cases h; rfl
    · cases e : ixOf x r with
      | none => rw [e] at h; cases h
      | some j =>
        rw [e] at h
        cases h
        simpa using ixOf_get e
theorem OkX.vis (ok : OkX X c T kd) {x : Str} (h : visB c.sc x = true) : Vis X.env.scope x := by
  rw [ok.hsc]
  unfold visB at h
  split at h
  · exact .inl (by assumption)
  · exact .inr (.inl (by assumption))
  · exact .inr (.inr (by assumption))
  · cases h
theorem OkX.gl (ok : OkX X c T kd) {x : Str} (h : glB c.sc x = true) : Gl X x := by
  unfold Gl PySem.Env.kindOf
  rw [ok.hsc]
  unfold glB at h
  split at h
  · assumption
  · cases h
theorem dbg_of {x : Str} (h : dbgB x = false) : (x == ("__debug__" : Str)) = false ∧ (x == ("__classdict__" : Str)) = false := by
  unfold dbgB at h
  simpa using h
theorem OkX.name (ok : OkX X c T kd) {x : Str} {i : Nat} {p : Pos} (h : visB c.sc x = true) (hd : dbgB x = false) (hi : ixOf x c.N = some i) : PE X (.Name x p) (tVar i) :=
  pe_var (by rw [ok.hN]; exact ixOf_get hi) (ok.vis h) (dbg_of hd).1 (dbg_of hd).2
theorem cL_ok (hf : ∀ e s, f e = some s → SndE X T kd e s) : ∀ {es : List Expr} {s : E}, cL f es = some s → es.any isStar = false ∧ ∀ as XW, PA X es (TAs X.K as XW (ev (callF T kd) s))
  | [], s, h => by
    cases h
    exact ⟨rfl, fun as XW => PA.weak pa_nil fun σ H Q h => tas_nil h⟩
  | e :: r, s, h => by
    unfold cL at h
    split at h
    · cases h
    · rename_i hs
      split at h
      · rename_i a b e1 e2
        cases h
        obtain ⟨i1, i2⟩ := cL_ok hf e2
        have hs : isStar e = false := by simpa using hs
        exact ⟨by rw [List.any_cons, hs, i1]; rfl, fun as XW => PA.weak (pa_cons ((hf e a e1).1 as XW) (i2 as XW) (star_cons hs r _)) fun σ H Q h => tas_cons h⟩
      · cases h
theorem cB_ok (hf : ∀ e s, f e = some s → SndE X T kd e s) {op : BoolOp} {pos : Pos} : ∀ {es : List Expr} {s : E}, cB f op es = some s → (∀ as XW, PE X (.BoolOp op es pos) (TE1' X as XW (callF T kd) s)) ∧ ∀ as XW, PW X (.BoolOp op es pos) (TTx' X as XW (callF T kd) s)
  | [], s, h => by cases h
  | [e], s, h => by
    have h : f e = some s := h
    refine ⟨fun as XW => pe_one ((hf e s h).1 as XW), fun as XW => ?_⟩
    cases op with
    | And => exact pw_and1 ((hf e s h).2 as XW)
    | Or => exact pw_or1 ((hf e s h).2 as XW)
  | e :: e2 :: r, s, h => by
    unfold cB at h
    split at h
    · rename_i a b h1 h2
      cases h
      obtain ⟨i1, i2⟩ := cB_ok hf h2
      cases op with
      | And => exact ⟨fun as XW => eb_and ((hf e a h1).1 as XW) (i1 as XW), fun as XW => tb_and ((hf e a h1).2 as XW) (i2 as XW)⟩
      | Or => exact ⟨fun as XW => eb_or ((hf e a h1).1 as XW) (i1 as XW), fun as XW => tb_or ((hf e a h1).2 as XW) (i2 as XW)⟩
    · cases h
theorem bName_of {x : Str} {n : Nat} {o : Op} (h : (x, n, o) ∈ bTab) : x ∈ bNames := by
  simp only [bTab, List.mem_cons, Prod.mk.injEq, List.not_mem_nil, or_false] at h
  rcases h with ⟨rfl, _⟩ | ⟨rfl, _⟩ | ⟨rfl, _⟩ | ⟨rfl, _⟩ | ⟨rfl, _⟩ | ⟨rfl, _⟩ | ⟨rfl, _⟩ | ⟨rfl, _⟩ | ⟨rfl, _⟩ | ⟨rfl, _⟩ | ⟨rfl, _⟩ | ⟨rfl, _⟩ <;> simp [bNames]
theorem fndB_mem {x : Str} {n : Nat} {o : Op} : ∀ {l : List (Str × Nat × Op)}, fndB x n l = some o → (x, n, o) ∈ l
  | [], h => by cases h
  | (y, m, p) :: r, h => by
    unfold fndB at h
    split at h
    · rename_i e; obtain ⟨rfl, rfl⟩ := e; cases h; exact List.mem_cons_self
    · exact List.mem_cons_of_mem _ (fndB_mem h)
theorem cL_1 {a : Expr} {s : E} (h : cL f [a] = some s) : ∃ sa, s = .cons sa .nil := by
  unfold cL at h
  split at h
  · cases h
  · split at h
    · rename_i a' b' e1 e2
      cases h
      cases e2
      exact ⟨_, rfl⟩
    · cases h
theorem cL_S {a : Expr} {es : List Expr} {s : E} (h : cL f (a :: es) = some s) : ∃ sa t, s = .cons sa t ∧ cL f es = some t := by
  unfold cL at h
  split at h
  · cases h
  · split at h
    · rename_i a' b' e1 e2
      cases h
      exact ⟨_, _, rfl, e2⟩
    · cases h
theorem cL_2 {a b : Expr} {s : E} (h : cL f [a, b] = some s) : ∃ sa sb, s = .cons sa (.cons sb .nil) := by
  obtain ⟨sa, t, rfl, h2⟩ := cL_S h
  obtain ⟨sb, rfl⟩ := cL_1 h2
  exact ⟨_, _, rfl⟩
theorem cL_3 {a b d : Expr} {s : E} (h : cL f [a, b, d] = some s) : ∃ sa sb sd, s = .cons sa (.cons sb (.cons sd .nil)) := by
  obtain ⟨sa, t, rfl, h2⟩ := cL_S h
  obtain ⟨sb, sd, rfl⟩ := cL_2 h2
  exact ⟨_, _, _, rfl⟩
theorem cI_ok (ok : OkX X c T kd) (hf : ∀ e s, f e = some s → SndE X T kd e s) {tg e : Expr} {k : ItK} {s : E} (h : cI f c tg e = some (k, s)) (as : List V) (XW : XWt) : PI X tg e (TIx X.K as XW (callF T kd) k s) := by
  have go : ∀ e k s, (f e).map (fun s => (ItK.seq, s)) = some (k, s) → PI X tg e (TIx X.K as XW (callF T kd) k s) := by
    intro e k s h
    cases h2 : f e with
    | none => rw [h2] at h; cases h
    | some t =>
      rw [h2] at h
      cases h
      exact pi_seq ((hf e s h2).1 as XW)
  unfold cI at h
  split at h
  · rename_i x p args pos
    split at h
    · rename_i k' hk
      split at hk
      · rename_i hg
        have hg := ok.gl hg
        cases h2 : cL f args with
        | none => rw [h2] at h; cases h
        | some t =>
          rw [h2] at h
          cases h
          obtain ⟨hs, ha⟩ := cL_ok hf h2
          have ha := ha as XW
          unfold cW at hk
          split at hk
          · rename_i hx
            subst hx
            have hm := ok.blt "range" (by simp [bNames])
            split at hk
            · cases hk
              match args, h2, hs, ha with
              | [], h2, hs, ha => simp_all
              | [a], h2, hs, ha =>
                obtain ⟨sa, rfl⟩ := cL_1 h2
                have hs : isStar a = false := by simpa using hs
                exact pi_rng1 hg hm ha (by rw [star_cons hs]; rfl)
              | [a, b], h2, hs, ha =>
                obtain ⟨sa, sb, rfl⟩ := cL_2 h2
                have hs : isStar a = false ∧ isStar b = false := by simpa using hs
                exact pi_rng2 hg hm ha (by rw [star_cons hs.1, star_cons hs.2]; rfl) (by rw [star_cons hs.2]; rfl)
              | [a, b, d], h2, hs, ha =>
                obtain ⟨sa, sb, sd, rfl⟩ := cL_3 h2
                have hs : isStar a = false ∧ isStar b = false ∧ isStar d = false := by simpa using hs
                exact pi_rng3 hg hm ha (star_cons hs.1 _ _) (star_any (es := [b, d]) (by simp [hs.2.1, hs.2.2]))
              | _ :: _ :: _ :: _ :: _, h2, hs, ha => simp_all
            · cases hk
          · split at hk
            · rename_i hx
              obtain ⟨ht, rfl⟩ := hx
              have hm := ok.blt "enumerate" (by simp [bNames])
              unfold isTupE at ht
              split at ht
              · split at hk
                · cases hk
                  match args, h2, hs, ha with
                  | [a], h2, hs, ha =>
                    obtain ⟨sa, rfl⟩ := cL_1 h2
                    have hs : isStar a = false := by simpa using hs
                    exact pi_en1 hg hm ha (by rw [star_cons hs]; rfl)
                  | [], h2, hs, ha => simp_all
                  | _ :: _ :: _, h2, hs, ha => simp_all
                · split at hk
                  · cases hk
                    match args, h2, hs, ha with
                    | [a, b], h2, hs, ha =>
                      obtain ⟨sa, sb, rfl⟩ := cL_2 h2
                      have hs : isStar a = false ∧ isStar b = false := by simpa using hs
                      exact pi_en2 hg hm ha (star_cons hs.1 _ _) (star_any (es := [b]) (by simp [hs.2]))
                    | [], h2, hs, ha => simp_all
                    | [_], h2, hs, ha => simp_all
                    | _ :: _ :: _ :: _, h2, hs, ha => simp_all
                  · cases hk
              · cases ht
            · split at hk
              · rename_i hx
                obtain ⟨ht, rfl⟩ := hx
                have hm := ok.blt "zip" (by simp [bNames])
                unfold isTupE at ht
                split at ht
                · split at hk
                  · cases hk
                    match args, h2, hs, ha with
                    | [a, b], h2, hs, ha =>
                      obtain ⟨sa, sb, rfl⟩ := cL_2 h2
                      have hs : isStar a = false ∧ isStar b = false := by simpa using hs
                      exact pi_zp hg hm ha (star_cons hs.1 _ _) (star_any (es := [b]) (by simp [hs.2]))
                    | [], h2, hs, ha => simp_all
                    | [_], h2, hs, ha => simp_all
                    | _ :: _ :: _ :: _, h2, hs, ha => simp_all
                  · cases hk
                · cases ht
              · cases hk
      · cases hk
    · exact go _ _ _ h
  · exact go _ _ _ h
end
end Bk
/-! Bk: targets and expressions are right. -/
namespace Bk
open L2 PyProof.Rows PySem.Spec PySem
theorem PG.weak {X : Cx} {e : Expr} {t t' : TG} (h : PG X e t) (w : ∀ v σ H Q, t' v σ H Q → t v σ H Q) : PG X e t' := ⟨fun pins s σ H v u Q I r q => h.run pins s σ H v u Q I r (w v σ H Q q)⟩
theorem PGs.weak {X : Cx} {e : List Expr} {t t' : TGs} (h : PGs X e t) (w : ∀ v σ H Q, t' v σ H Q → t v σ H Q) : PGs X e t' := ⟨fun pins s σ H v u Q I r q => h.run pins s σ H v u Q I r (w v σ H Q q)⟩
section
variable {X : Cx} {c : CC} {T : List Fn} {kd : Nat} {f : Expr → Option E}
theorem cT_form {n : Nat} {e : Expr} {t : Tgt} (h : cT c n e = some t) : (∃ x p, e = .Name x p) ∨ ∃ es k p, e = .Tuple es k p := by
  cases n with
  | zero => cases h
  | succ n =>
    unfold cT at h
    split at h
    · exact .inl ⟨_, _, rfl⟩
    · exact .inr ⟨_, _, _, rfl⟩
    · cases h
theorem bindT_tgt {ok : Nat → Bool} {g : Expr → Option Tgt} : ∀ {es : List Expr} {t : Tgt}, tgt g es = some t → isSeqT t = true ∧ ∀ (ds : List D) (r r' : Env), bindT ok t (.tup ds) r = some r' → ds.length = es.length
  | [], t, h => by
    cases h
    refine ⟨rfl, fun ds r r' hb => ?_⟩
    simp only [bindT] at hb
    split at hb
    · rename_i e; cases e; rfl
    · cases hb
  | e :: es, t, h => by
    unfold tgt at h
    split at h
    · rename_i a b h1 h2
      cases h
      refine ⟨rfl, fun ds r r' hb => ?_⟩
      simp only [bindT] at hb
      split at hb
      · rename_i x xs e2
        cases e2
        split at hb
        · rename_i r1 h3
          rw [List.length_cons, List.length_cons, (bindT_tgt (ok := ok) h2).2 xs r1 r' hb]
        · cases hb
      · cases hb
    · cases h
theorem cT_ok (ok : OkX X c T kd) : ∀ (n : Nat) {e : Expr} {t : Tgt}, cT c n e = some t → ∀ (as : List V) (okf : Nat → Bool), PG X e (GT X.K as okf t)
  | 0, e, t, h => by cases h
  | n + 1, e, t, h => by
    have ih := fun {e t} h => cT_ok ok n (e := e) (t := t) h
    unfold cT at h
    split at h
    · rename_i x p
      split at h
      · rename_i hx
        cases hi : ixOf x c.N with
        | none => rw [hi] at h; cases h
        | some i =>
          rw [hi] at h
          cases h
          intro as okf
          have hloc : locB c.sc x = true := by
            simp only [Bool.or_eq_true, Bool.and_eq_true] at hx
            rcases hx with hx | hx
            · unfold lclB at hx
              unfold locB
              split at hx
              · rename_i e; rw [e]
              · cases hx
            · exact hx.1
          have hl : Loc X.env.scope x := by
            rw [ok.hsc]
            unfold locB at hloc
            split at hloc
            · exact .inl (by assumption)
            · exact .inr (by assumption)
            · cases hloc
          have hfn : X.fn x = true ∨ X.env.scope.names.lookup x = some .local := by
            simp only [Bool.or_eq_true, Bool.and_eq_true] at hx
            rcases hx with hx | hx
            · right
              rw [ok.hsc]
              unfold lclB at hx
              split at hx
              · assumption
              · cases hx
            · exact .inl (ok.fn x hx.2)
          exact PG.weak (pg_name ok.nd (by rw [ok.hN]; exact ixOf_get hi) hl hfn) fun v σ H Q q => gt_name q
      · cases h
    · rename_i es k p
      intro as okf
      have hs : ∀ {es : List Expr} {t : Tgt}, tgt (cT c n) es = some t → PGs X es (GTs X.K as okf t) ∧ (assignEach es X.env).length = es.length ∧ (assignEach es X.env).findIdx? (·.1) = none := by
        intro es
        induction es with
        | nil => intro t h; cases h; exact ⟨PGs.weak pgs_nil fun v σ H Q q => gts_nil q, rfl, rfl⟩
        | cons e es ihs =>
          intro t h
          unfold tgt at h
          split at h
          · rename_i a b h1 h2
            cases h
            obtain ⟨i1, i2, i3⟩ := ihs h2
            have ha : assignEach (e :: es) X.env = (false, assign e X.env) :: assignEach es X.env := by
              rcases cT_form h1 with ⟨x, p, rfl⟩ | ⟨es', k', p', rfl⟩ <;> rfl
            refine ⟨PGs.weak (pgs_cons (ih h1 as okf) i1 (by rw [ha]; rfl)) fun v σ H Q q => gts_cons q, by rw [ha, List.length_cons, i2]; rfl, ?_⟩
            rw [ha, List.findIdx?_cons]
            simp [i3]
          · cases h
      obtain ⟨h1, h2, h3⟩ := hs h
      obtain ⟨h4, h5⟩ := bindT_tgt (ok := okf) h
      exact PG.weak (pg_tup (n := es.length) ok.calm h1 h2 h3) fun v σ H Q q => gt_tup h4 h5 q
    · cases h
theorem OkX.inC (ok : OkX X c T kd) (scope : Scope) (s : Shared) (H : Hp) (C : Addr) (cl : List (Str × Addr)) (fp : List Addr) : OkX (X.blk s H scope (compEnvC scope cl C X.env) fp) (inC c scope) T kd where
  hN := ok.hN
  hsc := by
    show relS scope X.env.scope = relS scope c.sc
    rw [ok.hsc]
  nd := ok.nd
  calm := ok.calm
  gd := ok.gd
  room := ok.room
  blt := ok.blt
  fn := fun x h => h
  held := ok.held
  con := ok.con
  nox := ok.nox
theorem tt_yes {K : PySem.W.Frag} {as : List V} {XW : XWt} {cf : CF} {σ : Sl} {H : Hp} {Q : Bool → Hp → Prop} (h : TTx K as XW cf (.lit (.bl true)) σ H Q) : tYes σ H Q := by
  obtain ⟨Z, W, r, fp, E, h⟩ := h
  have h : ∀ Z' H' fp', EnvOk K as Z' W H' r σ fp' → Keep Z W H Z' H' → Q true H' := h
  exact h Z H fp E Keep.refl
theorem te_lit {K : PySem.W.Frag} {as : List V} {XW : XWt} {cf : CF} {σ : Sl} {H : Hp} {Q : VK} {d : D} {v : V} (hv : atomV d = some v) (h : TE1 K as XW (ev cf (.lit d)) σ H Q) : tC v σ H Q := by
  obtain ⟨Z, W, r, fp, E, h⟩ := h
  simp only [ev] at h
  exact (After.cont h) v Z H fp [] (E.less fun a w => w.elim id fun w => by simp at w) (atom_own hv) List.nodup_nil (by simp) Keep.refl
theorem te_con {K : PySem.W.Frag} {as : List V} {XW : XWt} {cf : CF} {σ : Sl} {H : Hp} {Q : VK} {d : D} {v : V} (hv : ∀ Z H, Own K Z H d 0 v []) (h : TE1 K as XW (ev cf (.lit d)) σ H Q) : tC v σ H Q := by
  obtain ⟨Z, W, r, fp, E, h⟩ := h
  simp only [ev] at h
  exact (After.cont h) v Z H fp [] (E.less fun a w => w.elim id fun w => by simp at w) (hv Z H) List.nodup_nil (by simp) Keep.refl
theorem te_var {K : PySem.W.Frag} {as : List V} {XW : XWt} {cf : CF} {σ : Sl} {H : Hp} {Q : VK} {i : Nat} (h : TE1 K as XW (ev cf (.var i)) σ H Q) : tVar i σ H Q := by
  obtain ⟨Z, W, r, fp, E, h⟩ := h
  simp only [ev] at h
  cases g : getE r i with
  | none => rw [g] at h; exact h.elim
  | some e =>
    rw [g] at h
    obtain ⟨v, hv, _, _⟩ := E.ent i _ g
    obtain ⟨u, e5, q⟩ := h [v] Z H fp [] (E.less fun a w => w.elim id fun w => by simp at w) ⟨v, [], rfl, hv, rfl, rfl⟩ List.nodup_nil (by simp) Keep.refl
    cases e5
    exact ⟨v, hv, q⟩
theorem snd_val {e : Expr} {s : E} (h : ∀ as XW, PE X e (TE1' X as XW (callF T kd) s)) (he : ∀ whole, isTrue e X.env whole = (do let v ← whole; standAt e.pos; holding [v] (truthy v))) : SndE X T kd e s :=
  ⟨h, fun as XW => tb_val (h as XW) he⟩
theorem cCmp_ok (ok : OkX X c T kd) (hf : ∀ e s, f e = some s → SndE X T kd e s) {a b : Expr} {op : CmpOp} {pos : Pos} {s : E} (h : cCmp f a op b = some s) : SndE X T kd (.Compare a [op] [b] pos) s := by
  unfold cCmp at h
  split at h
  · cases h2 : f a with
    | none => rw [h2] at h; cases h
    | some t => rw [h2] at h; cases h; exact ⟨fun as XW => eb_isN ((hf a _ h2).1 as XW), fun as XW => tb_isN ((hf a _ h2).1 as XW)⟩
  · cases h2 : f a with
    | none => rw [h2] at h; cases h
    | some t => rw [h2] at h; cases h; exact ⟨fun as XW => eb_notN ((hf a _ h2).1 as XW), fun as XW => tb_notN ((hf a _ h2).1 as XW)⟩
  · split at h
    · cases h
    · rename_i hm
      split at h
      · rename_i o s t h1 h2 h3
        cases h
        have hm : behindInMarks op b = false := by simpa using hm
        exact ⟨fun as XW => eb_cmp ok.room h1 ((hf a _ h2).1 as XW) ((hf b _ h3).1 as XW) hm, fun as XW => tb_cmp ok.room h1 ((hf a _ h2).1 as XW) ((hf b _ h3).1 as XW) hm⟩
      · cases h
theorem rngA_at {c : CC} {args es : List Expr} (h : rngA c args = some es) : ∃ p2 pos2, args = [.Call (.Name "range" p2) es [] pos2] ∧ glB c.sc "range" = true := by
  unfold rngA at h
  split at h
  · split at h
    · rename_i hc
      cases h
      obtain ⟨rfl, hg⟩ := hc
      exact ⟨_, _, rfl, hg⟩
    · cases h
  · cases h
theorem cCall_ok (ok : OkX X c T kd) (hf : ∀ e s, f e = some s → SndE X T kd e s) {x : Str} {args : List Expr} {kws : List Keyword} {p pos : Pos} {s : E} (h : cCall f c x args kws = some s) : ∀ as XW, PE X (.Call (.Name x p) args kws pos) (TE1' X as XW (callF T kd) s) := by
  intro as XW
  unfold cCall at h
  split at h
  · cases h
  · rename_i hg
    have hg : Gl X x := ok.gl (by simpa using hg)
    split at h
    · split at h
      · rename_i hx
        subst hx
        cases h2 : isaArgs c args with
        | none => rw [h2] at h; cases h
        | some q =>
          rw [h2] at h
          obtain ⟨a, n⟩ := q
          have h : (f a).map (fun s => E.op (.isT n) (.cons s .nil)) = some s := h
          cases h3 : f a with
          | none => rw [h3] at h; cases h
          | some t =>
            rw [h3] at h
            cases h
            unfold isaArgs at h2
            split at h2
            · rename_i a' T' p'
              split at h2
              · rename_i hc
                simp only [Bool.and_eq_true, Bool.not_eq_true'] at hc
                cases h4 : isaOf T' with
                | none => rw [h4] at h2; cases h2
                | some m =>
                  rw [h4] at h2
                  cases h2
                  have hmem : T' ∈ bNames := by
                    unfold isaOf at h4
                    repeat' (split at h4)
                    all_goals first | (subst_vars; simp [bNames]; done) | cases h4
                  exact eb_isa h4 hg (ok.blt _ (by simp [bNames])) (ok.gl hc.1) (ok.blt _ hmem) ((hf _ _ h3).1 as XW) hc.2
              · cases h2
            · cases h2
      · split at h
        · rename_i hx
          subst hx
          split at h
          · rename_i es hes
            obtain ⟨p2, pos2, he, hgr⟩ := rngA_at hes
            subst he
            have hmr := ok.blt "range" (by simp [bNames])
            have hmt := ok.blt "tuple" (by simp [bNames])
            unfold cRng at h
            split at h
            · rename_i a
              split at h
              · cases h
              · rename_i hs
                cases h3 : f a with
                | none => rw [h3] at h; cases h
                | some t =>
                  rw [h3] at h
                  cases h
                  exact eb_trg1 ok.calm hg hmt (ok.gl hgr) hmr ((hf _ _ h3).1 as XW) (by simpa using hs)
            · rename_i a b
              split at h
              · cases h
              · rename_i hs
                split at h
                · rename_i h3 h4
                  cases h
                  have hs : isStar a = false ∧ isStar b = false := by simpa using hs
                  exact eb_trg2 ok.calm hg hmt (ok.gl hgr) hmr ((hf _ _ h3).1 as XW) ((hf _ _ h4).1 as XW) hs.1 hs.2
                · cases h
            · cases h
          · split at h
            · rename_i a _
              split at h
              · cases h
              · rename_i hs
                cases h3 : f a with
                | none => rw [h3] at h; cases h
                | some t =>
                  rw [h3] at h
                  cases h
                  exact eb_tuple hg (ok.blt _ (by simp [bNames])) ((hf _ _ h3).1 as XW) (by simpa using hs)
            · cases h
        · split at h
          · rename_i hx
            obtain ⟨rfl, hsm⟩ := hx
            clear hsm
            split at h
            · rename_i es hes
              obtain ⟨p2, pos2, he, hgr⟩ := rngA_at hes
              subst he
              have hmr := ok.blt "range" (by simp [bNames])
              have hmt := ok.blt "list" (by simp [bNames])
              unfold cRng at h
              split at h
              · rename_i a
                split at h
                · cases h
                · rename_i hs
                  cases h3 : f a with
                  | none => rw [h3] at h; cases h
                  | some t =>
                    rw [h3] at h
                    cases h
                    exact eb_lrg1 ok.calm hg hmt (ok.gl hgr) hmr ((hf _ _ h3).1 as XW) (by simpa using hs)
              · rename_i a b
                split at h
                · cases h
                · rename_i hs
                  split at h
                  · rename_i h3 h4
                    cases h
                    have hs : isStar a = false ∧ isStar b = false := by simpa using hs
                    exact eb_lrg2 ok.calm hg hmt (ok.gl hgr) hmr ((hf _ _ h3).1 as XW) ((hf _ _ h4).1 as XW) hs.1 hs.2
                  · cases h
              · cases h
            · cases h
          · split at h
            · rename_i o ho
              split at h
              · cases h
              · rename_i hne
                cases h3 : cL f args with
                | none => rw [h3] at h; cases h
                | some t =>
                  rw [h3] at h
                  cases h
                  obtain ⟨q1, q2⟩ := cL_ok hf h3
                  have hmem := fndB_mem ho
                  match args, hne, q1, q2, hmem with
                  | [], hne, _, _, _ => exact absurd rfl hne
                  | e :: es, _, q1, q2, hmem => exact eb_tab ok.calm ok.gd ok.room hmem hg (ok.blt _ (bName_of hmem)) rfl (q2 as XW) q1
            · split at h
              · cases h
              · rename_i hd
                have hd := dbg_of (x := x) (by simpa using hd)
                split at h
                · rename_i i hi
                  cases h3 : cL f args with
                  | none => rw [h3] at h; cases h
                  | some t =>
                    rw [h3] at h
                    cases h
                    obtain ⟨q1, q2⟩ := cL_ok hf h3
                    obtain ⟨fa, fd, ps, hm, hk, hb, F⟩ := ok.held i x (ixOf_get hi)
                    have hx : Passes cx0 X (fun _ _ _ => False) := fun _ _ _ _ _ _ _ q => q.elim
                    match args, q1, q2 with
                    | [], _, q2 =>
                      refine PE.weak (pe_callG0 F ok.gd ok.room hg hm hk hb hx hd.1) fun σ H Q h => ?_
                      have h4 := te_call (E := fun _ _ _ => False) h ok.nox
                      cases h3
                      exact tas_nil h4
                    | e :: es, q1, q2 =>
                      rw [List.any_cons, Bool.or_eq_false_iff] at q1
                      exact PE.weak (pe_callG F ok.gd ok.room hg hm hk hb hx (q2 as XW) hd.1 (star_cons q1.1 es _) (star_any q1.2)) fun σ H Q h => te_call (E := fun _ _ _ => False) h ok.nox
                · cases h
    · split at h
      · rename_i hx
        obtain ⟨rfl, hk⟩ := hx
        split at h
        · rename_i a
          split at h
          · cases h
          · rename_i hs
            cases h3 : f a with
            | none => rw [h3] at h; cases h
            | some t =>
              rw [h3] at h
              cases h
              unfold revKw at hk
              split at hk
              · rename_i k j p1 p2
                replace hk := of_decide_eq_true hk
                subst hk
                exact eb_sortR hg (ok.blt _ (by simp [bNames])) ((hf _ _ h3).1 as XW) (by simpa using hs)
              · cases hk
        · cases h
      · cases h
theorem sl_ok (hf : ∀ e s, f e = some s → SndE X T kd e s) {a : Expr} {lo hi : Option Expr} {s : E} {pos p2 : Pos} (h : sl f a lo hi = some s) : ∀ as XW, PE X (.Subscript a (.Slice lo hi none p2) pos) (TE1' X as XW (callF T kd) s) := by
  intro as XW
  unfold sl at h
  split at h
  · cases h2 : f a with
    | none => rw [h2] at h; cases h
    | some t => rw [h2] at h; cases h; exact eb_sl00 ((hf a _ h2).1 as XW)
  · split at h
    · rename_i h1 h2; cases h; exact eb_sl10 ((hf a _ h1).1 as XW) ((hf _ _ h2).1 as XW)
    · cases h
  · split at h
    · rename_i h1 h2; cases h; exact eb_sl01 ((hf a _ h1).1 as XW) ((hf _ _ h2).1 as XW)
    · cases h
  · split at h
    · rename_i h1 h2 h3; cases h; exact eb_sl11 ((hf a _ h1).1 as XW) ((hf _ _ h2).1 as XW) ((hf _ _ h3).1 as XW)
    · cases h
theorem plainIx_of {b : Expr} (h : notSlice b = true) : PlainIx b := by
  intro o i
  cases b <;> first | rfl | cases h
theorem rcv_base {o : Expr} (h : plainRcv o = true) (m : Str) (env : PySem.Env) : attributeBase o m env (eval o env) = eval o env := by
  cases o <;> first | rfl | cases h
theorem cMeth_ok (ok : OkX X c T kd) (hf : ∀ e s, f e = some s → SndE X T kd e s) {o a : Expr} {m : Str} {apos cpos : Pos} {s : E} (h : cMeth f o m a (apos.endLine == cpos.line) = some s) : SndE X T kd (.Call (.Attribute o m apos) [a] [] cpos) s := by
  unfold cMeth at h
  split at h
  · rename_i hc
    simp only [Bool.and_eq_true, Bool.not_eq_true'] at hc
    split at h
    · rename_i h1 h2 h3
      split at h
      · rename_i hs
        cases h
        exact snd_val (fun as XW => eb_meth ok.room h1 ((hf _ _ h2).1 as XW) ((hf _ _ h3).1 as XW) hs hc.2 (rcv_base hc.1.2 _ _) hc.1.1) fun _ => rfl
      · cases h
    · cases h
  · cases h
theorem pt_ifE {t a b : Expr} {tc ta tb : TT} {pos : Pos} (hc : PT X t tc) (ha : PT X a ta) (hb : PT X b tb) : PT X (.IfExp t a b pos) (fun σ H Q => tc σ H fun k H1 => if k = true then ta σ H1 Q else tb σ H1 Q) := by
  refine ⟨fun pins s σ H Q I h => ?_⟩
  show wpAny _ _ (do if ← isTrue t X.env (eval t X.env) then isTrue a X.env (eval a X.env) else isTrue b X.env (eval b X.env)) _ _ s
  refine wpAny_bind (thn (hc.run pins s σ H _ I h) fun k s1 ⟨H1, I1, q1⟩ => ?_)
  cases k with
  | true => exact ha.run pins s1 σ H1 Q I1 q1
  | false => exact hb.run pins s1 σ H1 Q I1 q1
theorem cE_ok : ∀ (n : Nat) (c : CC) (X : Cx) (e : Expr) (s : E), OkX X c T kd → cE n c e = some s → SndE X T kd e s
  | 0, c, X, e, s, ok, h => by cases h
  | n + 1, c, X, e, s, ok, h => by
    have ih : ∀ e s, cE n c e = some s → SndE X T kd e s := fun e s h => cE_ok n c X e s ok h
    rw [cE.eq_def] at h
    simp only at h
    split at h
    · cases h; exact snd_val (fun as XW => PE.weak pe_int fun σ H Q h => te_lit rfl h) fun _ => rfl
    · cases h; exact snd_val (fun as XW => PE.weak pe_bl fun σ H Q h => te_lit rfl h) fun _ => rfl
    · cases h; exact snd_val (fun as XW => PE.weak pe_non fun σ H Q h => te_lit rfl h) fun _ => rfl
    · cases h; exact snd_val (fun as XW => PE.weak pe_str fun σ H Q h => te_lit rfl h) fun _ => rfl
    · rename_i x p
      split at h
      · rename_i hx
        simp only [Bool.and_eq_true, Bool.not_eq_true'] at hx
        cases hi : ixOf x c.N with
        | none => rw [hi] at h; cases h
        | some i =>
          rw [hi] at h
          cases h
          exact snd_val (fun as XW => PE.weak (ok.name hx.1 hx.2 hi) fun σ H Q h => te_var h) fun _ => rfl
      · split at h
        · rename_i hx
          rw [Bool.and_eq_true, Bool.not_eq_true'] at hx
          cases hi : gcOf x c.GC with
          | none => rw [hi] at h; cases h
          | some d =>
            rw [hi] at h
            cases h
            obtain ⟨v, u, h1, h2, h3⟩ := ok.con x d hi
            exact snd_val (fun as XW => PE.weak (C8.pe_gc (ok.gl hx.1) ⟨u, h1, h2⟩ (dbg_of hx.2).1) fun σ H Q h => te_con h3 h) fun _ => rfl
        · cases h
    · split at h
      · rename_i h1 h2 h3
        cases h
        exact snd_val (fun as XW => eb_bin h1 ((ih _ _ h2).1 as XW) ((ih _ _ h3).1 as XW)) fun _ => rfl
      · cases h
    · rename_i a p
      cases h2 : cE n c a with
      | none => rw [h2] at h; cases h
      | some t => rw [h2] at h; cases h; exact ⟨fun as XW => eb_not ((ih _ _ h2).1 as XW), fun as XW => tb_not ((ih _ _ h2).2 as XW)⟩
    · rename_i a p
      cases h2 : cE n c a with
      | none => rw [h2] at h; cases h
      | some t => rw [h2] at h; cases h; exact snd_val (fun as XW => eb_neg ((ih _ _ h2).1 as XW)) fun _ => rfl
    · obtain ⟨q1, q2⟩ := cB_ok ih h
      exact ⟨q1, fun as XW => (q2 as XW).pt⟩
    · exact cCmp_ok ok ih h
    · split at h
      · rename_i h1 h2 h3 h4 h5
        cases h
        exact ⟨fun as XW => eb_chain h1 h2 ((ih _ _ h3).1 as XW) ((ih _ _ h4).1 as XW) ((ih _ _ h5).1 as XW), fun as XW => tb_chain h1 h2 ((ih _ _ h3).1 as XW) ((ih _ _ h4).1 as XW) ((ih _ _ h5).1 as XW)⟩
      · cases h
    · split at h
      · rename_i h1 h2 h3
        cases h
        exact ⟨fun as XW => eb_ite ((ih _ _ h1).2 as XW) ((ih _ _ h2).1 as XW) ((ih _ _ h3).1 as XW), fun as XW => PT.weak (pt_ifE ((ih _ _ h1).2 as XW) ((ih _ _ h2).2 as XW) ((ih _ _ h3).2 as XW)) fun σ H Q h => tt_ite h⟩
      · cases h
    · rename_i es k p
      cases h2 : cL (cE n c) es with
      | none => rw [h2] at h; cases h
      | some t => rw [h2] at h; cases h; exact snd_val (fun as XW => PE.weak (pe_tup ((cL_ok ih h2).2 as XW)) fun σ H Q h => te_mkt h) fun _ => rfl
    · rename_i es p
      cases h2 : cL (cE n c) es with
      | none => rw [h2] at h; cases h
      | some t => rw [h2] at h; cases h; exact snd_val (fun as XW => PE.weak (pe_lst ((cL_ok ih h2).2 as XW)) fun σ H Q h => te_mkl h) fun _ => rfl
    · rename_i a k j p3 p4 p2 pos
      split at h
      · rename_i hk
        subst hk
        cases h2 : cE n c a with
        | none => rw [h2] at h; cases h
        | some t => rw [h2] at h; cases h; exact snd_val (fun as XW => eb_rev ((ih _ _ h2).1 as XW)) fun _ => rfl
      · cases h
    · rename_i a k j p3 p2 pos
      split at h
      · rename_i hk
        subst hk
        cases h2 : cE n c a with
        | none => rw [h2] at h; cases h
        | some t => rw [h2] at h; cases h; exact snd_val (fun as XW => eb_even ((ih _ _ h2).1 as XW)) fun _ => rfl
      · cases h
    · rename_i a l j p3 k j2 p4 p2 pos
      split at h
      · rename_i hk
        obtain ⟨rfl, rfl⟩ := hk
        cases h2 : cE n c a with
        | none => rw [h2] at h; cases h
        | some t => rw [h2] at h; cases h; exact snd_val (fun as XW => eb_odd ((ih _ _ h2).1 as XW)) fun _ => rfl
      · cases h
    · exact snd_val (sl_ok ih h) fun _ => rfl
    · split at h
      · rename_i hs
        split at h
        · rename_i h1 h2
          cases h
          exact snd_val (fun as XW => eb_idx ((ih _ _ h1).1 as XW) ((ih _ _ h2).1 as XW) (plainIx_of hs)) fun _ => rfl
        · cases h
      · cases h
    · exact snd_val (cCall_ok ok ih h) fun _ => rfl
    · rename_i x p m apos cpos
      split at h
      · rename_i hx
        obtain ⟨rfl, hl, hv, hd⟩ := hx
        cases hi : ixOf x c.N with
        | none => rw [hi] at h; cases h
        | some i => rw [hi] at h; cases h; exact snd_val (fun as XW => eb_pop0 (ok.name hv hd hi) hl) fun _ => rfl
      · cases h
    · rename_i x p m apos a cpos
      split at h
      · rename_i hx
        obtain ⟨rfl, hl, hv, hd, hs⟩ := hx
        split at h
        · rename_i i s hi h2
          cases h
          exact snd_val (fun as XW => eb_pop1 (ok.name hv hd hi) hl ((ih _ _ h2).1 as XW) hs) fun _ => rfl
        · cases h
      · exact cMeth_ok ok ih h
    · rename_i s j p m apos a cpos
      split at h
      · rename_i hx
        obtain ⟨rfl, hl, hs⟩ := hx
        cases h2 : cE n c a with
        | none => rw [h2] at h; cases h
        | some t => rw [h2] at h; cases h; exact snd_val (fun as XW => eb_join pe_str ((ih _ _ h2).1 as XW) hs hl) fun _ => rfl
      · cases h
    · exact cMeth_ok ok ih h
    · rename_i elt tg iter ifs scope pos
      split at h
      · rename_i hc
        simp only [Bool.and_eq_true] at hc
        obtain ⟨hb, hns⟩ := hc
        split at h
        · rename_i p t cc u h1 h2 h3 h4
          cases h
          obtain ⟨k, s0⟩ := p
          have hblk : BlkOk X.N X.env.scope scope (ownF c.N scope.names) := by
            rw [ok.hN, ok.hsc]; exact blkOk_by hb
          have hI : ∀ as XW, PI X tg iter (TIx X.K as XW (callF T kd) k s0) := fun as XW => cI_ok ok ih h1 as XW
          have hset : ∀ x, foldedSetIterable iter X.env x = pure x := by
            intro x
            cases iter <;> first | rfl | cases hns
          have ihc : ∀ (s : Shared) (H : Hp) (C : Addr) (cl : List (Str × Addr)) (fp : List Addr) e s', cE n (inC c scope) e = some s' → SndE (X.blk s H scope (compEnvC scope cl C X.env) fp) T kd e s' := fun s H C cl fp e s' h => cE_ok n _ _ e s' (ok.inC scope s H C cl fp) h
          refine snd_val (fun as XW => PE.weak (pe_lc (tt := TTx X.K as nX (callF T kd) cc) ok.calm ok.nd (hI as XW) hblk (fun s H C cl fp => cT_ok (ok.inC scope s H C cl fp) n h2 as _) (fun s H C cl fp => ?_) (fun s H C cl fp => (ihc s H C cl fp _ _ h4).1 as nX) hset) fun σ H Q h => te_comp h) fun _ => rfl
          unfold cIf at h3
          split at h3
          · cases h3
            exact ⟨fun pins s2 σ H2 Q I q => pts_nil.run pins s2 σ H2 Q I (tt_yes q)⟩
          · exact pts_one ((ihc s H C cl fp _ _ h3).2 as nX)
          · cases h3
        · cases h
      · cases h
    · cases h
end
end Bk
/-! Bk: statements. -/
namespace Bk
open L2 PyProof.Rows PySem.Spec PySem
def notComp : Expr → Bool
  | .ListComp _ _ _ _ => false
  | .SetComp _ _ _ _ => false
  | .DictComp _ _ _ _ _ => false
  | _ => true
def notTup : Expr → Bool
  | .Tuple _ _ _ => false
  | _ => true
def isFun (sc : Scope) : Bool :=
  match sc.kind with
  | .function => true
  | _ => false
def iopOf : Operator → Option Op
  | .Add => some .add | .Sub => some .sub | .Mult => some .imul | .FloorDiv => some .fdiv | .Mod => some .mod
  | .LShift => some .shl | .RShift => some .shr | .BitAnd => some .band
  | _ => none
def isVar : E → Bool
  | .var _ => true
  | _ => false
def cSs (g : Stmt → Option S) : List Stmt → Option S
  | [] => some .skip
  | [s] => g s
  | s :: s2 :: r =>
    match g s, cSs g (s2 :: r) with
    | some a, some b => some (.seq a b)
    | _, _ => none
/-- a name that is stored: its slot -/
def stN (c : CC) (x : Str) : Option Nat := if (lclB c.sc x || (locB c.sc x && c.fn x)) = true then ixOf x c.N else none
def cS (m : Nat) (c : CC) : Nat → Stmt → Option S
  | 0, _ => none
  | n + 1, st =>
    match st with
    | .Pass _ => some .skip
    | .Expr (.Constant (.str _) _ _) _ => some .skip
    | .Expr (.Call (.Attribute (.Name x _) k apos) [a] [] cpos) _ => if (apos.endLine == cpos.line) = true ∧ visB c.sc x = true ∧ dbgB x = false ∧ isStar a = false then
        match ixOf x c.N, cE m c a with
        | some i, some s => if k = "append" then some (.app i s) else if k = "extend" then some (.ext i s) else if k = "pop" then some (.ex (.pop i (.cons s .nil))) else none
        | _, _ => none
      else none
    | .Expr e _ => if notComp e then (cE m c e).map .ex else none
    | .Return (some (.Name x _)) _ => if visB c.sc x && !dbgB x then (ixOf x c.N).map fun i => .ret (.var i) else none
    | .Return (some e) _ =>
      match cE m c e with
      | some s => if isVar s then none else some (.ret s)
      | none => none
    | .Return none _ => some (.ret (.lit .non))
    | .If t a b _ =>
      match cE m c t, cSs (cS m c n) a, cSs (cS m c n) b with
      | some s, some u, some v => some (.ite s u v)
      | _, _, _ => none
    | .While t b [] _ =>
      match cE m c t, cSs (cS m c n) b with
      | some s, some u => some (.whl s u)
      | _, _ => none
    | .For tg it b [] _ => if notSet it then
        match cT c m tg, cI (cE m c) c tg it, cSs (cS m c n) b with
        | some t, some p, some u => some (.for t p.1 p.2 u)
        | _, _, _ => none
      else none
    | .Assign [.Name x p] (.ListComp elt [⟨tg, iter, ifs, 0⟩] scope cp) _ =>
      if isFun c.sc && lclB c.sc x && (p.line == cp.line) && !(scope.names.any fun (n, k) => n == x && (k == .local || k == .cell)) then
        match ixOf x c.N, cE m c (.ListComp elt [⟨tg, iter, ifs, 0⟩] scope cp) with
        | some i, some s => some (.set (.nm i) s)
        | _, _ => none
      else if lclB c.sc x = false then
        match stN c x, cE m c (.ListComp elt [⟨tg, iter, ifs, 0⟩] scope cp) with
        | some i, some s => some (.set (.nm i) s)
        | _, _ => none
      else none
    | .Assign [.Name x p] e _ => if notComp e then
        match stN c x, cE m c e with
        | some i, some s => some (.set (.nm i) s)
        | _, _ => none
      else none
    | .Assign [.Tuple es k p] e _ => if notTup e then
        match cT c m (.Tuple es k p), cE m c e with
        | some t, some s => some (.set t s)
        | _, _ => none
      else none
    | .Assign [.Subscript (.Name x _) ix _] e _ => if visB c.sc x && !dbgB x && notSlice ix then
        match ixOf x c.N, cE m c ix, cE m c e with
        | some i, some s, some t => some (.setI i s t)
        | _, _, _ => none
      else none
    | .AugAssign (.Name x _) op e _ =>
      match iopOf op, stN c x, cE m c e with
      | some o, some i, some s => some (.aug i o s)
      | _, _, _ => none
    | _ => none
section
variable {X : Cx} {c : CC} {T : List Fn} {kd : Nat}
def SndS (X : Cx) (T : List Fn) (kd : Nat) (st : Stmt) (s : S) : Prop := ∀ as XW, PS X st (TSx X.K as XW (ex (callF T kd) s))
theorem cSs_ok {g : Stmt → Option S} (hg : ∀ st s, g st = some s → SndS X T kd st s) : ∀ {sts : List Stmt} {s : S}, cSs g sts = some s → ∀ as XW, PSs X sts (TSx X.K as XW (ex (callF T kd) s))
  | [], s, h, as, XW => by cases h; exact PSs.weak pss_nil fun D σ H h => st_skip h
  | [st], s, h, as, XW => pss_one (hg st s h as XW)
  | st :: s2 :: r, s, h, as, XW => by
    unfold cSs at h
    split at h
    · rename_i a b h1 h2
      cases h
      exact PSs.weak (pss_cons (hg st a h1 as XW) (cSs_ok hg h2 as XW)) fun D σ H h => st_seq h
    · cases h
theorem stN_ok (ok : OkX X c T kd) {x : Str} {i : Nat} (h : stN c x = some i) : X.N[i]? = some x ∧ Loc X.env.scope x ∧ (X.fn x = true ∨ X.env.scope.names.lookup x = some .local) := by
  unfold stN at h
  split at h
  · rename_i hx
    have hloc : locB c.sc x = true := by
      simp only [Bool.or_eq_true, Bool.and_eq_true] at hx
      rcases hx with hx | hx
      · unfold lclB at hx
        unfold locB
        split at hx
        · rename_i e; rw [e]
        · cases hx
      · exact hx.1
    refine ⟨by rw [ok.hN]; exact ixOf_get h, ?_, ?_⟩
    · rw [ok.hsc]
      unfold locB at hloc
      split at hloc
      · exact .inl (by assumption)
      · exact .inr (by assumption)
      · cases hloc
    · simp only [Bool.or_eq_true, Bool.and_eq_true] at hx
      rcases hx with hx | hx
      · right
        rw [ok.hsc]
        unfold lclB at hx
        split at hx
        · assumption
        · cases hx
      · exact .inl (ok.fn x hx.2)
  · cases h
theorem lc_parts (ok : OkX X c T kd) {n : Nat} {elt tg iter : Expr} {ifs : List Expr} {scope : Scope} {pos : Pos} {s : E} (h : cE n c (.ListComp elt [⟨tg, iter, ifs, 0⟩] scope pos) = some s) :
    ∃ (own : List (Str × Nat)) (k : ItK) (s0 : E) (t : Tgt) (cc u : E), s = .comp (own.map (·.2)) k s0 t cc u ∧ BlkOk X.N X.env.scope scope own ∧ (∀ as XW, PI X tg iter (TIx X.K as XW (callF T kd) k s0)) ∧
      (∀ as okf, ∀ (s : Shared) (H : Hp) (C : Addr) (cl : List (Str × Addr)) (fp : List Addr), PG (X.blk s H scope (compEnvC scope cl C X.env) fp) tg (GT X.K as okf t)) ∧
      (∀ as, ∀ (s : Shared) (H : Hp) (C : Addr) (cl : List (Str × Addr)) (fp : List Addr), PTs (X.blk s H scope (compEnvC scope cl C X.env) fp) ifs (TTx X.K as nX (callF T kd) cc)) ∧
      (∀ as, ∀ (s : Shared) (H : Hp) (C : Addr) (cl : List (Str × Addr)) (fp : List Addr), PE (X.blk s H scope (compEnvC scope cl C X.env) fp) elt (TE1 X.K as nX (ev (callF T kd) u))) ∧ ∀ x, foldedSetIterable iter X.env x = pure x := by
  cases n with
  | zero => cases h
  | succ n =>
    rw [cE.eq_def] at h
    simp only at h
    split at h
    · rename_i hc
      simp only [Bool.and_eq_true] at hc
      obtain ⟨hb, hns⟩ := hc
      split at h
      · rename_i p t cc u h1 h2 h3 h4
        cases h
        obtain ⟨k, s0⟩ := p
        have ihc : ∀ (s : Shared) (H : Hp) (C : Addr) (cl : List (Str × Addr)) (fp : List Addr) e s', cE n (inC c scope) e = some s' → SndE (X.blk s H scope (compEnvC scope cl C X.env) fp) T kd e s' := fun s H C cl fp e s' h => cE_ok n _ _ e s' (ok.inC scope s H C cl fp) h
        refine ⟨ownF c.N scope.names, k, s0, t, cc, u, rfl, by rw [ok.hN, ok.hsc]; exact blkOk_by hb, fun as XW => cI_ok ok (fun e s h => cE_ok n c X e s ok h) h1 as XW, fun as okf s H C cl fp => cT_ok (ok.inC scope s H C cl fp) n h2 as okf, fun as s H C cl fp => ?_,
          fun as s H C cl fp => (ihc s H C cl fp _ _ h4).1 as nX, fun x => by cases iter <;> first | rfl | cases hns⟩
        unfold cIf at h3
        split at h3
        · cases h3
          exact ⟨fun pins s2 σ H2 Q I q => pts_nil.run pins s2 σ H2 Q I (tt_yes q)⟩
        · exact pts_one ((ihc s H C cl fp _ _ h3).2 as nX)
        · cases h3
      · cases h
    · cases h
/-- (..) = e -/
theorem st_sett {K : PySem.W.Frag} {as : List V} {XW : XWt} {cf : CF} {σ : Sl} {H : Hp} {t : Tgt} {e : E} {D : Ends} (ht : isSeqT t = true) (h : TSx K as XW (ex cf (.set t e)) D σ H) : tAsg (TE1 K as XW (ev cf e)) (GT K as (fun _ => true) t) D σ H := by
  obtain ⟨Z, W, r, fp, E, h⟩ := h
  have h2 : FlOk K as XW Z W H D ((ev cf e r).bind fun x => (Out.of (one x.1 x.2)).bind fun y => (Out.of (bindT (fun _ => true) t y.1 y.2.2)).bind fun r' => .val (.nx r')) := by
    cases t with
    | nm i => cases ht
    | nil => exact h
    | cons a b => exact h
  refine te_one (F := fun y => (Out.of (bindT (fun _ => true) t y.1 y.2.2)).bind fun r' => .val (.nx r')) (D := D) ⟨Z, W, r, fp, E, h2⟩ ?_
  intro Z W r fp fq d l v H1 E o nd nw h
  simp only at h
  cases e1 : bindT (fun _ => true) t d r with
  | none => rw [e1] at h; exact h.elim
  | some r' =>
    rw [e1] at h
    have Ef := E.frz nw
    have of := o.freeze (Z' := orL Z fq) (fun a z => .inl z) fun a m => .inr m
    exact ⟨orL Z fq, W, r, fp, d, r', Ef, of, e1, fun σ' fp' E' _ => h σ' _ H1 fp' E' keep_more⟩
/-- in place -/
theorem rdi {op : Operator} {o : Op} (h : iopOf op = some o) : ∃ r : R2, OpR X (inplaceOp op) r ∧ ∀ {as : List V} {σ : Sl} {x y : V} {H : Hp} {Q : VK}, (∀ a, x ≠ .ref a) → OpK X.K as σ (keepO o) (opG o) [x, y] H Q → r x y H Q := by
  cases op <;> simp only [iopOf, Option.some.injEq, reduceCtorEq] at h <;> subst h
  · refine ⟨_, orr iop_add iop_add_str, fun {as σ x y H Q} hx q => ?_⟩
    rcases rd_add q with q | q | ⟨a, _, _, _, e, _⟩ | ⟨a, _, _, _, e, _⟩
    · exact .inl q
    · exact .inr q
    · exact absurd e (hx a)
    · exact absurd e (hx a)
  · exact ⟨_, iop_sub, fun hx q => rd_sub q⟩
  · exact ⟨_, iop_mul, fun hx q => rd_imul q⟩
  · exact ⟨_, iop_mod, fun hx q => rd_mod q⟩
  · exact ⟨_, iop_shl, fun hx q => rd_shl q⟩
  · exact ⟨_, iop_shr, fun hx q => rd_shr q⟩
  · exact ⟨_, iop_and, fun hx q => rd_band q⟩
  · exact ⟨_, iop_fdiv, fun hx q => rd_fdiv q⟩
theorem sw_false {e : Expr} (h : notComp e = true) (t : Option Expr) (l : Nat) (env : PySem.Env) : swapsWith e t l env = pure false := by
  cases e <;> first | rfl | cases h
theorem sw_cell {elt : Expr} {gs : List Comprehension} {scope : Scope} {pos py : Pos} {y : Str} {l : Nat} {env : PySem.Env} (hy : env.scope.names.lookup y ≠ some .local) : swapsWith (.ListComp elt gs scope pos) (some (.Name y py)) l env = pure false := by
  have e : (env.kindOf y == some NameKind.local) = false := by
    have h2 : env.kindOf y ≠ some NameKind.local := hy
    simpa using h2
  unfold swapsWith
  simp only [e, Bool.and_false, Bool.false_and] <;> rfl
theorem cS_ok (ok : OkX X c T kd) (own : PassesOwn (model X.prog X.w) X.A X.env X.xe) (m : Nat) : ∀ (n : Nat) (st : Stmt) (s : S), cS m c n st = some s → SndS X T kd st s
  | 0, st, s, h => by cases h
  | n + 1, st, s, h => by
    have ih : ∀ st s, cS m c n st = some s → SndS X T kd st s := fun st s h => cS_ok ok own m n st s h
    have ie : ∀ e s, cE m c e = some s → SndE X T kd e s := fun e s h => cE_ok m c X e s ok h
    intro as XW
    rw [cS.eq_def] at h
    simp only at h
    split at h
    · cases h; exact PS.weak ps_pass fun D σ H h => st_skip h
    · cases h; exact PS.weak ps_doc fun D σ H h => st_skip h
    · rename_i x p k apos a cpos pos
      split at h
      · rename_i hc
        obtain ⟨hl, hv, hd, hs⟩ := hc
        split at h
        · rename_i i s' hi h2
          have hn : PE X (.Name x p) (tVar i) := ok.name hv hd hi
          split at h
          · rename_i hk
            subst hk
            cases h
            exact sb_app hn hl ((ie _ _ h2).1 as XW) hs
          · split at h
            · rename_i hk
              subst hk
              cases h
              exact sb_ext hn hl ((ie _ _ h2).1 as XW) hs
            · split at h
              · rename_i hk
                subst hk
                cases h
                exact PS.weak (ps_expr (eb_pop1 hn hl ((ie _ _ h2).1 as XW) hs) rfl) fun D σ H h => st_ex h
              · cases h
        · cases h
      · cases h
    · rename_i e p _ _
      split at h
      · rename_i hc
        cases h2 : cE m c e with
        | none => rw [h2] at h; cases h
        | some t =>
          rw [h2] at h
          cases h
          exact PS.weak (ps_expr ((ie _ _ h2).1 as XW) (sw_false hc _ _ _)) fun D σ H h => st_ex h
      · cases h
    · rename_i x p pos
      split at h
      · rename_i hx
        simp only [Bool.and_eq_true, Bool.not_eq_true'] at hx
        cases hi : ixOf x c.N with
        | none => rw [hi] at h; cases h
        | some i =>
          rw [hi] at h
          cases h
          exact PS.weak (ps_ret (ok.name hx.1 hx.2 hi)) fun D σ H h => st_retv h
      · cases h
    · rename_i e p _
      split at h
      · rename_i t h2
        split at h
        · cases h
        · rename_i hv
          cases h
          exact PS.weak (ps_ret ((ie _ _ h2).1 as XW)) fun D σ H h => st_ret (fun i e => hv (by rw [e]; rfl)) h
      · cases h
    · cases h
      exact PS.weak ps_retN fun D σ H h => te_lit (v := .non) rfl (st_ret (fun i e => by cases e) h)
    · split at h
      · rename_i h1 h2 h3
        cases h
        exact PS.weak (ps_if ((ie _ _ h1).2 as XW) (cSs_ok ih h2 as XW) (cSs_ok ih h3 as XW)) fun D σ H h => st_ite h
      · cases h
    · split at h
      · rename_i h1 h2
        cases h
        exact PS.weak (ps_while own ((ie _ _ h1).2 as XW) (cSs_ok ih h2 as XW)) fun D σ H h => st_whl h
      · cases h
    · split at h
      · rename_i tg it b pos hs
        split at h
        · rename_i t p u h1 h2 h3
          cases h
          obtain ⟨k, s0⟩ := p
          exact PS.weak (ps_for own ok.calm (cI_ok ok ie h2 as XW) (cT_ok ok m h1 as _) (cSs_ok ih h3 as XW) (fun x => by cases it <;> first | rfl | cases hs)) fun D σ H h => st_for h
        · cases h
      · cases h
    · rename_i x p elt tg iter ifs scope cp pos
      split at h
      · rename_i hc
        simp only [Bool.and_eq_true, Bool.not_eq_true'] at hc
        obtain ⟨⟨⟨hf, hl⟩, hline⟩, hown⟩ := hc
        split at h
        · rename_i i s' hi h2
          cases h
          obtain ⟨own', k, s0, t, cc, u, rfl, q1, q2, q3, q4, q5, q6⟩ := lc_parts ok h2
          have hk : X.env.scope.kind = .function := by
            rw [ok.hsc]
            unfold isFun at hf
            split at hf
            · assumption
            · cases hf
          have hyl : X.env.scope.names.lookup x = some .local := by
            rw [ok.hsc]
            unfold lclB at hl
            split at hl
            · assumption
            · cases hl
          exact PS.weak (ps_setLc ok.calm ok.nd (by rw [ok.hN]; exact ixOf_get hi) hyl (sw_true hk hyl hline hown) (q2 as XW) q1 (q3 as _) (q4 as) (q5 as) q6) fun D σ H h => te_comp (st_setn h)
        · cases h
      · split at h
        · rename_i hl
          split at h
          · rename_i i s' hi h2
            cases h
            obtain ⟨q1, q2, q3⟩ := stN_ok ok hi
            refine PS.weak (ps_set ok.nd q1 q2 ((ie _ _ h2).1 as XW) (sw_cell fun e => ?_) q3) fun D σ H h => st_setn h
            rw [ok.hsc] at e
            unfold lclB at hl
            rw [e] at hl
            cases hl
          · cases h
        · cases h
    · rename_i x p e pos _
      split at h
      · rename_i hc
        split at h
        · rename_i i s' hi h2
          cases h
          obtain ⟨q1, q2, q3⟩ := stN_ok ok hi
          exact PS.weak (ps_set ok.nd q1 q2 ((ie _ _ h2).1 as XW) (sw_false hc _ _ _) q3) fun D σ H h => st_setn h
        · cases h
      · cases h
    · rename_i es k p e pos
      split at h
      · rename_i hc
        split at h
        · rename_i t s' h1 h2
          cases h
          have ht : isSeqT t = true := by
            cases m with
            | zero => cases h1
            | succ m => exact (bindT_tgt (ok := fun _ => true) (show tgt (cT c m) es = some t from h1)).1
          exact PS.weak (ps_asg ((ie _ _ h2).1 as XW) (cT_ok ok m h1 as _) (by cases e <;> rfl) (by cases e <;> first | rfl | cases hc)) fun D σ H h => st_sett ht h
        · cases h
      · cases h
    · rename_i x p ix ps e pos
      split at h
      · rename_i hc
        simp only [Bool.and_eq_true, Bool.not_eq_true'] at hc
        split at h
        · rename_i i s' t' hi h2 h3
          cases h
          exact PS.weak (ps_asg ((ie _ _ h3).1 as XW) (pg_sub (ok.name hc.1.1 hc.1.2 hi) ((ie _ _ h2).1 as XW) set_list (fun v => by cases ix <;> first | rfl | exact absurd hc.2 Bool.false_ne_true)) (by cases e <;> rfl) (by cases e <;> rfl)) fun D σ H h => st_setI h
        · cases h
      · cases h
    · rename_i x p op e pos
      split at h
      · rename_i o i s' h1 hi h2
        cases h
        obtain ⟨q1, q2, q3⟩ := stN_ok ok hi
        obtain ⟨r, hr, hq⟩ := rdi (X := X) h1
        exact PS.weak (ps_aug ok.nd q1 q2 ((ie _ _ h2).1 as XW) (fun pins s σ H x y v u Q I rx ry h => hr pins s σ H x y v u Q I rx ry h) q3) fun D σ H h => by
          obtain ⟨v, h3, h4, h5⟩ := st_aug h
          exact ⟨v, h3, h5.imp fun y H1 q => hq h4 q⟩
      · cases h
    · cases h
end
end Bk
/-! Bk: the defs of a text, and the law's head. -/
namespace Bk
open L2 PyProof.Rows PySem.Spec PySem
section
variable {K : PySem.W.Frag} {Z W : Pr} {H : Hp}
/-- the entries and slots at a def's entry -/
theorem ArgsOk.len : ∀ {as : List (D × Nat)} {vs : List V} {fs : List (List Addr)}, ArgsOk K Z H as vs fs → vs.length = as.length ∧ fs.length = as.length
  | [], vs, fs, h => by obtain ⟨rfl, rfl⟩ := h; exact ⟨rfl, rfl⟩
  | a :: as, vs, fs, h => by
    obtain ⟨v, ws, f, gs, rfl, rfl, o, r⟩ := h
    obtain ⟨h1, h2⟩ := ArgsOk.len r
    exact ⟨by simp [h1], by simp [h2]⟩
theorem ArgsOk.get : ∀ {as : List (D × Nat)} {vs : List V} {fs : List (List Addr)} {i : Nat} {a : D × Nat}, ArgsOk K Z H as vs fs → as[i]? = some a → ∃ v f, vs[i]? = some v ∧ fs[i]? = some f ∧ Own K Z H a.1 a.2 v f
  | [], vs, fs, i, a, h, e => by simp at e
  | b :: as, vs, fs, 0, a, h, e => by
    obtain ⟨v, ws, f, gs, rfl, rfl, o, r⟩ := h
    cases e
    exact ⟨v, f, rfl, rfl, o⟩
  | b :: as, vs, fs, i + 1, a, h, e => by
    obtain ⟨v, ws, f, gs, rfl, rfl, o, r⟩ := h
    obtain ⟨v', f', h1, h2, h3⟩ := ArgsOk.get r (by simpa using e)
    exact ⟨v', f', by simpa using h1, by simpa using h2, h3⟩
def env0 (n : Nat) (as : List (D × Nat)) : Env := (as.map fun x => some ⟨x.1, x.2, true⟩) ++ List.replicate (n - as.length) none
theorem env0_get {n : Nat} {as : List (D × Nat)} {i : Nat} {e : Ent} (h : getE (env0 n as) i = some e) : ∃ a, as[i]? = some a ∧ e = ⟨a.1, a.2, true⟩ := by
  unfold getE env0 at h
  by_cases hi : i < as.length
  · rw [List.getElem?_append_left (by simpa using hi), List.getElem?_map] at h
    rw [List.getElem?_eq_getElem hi] at h ⊢
    simp only [Option.map_some, Option.join_some, Option.some.injEq] at h
    exact ⟨_, rfl, h.symm⟩
  · rw [List.getElem?_append_right (by simpa using hi)] at h
    cases e2 : (List.replicate (n - as.length) (none : Option Ent))[i - (as.map fun x => some (⟨x.1, x.2, true⟩ : Ent)).length]? with
    | none => rw [e2] at h; cases h
    | some x =>
      rw [e2] at h
      have := List.getElem?_eq_some_iff.mp e2
      obtain ⟨h1, h2⟩ := this
      rw [List.getElem_replicate] at h2
      rw [← h2] at h
      cases h
theorem flat_nd {fs : List (List Addr)} (nd : fs.flatten.Nodup) : (∀ (i : Nat) (f : List Addr), fs[i]? = some f → f.Nodup) ∧ ∀ (i j : Nat) (f g : List Addr) a, fs[i]? = some f → fs[j]? = some g → a ∈ f → a ∈ g → i = j := by
  induction fs with
  | nil => exact ⟨fun i f h => by simp at h, fun i j f g a h => by simp at h⟩
  | cons x xs ih =>
    rw [List.flatten_cons, List.nodup_append] at nd
    obtain ⟨n1, n2, n3⟩ := nd
    obtain ⟨i1, i2⟩ := ih n2
    have mem : ∀ {i : Nat} {f : List Addr} {a : Addr}, xs[i]? = some f → a ∈ f → a ∈ xs.flatten := fun {i f a} h m => List.mem_flatten.mpr ⟨f, List.mem_of_getElem? h, m⟩
    refine ⟨fun i f h => ?_, fun i j f g a h h' m m' => ?_⟩
    · cases i with
      | zero => cases h; exact n1
      | succ i => exact i1 i f (by simpa using h)
    · cases i with
      | zero =>
        cases h
        cases j with
        | zero => rfl
        | succ j => exact absurd rfl (n3 a m a (mem (by simpa using h') m'))
      | succ i =>
        cases j with
        | zero => cases h'; exact absurd rfl (n3 a m' a (mem (by simpa using h) m))
        | succ j => rw [i2 i j f g a (by simpa using h) (by simpa using h') m m']
theorem env_start {N : List Str} {as : List (D × Nat)} {vs : List V} {fs : List (List Addr)} (al : ArgsOk K Z H as vs fs) (nd : fs.flatten.Nodup) (hf : ∀ a ∈ fs.flatten, ¬ Z a ∧ ¬ W a ∧ H a ≠ none) (zw : ∀ a, Z a → ¬ W a) (lz : ∀ a, Z a → H a ≠ none)
    (lw : ∀ a, W a → H a ≠ none) (hn : as.length ≤ N.length) : EnvOk K vs Z W H (env0 N.length as) (L2.start N vs) (fun i => (fs[i]?).getD []) := by
  obtain ⟨l1, l2⟩ := al.len
  obtain ⟨f1, f2⟩ := flat_nd nd
  have mem : ∀ {i : Nat} {a : Addr}, a ∈ (fs[i]?).getD [] → ∃ f, fs[i]? = some f ∧ a ∈ f := fun {i a} m => by
    cases e : fs[i]? with
    | none => rw [e] at m; simp at m
    | some f => rw [e] at m; exact ⟨f, rfl, m⟩
  have memF : ∀ {i : Nat} {a : Addr}, a ∈ (fs[i]?).getD [] → a ∈ fs.flatten := fun {i a} m => by
    obtain ⟨f, h1, h2⟩ := mem m
    exact List.mem_flatten.mpr ⟨f, List.mem_of_getElem? h1, h2⟩
  refine ⟨by simp [env0, L2.start, l1], fun i e g => ?_, fun i g => ?_, fun i => ?_, fun i j a m1 m2 => ?_, fun i a m => ⟨(hf a (memF m)).1, (hf a (memF m)).2.1⟩, zw, lz, lw, fun i a m => (hf a (memF m)).2.2⟩
  · obtain ⟨a, h1, rfl⟩ := env0_get g
    obtain ⟨v, f, h2, h3, o⟩ := al.get h1
    have hi : i < vs.length := (List.getElem?_eq_some_iff.mp h2).1
    refine ⟨v, ?_, by rw [h3]; exact o, fun _ => h2⟩
    unfold L2.start
    rw [List.getElem?_append_left (by simpa using hi), List.getElem?_map, h2]
    rfl
  · by_cases hi : i < as.length
    · exfalso
      unfold getE env0 at g
      rw [List.getElem?_append_left (by simpa using hi), List.getElem?_map, List.getElem?_eq_getElem hi] at g
      cases g
    · rw [List.getElem?_eq_none (by omega)]
      rfl
  · cases e : fs[i]? with
    | none => exact List.nodup_nil
    | some f => exact f1 i f e
  · obtain ⟨f, h1, h2⟩ := mem m1
    obtain ⟨g, h3, h4⟩ := mem m2
    exact f2 i j f g a h1 h3 h2 h4
end
/-- how a def of the text is compiled -/
def cF (FT : List Str) (GC : List (Str × D)) (N : List Str) (st : Stmt) : Option S := cSs (cS 60 ⟨defScope st, N, FT, GC, fun _ => true⟩ 60) (defBody st)
/-- the module's constants, as they stand -/
def ConOk (K : PySem.W.Frag) (mg : Str → Option Value) (GC : List (Str × D)) : Prop := ∀ x d, gcOf x GC = some d → ∃ v u, mg x = some u ∧ RelV v u ∧ ∀ Z H, Own K Z H d 0 v []
/-- the defs, as they stand -/
def TabOk (K : PySem.W.Frag) (mg : Str → Option Value) (FT : List Str) (GC : List (Str × D)) (T : List Fn) : Prop := ∀ (i : Nat) (x : Str), FT[i]? = some x → ∃ (st : Stmt) (f : Addr) (fd : FuncData) (N ps : List Str) (F : Fn),
  T[i]? = some F ∧ mg x = some (.ref f) ∧ Fun K x x st f fd ∧ Binds K fd ps [] ∧ FnScope N ps (defScope st) ∧ cF FT GC N st = some F.body ∧ F.np = ps.length ∧ F.ns = N.length
theorem callF_eq {T : List Fn} {k f : Nat} {as : List (D × Nat)} {F : Fn} (h : T[f]? = some F) (hl : as.length = F.np) : callF T (k + 1) f as = (ex (callF T k) F.body (env0 F.ns as)).bind fun o =>
    match o with
    | .nx r => .val (.non, 0, outsOf F.np r)
    | .rt d l r => .val (d, l, outsOf F.np r) := by
  simp only [callF, h, hl, if_true, env0] <;> rfl
def HeldAt (P : Program) (w : World) (K : PySem.W.Frag) (mg : Str → Option Value) (base : Heap) (FT : List Str) (T : List Fn) (kd : Nat) : Prop := ∀ (i : Nat) (x : Str), FT[i]? = some x →
  ∃ f fd ps, mg x = some (.ref f) ∧ PySem.W.keepIn K (.ref f) = true ∧ Binds K fd ps [] ∧ FnG P w K mg base cx0 kd f fd ps (spG K T kd i)
/-- one def, a call deeper -/
theorem tab_one {P : Program} {w : World} {K : PySem.W.Frag} {mg : Str → Option Value} {base : Heap} {FT : List Str} {GC : List (Str × D)} {T : List Fn} {kd i : Nat} {x : Str} {st : Stmt} {f : Addr} {fd : FuncData} {N ps : List Str} {F : Fn}
    (hb : ∀ x ∈ bNames, mg x = none) (hcon : ConOk K mg GC) (nox : ∀ kd f as e r, callF T kd f as ≠ .exc e r) (ih : HeldAt P w K mg base FT T kd) (h1 : T[i]? = some F) (h3 : Fun K x x st f fd) (h5 : FnScope N ps (defScope st)) (h6 : cF FT GC N st = some F.body) (h7 : F.np = ps.length) (h8 : F.ns = N.length) :
    FnG P w K mg base cx0 (kd + 1) f fd ps (spG K T (kd + 1) i) := by
  obtain ⟨oc, od, kV, doc, pm, an, cdv, ct, osl, rfl, lk, hcd⟩ := h3.ex
  have hlen : ∀ {as : List (D × Nat)} {y}, callF T (kd + 1) i as = .val y → as.length = F.np := fun {as y} e => by
    simp only [callF, h1] at e
    split at e
    · assumption
    · cases e
  refine fnG_of lk hcd h5 (fun vs H Q E h => ?_) fun A outer s H vs Q E hg hr h => ?_
  · obtain ⟨Z, W, as, fs, d, l, outs, al, _, _, _, _, _, e, _⟩ := h
    rw [al.len.1, hlen e, h7]
  · have ok : OkX (cxOf cx0 P w K mg base N x (defScope st) f cdv A outer s H E) ⟨defScope st, N, FT, GC, fun _ => true⟩ T kd := ⟨rfl, rfl, h5.nd, rfl, hg, hr, hb, fun _ _ => rfl, ih, hcon, nox kd⟩
    obtain ⟨Z, W, as, fs, d, l, outs, al, nd, hf, zw, lz, lw, e, q⟩ := h
    have hl := hlen e
    rw [callF_eq h1 hl] at e
    refine ⟨_, cSs_ok (fun st s h => cS_ok ok (passes_of rfl) 60 60 st s h) h6 vs nX, Z, W, env0 F.ns as, _, by
      rw [h8]
      refine env_start al nd hf zw lz lw ?_
      have := congrArg List.length h5.pre
      rw [List.length_take] at this
      rw [hl, h7]; omega, ?_⟩
    cases e1 : ex (callF T kd) F.body (env0 F.ns as) with
    | bad => rw [e1] at e; cases e
    | exc x r => rw [e1] at e; cases e
    | val o =>
      rw [e1] at e
      cases o with
      | nx r =>
        cases e
        intro σ' Z' H' fp' E' k
        exact q .non Z' H' [] r σ' fp' (E'.less fun a w => w.elim id fun w => by simp at w) (by rw [hl]) own_non List.nodup_nil (by simp) k
      | rt d l r =>
        cases e
        intro v σ' Z' H' fp' fq E' o nd' nw k
        exact q v Z' H' fq r σ' fp' E' (by rw [hl]) o nd' nw k
theorem tab_fn {P : Program} {w : World} {K : PySem.W.Frag} {mg : Str → Option Value} {base : Heap} {FT : List Str} {GC : List (Str × D)} {T : List Fn} (hb : ∀ x ∈ bNames, mg x = none) (hcon : ConOk K mg GC) (hT : TabOk K mg FT GC T) (nox : ∀ kd f as e r, callF T kd f as ≠ .exc e r) :
    ∀ kd : Nat, HeldAt P w K mg base FT T kd
  | 0, i, x, hi => by
    obtain ⟨st, f, fd, N, ps, F, h1, h2, h3, h4, h5, h6, h7, h8⟩ := hT i x hi
    have no : ∀ vs H Q E, spG K T 0 i vs H Q E → False := by
      rintro vs H Q E ⟨Z, W, as, fs, d, l, outs, _, _, _, _, _, _, e, _⟩
      simp [callF] at e
    exact ⟨f, fd, ps, h2, h3.kp, h4, ⟨fun vs H Q E h => (no _ _ _ _ h).elim, fun A outer s H args us vs Q E _ _ _ _ _ h => (no _ _ _ _ h).elim⟩⟩
  | kd + 1, i, x, hi => by
    obtain ⟨st, f, fd, N, ps, F, h1, h2, h3, h4, h5, h6, h7, h8⟩ := hT i x hi
    exact ⟨f, fd, ps, h2, h3.kp, h4, tab_one hb hcon nox (tab_fn hb hcon hT nox kd) h1 h3 h5 h6 h7 h8⟩
end Bk
/-! Bk: the law's head. -/
namespace Bk
open L2 PyProof.Rows PySem.Spec PySem
/-- the script's place as it is tracked -/
def scrO (vs : List Value) : Obj := { cls := .type "list", data := .seq vs.toArray }
def scrH (a : Addr) (vs : List Value) (ns : List Int) (out : Bool) : Hp := fun b => if b = a ∧ out = true then some (.frz (scrO vs) (.lst (ns.map V.int))) else none
theorem scrH_at {a b : Addr} {vs : List Value} {ns : List Int} {out : Bool} {u : HO} (h : scrH a vs ns out b = some u) : b = a ∧ out = true ∧ u = .frz (scrO vs) (.lst (ns.map V.int)) := by
  unfold scrH at h
  by_cases c : b = a ∧ out = true
  · rw [if_pos c] at h
    exact ⟨c.1, c.2, (Option.some.inj h).symm⟩
  · rw [if_neg c] at h
    cases h
/-- the law's call: the def's promise leads to True -/
theorem law_go {P : Program} {w : World} {K : PySem.W.Frag} {mg mb : Str → Option Value} {k : Nat} {fa a : Addr} {fd : FuncData} {ps : List Str} {sp : Sp} {s₁ : Shared} {vs : List Value} {ns : List Int}
    (KX : K.In s₁.heap) (hns : s₁.heap.Ns mainGlobals mg) (hbl : s₁.heap.Ns builtinsNs mb) (hbb : ∀ x : Str, x ≠ "__name__" → mb x = bootBuiltins x) (hlim : s₁.heap.NoLimit) (hgen : s₁.gens = #[])
    (hat : s₁.heap.get? a = some (scrO vs)) (hi : IntsAre vs ns) (hl : ns.length ≤ sizeLine) (hr : Room k callerA)
    (F : ∀ base : Heap, FnG P w K mg base cx0 k fa fd ps sp) (hbind : Binds K fd ps []) (h1 : ps.length = 1)
    (hsp : ∀ H : Hp, (∀ b u, H b = some u → ∃ o xs, u = .frz o (.lst xs)) → SqL K H a (ns.map V.int) → sp [.ref a] H (fun v _ => v = .bl true) fun _ _ _ => False) :
    codeAny (model P w) callerA (.call (.ref fa) ⟨[.ref a], []⟩)
      (fun res s' => res = .ok (.ret (.bool true)) ∧ OldK s₁.heap s'.heap ∧ s'.os = s₁.os ∧ AllBare s'.gens) s₁ := by
  have rv := vals_ints hi
  have hlen := hi.length
  obtain ⟨out, hout⟩ : ∃ out : Bool, out = (K.lookup a).isNone := ⟨_, rfl⟩
  have hS : SqL K (scrH a vs ns out) a (ns.map V.int) := by
    cases q : K.lookup a with
    | none =>
      rw [q] at hout
      subst hout
      exact .inl (.inr ⟨scrO vs, if_pos ⟨rfl, rfl⟩⟩)
    | some o =>
      have e := KX a o q
      rw [hat] at e
      cases e
      exact .inr ⟨_, vs.toArray, _, q, rfl, rfl, rfl, by rw [List.size_toArray, hlen]; exact hl, by simpa using rv⟩
  have hok : HOk P w (scrH a vs ns out) s₁.heap := fun b u h => by
    obtain ⟨rfl, _, rfl⟩ := scrH_at h
    exact ⟨hat, by rw [List.length_map]; exact hl, vs, _, rv, hat⟩
  have free : ∀ {b : Addr} {o : Obj} {es : Array DictEntry} {ep : Nat}, s₁.heap.get? b = some o → o.data = .dict es ep → scrH a vs ns out b = none := fun {b o es ep} e d => by
    cases q : scrH a vs ns out b with
    | none => rfl
    | some u =>
      obtain ⟨rfl, _, _⟩ := scrH_at q
      rw [hat] at e
      cases e
      cases d
  have nsB : ∀ {b : Addr} {m : Str → Option Value}, s₁.heap.Ns b m → (hidT s₁.heap (scrH a vs ns out)).Ns b m := fun {b m} ⟨o, es, ep, e, d, r⟩ => ⟨o, es, ep, hidT_get e (free e d), d, r⟩
  have kB : K.In (hidT s₁.heap (scrH a vs ns out)) := fun b o e => hidT_get (KX b o e) (by
    cases q : scrH a vs ns out b with
    | none => rfl
    | some u =>
      obtain ⟨rfl, ho, _⟩ := scrH_at q
      rw [e] at hout
      rw [ho] at hout
      cases hout)
  have md : Mod K mg (hidT s₁.heap (scrH a vs ns out)) := by
    obtain ⟨mc, m1, m2⟩ := hlim
    exact ⟨kB, nsB hns, ⟨mb, nsB hbl, hbb⟩, ⟨mc, nsB m1, m2⟩⟩
  have start0 : Env0 P w K mg (hidT s₁.heap (scrH a vs ns out)) callerA [] s₁ (scrH a vs ns out) := ⟨rfl, md, fun b o e => of_hidT e, Nat.le_of_eq (hidT_size _ _), trivial, (fun b h => by cases h), hok, .of_eq hgen⟩
  have bt : BindsTo s₁ fd ⟨[.ref a], []⟩ (ps.zip [.ref a]) := by
    have := hbind s₁ [.ref a] KX (by rw [h1]; rfl)
    simpa using this
  have go := (F (hidT s₁.heap (scrH a vs ns out))).run callerA [] s₁ (scrH a vs ns out) ⟨[.ref a], []⟩ [.ref a] [.ref a] _ _ rfl hr start0 bt (.cons rfl .nil) (hsp _ (fun b u h => ⟨_, _, (scrH_at h).2.2⟩) hS)
  refine codeAny_mono go fun res s' hq => ?_
  match res, hq with
  | .error e, hq => exact hq.elim
  | .ok .next, hq => exact False.elim hq
  | .ok .brk, hq => exact False.elim hq
  | .ok .cont, hq => exact False.elim hq
  | .ok (.ret u), ⟨v, H', os, bare, un, hok', ru, ev⟩ =>
    have ev : v = .bl true := ev
    subst ev
    obtain rfl : u = Value.bool true := ru
    refine ⟨rfl, OldK.of_keep fun b o e => ?_, os, bare⟩
    cases q : scrH a vs ns out b with
    | none => exact un.keep b o e q (fun z => by cases z) (fun z => by cases z)
    | some u =>
      obtain ⟨rfl, _, rfl⟩ := scrH_at q
      obtain ⟨g1, _⟩ := hok _ _ q
      obtain ⟨g2, _⟩ := hok' _ _ (un.frzs _ _ _ q)
      rw [g1] at e
      cases e
      exact g2
/-- what a head leaves, by the table of defs and the law's meaning -/
theorem walk_bk {l : PySem.W.OpenLaw} {n kd : Nat} {q : Program} {loose : List Str} {XP : (Str → Option Value) → Heap → Prop} {YP : World → Heap → Prop} {d : DefRec} {K : Params → PySem.W.Frag} {FT : List Str} {GC : List (Str × D)} {T : List Fn} {li : Nat}
    (hn : l.most = some n) (hn2 : n ≤ sizeLine) (hdf : d.params.defaults = []) (hr : Room (kd + 1) callerA) (hY : ∀ (w : World) (h : Heap), YP w h → (K w.params).In h)
    (hli : FT[li]? = some d.name) (hB : ∀ (w : World) (mg : Str → Option Value) (h : Heap), (K w.params).In h → h.Ns mainGlobals mg → (∀ x ∈ bNames, mg x = none) ∧ ConOk (K w.params) mg GC ∧ TabOk (K w.params) mg FT GC T)
    (nox : ∀ kd f as e r, callF T kd f as ≠ .exc e r) (hnp : ∀ F, T[li]? = some F → F.np = 1)
    (law : ∀ ns : List Int, ns.length ≤ n → ∃ l outs, callF T (kd + 1) li [(.scr ns, 0)] = .val (.bl true, l, outs)) :
    PySem.W.WalkO q loose XP YP l.row.toRowW d [] (fun f vs => PySem.call f vs) := by
  refine Att.attach_call hn hdf fun w s₀ s₁ mg mb fa _ _ _ _ a vs ns G Y _ _ _ hmg hobj hints hlen hg => ?_
  have KX := hY w _ Y
  obtain ⟨hb, hcon, hT⟩ := hB w mg _ KX G.T.g
  obtain ⟨st, f, fd, N, ps, F, t1, t2, t3, t4, t5, t6, t7, t8⟩ := hT li _ hli
  have e1 := t2.symm.trans hmg
  cases e1
  have hps : ps.length = 1 := by rw [← t7]; exact hnp F t1
  refine law_go (k := kd + 1) (fd := fd) (ps := ps) (sp := spG (K w.params) T (kd + 1) li) KX G.T.g G.T.b G.T.builtins G.T.nolimit hg hobj hints (Nat.le_trans hlen hn2) hr (fun base => ?_) t4 hps fun H hO hS => ?_
  · exact tab_one hb hcon nox (tab_fn hb hcon hT nox kd) t1 t3 t5 t6 t7 t8
  · obtain ⟨lv, outs, hv⟩ := law ns hlen
    refine ⟨fun b => H b ≠ none, fun _ => False, [(.scr ns, 0)], [[]], .bl true, lv, outs, ⟨.ref a, [], [], [], rfl, rfl, ?_, rfl, rfl⟩, List.nodup_nil, by simp, fun _ _ h => h, fun _ h => h, fun _ h => h.elim, hv, fun v Z' H' fq r' σ' fp' _ _ o _ _ _ => ?_⟩
    · rw [Own]
      refine ⟨rfl, a, rfl, ?_⟩
      rcases hS with h | h
      · refine .inl ⟨?_, h⟩
        rcases h with h | ⟨x, h⟩ <;> (rw [h]; simp)
      · exact .inr h
    · rw [Own] at o
      exact o.1
/-! ### the module's constants -/
section
variable {K : PySem.W.Frag} {h : Heap} {mg : Str → Option Value} {x : Str}
theorem con_int {n : Int} {t : Tok} (X : K.In h) (G : h.Ns mainGlobals mg) (e : PySem.W.nsIn K mainGlobals x = some (some (.int n t))) : ∃ v u, mg x = some u ∧ RelV v u ∧ ∀ Z H, Own K Z H (.int n) 0 v [] :=
  ⟨.int n, _, PySem.W.mg_of X G e, ⟨t, rfl⟩, fun _ _ => own_int⟩
theorem con_str {n : Str} {t : Tok} (X : K.In h) (G : h.Ns mainGlobals mg) (e : PySem.W.nsIn K mainGlobals x = some (some (.str n t))) : ∃ v u, mg x = some u ∧ RelV v u ∧ ∀ Z H, Own K Z H (.str n) 0 v [] :=
  ⟨.str n, _, PySem.W.mg_of X G e, ⟨t, rfl⟩, fun _ _ => own_str⟩
/-- what stands for data without lists in the module -/
inductive ConV (K : PySem.W.Frag) : D → Value → Prop
  | int (n : Int) (t : Tok) : ConV K (.int n) (.int n t)
  | str (n : Str) (t : Tok) : ConV K (.str n) (.str n t)
  | bl (b : Bool) : ConV K (.bl b) (.bool b)
  | non : ConV K .non .none
theorem ConV.own {d : D} {u : Value} (h : ConV K d u) : ∃ v, RelV v u ∧ ∀ Z H, Own K Z H d 0 v [] := by
  cases h with
  | int n t => exact ⟨.int n, ⟨t, rfl⟩, fun _ _ => own_int⟩
  | str n t => exact ⟨.str n, ⟨t, rfl⟩, fun _ _ => own_str⟩
  | bl b => exact ⟨.bl b, rfl, fun _ _ => own_bl⟩
  | non => exact ⟨.non, rfl, fun _ _ => own_non⟩
inductive ConVs (K : PySem.W.Frag) : List D → List Value → Prop
  | nil : ConVs K [] []
  | cons {d : D} {u : Value} {ds : List D} {us : List Value} (h : ConV K d u) (t : ConVs K ds us) : ConVs K (d :: ds) (u :: us)
theorem ConVs.own {ds : List D} {us : List Value} (h : ConVs K ds us) : ∃ vs, Vals vs us ∧ ∀ Z H, OwnL K Z H ds 0 vs [] := by
  induction h with
  | nil => exact ⟨[], .nil, fun _ _ => by rw [OwnL]; exact ⟨rfl, rfl⟩⟩
  | cons h _ ih =>
    obtain ⟨v, r, o⟩ := h.own
    obtain ⟨vs, rs, os⟩ := ih
    exact ⟨v :: vs, .cons r rs, fun Z H => by rw [OwnL]; exact ⟨v, vs, [], [], rfl, rfl, o Z H, os Z H⟩⟩
theorem con_tup {a : Addr} {od : Option Addr} {its : Array Value} {n : Nat} {sl : Array (Option Value)} {ds : List D} (X : K.In h) (G : h.Ns mainGlobals mg) (e : PySem.W.nsIn K mainGlobals x = some (some (.ref a)))
    (l : K.lookup a = some ⟨.type "tuple", od, .seq its n, sl⟩) (hz : its.size ≤ 1000) (hc : ConVs K ds its.toList) : ∃ v u, mg x = some u ∧ RelV v u ∧ ∀ Z H, Own K Z H (.tup ds) 0 v [] := by
  obtain ⟨vs, r, o⟩ := hc.own
  refine ⟨.ref a, _, PySem.W.mg_of X G e, rfl, fun Z H => ?_⟩
  rw [Own]
  exact ⟨rfl, a, vs, rfl, .inr ⟨_, its, n, l, rfl, rfl, by rw [sizeLine_eq]; omega, r⟩, o Z H⟩
end
end Bk
/-! Bk: nothing raises. -/
namespace Bk
open L2 PyProof.Rows PySem.Spec PySem
def Calm {α : Type} : Out α → Prop
  | .exc _ _ => False
  | _ => True
theorem calm_val {α : Type} (a : α) : Calm (.val a) := trivial
theorem calm_bad {α : Type} : Calm (.bad : Out α) := trivial
theorem calm_of {α : Type} (o : Option α) : Calm (Out.of o) := by cases o <;> trivial
theorem calm_bind {α β : Type} {o : Out α} {f : α → Out β} (h : Calm o) (hf : ∀ a, Calm (f a)) : Calm (o.bind f) := by
  cases o with
  | val a => exact hf a
  | exc _ _ => exact h
  | bad => exact trivial
theorem calm_quiet {α : Type} {o : Out α} : Calm o.quiet := by cases o <;> trivial
theorem calm_ite {α : Type} {c : Prop} [Decidable c] {a b : Out α} (h1 : Calm a) (h2 : Calm b) : Calm (if c then a else b) := by split <;> assumption
theorem ev_calm {cf : CF} (hc : ∀ f as, Calm (cf f as)) : ∀ (e : E) (r : Env), Calm (ev cf e r)
  | .lit d, r => trivial
  | .var i, r => by simp only [ev]; split <;> trivial
  | .nil, r => trivial
  | .cons a t, r => by
    simp only [ev]
    refine calm_bind (ev_calm hc a r) fun x => ?_
    split
    · exact calm_bind (ev_calm hc t _) fun y => trivial
    · trivial
  | .op o a, r => by simp only [ev]; exact calm_bind (ev_calm hc a r) fun x => calm_bind (calm_of _) fun y => calm_bind (calm_of _) fun d => trivial
  | .mkl a, r => by simp only [ev]; exact calm_bind (ev_calm hc a r) fun x => calm_bind (calm_of _) fun y => calm_ite trivial trivial
  | .mkt a, r => by simp only [ev]; exact calm_bind (ev_calm hc a r) fun x => calm_bind (calm_of _) fun y => calm_ite trivial trivial
  | .ite c a b, r => by simp only [ev]; exact calm_bind (ev_calm hc c r) fun x => calm_bind (calm_of _) fun k => calm_ite (ev_calm hc a _) (ev_calm hc b _)
  | .and a b, r => by simp only [ev]; exact calm_bind (ev_calm hc a r) fun x => calm_bind (calm_of _) fun k => calm_ite (ev_calm hc b _) trivial
  | .or a b, r => by simp only [ev]; exact calm_bind (ev_calm hc a r) fun x => calm_bind (calm_of _) fun k => calm_ite trivial (ev_calm hc b _)
  | .call f a, r => by
    simp only [ev]
    refine calm_bind (ev_calm hc a r) fun x => calm_bind (calm_of _) fun y => ?_
    have := hc f y.1
    cases e : cf f y.1 with
    | val z => trivial
    | exc _ _ => rw [e] at this; exact this
    | bad => trivial
  | .comp vs k s t c e, r => by
    simp only [ev]
    exact calm_bind (ev_calm hc s r) fun x => calm_bind (calm_of _) fun y => calm_bind (calm_of _) fun ds => calm_ite (calm_bind calm_quiet fun z => trivial) trivial
  | .pop i a, r => by simp only [ev]; exact calm_ite (calm_bind (ev_calm hc a r) fun x => calm_bind (calm_of _) fun y => calm_of _) trivial
  | .chain f g ab c, r => by
    simp only [ev]
    exact calm_bind (ev_calm hc ab r) fun x => calm_bind (calm_of _) fun y => calm_bind (calm_of _) fun p => calm_ite (calm_bind (ev_calm hc c _) fun z => calm_bind (calm_of _) fun w => calm_bind (calm_of _) fun m => trivial) trivial
theorem while_calm {c : Env → Out (Bool × Env)} {b : Env → Out Fl} (hc : ∀ r, Calm (c r)) (hb : ∀ r, Calm (b r)) : ∀ (n : Nat) (r : Env), Calm (whileL c b n r)
  | 0, r => trivial
  | n + 1, r => by
    simp only [whileL]
    refine calm_bind (hc r) fun x => calm_ite (calm_bind (hb _) fun f => ?_) trivial
    cases f with
    | nx r' => exact while_calm hc hb n r'
    | rt _ _ _ => trivial
theorem for_calm {f : D → Env → Out Fl} (hf : ∀ d r, Calm (f d r)) : ∀ (ds : List D) (r : Env), Calm (forL f ds r)
  | [], r => trivial
  | d :: ds, r => by
    simp only [forL]
    refine calm_bind (hf d r) fun x => ?_
    cases x with
    | nx r' => exact for_calm hf ds r'
    | rt _ _ _ => trivial
theorem ex_calm {cf : CF} (hc : ∀ f as, Calm (cf f as)) : ∀ (s : S) (r : Env), Calm (ex cf s r)
  | .skip, r => trivial
  | .seq a b, r => by
    simp only [ex]
    refine calm_bind (ex_calm hc a r) fun f => ?_
    cases f with
    | nx r' => exact ex_calm hc b r'
    | rt _ _ _ => trivial
  | .set t e, r => by
    simp only [ex]
    refine calm_bind (ev_calm hc e r) fun x => calm_bind (calm_of _) fun y => ?_
    split
    · exact calm_ite trivial trivial
    · exact calm_bind (calm_of _) fun r' => trivial
  | .setI i ix e, r => by simp only [ex]; exact calm_bind (ev_calm hc e r) fun x => calm_bind (calm_of _) fun y => calm_ite (calm_bind (ev_calm hc ix _) fun z => calm_bind (calm_of _) fun w => calm_of _) trivial
  | .aug i o e, r => by
    have := ev_calm hc (.op o (.cons (.var i) (.cons e .nil))) r
    simp only [ex]
    exact calm_ite (calm_bind this fun x => calm_bind (calm_of _) fun y => calm_ite trivial trivial) trivial
  | .ret e, r => by
    have h2 : Calm ((ev cf e r).bind fun x => (Out.of (one x.1 x.2)).bind fun y => .val (Fl.rt y.1 y.2.1 y.2.2)) := calm_bind (ev_calm hc e r) fun x => calm_bind (calm_of _) fun y => trivial
    cases e with
    | var i => simp only [ex]; split <;> trivial
    | _ => exact h2
  | .ex e, r => by
    simp only [ex]
    refine calm_bind (ev_calm hc e r) fun x => ?_
    split <;> trivial
  | .app i e, r => by
    simp only [ex]
    refine calm_ite (calm_bind (ev_calm hc e r) fun x => calm_bind (calm_of _) fun y => ?_) trivial
    split
    · exact calm_ite trivial trivial
    · trivial
  | .ext i e, r => by
    simp only [ex]
    refine calm_ite (calm_bind (ev_calm hc e r) fun x => calm_bind (calm_of _) fun y => ?_) trivial
    split
    · exact calm_ite trivial trivial
    · trivial
  | .ite c a b, r => by simp only [ex]; exact calm_bind (ev_calm hc c r) fun x => calm_bind (calm_of _) fun k => calm_ite (ex_calm hc a _) (ex_calm hc b _)
  | .whl c b, r => by simp only [ex]; exact while_calm (fun r => calm_bind (ev_calm hc c r) fun x => calm_bind (calm_of _) fun k => calm_val _) (fun r => ex_calm hc b r) _ _
  | .for t k s b, r => by simp only [ex]; exact calm_bind (ev_calm hc s r) fun x => calm_bind (calm_of _) fun y => calm_bind (calm_of _) fun ds => for_calm (fun d r1 => calm_bind (calm_of _) fun r2 => ex_calm hc b r2) _ _
theorem call_calm (T : List Fn) : ∀ (k f : Nat) (as : List (D × Nat)), Calm (callF T k f as)
  | 0, f, as => trivial
  | k + 1, f, as => by
    simp only [callF]
    split
    · trivial
    · refine calm_ite (calm_bind (ex_calm (call_calm T k) _ _) fun o => ?_) trivial
      cases o <;> trivial
theorem nox_all (T : List Fn) (kd f : Nat) (as : List (D × Nat)) (e : Exc) (r : Env) : callF T kd f as ≠ .exc e r := by
  intro h
  have := call_calm T kd f as
  rw [h] at this
  exact this
end Bk
/-! Bk: what is wanted of a run, by rules that rewrite. -/
namespace Bk
open L2 PyProof.Rows PySem.Spec PySem
abbrev EK := List R → Env → Prop
def evW (cf : CF) (e : E) (r : Env) (k : EK) : Prop := ∃ rs r', ev cf e r = .val (rs, r') ∧ k rs r'
def exW (cf : CF) (s : S) (r : Env) (Q : Fl → Prop) : Prop := ∃ f, ex cf s r = .val f ∧ Q f
def atE (r : Env) (i : Nat) (k : Ent → Prop) : Prop := ∃ e, getE r i = some e ∧ k e
def borW (kp : Bool) (rs : List R) (r : Env) (k : List D → Env → Prop) : Prop := ∃ ds r', bor kp rs r = some (ds, r') ∧ k ds r'
def takW (rs : List R) (r : Env) (k : List D → Nat → Env → Prop) : Prop := ∃ ds m r', tak rs r = some (ds, m, r') ∧ k ds m r'
def oneW (rs : List R) (r : Env) (k : D → Nat → Env → Prop) : Prop := ∃ d l r', one rs r = some (d, l, r') ∧ k d l r'
def lendW (rs : List R) (r : Env) (k : List (D × Nat) → Env → Prop) : Prop := ∃ as r', lend rs r = some (as, r') ∧ k as r'
def opK (o : Op) (ds : List D) (k : D → Prop) : Prop := ∃ d, opD o ds = some d ∧ k d
def truW (d : D) (k : Bool → Prop) : Prop := ∃ b, truth d = some b ∧ k b
def callW (cf : CF) (f : Nat) (as : List (D × Nat)) (k : D → Nat → List (Option (D × Nat)) → Prop) : Prop := ∃ d l outs, cf f as = .val (d, l, outs) ∧ k d l outs
def bindW (ok : Nat → Bool) (t : Tgt) (d : D) (r : Env) (k : Env → Prop) : Prop := ∃ r', bindT ok t d r = some r' ∧ k r'
def itemsW (k : ItK) (ds : List D) (K : List D → Prop) : Prop := ∃ its, itemsOf k ds = some its ∧ K its
def turnF (cf : CF) (t : Tgt) (b : S) : D → Env → Out Fl := fun d r1 => (Out.of (bindT (fun _ => true) t d r1)).bind fun r2 => ex cf b r2
def forW (f : D → Env → Out Fl) (ds : List D) (r : Env) (Q : Fl → Prop) : Prop := ∃ o, forL f ds r = .val o ∧ Q o
def condF (cf : CF) (c : E) : Env → Out (Bool × Env) := fun r => (ev cf c r).bind fun x => (Out.of (tru x.1 x.2)).bind fun k => .val (k, x.2)
def whlW (c : Env → Out (Bool × Env)) (b : Env → Out Fl) (n : Nat) (r : Env) (Q : Fl → Prop) : Prop := ∃ o, whileL c b n r = .val o ∧ Q o
def compW (f : D → Env → Out (Option (D × Nat) × Env)) (ds acc : List D) (l : Nat) (r : Env) (k : List D → Nat → Env → Prop) : Prop := ∃ ys m r', compL f ds acc l r = .val (ys, m, r') ∧ k ys m r'
/-- what goes on, by what has come -/
def contF (n : Env → Prop) (t : D → Nat → Env → Prop) : Fl → Prop
  | .nx r => n r
  | .rt d l r => t d l r
theorem contF_nx {n : Env → Prop} {t : D → Nat → Env → Prop} {r : Env} : contF n t (.nx r) = n r := rfl
theorem contF_rt {n : Env → Prop} {t : D → Nat → Env → Prop} {d : D} {l : Nat} {r : Env} : contF n t (.rt d l r) = t d l r := rfl
section
variable {cf : CF} {r : Env} {k : EK} {Q : Fl → Prop}
theorem val_bind {α β : Type} {o : Out α} {f : α → Out β} {P : β → Prop} : (∃ b, o.bind f = .val b ∧ P b) ↔ ∃ a, o = .val a ∧ ∃ b, f a = .val b ∧ P b := by
  cases o with
  | val a => simp
  | exc x r => simp
  | bad => simp
theorem val_bind2 {α β γ : Type} {o : Out α} {f : α → Out (β × γ)} {P : β → γ → Prop} : (∃ b c, o.bind f = .val (b, c) ∧ P b c) ↔ ∃ a, o = .val a ∧ ∃ b c, f a = .val (b, c) ∧ P b c := by
  cases o with
  | val a => simp
  | exc x r => simp
  | bad => simp
theorem of_val {α : Type} {o : Option α} {a : α} : Out.of o = .val a ↔ o = some a := by
  cases o <;> simp [Out.of]
theorem pair_val {β γ : Type} {x : β} {y : γ} {P : β → γ → Prop} : (∃ b c, Out.val (x, y) = Out.val (b, c) ∧ P b c) ↔ P x y :=
  ⟨fun ⟨b, c, e, h⟩ => by cases e; exact h, fun h => ⟨x, y, rfl, h⟩⟩
theorem evW_lit {d : D} : evW cf (.lit d) r k ↔ k [.vl d 0] r := pair_val
theorem evW_var {i : Nat} : evW cf (.var i) r k ↔ atE r i fun _ => k [.vr i] r := by
  unfold evW atE
  simp only [ev]
  cases getE r i with
  | none => simp
  | some e => simp only [pair_val, Option.some.injEq, exists_eq_left']
theorem evW_nil : evW cf .nil r k ↔ k [] r := pair_val
def hdQ (k : R → Env → Prop) : EK := fun rs r => match rs with
  | [q] => k q r
  | _ => False
theorem hdQ_1 {k : R → Env → Prop} {q : R} : hdQ k [q] r = k q r := rfl
theorem evW_cons {a t : E} : evW cf (.cons a t) r k ↔ evW cf a r (hdQ fun q r1 => evW cf t r1 fun qs r2 => k (q :: qs) r2) := by
  unfold evW
  simp only [ev]
  rw [val_bind2]
  constructor
  · rintro ⟨⟨rs, r1⟩, h1, b, c, h2, h3⟩
    refine ⟨rs, r1, h1, ?_⟩
    match rs, h2 with
    | [q], h2 =>
      simp only at h2
      cases e : ev cf t r1 with
      | val y =>
        rw [e] at h2
        simp only [Out.bind_val, Out.val.injEq, Prod.mk.injEq] at h2
        obtain ⟨rfl, rfl⟩ := h2
        exact ⟨y.1, y.2, e, h3⟩
      | exc x r => rw [e] at h2; cases h2
      | bad => rw [e] at h2; cases h2
    | [], h2 => cases h2
    | _ :: _ :: _, h2 => cases h2
  · rintro ⟨rs, r1, h1, h2⟩
    match rs, h2 with
    | [q], h2 =>
      obtain ⟨qs, r2, h3, h4⟩ := h2
      refine ⟨([q], r1), h1, q :: qs, r2, ?_, h4⟩
      simp only [h3, Out.bind_val]
    | [], h2 => exact h2.elim
    | _ :: _ :: _, h2 => exact h2.elim
theorem evW_op {o : Op} {a : E} : evW cf (.op o a) r k ↔ evW cf a r fun rs r1 => borW (keepO o) rs r1 fun ds r2 => opK o ds fun d => k [.vl d (lvOf o d)] r2 := by
  unfold evW borW opK
  simp only [ev]
  rw [val_bind2]
  constructor
  · rintro ⟨⟨rs, r1⟩, h1, b, c, h2, h3⟩
    refine ⟨rs, r1, h1, ?_⟩
    cases e : bor (keepO o) rs r1 with
    | none => simp only [e] at h2; cases h2
    | some y =>
      obtain ⟨ds, r2⟩ := y
      simp only [e, Out.of_some, Out.bind_val] at h2
      cases e2 : opD o ds with
      | none => simp only [e2] at h2; cases h2
      | some d =>
        simp only [e2, Out.of_some, Out.bind_val, Out.val.injEq, Prod.mk.injEq] at h2
        obtain ⟨rfl, rfl⟩ := h2
        exact ⟨ds, r2, rfl, d, e2, h3⟩
  · rintro ⟨rs, r1, h1, ds, r2, h2, d, h3, h4⟩
    exact ⟨(rs, r1), h1, _, _, by simp only [h2, Out.of_some, Out.bind_val, h3], h4⟩
theorem evW_mkl {a : E} : evW cf (.mkl a) r k ↔ evW cf a r fun rs r1 => takW rs r1 fun ds m r2 => sz ds.length = true ∧ k [.vl (.lst ds) (m + 1)] r2 := by
  unfold evW takW
  simp only [ev]
  rw [val_bind2]
  constructor
  · rintro ⟨⟨rs, r1⟩, h1, b, c, h2, h3⟩
    refine ⟨rs, r1, h1, ?_⟩
    cases e : tak rs r1 with
    | none => simp only [e] at h2; cases h2
    | some y =>
      obtain ⟨ds, m, r2⟩ := y
      simp only [e, Out.of_some, Out.bind_val] at h2
      split at h2
      · rename_i hs
        simp only [Out.val.injEq, Prod.mk.injEq] at h2
        obtain ⟨rfl, rfl⟩ := h2
        exact ⟨ds, m, r2, rfl, hs, h3⟩
      · cases h2
  · rintro ⟨rs, r1, h1, ds, m, r2, h2, hs, h4⟩
    exact ⟨(rs, r1), h1, _, _, by simp only [h2, Out.of_some, Out.bind_val, hs, if_true], h4⟩
theorem evW_mkt {a : E} : evW cf (.mkt a) r k ↔ evW cf a r fun rs r1 => takW rs r1 fun ds m r2 => sz ds.length = true ∧ k [.vl (.tup ds) 0] r2 := by
  unfold evW takW
  simp only [ev]
  rw [val_bind2]
  constructor
  · rintro ⟨⟨rs, r1⟩, h1, b, c, h2, h3⟩
    refine ⟨rs, r1, h1, ?_⟩
    cases e : tak rs r1 with
    | none => simp only [e] at h2; cases h2
    | some y =>
      obtain ⟨ds, m, r2⟩ := y
      simp only [e, Out.of_some, Out.bind_val] at h2
      split at h2
      · rename_i hs
        simp only [Out.val.injEq, Prod.mk.injEq] at h2
        obtain ⟨rfl, rfl⟩ := h2
        exact ⟨ds, m, r2, rfl, hs, h3⟩
      · cases h2
  · rintro ⟨rs, r1, h1, ds, m, r2, h2, hs, h4⟩
    exact ⟨(rs, r1), h1, _, _, by simp only [h2, Out.of_some, Out.bind_val, hs, if_true], h4⟩
def ifB (b : Bool) (p q : Prop) : Prop := (b = true → p) ∧ (b = false → q)
theorem ifB_t {p q : Prop} : ifB true p q = p := by simp [ifB]
theorem ifB_f {p q : Prop} : ifB false p q = q := by simp [ifB]
theorem ifB_d {c : Prop} [Decidable c] {p q : Prop} : ifB (decide c) p q = ((c → p) ∧ (¬ c → q)) := by simp [ifB]
/-- the truth of what has come -/
def trW (rs : List R) (r : Env) (k : Bool → Prop) : Prop := borW true rs r fun ds _ => match ds with
  | [d] => truW d k
  | _ => False
theorem trW_of {rs : List R} {k : Bool → Prop} : trW rs r k ↔ ∃ b, tru rs r = some b ∧ k b := by
  unfold trW borW truW tru
  constructor
  · rintro ⟨ds, r', h1, h2⟩
    match ds, h2 with
    | [d], ⟨b, h3, h4⟩ => exact ⟨b, by rw [h1]; exact h3, h4⟩
    | [], h2 => exact h2.elim
    | _ :: _ :: _, h2 => exact h2.elim
  · rintro ⟨b, h1, h2⟩
    split at h1
    · rename_i d r' e
      exact ⟨[d], r', e, b, h1, h2⟩
    · cases h1
theorem trW_vl {d : D} {l : Nat} {k : Bool → Prop} : trW [.vl d l] r k ↔ truW d k := by simp [trW, borW, bor]
theorem trW_vr {i : Nat} {k : Bool → Prop} : trW [.vr i] r k ↔ atE r i fun e => truW e.d k := by
  unfold trW borW atE
  simp only [bor]
  cases getE r i <;> simp
theorem evW_ite {c a b : E} : evW cf (.ite c a b) r k ↔ evW cf c r fun rs r1 => trW rs r1 fun t => ifB t (evW cf a r1 k) (evW cf b r1 k) := by
  unfold evW
  simp only [ev, trW_of]
  rw [val_bind2]
  constructor
  · rintro ⟨⟨rs, r1⟩, h1, x, y, h2, h3⟩
    refine ⟨rs, r1, h1, ?_⟩
    cases e : tru rs r1 with
    | none => simp only [e] at h2; cases h2
    | some t =>
      simp only [e, Out.of_some, Out.bind_val] at h2
      refine ⟨t, rfl, ?_⟩
      cases t with
      | true => rw [ifB_t]; exact ⟨x, y, h2, h3⟩
      | false => rw [ifB_f]; exact ⟨x, y, h2, h3⟩
  · rintro ⟨rs, r1, h1, t, h2, h3⟩
    refine ⟨(rs, r1), h1, ?_⟩
    simp only [h2, Out.of_some, Out.bind_val]
    cases t with
    | true => rw [ifB_t] at h3; exact h3
    | false => rw [ifB_f] at h3; exact h3
theorem evW_and {a b : E} : evW cf (.and a b) r k ↔ evW cf a r fun rs r1 => trW rs r1 fun t => ifB t (evW cf b r1 k) (k rs r1) := by
  unfold evW
  simp only [ev, trW_of]
  rw [val_bind2]
  constructor
  · rintro ⟨⟨rs, r1⟩, h1, x, y, h2, h3⟩
    refine ⟨rs, r1, h1, ?_⟩
    cases e : tru rs r1 with
    | none => simp only [e] at h2; cases h2
    | some t =>
      simp only [e, Out.of_some, Out.bind_val] at h2
      refine ⟨t, rfl, ?_⟩
      cases t with
      | true => rw [ifB_t]; exact ⟨x, y, h2, h3⟩
      | false =>
        rw [ifB_f]
        simp only [Bool.false_eq_true, if_false, Out.val.injEq, Prod.mk.injEq] at h2
        obtain ⟨rfl, rfl⟩ := h2
        exact h3
  · rintro ⟨rs, r1, h1, t, h2, h3⟩
    refine ⟨(rs, r1), h1, ?_⟩
    simp only [h2, Out.of_some, Out.bind_val]
    cases t with
    | true => rw [ifB_t] at h3; exact h3
    | false => rw [ifB_f] at h3; exact ⟨rs, r1, rfl, h3⟩
theorem evW_or {a b : E} : evW cf (.or a b) r k ↔ evW cf a r fun rs r1 => trW rs r1 fun t => ifB t (k rs r1) (evW cf b r1 k) := by
  unfold evW
  simp only [ev, trW_of]
  rw [val_bind2]
  constructor
  · rintro ⟨⟨rs, r1⟩, h1, x, y, h2, h3⟩
    refine ⟨rs, r1, h1, ?_⟩
    cases e : tru rs r1 with
    | none => simp only [e] at h2; cases h2
    | some t =>
      simp only [e, Out.of_some, Out.bind_val] at h2
      refine ⟨t, rfl, ?_⟩
      cases t with
      | false => rw [ifB_f]; exact ⟨x, y, h2, h3⟩
      | true =>
        rw [ifB_t]
        simp only [if_true, Out.val.injEq, Prod.mk.injEq] at h2
        obtain ⟨rfl, rfl⟩ := h2
        exact h3
  · rintro ⟨rs, r1, h1, t, h2, h3⟩
    refine ⟨(rs, r1), h1, ?_⟩
    simp only [h2, Out.of_some, Out.bind_val]
    cases t with
    | false => rw [ifB_f] at h3; exact h3
    | true => rw [ifB_t] at h3; exact ⟨rs, r1, rfl, h3⟩
theorem evW_call {f : Nat} {a : E} : evW cf (.call f a) r k ↔ evW cf a r fun rs r1 => lendW rs r1 fun as r2 => callW cf f as fun d l outs => k [.vl d l] (back rs outs r1 r2) := by
  unfold evW lendW callW
  simp only [ev]
  rw [val_bind2]
  constructor
  · rintro ⟨⟨rs, r1⟩, h1, x, y, h2, h3⟩
    refine ⟨rs, r1, h1, ?_⟩
    cases e : lend rs r1 with
    | none => simp only [e] at h2; cases h2
    | some z =>
      obtain ⟨as, r2⟩ := z
      simp only [e, Out.of_some, Out.bind_val] at h2
      refine ⟨as, r2, rfl, ?_⟩
      cases e2 : cf f as with
      | bad => simp only [e2] at h2; cases h2
      | exc _ _ => simp only [e2] at h2; cases h2
      | val z =>
        simp only [e2, Out.val.injEq, Prod.mk.injEq] at h2
        obtain ⟨rfl, rfl⟩ := h2
        exact ⟨z.1, z.2.1, z.2.2, rfl, h3⟩
  · rintro ⟨rs, r1, h1, as, r2, h2, d, l, outs, h3, h4⟩
    exact ⟨(rs, r1), h1, _, _, by simp only [h2, Out.of_some, Out.bind_val, h3], h4⟩
end
end Bk
/-! Bk: statements by rules that rewrite; operands; operators. -/
namespace Bk
open L2 PyProof.Rows PySem.Spec PySem
section
variable {cf : CF} {r : Env} {k : EK} {Q : Fl → Prop}
theorem one_val {β : Type} {x : β} {P : β → Prop} : (∃ b, Out.val x = Out.val b ∧ P b) ↔ P x := ⟨fun ⟨b, e, h⟩ => by cases e; exact h, fun h => ⟨x, rfl, h⟩⟩
theorem bad_val {β : Type} {P : β → Prop} : (∃ b, (Out.bad : Out β) = Out.val b ∧ P b) ↔ False := ⟨(fun ⟨b, e, h⟩ => by cases e), (fun h => h.elim)⟩
/-- from an expression's value -/
theorem ev_bind {β : Type} {e : E} {f : List R × Env → Out β} {P : β → Prop} : (∃ b, (ev cf e r).bind f = .val b ∧ P b) ↔ evW cf e r fun rs r1 => ∃ b, f (rs, r1) = .val b ∧ P b := by
  rw [val_bind]
  exact ⟨fun ⟨⟨rs, r1⟩, h1, h2⟩ => ⟨rs, r1, h1, h2⟩, fun ⟨rs, r1, h1, h2⟩ => ⟨(rs, r1), h1, h2⟩⟩
theorem of_bind {α β : Type} {o : Option α} {f : α → Out β} {P : β → Prop} : (∃ b, (Out.of o).bind f = .val b ∧ P b) ↔ ∃ a, o = some a ∧ ∃ b, f a = .val b ∧ P b := by
  rw [val_bind]
  constructor <;> rintro ⟨a, h1, h2⟩
  · exact ⟨a, of_val.mp h1, h2⟩
  · exact ⟨a, of_val.mpr h1, h2⟩
theorem evW_congr {e : E} {k k' : EK} (h : ∀ rs r1, k rs r1 ↔ k' rs r1) : evW cf e r k ↔ evW cf e r k' := by
  have : k = k' := funext fun rs => funext fun r1 => propext (h rs r1)
  rw [this]
theorem exW_skip : exW cf .skip r Q ↔ Q (.nx r) := one_val
theorem exW_seq {a b : S} : exW cf (.seq a b) r Q ↔ exW cf a r (contF (fun r1 => exW cf b r1 Q) fun d l r1 => Q (.rt d l r1)) := by
  unfold exW
  simp only [ex]
  rw [val_bind]
  constructor
  · rintro ⟨f, h1, h2⟩
    refine ⟨f, h1, ?_⟩
    cases f with
    | nx r' => exact h2
    | rt d l r' =>
      obtain ⟨b', e, h⟩ := h2
      cases e
      exact h
  · rintro ⟨f, h1, h2⟩
    refine ⟨f, h1, ?_⟩
    cases f with
    | nx r' => exact h2
    | rt d l r' => exact one_val.mpr h2
theorem exW_setn {i : Nat} {e : E} : exW cf (.set (.nm i) e) r Q ↔ evW cf e r fun rs r1 => oneW rs r1 fun d l r2 => i < r2.length ∧ Q (.nx (r2.set i (some ⟨d, l, false⟩))) := by
  unfold exW
  simp only [ex]
  rw [ev_bind]
  refine evW_congr fun rs r1 => ?_
  rw [of_bind]
  constructor
  · rintro ⟨⟨d, l, r2⟩, h1, h2⟩
    refine ⟨d, l, r2, h1, ?_⟩
    by_cases hi : i < r2.length
    · simp only [if_pos hi] at h2
      exact ⟨hi, one_val.mp h2⟩
    · simp only [if_neg hi] at h2
      exact (bad_val.mp h2).elim
  · rintro ⟨d, l, r2, h1, hi, h2⟩
    refine ⟨(d, l, r2), h1, ?_⟩
    simp only [if_pos hi]
    exact one_val.mpr h2
theorem set_tup {t : Tgt} {e : E} (ht : isSeqT t = true) : exW cf (.set t e) r Q ↔ evW cf e r fun rs r1 => oneW rs r1 fun d l r2 => bindW (fun _ => true) t d r2 fun r3 => Q (.nx r3) := by
  have h0 : exW cf (.set t e) r Q ↔ ∃ f, ((ev cf e r).bind fun x => (Out.of (one x.1 x.2)).bind fun y => (Out.of (bindT (fun _ => true) t y.1 y.2.2)).bind fun r' => .val (.nx r')) = .val f ∧ Q f := by
    cases t with
    | nm i => cases ht
    | nil => exact Iff.rfl
    | cons a b => exact Iff.rfl
  rw [h0, ev_bind]
  refine evW_congr fun rs r1 => ?_
  rw [of_bind]
  constructor
  · rintro ⟨⟨d, l, r2⟩, h1, h2⟩
    obtain ⟨r3, h3, h4⟩ := of_bind.mp h2
    exact ⟨d, l, r2, h1, r3, h3, one_val.mp h4⟩
  · rintro ⟨d, l, r2, h1, r3, h3, h4⟩
    exact ⟨(d, l, r2), h1, of_bind.mpr ⟨r3, h3, one_val.mpr h4⟩⟩
theorem exW_setc {a t : Tgt} {e : E} : exW cf (.set (.cons a t) e) r Q ↔ evW cf e r fun rs r1 => oneW rs r1 fun d l r2 => bindW (fun _ => true) (.cons a t) d r2 fun r3 => Q (.nx r3) := set_tup rfl
theorem exW_setI {i : Nat} {ix e : E} : exW cf (.setI i ix e) r Q ↔ evW cf e r fun rs r1 => oneW rs r1 fun d l r2 => isLstAt r2 i = true ∧ evW cf ix r2 fun rs3 r3 => borW true rs3 r3 fun ks r4 => ∃ x f, ks = [x] ∧ putI r4 i x d = some f ∧ Q f := by
  unfold exW
  simp only [ex]
  rw [ev_bind]
  refine evW_congr fun rs r1 => ?_
  rw [of_bind]
  have key : ∀ {rs3 : List R} {r3 : Env} {d : D}, (∃ b, ((Out.of (bor1 true rs3 r3)).bind fun w => Out.of (putI w.2 i w.1 d)) = .val b ∧ Q b) ↔ borW true rs3 r3 fun ks r4 => ∃ x f, ks = [x] ∧ putI r4 i x d = some f ∧ Q f := by
    intro rs3 r3 d
    rw [of_bind]
    constructor
    · rintro ⟨⟨x, r4⟩, h1, f, h2, h3⟩
      obtain ⟨q, rfl, h4⟩ := bor1_eq h1
      exact ⟨[x], r4, h4, x, f, rfl, of_val.mp h2, h3⟩
    · rintro ⟨ks, r4, h1, x, f, rfl, h2, h3⟩
      have hl := bor_len h1
      match rs3, hl with
      | [q], _ => exact ⟨(x, r4), by simp only [bor1, h1], f, of_val.mpr h2, h3⟩
      | [], hl => cases hl
      | _ :: _ :: _, hl => simp at hl
  constructor
  · rintro ⟨⟨d, l, r2⟩, h1, h2⟩
    refine ⟨d, l, r2, h1, ?_⟩
    by_cases hi : isLstAt r2 i = true
    · simp only [if_pos hi] at h2
      rw [ev_bind] at h2
      exact ⟨hi, (evW_congr fun rs3 r3 => key).mp h2⟩
    · simp only [if_neg hi] at h2
      exact (bad_val.mp h2).elim
  · rintro ⟨d, l, r2, h1, hi, h2⟩
    refine ⟨(d, l, r2), h1, ?_⟩
    simp only [if_pos hi]
    rw [ev_bind]
    exact (evW_congr fun rs3 r3 => key).mpr h2
theorem exW_aug {i : Nat} {o : Op} {e : E} : exW cf (.aug i o e) r Q ↔ isAtomAt r i = true ∧ evW cf (.op o (.cons (.var i) (.cons e .nil))) r fun rs r1 => oneW rs r1 fun d l r2 => i < r2.length ∧ Q (.nx (r2.set i (some ⟨d, l, false⟩))) := by
  unfold exW
  simp only [ex]
  by_cases ha : isAtomAt r i = true
  · simp only [ha, if_true, true_and]
    rw [ev_bind]
    refine evW_congr fun rs r1 => ?_
    rw [of_bind]
    constructor
    · rintro ⟨⟨d, l, r2⟩, h1, h2⟩
      refine ⟨d, l, r2, h1, ?_⟩
      by_cases hi : i < r2.length
      · simp only [if_pos hi] at h2
        exact ⟨hi, one_val.mp h2⟩
      · simp only [if_neg hi] at h2
        exact (bad_val.mp h2).elim
    · rintro ⟨d, l, r2, h1, hi, h2⟩
      refine ⟨(d, l, r2), h1, ?_⟩
      simp only [if_pos hi]
      exact one_val.mpr h2
  · simp only [if_neg ha]
    exact ⟨fun h => (bad_val.mp h).elim, fun h => absurd h.1 ha⟩
theorem exW_retv {i : Nat} : exW cf (.ret (.var i)) r Q ↔ atE r i fun e => Q (.rt e.d e.l (r.set i none)) := by
  unfold exW atE
  simp only [ex]
  cases getE r i with
  | none => simp only [bad_val]; simp
  | some e => simp only [one_val, Option.some.injEq, exists_eq_left']
theorem exW_ret {e : E} (he : isVar e = false) : exW cf (.ret e) r Q ↔ evW cf e r fun rs r1 => oneW rs r1 fun d l r2 => Q (.rt d l r2) := by
  have h0 : exW cf (.ret e) r Q ↔ ∃ f, ((ev cf e r).bind fun x => (Out.of (one x.1 x.2)).bind fun y => .val (.rt y.1 y.2.1 y.2.2)) = .val f ∧ Q f := by
    cases e with
    | var i => cases he
    | _ => exact Iff.rfl
  rw [h0, ev_bind]
  refine evW_congr fun rs r1 => ?_
  rw [of_bind]
  constructor
  · rintro ⟨⟨d, l, r2⟩, h1, h2⟩
    exact ⟨d, l, r2, h1, one_val.mp h2⟩
  · rintro ⟨d, l, r2, h1, h2⟩
    exact ⟨(d, l, r2), h1, one_val.mpr h2⟩
theorem exW_ex {e : E} : exW cf (.ex e) r Q ↔ evW cf e r (hdQ fun _ r1 => Q (.nx r1)) := by
  unfold exW
  simp only [ex]
  rw [ev_bind]
  refine evW_congr fun rs r1 => ?_
  match rs with
  | [q] => exact one_val
  | [] => exact ⟨fun h => (bad_val.mp h).elim, fun h => h.elim⟩
  | _ :: _ :: _ => exact ⟨fun h => (bad_val.mp h).elim, fun h => h.elim⟩
def appW (r : Env) (i : Nat) (d : D) (l : Nat) (Q : Env → Prop) : Prop := ∃ xs m p, getE r i = some ⟨.lst xs, m + 1, p⟩ ∧ xs.length < 16777216 ∧ Q (r.set i (some ⟨.lst (xs ++ [d]), min m l + 1, p⟩))
theorem exW_app {i : Nat} {e : E} : exW cf (.app i e) r Q ↔ isLstAt r i = true ∧ evW cf e r fun rs r1 => oneW rs r1 fun d l r2 => appW r2 i d l fun r3 => Q (.nx r3) := by
  unfold exW
  simp only [ex]
  by_cases ha : isLstAt r i = true
  · simp only [ha, if_true, true_and]
    rw [ev_bind]
    refine evW_congr fun rs r1 => ?_
    rw [of_bind]
    constructor
    · rintro ⟨⟨d, l, r2⟩, h1, b, h2, h3⟩
      refine ⟨d, l, r2, h1, ?_⟩
      split at h2
      · rename_i xs m p g
        split at h2
        · rename_i hz
          cases h2
          exact ⟨xs, m, p, g, of_decide_eq_true hz, h3⟩
        · cases h2
      · cases h2
    · rintro ⟨d, l, r2, h1, xs, m, p, g, hz, h3⟩
      exact ⟨(d, l, r2), h1, _, by simp only [g, decide_eq_true hz, if_true], h3⟩
  · simp only [if_neg ha]
    exact ⟨fun h => (bad_val.mp h).elim, fun h => absurd h.1 ha⟩
def extW (r : Env) (i : Nat) (d : D) (Q : Env → Prop) : Prop := ∃ qs xs m p, d = .lst qs ∧ getE r i = some ⟨.lst xs, m + 1, p⟩ ∧ sz (xs.length + qs.length) = true ∧ Q (r.set i (some ⟨.lst (xs ++ qs), 1, p⟩))
theorem exW_ext {i : Nat} {e : E} : exW cf (.ext i e) r Q ↔ isLstAt r i = true ∧ evW cf e r fun rs r1 => borW false rs r1 fun ds r2 => ∃ d, ds = [d] ∧ extW r2 i d fun r3 => Q (.nx r3) := by
  unfold exW
  simp only [ex]
  by_cases ha : isLstAt r i = true
  · simp only [ha, if_true, true_and]
    rw [ev_bind]
    refine evW_congr fun rs r1 => ?_
    rw [of_bind]
    constructor
    · rintro ⟨⟨d, r2⟩, h1, b, h2, h3⟩
      obtain ⟨q, rfl, h4⟩ := bor1_eq h1
      refine ⟨[d], r2, h4, d, rfl, ?_⟩
      simp only at h2
      split at h2
      · rename_i qs xs m p g
        split at h2
        · rename_i hz
          cases h2
          exact ⟨qs, xs, m, p, rfl, g, hz, h3⟩
        · cases h2
      · cases h2
    · rintro ⟨ds, r2, h1, d, rfl, qs, xs, m, p, rfl, g, hz, h3⟩
      have hl := bor_len h1
      match rs, hl with
      | [q], _ => exact ⟨(.lst qs, r2), by simp only [bor1, h1], _, by simp only [g, if_pos hz], h3⟩
      | [], hl => cases hl
      | _ :: _ :: _, hl => simp at hl
  · simp only [if_neg ha]
    exact ⟨fun h => (bad_val.mp h).elim, fun h => absurd h.1 ha⟩
theorem exW_ite {c : E} {a b : S} : exW cf (.ite c a b) r Q ↔ evW cf c r fun rs r1 => trW rs r1 fun t => ifB t (exW cf a r1 Q) (exW cf b r1 Q) := by
  unfold exW
  simp only [ex]
  rw [ev_bind]
  refine evW_congr fun rs r1 => ?_
  rw [of_bind, trW_of]
  constructor
  · rintro ⟨t, h1, h2⟩
    refine ⟨t, h1, ?_⟩
    cases t with
    | true => rw [ifB_t]; simpa using h2
    | false => rw [ifB_f]; simpa using h2
  · rintro ⟨t, h1, h2⟩
    refine ⟨t, h1, ?_⟩
    cases t with
    | true => rw [ifB_t] at h2; simpa using h2
    | false => rw [ifB_f] at h2; simpa using h2
theorem exW_whl {c : E} {b : S} : exW cf (.whl c b) r Q ↔ whlW (condF cf c) (fun r => ex cf b r) laps r Q := Iff.rfl
theorem exW_for {t : Tgt} {k : ItK} {s : E} {b : S} : exW cf (.for t k s b) r Q ↔ evW cf s r fun rs r1 => takW rs r1 fun ds _ r2 => itemsW k ds fun its => forW (turnF cf t b) its r2 Q := by
  unfold exW
  simp only [ex]
  rw [ev_bind]
  refine evW_congr fun rs r1 => ?_
  rw [of_bind]
  constructor
  · rintro ⟨⟨ds, m, r2⟩, h1, h2⟩
    obtain ⟨its, h3, h4⟩ := of_bind.mp h2
    exact ⟨ds, m, r2, h1, its, h3, h4⟩
  · rintro ⟨ds, m, r2, h1, its, h3, h4⟩
    exact ⟨(ds, m, r2), h1, of_bind.mpr ⟨its, h3, h4⟩⟩
theorem evW_comp {vs : List Nat} {kd : ItK} {s c e : E} {t : Tgt} : evW cf (.comp vs kd s t c e) r k ↔ evW cf s r fun rs r1 => takW rs r1 fun ds _ r2 => itemsW kd ds fun its => (sz its.length = true ∧ quietE vs r2 = true) ∧
    compW (compTurn (ev cf c) (ev cf e) vs t) its [] 7 r2 fun ys m r3 => k [.vl (.lst ys) (m + 1)] (restore vs r2 r3) := by
  have h0 : evW cf (.comp vs kd s t c e) r k ↔ ∃ b, ev cf (.comp vs kd s t c e) r = .val b ∧ k b.1 b.2 := ⟨fun ⟨a, b, h1, h2⟩ => ⟨(a, b), h1, h2⟩, fun ⟨⟨a, b⟩, h1, h2⟩ => ⟨a, b, h1, h2⟩⟩
  rw [h0]
  simp only [ev]
  rw [ev_bind]
  refine evW_congr fun rs r1 => ?_
  rw [of_bind]
  have cl : ∀ {o : Out (List D × Nat × Env)} {f : List D × Nat × Env → Out (List R × Env)} {P : List R × Env → Prop}, (∃ b, o.quiet.bind f = .val b ∧ P b) ↔ ∃ a, o = .val a ∧ ∃ b, f a = .val b ∧ P b := by
    intro o f P
    cases o with
    | val a => simp [Out.quiet]
    | exc x r => simp [Out.quiet]
    | bad => simp [Out.quiet]
  constructor
  · rintro ⟨⟨ds, m, r2⟩, h1, h2⟩
    obtain ⟨its, h3, h4⟩ := of_bind.mp h2
    refine ⟨ds, m, r2, h1, its, h3, ?_⟩
    by_cases hc : (sz its.length && quietE vs r2) = true
    · rw [if_pos hc] at h4
      simp only [Bool.and_eq_true] at hc
      obtain ⟨⟨ys, m', r3⟩, h5, b, e, h6⟩ := cl.mp h4
      cases e
      exact ⟨hc, ys, m', r3, h5, h6⟩
    · rw [if_neg hc] at h4
      exact (bad_val.mp h4).elim
  · rintro ⟨ds, m, r2, h1, its, h3, hc, ys, m', r3, h5, h6⟩
    refine ⟨(ds, m, r2), h1, of_bind.mpr ⟨its, h3, ?_⟩⟩
    rw [if_pos (by simp only [Bool.and_eq_true]; exact hc)]
    exact cl.mpr ⟨(ys, m', r3), h5, _, rfl, h6⟩
end
/-! ### operands, entries -/
section
variable {r : Env} {rs : List R} {i : Nat}
theorem atE_0 {e : Ent} {k : Ent → Prop} : atE (some e :: r) 0 k ↔ k e := by
  unfold atE
  rw [getE_cons0]
  exact ⟨fun ⟨x, h, q⟩ => by cases h; exact q, fun h => ⟨e, rfl, h⟩⟩
theorem atE_S {x : Option Ent} {k : Ent → Prop} : atE (x :: r) (i + 1) k ↔ atE r i k := by
  unfold atE
  rw [getE_consS]
theorem borW_nil {kp : Bool} {k : List D → Env → Prop} : borW kp [] r k ↔ k [] r := by
  unfold borW
  simp only [bor]
  exact ⟨fun ⟨a, b, h, q⟩ => by cases h; exact q, fun h => ⟨_, _, rfl, h⟩⟩
theorem borW_vl {kp : Bool} {d : D} {l : Nat} {k : List D → Env → Prop} : borW kp (.vl d l :: rs) r k ↔ borW kp rs r fun ds r' => k (d :: ds) r' := by
  unfold borW
  simp only [bor]
  cases h : bor kp rs r with
  | none => simp
  | some y =>
    obtain ⟨a, b⟩ := y
    simp only [Option.some.injEq, Prod.mk.injEq]
    exact ⟨fun ⟨x, z, h, q⟩ => by obtain ⟨rfl, rfl⟩ := h; exact ⟨a, b, ⟨rfl, rfl⟩, q⟩, fun ⟨x, z, h, q⟩ => by obtain ⟨rfl, rfl⟩ := h; exact ⟨_, _, ⟨rfl, rfl⟩, q⟩⟩
theorem borW_vrT {k : List D → Env → Prop} : borW true (.vr i :: rs) r k ↔ atE r i fun e => borW true rs r fun ds r' => k (e.d :: ds) r' := by
  unfold borW atE
  simp only [bor]
  cases g : getE r i with
  | none => simp
  | some e =>
    simp only [if_true, Option.some.injEq, exists_eq_left']
    cases h : bor true rs r with
    | none => simp
    | some y =>
      obtain ⟨a, b⟩ := y
      simp only [Option.some.injEq, Prod.mk.injEq]
      exact ⟨fun ⟨x, z, h, q⟩ => by obtain ⟨rfl, rfl⟩ := h; exact ⟨a, b, ⟨rfl, rfl⟩, q⟩, fun ⟨x, z, h, q⟩ => by obtain ⟨rfl, rfl⟩ := h; exact ⟨_, _, ⟨rfl, rfl⟩, q⟩⟩
theorem borW_vrF {k : List D → Env → Prop} : borW false (.vr i :: rs) r k ↔ atE r i fun e => borW false rs (lowE 1 r i e) fun ds r' => k (e.d :: ds) r' := by
  unfold borW atE
  simp only [bor]
  cases g : getE r i with
  | none => simp
  | some e =>
    simp only [Bool.false_eq_true, if_false, Option.some.injEq, exists_eq_left']
    cases h : bor false rs (lowE 1 r i e) with
    | none => simp
    | some y =>
      obtain ⟨a, b⟩ := y
      simp only [Option.some.injEq, Prod.mk.injEq]
      exact ⟨fun ⟨x, z, h, q⟩ => by obtain ⟨rfl, rfl⟩ := h; exact ⟨a, b, ⟨rfl, rfl⟩, q⟩, fun ⟨x, z, h, q⟩ => by obtain ⟨rfl, rfl⟩ := h; exact ⟨_, _, ⟨rfl, rfl⟩, q⟩⟩
theorem takW_nil {k : List D → Nat → Env → Prop} : takW [] r k ↔ k [] 8 r := by
  unfold takW
  simp only [tak]
  exact ⟨fun ⟨a, b, c, h, q⟩ => by cases h; exact q, fun h => ⟨_, _, _, rfl, h⟩⟩
theorem takW_vl {d : D} {l : Nat} {k : List D → Nat → Env → Prop} : takW (.vl d l :: rs) r k ↔ takW rs r fun ds m r' => k (d :: ds) (min l m) r' := by
  unfold takW
  simp only [tak]
  cases h : tak rs r with
  | none => simp
  | some y =>
    obtain ⟨a, b, c⟩ := y
    simp only [Option.some.injEq, Prod.mk.injEq]
    exact ⟨fun ⟨x, z, w, h, q⟩ => by obtain ⟨rfl, rfl, rfl⟩ := h; exact ⟨a, b, c, ⟨rfl, rfl, rfl⟩, q⟩, fun ⟨x, z, w, h, q⟩ => by obtain ⟨rfl, rfl, rfl⟩ := h; exact ⟨_, _, _, ⟨rfl, rfl, rfl⟩, q⟩⟩
theorem takW_vr {k : List D → Nat → Env → Prop} : takW (.vr i :: rs) r k ↔ atE r i fun e => takW rs (lowE 0 r i e) fun ds _ r' => k (e.d :: ds) 0 r' := by
  unfold takW atE
  simp only [tak]
  cases g : getE r i with
  | none => simp
  | some e =>
    simp only [Option.some.injEq, exists_eq_left']
    cases h : tak rs (lowE 0 r i e) with
    | none => simp
    | some y =>
      obtain ⟨a, b, c⟩ := y
      simp only [Option.some.injEq, Prod.mk.injEq]
      exact ⟨fun ⟨x, z, w, h, q⟩ => by obtain ⟨rfl, rfl, rfl⟩ := h; exact ⟨a, b, c, ⟨rfl, rfl, rfl⟩, q⟩, fun ⟨x, z, w, h, q⟩ => by obtain ⟨rfl, rfl, rfl⟩ := h; exact ⟨_, _, _, ⟨rfl, rfl, rfl⟩, q⟩⟩
theorem oneW_vl {d : D} {l : Nat} {k : D → Nat → Env → Prop} : oneW [.vl d l] r k ↔ k d l r := by
  unfold oneW
  simp only [one]
  exact ⟨fun ⟨a, b, c, h, q⟩ => by cases h; exact q, fun h => ⟨_, _, _, rfl, h⟩⟩
theorem oneW_vr {k : D → Nat → Env → Prop} : oneW [.vr i] r k ↔ atE r i fun e => k e.d 0 (lowE 0 r i e) := by
  unfold oneW atE
  simp only [one]
  cases g : getE r i with
  | none => simp
  | some e =>
    simp only [Option.some.injEq, Prod.mk.injEq, exists_eq_left']
    exact ⟨fun ⟨a, b, c, h, q⟩ => by obtain ⟨rfl, rfl, rfl⟩ := h; exact q, fun h => ⟨_, _, _, ⟨rfl, rfl, rfl⟩, h⟩⟩
theorem lendW_nil {k : List (D × Nat) → Env → Prop} : lendW [] r k ↔ k [] r := by
  unfold lendW
  simp only [lend]
  exact ⟨fun ⟨a, b, h, q⟩ => by cases h; exact q, fun h => ⟨_, _, rfl, h⟩⟩
theorem lendW_vl {d : D} {l : Nat} {k : List (D × Nat) → Env → Prop} : lendW (.vl d l :: rs) r k ↔ lendW rs r fun ds r' => k ((d, l) :: ds) r' := by
  unfold lendW
  simp only [lend]
  cases h : lend rs r with
  | none => simp
  | some y =>
    obtain ⟨a, b⟩ := y
    simp only [Option.some.injEq, Prod.mk.injEq]
    exact ⟨fun ⟨x, z, h, q⟩ => by obtain ⟨rfl, rfl⟩ := h; exact ⟨a, b, ⟨rfl, rfl⟩, q⟩, fun ⟨x, z, h, q⟩ => by obtain ⟨rfl, rfl⟩ := h; exact ⟨_, _, ⟨rfl, rfl⟩, q⟩⟩
/-- what is lent is away -/
def awayE (r : Env) (i : Nat) (e : Ent) : Env := if e.l = 0 then r else r.set i none
theorem lendW_vr {k : List (D × Nat) → Env → Prop} : lendW (.vr i :: rs) r k ↔ atE r i fun e => lendW rs (awayE r i e) fun ds r' => k ((e.d, e.l) :: ds) r' := by
  unfold lendW atE awayE
  simp only [lend]
  cases g : getE r i with
  | none => simp
  | some e =>
    simp only [Option.some.injEq, exists_eq_left']
    cases h : lend rs (if e.l = 0 then r else r.set i none) with
    | none => simp
    | some y =>
      obtain ⟨a, b⟩ := y
      simp only [Option.some.injEq, Prod.mk.injEq]
      exact ⟨fun ⟨x, z, h, q⟩ => by obtain ⟨rfl, rfl⟩ := h; exact ⟨a, b, ⟨rfl, rfl⟩, q⟩, fun ⟨x, z, h, q⟩ => by obtain ⟨rfl, rfl⟩ := h; exact ⟨_, _, ⟨rfl, rfl⟩, q⟩⟩
theorem low_le {m : Nat} {e : Ent} (h : e.l ≤ m) : lowE m r i e = r := by simp [lowE, h]
theorem low_gt {m : Nat} {e : Ent} (h : m < e.l) : lowE m r i e = r.set i (some { e with l := m }) := by
  unfold lowE
  rw [if_neg (by omega)]
theorem back_vl {r0 : Env} {d : D} {l : Nat} {o : Option (D × Nat)} {os : List (Option (D × Nat))} : back (.vl d l :: rs) (o :: os) r0 r = back rs os r0 r := by cases o <;> rfl
theorem back_vr {r0 : Env} {d : D} {l : Nat} {os : List (Option (D × Nat))} : back (.vr i :: rs) (some (d, l) :: os) r0 r = back rs os r0 (if (getE r i).isNone then r.set i (some ⟨d, l, pOf r0 i⟩) else r) := rfl
theorem back_vrN {r0 : Env} {os : List (Option (D × Nat))} : back (.vr i :: rs) (none :: os) r0 r = back rs os r0 r := rfl
theorem back_nil {r0 : Env} {os : List (Option (D × Nat))} : back [] os r0 r = r := by unfold back; rfl
theorem callW_of {cf : CF} {f : Nat} {as : List (D × Nat)} {d : D} {l : Nat} {outs : List (Option (D × Nat))} {k : D → Nat → List (Option (D × Nat)) → Prop} (h : cf f as = .val (d, l, outs)) : callW cf f as k ↔ k d l outs := by
  unfold callW
  rw [h]
  exact ⟨fun ⟨a, b, c, e, q⟩ => by cases e; exact q, fun q => ⟨_, _, _, rfl, q⟩⟩
end
end Bk
/-! Bk: operators, loops, calls, by rules that rewrite. -/
namespace Bk
open L2 PyProof.Rows PySem.Spec PySem
theorem some_iff {α : Type} {o : Option α} {a : α} (h : o = some a) {k : α → Prop} : (∃ d, o = some d ∧ k d) ↔ k a := by
  subst h
  exact ⟨fun ⟨d, e, q⟩ => by cases e; exact q, fun q => ⟨a, rfl, q⟩⟩
theorem guard_iff {α : Type} {c : Prop} [Decidable c] {a : α} {k : α → Prop} : (∃ d, (if c then some a else none) = some d ∧ k d) ↔ c ∧ k a := by
  by_cases h : c
  · simp [h]
  · simp [h]
section
variable {k : D → Prop} {i j : Int} {d : D} {l m : List D} {b c : Bool} {s t : Str}
theorem opK_add : opK .add [.int i, .int j] k ↔ k (.int (i + j)) := some_iff rfl
theorem opK_addT : opK .add [.tup l, .tup m] k ↔ sz (l.length + m.length) = true ∧ k (.tup (l ++ m)) := guard_iff
theorem opK_addL : opK .add [.lst l, .lst m] k ↔ sz (l.length + m.length) = true ∧ k (.lst (l ++ m)) := guard_iff
theorem opK_addS : opK .add [.str s, .str t] k ↔ sz (s.length + t.length) = true ∧ k (.str (s ++ t)) := guard_iff
theorem opK_sub : opK .sub [.int i, .int j] k ↔ k (.int (i - j)) := some_iff rfl
theorem opK_mul : opK .mul [.int i, .int j] k ↔ (small i || small j) = true ∧ k (.int (i * j)) := guard_iff
theorem opK_mulT : opK .mul [.tup l, .int j] k ↔ (((0 ≤ j ∧ j ≤ 1000) ∧ l.length ≤ 1000) ∧ l.isEmpty = false) ∧ k (.tup (List.replicate j.toNat l).flatten) := by
  have : opK .mul [.tup l, .int j] k ↔ (decide (0 ≤ j) && decide (j ≤ 1000) && decide (l.length ≤ 1000) && !l.isEmpty) = true ∧ k (.tup (List.replicate j.toNat l).flatten) := guard_iff
  rw [this]
  simp
theorem opK_mulL : opK .mul [.lst l, .int j] k ↔ ((-9223372036854775808 ≤ j ∧ j < 9223372036854775808) ∧ sz (l.length * j.toNat) = true) ∧ k (.lst (List.replicate j.toNat l).flatten) := by
  have : opK .mul [.lst l, .int j] k ↔ (decide (-9223372036854775808 ≤ j) && decide (j < 9223372036854775808) && sz (l.length * j.toNat)) = true ∧ k (.lst (List.replicate j.toNat l).flatten) := guard_iff
  rw [this]
  simp
theorem opK_fdiv : opK .fdiv [.int i, .int j] k ↔ (0 < j ∧ j < 1073741824) ∧ k (.int (i / j)) := by
  have : opK .fdiv [.int i, .int j] k ↔ (decide (0 < j) && decide (j < 1073741824)) = true ∧ k (.int (i / j)) := guard_iff
  rw [this]
  simp
theorem opK_mod : opK .mod [.int i, .int j] k ↔ 0 < j ∧ k (.int (i % j)) := by
  have : opK .mod [.int i, .int j] k ↔ decide (0 < j) = true ∧ k (.int (i % j)) := by
    refine (guard_iff (c := decide (0 < j) = true) (a := D.int (i % j)) (k := k)).symm.symm.trans ?_ |>.symm.symm
    exact Iff.rfl
  rw [this]
  simp
theorem opK_pow : opK .pow [.int i, .int j] k ↔ ((0 ≤ j ∧ j ≤ 1000000) ∧ small i = true) ∧ k (.int (i ^ j.toNat)) := by
  have : opK .pow [.int i, .int j] k ↔ (decide (0 ≤ j) && decide (j ≤ 1000000) && small i) = true ∧ k (.int (i ^ j.toNat)) := guard_iff
  rw [this]
  simp
theorem opK_shl : opK .shl [.int i, .int j] k ↔ ((0 ≤ j ∧ j ≤ 1000000) ∧ small i = true) ∧ k (.int (i * 2 ^ j.toNat)) := by
  have : opK .shl [.int i, .int j] k ↔ (decide (0 ≤ j) && decide (j ≤ 1000000) && small i) = true ∧ k (.int (i * 2 ^ j.toNat)) := guard_iff
  rw [this]
  simp
theorem opK_band : opK .band [.int i, .int j] k ↔ k (.int (Builtin.bitAnd i j)) := some_iff rfl
theorem opK_neg : opK .neg [.int i] k ↔ k (.int (-i)) := some_iff rfl
theorem opK_notB : opK .not [.bl b] k ↔ k (.bl !b) := some_iff rfl
theorem opK_not : opK .not [d] k ↔ truW d fun b => k (.bl !b) := by
  unfold opK truW
  have : opD .not [d] = (truth d).map fun b => D.bl !b := rfl
  rw [this]
  cases truth d with
  | none => simp
  | some b => simp
theorem opK_lt : opK .lt [.int i, .int j] k ↔ k (.bl (decide (i < j))) := some_iff rfl
theorem opK_le : opK .le [.int i, .int j] k ↔ k (.bl (decide (i ≤ j))) := some_iff rfl
theorem opK_gt : opK .gt [.int i, .int j] k ↔ k (.bl (decide (j < i))) := some_iff rfl
theorem opK_ge : opK .ge [.int i, .int j] k ↔ k (.bl (decide (j ≤ i))) := some_iff rfl
theorem opK_eq : opK .eq [.int i, .int j] k ↔ k (.bl (decide (i = j))) := some_iff rfl
theorem opK_ne : opK .ne [.int i, .int j] k ↔ k (.bl !(decide (i = j))) := some_iff rfl
theorem opK_isN : opK .isN [d] k ↔ k (.bl (isNon d)) := some_iff rfl
theorem opK_notN : opK .notN [d] k ↔ k (.bl !(isNon d)) := some_iff rfl
theorem opK_isB : opK .isB [.bl b, .bl c] k ↔ k (.bl (decide (b = c))) := some_iff rfl
theorem opK_notB2 : opK .notB [.bl b, .bl c] k ↔ k (.bl (!decide (b = c))) := some_iff rfl
theorem opK_lenL : opK .len [.lst l] k ↔ k (.int l.length) := some_iff rfl
theorem opK_lenT : opK .len [.tup l] k ↔ k (.int l.length) := some_iff rfl
theorem opK_lenC {ns : List Int} : opK .len [.scr ns] k ↔ k (.int ns.length) := some_iff rfl
theorem opK_lenS : opK .len [.str s] k ↔ sz s.length = true ∧ k (.int s.length) := guard_iff
theorem opK_listL : opK .list [.lst l] k ↔ k (.lst l) := some_iff rfl
theorem opK_listT : opK .list [.tup l] k ↔ k (.lst l) := some_iff rfl
theorem opK_tupL : opK .tuple [.lst l] k ↔ k (.tup l) := some_iff rfl
theorem opK_tupT : opK .tuple [.tup l] k ↔ k (.tup l) := some_iff rfl
theorem opK_int : opK .int [.int i] k ↔ k (.int i) := some_iff rfl
theorem opK_intB : opK .int [.bl b] k ↔ k (.int (if b then 1 else 0)) := some_iff rfl
theorem opK_abs : opK .abs [.int i] k ↔ k (.int (if i < 0 then -i else i)) := some_iff rfl
theorem opK_max2 : opK .max2 [.int i, .int j] k ↔ k (.int (if j > i then j else i)) := some_iff rfl
theorem opK_min2 : opK .min2 [.int i, .int j] k ↔ k (.int (if j < i then j else i)) := some_iff rfl
theorem opK_isT {n : Nat} : opK (.isT n) [d] k ↔ k (.bl (isTy n d)) := some_iff rfl
/-- an item -/
def itemW {α : Type} (l : List α) (i : Int) (k : α → Prop) : Prop := ∃ a, atI l i = some a ∧ k a
theorem opK_idxL : opK .idx [.lst l, .int i] k ↔ itemW l i k := Iff.rfl
theorem opK_idxT : opK .idx [.tup l, .int i] k ↔ itemW l i k := Iff.rfl
theorem itemW_at {α : Type} {l : List α} {i : Nat} {k : α → Prop} {a : α} (h : l[i]? = some a) : itemW l (i : Int) k ↔ k a := by
  unfold itemW
  have e : atI l (i : Int) = some a := by
    unfold atI ixN
    have hl := (List.getElem?_eq_some_iff.mp h).1
    rw [if_pos (by omega), if_pos (by omega)]
    simpa using h
  rw [e]
  simp
theorem itemW_0 {α : Type} {a : α} {l : List α} {k : α → Prop} : itemW (a :: l) 0 k ↔ k a := itemW_at (i := 0) rfl
theorem itemW_1 {α : Type} {a b : α} {l : List α} {k : α → Prop} : itemW (a :: b :: l) 1 k ↔ k b := itemW_at (i := 1) rfl
theorem itemW_2 {α : Type} {a b c : α} {l : List α} {k : α → Prop} : itemW (a :: b :: c :: l) 2 k ↔ k c := itemW_at (i := 2) rfl
theorem itemW_3 {α : Type} {a b c d : α} {l : List α} {k : α → Prop} : itemW (a :: b :: c :: d :: l) 3 k ↔ k d := itemW_at (i := 3) rfl
theorem truW_bl {K : Bool → Prop} : truW (.bl b) K ↔ K b := some_iff rfl
theorem truW_int {K : Bool → Prop} : truW (.int i) K ↔ K (i != 0) := some_iff rfl
theorem truW_lst {K : Bool → Prop} : truW (.lst l) K ↔ K (!l.isEmpty) := some_iff rfl
theorem truW_tup {K : Bool → Prop} : truW (.tup l) K ↔ K (!l.isEmpty) := some_iff rfl
theorem truW_non {K : Bool → Prop} : truW .non K ↔ K false := some_iff rfl
end
/-! ### what is walked, targets -/
section
variable {K : List D → Prop} {i j : Int} {l : List D} {r : Env} {ok : Nat → Bool} {k : Env → Prop}
theorem itemsW_L : itemsW .seq [.lst l] K ↔ K l := some_iff rfl
theorem itemsW_T : itemsW .seq [.tup l] K ↔ K l := some_iff rfl
theorem itemsW_S {s : Str} : itemsW .seq [.str s] K ↔ K (signs s) := some_iff rfl
theorem itemsW_r1 : itemsW .range [.int j] K ↔ okR j = true ∧ K ((rangeL 0 j).map .int) := guard_iff
theorem itemsW_r2 : itemsW .range [.int i, .int j] K ↔ (okR i && okR j) = true ∧ K ((rangeL i j).map .int) := guard_iff
theorem bindW_nm {n : Nat} {d : D} : bindW ok (.nm n) d r k ↔ (ok n && decide (n < r.length)) = true ∧ k (r.set n (some ⟨d, 0, false⟩)) := guard_iff
theorem bindW_nil : bindW ok .nil (.tup []) r k ↔ k r := some_iff rfl
theorem bindW_cons {a t : Tgt} {x : D} {xs : List D} : bindW ok (.cons a t) (.tup (x :: xs)) r k ↔ bindW ok a x r fun r1 => bindW ok t (.tup xs) r1 k := by
  unfold bindW
  simp only [bindT]
  cases bindT ok a x r with
  | none => simp
  | some r1 => simp
end
/-! ### loops -/
theorem turn_exW {cf : CF} {t : Tgt} {b : S} {d : D} {r : Env} {Q : Fl → Prop} : (∃ f, turnF cf t b d r = .val f ∧ Q f) ↔ bindW (fun _ => true) t d r fun r1 => exW cf b r1 Q := of_bind
/-- a loop that may leave -/
theorem for_inv {f : D → Env → Out Fl} {Q : Fl → Prop} (P : Nat → Env → Prop) {ds : List D} {r : Env} (h0 : P 0 r)
    (hs : ∀ (i : Nat) (d : D) (r : Env), ds[i]? = some d → P i r → ∃ o, f d r = .val o ∧ contF (P (i + 1)) (fun d l r => Q (.rt d l r)) o) (he : ∀ r, P ds.length r → Q (.nx r)) : forW f ds r Q := by
  have go : ∀ (n i : Nat) (r : Env), i + n = ds.length → P i r → ∃ o, forL f (ds.drop i) r = .val o ∧ Q o := by
    intro n
    induction n with
    | zero =>
      intro i r hi hp
      have e : i = ds.length := by omega
      subst e
      rw [List.drop_length]
      exact ⟨_, rfl, he r hp⟩
    | succ n ih =>
      intro i r hi hp
      have hlt : i < ds.length := by omega
      rw [List.drop_eq_getElem_cons hlt]
      obtain ⟨o, h1, h2⟩ := hs i ds[i] r (List.getElem?_eq_getElem hlt) hp
      simp only [forL, h1, Out.bind_val]
      cases o with
      | nx r' => exact ih (i + 1) r' (by omega) h2
      | rt d l r' => exact ⟨_, rfl, h2⟩
  have := go ds.length 0 r (by omega) h0
  rwa [List.drop_zero] at this
/-- a comprehension's list, item by item -/
theorem comp_map {f : D → Env → Out (Option (D × Nat) × Env)} {k : List D → Nat → Env → Prop} (g : D → Option D) (lv : Nat) (P : Env → Prop) {ds : List D} {r : Env} (h0 : P r)
    (hs : ∀ d r, d ∈ ds → P r → ∃ o r', f d r = .val (o, r') ∧ P r' ∧ o = (g d).map fun y => (y, lv)) (he : ∀ l r, P r → k (ds.filterMap g) l r) : compW f ds [] 7 r k := by
  have go : ∀ (ds acc : List D) (l : Nat) (r : Env), (∀ d r, d ∈ ds → P r → ∃ o r', f d r = .val (o, r') ∧ P r' ∧ o = (g d).map fun y => (y, lv)) → P r → ∃ l' r', compL f ds acc l r = .val (acc.reverse ++ ds.filterMap g, l', r') ∧ P r' := by
    intro ds
    induction ds with
    | nil => intro acc l r _ hp; exact ⟨l, r, by simp [compL], hp⟩
    | cons d ds ih =>
      intro acc l r hs hp
      obtain ⟨o, r', h1, h2, rfl⟩ := hs d r List.mem_cons_self hp
      simp only [compL, h1, Out.bind_val]
      have ih' := fun acc l => ih acc l r' (fun d r m => hs d r (List.mem_cons_of_mem _ m)) h2
      cases e : g d with
      | none =>
        obtain ⟨l', r2, h3, h4⟩ := ih' acc l
        exact ⟨l', r2, by simp [h3, List.filterMap_cons, e], h4⟩
      | some y =>
        obtain ⟨l', r2, h3, h4⟩ := ih' (y :: acc) (min l lv)
        exact ⟨l', r2, by simp [h3, List.filterMap_cons, e], h4⟩
  obtain ⟨l', r', h1, h2⟩ := go ds [] 7 r hs h0
  exact ⟨_, l', r', h1, by simpa using he l' r' h2⟩
/-- one item's turn -/
theorem turn_comp {cf : CF} {vs : List Nat} {t : Tgt} {c e : E} {d : D} {r : Env} {Q : Option (D × Nat) → Env → Prop} : (∃ o r', compTurn (ev cf c) (ev cf e) vs t d r = .val (o, r') ∧ Q o r') ↔
    bindW (fun i => vs.contains i) t d (wipeE vs r) fun r1 => evW cf c r1 fun rs r2 => trW rs r2 fun b => ifB b (evW cf e r2 fun qs r3 => oneW qs r3 fun y m r4 => Q (some (y, m)) r4) (Q none r2) := by
  have h0 : (∃ o r', compTurn (ev cf c) (ev cf e) vs t d r = .val (o, r') ∧ Q o r') ↔ ∃ b, compTurn (ev cf c) (ev cf e) vs t d r = .val b ∧ Q b.1 b.2 := ⟨fun ⟨a, b, h1, h2⟩ => ⟨(a, b), h1, h2⟩, fun ⟨⟨a, b⟩, h1, h2⟩ => ⟨a, b, h1, h2⟩⟩
  rw [h0]
  unfold compTurn
  rw [of_bind]
  refine exists_congr fun r1 => and_congr_right fun _ => ?_
  rw [ev_bind]
  refine evW_congr fun rs r2 => ?_
  rw [of_bind, trW_of]
  refine exists_congr fun b => and_congr_right fun _ => ?_
  cases b with
  | false => rw [ifB_f]; simp only [Bool.false_eq_true, if_false, one_val]
  | true =>
    rw [ifB_t]
    simp only [if_true]
    rw [ev_bind]
    refine evW_congr fun qs r3 => ?_
    rw [of_bind]
    constructor
    · rintro ⟨⟨y, m, r4⟩, h1, b, e, h2⟩
      cases e
      exact ⟨y, m, r4, h1, h2⟩
    · rintro ⟨y, m, r4, h1, h2⟩
      exact ⟨(y, m, r4), h1, _, rfl, h2⟩
/-! ### calls -/
theorem call_in {T : List Fn} {n i : Nat} {F : Fn} {as : List (D × Nat)} {P : D → Nat → List (Option (D × Nat)) → Prop} (h : T[i]? = some F) (hl : as.length = F.np) :
    callW (callF T (n + 1)) i as P ↔ exW (callF T n) F.body (env0 F.ns as) (contF (fun r => P .non 0 (outsOf F.np r)) fun d l r => P d l (outsOf F.np r)) := by
  unfold callW exW
  rw [callF_eq h hl]
  constructor
  · rintro ⟨d, l, outs, h1, h2⟩
    cases e : ex (callF T n) F.body (env0 F.ns as) with
    | val f =>
      rw [e] at h1
      cases f with
      | nx r => cases h1; exact ⟨_, rfl, h2⟩
      | rt d l r => cases h1; exact ⟨_, rfl, h2⟩
    | exc x r => rw [e] at h1; cases h1
    | bad => rw [e] at h1; cases h1
  · rintro ⟨f, h1, h2⟩
    rw [h1]
    cases f with
    | nx r => exact ⟨_, _, _, rfl, h2⟩
    | rt d l r => exact ⟨_, _, _, rfl, h2⟩
theorem call_eq {T : List Fn} {n i : Nat} {F : Fn} {as : List (D × Nat)} {d : D} {l : Nat} {outs : List (Option (D × Nat))} (h : T[i]? = some F) (hl : as.length = F.np)
    (hb : exW (callF T n) F.body (env0 F.ns as) (contF (fun r => .non = d ∧ 0 = l ∧ outsOf F.np r = outs) fun d' l' r => d' = d ∧ l' = l ∧ outsOf F.np r = outs)) : callF T (n + 1) i as = .val (d, l, outs) := by
  obtain ⟨d', l', o', h1, h2, h3, h4⟩ := (call_in (P := fun d' l' o' => d' = d ∧ l' = l ∧ o' = outs) h hl).mpr hb
  rw [h1, h2, h3, h4]
end Bk
/-! Bk: more rules that rewrite. -/
namespace Bk
open L2 PyProof.Rows PySem.Spec PySem
section
variable {cf : CF} {r : Env} {k : EK} {Q : Fl → Prop} {a b c : E}
theorem exW_ret_op {o : Op} : exW cf (.ret (.op o a)) r Q ↔ evW cf (.op o a) r fun rs r1 => oneW rs r1 fun d l r2 => Q (.rt d l r2) := exW_ret rfl
theorem exW_ret_lit {d : D} : exW cf (.ret (.lit d)) r Q ↔ evW cf (.lit d) r fun rs r1 => oneW rs r1 fun d l r2 => Q (.rt d l r2) := exW_ret rfl
theorem exW_ret_call {f : Nat} : exW cf (.ret (.call f a)) r Q ↔ evW cf (.call f a) r fun rs r1 => oneW rs r1 fun d l r2 => Q (.rt d l r2) := exW_ret rfl
theorem exW_ret_mkt : exW cf (.ret (.mkt a)) r Q ↔ evW cf (.mkt a) r fun rs r1 => oneW rs r1 fun d l r2 => Q (.rt d l r2) := exW_ret rfl
theorem exW_ret_mkl : exW cf (.ret (.mkl a)) r Q ↔ evW cf (.mkl a) r fun rs r1 => oneW rs r1 fun d l r2 => Q (.rt d l r2) := exW_ret rfl
theorem exW_ret_ite : exW cf (.ret (.ite a b c)) r Q ↔ evW cf (.ite a b c) r fun rs r1 => oneW rs r1 fun d l r2 => Q (.rt d l r2) := exW_ret rfl
theorem exW_ret_and : exW cf (.ret (.and a b)) r Q ↔ evW cf (.and a b) r fun rs r1 => oneW rs r1 fun d l r2 => Q (.rt d l r2) := exW_ret rfl
theorem exW_ret_or : exW cf (.ret (.or a b)) r Q ↔ evW cf (.or a b) r fun rs r1 => oneW rs r1 fun d l r2 => Q (.rt d l r2) := exW_ret rfl
theorem exW_ret_comp {vs : List Nat} {kd : ItK} {t : Tgt} : exW cf (.ret (.comp vs kd a t b c)) r Q ↔ evW cf (.comp vs kd a t b c) r fun rs r1 => oneW rs r1 fun d l r2 => Q (.rt d l r2) := exW_ret rfl
theorem exW_ret_chain {f g : CmpI} : exW cf (.ret (.chain f g a b)) r Q ↔ evW cf (.chain f g a b) r fun rs r1 => oneW rs r1 fun d l r2 => Q (.rt d l r2) := exW_ret rfl
theorem exW_ret_pop {i : Nat} : exW cf (.ret (.pop i a)) r Q ↔ evW cf (.pop i a) r fun rs r1 => oneW rs r1 fun d l r2 => Q (.rt d l r2) := exW_ret rfl
theorem evW_pop {i : Nat} : evW cf (.pop i a) r k ↔ isLstAt r i = true ∧ evW cf a r fun rs r1 => borW true rs r1 fun ds r2 => ∃ x, popI r2 i ds = some x ∧ k x.1 x.2 := by
  have h0 : evW cf (.pop i a) r k ↔ ∃ b, ev cf (.pop i a) r = .val b ∧ k b.1 b.2 := ⟨fun ⟨a, b, h1, h2⟩ => ⟨(a, b), h1, h2⟩, fun ⟨⟨a, b⟩, h1, h2⟩ => ⟨a, b, h1, h2⟩⟩
  rw [h0]
  simp only [ev]
  by_cases ha : isLstAt r i = true
  · simp only [ha, if_true, true_and]
    rw [ev_bind]
    refine evW_congr fun rs r1 => ?_
    rw [of_bind]
    constructor
    · rintro ⟨⟨ds, r2⟩, h1, x, h2, h3⟩
      exact ⟨ds, r2, h1, x, of_val.mp h2, h3⟩
    · rintro ⟨ds, r2, h1, x, h2, h3⟩
      exact ⟨(ds, r2), h1, x, of_val.mpr h2, h3⟩
  · simp only [if_neg ha]
    exact ⟨fun h => (bad_val.mp h).elim, fun h => absurd h.1 ha⟩
theorem evW_chain {f g : CmpI} : evW cf (.chain f g a c) r k ↔ evW cf a r fun rs r1 => borW true rs r1 fun ds r2 => ∃ p, pairI ds = some p ∧ ifB (f.f p.1 p.2) (evW cf c r2 fun qs r3 => borW true qs r3 fun es r4 => ∃ x m, es = [x] ∧ intOf x = some m ∧ k [.vl (.bl (g.f p.2 m)) 0] r4) (k [.vl (.bl false) 0] r2) := by
  have h0 : ∀ {e : E} {k : EK}, evW cf e r k ↔ ∃ b, ev cf e r = .val b ∧ k b.1 b.2 := fun {e k} => ⟨fun ⟨a, b, h1, h2⟩ => ⟨(a, b), h1, h2⟩, fun ⟨⟨a, b⟩, h1, h2⟩ => ⟨a, b, h1, h2⟩⟩
  rw [h0]
  simp only [ev]
  rw [ev_bind]
  refine evW_congr fun rs r1 => ?_
  rw [of_bind]
  constructor
  · rintro ⟨⟨ds, r2⟩, h1, h2⟩
    obtain ⟨p, h3, h4⟩ := of_bind.mp h2
    refine ⟨ds, r2, h1, p, h3, ?_⟩
    cases hf : f.f p.1 p.2 with
    | false =>
      rw [ifB_f]
      simp only [hf, Bool.false_eq_true, if_false] at h4
      obtain ⟨x, e, h5⟩ := h4
      cases e
      exact h5
    | true =>
      rw [ifB_t]
      simp only [hf, if_true] at h4
      rw [ev_bind] at h4
      refine (evW_congr fun qs r3 => ?_).mp h4
      rw [of_bind]
      constructor
      · rintro ⟨⟨x, r4⟩, h5, h6⟩
        obtain ⟨m, h7, h8⟩ := of_bind.mp h6
        obtain ⟨q, rfl, h9⟩ := bor1_eq h5
        obtain ⟨b, e, h10⟩ := h8
        cases e
        exact ⟨[x], r4, h9, x, m, rfl, h7, h10⟩
      · rintro ⟨es, r4, h5, x, m, rfl, h6, h7⟩
        have hl := bor_len h5
        match qs, hl with
        | [q], _ => exact ⟨(x, r4), by simp only [bor1, h5], of_bind.mpr ⟨m, h6, _, rfl, h7⟩⟩
        | [], hl => cases hl
        | _ :: _ :: _, hl => simp at hl
  · rintro ⟨ds, r2, h1, p, h3, h4⟩
    refine ⟨(ds, r2), h1, of_bind.mpr ⟨p, h3, ?_⟩⟩
    cases hf : f.f p.1 p.2 with
    | false =>
      rw [hf, ifB_f] at h4
      exact ⟨_, rfl, h4⟩
    | true =>
      rw [hf, ifB_t] at h4
      simp only [if_true]
      rw [ev_bind]
      refine (evW_congr fun qs r3 => ?_).mpr h4
      rw [of_bind]
      constructor
      · rintro ⟨⟨x, r4⟩, h5, h6⟩
        obtain ⟨m, h7, h8⟩ := of_bind.mp h6
        obtain ⟨q, rfl, h9⟩ := bor1_eq h5
        obtain ⟨b, e, h10⟩ := h8
        cases e
        exact ⟨[x], r4, h9, x, m, rfl, h7, h10⟩
      · rintro ⟨es, r4, h5, x, m, rfl, h6, h7⟩
        have hl := bor_len h5
        match qs, hl with
        | [q], _ => exact ⟨(x, r4), by simp only [bor1, h5], of_bind.mpr ⟨m, h6, _, rfl, h7⟩⟩
        | [], hl => cases hl
        | _ :: _ :: _, hl => simp at hl
end
theorem ifB_n {c : Bool} {p q : Prop} : ifB (!c) p q = ifB c q p := by cases c <;> simp [ifB]
theorem low_z {m i : Nat} {r : Env} {d : D} {p : Bool} : lowE m r i ⟨d, 0, p⟩ = r := low_le (Nat.zero_le _)
theorem low_11 {i : Nat} {r : Env} {d : D} {p : Bool} : lowE 1 r i ⟨d, 1, p⟩ = r := low_le (Nat.le_refl _)
theorem low_1 {i l : Nat} {r : Env} {d : D} {p : Bool} : lowE 0 r i ⟨d, l + 1, p⟩ = r.set i (some ⟨d, 0, p⟩) := low_gt (Nat.succ_pos l)
theorem awayE_z {i : Nat} {r : Env} {d : D} {p : Bool} : awayE r i ⟨d, 0, p⟩ = r := rfl
theorem awayE_1 {i : Nat} {r : Env} {d : D} {p : Bool} : awayE r i ⟨d, 1, p⟩ = r.set i none := rfl
theorem awayE_2 {i : Nat} {r : Env} {d : D} {p : Bool} : awayE r i ⟨d, 2, p⟩ = r.set i none := rfl
theorem opK_idxC {ns : List Int} {i : Int} {k : D → Prop} : opK .idx [.scr ns, .int i] k ↔ itemW ns i fun n => k (.int n) := by
  unfold opK itemW
  have : opD .idx [.scr ns, .int i] = (atI ns i).map .int := rfl
  rw [this]
  cases atI ns i with
  | none => simp
  | some n => simp
theorem isLstAt_0 {l : List D} {n : Nat} {p : Bool} {r : Env} : isLstAt (some ⟨.lst l, n, p⟩ :: r) 0 = true := by simp [isLstAt, getE]
theorem isLstAt_S {x : Option Ent} {r : Env} {i : Nat} : isLstAt (x :: r) (i + 1) = isLstAt r i := by unfold isLstAt; rw [getE_consS]
theorem isAtomAt_0 {d : D} {n : Nat} {p : Bool} {r : Env} : isAtomAt (some ⟨d, n, p⟩ :: r) 0 = isAtom d := by simp [isAtomAt, getE]
theorem isAtomAt_S {x : Option Ent} {r : Env} {i : Nat} : isAtomAt (x :: r) (i + 1) = isAtomAt r i := by unfold isAtomAt; rw [getE_consS]
theorem range_get {a b : Int} {i : Nat} {d : D} (h : ((rangeL a b).map D.int)[i]? = some d) : d = .int (a + i) ∧ a + i < b := by
  unfold rangeL at h
  rw [List.map_map, List.getElem?_map] at h
  cases e : (List.range (b - a).toNat)[i]? with
  | none => rw [e] at h; cases h
  | some x =>
    rw [e] at h
    have h1 := (List.getElem?_eq_some_iff.mp e)
    obtain ⟨h2, h3⟩ := h1
    rw [List.getElem_range] at h3
    subst h3
    rw [List.length_range] at h2
    cases h
    exact ⟨rfl, by omega⟩
theorem range_len (a b : Int) : ((rangeL a b).map D.int).length = (b - a).toNat := by simp [rangeL]
/-! ### an item put, an item taken out -/
def ixW (n : Nat) (k : Int) (K : Nat → Prop) : Prop := ∃ j, ixN n k = some j ∧ K j
theorem ixW_nat {n j : Nat} {K : Nat → Prop} (h : j < n) : ixW n (j : Int) K ↔ K j := by
  unfold ixW
  have e : ixN n (j : Int) = some j := by
    unfold ixN
    rw [if_pos (by omega), if_pos (by omega)]
    simp
  rw [e]
  simp
theorem ixW_0 {n : Nat} {K : Nat → Prop} : ixW (n + 1) 0 K ↔ K 0 := ixW_nat (j := 0) (by omega)
theorem ixW_1 {n : Nat} {K : Nat → Prop} : ixW (n + 2) 1 K ↔ K 1 := ixW_nat (j := 1) (by omega)
def putE (e : Ent) (r : Env) (i : Nat) (k : Int) (d : D) (Q : Fl → Prop) : Prop := ∃ l m p, e = ⟨.lst l, m + 1, p⟩ ∧ ixW l.length k fun j => Q (.nx (r.set i (some ⟨.lst (l.set j d), 1, p⟩)))
theorem putE_L {l : List D} {m : Nat} {p : Bool} {r : Env} {i : Nat} {k : Int} {d : D} {Q : Fl → Prop} : putE ⟨.lst l, m + 1, p⟩ r i k d Q ↔ ixW l.length k fun j => Q (.nx (r.set i (some ⟨.lst (l.set j d), 1, p⟩))) := by
  unfold putE
  constructor
  · rintro ⟨l', m', p', e, h⟩
    cases e
    exact h
  · intro h
    exact ⟨l, m, p, rfl, h⟩
def putW (ks : List D) (r : Env) (i : Nat) (d : D) (Q : Fl → Prop) : Prop := ∃ x f, ks = [x] ∧ putI r i x d = some f ∧ Q f
theorem putW_at {k : Int} {r : Env} {i : Nat} {d : D} {Q : Fl → Prop} : putW [.int k] r i d Q ↔ atE r i fun e => putE e r i k d Q := by
  unfold putW atE putE ixW
  constructor
  · rintro ⟨x, f, e, h, q⟩
    cases e
    unfold putI at h
    split at h
    · rename_i l m p k' g ek
      cases ek
      split at h
      · rename_i j hj
        cases h
        exact ⟨_, g, l, m, p, rfl, j, hj, q⟩
      · cases h
    · cases h
  · rintro ⟨e, g, l, m, p, rfl, j, hj, q⟩
    exact ⟨.int k, _, rfl, by unfold putI; simp only [g, hj], q⟩
theorem exW_setJ {cf : CF} {r : Env} {Q : Fl → Prop} {i : Nat} {ix e : E} : exW cf (.setI i ix e) r Q ↔ evW cf e r fun rs r1 => oneW rs r1 fun d l r2 => isLstAt r2 i = true ∧ evW cf ix r2 fun rs3 r3 => borW true rs3 r3 fun ks r4 => putW ks r4 i d Q := exW_setI
def popE (e : Ent) (r : Env) (i : Nat) (j : List D → Option Nat) (Q : List R → Env → Prop) : Prop := ∃ l m p n d, e = ⟨.lst l, m + 1, p⟩ ∧ j l = some n ∧ l[n]? = some d ∧ sz l.length = true ∧ Q [.vl d 0] (r.set i (some ⟨.lst (l.eraseIdx n), 1, p⟩))
theorem lvO_int {i : Int} : lvO (.int i) = 0 := rfl
theorem lvO_bl {i : Bool} : lvO (.bl i) = 0 := rfl
theorem lvO_str {i : Str} : lvO (.str i) = 0 := rfl
theorem lvO_tup {i : List D} : lvO (.tup i) = 0 := rfl
theorem lvO_lst {i : List D} : lvO (.lst i) = 1 := rfl
theorem lvO_non : lvO .non = 0 := rfl
theorem outs_z {r : Env} : outsOf 0 r = [] := by simp [outsOf]
theorem outs_S {n : Nat} {d : D} {l : Nat} {r : Env} : outsOf (n + 1) (some ⟨d, l, true⟩ :: r) = some (d, l) :: outsOf n r := by simp [outsOf]
theorem outs_N {n : Nat} {d : D} {l : Nat} {r : Env} : outsOf (n + 1) (some ⟨d, l, false⟩ :: r) = none :: outsOf n r := by simp [outsOf]
theorem outs_0 {n : Nat} {r : Env} : outsOf (n + 1) (none :: r) = none :: outsOf n r := by simp [outsOf]
theorem opK_lrg1 {j : Int} {k : D → Prop} : opK .lrg [.int j] k ↔ (okR j && sz j.toNat) = true ∧ k (.lst ((rangeL 0 j).map .int)) := by
  unfold opK
  have : opD .lrg [.int j] = (if okR j && sz j.toNat then some (rangeL 0 j) else none).map fun l => .lst (l.map .int) := rfl
  rw [this]
  split <;> simp_all
theorem opK_lrg2 {i j : Int} {k : D → Prop} : opK .lrg [.int i, .int j] k ↔ (okR i && okR j && sz (j - i).toNat) = true ∧ k (.lst ((rangeL i j).map .int)) := by
  unfold opK
  have : opD .lrg [.int i, .int j] = (if okR i && okR j && sz (j - i).toNat then some (rangeL i j) else none).map fun l => .lst (l.map .int) := rfl
  rw [this]
  split <;> simp_all
theorem opK_trg1 {j : Int} {k : D → Prop} : opK .trg [.int j] k ↔ (okR j && sz j.toNat) = true ∧ k (.tup ((rangeL 0 j).map .int)) := by
  unfold opK
  have : opD .trg [.int j] = (if okR j && sz j.toNat then some (rangeL 0 j) else none).map fun l => .tup (l.map .int) := rfl
  rw [this]
  split <;> simp_all
theorem opK_trg2 {i j : Int} {k : D → Prop} : opK .trg [.int i, .int j] k ↔ (okR i && okR j && sz (j - i).toNat) = true ∧ k (.tup ((rangeL i j).map .int)) := by
  unfold opK
  have : opD .trg [.int i, .int j] = (if okR i && okR j && sz (j - i).toNat then some (rangeL i j) else none).map fun l => .tup (l.map .int) := rfl
  rw [this]
  split <;> simp_all
theorem pOf_0 {e : Ent} {r : Env} : pOf (some e :: r) 0 = e.p := by simp [pOf, getE]
theorem pOf_S {x : Option Ent} {r : Env} {i : Nat} : pOf (x :: r) (i + 1) = pOf r i := by unfold pOf; rw [getE_consS]
theorem opK_revL {l : List D} {k : D → Prop} : opK .rev [.lst l] k ↔ k (.lst l.reverse) := some_iff rfl
theorem opK_revT {l : List D} {k : D → Prop} : opK .rev [.tup l] k ↔ k (.tup l.reverse) := some_iff rfl
end Bk
/-! Bk: the helpers of the laws. -/
namespace Bk
open L2 PyProof.Rows PySem.Spec PySem
theorem env0_1 {n : Nat} {a : D × Nat} : env0 (n + 1) [a] = some ⟨a.1, a.2, true⟩ :: List.replicate n none := rfl
theorem env0_2 {n : Nat} {a b : D × Nat} : env0 (n + 2) [a, b] = some ⟨a.1, a.2, true⟩ :: some ⟨b.1, b.2, true⟩ :: List.replicate n none := rfl
theorem env0_3 {n : Nat} {a b c : D × Nat} : env0 (n + 3) [a, b, c] = some ⟨a.1, a.2, true⟩ :: some ⟨b.1, b.2, true⟩ :: some ⟨c.1, c.2, true⟩ :: List.replicate n none := rfl
theorem env0_4 {n : Nat} {a b c d : D × Nat} : env0 (n + 4) [a, b, c, d] = some ⟨a.1, a.2, true⟩ :: some ⟨b.1, b.2, true⟩ :: some ⟨c.1, c.2, true⟩ :: some ⟨d.1, d.2, true⟩ :: List.replicate n none := rfl
def bCell : S := (.seq (.ite (.op .lt (.cons (.var 1) (.cons (.op .len (.cons (.var 0) .nil)) .nil))) (.ret (.op .idx (.cons (.var 0) (.cons (.var 1) .nil)))) .skip)
  (.ret (.lit (.int 0))))
def cellV (ns : List Int) (k : Nat) : Int := (ns[k]?).getD 0
theorem cell_ok {T : List Fn} {i n : Nat} (h : T[i]? = some ⟨2, 2, bCell⟩) (ns : List Int) (j : Nat) :
    callF T (n + 1) i [(.scr ns, 0), (.int j, 0)] = .val (.int (cellV ns j), 0, [some (.scr ns, 0), some (.int j, 0)]) := by
  refine call_eq h rfl ?_
  simp only [env0_2, bCell, List.replicate, ↓exW_skip, ↓exW_seq, ↓exW_setn, ↓exW_setc, ↓exW_setJ, ↓putW_at, ↓putE_L, ↓ixW_0, ↓ixW_1, ↓exW_aug, ↓exW_retv, ↓exW_ex, ↓exW_app, ↓exW_ext, ↓exW_ite, ↓exW_for, ↓exW_whl, ↓exW_ret_op, ↓exW_ret_lit, ↓exW_ret_call, ↓exW_ret_mkt, ↓exW_ret_mkl, ↓exW_ret_ite, ↓exW_ret_and, ↓exW_ret_or, ↓exW_ret_comp, ↓exW_ret_chain, ↓exW_ret_pop, ↓evW_lit, ↓evW_var, ↓evW_nil, ↓evW_cons, ↓evW_op, ↓evW_mkl, ↓evW_mkt, ↓evW_ite, ↓evW_and, ↓evW_or, ↓evW_call, ↓evW_comp, ↓evW_pop, ↓evW_chain, ↓hdQ_1, ↓contF_nx, ↓contF_rt, ↓atE_0, ↓atE_S, ↓borW_nil, ↓borW_vl, ↓borW_vrT, ↓borW_vrF, ↓takW_nil, ↓takW_vl, ↓takW_vr, ↓oneW_vl, ↓oneW_vr, ↓lendW_nil, ↓lendW_vl, ↓lendW_vr, ↓trW_vl, ↓trW_vr, ↓ifB_t, ↓ifB_f, ↓ifB_d, ↓ifB_n, ↓truW_bl, ↓truW_int, ↓truW_lst, ↓truW_tup, ↓truW_non, ↓opK_add, ↓opK_addT, ↓opK_addL, ↓opK_addS, ↓opK_sub, ↓opK_mul, ↓opK_mulT, ↓opK_mulL, ↓opK_fdiv, ↓opK_mod, ↓opK_pow, ↓opK_shl, ↓opK_band, ↓opK_neg, ↓opK_notB, ↓opK_not, ↓opK_lt, ↓opK_le, ↓opK_gt, ↓opK_ge, ↓opK_eq, ↓opK_ne, ↓opK_isN, ↓opK_notN, ↓opK_isB, ↓opK_notB2, ↓opK_lenL, ↓opK_lenT, ↓opK_lenC, ↓opK_lenS, ↓opK_listL, ↓opK_listT, ↓opK_tupL, ↓opK_tupT, ↓opK_int, ↓opK_intB, ↓opK_abs, ↓opK_max2, ↓opK_min2, ↓opK_isT, ↓opK_idxL, ↓opK_idxT, ↓opK_idxC, ↓opK_revL, ↓opK_revT, ↓opK_lrg1, ↓opK_lrg2, ↓opK_trg1, ↓opK_trg2, ↓itemW_0, ↓itemW_1, ↓itemW_2, ↓itemW_3, ↓itemsW_L, ↓itemsW_T, ↓itemsW_S, ↓itemsW_r1, ↓itemsW_r2, ↓bindW_nm, ↓bindW_nil, ↓bindW_cons, ↓back_vl, ↓back_vr, ↓back_vrN, ↓back_nil, ↓low_z, ↓low_11, ↓low_1, ↓awayE_z, ↓awayE_1, ↓awayE_2, keepO, lvOf, lvO_int, lvO_bl, lvO_str, lvO_tup, lvO_lst, lvO_non, isTy, isNon, List.set_cons_zero, List.set_cons_succ, List.length_cons, List.length_nil, getE_cons0, getE_consS, Option.isNone_none, Option.isNone_some, Bool.false_eq_true, if_true, if_false, Bool.not_true, Bool.not_false, Nat.zero_add, Nat.reduceAdd, Nat.reduceLT, Nat.reduceSub, true_and, and_true, Nat.min_zero, Nat.zero_min, Nat.reduceBEq, Bool.and_true, Bool.true_and, decide_true, decide_false, outs_z, outs_S, outs_N, outs_0, Int.reduceLT, Int.reduceLE, Nat.reduceLeDiff, List.isEmpty_cons, List.isEmpty_nil, and_self, isLstAt_0, isLstAt_S, isAtomAt_0, isAtomAt_S, pOf_0, pOf_S]
  refine ⟨fun hj => ?_, fun hj => ?_⟩
  · have hj' : j < ns.length := by omega
    rw [itemW_at (List.getElem?_eq_getElem hj')]
    simp only [cellV, List.getElem?_eq_getElem hj', Option.getD_some, ↓exW_skip, ↓exW_seq, ↓exW_setn, ↓exW_setc, ↓exW_setJ, ↓putW_at, ↓putE_L, ↓ixW_0, ↓ixW_1, ↓exW_aug, ↓exW_retv, ↓exW_ex, ↓exW_app, ↓exW_ext, ↓exW_ite, ↓exW_for, ↓exW_whl, ↓exW_ret_op, ↓exW_ret_lit, ↓exW_ret_call, ↓exW_ret_mkt, ↓exW_ret_mkl, ↓exW_ret_ite, ↓exW_ret_and, ↓exW_ret_or, ↓exW_ret_comp, ↓exW_ret_chain, ↓exW_ret_pop, ↓evW_lit, ↓evW_var, ↓evW_nil, ↓evW_cons, ↓evW_op, ↓evW_mkl, ↓evW_mkt, ↓evW_ite, ↓evW_and, ↓evW_or, ↓evW_call, ↓evW_comp, ↓evW_pop, ↓evW_chain, ↓hdQ_1, ↓contF_nx, ↓contF_rt, ↓atE_0, ↓atE_S, ↓borW_nil, ↓borW_vl, ↓borW_vrT, ↓borW_vrF, ↓takW_nil, ↓takW_vl, ↓takW_vr, ↓oneW_vl, ↓oneW_vr, ↓lendW_nil, ↓lendW_vl, ↓lendW_vr, ↓trW_vl, ↓trW_vr, ↓ifB_t, ↓ifB_f, ↓ifB_d, ↓ifB_n, ↓truW_bl, ↓truW_int, ↓truW_lst, ↓truW_tup, ↓truW_non, ↓opK_add, ↓opK_addT, ↓opK_addL, ↓opK_addS, ↓opK_sub, ↓opK_mul, ↓opK_mulT, ↓opK_mulL, ↓opK_fdiv, ↓opK_mod, ↓opK_pow, ↓opK_shl, ↓opK_band, ↓opK_neg, ↓opK_notB, ↓opK_not, ↓opK_lt, ↓opK_le, ↓opK_gt, ↓opK_ge, ↓opK_eq, ↓opK_ne, ↓opK_isN, ↓opK_notN, ↓opK_isB, ↓opK_notB2, ↓opK_lenL, ↓opK_lenT, ↓opK_lenC, ↓opK_lenS, ↓opK_listL, ↓opK_listT, ↓opK_tupL, ↓opK_tupT, ↓opK_int, ↓opK_intB, ↓opK_abs, ↓opK_max2, ↓opK_min2, ↓opK_isT, ↓opK_idxL, ↓opK_idxT, ↓opK_idxC, ↓opK_revL, ↓opK_revT, ↓opK_lrg1, ↓opK_lrg2, ↓opK_trg1, ↓opK_trg2, ↓itemW_0, ↓itemW_1, ↓itemW_2, ↓itemW_3, ↓itemsW_L, ↓itemsW_T, ↓itemsW_S, ↓itemsW_r1, ↓itemsW_r2, ↓bindW_nm, ↓bindW_nil, ↓bindW_cons, ↓back_vl, ↓back_vr, ↓back_vrN, ↓back_nil, ↓low_z, ↓low_11, ↓low_1, ↓awayE_z, ↓awayE_1, ↓awayE_2, keepO, lvOf, lvO_int, lvO_bl, lvO_str, lvO_tup, lvO_lst, lvO_non, isTy, isNon, List.set_cons_zero, List.set_cons_succ, List.length_cons, List.length_nil, getE_cons0, getE_consS, Option.isNone_none, Option.isNone_some, Bool.false_eq_true, if_true, if_false, Bool.not_true, Bool.not_false, Nat.zero_add, Nat.reduceAdd, Nat.reduceLT, Nat.reduceSub, true_and, and_true, Nat.min_zero, Nat.zero_min, Nat.reduceBEq, Bool.and_true, Bool.true_and, decide_true, decide_false, outs_z, outs_S, outs_N, outs_0, Int.reduceLT, Int.reduceLE, Nat.reduceLeDiff, List.isEmpty_cons, List.isEmpty_nil, and_self, isLstAt_0, isLstAt_S, isAtomAt_0, isAtomAt_S, pOf_0, pOf_S]
  · have hj' : ns.length ≤ j := by omega
    simp only [cellV, List.getElem?_eq_none hj', Option.getD_none, ↓exW_skip, ↓exW_seq, ↓exW_setn, ↓exW_setc, ↓exW_setJ, ↓putW_at, ↓putE_L, ↓ixW_0, ↓ixW_1, ↓exW_aug, ↓exW_retv, ↓exW_ex, ↓exW_app, ↓exW_ext, ↓exW_ite, ↓exW_for, ↓exW_whl, ↓exW_ret_op, ↓exW_ret_lit, ↓exW_ret_call, ↓exW_ret_mkt, ↓exW_ret_mkl, ↓exW_ret_ite, ↓exW_ret_and, ↓exW_ret_or, ↓exW_ret_comp, ↓exW_ret_chain, ↓exW_ret_pop, ↓evW_lit, ↓evW_var, ↓evW_nil, ↓evW_cons, ↓evW_op, ↓evW_mkl, ↓evW_mkt, ↓evW_ite, ↓evW_and, ↓evW_or, ↓evW_call, ↓evW_comp, ↓evW_pop, ↓evW_chain, ↓hdQ_1, ↓contF_nx, ↓contF_rt, ↓atE_0, ↓atE_S, ↓borW_nil, ↓borW_vl, ↓borW_vrT, ↓borW_vrF, ↓takW_nil, ↓takW_vl, ↓takW_vr, ↓oneW_vl, ↓oneW_vr, ↓lendW_nil, ↓lendW_vl, ↓lendW_vr, ↓trW_vl, ↓trW_vr, ↓ifB_t, ↓ifB_f, ↓ifB_d, ↓ifB_n, ↓truW_bl, ↓truW_int, ↓truW_lst, ↓truW_tup, ↓truW_non, ↓opK_add, ↓opK_addT, ↓opK_addL, ↓opK_addS, ↓opK_sub, ↓opK_mul, ↓opK_mulT, ↓opK_mulL, ↓opK_fdiv, ↓opK_mod, ↓opK_pow, ↓opK_shl, ↓opK_band, ↓opK_neg, ↓opK_notB, ↓opK_not, ↓opK_lt, ↓opK_le, ↓opK_gt, ↓opK_ge, ↓opK_eq, ↓opK_ne, ↓opK_isN, ↓opK_notN, ↓opK_isB, ↓opK_notB2, ↓opK_lenL, ↓opK_lenT, ↓opK_lenC, ↓opK_lenS, ↓opK_listL, ↓opK_listT, ↓opK_tupL, ↓opK_tupT, ↓opK_int, ↓opK_intB, ↓opK_abs, ↓opK_max2, ↓opK_min2, ↓opK_isT, ↓opK_idxL, ↓opK_idxT, ↓opK_idxC, ↓opK_revL, ↓opK_revT, ↓opK_lrg1, ↓opK_lrg2, ↓opK_trg1, ↓opK_trg2, ↓itemW_0, ↓itemW_1, ↓itemW_2, ↓itemW_3, ↓itemsW_L, ↓itemsW_T, ↓itemsW_S, ↓itemsW_r1, ↓itemsW_r2, ↓bindW_nm, ↓bindW_nil, ↓bindW_cons, ↓back_vl, ↓back_vr, ↓back_vrN, ↓back_nil, ↓low_z, ↓low_11, ↓low_1, ↓awayE_z, ↓awayE_1, ↓awayE_2, keepO, lvOf, lvO_int, lvO_bl, lvO_str, lvO_tup, lvO_lst, lvO_non, isTy, isNon, List.set_cons_zero, List.set_cons_succ, List.length_cons, List.length_nil, getE_cons0, getE_consS, Option.isNone_none, Option.isNone_some, Bool.false_eq_true, if_true, if_false, Bool.not_true, Bool.not_false, Nat.zero_add, Nat.reduceAdd, Nat.reduceLT, Nat.reduceSub, true_and, and_true, Nat.min_zero, Nat.zero_min, Nat.reduceBEq, Bool.and_true, Bool.true_and, decide_true, decide_false, outs_z, outs_S, outs_N, outs_0, Int.reduceLT, Int.reduceLE, Nat.reduceLeDiff, List.isEmpty_cons, List.isEmpty_nil, and_self, isLstAt_0, isLstAt_S, isAtomAt_0, isAtomAt_S, pOf_0, pOf_S]
def bDig1 : S := (.ite (.op .gt (.cons (.var 5) (.cons (.lit (.int 0)) .nil))) (.seq (.app 3 (.op .mod (.cons (.op .int (.cons (.var 5) .nil)) (.cons (.lit (.int 1000)) .nil))))
  (.set (.nm 5) (.op .fdiv (.cons (.var 5) (.cons (.lit (.int 1000)) .nil))))) .skip)
def bDig2 : S := (.seq (.set (.nm 7) (.op .mod (.cons (.op .int (.cons (.op .add (.cons (.op .add (.cons (.op .mul (.cons (.var 7) (.cons (.lit (.int 16807)) .nil))) (.cons (.op .mul (.cons (.lit (.int 7)) (.cons (.var 6) .nil))) .nil))) (.cons (.lit (.int 1)) .nil))) .nil)) (.cons (.lit (.int 2147483647)) .nil))))
  (.app 3 (.op .mod (.cons (.op .int (.cons (.op .fdiv (.cons (.var 7) (.cons (.lit (.int 997)) .nil))) .nil)) (.cons (.lit (.int 1000)) .nil)))))
def bDigits (j : Nat) : S := (.seq (.set (.nm 3) (.mkl .nil))
  (.seq (.for (.nm 4) .range (.cons (.var 1) (.cons (.var 2) .nil))
  (.seq (.set (.nm 5) (.call j (.cons (.var 0) (.cons (.var 4) .nil))))
  (.seq (.ite (.op .lt (.cons (.var 5) (.cons (.lit (.int 0)) .nil))) (.set (.nm 5) (.op .sub (.cons (.lit (.int 1)) (.cons (.op .mul (.cons (.lit (.int 2)) (.cons (.var 5) .nil))) .nil)))) .skip)
  (.ite (.op .ge (.cons (.var 5) (.cons (.op .pow (.cons (.lit (.int 10)) (.cons (.lit (.int 18)) .nil))) .nil))) (.for (.nm 6) .range (.cons (.lit (.int 60)) .nil)
  bDig1) (.seq (.set (.nm 7) (.op .mod (.cons (.op .int (.cons (.op .add (.cons (.op .add (.cons (.op .mul (.cons (.var 5) (.cons (.lit (.int 48271)) .nil))) (.cons (.op .mul (.cons (.var 4) (.cons (.lit (.int 69621)) .nil))) .nil))) (.cons (.lit (.int 11)) .nil))) .nil)) (.cons (.lit (.int 2147483647)) .nil))))
  (.for (.nm 6) .range (.cons (.lit (.int 12)) .nil)
  bDig2))))))
  (.ret (.var 3))))
def bDraw : S := (.seq (.set (.nm 2) (.op .idx (.cons (.var 0) (.cons (.lit (.int 1)) .nil))))
  (.seq (.setI 0 (.lit (.int 1)) (.op .add (.cons (.var 2) (.cons (.lit (.int 1)) .nil))))
  (.seq (.ite (.op .lt (.cons (.var 2) (.cons (.op .len (.cons (.op .idx (.cons (.var 0) (.cons (.lit (.int 0)) .nil))) .nil)) .nil))) (.ret (.op .mod (.cons (.op .int (.cons (.op .idx (.cons (.op .idx (.cons (.var 0) (.cons (.lit (.int 0)) .nil))) (.cons (.var 2) .nil))) .nil)) (.cons (.var 1) .nil)))) .skip)
  (.ret (.op .mod (.cons (.op .int (.cons (.op .add (.cons (.op .mul (.cons (.var 2) (.cons (.lit (.int 7)) .nil))) (.cons (.lit (.int 3)) .nil))) .nil)) (.cons (.var 1) .nil)))))))
def Box (ds : List Int) (at_ : Nat) : D := .lst [.lst (ds.map .int), .int at_]
def drawV (ds : List Int) (at_ : Nat) (m : Int) : Int := (if at_ < ds.length then (ds[at_]?).getD 0 else at_ * 7 + 3) % m
theorem drawV_lt {ds : List Int} {at_ : Nat} {m : Int} (h : 0 < m) : 0 ≤ drawV ds at_ m ∧ drawV ds at_ m < m := by
  unfold drawV
  exact ⟨Int.emod_nonneg _ (by omega), Int.emod_lt_of_pos _ h⟩
theorem small_lit {i : Int} (h : -18446744073709551616 < i ∧ i < 18446744073709551616) : small i = true := by
  unfold small
  simp [h.1, h.2]
theorem draw_ok {T : List Fn} {i n : Nat} (h : T[i]? = some ⟨2, 3, bDraw⟩) (ds : List Int) (at_ : Nat) (m : Int) (hm : 0 < m) :
    callF T (n + 1) i [(Box ds at_, 1), (.int m, 0)] = .val (.int (drawV ds at_ m), 0, [some (Box ds (at_ + 1), 1), some (.int m, 0)]) := by
  refine call_eq h rfl ?_
  simp only [env0_2, bDraw, Box, List.replicate, ↓exW_skip, ↓exW_seq, ↓exW_setn, ↓exW_setc, ↓exW_setJ, ↓putW_at, ↓putE_L, ↓ixW_0, ↓ixW_1, ↓exW_aug, ↓exW_retv, ↓exW_ex, ↓exW_app, ↓exW_ext, ↓exW_ite, ↓exW_for, ↓exW_whl, ↓exW_ret_op, ↓exW_ret_lit, ↓exW_ret_call, ↓exW_ret_mkt, ↓exW_ret_mkl, ↓exW_ret_ite, ↓exW_ret_and, ↓exW_ret_or, ↓exW_ret_comp, ↓exW_ret_chain, ↓exW_ret_pop, ↓evW_lit, ↓evW_var, ↓evW_nil, ↓evW_cons, ↓evW_op, ↓evW_mkl, ↓evW_mkt, ↓evW_ite, ↓evW_and, ↓evW_or, ↓evW_call, ↓evW_comp, ↓evW_pop, ↓evW_chain, ↓hdQ_1, ↓contF_nx, ↓contF_rt, ↓atE_0, ↓atE_S, ↓borW_nil, ↓borW_vl, ↓borW_vrT, ↓borW_vrF, ↓takW_nil, ↓takW_vl, ↓takW_vr, ↓oneW_vl, ↓oneW_vr, ↓lendW_nil, ↓lendW_vl, ↓lendW_vr, ↓trW_vl, ↓trW_vr, ↓ifB_t, ↓ifB_f, ↓ifB_d, ↓ifB_n, ↓truW_bl, ↓truW_int, ↓truW_lst, ↓truW_tup, ↓truW_non, ↓opK_add, ↓opK_addT, ↓opK_addL, ↓opK_addS, ↓opK_sub, ↓opK_mul, ↓opK_mulT, ↓opK_mulL, ↓opK_fdiv, ↓opK_mod, ↓opK_pow, ↓opK_shl, ↓opK_band, ↓opK_neg, ↓opK_notB, ↓opK_not, ↓opK_lt, ↓opK_le, ↓opK_gt, ↓opK_ge, ↓opK_eq, ↓opK_ne, ↓opK_isN, ↓opK_notN, ↓opK_isB, ↓opK_notB2, ↓opK_lenL, ↓opK_lenT, ↓opK_lenC, ↓opK_lenS, ↓opK_listL, ↓opK_listT, ↓opK_tupL, ↓opK_tupT, ↓opK_int, ↓opK_intB, ↓opK_abs, ↓opK_max2, ↓opK_min2, ↓opK_isT, ↓opK_idxL, ↓opK_idxT, ↓opK_idxC, ↓opK_revL, ↓opK_revT, ↓opK_lrg1, ↓opK_lrg2, ↓opK_trg1, ↓opK_trg2, ↓itemW_0, ↓itemW_1, ↓itemW_2, ↓itemW_3, ↓itemsW_L, ↓itemsW_T, ↓itemsW_S, ↓itemsW_r1, ↓itemsW_r2, ↓bindW_nm, ↓bindW_nil, ↓bindW_cons, ↓back_vl, ↓back_vr, ↓back_vrN, ↓back_nil, ↓low_z, ↓low_11, ↓low_1, ↓awayE_z, ↓awayE_1, ↓awayE_2, keepO, lvOf, lvO_int, lvO_bl, lvO_str, lvO_tup, lvO_lst, lvO_non, isTy, isNon, List.set_cons_zero, List.set_cons_succ, List.length_cons, List.length_nil, getE_cons0, getE_consS, Option.isNone_none, Option.isNone_some, Bool.false_eq_true, if_true, if_false, Bool.not_true, Bool.not_false, Nat.zero_add, Nat.reduceAdd, Nat.reduceLT, Nat.reduceSub, true_and, and_true, Nat.min_zero, Nat.zero_min, Nat.reduceBEq, Bool.and_true, Bool.true_and, decide_true, decide_false, outs_z, outs_S, outs_N, outs_0, Int.reduceLT, Int.reduceLE, Nat.reduceLeDiff, List.isEmpty_cons, List.isEmpty_nil, and_self, isLstAt_0, isLstAt_S, isAtomAt_0, isAtomAt_S, pOf_0, pOf_S]
  have e7 : small 7 = true := rfl
  refine ⟨fun hj => ?_, fun hj => ?_⟩
  · have hj' : at_ < ds.length := by simpa using hj
    have hg : (ds.map D.int)[at_]? = some (.int ds[at_]) := by simp [hj']
    rw [itemW_at hg]
    simp only [↓exW_skip, ↓exW_seq, ↓exW_setn, ↓exW_setc, ↓exW_setJ, ↓putW_at, ↓putE_L, ↓ixW_0, ↓ixW_1, ↓exW_aug, ↓exW_retv, ↓exW_ex, ↓exW_app, ↓exW_ext, ↓exW_ite, ↓exW_for, ↓exW_whl, ↓exW_ret_op, ↓exW_ret_lit, ↓exW_ret_call, ↓exW_ret_mkt, ↓exW_ret_mkl, ↓exW_ret_ite, ↓exW_ret_and, ↓exW_ret_or, ↓exW_ret_comp, ↓exW_ret_chain, ↓exW_ret_pop, ↓evW_lit, ↓evW_var, ↓evW_nil, ↓evW_cons, ↓evW_op, ↓evW_mkl, ↓evW_mkt, ↓evW_ite, ↓evW_and, ↓evW_or, ↓evW_call, ↓evW_comp, ↓evW_pop, ↓evW_chain, ↓hdQ_1, ↓contF_nx, ↓contF_rt, ↓atE_0, ↓atE_S, ↓borW_nil, ↓borW_vl, ↓borW_vrT, ↓borW_vrF, ↓takW_nil, ↓takW_vl, ↓takW_vr, ↓oneW_vl, ↓oneW_vr, ↓lendW_nil, ↓lendW_vl, ↓lendW_vr, ↓trW_vl, ↓trW_vr, ↓ifB_t, ↓ifB_f, ↓ifB_d, ↓ifB_n, ↓truW_bl, ↓truW_int, ↓truW_lst, ↓truW_tup, ↓truW_non, ↓opK_add, ↓opK_addT, ↓opK_addL, ↓opK_addS, ↓opK_sub, ↓opK_mul, ↓opK_mulT, ↓opK_mulL, ↓opK_fdiv, ↓opK_mod, ↓opK_pow, ↓opK_shl, ↓opK_band, ↓opK_neg, ↓opK_notB, ↓opK_not, ↓opK_lt, ↓opK_le, ↓opK_gt, ↓opK_ge, ↓opK_eq, ↓opK_ne, ↓opK_isN, ↓opK_notN, ↓opK_isB, ↓opK_notB2, ↓opK_lenL, ↓opK_lenT, ↓opK_lenC, ↓opK_lenS, ↓opK_listL, ↓opK_listT, ↓opK_tupL, ↓opK_tupT, ↓opK_int, ↓opK_intB, ↓opK_abs, ↓opK_max2, ↓opK_min2, ↓opK_isT, ↓opK_idxL, ↓opK_idxT, ↓opK_idxC, ↓opK_revL, ↓opK_revT, ↓opK_lrg1, ↓opK_lrg2, ↓opK_trg1, ↓opK_trg2, ↓itemW_0, ↓itemW_1, ↓itemW_2, ↓itemW_3, ↓itemsW_L, ↓itemsW_T, ↓itemsW_S, ↓itemsW_r1, ↓itemsW_r2, ↓bindW_nm, ↓bindW_nil, ↓bindW_cons, ↓back_vl, ↓back_vr, ↓back_vrN, ↓back_nil, ↓low_z, ↓low_11, ↓low_1, ↓awayE_z, ↓awayE_1, ↓awayE_2, keepO, lvOf, lvO_int, lvO_bl, lvO_str, lvO_tup, lvO_lst, lvO_non, isTy, isNon, List.set_cons_zero, List.set_cons_succ, List.length_cons, List.length_nil, getE_cons0, getE_consS, Option.isNone_none, Option.isNone_some, Bool.false_eq_true, if_true, if_false, Bool.not_true, Bool.not_false, Nat.zero_add, Nat.reduceAdd, Nat.reduceLT, Nat.reduceSub, true_and, and_true, Nat.min_zero, Nat.zero_min, Nat.reduceBEq, Bool.and_true, Bool.true_and, decide_true, decide_false, outs_z, outs_S, outs_N, outs_0, Int.reduceLT, Int.reduceLE, Nat.reduceLeDiff, List.isEmpty_cons, List.isEmpty_nil, and_self, isLstAt_0, isLstAt_S, isAtomAt_0, isAtomAt_S, pOf_0, pOf_S]
    refine ⟨hm, ?_, ?_⟩
    · simp [drawV, hj']
    · simp
  · have hj' : ¬ at_ < ds.length := by simpa using hj
    simp [e7, drawV, hj', hm]
/-- what the digits are -/
def Dig (ds : List Int) : Prop := ds.length ≤ 3780 ∧ ∀ d ∈ ds, 0 ≤ d ∧ d < 1000
theorem ent_eta {d : D} {l : Nat} {p : Bool} {d' : D} {l' : Nat} (h1 : d = d') (h2 : l = l') : (⟨d, l, p⟩ : Ent) = ⟨d', l', p⟩ := by rw [h1, h2]
/-- digits so far: at most m -/
def DigE (m : Nat) (e : Option Ent) : Prop := ∃ (ds : List Int) (l : Nat), e = some ⟨.lst (ds.map D.int), l + 1, false⟩ ∧ ds.length ≤ m ∧ ∀ d ∈ ds, 0 ≤ d ∧ d < 1000
theorem DigE.more {m m' : Nat} {e : Option Ent} (h : DigE m e) (hm : m ≤ m') : DigE m' e := by
  obtain ⟨ds, l, h1, h2, h3⟩ := h
  exact ⟨ds, l, h1, by omega, h3⟩
theorem DigE.app {m : Nat} {ds : List Int} {l : Nat} {v : Int} (h2 : ds.length ≤ m) (h3 : ∀ d ∈ ds, 0 ≤ d ∧ d < 1000) (hv : 0 ≤ v ∧ v < 1000) : DigE (m + 1) (some ⟨.lst (ds.map D.int ++ [.int v]), l + 1, false⟩) := by
  refine ⟨ds ++ [v], l, by rw [List.map_append]; rfl, by rw [List.length_append]; simpa using h2, fun d hd => ?_⟩
  rcases List.mem_append.mp hd with hd | hd
  · exact h3 d hd
  · simp only [List.mem_singleton] at hd
    subst hd
    exact hv
theorem appW_at {xs : List D} {m l : Nat} {p : Bool} {d : D} {r : Env} {i : Nat} {Q : Env → Prop} (h : getE r i = some ⟨.lst xs, m + 1, p⟩) : appW r i d l Q ↔ xs.length < 16777216 ∧ Q (r.set i (some ⟨.lst (xs ++ [d]), min m l + 1, p⟩)) := by
  unfold appW
  rw [h]
  constructor
  · rintro ⟨xs', m', p', e, q⟩
    cases e
    exact q
  · intro q
    exact ⟨xs, m, p, rfl, q⟩
/-- the digits' list and what else stands in the slots -/
abbrev digR (L : Int) (ns : List Int) (e3 x4 x5 x6 x7 : Option Ent) : Env := [some ⟨.scr ns, 0, true⟩, some ⟨.int 0, 0, true⟩, some ⟨.int L, 0, true⟩, e3, x4, x5, x6, x7]
theorem dig1 {cf : CF} {L : Int} {ns : List Int} {m : Nat} (hm : m ≤ 3780) {e3 x4 x6 x7 : Option Ent} (he : DigE m e3) (c : Int) {W : D → Nat → Env → Prop} {Q : Env → Prop} (hQ : ∀ e3 x4 x5 x6 x7, DigE (60 + m) e3 → Q (digR L ns e3 x4 x5 x6 x7)) :
    forW (turnF cf (.nm 6) bDig1) ((rangeL 0 60).map .int) (digR L ns e3 x4 (some ⟨.int c, 0, false⟩) x6 x7) (contF Q W) := by
  refine for_inv (fun k r => ∃ e3 x4 x6 x7 c, DigE (k + m) e3 ∧ r = digR L ns e3 x4 (some ⟨.int c, 0, false⟩) x6 x7) ⟨e3, x4, x6, x7, c, by simpa using he, rfl⟩ ?_ ?_
  · rintro k d r hd ⟨e3, x4, x6, x7, c, he, rfl⟩
    obtain ⟨rfl, hk⟩ := range_get hd
    rw [turn_exW]
    obtain ⟨ds, l, rfl, h2, h3⟩ := he
    simp only [digR, bDig1, ↓exW_skip, ↓exW_seq, ↓exW_setn, ↓exW_setc, ↓exW_setJ, ↓putW_at, ↓putE_L, ↓ixW_0, ↓ixW_1, ↓exW_aug, ↓exW_retv, ↓exW_ex, ↓exW_app, ↓exW_ext, ↓exW_ite, ↓exW_for, ↓exW_whl, ↓exW_ret_op, ↓exW_ret_lit, ↓exW_ret_call, ↓exW_ret_mkt, ↓exW_ret_mkl, ↓exW_ret_ite, ↓exW_ret_and, ↓exW_ret_or, ↓exW_ret_comp, ↓exW_ret_chain, ↓exW_ret_pop, ↓evW_lit, ↓evW_var, ↓evW_nil, ↓evW_cons, ↓evW_op, ↓evW_mkl, ↓evW_mkt, ↓evW_ite, ↓evW_and, ↓evW_or, ↓evW_call, ↓evW_comp, ↓evW_pop, ↓evW_chain, ↓hdQ_1, ↓contF_nx, ↓contF_rt, ↓atE_0, ↓atE_S, ↓borW_nil, ↓borW_vl, ↓borW_vrT, ↓borW_vrF, ↓takW_nil, ↓takW_vl, ↓takW_vr, ↓oneW_vl, ↓oneW_vr, ↓lendW_nil, ↓lendW_vl, ↓lendW_vr, ↓trW_vl, ↓trW_vr, ↓ifB_t, ↓ifB_f, ↓ifB_d, ↓ifB_n, ↓truW_bl, ↓truW_int, ↓truW_lst, ↓truW_tup, ↓truW_non, ↓opK_add, ↓opK_addT, ↓opK_addL, ↓opK_addS, ↓opK_sub, ↓opK_mul, ↓opK_mulT, ↓opK_mulL, ↓opK_fdiv, ↓opK_mod, ↓opK_pow, ↓opK_shl, ↓opK_band, ↓opK_neg, ↓opK_notB, ↓opK_not, ↓opK_lt, ↓opK_le, ↓opK_gt, ↓opK_ge, ↓opK_eq, ↓opK_ne, ↓opK_isN, ↓opK_notN, ↓opK_isB, ↓opK_notB2, ↓opK_lenL, ↓opK_lenT, ↓opK_lenC, ↓opK_lenS, ↓opK_listL, ↓opK_listT, ↓opK_tupL, ↓opK_tupT, ↓opK_int, ↓opK_intB, ↓opK_abs, ↓opK_max2, ↓opK_min2, ↓opK_isT, ↓opK_idxL, ↓opK_idxT, ↓opK_idxC, ↓opK_revL, ↓opK_revT, ↓opK_lrg1, ↓opK_lrg2, ↓opK_trg1, ↓opK_trg2, ↓itemW_0, ↓itemW_1, ↓itemW_2, ↓itemW_3, ↓itemsW_L, ↓itemsW_T, ↓itemsW_S, ↓itemsW_r1, ↓itemsW_r2, ↓bindW_nm, ↓bindW_nil, ↓bindW_cons, ↓back_vl, ↓back_vr, ↓back_vrN, ↓back_nil, ↓low_z, ↓low_11, ↓low_1, ↓awayE_z, ↓awayE_1, ↓awayE_2, keepO, lvOf, lvO_int, lvO_bl, lvO_str, lvO_tup, lvO_lst, lvO_non, isTy, isNon, List.set_cons_zero, List.set_cons_succ, List.length_cons, List.length_nil, getE_cons0, getE_consS, Option.isNone_none, Option.isNone_some, Bool.false_eq_true, if_true, if_false, Bool.not_true, Bool.not_false, Nat.zero_add, Nat.reduceAdd, Nat.reduceLT, Nat.reduceSub, true_and, and_true, Nat.min_zero, Nat.zero_min, Nat.reduceBEq, Bool.and_true, Bool.true_and, decide_true, decide_false, outs_z, outs_S, outs_N, outs_0, Int.reduceLT, Int.reduceLE, Nat.reduceLeDiff, List.isEmpty_cons, List.isEmpty_nil, and_self, isLstAt_0, isLstAt_S, isAtomAt_0, isAtomAt_S, pOf_0, pOf_S]
    refine ⟨fun hc => ?_, fun hc => ⟨_, _, _, _, _, ⟨ds, l, rfl, by omega, h3⟩, rfl⟩⟩
    have hv : 0 ≤ c % 1000 ∧ c % 1000 < 1000 := ⟨Int.emod_nonneg _ (by decide), Int.emod_lt_of_pos _ (by decide)⟩
    rw [appW_at rfl]
    simp only [↓exW_skip, ↓exW_seq, ↓exW_setn, ↓exW_setc, ↓exW_setJ, ↓putW_at, ↓putE_L, ↓ixW_0, ↓ixW_1, ↓exW_aug, ↓exW_retv, ↓exW_ex, ↓exW_app, ↓exW_ext, ↓exW_ite, ↓exW_for, ↓exW_whl, ↓exW_ret_op, ↓exW_ret_lit, ↓exW_ret_call, ↓exW_ret_mkt, ↓exW_ret_mkl, ↓exW_ret_ite, ↓exW_ret_and, ↓exW_ret_or, ↓exW_ret_comp, ↓exW_ret_chain, ↓exW_ret_pop, ↓evW_lit, ↓evW_var, ↓evW_nil, ↓evW_cons, ↓evW_op, ↓evW_mkl, ↓evW_mkt, ↓evW_ite, ↓evW_and, ↓evW_or, ↓evW_call, ↓evW_comp, ↓evW_pop, ↓evW_chain, ↓hdQ_1, ↓contF_nx, ↓contF_rt, ↓atE_0, ↓atE_S, ↓borW_nil, ↓borW_vl, ↓borW_vrT, ↓borW_vrF, ↓takW_nil, ↓takW_vl, ↓takW_vr, ↓oneW_vl, ↓oneW_vr, ↓lendW_nil, ↓lendW_vl, ↓lendW_vr, ↓trW_vl, ↓trW_vr, ↓ifB_t, ↓ifB_f, ↓ifB_d, ↓ifB_n, ↓truW_bl, ↓truW_int, ↓truW_lst, ↓truW_tup, ↓truW_non, ↓opK_add, ↓opK_addT, ↓opK_addL, ↓opK_addS, ↓opK_sub, ↓opK_mul, ↓opK_mulT, ↓opK_mulL, ↓opK_fdiv, ↓opK_mod, ↓opK_pow, ↓opK_shl, ↓opK_band, ↓opK_neg, ↓opK_notB, ↓opK_not, ↓opK_lt, ↓opK_le, ↓opK_gt, ↓opK_ge, ↓opK_eq, ↓opK_ne, ↓opK_isN, ↓opK_notN, ↓opK_isB, ↓opK_notB2, ↓opK_lenL, ↓opK_lenT, ↓opK_lenC, ↓opK_lenS, ↓opK_listL, ↓opK_listT, ↓opK_tupL, ↓opK_tupT, ↓opK_int, ↓opK_intB, ↓opK_abs, ↓opK_max2, ↓opK_min2, ↓opK_isT, ↓opK_idxL, ↓opK_idxT, ↓opK_idxC, ↓opK_revL, ↓opK_revT, ↓opK_lrg1, ↓opK_lrg2, ↓opK_trg1, ↓opK_trg2, ↓itemW_0, ↓itemW_1, ↓itemW_2, ↓itemW_3, ↓itemsW_L, ↓itemsW_T, ↓itemsW_S, ↓itemsW_r1, ↓itemsW_r2, ↓bindW_nm, ↓bindW_nil, ↓bindW_cons, ↓back_vl, ↓back_vr, ↓back_vrN, ↓back_nil, ↓low_z, ↓low_11, ↓low_1, ↓awayE_z, ↓awayE_1, ↓awayE_2, keepO, lvOf, lvO_int, lvO_bl, lvO_str, lvO_tup, lvO_lst, lvO_non, isTy, isNon, List.set_cons_zero, List.set_cons_succ, List.length_cons, List.length_nil, getE_cons0, getE_consS, Option.isNone_none, Option.isNone_some, Bool.false_eq_true, if_true, if_false, Bool.not_true, Bool.not_false, Nat.zero_add, Nat.reduceAdd, Nat.reduceLT, Nat.reduceSub, true_and, and_true, Nat.min_zero, Nat.zero_min, Nat.reduceBEq, Bool.and_true, Bool.true_and, decide_true, decide_false, outs_z, outs_S, outs_N, outs_0, Int.reduceLT, Int.reduceLE, Nat.reduceLeDiff, List.isEmpty_cons, List.isEmpty_nil, and_self, isLstAt_0, isLstAt_S, isAtomAt_0, isAtomAt_S, pOf_0, pOf_S]
    refine ⟨by rw [List.length_map]; omega, _, _, _, _, _, ?_, rfl⟩
    have := DigE.app (l := 0) h2 h3 hv
    have e : k + m + 1 = k + 1 + m := by omega
    rw [e] at this
    exact this
  · rintro r ⟨e3, x4, x6, x7, c, he, rfl⟩
    exact hQ _ _ _ _ _ (by rw [range_len] at he; exact he)
theorem dig2 {cf : CF} {L : Int} {ns : List Int} {m : Nat} (hm : m ≤ 3780) {e3 x4 x5 x6 : Option Ent} (he : DigE m e3) (c : Int) {W : D → Nat → Env → Prop} {Q : Env → Prop} (hQ : ∀ e3 x4 x5 x6 x7, DigE (12 + m) e3 → Q (digR L ns e3 x4 x5 x6 x7)) :
    forW (turnF cf (.nm 6) bDig2) ((rangeL 0 12).map .int) (digR L ns e3 x4 x5 x6 (some ⟨.int c, 0, false⟩)) (contF Q W) := by
  refine for_inv (fun k r => ∃ e3 x4 x5 x6 c, DigE (k + m) e3 ∧ r = digR L ns e3 x4 x5 x6 (some ⟨.int c, 0, false⟩)) ⟨e3, x4, x5, x6, c, by simpa using he, rfl⟩ ?_ ?_
  · rintro k d r hd ⟨e3, x4, x5, x6, c, he, rfl⟩
    obtain ⟨rfl, hk⟩ := range_get hd
    rw [turn_exW]
    obtain ⟨ds, l, rfl, h2, h3⟩ := he
    simp only [digR, bDig2, ↓exW_skip, ↓exW_seq, ↓exW_setn, ↓exW_setc, ↓exW_setJ, ↓putW_at, ↓putE_L, ↓ixW_0, ↓ixW_1, ↓exW_aug, ↓exW_retv, ↓exW_ex, ↓exW_app, ↓exW_ext, ↓exW_ite, ↓exW_for, ↓exW_whl, ↓exW_ret_op, ↓exW_ret_lit, ↓exW_ret_call, ↓exW_ret_mkt, ↓exW_ret_mkl, ↓exW_ret_ite, ↓exW_ret_and, ↓exW_ret_or, ↓exW_ret_comp, ↓exW_ret_chain, ↓exW_ret_pop, ↓evW_lit, ↓evW_var, ↓evW_nil, ↓evW_cons, ↓evW_op, ↓evW_mkl, ↓evW_mkt, ↓evW_ite, ↓evW_and, ↓evW_or, ↓evW_call, ↓evW_comp, ↓evW_pop, ↓evW_chain, ↓hdQ_1, ↓contF_nx, ↓contF_rt, ↓atE_0, ↓atE_S, ↓borW_nil, ↓borW_vl, ↓borW_vrT, ↓borW_vrF, ↓takW_nil, ↓takW_vl, ↓takW_vr, ↓oneW_vl, ↓oneW_vr, ↓lendW_nil, ↓lendW_vl, ↓lendW_vr, ↓trW_vl, ↓trW_vr, ↓ifB_t, ↓ifB_f, ↓ifB_d, ↓ifB_n, ↓truW_bl, ↓truW_int, ↓truW_lst, ↓truW_tup, ↓truW_non, ↓opK_add, ↓opK_addT, ↓opK_addL, ↓opK_addS, ↓opK_sub, ↓opK_mul, ↓opK_mulT, ↓opK_mulL, ↓opK_fdiv, ↓opK_mod, ↓opK_pow, ↓opK_shl, ↓opK_band, ↓opK_neg, ↓opK_notB, ↓opK_not, ↓opK_lt, ↓opK_le, ↓opK_gt, ↓opK_ge, ↓opK_eq, ↓opK_ne, ↓opK_isN, ↓opK_notN, ↓opK_isB, ↓opK_notB2, ↓opK_lenL, ↓opK_lenT, ↓opK_lenC, ↓opK_lenS, ↓opK_listL, ↓opK_listT, ↓opK_tupL, ↓opK_tupT, ↓opK_int, ↓opK_intB, ↓opK_abs, ↓opK_max2, ↓opK_min2, ↓opK_isT, ↓opK_idxL, ↓opK_idxT, ↓opK_idxC, ↓opK_revL, ↓opK_revT, ↓opK_lrg1, ↓opK_lrg2, ↓opK_trg1, ↓opK_trg2, ↓itemW_0, ↓itemW_1, ↓itemW_2, ↓itemW_3, ↓itemsW_L, ↓itemsW_T, ↓itemsW_S, ↓itemsW_r1, ↓itemsW_r2, ↓bindW_nm, ↓bindW_nil, ↓bindW_cons, ↓back_vl, ↓back_vr, ↓back_vrN, ↓back_nil, ↓low_z, ↓low_11, ↓low_1, ↓awayE_z, ↓awayE_1, ↓awayE_2, keepO, lvOf, lvO_int, lvO_bl, lvO_str, lvO_tup, lvO_lst, lvO_non, isTy, isNon, List.set_cons_zero, List.set_cons_succ, List.length_cons, List.length_nil, getE_cons0, getE_consS, Option.isNone_none, Option.isNone_some, Bool.false_eq_true, if_true, if_false, Bool.not_true, Bool.not_false, Nat.zero_add, Nat.reduceAdd, Nat.reduceLT, Nat.reduceSub, true_and, and_true, Nat.min_zero, Nat.zero_min, Nat.reduceBEq, Bool.and_true, Bool.true_and, decide_true, decide_false, outs_z, outs_S, outs_N, outs_0, Int.reduceLT, Int.reduceLE, Nat.reduceLeDiff, List.isEmpty_cons, List.isEmpty_nil, and_self, isLstAt_0, isLstAt_S, isAtomAt_0, isAtomAt_S, pOf_0, pOf_S]
    have e1 : small 16807 = true := rfl
    have e2 : small 7 = true := rfl
    refine ⟨by rw [e1, Bool.or_true], by rw [e2, Bool.true_or], ?_⟩
    rw [appW_at rfl]
    simp only [↓exW_skip, ↓exW_seq, ↓exW_setn, ↓exW_setc, ↓exW_setJ, ↓putW_at, ↓putE_L, ↓ixW_0, ↓ixW_1, ↓exW_aug, ↓exW_retv, ↓exW_ex, ↓exW_app, ↓exW_ext, ↓exW_ite, ↓exW_for, ↓exW_whl, ↓exW_ret_op, ↓exW_ret_lit, ↓exW_ret_call, ↓exW_ret_mkt, ↓exW_ret_mkl, ↓exW_ret_ite, ↓exW_ret_and, ↓exW_ret_or, ↓exW_ret_comp, ↓exW_ret_chain, ↓exW_ret_pop, ↓evW_lit, ↓evW_var, ↓evW_nil, ↓evW_cons, ↓evW_op, ↓evW_mkl, ↓evW_mkt, ↓evW_ite, ↓evW_and, ↓evW_or, ↓evW_call, ↓evW_comp, ↓evW_pop, ↓evW_chain, ↓hdQ_1, ↓contF_nx, ↓contF_rt, ↓atE_0, ↓atE_S, ↓borW_nil, ↓borW_vl, ↓borW_vrT, ↓borW_vrF, ↓takW_nil, ↓takW_vl, ↓takW_vr, ↓oneW_vl, ↓oneW_vr, ↓lendW_nil, ↓lendW_vl, ↓lendW_vr, ↓trW_vl, ↓trW_vr, ↓ifB_t, ↓ifB_f, ↓ifB_d, ↓ifB_n, ↓truW_bl, ↓truW_int, ↓truW_lst, ↓truW_tup, ↓truW_non, ↓opK_add, ↓opK_addT, ↓opK_addL, ↓opK_addS, ↓opK_sub, ↓opK_mul, ↓opK_mulT, ↓opK_mulL, ↓opK_fdiv, ↓opK_mod, ↓opK_pow, ↓opK_shl, ↓opK_band, ↓opK_neg, ↓opK_notB, ↓opK_not, ↓opK_lt, ↓opK_le, ↓opK_gt, ↓opK_ge, ↓opK_eq, ↓opK_ne, ↓opK_isN, ↓opK_notN, ↓opK_isB, ↓opK_notB2, ↓opK_lenL, ↓opK_lenT, ↓opK_lenC, ↓opK_lenS, ↓opK_listL, ↓opK_listT, ↓opK_tupL, ↓opK_tupT, ↓opK_int, ↓opK_intB, ↓opK_abs, ↓opK_max2, ↓opK_min2, ↓opK_isT, ↓opK_idxL, ↓opK_idxT, ↓opK_idxC, ↓opK_revL, ↓opK_revT, ↓opK_lrg1, ↓opK_lrg2, ↓opK_trg1, ↓opK_trg2, ↓itemW_0, ↓itemW_1, ↓itemW_2, ↓itemW_3, ↓itemsW_L, ↓itemsW_T, ↓itemsW_S, ↓itemsW_r1, ↓itemsW_r2, ↓bindW_nm, ↓bindW_nil, ↓bindW_cons, ↓back_vl, ↓back_vr, ↓back_vrN, ↓back_nil, ↓low_z, ↓low_11, ↓low_1, ↓awayE_z, ↓awayE_1, ↓awayE_2, keepO, lvOf, lvO_int, lvO_bl, lvO_str, lvO_tup, lvO_lst, lvO_non, isTy, isNon, List.set_cons_zero, List.set_cons_succ, List.length_cons, List.length_nil, getE_cons0, getE_consS, Option.isNone_none, Option.isNone_some, Bool.false_eq_true, if_true, if_false, Bool.not_true, Bool.not_false, Nat.zero_add, Nat.reduceAdd, Nat.reduceLT, Nat.reduceSub, true_and, and_true, Nat.min_zero, Nat.zero_min, Nat.reduceBEq, Bool.and_true, Bool.true_and, decide_true, decide_false, outs_z, outs_S, outs_N, outs_0, Int.reduceLT, Int.reduceLE, Nat.reduceLeDiff, List.isEmpty_cons, List.isEmpty_nil, and_self, isLstAt_0, isLstAt_S, isAtomAt_0, isAtomAt_S, pOf_0, pOf_S]
    refine ⟨by rw [List.length_map]; omega, _, _, _, _, _, ?_, rfl⟩
    have := DigE.app (l := 0) h2 h3 (v := (c * 16807 + 7 * (0 + (k : Int)) + 1) % 2147483647 / 997 % 1000) ⟨Int.emod_nonneg _ (by decide), Int.emod_lt_of_pos _ (by decide)⟩
    have e : k + m + 1 = k + 1 + m := by omega
    rw [e] at this
    exact this
  · rintro r ⟨e3, x4, x5, x6, c, he, rfl⟩
    exact hQ _ _ _ _ _ (by rw [range_len] at he; exact he)
theorem digits_ok {T : List Fn} {i j n : Nat} (h : T[i]? = some ⟨3, 8, bDigits j⟩) (hj : T[j]? = some ⟨2, 2, bCell⟩) (L : Int) (hL : 0 ≤ L ∧ L ≤ 63) (ns : List Int) :
    ∃ ds l, Dig ds ∧ callF T (n + 2) i [(.scr ns, 0), (.int 0, 0), (.int L, 0)] = .val (.lst (ds.map .int), l, [some (.scr ns, 0), some (.int 0, 0), some (.int L, 0)]) := by
  have goal : callW (callF T (n + 1 + 1)) i [(.scr ns, 0), (.int 0, 0), (.int L, 0)] fun d l outs => ∃ ds, Dig ds ∧ d = .lst (ds.map .int) ∧ outs = [some (.scr ns, 0), some (.int 0, 0), some (.int L, 0)] := by
    rw [call_in h rfl]
    simp only [env0_3, bDigits, List.replicate, ↓exW_skip, ↓exW_seq, ↓exW_setn, ↓exW_setc, ↓exW_setJ, ↓putW_at, ↓putE_L, ↓ixW_0, ↓ixW_1, ↓exW_aug, ↓exW_retv, ↓exW_ex, ↓exW_app, ↓exW_ext, ↓exW_ite, ↓exW_for, ↓exW_whl, ↓exW_ret_op, ↓exW_ret_lit, ↓exW_ret_call, ↓exW_ret_mkt, ↓exW_ret_mkl, ↓exW_ret_ite, ↓exW_ret_and, ↓exW_ret_or, ↓exW_ret_comp, ↓exW_ret_chain, ↓exW_ret_pop, ↓evW_lit, ↓evW_var, ↓evW_nil, ↓evW_cons, ↓evW_op, ↓evW_mkl, ↓evW_mkt, ↓evW_ite, ↓evW_and, ↓evW_or, ↓evW_call, ↓evW_comp, ↓evW_pop, ↓evW_chain, ↓hdQ_1, ↓contF_nx, ↓contF_rt, ↓atE_0, ↓atE_S, ↓borW_nil, ↓borW_vl, ↓borW_vrT, ↓borW_vrF, ↓takW_nil, ↓takW_vl, ↓takW_vr, ↓oneW_vl, ↓oneW_vr, ↓lendW_nil, ↓lendW_vl, ↓lendW_vr, ↓trW_vl, ↓trW_vr, ↓ifB_t, ↓ifB_f, ↓ifB_d, ↓ifB_n, ↓truW_bl, ↓truW_int, ↓truW_lst, ↓truW_tup, ↓truW_non, ↓opK_add, ↓opK_addT, ↓opK_addL, ↓opK_addS, ↓opK_sub, ↓opK_mul, ↓opK_mulT, ↓opK_mulL, ↓opK_fdiv, ↓opK_mod, ↓opK_pow, ↓opK_shl, ↓opK_band, ↓opK_neg, ↓opK_notB, ↓opK_not, ↓opK_lt, ↓opK_le, ↓opK_gt, ↓opK_ge, ↓opK_eq, ↓opK_ne, ↓opK_isN, ↓opK_notN, ↓opK_isB, ↓opK_notB2, ↓opK_lenL, ↓opK_lenT, ↓opK_lenC, ↓opK_lenS, ↓opK_listL, ↓opK_listT, ↓opK_tupL, ↓opK_tupT, ↓opK_int, ↓opK_intB, ↓opK_abs, ↓opK_max2, ↓opK_min2, ↓opK_isT, ↓opK_idxL, ↓opK_idxT, ↓opK_idxC, ↓opK_revL, ↓opK_revT, ↓opK_lrg1, ↓opK_lrg2, ↓opK_trg1, ↓opK_trg2, ↓itemW_0, ↓itemW_1, ↓itemW_2, ↓itemW_3, ↓itemsW_L, ↓itemsW_T, ↓itemsW_S, ↓itemsW_r1, ↓itemsW_r2, ↓bindW_nm, ↓bindW_nil, ↓bindW_cons, ↓back_vl, ↓back_vr, ↓back_vrN, ↓back_nil, ↓low_z, ↓low_11, ↓low_1, ↓awayE_z, ↓awayE_1, ↓awayE_2, keepO, lvOf, lvO_int, lvO_bl, lvO_str, lvO_tup, lvO_lst, lvO_non, isTy, isNon, List.set_cons_zero, List.set_cons_succ, List.length_cons, List.length_nil, getE_cons0, getE_consS, Option.isNone_none, Option.isNone_some, Bool.false_eq_true, if_true, if_false, Bool.not_true, Bool.not_false, Nat.zero_add, Nat.reduceAdd, Nat.reduceLT, Nat.reduceSub, true_and, and_true, Nat.min_zero, Nat.zero_min, Nat.reduceBEq, Bool.and_true, Bool.true_and, decide_true, decide_false, outs_z, outs_S, outs_N, outs_0, Int.reduceLT, Int.reduceLE, Nat.reduceLeDiff, List.isEmpty_cons, List.isEmpty_nil, and_self, isLstAt_0, isLstAt_S, isAtomAt_0, isAtomAt_S, pOf_0, pOf_S]
    have hR : (okR 0 && okR L) = true := by
      unfold okR
      rw [decide_eq_true (show -4611686018427387904 ≤ L by omega), decide_eq_true (show L < 4611686018427387904 by omega)]
      rfl
    refine ⟨rfl, hR, ?_⟩
    refine for_inv (fun k r => ∃ e3 x4 x5 x6 x7, DigE (60 * k) e3 ∧ r = [some ⟨.scr ns, 0, true⟩, some ⟨.int 0, 0, true⟩, some ⟨.int L, 0, true⟩, e3, x4, x5, x6, x7])
      ⟨_, _, _, _, _, ⟨[], 8, rfl, by simp, by simp⟩, rfl⟩ ?_ ?_
    · rintro k d r hd ⟨e3, x4, x5, x6, x7, he, rfl⟩
      obtain ⟨rfl, hk⟩ := range_get hd
      rw [turn_exW]
      have hc : ∀ K, callW (callF T (n + 1)) j [(.scr ns, 0), (.int k, 0)] K ↔ K (.int (cellV ns k)) 0 [some (.scr ns, 0), some (.int k, 0)] := fun K => callW_of (cell_ok hj ns k)
      have s2 : small 2 = true := rfl
      have s3 : small 10 = true := rfl
      have s4 : small 48271 = true := rfl
      have s5 : small 69621 = true := rfl
      have t1 : ∀ e3 x4 x5 x6 x7, DigE (60 + 60 * k) e3 → ∃ e3' x4' x5' x6' x7', DigE (60 * (k + 1)) e3' ∧ digR L ns e3 x4 x5 x6 x7 = digR L ns e3' x4' x5' x6' x7' := fun e3 x4 x5 x6 x7 h => ⟨e3, x4, x5, x6, x7, h.more (by omega), rfl⟩
      have t2 : ∀ e3 x4 x5 x6 x7, DigE (12 + 60 * k) e3 → ∃ e3' x4' x5' x6' x7', DigE (60 * (k + 1)) e3' ∧ digR L ns e3 x4 x5 x6 x7 = digR L ns e3' x4' x5' x6' x7' := fun e3 x4 x5 x6 x7 h => ⟨e3, x4, x5, x6, x7, h.more (by omega), rfl⟩
      have hm : 60 * k ≤ 3780 := by omega
      simp only [Int.zero_add, ↓hc, s2, s3, s4, s5, Bool.true_or, Bool.or_true, ↓exW_skip, ↓exW_seq, ↓exW_setn, ↓exW_setc, ↓exW_setJ, ↓putW_at, ↓putE_L, ↓ixW_0, ↓ixW_1, ↓exW_aug, ↓exW_retv, ↓exW_ex, ↓exW_app, ↓exW_ext, ↓exW_ite, ↓exW_for, ↓exW_whl, ↓exW_ret_op, ↓exW_ret_lit, ↓exW_ret_call, ↓exW_ret_mkt, ↓exW_ret_mkl, ↓exW_ret_ite, ↓exW_ret_and, ↓exW_ret_or, ↓exW_ret_comp, ↓exW_ret_chain, ↓exW_ret_pop, ↓evW_lit, ↓evW_var, ↓evW_nil, ↓evW_cons, ↓evW_op, ↓evW_mkl, ↓evW_mkt, ↓evW_ite, ↓evW_and, ↓evW_or, ↓evW_call, ↓evW_comp, ↓evW_pop, ↓evW_chain, ↓hdQ_1, ↓contF_nx, ↓contF_rt, ↓atE_0, ↓atE_S, ↓borW_nil, ↓borW_vl, ↓borW_vrT, ↓borW_vrF, ↓takW_nil, ↓takW_vl, ↓takW_vr, ↓oneW_vl, ↓oneW_vr, ↓lendW_nil, ↓lendW_vl, ↓lendW_vr, ↓trW_vl, ↓trW_vr, ↓ifB_t, ↓ifB_f, ↓ifB_d, ↓ifB_n, ↓truW_bl, ↓truW_int, ↓truW_lst, ↓truW_tup, ↓truW_non, ↓opK_add, ↓opK_addT, ↓opK_addL, ↓opK_addS, ↓opK_sub, ↓opK_mul, ↓opK_mulT, ↓opK_mulL, ↓opK_fdiv, ↓opK_mod, ↓opK_pow, ↓opK_shl, ↓opK_band, ↓opK_neg, ↓opK_notB, ↓opK_not, ↓opK_lt, ↓opK_le, ↓opK_gt, ↓opK_ge, ↓opK_eq, ↓opK_ne, ↓opK_isN, ↓opK_notN, ↓opK_isB, ↓opK_notB2, ↓opK_lenL, ↓opK_lenT, ↓opK_lenC, ↓opK_lenS, ↓opK_listL, ↓opK_listT, ↓opK_tupL, ↓opK_tupT, ↓opK_int, ↓opK_intB, ↓opK_abs, ↓opK_max2, ↓opK_min2, ↓opK_isT, ↓opK_idxL, ↓opK_idxT, ↓opK_idxC, ↓opK_revL, ↓opK_revT, ↓opK_lrg1, ↓opK_lrg2, ↓opK_trg1, ↓opK_trg2, ↓itemW_0, ↓itemW_1, ↓itemW_2, ↓itemW_3, ↓itemsW_L, ↓itemsW_T, ↓itemsW_S, ↓itemsW_r1, ↓itemsW_r2, ↓bindW_nm, ↓bindW_nil, ↓bindW_cons, ↓back_vl, ↓back_vr, ↓back_vrN, ↓back_nil, ↓low_z, ↓low_11, ↓low_1, ↓awayE_z, ↓awayE_1, ↓awayE_2, keepO, lvOf, lvO_int, lvO_bl, lvO_str, lvO_tup, lvO_lst, lvO_non, isTy, isNon, List.set_cons_zero, List.set_cons_succ, List.length_cons, List.length_nil, getE_cons0, getE_consS, Option.isNone_none, Option.isNone_some, Bool.false_eq_true, if_true, if_false, Bool.not_true, Bool.not_false, Nat.zero_add, Nat.reduceAdd, Nat.reduceLT, Nat.reduceSub, true_and, and_true, Nat.min_zero, Nat.zero_min, Nat.reduceBEq, Bool.and_true, Bool.true_and, decide_true, decide_false, outs_z, outs_S, outs_N, outs_0, Int.reduceLT, Int.reduceLE, Nat.reduceLeDiff, List.isEmpty_cons, List.isEmpty_nil, and_self, isLstAt_0, isLstAt_S, isAtomAt_0, isAtomAt_S, pOf_0, pOf_S]
      refine ⟨fun _ => ⟨fun _ => ⟨rfl, dig1 hm he _ t1⟩, fun _ => ⟨rfl, dig2 hm he _ t2⟩⟩, fun _ => ⟨fun _ => ⟨rfl, dig1 hm he _ t1⟩, fun _ => ⟨rfl, dig2 hm he _ t2⟩⟩⟩
    · rintro r ⟨e3, x4, x5, x6, x7, ⟨ds, l, rfl, h2, h3⟩, rfl⟩
      simp only [↓exW_skip, ↓exW_seq, ↓exW_setn, ↓exW_setc, ↓exW_setJ, ↓putW_at, ↓putE_L, ↓ixW_0, ↓ixW_1, ↓exW_aug, ↓exW_retv, ↓exW_ex, ↓exW_app, ↓exW_ext, ↓exW_ite, ↓exW_for, ↓exW_whl, ↓exW_ret_op, ↓exW_ret_lit, ↓exW_ret_call, ↓exW_ret_mkt, ↓exW_ret_mkl, ↓exW_ret_ite, ↓exW_ret_and, ↓exW_ret_or, ↓exW_ret_comp, ↓exW_ret_chain, ↓exW_ret_pop, ↓evW_lit, ↓evW_var, ↓evW_nil, ↓evW_cons, ↓evW_op, ↓evW_mkl, ↓evW_mkt, ↓evW_ite, ↓evW_and, ↓evW_or, ↓evW_call, ↓evW_comp, ↓evW_pop, ↓evW_chain, ↓hdQ_1, ↓contF_nx, ↓contF_rt, ↓atE_0, ↓atE_S, ↓borW_nil, ↓borW_vl, ↓borW_vrT, ↓borW_vrF, ↓takW_nil, ↓takW_vl, ↓takW_vr, ↓oneW_vl, ↓oneW_vr, ↓lendW_nil, ↓lendW_vl, ↓lendW_vr, ↓trW_vl, ↓trW_vr, ↓ifB_t, ↓ifB_f, ↓ifB_d, ↓ifB_n, ↓truW_bl, ↓truW_int, ↓truW_lst, ↓truW_tup, ↓truW_non, ↓opK_add, ↓opK_addT, ↓opK_addL, ↓opK_addS, ↓opK_sub, ↓opK_mul, ↓opK_mulT, ↓opK_mulL, ↓opK_fdiv, ↓opK_mod, ↓opK_pow, ↓opK_shl, ↓opK_band, ↓opK_neg, ↓opK_notB, ↓opK_not, ↓opK_lt, ↓opK_le, ↓opK_gt, ↓opK_ge, ↓opK_eq, ↓opK_ne, ↓opK_isN, ↓opK_notN, ↓opK_isB, ↓opK_notB2, ↓opK_lenL, ↓opK_lenT, ↓opK_lenC, ↓opK_lenS, ↓opK_listL, ↓opK_listT, ↓opK_tupL, ↓opK_tupT, ↓opK_int, ↓opK_intB, ↓opK_abs, ↓opK_max2, ↓opK_min2, ↓opK_isT, ↓opK_idxL, ↓opK_idxT, ↓opK_idxC, ↓opK_revL, ↓opK_revT, ↓opK_lrg1, ↓opK_lrg2, ↓opK_trg1, ↓opK_trg2, ↓itemW_0, ↓itemW_1, ↓itemW_2, ↓itemW_3, ↓itemsW_L, ↓itemsW_T, ↓itemsW_S, ↓itemsW_r1, ↓itemsW_r2, ↓bindW_nm, ↓bindW_nil, ↓bindW_cons, ↓back_vl, ↓back_vr, ↓back_vrN, ↓back_nil, ↓low_z, ↓low_11, ↓low_1, ↓awayE_z, ↓awayE_1, ↓awayE_2, keepO, lvOf, lvO_int, lvO_bl, lvO_str, lvO_tup, lvO_lst, lvO_non, isTy, isNon, List.set_cons_zero, List.set_cons_succ, List.length_cons, List.length_nil, getE_cons0, getE_consS, Option.isNone_none, Option.isNone_some, Bool.false_eq_true, if_true, if_false, Bool.not_true, Bool.not_false, Nat.zero_add, Nat.reduceAdd, Nat.reduceLT, Nat.reduceSub, true_and, and_true, Nat.min_zero, Nat.zero_min, Nat.reduceBEq, Bool.and_true, Bool.true_and, decide_true, decide_false, outs_z, outs_S, outs_N, outs_0, Int.reduceLT, Int.reduceLE, Nat.reduceLeDiff, List.isEmpty_cons, List.isEmpty_nil, and_self, isLstAt_0, isLstAt_S, isAtomAt_0, isAtomAt_S, pOf_0, pOf_S]
      rw [range_len] at h2
      exact ⟨ds, ⟨by omega, h3⟩, rfl⟩
  obtain ⟨d, l, outs, h1, ds, h2, rfl, rfl⟩ := goal
  exact ⟨ds, l, h2, h1⟩
end Bk
/-! Bk: rows of ints. -/
namespace Bk
open L2 PyProof.Rows PySem.Spec PySem
theorem intsOf_map : ∀ ns : List Int, intsOf (ns.map D.int) = some ns
  | [] => rfl
  | n :: r => by rw [List.map_cons, intsOf, intsOf_map r]; rfl
theorem toPys_ints : ∀ ns : List Int, toPys (ns.map D.int) = ns.map PyData.int
  | [] => rfl
  | n :: r => by rw [List.map_cons, toPys, toPys_ints r]; rfl
theorem plain_ints : ∀ ns : List Int, PyData.plainAll (ns.map PyData.int) = true
  | [] => rfl
  | n :: r => by rw [List.map_cons, PyData.plainAll, plain_ints r]; rfl
theorem pl_lst (ns : List Int) : pl (.lst (ns.map D.int)) = true := by
  unfold pl
  rw [toPy, toPys_ints]
  have h1 : (PyData.list (ns.map PyData.int)).plain = true := by rw [PyData.plain]; exact plain_ints ns
  have h2 : (PyData.list (ns.map PyData.int)).depth = 1 := by rw [PyData.depth, PySem.W.depth_ints]
  rw [h1, h2]
  rfl
theorem pl_tup (ns : List Int) : pl (.tup (ns.map D.int)) = true := by
  unfold pl
  rw [toPy, toPys_ints]
  have h1 : (PyData.tuple (ns.map PyData.int)).plain = true := by rw [PyData.plain]; exact plain_ints ns
  have h2 : (PyData.tuple (ns.map PyData.int)).depth = 1 := by rw [PyData.depth, PySem.W.depth_ints]
  rw [h1, h2]
  rfl
theorem eqv_lst (a b : List Int) : eqv (.lst (a.map D.int)) (.lst (b.map D.int)) = decide (a = b) := by
  unfold eqv
  rw [toPy, toPy, toPys_ints, toPys_ints, PyData.eqv, PySem.W.ked_eqvAll]
theorem eqv_tup (a b : List Int) : eqv (.tup (a.map D.int)) (.tup (b.map D.int)) = decide (a = b) := by
  unfold eqv
  rw [toPy, toPy, toPys_ints, toPys_ints, PyData.eqv, PySem.W.ked_eqvAll]
section
variable {k : D → Prop} {ns ms : List Int} {n : Int}
theorem opK_eqL : opK .eq [.lst (ns.map .int), .lst (ms.map .int)] k ↔ k (.bl (decide (ns = ms))) := by
  refine some_iff ?_
  show (eqO (.lst (ns.map D.int)) (.lst (ms.map D.int))).map D.bl = _
  unfold eqO
  simp only [pl_lst, Bool.and_self, if_true, eqv_lst, Option.map_some]
theorem opK_neL : opK .ne [.lst (ns.map .int), .lst (ms.map .int)] k ↔ k (.bl !(decide (ns = ms))) := by
  refine some_iff ?_
  show (eqO (.lst (ns.map D.int)) (.lst (ms.map D.int))).map (fun b => D.bl !b) = _
  unfold eqO
  simp only [pl_lst, Bool.and_self, if_true, eqv_lst, Option.map_some]
theorem opK_eqT : opK .eq [.tup (ns.map .int), .tup (ms.map .int)] k ↔ k (.bl (decide (ns = ms))) := by
  refine some_iff ?_
  show (eqO (.tup (ns.map D.int)) (.tup (ms.map D.int))).map D.bl = _
  unfold eqO
  simp only [pl_tup, Bool.and_self, if_true, eqv_tup, Option.map_some]
theorem opK_neT : opK .ne [.tup (ns.map .int), .tup (ms.map .int)] k ↔ k (.bl !(decide (ns = ms))) := by
  refine some_iff ?_
  show (eqO (.tup (ns.map D.int)) (.tup (ms.map D.int))).map (fun b => D.bl !b) = _
  unfold eqO
  simp only [pl_tup, Bool.and_self, if_true, eqv_tup, Option.map_some]
theorem opK_eqS {s t : Str} : opK .eq [.str s, .str t] k ↔ k (.bl (s == t)) := some_iff rfl
theorem opK_neS {s t : Str} : opK .ne [.str s, .str t] k ↔ k (.bl !(s == t)) := some_iff rfl
theorem opK_eqB {s t : Bool} : opK .eq [.bl s, .bl t] k ↔ k (.bl (s == t)) := some_iff rfl
theorem opK_neB {s t : Bool} : opK .ne [.bl s, .bl t] k ↔ k (.bl !(s == t)) := some_iff rfl
theorem opK_sumT : opK .sum [.tup (ns.map .int)] k ↔ k (.int ns.sum) := by
  refine some_iff ?_
  show (seqI (.tup (ns.map D.int))).map _ = _
  unfold seqI
  simp only [intsOf_map]; rfl
theorem opK_sumL : opK .sum [.lst (ns.map .int)] k ↔ k (.int ns.sum) := by
  refine some_iff ?_
  show (seqI (.lst (ns.map D.int))).map _ = _
  unfold seqI
  simp only [intsOf_map]; rfl
theorem opK_maxT : opK .max1 [.tup ((n :: ns).map .int)] k ↔ k (.int (ns.foldl max n)) := by
  refine some_iff ?_
  show (seqI (.tup ((n :: ns).map D.int))).bind _ = _
  unfold seqI
  simp only [intsOf_map]; rfl
theorem opK_maxL : opK .max1 [.lst ((n :: ns).map .int)] k ↔ k (.int (ns.foldl max n)) := by
  refine some_iff ?_
  show (seqI (.lst ((n :: ns).map D.int))).bind _ = _
  unfold seqI
  simp only [intsOf_map]; rfl
theorem opK_minT : opK .min1 [.tup ((n :: ns).map .int)] k ↔ k (.int (ns.foldl min n)) := by
  refine some_iff ?_
  show (seqI (.tup ((n :: ns).map D.int))).bind _ = _
  unfold seqI
  simp only [intsOf_map]; rfl
theorem opK_minL : opK .min1 [.lst ((n :: ns).map .int)] k ↔ k (.int (ns.foldl min n)) := by
  refine some_iff ?_
  show (seqI (.lst ((n :: ns).map D.int))).bind _ = _
  unfold seqI
  simp only [intsOf_map]; rfl
theorem opK_sortT : opK .sorted [.tup (ns.map .int)] k ↔ k (.lst ((sortI ns).map .int)) := by
  refine some_iff ?_
  show (seqI (.tup (ns.map D.int))).map _ = _
  unfold seqI
  simp only [intsOf_map]; rfl
theorem opK_sortL : opK .sorted [.lst (ns.map .int)] k ↔ k (.lst ((sortI ns).map .int)) := by
  refine some_iff ?_
  show (seqI (.lst (ns.map D.int))).map _ = _
  unfold seqI
  simp only [intsOf_map]; rfl
theorem opK_sortRT : opK .sortedR [.tup (ns.map .int)] k ↔ k (.lst ((sortI ns).reverse.map .int)) := by
  refine some_iff ?_
  show (seqI (.tup (ns.map D.int))).map _ = _
  unfold seqI
  simp only [intsOf_map]; rfl
theorem opK_sortRL : opK .sortedR [.lst (ns.map .int)] k ↔ k (.lst ((sortI ns).reverse.map .int)) := by
  refine some_iff ?_
  show (seqI (.lst (ns.map D.int))).map _ = _
  unfold seqI
  simp only [intsOf_map]; rfl
end
/-- the greatest, the least of a row -/
theorem foldmax_of {m : Int} : ∀ {ns : List Int} {n : Int}, (∀ x ∈ n :: ns, x ≤ m) → m ∈ n :: ns → ns.foldl max n = m
  | [], n, h, hm => by simp only [List.mem_singleton] at hm; simp [hm]
  | y :: r, n, h, hm => by
    rw [List.foldl_cons]
    refine foldmax_of (fun x hx => ?_) ?_
    · rcases List.mem_cons.mp hx with rfl | hx
      · exact Int.max_le.mpr ⟨h n (by simp), h y (by simp)⟩
      · exact h x (by simp [hx])
    · rcases List.mem_cons.mp hm with rfl | hm
      · rw [Int.max_eq_left (h y (by simp))]; simp
      · rcases List.mem_cons.mp hm with rfl | hm
        · rw [Int.max_eq_right (h n (by simp))]; simp
        · simp [hm]
theorem foldmin_of {m : Int} : ∀ {ns : List Int} {n : Int}, (∀ x ∈ n :: ns, m ≤ x) → m ∈ n :: ns → ns.foldl min n = m
  | [], n, h, hm => by simp only [List.mem_singleton] at hm; simp [hm]
  | y :: r, n, h, hm => by
    rw [List.foldl_cons]
    refine foldmin_of (fun x hx => ?_) ?_
    · rcases List.mem_cons.mp hx with rfl | hx
      · exact Int.le_min.mpr ⟨h n (by simp), h y (by simp)⟩
      · exact h x (by simp [hx])
    · rcases List.mem_cons.mp hm with rfl | hm
      · rw [Int.min_eq_left (h y (by simp))]; simp
      · rcases List.mem_cons.mp hm with rfl | hm
        · rw [Int.min_eq_right (h n (by simp))]; simp
        · simp [hm]
/-- a row that descends is its own order, turned -/
theorem sortR_of {ns : List Int} (h : ns.Pairwise (· ≥ ·)) : (sortI ns).reverse = ns :=
  ordered_one (b := true) (sortR_perm ns) (by simpa [Ordered] using sortR_ord ns) (by simpa [Ordered] using h)
theorem sortI_of {ns : List Int} (h : ns.Pairwise (· ≤ ·)) : sortI ns = ns :=
  ordered_one (b := false) (sortI_perm ns) (by simpa [Ordered] using sortI_ord ns) (by simpa [Ordered] using h)
theorem flat_one {α : Type} (n : Nat) (a : α) : (List.replicate n [a]).flatten = List.replicate n a := by
  induction n with
  | zero => rfl
  | succ n ih => rw [List.replicate_succ, List.flatten_cons, ih, List.replicate_succ]; rfl
/-- one behind the other, with what holds between -/
theorem seq_by {cf : CF} {a b : S} {r : Env} {Q : Fl → Prop} (P : Env → Prop) (h1 : exW cf a r (contF P fun d l r1 => Q (.rt d l r1))) (h2 : ∀ r1, P r1 → exW cf b r1 Q) : exW cf (.seq a b) r Q := by
  rw [exW_seq]
  obtain ⟨f, h3, h4⟩ := h1
  refine ⟨f, h3, ?_⟩
  cases f with
  | nx r1 => exact h2 r1 h4
  | rt d l r1 => exact h4
/-- the value that is stored, with what holds of it -/
theorem ev_by {cf : CF} {e : E} {r : Env} {k : EK} (P : List R → Env → Prop) (h1 : evW cf e r P) (h2 : ∀ rs r1, P rs r1 → k rs r1) : evW cf e r k := by
  obtain ⟨rs, r1, h3, h4⟩ := h1
  exact ⟨rs, r1, h3, h2 rs r1 h4⟩
theorem foldmax_mem : ∀ (ns : List Int) (n : Int), ns.foldl max n ∈ n :: ns
  | [], n => by simp
  | y :: r, n => by
    rw [List.foldl_cons]
    rcases List.mem_cons.mp (foldmax_mem r (max n y)) with e | e
    · rw [e]
      by_cases h : n ≤ y
      · rw [Int.max_eq_right h]; simp
      · rw [Int.max_eq_left (by omega)]; simp
    · simp [e]
theorem foldmin_mem : ∀ (ns : List Int) (n : Int), ns.foldl min n ∈ n :: ns
  | [], n => by simp
  | y :: r, n => by
    rw [List.foldl_cons]
    rcases List.mem_cons.mp (foldmin_mem r (min n y)) with e | e
    · rw [e]
      by_cases h : n ≤ y
      · rw [Int.min_eq_left h]; simp
      · rw [Int.min_eq_right (by omega)]; simp
    · simp [e]
end Bk
/-! Bk: folds, whiles, and how a thing is shown. -/
namespace Bk
open L2 PyProof PyProof.Rows PySem.Spec PySem
/-- a loop that never leaves, as a fold -/
theorem for_fold {α β : Type} {f : D → Env → Out Fl} {Q : Fl → Prop} (R : β → Env → Prop) (g : α → D) (step : β → α → β) {xs : List α} {b : β} {r : Env} (h0 : R b r)
    (hs : ∀ (b : β) (a : α) (r : Env), a ∈ xs → R b r → ∃ o, f (g a) r = .val o ∧ contF (R (step b a)) (fun d l r => Q (.rt d l r)) o) (he : ∀ r, R (xs.foldl step b) r → Q (.nx r)) : forW f (xs.map g) r Q := by
  induction xs generalizing b r with
  | nil => exact ⟨_, rfl, he r h0⟩
  | cons a xs ih =>
    obtain ⟨o, h1, h2⟩ := hs b a r List.mem_cons_self h0
    unfold forW
    simp only [List.map_cons, forL, h1, Out.bind_val]
    cases o with
    | nx r' => exact ih h2 (fun b a' r m => hs b a' r (List.mem_cons_of_mem _ m)) he
    | rt d l r' => exact ⟨_, rfl, h2⟩
/-- a while, by what holds and how far it is from the end -/
theorem whl_inv {cf : CF} {c : E} {b : S} {Q : Fl → Prop} (P : Nat → Env → Prop) {m : Nat} {r : Env} (hm : m < 1000000) (h0 : P m r)
    (hs : ∀ (n : Nat) (r : Env), P n r → evW cf c r fun rs r1 => trW rs r1 fun t => ifB t (exW cf b r1 (contF (fun r2 => ∃ n', n' < n ∧ P n' r2) fun d l r2 => Q (.rt d l r2))) (Q (.nx r1))) :
    exW cf (.whl c b) r Q := by
  rw [exW_whl]
  have go : ∀ (k n : Nat) (r : Env), n < k → P n r → whlW (condF cf c) (fun r => ex cf b r) k r Q := by
    intro k
    induction k with
    | zero => intro n r h; omega
    | succ k ih =>
      intro n r hn hp
      obtain ⟨rs, r1, h1, h2⟩ := hs n r hp
      obtain ⟨t, h3, h4⟩ := trW_of.mp h2
      have hc : condF cf c r = .val (t, r1) := by
        unfold condF
        simp only [h1, Out.bind_val, h3, Out.of_some]
      unfold whlW
      simp only [whileL, hc, Out.bind_val]
      cases t with
      | false => exact ⟨_, rfl, h4.2 rfl⟩
      | true =>
        obtain ⟨f, h5, h6⟩ := h4.1 rfl
        simp only [h5, if_true, Out.bind_val]
        cases f with
        | nx r2 =>
          obtain ⟨n', h7, h8⟩ := h6
          exact ih n' r2 (by omega) h8
        | rt d l r2 => exact ⟨_, rfl, h6⟩
  exact go laps m r hm h0
/-- a comprehension, by what its list is so far -/
theorem comp_inv {f : D → Env → Out (Option (D × Nat) × Env)} {k : List D → Nat → Env → Prop} (P : Nat → List D → Env → Prop) {ds : List D} {r : Env} (h0 : P 0 [] r)
    (hs : ∀ (i : Nat) (d : D) (acc : List D) (r : Env), ds[i]? = some d → P i acc r → ∃ o r', f d r = .val (o, r') ∧ P (i + 1) (acc ++ (o.map Prod.fst).toList) r') (he : ∀ ys l r, P ds.length ys r → k ys l r) : compW f ds [] 7 r k := by
  have go : ∀ (n i : Nat) (acc : List D) (l : Nat) (r : Env), i + n = ds.length → P i acc.reverse r → ∃ ys l' r', compL f (ds.drop i) acc l r = .val (ys, l', r') ∧ P ds.length ys r' := by
    intro n
    induction n with
    | zero =>
      intro i acc l r hi hp
      have e : i = ds.length := by omega
      subst e
      rw [List.drop_length]
      exact ⟨acc.reverse, l, r, by simp [compL], hp⟩
    | succ n ih =>
      intro i acc l r hi hp
      have hlt : i < ds.length := by omega
      rw [List.drop_eq_getElem_cons hlt]
      obtain ⟨o, r', h1, h2⟩ := hs i ds[i] acc.reverse r (List.getElem?_eq_getElem hlt) hp
      simp only [compL, h1, Out.bind_val]
      cases o with
      | none => exact ih (i + 1) acc _ r' (by omega) (by simpa using h2)
      | some y => exact ih (i + 1) (y.1 :: acc) _ r' (by omega) (by simpa using h2)
  obtain ⟨ys, l', r', h1, h2⟩ := go ds.length 0 [] 7 r (by omega) h0
  rw [List.drop_zero] at h1
  exact ⟨ys, l', r', h1, he ys l' r' h2⟩
/-- a comprehension that keeps every item -/
theorem comp_all {α : Type} {f : D → Env → Out (Option (D × Nat) × Env)} {k : List D → Nat → Env → Prop} (g y : α → D) (P : Env → Prop) {xs : List α} {r : Env} (h0 : P r)
    (hs : ∀ (a : α) (r : Env), a ∈ xs → P r → ∃ o r', f (g a) r = .val (o, r') ∧ o.map Prod.fst = some (y a) ∧ P r') (he : ∀ l r, P r → k (xs.map y) l r) : compW f (xs.map g) [] 7 r k := by
  refine comp_inv (fun i ys r => ys = (xs.take i).map y ∧ P r) ⟨by simp, h0⟩ ?_ ?_
  · rintro i d acc r hd ⟨rfl, hp⟩
    rw [List.getElem?_map] at hd
    cases ha : xs[i]? with
    | none => rw [ha] at hd; cases hd
    | some a =>
      rw [ha] at hd
      cases hd
      obtain ⟨o, r', h1, h2, h3⟩ := hs a r (List.mem_of_getElem? ha) hp
      refine ⟨o, r', h1, ?_, h3⟩
      rw [h2, List.take_add_one, ha]
      simp
  · rintro ys l r ⟨rfl, hp⟩
    rw [List.length_map, List.take_length]
    exact he l r hp
/-- it can be shown: so deep, so long -/
structure Shw (k n : Nat) (d : D) : Prop where
  s : (toPy d).showable = true
  h : (toPy d).hasDict = false
  dp : (toPy d).depth ≤ k
  ln : (toPy d).shown.length ≤ n
theorem opK_repr {k n : Nat} {d : D} {K : D → Prop} (h : Shw k n d) (hk : k ≤ 64) (hn : n ≤ 16777216) : opK .repr [d] K ↔ K (.str (toPy d).shown) := by
  refine some_iff ?_
  show reprD [d] = _
  show (if _ then _ else _) = _
  have h1 := h.dp
  have h2 := h.ln
  have h3 : sz (toPy d).shown.length = true := decide_eq_true (by omega)
  rw [h.s, h.h, h3, decide_eq_true (show (toPy d).depth ≤ 64 by omega)]
  rfl
theorem Shw.more {k n k' n' : Nat} {d : D} (h : Shw k n d) (hk : k ≤ k') (hn : n ≤ n') : Shw k' n' d := ⟨h.s, h.h, Nat.le_trans h.dp hk, Nat.le_trans h.ln hn⟩
theorem Shw.int {i : Int} (h : -10 ^ 30 < i ∧ i < 10 ^ 30) : Shw 0 31 (.int i) := by
  have hl : i.natAbs < 10 ^ 30 := by omega
  refine ⟨?_, rfl, Nat.le_refl _, ?_⟩
  · have : i.natAbs.log2 < 1920 := by
      have h0 : i.natAbs < 2 ^ 1920 := Nat.lt_of_lt_of_le hl (Nat.le_trans (by decide : 10 ^ 30 ≤ 2 ^ 100) (Nat.pow_le_pow_right (by decide) (by decide)))
      by_cases hz : i.natAbs = 0
      · rw [hz]; decide
      · exact (Nat.log2_lt hz).mpr h0
    simp [toPy, PyData.showable, this]
  · have := int_text_length_le10 (a := i) (k := 30) (by omega) hl
    show (Str.ofString (toString i)).length ≤ 31
    rw [PySem.ofString_length]
    omega
theorem shwAll {k n : Nat} : ∀ {l : List D}, (∀ x ∈ l, Shw k n x) → PyData.showableAll (toPys l) = true ∧ PyData.hasDictAll (toPys l) = false ∧ PyData.depthAll (toPys l) ≤ k ∧ (∀ t ∈ PyData.shownAll (toPys l), t.length ≤ n) ∧ (PyData.shownAll (toPys l)).length = l.length
  | [], _ => by simp [toPys, PyData.showableAll, PyData.hasDictAll, PyData.depthAll, PyData.shownAll]
  | x :: l, h => by
    obtain ⟨a, b, c, d, e⟩ := shwAll fun y m => h y (List.mem_cons_of_mem _ m)
    have hx := h x List.mem_cons_self
    refine ⟨?_, ?_, ?_, ?_, ?_⟩
    · simp [toPys, PyData.showableAll, hx.s, a]
    · simp [toPys, PyData.hasDictAll, hx.h, b]
    · have := hx.dp
      simp only [toPys, PyData.depthAll]
      omega
    · intro t ht
      simp only [toPys, PyData.shownAll, List.mem_cons] at ht
      rcases ht with rfl | ht
      · exact hx.ln
      · exact d t ht
    · simp [toPys, PyData.shownAll, e]
theorem join_le {n : Nat} : ∀ {ts : List Str}, (∀ t ∈ ts, t.length ≤ n) → (Str.join ", " ts).length ≤ ts.length * (n + 2)
  | [], _ => Nat.zero_le _
  | [x], h => by
    have := h x List.mem_cons_self
    show x.length ≤ 1 * (n + 2)
    omega
  | x :: y :: r, h => by
    have ih := join_le (ts := y :: r) fun t m => h t (List.mem_cons_of_mem _ m)
    have hx := h x List.mem_cons_self
    have e1 := join_length_add (x :: y :: r) (by simp)
    have e2 := join_length_add (y :: r) (by simp)
    have e3 : piled (x :: y :: r) = x.length + 2 + piled (y :: r) := by simp [piled]
    have e4 : (x :: y :: r).length * (n + 2) = (y :: r).length * (n + 2) + (n + 2) := by rw [List.length_cons, Nat.add_mul, Nat.one_mul]
    omega
theorem Shw.tup {k n m : Nat} {l : List D} (h : ∀ x ∈ l, Shw k n x) (hm : l.length ≤ m) : Shw (k + 1) (m * (n + 2) + 3) (.tup l) := by
  obtain ⟨a, b, c, d, e⟩ := shwAll h
  refine ⟨a, b, Nat.succ_le_succ c, ?_⟩
  have h1 := join_le d
  rw [e] at h1
  have h2 : l.length * (n + 2) ≤ m * (n + 2) := Nat.mul_le_mul_right _ hm
  have e1 : (toPy (.tup l)).shown = tupleText (PyData.shownAll (toPys l)) := by simp [toPy, PyData.shown]
  rw [e1]
  unfold tupleText
  rw [Str.length_append, Str.length_append]
  have e2 : (("(" : String) : Str).length = 1 := by decide +kernel
  have e3 : ((if (PyData.shownAll (toPys l)).length == 1 then ",)" else ")" : String) : Str).length ≤ 2 := by split <;> decide +kernel
  omega
theorem shown_sum {n : Nat} : ∀ {ts : List Str}, (∀ t ∈ ts, t.length ≤ n) → (ts.map (·.length)).sum ≤ ts.length * n
  | [], _ => by simp
  | x :: ts, h => by
    have ih := shown_sum (ts := ts) fun t m => h t (List.mem_cons_of_mem _ m)
    have hx := h x List.mem_cons_self
    rw [List.map_cons, List.sum_cons, List.length_cons, Nat.add_mul, Nat.one_mul]
    omega
theorem Shw.lst {k n m : Nat} {l : List D} (h : ∀ x ∈ l, Shw k n x) (hm : l.length ≤ m) : Shw (k + 1) (m * (n + 2) + 3) (.lst l) := by
  obtain ⟨a, b, c, d, e⟩ := shwAll h
  refine ⟨a, b, Nat.succ_le_succ c, ?_⟩
  have h1 := textFrom_len_le (PyData.shownAll (toPys l)) 0 ("[" : Str)
  have h3 := shown_sum d
  rw [e] at h3 h1
  have h2 : l.length * (n + 2) ≤ m * (n + 2) := Nat.mul_le_mul_right _ hm
  have h4 : l.length * (n + 2) = l.length * n + 2 * l.length := by rw [Nat.mul_add]; omega
  have e1 : (toPy (.lst l)).shown = listText (PyData.shownAll (toPys l)) := by simp [toPy, PyData.shown]
  rw [e1]
  unfold listText
  rw [Str.length_append]
  have e2 : (("[" : String) : Str).length = 1 := by decide +kernel
  have e3 : (("]" : String) : Str).length = 1 := by decide +kernel
  omega
end Bk
/-! Bk: what the laws have in common. -/
namespace Bk
open L2 PyProof PyProof.Rows PySem.Spec PySem
theorem okR_of2 {i : Int} (h : -4611686018427387904 ≤ i ∧ i < 4611686018427387904) : okR i = true := by
  unfold okR
  rw [decide_eq_true h.1, decide_eq_true h.2]
  rfl
theorem sz_of {n : Nat} (h : n ≤ 16777216) : sz n = true := decide_eq_true h
def bSame : S := (.ret (.op .eq (.cons (.op .repr (.cons (.var 0) .nil)) (.cons (.op .repr (.cons (.var 1) .nil)) .nil))))
theorem same_ok {T : List Fn} {i n : Nat} (h : T[i]? = some ⟨2, 2, bSame⟩) {k m : Nat} {d : D} (hd : Shw k m d) (hk : k ≤ 64) (hm : m ≤ 16777216) (l1 l2 : Nat) :
    callF T (n + 1) i [(d, l1), (d, l2)] = .val (.bl true, 0, [some (d, l1), some (d, l2)]) := by
  refine call_eq h rfl ?_
  have hr : ∀ K, opK .repr [d] K ↔ K (.str (toPy d).shown) := fun K => opK_repr hd hk hm
  simp only [env0_2, bSame, List.replicate, ↓hr, ↓exW_skip, ↓exW_seq, ↓exW_setn, ↓exW_setc, ↓exW_setJ, ↓putW_at, ↓putE_L, ↓ixW_0, ↓ixW_1, ↓exW_aug, ↓exW_retv, ↓exW_ex, ↓exW_app, ↓exW_ext, ↓exW_ite, ↓exW_for, ↓exW_whl, ↓exW_ret_op, ↓exW_ret_lit, ↓exW_ret_call, ↓exW_ret_mkt, ↓exW_ret_mkl, ↓exW_ret_ite, ↓exW_ret_and, ↓exW_ret_or, ↓exW_ret_comp, ↓exW_ret_chain, ↓exW_ret_pop, ↓evW_lit, ↓evW_var, ↓evW_nil, ↓evW_cons, ↓evW_op, ↓evW_mkl, ↓evW_mkt, ↓evW_ite, ↓evW_and, ↓evW_or, ↓evW_call, ↓evW_comp, ↓evW_pop, ↓evW_chain, ↓hdQ_1, ↓contF_nx, ↓contF_rt, ↓atE_0, ↓atE_S, ↓borW_nil, ↓borW_vl, ↓borW_vrT, ↓borW_vrF, ↓takW_nil, ↓takW_vl, ↓takW_vr, ↓oneW_vl, ↓oneW_vr, ↓lendW_nil, ↓lendW_vl, ↓lendW_vr, ↓trW_vl, ↓trW_vr, ↓ifB_t, ↓ifB_f, ↓ifB_d, ↓ifB_n, ↓truW_bl, ↓truW_int, ↓truW_lst, ↓truW_tup, ↓truW_non, ↓opK_add, ↓opK_addT, ↓opK_addL, ↓opK_addS, ↓opK_sub, ↓opK_mul, ↓opK_mulT, ↓opK_mulL, ↓opK_fdiv, ↓opK_mod, ↓opK_pow, ↓opK_shl, ↓opK_band, ↓opK_neg, ↓opK_notB, ↓opK_not, ↓opK_lt, ↓opK_le, ↓opK_gt, ↓opK_ge, ↓opK_eq, ↓opK_ne, ↓opK_isN, ↓opK_notN, ↓opK_isB, ↓opK_notB2, ↓opK_lenL, ↓opK_lenT, ↓opK_lenC, ↓opK_lenS, ↓opK_listL, ↓opK_listT, ↓opK_tupL, ↓opK_tupT, ↓opK_int, ↓opK_intB, ↓opK_abs, ↓opK_max2, ↓opK_min2, ↓opK_isT, ↓opK_eqL, ↓opK_neL, ↓opK_eqT, ↓opK_neT, ↓opK_eqS, ↓opK_neS, ↓opK_eqB, ↓opK_neB, ↓opK_sumT, ↓opK_sumL, ↓opK_maxT, ↓opK_maxL, ↓opK_minT, ↓opK_minL, ↓opK_sortT, ↓opK_sortL, ↓opK_sortRT, ↓opK_sortRL, ↓opK_idxL, ↓opK_idxT, ↓opK_idxC, ↓opK_revL, ↓opK_revT, ↓opK_lrg1, ↓opK_lrg2, ↓opK_trg1, ↓opK_trg2, ↓itemW_0, ↓itemW_1, ↓itemW_2, ↓itemW_3, ↓itemsW_L, ↓itemsW_T, ↓itemsW_S, ↓itemsW_r1, ↓itemsW_r2, ↓bindW_nm, ↓bindW_nil, ↓bindW_cons, ↓back_vl, ↓back_vr, ↓back_vrN, ↓back_nil, ↓low_z, ↓low_11, ↓low_1, ↓awayE_z, ↓awayE_1, ↓awayE_2, keepO, lvOf, lvO_int, lvO_bl, lvO_str, lvO_tup, lvO_lst, lvO_non, isTy, isNon, List.set_cons_zero, List.set_cons_succ, List.length_cons, List.length_nil, getE_cons0, getE_consS, Option.isNone_none, Option.isNone_some, Bool.false_eq_true, if_true, if_false, Bool.not_true, Bool.not_false, Nat.zero_add, Nat.reduceAdd, Nat.reduceLT, Nat.reduceSub, true_and, and_true, Nat.min_zero, Nat.zero_min, Nat.reduceBEq, Bool.and_true, Bool.true_and, decide_true, decide_false, outs_z, outs_S, outs_N, outs_0, Int.reduceLT, Int.reduceLE, Nat.reduceLeDiff, List.isEmpty_cons, List.isEmpty_nil, and_self, isLstAt_0, isLstAt_S, isAtomAt_0, isAtomAt_S, pOf_0, pOf_S]
  simp
theorem item_any {α : Type} {l : List α} {i : Int} {k : α → Prop} (h : 0 ≤ i ∧ i < l.length) (hk : ∀ a ∈ l, k a) : itemW l i k := by
  obtain ⟨j, rfl⟩ := Int.eq_ofNat_of_zero_le h.1
  have hj : j < l.length := by omega
  exact (itemW_at (List.getElem?_eq_getElem hj)).mpr (hk _ (List.getElem_mem hj))
theorem wipe1 {i : Nat} : ∀ {r : Env} {k : Nat}, wipeF [k + i] k r = r.set i none
  | [], k => by cases i <;> rfl
  | x :: r, k => by
    cases i with
    | zero =>
      rw [wipeF]
      have : ∀ (r : Env) (j : Nat), k < j → wipeF [k + 0] j r = r := by
        intro r
        induction r with
        | nil => intro j _; rfl
        | cons y r ih => intro j hj; rw [wipeF, ih (j + 1) (by omega)]; simp; omega
      rw [this r (k + 1) (by omega)]
      simp
    | succ i =>
      rw [wipeF, show k + (i + 1) = (k + 1) + i by omega, wipe1]
      simp; omega
theorem rest1 {i : Nat} : ∀ {s r : Env} {k : Nat}, s.length = r.length → restF [k + i] k s r = match s[i]? with | some x => r.set i x | none => r
  | [], [], k, _ => by simp [restF]
  | y :: s, x :: r, k, h => by
    cases i with
    | zero =>
      rw [restF]
      have : ∀ (s r : Env) (j : Nat), k < j → s.length = r.length → restF [k + 0] j s r = r := by
        intro s
        induction s with
        | nil => intro r j _ hl; cases r with
          | nil => rfl
          | cons _ _ => cases hl
        | cons y s ih => intro r j hj hl; cases r with
          | nil => cases hl
          | cons x r => rw [restF, ih r (j + 1) (by omega) (by simpa using hl)]; simp; omega
      rw [this s r (k + 1) (by omega) (by simpa using h)]
      simp
    | succ i =>
      rw [restF, show k + (i + 1) = (k + 1) + i by omega, rest1 (by simpa using h)]
      simp only [List.getElem?_cons_succ]
      cases s[i]? with
      | none => simp; omega
      | some z => simp; omega
  | [], x :: r, k, h => by cases h
  | y :: s, [], k, h => by cases h
theorem rest_set {r0 : Env} {i : Nat} {z : Option Ent} : restore [i] r0 (r0.set i z) = r0 := by
  have := rest1 (i := i) (s := r0) (r := r0.set i z) (k := 0) (by simp)
  rw [Nat.zero_add] at this
  unfold restore
  rw [this]
  by_cases h : i < r0.length
  · rw [List.getElem?_eq_getElem h]
    simp
  · rw [List.getElem?_eq_none (by omega)]
    simp only
    exact List.set_eq_of_length_le (by omega)
/-- a comprehension, by its list and its level so far -/
theorem comp_invL {f : D → Env → Out (Option (D × Nat) × Env)} {k : List D → Nat → Env → Prop} (P : Nat → List D → Nat → Env → Prop) {ds : List D} {r : Env} (h0 : P 0 [] 7 r)
    (hs : ∀ (i : Nat) (d : D) (acc : List D) (l : Nat) (r : Env), ds[i]? = some d → P i acc l r → ∃ o r', f d r = .val (o, r') ∧ P (i + 1) (acc ++ (o.map Prod.fst).toList) (match o with
      | some y => min l y.2
      | none => l) r') (he : ∀ ys l r, P ds.length ys l r → k ys l r) : compW f ds [] 7 r k := by
  have go : ∀ (n i : Nat) (acc : List D) (l : Nat) (r : Env), i + n = ds.length → P i acc.reverse l r → ∃ ys l' r', compL f (ds.drop i) acc l r = .val (ys, l', r') ∧ P ds.length ys l' r' := by
    intro n
    induction n with
    | zero =>
      intro i acc l r hi hp
      have e : i = ds.length := by omega
      subst e
      rw [List.drop_length]
      exact ⟨acc.reverse, l, r, by simp [compL], hp⟩
    | succ n ih =>
      intro i acc l r hi hp
      have hlt : i < ds.length := by omega
      rw [List.drop_eq_getElem_cons hlt]
      obtain ⟨o, r', h1, h2⟩ := hs i ds[i] acc.reverse l r (List.getElem?_eq_getElem hlt) hp
      simp only [compL, h1, Out.bind_val]
      cases o with
      | none => exact ih (i + 1) acc _ r' (by omega) (by simpa using h2)
      | some y => exact ih (i + 1) (y.1 :: acc) _ r' (by omega) (by simpa using h2)
  obtain ⟨ys, l', r', h1, h2⟩ := go ds.length 0 [] 7 r (by omega) h0
  rw [List.drop_zero] at h1
  exact ⟨ys, l', r', h1, he ys l' r' h2⟩
/-- a comprehension with one name, whose items change nothing -/
theorem comp_f {α : Type} {cf : CF} {c e : E} {k : List D → Nat → Env → Prop} {i : Nat} {r0 : Env} {xs : List α} (g : α → D) (p : α → Bool) (y : α → D)
    (hs : ∀ a ∈ xs, evW cf c (r0.set i ((some (Ent.mk (g a) 0 false)))) fun rs r1 => r1 = r0.set i ((some (Ent.mk (g a) 0 false))) ∧ trW rs r1 fun b => b = p a ∧ (p a = true → evW cf e r1 fun rs2 r2 => oneW rs2 r2 fun d _ r3 => d = y a ∧ ∃ z, r3 = r0.set i z))
    (hk : ∀ l r3, restore [i] r0 r3 = r0 → k ((xs.filter p).map y) l r3) (hi : i < r0.length := by simp) : compW (compTurn (ev cf c) (ev cf e) [i] (.nm i)) (xs.map g) [] 7 r0 k := by
  refine comp_inv (fun j ys r => ys = ((xs.take j).filter p).map y ∧ ∃ z, r = r0.set i z) ⟨by simp, r0[i], by simp⟩ ?_ ?_
  · rintro j d acc r hd ⟨rfl, z, rfl⟩
    rw [List.getElem?_map] at hd
    cases ha : xs[j]? with
    | none => rw [ha] at hd; cases hd
    | some a =>
      rw [ha] at hd
      cases hd
      have hw : wipeE [i] (r0.set i z) = r0.set i none := by
        have := wipe1 (i := i) (r := r0.set i z) (k := 0)
        rw [Nat.zero_add] at this
        unfold wipeE
        rw [this]
        simp
      refine turn_comp.mpr ?_
      rw [hw, bindW_nm]
      refine ⟨by simp [hi], ?_⟩
      rw [List.set_set]
      obtain ⟨rs, r1, h1, rfl, h2⟩ := hs a (List.mem_of_getElem? ha)
      refine ⟨rs, _, h1, ?_⟩
      obtain ⟨b, h3, rfl, h4⟩ := trW_of.mp h2
      refine trW_of.mpr ⟨_, h3, ?_⟩
      rw [List.take_add_one, ha]
      cases hp : p a with
      | false =>
        rw [ifB_f]
        refine ⟨?_, _, rfl⟩
        simp [hp]
      | true =>
        rw [ifB_t]
        obtain ⟨rs2, r2, h5, d, m, r3, h6, rfl, z, rfl⟩ := h4 hp
        refine ⟨rs2, r2, h5, _, m, _, h6, ?_, z, rfl⟩
        simp [hp]
  · rintro ys l r ⟨rfl, z, rfl⟩
    rw [List.length_map, List.take_length]
    exact hk l _ rest_set
/-- .. whose items are not owned -/
theorem comp_f0 {α : Type} {cf : CF} {c e : E} {k : List D → Nat → Env → Prop} {i : Nat} {r0 : Env} {xs : List α} (g : α → D) (p : α → Bool) (y : α → D)
    (hs : ∀ a ∈ xs, evW cf c (r0.set i ((some (Ent.mk (g a) 0 false)))) fun rs r1 => r1 = r0.set i ((some (Ent.mk (g a) 0 false))) ∧ trW rs r1 fun b => b = p a ∧ (p a = true → evW cf e r1 fun rs2 r2 => oneW rs2 r2 fun d m r3 => d = y a ∧ m = 0 ∧ ∃ z, r3 = r0.set i z))
    (hk : ∀ l r3, (xs.filter p ≠ [] → l = 0) → restore [i] r0 r3 = r0 → k ((xs.filter p).map y) l r3) (hi : i < r0.length := by simp) : compW (compTurn (ev cf c) (ev cf e) [i] (.nm i)) (xs.map g) [] 7 r0 k := by
  refine comp_invL (fun j ys l r => ys = ((xs.take j).filter p).map y ∧ ((xs.take j).filter p ≠ [] → l = 0) ∧ ∃ z, r = r0.set i z) ⟨by simp, by simp, r0[i], by simp⟩ ?_ ?_
  · rintro j d acc l r hd ⟨rfl, hl, z, rfl⟩
    rw [List.getElem?_map] at hd
    cases ha : xs[j]? with
    | none => rw [ha] at hd; cases hd
    | some a =>
      rw [ha] at hd
      cases hd
      have hw : wipeE [i] (r0.set i z) = r0.set i none := by
        have := wipe1 (i := i) (r := r0.set i z) (k := 0)
        rw [Nat.zero_add] at this
        unfold wipeE
        rw [this]
        simp
      refine turn_comp.mpr ?_
      rw [hw, bindW_nm]
      refine ⟨by simp [hi], ?_⟩
      rw [List.set_set]
      obtain ⟨rs, r1, h1, rfl, h2⟩ := hs a (List.mem_of_getElem? ha)
      refine ⟨rs, _, h1, ?_⟩
      obtain ⟨b, h3, rfl, h4⟩ := trW_of.mp h2
      refine trW_of.mpr ⟨_, h3, ?_⟩
      rw [List.take_add_one, ha]
      cases hp : p a with
      | false =>
        rw [ifB_f]
        refine ⟨?_, ?_, _, rfl⟩
        · simp [hp]
        · simpa [hp] using hl
      | true =>
        rw [ifB_t]
        obtain ⟨rs2, r2, h5, d, m, r3, h6, rfl, rfl, z, rfl⟩ := h4 hp
        refine ⟨rs2, r2, h5, _, 0, _, h6, ?_, ?_, z, rfl⟩
        · simp [hp]
        · intro _; exact Nat.min_zero _
  · rintro ys l r ⟨rfl, hl, z, rfl⟩
    rw [List.length_map, List.take_length] at hl ⊢
    exact hk l _ hl rest_set
/-- .. that keeps all -/
theorem comp_g {α : Type} {cf : CF} {e : E} {k : List D → Nat → Env → Prop} {i : Nat} {r0 : Env} {xs : List α} (g y : α → D)
    (hs : ∀ a ∈ xs, evW cf e (r0.set i ((some (Ent.mk (g a) 0 false)))) fun rs2 r2 => oneW rs2 r2 fun d _ r3 => d = y a ∧ ∃ z, r3 = r0.set i z)
    (hk : ∀ l r3, restore [i] r0 r3 = r0 → k (xs.map y) l r3) (hi : i < r0.length := by simp) : compW (compTurn (ev cf (.lit (.bl true))) (ev cf e) [i] (.nm i)) (xs.map g) [] 7 r0 k := by
  refine comp_f g (fun _ => true) y (fun a ha => ?_) (fun l r3 h => by rw [List.filter_eq_self.mpr (fun _ _ => rfl)]; exact hk l r3 h) hi
  rw [evW_lit]
  refine ⟨rfl, ?_⟩
  rw [trW_vl, truW_bl]
  exact ⟨rfl, fun _ => hs a ha⟩
/-- a comprehension, by what holds of the other slots -/
theorem comp_P {α : Type} {cf : CF} {c e : E} {t : Tgt} {vs : List Nat} {k : List D → Nat → Env → Prop} {xs : List α} {r0 : Env} (g : α → D) (p : α → Bool) (y : α → D) (P : Env → Prop) (h0 : P r0)
    (hs : ∀ a ∈ xs, ∀ r, P r → bindW (fun i => vs.contains i) t (g a) (wipeE vs r) fun r1 => evW cf c r1 fun rs r2 => P r2 ∧ trW rs r2 fun b => b = p a ∧ (p a = true → evW cf e r2 fun rs2 r3 => oneW rs2 r3 fun d m r4 => d = y a ∧ m = 0 ∧ P r4))
    (hk : ∀ l r, (xs.filter p ≠ [] → l = 0) → P r → k ((xs.filter p).map y) l r) : compW (compTurn (ev cf c) (ev cf e) vs t) (xs.map g) [] 7 r0 k := by
  refine comp_invL (fun j ys l r => ys = ((xs.take j).filter p).map y ∧ ((xs.take j).filter p ≠ [] → l = 0) ∧ P r) ⟨by simp, by simp, h0⟩ ?_ ?_
  · rintro j d acc l r hd ⟨rfl, hl, hP⟩
    rw [List.getElem?_map] at hd
    cases ha : xs[j]? with
    | none => rw [ha] at hd; cases hd
    | some a =>
      rw [ha] at hd
      cases hd
      refine turn_comp.mpr ?_
      obtain ⟨r1, hb, rs, r2, h1, hP2, h2⟩ := hs a (List.mem_of_getElem? ha) r hP
      refine ⟨r1, hb, rs, r2, h1, ?_⟩
      obtain ⟨b, h3, rfl, h4⟩ := trW_of.mp h2
      refine trW_of.mpr ⟨_, h3, ?_⟩
      rw [List.take_add_one, ha]
      cases hp : p a with
      | false =>
        rw [ifB_f]
        refine ⟨?_, ?_, hP2⟩
        · simp [hp]
        · simpa [hp] using hl
      | true =>
        rw [ifB_t]
        obtain ⟨rs2, r3, h5, d, m, r4, h6, rfl, rfl, h7⟩ := h4 hp
        refine ⟨rs2, r3, h5, _, 0, _, h6, ?_, ?_, h7⟩
        · simp [hp]
        · intro _; exact Nat.min_zero _
  · rintro ys l r ⟨rfl, hl, hP⟩
    rw [List.length_map, List.take_length] at hl ⊢
    exact hk l r hl hP
/-- a loop, by what has been gone through -/
theorem for_pre {α : Type} {f : D → Env → Out Fl} {Q : Fl → Prop} (R : List α → Env → Prop) (g : α → D) {xs : List α} {r : Env} (h0 : R [] r)
    (hs : ∀ (pre : List α) (a : α) (post : List α) (r : Env), xs = pre ++ a :: post → R pre r → ∃ o, f (g a) r = .val o ∧ contF (R (pre ++ [a])) (fun d l r => Q (.rt d l r)) o) (he : ∀ r, R xs r → Q (.nx r)) : forW f (xs.map g) r Q := by
  have go : ∀ (post pre : List α) (r : Env), xs = pre ++ post → R pre r → forW f (post.map g) r Q := by
    intro post
    induction post with
    | nil => intro pre r e h; rw [List.append_nil] at e; subst e; exact ⟨_, rfl, he r h⟩
    | cons a post ih =>
      intro pre r e h
      obtain ⟨o, h1, h2⟩ := hs pre a post r e h
      unfold forW
      simp only [List.map_cons, forL, h1, Out.bind_val]
      cases o with
      | nx r' => exact ih (pre ++ [a]) r' (by rw [e, List.append_assoc]; rfl) h2
      | rt d l r' => exact ⟨_, rfl, h2⟩
  exact go xs [] r rfl h0
theorem itemW_last {α : Type} {l : List α} {a : α} {k : α → Prop} : itemW (l ++ [a]) (-1) k ↔ k a := by
  unfold itemW
  have e : atI (l ++ [a]) (-1) = some a := by
    unfold atI ixN
    simp only [List.length_append, List.length_cons, List.length_nil]
    rw [if_neg (by omega), if_pos (by omega)]
    have : ((-1 : Int) + ((l.length + (0 + 1) : Nat) : Int)).toNat = l.length := by omega
    rw [this]
    simp
  rw [e]
  simp
/-- an item of a row of ints -/
theorem itemI_at {ns : List Int} {i : Nat} {k : D → Prop} (h : i < ns.length) : itemW (ns.map D.int) (i : Int) k ↔ k (.int (ns.getD i 0)) := by
  refine itemW_at ?_
  rw [List.getElem?_map, List.getElem?_eq_getElem h]
  simp [h]
theorem eqv_int (a b : Int) : eqv (.int a) (.int b) = decide (a = b) := by
  unfold eqv
  simp [toPy, PyData.eqv]
  rfl
theorem plainAll_ints (ns : List Int) : PyData.plainAll (toPys (ns.map D.int)) = true := by rw [toPys_ints]; exact plain_ints ns
theorem hasD_ints (j : Int) (ns : List Int) : hasD (.int j) (ns.map .int) = some (decide (j ∈ ns)) := by
  unfold hasD
  have h1 : pl (.int j) = true := by simp [pl, toPy, PyData.plain, PyData.depth]
  rw [h1, plainAll_ints, Bool.and_self, if_pos rfl]
  congr 1
  rw [List.any_map]
  simp only [Function.comp_def, eqv_int]
  rw [Bool.eq_iff_iff, List.any_eq_true]
  simp only [decide_eq_true_eq]
  exact ⟨fun ⟨x, h, e⟩ => e ▸ h, fun h => ⟨j, h, rfl⟩⟩
theorem opK_inL {j : Int} {ns : List Int} {k : D → Prop} : opK .isin [.int j, .lst (ns.map .int)] k ↔ k (.bl (decide (j ∈ ns))) := some_iff (by show (hasD _ _).map _ = _; rw [hasD_ints]; rfl)
theorem opK_inT {j : Int} {ns : List Int} {k : D → Prop} : opK .isin [.int j, .tup (ns.map .int)] k ↔ k (.bl (decide (j ∈ ns))) := some_iff (by show (hasD _ _).map _ = _; rw [hasD_ints]; rfl)
theorem opK_niL {j : Int} {ns : List Int} {k : D → Prop} : opK .notin [.int j, .lst (ns.map .int)] k ↔ k (.bl (!decide (j ∈ ns))) := some_iff (by show (hasD _ _).map _ = _; rw [hasD_ints]; rfl)
theorem opK_niT {j : Int} {ns : List Int} {k : D → Prop} : opK .notin [.int j, .tup (ns.map .int)] k ↔ k (.bl (!decide (j ∈ ns))) := some_iff (by show (hasD _ _).map _ = _; rw [hasD_ints]; rfl)
/-- an item is taken out of a list -/
theorem popI_at {r : Env} {i m j : Nat} {l : List D} {p : Bool} {d : D} (h : getE r i = some ⟨.lst l, m + 1, p⟩) (hj : l[j]? = some d) (hl : l.length ≤ 16777216) :
    popI r i [.int (j : Int)] = some ([.vl d 0], r.set i (some ⟨.lst (l.eraseIdx j), 1, p⟩)) := by
  have hlt := (List.getElem?_eq_some_iff.mp hj).1
  unfold popI
  rw [h]
  have hx : ixN l.length (j : Int) = some j := by
    unfold ixN
    rw [if_pos (by omega), if_pos (by omega)]
    simp
  simp only [hx, hj, sz_of hl, if_true]
theorem low_2 {i l : Nat} {r : Env} {d : D} {p : Bool} : lowE 1 r i ⟨d, l + 2, p⟩ = r.set i (some ⟨d, 1, p⟩) := low_gt (by show 1 < l + 2; omega)
theorem low_any {i l : Nat} {r : Env} {d : D} {p : Bool} (h : getE r i = some ⟨d, l, p⟩) : lowE 0 r i ⟨d, l, p⟩ = r.set i (some ⟨d, 0, p⟩) := by
  cases l with
  | zero =>
    rw [low_z]
    unfold getE at h
    cases h2 : r[i]? with
    | none => rw [h2] at h; cases h
    | some x =>
      rw [h2] at h
      cases h
      obtain ⟨h3, h4⟩ := List.getElem?_eq_some_iff.mp h2
      rw [← h4, List.set_getElem_self]
  | succ l => exact low_1
theorem low_any1 {i l m : Nat} {r : Env} {d : D} {p : Bool} (h : getE r i = some ⟨d, l, p⟩) : lowE m r i ⟨d, l, p⟩ = r.set i (some ⟨d, min l m, p⟩) := by
  by_cases hl : l ≤ m
  · rw [low_le hl, Nat.min_eq_left hl]
    unfold getE at h
    cases h2 : r[i]? with
    | none => rw [h2] at h; cases h
    | some x =>
      rw [h2] at h
      cases h
      obtain ⟨h3, h4⟩ := List.getElem?_eq_some_iff.mp h2
      rw [← h4, List.set_getElem_self]
  · rw [low_gt (e := ⟨d, l, p⟩) (show m < l by omega), Nat.min_eq_right (by omega)]
theorem low_set {m i : Nat} {r : Env} {e : Ent} {x : Option Ent} : (lowE m r i e).set i x = r.set i x := by
  unfold lowE
  split
  · rfl
  · rw [List.set_set]
theorem low_len {m i : Nat} {r : Env} {e : Ent} : (lowE m r i e).length = r.length := by
  unfold lowE
  split <;> simp
theorem awayE_s {i l : Nat} {r : Env} {d : D} {p : Bool} : awayE r i ⟨d, l + 1, p⟩ = r.set i none := rfl
theorem sort_eq {ns ms : List Int} (h : ns.Perm ms) (hm : ms.Pairwise (· ≤ ·)) : sortI ns = ms :=
  ordered_one (b := false) ((sortI_perm ns).trans h) (by simpa [Ordered] using sortI_ord ns) (by simpa [Ordered] using hm)
theorem minN_cast : ∀ (l : List Nat) (x : Nat), (l.map fun i : Nat => (i : Int)).foldl min (x : Int) = ((l.foldl min x : Nat) : Int)
  | [], x => rfl
  | y :: r, x => by
    rw [List.map_cons, List.foldl_cons, List.foldl_cons]
    have e : min (x : Int) (y : Int) = ((min x y : Nat) : Int) := by omega
    rw [e, minN_cast r]
theorem erase_perm {α : Type} : ∀ {l : List α} {j : Nat} (h : j < l.length), (l[j] :: l.eraseIdx j).Perm l
  | x :: l, 0, h => by simp
  | x :: l, j + 1, h => by
    have hj : j < l.length := by simpa using h
    have := erase_perm hj
    simp only [List.getElem_cons_succ, List.eraseIdx_cons_succ]
    exact (List.Perm.swap x (l[j]'hj) _).trans (this.cons x)
theorem erase_map {α β : Type} (f : α → β) : ∀ (l : List α) (j : Nat), (l.map f).eraseIdx j = (l.eraseIdx j).map f
  | [], j => by simp
  | x :: l, 0 => by simp
  | x :: l, j + 1 => by simp [erase_map f l j]
abbrev natD (i : Nat) : D := .int (i : Int)
theorem rng_nat (n : Nat) : (rangeL 0 (n : Int)).map D.int = (List.range n).map natD := by
  unfold rangeL
  rw [List.map_map]
  simp [Function.comp_def]
/-- a branch, by the truth of its test -/
theorem ite_by {cf : CF} {c : E} {a b : S} {r : Env} {Q : Fl → Prop} (v : Bool) (h : evW cf c r fun rs r1 => r1 = r ∧ trW rs r1 fun t => t = v) (h1 : v = true → exW cf a r Q) (h2 : v = false → exW cf b r Q) : exW cf (.ite c a b) r Q := by
  rw [exW_ite]
  obtain ⟨rs, r1, h3, rfl, h4⟩ := h
  refine ⟨rs, _, h3, ?_⟩
  obtain ⟨t, h5, rfl⟩ := trW_of.mp h4
  refine trW_of.mpr ⟨t, h5, ?_⟩
  cases t with
  | true => rw [ifB_t]; exact h1 rfl
  | false => rw [ifB_f]; exact h2 rfl
theorem sIx_nat (n d m : Nat) : sIx n d (some (m : Int)) = min m n := by
  have h : ¬ ((m : Int) < 0) := by omega
  unfold sIx
  simp [h]
theorem cut_drop {α : Type} (l : List α) (m : Nat) : cutL l (some (m : Int)) none = l.drop m := by
  unfold cutL
  rw [sIx_nat]
  show (l.drop (min m l.length)).take (l.length - min m l.length) = _
  by_cases h : m ≤ l.length
  · rw [Nat.min_eq_left h]
    exact List.take_of_length_le (by rw [List.length_drop]; exact Nat.le_refl _)
  · rw [Nat.min_eq_right (by omega), List.drop_of_length_le (Nat.le_refl _), List.drop_of_length_le (by omega)]
    simp
theorem cut_take {α : Type} (l : List α) (m : Nat) : cutL l none (some (m : Int)) = l.take m := by
  unfold cutL
  rw [sIx_nat]
  show (l.drop 0).take (min m l.length - 0) = _
  rw [List.drop_zero, Nat.sub_zero]
  by_cases h : m ≤ l.length
  · rw [Nat.min_eq_left h]
  · rw [Nat.min_eq_right (by omega), List.take_of_length_le (Nat.le_refl _), List.take_of_length_le (by omega)]
theorem cut_mid {α : Type} (l : List α) (a b : Nat) : cutL l (some (a : Int)) (some (b : Int)) = (l.take b).drop a := by
  unfold cutL
  rw [sIx_nat, sIx_nat, List.drop_take]
  by_cases ha : a ≤ l.length
  · rw [Nat.min_eq_left ha]
    by_cases hb : b ≤ l.length
    · rw [Nat.min_eq_left hb]
    · rw [Nat.min_eq_right (by omega), List.take_of_length_le (by rw [List.length_drop]; exact Nat.le_refl _), List.take_of_length_le (by rw [List.length_drop]; omega)]
  · rw [List.drop_of_length_le (show l.length ≤ min a l.length by omega), List.drop_of_length_le (show l.length ≤ a by omega)]
    simp
theorem opK_dropL {l : List D} {m : Nat} {k : D → Prop} : opK (.slL true false) [.lst l, .int (m : Int)] k ↔ k (.lst (l.drop m)) := some_iff (by show some (D.lst _) = _; rw [cut_drop])
theorem opK_dropT {l : List D} {m : Nat} {k : D → Prop} : opK (.slL true false) [.tup l, .int (m : Int)] k ↔ k (.tup (l.drop m)) := some_iff (by show some (D.tup _) = _; rw [cut_drop])
theorem opK_takeL {l : List D} {m : Nat} {k : D → Prop} : opK (.slL false true) [.lst l, .int (m : Int)] k ↔ k (.lst (l.take m)) := some_iff (by show some (D.lst _) = _; rw [cut_take])
theorem opK_takeT {l : List D} {m : Nat} {k : D → Prop} : opK (.slL false true) [.tup l, .int (m : Int)] k ↔ k (.tup (l.take m)) := some_iff (by show some (D.tup _) = _; rw [cut_take])
theorem opK_midL {l : List D} {a b : Nat} {k : D → Prop} : opK (.slL true true) [.lst l, .int (a : Int), .int (b : Int)] k ↔ k (.lst ((l.take b).drop a)) := some_iff (by show some (D.lst _) = _; rw [cut_mid])
theorem opK_midT {l : List D} {a b : Nat} {k : D → Prop} : opK (.slL true true) [.tup l, .int (a : Int), .int (b : Int)] k ↔ k (.tup ((l.take b).drop a)) := some_iff (by show some (D.tup _) = _; rw [cut_mid])
theorem itemsW_enL {l : List D} {K : List D → Prop} : itemsW .enum [.lst l] K ↔ K (enumL 0 l) := some_iff rfl
theorem itemsW_enT {l : List D} {K : List D → Prop} : itemsW .enum [.tup l] K ↔ K (enumL 0 l) := some_iff rfl
theorem itemsW_esL {l : List D} {n : Int} {K : List D → Prop} : itemsW .enumS [.lst l, .int n] K ↔ okR n = true ∧ K (enumL n l) := guard_iff
theorem itemsW_esT {l : List D} {n : Int} {K : List D → Prop} : itemsW .enumS [.tup l, .int n] K ↔ okR n = true ∧ K (enumL n l) := guard_iff
theorem itemsW_zTT {l m : List D} {K : List D → Prop} : itemsW .zip [.tup l, .tup m] K ↔ K ((l.zip m).map fun p => .tup [p.1, p.2]) := some_iff rfl
theorem itemsW_zLL {l m : List D} {K : List D → Prop} : itemsW .zip [.lst l, .lst m] K ↔ K ((l.zip m).map fun p => .tup [p.1, p.2]) := some_iff rfl
theorem itemsW_zTL {l m : List D} {K : List D → Prop} : itemsW .zip [.tup l, .lst m] K ↔ K ((l.zip m).map fun p => .tup [p.1, p.2]) := some_iff rfl
theorem itemsW_zLT {l m : List D} {K : List D → Prop} : itemsW .zip [.lst l, .tup m] K ↔ K ((l.zip m).map fun p => .tup [p.1, p.2]) := some_iff rfl
theorem itemsW_zST {s : Str} {m : List D} {K : List D → Prop} : itemsW .zip [.str s, .tup m] K ↔ K (((signs s).zip m).map fun p => .tup [p.1, p.2]) := some_iff rfl
theorem itemsW_zSL {s : Str} {m : List D} {K : List D → Prop} : itemsW .zip [.str s, .lst m] K ↔ K (((signs s).zip m).map fun p => .tup [p.1, p.2]) := some_iff rfl
theorem itemsW_enS {s : Str} {K : List D → Prop} : itemsW .enum [.str s] K ↔ K (enumL 0 (signs s)) := some_iff rfl
/-- an enumeration, by its places -/
theorem enum_range : ∀ (l : List D) (k : Int), enumL k l = (List.range l.length).map fun i : Nat => D.tup [.int (k + (i : Nat)), l.getD i .non] := by
  intro l k
  apply List.ext_getElem?
  intro i
  rw [enumL_get, List.getElem?_map]
  by_cases h : i < l.length
  · rw [List.getElem?_range h, List.getElem?_eq_getElem h]
    simp [h]
  · rw [List.getElem?_eq_none (by omega), List.getElem?_eq_none (by simpa using h)]
    rfl
theorem shw_intsT {l : List Int} {m : Nat} (hl : l.length ≤ m) (h : ∀ x ∈ l, -1000000000000 < x ∧ x < 1000000000000) : Shw 1 (m * 33 + 3) (.tup (l.map .int)) :=
  Shw.tup (k := 0) (n := 31) (fun x hx => by
    obtain ⟨y, hy, rfl⟩ := List.mem_map.mp hx
    have := h y hy
    exact Shw.int (by omega)) (by simpa using hl)
theorem shw_intsL {l : List Int} {m : Nat} (hl : l.length ≤ m) (h : ∀ x ∈ l, -1000000000000 < x ∧ x < 1000000000000) : Shw 1 (m * 33 + 3) (.lst (l.map .int)) :=
  Shw.lst (k := 0) (n := 31) (fun x hx => by
    obtain ⟨y, hy, rfl⟩ := List.mem_map.mp hx
    have := h y hy
    exact Shw.int (by omega)) (by simpa using hl)
theorem shw_non : Shw 0 4 .non := by
  refine ⟨rfl, rfl, Nat.le_refl _, ?_⟩
  show (PyData.none).shown.length ≤ 4
  rw [PyData.shown_none]
  decide +kernel
theorem shw_bl (b : Bool) : Shw 0 5 (.bl b) := by
  refine ⟨rfl, rfl, Nat.le_refl _, ?_⟩
  show (PyData.bool b).shown.length ≤ 5
  rw [PyData.shown_bool]
  cases b <;> decide +kernel
theorem pairW {i j : Int} {k : Int × Int → Prop} : (∃ p, pairI [.int i, .int j] = some p ∧ k p) ↔ k (i, j) := some_iff rfl
theorem intW {i : Int} {k : Int → Prop} : (∃ x m, [D.int i] = [x] ∧ intOf x = some m ∧ k m) ↔ k i :=
  ⟨fun ⟨x, m, h1, h2, h3⟩ => by cases h1; cases h2; exact h3, fun h => ⟨_, _, rfl, rfl, h⟩⟩
theorem cmpLt {i j : Int} : CmpI.lt.f i j = decide (i < j) := rfl
theorem cmpLe {i j : Int} : CmpI.le.f i j = decide (i ≤ j) := rfl
theorem cmpGt {i j : Int} : CmpI.gt.f i j = decide (j < i) := rfl
theorem cmpGe {i j : Int} : CmpI.ge.f i j = decide (j ≤ i) := rfl
theorem extW_at {xs qs : List D} {m : Nat} {p : Bool} {r : Env} {i : Nat} {Q : Env → Prop} (h : getE r i = some ⟨.lst xs, m + 1, p⟩) : extW r i (.lst qs) Q ↔ sz (xs.length + qs.length) = true ∧ Q (r.set i (some ⟨.lst (xs ++ qs), 1, p⟩)) := by
  unfold extW
  rw [h]
  constructor
  · rintro ⟨qs', xs', m', p', e1, e, q⟩
    cases e1
    cases e
    exact q
  · intro q
    exact ⟨qs, xs, m, p, rfl, rfl, q⟩
theorem exts1 {d : D} {k : D → Prop} : (∃ x, [d] = [x] ∧ k x) ↔ k d := ⟨fun ⟨x, e, h⟩ => by cases e; exact h, fun h => ⟨_, rfl, h⟩⟩
end Bk
/-! Bk: texts, as rules. -/
namespace Bk
open L2 PyProof PyProof.Rows PySem.Spec PySem
abbrev chS (c : Nat) : Str := ⟨#[c]⟩
section
variable {s t : Str} {i j : Int} {k : D → Prop} {m : Nat}
theorem opK_mulS : opK .mul [.str s, .int j] k ↔ ((0 ≤ j ∧ j ≤ 4096) ∧ s.length ≤ 4096) ∧ k (.str (repS s j)) := by
  have : opK .mul [.str s, .int j] k ↔ (decide (0 ≤ j) && decide (j ≤ 4096) && decide (s.length ≤ 4096)) = true ∧ k (.str (repS s j)) := guard_iff
  rw [this]; simp [Bool.and_eq_true]
theorem opK_imul : opK .imul [.int i, .int j] k ↔ (small i || small j) = true ∧ k (.int (i * j)) := guard_iff
theorem opK_idxS : opK .idx [.str s, .int i] k ↔ sz s.length = true ∧ itemW s.cps.toList i fun c => k (.str (chS c)) := by
  have e : opD .idx [.str s, .int i] = if sz s.length then (atI s.cps.toList i).map fun c => D.str ⟨#[c]⟩ else none := rfl
  unfold opK
  rw [e]
  unfold itemW
  cases sz s.length with
  | false => simp
  | true =>
    cases atI s.cps.toList i with
    | none => simp
    | some c => simp
theorem opK_strI : opK .str [.int i] k ↔ i.natAbs.log2 < 1920 ∧ k (.str (toString i)) := by
  have : opK .str [.int i] k ↔ decide (i.natAbs.log2 < 1920) = true ∧ k (.str (toString i)) := guard_iff
  rw [this]; simp
theorem opK_strS : opK .str [.str s] k ↔ k (.str s) := some_iff rfl
def takeS (s : Str) (m : Nat) : Str := ⟨(s.cps.toList.take m).toArray⟩
def dropS (s : Str) (m : Nat) : Str := ⟨(s.cps.toList.drop m).toArray⟩
theorem opK_takeS : opK (.slL false true) [.str s, .int (m : Int)] k ↔ sz s.length = true ∧ k (.str (takeS s m)) := by
  have : opK (.slL false true) [.str s, .int (m : Int)] k ↔ sz s.length = true ∧ k (.str ⟨(cutL s.cps.toList none (some (m : Int))).toArray⟩) := guard_iff
  rw [this, cut_take]; rfl
theorem opK_dropS : opK (.slL true false) [.str s, .int (m : Int)] k ↔ sz s.length = true ∧ k (.str (dropS s m)) := by
  have : opK (.slL true false) [.str s, .int (m : Int)] k ↔ sz s.length = true ∧ k (.str ⟨(cutL s.cps.toList (some (m : Int)) none).toArray⟩) := guard_iff
  rw [this, cut_drop]; rfl
theorem opK_initS : opK (.slL false true) [.str s, .int (-1)] k ↔ sz s.length = true ∧ k (.str (takeS s (s.length - 1))) := by
  have : opK (.slL false true) [.str s, .int (-1)] k ↔ sz s.length = true ∧ k (.str ⟨(cutL s.cps.toList none (some (-1))).toArray⟩) := guard_iff
  rw [this]
  have e : cutL s.cps.toList none (some (-1)) = s.cps.toList.take (s.length - 1) := by
    unfold cutL sIx
    simp only [Int.reduceNeg, List.drop_zero, Nat.sub_zero]
    rw [if_pos (by omega)]
    congr 1
    show (-1 + (s.cps.toList.length : Int)).toNat = s.cps.size - 1
    rw [Array.length_toList]
    omega
  rw [e]; rfl
theorem takeS_len : (takeS s m).length = min m s.length := by
  show (List.toArray _).size = _
  rw [List.size_toArray, List.length_take, Array.length_toList]; rfl
theorem dropS_len : (dropS s m).length = s.length - m := by
  show (List.toArray _).size = _
  rw [List.size_toArray, List.length_drop, Array.length_toList]; rfl
theorem opK_inC {c : Nat} : opK .isin [.str (chS c), .str s] k ↔ k (.bl (decide (c ∈ s.cps.toList))) := some_iff rfl
theorem opK_niC {c : Nat} : opK .notin [.str (chS c), .str s] k ↔ k (.bl (!decide (c ∈ s.cps.toList))) := some_iff rfl
theorem strsOf_map : ∀ ys : List Str, strsOf (ys.map D.str) = some ys
  | [] => rfl
  | y :: ys => by rw [List.map_cons, strsOf, strsOf_map ys]; rfl
theorem joinL_eq (ys : List Str) (h : (ys.map (·.length)).sum + ys.length * s.length ≤ 16777216) : joinL s (ys.map D.str) = some (.str (Txt.join s ys)) := by
  unfold joinL
  rw [strsOf_map, Option.bind_some, decide_eq_true h, if_pos rfl]
theorem opK_joinL {ys : List Str} (h : (ys.map (·.length)).sum + ys.length * s.length ≤ 16777216) : opK .join [.str s, .lst (ys.map .str)] k ↔ k (.str (Txt.join s ys)) := some_iff (joinL_eq ys h)
theorem opK_joinT {ys : List Str} (h : (ys.map (·.length)).sum + ys.length * s.length ≤ 16777216) : opK .join [.str s, .tup (ys.map .str)] k ↔ k (.str (Txt.join s ys)) := some_iff (joinL_eq ys h)
theorem str_app_len : (s ++ t).length = s.length + t.length := by
  show (s.cps ++ t.cps).size = _
  rw [Array.size_append]; rfl
theorem glue_fold : ∀ (ps : List Str) (c : Array Nat), (ps.foldl (fun acc p => acc ++ (#[] : Array Nat) ++ p.cps) c).size = c.size + (ps.map (·.length)).sum
  | [], c => by simp
  | p :: ps, c => by
    rw [List.foldl_cons, glue_fold ps, List.map_cons, List.sum_cons, Array.size_append, Array.size_append]
    show c.size + 0 + p.length + _ = _
    omega
theorem glue_len (ys : List Str) : (Txt.join ⟨#[]⟩ ys).length = (ys.map (·.length)).sum := by
  cases ys with
  | nil => rfl
  | cons y ys =>
    have := glue_fold ys y.cps
    rw [List.map_cons, List.sum_cons]
    exact this
theorem chS_len {c : Nat} : (chS c).length = 1 := rfl
theorem glue_ch (cs : List Nat) : (Txt.join ⟨#[]⟩ (cs.map chS)).length = cs.length := by
  rw [glue_len, List.map_map]
  have : ((fun x : Str => x.length) ∘ chS) = fun _ => 1 := rfl
  rw [this, List.map_const']
  simp
theorem joinable {cs : List Nat} (h : cs.length ≤ 1000) : ((cs.map chS).map (·.length)).sum + (cs.map chS).length * (⟨#[]⟩ : Str).length ≤ 16777216 := by
  have e : ((cs.map chS).map (·.length)).sum = cs.length := by rw [← glue_len, glue_ch]
  have e2 : (⟨#[]⟩ : Str).length = 0 := rfl
  rw [e, e2]; omega
end
/-- a range from somewhere on -/
theorem rng_from (a b : Nat) : (rangeL (a : Int) (b : Int)).map D.int = (List.range (b - a)).map fun k => natD (a + k) := by
  unfold rangeL
  rw [List.map_map]
  have e : ((b : Int) - (a : Int)).toNat = b - a := by omega
  rw [e]
  exact List.map_congr_left fun k _ => by show D.int _ = D.int _; rw [Int.natCast_add]
theorem shw_str {s : Str} (h : (toPy (.str s)).showable = true) : True := trivial
end Bk
/-! Bk: books and their order. -/
namespace Bk
open L2 PyProof PyProof.Rows PySem.Spec PySem
def bPow : S := (.ret (.op .shl (.cons (.lit (.int 1)) (.cons (.var 0) .nil))))
def bPages (i : Nat) : S := (.ret (.op .mul (.cons (.lit (.int 2)) (.cons (.call i (.cons (.op .len (.cons (.var 0) .nil)) .nil)) .nil))))
def bCount (i : Nat) : S := (.ret (.op .sum (.cons (.comp [1] .seq (.op .idx (.cons (.var 0) (.cons (.lit (.int 0)) .nil))) (.nm 1) (.lit (.bl true)) (.call i (.cons (.var 1) .nil))) .nil)))
def bInset (i j : Nat) : S := (.seq (.ite (.op .eq (.cons (.var 1) (.cons (.op .len (.cons (.var 0) .nil)) .nil))) (.ret (.mkl .nil)) .skip)
  (.seq (.set (.nm 2) (.op .fdiv (.cons (.call i (.cons (.op .idx (.cons (.var 0) (.cons (.var 1) .nil))) .nil)) (.cons (.lit (.int 2)) .nil))))
  (.seq (.set (.nm 4) (.comp [3] .range (.cons (.lit (.int 1)) (.cons (.op .add (.cons (.var 2) (.cons (.lit (.int 1)) .nil))) .nil)) (.nm 3) (.lit (.bl true)) (.mkt (.cons (.var 1) (.cons (.var 3) .nil)))))
  (.seq (.set (.nm 5) (.comp [3] .range (.cons (.op .add (.cons (.var 2) (.cons (.lit (.int 1)) .nil))) (.cons (.op .add (.cons (.op .mul (.cons (.lit (.int 2)) (.cons (.var 2) .nil))) (.cons (.lit (.int 1)) .nil))) .nil)) (.nm 3) (.lit (.bl true)) (.mkt (.cons (.var 1) (.cons (.var 3) .nil)))))
  (.ret (.op .add (.cons (.op .add (.cons (.var 4) (.cons (.call j (.cons (.var 0) (.cons (.op .add (.cons (.var 1) (.cons (.lit (.int 1)) .nil))) .nil))) .nil))) (.cons (.var 5) .nil))))))))
def bOrder (i j : Nat) : S := (.seq (.set (.cons (.nm 1) (.cons (.nm 2) (.cons (.nm 3) .nil))) (.var 0))
  (.seq (.ite (.op .eq (.cons (.var 2) (.cons (.lit (.str ⟨#[105, 110, 115, 101, 116]⟩)) .nil))) (.ret (.call j (.cons (.var 1) (.cons (.lit (.int 0)) .nil)))) .skip)
  (.seq (.set (.nm 4) (.mkl .nil))
  (.seq (.for (.cons (.nm 5) (.cons (.nm 6) .nil)) .enum (.cons (.var 1) .nil)
  (.ext 4 (.comp [7] .range (.cons (.lit (.int 1)) (.cons (.op .add (.cons (.call i (.cons (.var 6) .nil)) (.cons (.lit (.int 1)) .nil))) .nil)) (.nm 7) (.lit (.bl true)) (.mkt (.cons (.var 5) (.cons (.var 7) .nil))))))
  (.ret (.var 4))))))
def bLocate (i : Nat) : S := (.ret (.op .idx (.cons (.call i (.cons (.var 0) .nil)) (.cons (.op .sub (.cons (.var 1) (.cons (.lit (.int 1)) .nil))) .nil))))
section
variable {T : List Fn} {n i j p o : Nat}
theorem pow_ok (h : T[p]? = some ⟨1, 1, bPow⟩) {m : Nat} (hm : m ≤ 1000) : callF T (n + 1) p [(natD m, 0)] = .val (natD (2 ^ m), 0, [some (natD m, 0)]) := by
  refine call_eq h rfl ?_
  simp only [env0_1, bPow, List.replicate, ↓exW_skip, ↓exW_seq, ↓exW_setn, ↓exW_setc, ↓exW_setJ, ↓putW_at, ↓putE_L, ↓ixW_0, ↓ixW_1, ↓exW_aug, ↓exW_retv, ↓exW_ex, ↓exW_app, ↓exW_ext, ↓exW_ite, ↓exW_for, ↓exW_whl, ↓exW_ret_op, ↓exW_ret_lit, ↓exW_ret_call, ↓exW_ret_mkt, ↓exW_ret_mkl, ↓exW_ret_ite, ↓exW_ret_and, ↓exW_ret_or, ↓exW_ret_comp, ↓exW_ret_chain, ↓exW_ret_pop, ↓evW_lit, ↓evW_var, ↓evW_nil, ↓evW_cons, ↓evW_op, ↓evW_mkl, ↓evW_mkt, ↓evW_ite, ↓evW_and, ↓evW_or, ↓evW_call, ↓evW_comp, ↓evW_pop, ↓evW_chain, ↓hdQ_1, ↓contF_nx, ↓contF_rt, ↓atE_0, ↓atE_S, ↓borW_nil, ↓borW_vl, ↓borW_vrT, ↓borW_vrF, ↓takW_nil, ↓takW_vl, ↓takW_vr, ↓oneW_vl, ↓oneW_vr, ↓lendW_nil, ↓lendW_vl, ↓lendW_vr, ↓trW_vl, ↓trW_vr, ↓ifB_t, ↓ifB_f, ↓ifB_d, ↓ifB_n, ↓truW_bl, ↓truW_int, ↓truW_lst, ↓truW_tup, ↓truW_non, ↓opK_add, ↓opK_addT, ↓opK_addL, ↓opK_addS, ↓opK_sub, ↓opK_mul, ↓opK_mulT, ↓opK_mulL, ↓opK_fdiv, ↓opK_mod, ↓opK_pow, ↓opK_shl, ↓opK_band, ↓opK_neg, ↓opK_notB, ↓opK_not, ↓opK_lt, ↓opK_le, ↓opK_gt, ↓opK_ge, ↓opK_eq, ↓opK_ne, ↓opK_isN, ↓opK_notN, ↓opK_isB, ↓opK_notB2, ↓opK_lenL, ↓opK_lenT, ↓opK_lenC, ↓opK_lenS, ↓opK_listL, ↓opK_listT, ↓opK_tupL, ↓opK_tupT, ↓opK_int, ↓opK_intB, ↓opK_abs, ↓opK_max2, ↓opK_min2, ↓opK_isT, ↓opK_eqL, ↓opK_neL, ↓opK_eqT, ↓opK_neT, ↓opK_eqS, ↓opK_neS, ↓opK_eqB, ↓opK_neB, ↓opK_sumT, ↓opK_sumL, ↓opK_maxT, ↓opK_maxL, ↓opK_minT, ↓opK_minL, ↓opK_sortT, ↓opK_sortL, ↓opK_sortRT, ↓opK_sortRL, ↓opK_idxL, ↓opK_idxT, ↓opK_idxC, ↓opK_revL, ↓opK_revT, ↓opK_lrg1, ↓opK_lrg2, ↓opK_trg1, ↓opK_trg2, ↓itemW_0, ↓itemW_1, ↓itemW_2, ↓itemW_3, ↓itemsW_L, ↓itemsW_T, ↓itemsW_S, ↓itemsW_r1, ↓itemsW_r2, ↓bindW_nm, ↓bindW_nil, ↓bindW_cons, ↓back_vl, ↓back_vr, ↓back_vrN, ↓back_nil, ↓low_z, ↓low_11, ↓low_1, ↓awayE_z, ↓awayE_1, ↓awayE_2, ↓pairW, ↓intW, ↓exts1, ↓low_2, ↓low_any, ↓low_set, ↓low_len, ↓awayE_s, ↓itemsW_enL, ↓itemsW_enT, ↓itemsW_esL, ↓itemsW_esT, ↓itemsW_zTT, ↓itemsW_zLL, ↓itemsW_zTL, ↓itemsW_zLT, ↓itemsW_zST, ↓itemsW_zSL, ↓itemsW_enS, keepO, lvOf, lvO_int, lvO_bl, lvO_str, lvO_tup, lvO_lst, lvO_non, isTy, isNon, List.set_cons_zero, List.set_cons_succ, List.length_cons, List.length_nil, getE_cons0, getE_consS, Option.isNone_none, Option.isNone_some, Bool.false_eq_true, if_true, if_false, Bool.not_true, Bool.not_false, Nat.zero_add, Nat.reduceAdd, Nat.reduceLT, Nat.reduceSub, true_and, and_true, Nat.min_zero, Nat.zero_min, Nat.reduceBEq, Bool.and_true, Bool.true_and, decide_true, decide_false, outs_z, outs_S, outs_N, outs_0, Int.reduceLT, Int.reduceLE, Nat.reduceLeDiff, List.isEmpty_cons, List.isEmpty_nil, and_self, isLstAt_0, isLstAt_S, isAtomAt_0, isAtomAt_S, pOf_0, pOf_S, cmpLt, cmpLe, cmpGt, cmpGe]
  have e : (1 : Int) * 2 ^ (m : Int).toNat = ((2 ^ m : Nat) : Int) := by rw [Int.toNat_natCast]; simp
  exact ⟨⟨by omega, rfl⟩, by rw [e]⟩
/-- the pages of a sheet -/
def pgV (f : Str) : Nat := 2 * 2 ^ f.length
theorem pages_ok (h0 : T[p]? = some ⟨1, 1, bPow⟩) (h : T[i]? = some ⟨1, 1, bPages p⟩) {f : Str} (hf : f.length ≤ 1000) : callF T (n + 2) i [(.str f, 0)] = .val (natD (pgV f), 0, [some (.str f, 0)]) := by
  refine call_eq h rfl ?_
  have hp : ∀ K, callW (callF T (n + 1)) p [(.int f.length, 0)] K ↔ K (natD (2 ^ f.length)) 0 [some (natD f.length, 0)] := fun K => callW_of (pow_ok h0 hf)
  simp only [env0_1, bPages, List.replicate, ↓hp, ↓exW_skip, ↓exW_seq, ↓exW_setn, ↓exW_setc, ↓exW_setJ, ↓putW_at, ↓putE_L, ↓ixW_0, ↓ixW_1, ↓exW_aug, ↓exW_retv, ↓exW_ex, ↓exW_app, ↓exW_ext, ↓exW_ite, ↓exW_for, ↓exW_whl, ↓exW_ret_op, ↓exW_ret_lit, ↓exW_ret_call, ↓exW_ret_mkt, ↓exW_ret_mkl, ↓exW_ret_ite, ↓exW_ret_and, ↓exW_ret_or, ↓exW_ret_comp, ↓exW_ret_chain, ↓exW_ret_pop, ↓evW_lit, ↓evW_var, ↓evW_nil, ↓evW_cons, ↓evW_op, ↓evW_mkl, ↓evW_mkt, ↓evW_ite, ↓evW_and, ↓evW_or, ↓evW_call, ↓evW_comp, ↓evW_pop, ↓evW_chain, ↓hdQ_1, ↓contF_nx, ↓contF_rt, ↓atE_0, ↓atE_S, ↓borW_nil, ↓borW_vl, ↓borW_vrT, ↓borW_vrF, ↓takW_nil, ↓takW_vl, ↓takW_vr, ↓oneW_vl, ↓oneW_vr, ↓lendW_nil, ↓lendW_vl, ↓lendW_vr, ↓trW_vl, ↓trW_vr, ↓ifB_t, ↓ifB_f, ↓ifB_d, ↓ifB_n, ↓truW_bl, ↓truW_int, ↓truW_lst, ↓truW_tup, ↓truW_non, ↓opK_add, ↓opK_addT, ↓opK_addL, ↓opK_addS, ↓opK_sub, ↓opK_mul, ↓opK_mulT, ↓opK_mulL, ↓opK_fdiv, ↓opK_mod, ↓opK_pow, ↓opK_shl, ↓opK_band, ↓opK_neg, ↓opK_notB, ↓opK_not, ↓opK_lt, ↓opK_le, ↓opK_gt, ↓opK_ge, ↓opK_eq, ↓opK_ne, ↓opK_isN, ↓opK_notN, ↓opK_isB, ↓opK_notB2, ↓opK_lenL, ↓opK_lenT, ↓opK_lenC, ↓opK_lenS, ↓opK_listL, ↓opK_listT, ↓opK_tupL, ↓opK_tupT, ↓opK_int, ↓opK_intB, ↓opK_abs, ↓opK_max2, ↓opK_min2, ↓opK_isT, ↓opK_eqL, ↓opK_neL, ↓opK_eqT, ↓opK_neT, ↓opK_eqS, ↓opK_neS, ↓opK_eqB, ↓opK_neB, ↓opK_sumT, ↓opK_sumL, ↓opK_maxT, ↓opK_maxL, ↓opK_minT, ↓opK_minL, ↓opK_sortT, ↓opK_sortL, ↓opK_sortRT, ↓opK_sortRL, ↓opK_idxL, ↓opK_idxT, ↓opK_idxC, ↓opK_revL, ↓opK_revT, ↓opK_lrg1, ↓opK_lrg2, ↓opK_trg1, ↓opK_trg2, ↓itemW_0, ↓itemW_1, ↓itemW_2, ↓itemW_3, ↓itemsW_L, ↓itemsW_T, ↓itemsW_S, ↓itemsW_r1, ↓itemsW_r2, ↓bindW_nm, ↓bindW_nil, ↓bindW_cons, ↓back_vl, ↓back_vr, ↓back_vrN, ↓back_nil, ↓low_z, ↓low_11, ↓low_1, ↓awayE_z, ↓awayE_1, ↓awayE_2, ↓pairW, ↓intW, ↓exts1, ↓low_2, ↓low_any, ↓low_set, ↓low_len, ↓awayE_s, ↓itemsW_enL, ↓itemsW_enT, ↓itemsW_esL, ↓itemsW_esT, ↓itemsW_zTT, ↓itemsW_zLL, ↓itemsW_zTL, ↓itemsW_zLT, ↓itemsW_zST, ↓itemsW_zSL, ↓itemsW_enS, keepO, lvOf, lvO_int, lvO_bl, lvO_str, lvO_tup, lvO_lst, lvO_non, isTy, isNon, List.set_cons_zero, List.set_cons_succ, List.length_cons, List.length_nil, getE_cons0, getE_consS, Option.isNone_none, Option.isNone_some, Bool.false_eq_true, if_true, if_false, Bool.not_true, Bool.not_false, Nat.zero_add, Nat.reduceAdd, Nat.reduceLT, Nat.reduceSub, true_and, and_true, Nat.min_zero, Nat.zero_min, Nat.reduceBEq, Bool.and_true, Bool.true_and, decide_true, decide_false, outs_z, outs_S, outs_N, outs_0, Int.reduceLT, Int.reduceLE, Nat.reduceLeDiff, List.isEmpty_cons, List.isEmpty_nil, and_self, isLstAt_0, isLstAt_S, isAtomAt_0, isAtomAt_S, pOf_0, pOf_S, cmpLt, cmpLe, cmpGt, cmpGe]
  have e : (2 : Int) * ((2 ^ f.length : Nat) : Int) = ((pgV f : Nat) : Int) := by unfold pgV; omega
  exact ⟨sz_of (by omega), rfl, by rw [e]⟩
theorem pg_le {f : Str} {b : Nat} (h : f.length ≤ b) : pgV f ≤ 2 * 2 ^ b := Nat.mul_le_mul_left _ (Nat.pow_le_pow_right (by decide) h)
abbrev strsD (fs : List Str) : D := .tup (fs.map .str)
def cntV (fs : List Str) : Nat := (fs.map pgV).sum
theorem count_ok (h0 : T[p]? = some ⟨1, 1, bPow⟩) (h1 : T[i]? = some ⟨1, 1, bPages p⟩) (h : T[j]? = some ⟨1, 2, bCount i⟩) {fs : List Str} {r : List D} (hf : ∀ f ∈ fs, f.length ≤ 1000) (hl : fs.length ≤ 1000) :
    callF T (n + 3) j [(.tup (strsD fs :: r), 0)] = .val (natD (cntV fs), 0, [some (.tup (strsD fs :: r), 0)]) := by
  refine call_eq h rfl ?_
  simp only [env0_1, bCount, List.replicate, List.length_map, ↓exW_skip, ↓exW_seq, ↓exW_setn, ↓exW_setc, ↓exW_setJ, ↓putW_at, ↓putE_L, ↓ixW_0, ↓ixW_1, ↓exW_aug, ↓exW_retv, ↓exW_ex, ↓exW_app, ↓exW_ext, ↓exW_ite, ↓exW_for, ↓exW_whl, ↓exW_ret_op, ↓exW_ret_lit, ↓exW_ret_call, ↓exW_ret_mkt, ↓exW_ret_mkl, ↓exW_ret_ite, ↓exW_ret_and, ↓exW_ret_or, ↓exW_ret_comp, ↓exW_ret_chain, ↓exW_ret_pop, ↓evW_lit, ↓evW_var, ↓evW_nil, ↓evW_cons, ↓evW_op, ↓evW_mkl, ↓evW_mkt, ↓evW_ite, ↓evW_and, ↓evW_or, ↓evW_call, ↓evW_comp, ↓evW_pop, ↓evW_chain, ↓hdQ_1, ↓contF_nx, ↓contF_rt, ↓atE_0, ↓atE_S, ↓borW_nil, ↓borW_vl, ↓borW_vrT, ↓borW_vrF, ↓takW_nil, ↓takW_vl, ↓takW_vr, ↓oneW_vl, ↓oneW_vr, ↓lendW_nil, ↓lendW_vl, ↓lendW_vr, ↓trW_vl, ↓trW_vr, ↓ifB_t, ↓ifB_f, ↓ifB_d, ↓ifB_n, ↓truW_bl, ↓truW_int, ↓truW_lst, ↓truW_tup, ↓truW_non, ↓opK_add, ↓opK_addT, ↓opK_addL, ↓opK_addS, ↓opK_sub, ↓opK_mul, ↓opK_mulT, ↓opK_mulL, ↓opK_fdiv, ↓opK_mod, ↓opK_pow, ↓opK_shl, ↓opK_band, ↓opK_neg, ↓opK_notB, ↓opK_not, ↓opK_lt, ↓opK_le, ↓opK_gt, ↓opK_ge, ↓opK_eq, ↓opK_ne, ↓opK_isN, ↓opK_notN, ↓opK_isB, ↓opK_notB2, ↓opK_lenL, ↓opK_lenT, ↓opK_lenC, ↓opK_lenS, ↓opK_listL, ↓opK_listT, ↓opK_tupL, ↓opK_tupT, ↓opK_int, ↓opK_intB, ↓opK_abs, ↓opK_max2, ↓opK_min2, ↓opK_isT, ↓opK_eqL, ↓opK_neL, ↓opK_eqT, ↓opK_neT, ↓opK_eqS, ↓opK_neS, ↓opK_eqB, ↓opK_neB, ↓opK_sumT, ↓opK_sumL, ↓opK_maxT, ↓opK_maxL, ↓opK_minT, ↓opK_minL, ↓opK_sortT, ↓opK_sortL, ↓opK_sortRT, ↓opK_sortRL, ↓opK_idxL, ↓opK_idxT, ↓opK_idxC, ↓opK_revL, ↓opK_revT, ↓opK_lrg1, ↓opK_lrg2, ↓opK_trg1, ↓opK_trg2, ↓itemW_0, ↓itemW_1, ↓itemW_2, ↓itemW_3, ↓itemsW_L, ↓itemsW_T, ↓itemsW_S, ↓itemsW_r1, ↓itemsW_r2, ↓bindW_nm, ↓bindW_nil, ↓bindW_cons, ↓back_vl, ↓back_vr, ↓back_vrN, ↓back_nil, ↓low_z, ↓low_11, ↓low_1, ↓awayE_z, ↓awayE_1, ↓awayE_2, ↓pairW, ↓intW, ↓exts1, ↓low_2, ↓low_any, ↓low_set, ↓low_len, ↓awayE_s, ↓itemsW_enL, ↓itemsW_enT, ↓itemsW_esL, ↓itemsW_esT, ↓itemsW_zTT, ↓itemsW_zLL, ↓itemsW_zTL, ↓itemsW_zLT, ↓itemsW_zST, ↓itemsW_zSL, ↓itemsW_enS, keepO, lvOf, lvO_int, lvO_bl, lvO_str, lvO_tup, lvO_lst, lvO_non, isTy, isNon, List.set_cons_zero, List.set_cons_succ, List.length_cons, List.length_nil, getE_cons0, getE_consS, Option.isNone_none, Option.isNone_some, Bool.false_eq_true, if_true, if_false, Bool.not_true, Bool.not_false, Nat.zero_add, Nat.reduceAdd, Nat.reduceLT, Nat.reduceSub, true_and, and_true, Nat.min_zero, Nat.zero_min, Nat.reduceBEq, Bool.and_true, Bool.true_and, decide_true, decide_false, outs_z, outs_S, outs_N, outs_0, Int.reduceLT, Int.reduceLE, Nat.reduceLeDiff, List.isEmpty_cons, List.isEmpty_nil, and_self, isLstAt_0, isLstAt_S, isAtomAt_0, isAtomAt_S, pOf_0, pOf_S, cmpLt, cmpLe, cmpGt, cmpGe]
  refine ⟨⟨sz_of (by omega), rfl⟩, ?_⟩
  refine comp_g D.str (fun f => natD (pgV f)) (fun f hm => ?_) fun l r3 er => ?_
  · have hp : ∀ K, callW (callF T (n + 2)) i [(.str f, 0)] K ↔ K (natD (pgV f)) 0 [some (.str f, 0)] := fun K => callW_of (pages_ok h0 h1 (hf f hm))
    simp only [↓hp, ↓exW_skip, ↓exW_seq, ↓exW_setn, ↓exW_setc, ↓exW_setJ, ↓putW_at, ↓putE_L, ↓ixW_0, ↓ixW_1, ↓exW_aug, ↓exW_retv, ↓exW_ex, ↓exW_app, ↓exW_ext, ↓exW_ite, ↓exW_for, ↓exW_whl, ↓exW_ret_op, ↓exW_ret_lit, ↓exW_ret_call, ↓exW_ret_mkt, ↓exW_ret_mkl, ↓exW_ret_ite, ↓exW_ret_and, ↓exW_ret_or, ↓exW_ret_comp, ↓exW_ret_chain, ↓exW_ret_pop, ↓evW_lit, ↓evW_var, ↓evW_nil, ↓evW_cons, ↓evW_op, ↓evW_mkl, ↓evW_mkt, ↓evW_ite, ↓evW_and, ↓evW_or, ↓evW_call, ↓evW_comp, ↓evW_pop, ↓evW_chain, ↓hdQ_1, ↓contF_nx, ↓contF_rt, ↓atE_0, ↓atE_S, ↓borW_nil, ↓borW_vl, ↓borW_vrT, ↓borW_vrF, ↓takW_nil, ↓takW_vl, ↓takW_vr, ↓oneW_vl, ↓oneW_vr, ↓lendW_nil, ↓lendW_vl, ↓lendW_vr, ↓trW_vl, ↓trW_vr, ↓ifB_t, ↓ifB_f, ↓ifB_d, ↓ifB_n, ↓truW_bl, ↓truW_int, ↓truW_lst, ↓truW_tup, ↓truW_non, ↓opK_add, ↓opK_addT, ↓opK_addL, ↓opK_addS, ↓opK_sub, ↓opK_mul, ↓opK_mulT, ↓opK_mulL, ↓opK_fdiv, ↓opK_mod, ↓opK_pow, ↓opK_shl, ↓opK_band, ↓opK_neg, ↓opK_notB, ↓opK_not, ↓opK_lt, ↓opK_le, ↓opK_gt, ↓opK_ge, ↓opK_eq, ↓opK_ne, ↓opK_isN, ↓opK_notN, ↓opK_isB, ↓opK_notB2, ↓opK_lenL, ↓opK_lenT, ↓opK_lenC, ↓opK_lenS, ↓opK_listL, ↓opK_listT, ↓opK_tupL, ↓opK_tupT, ↓opK_int, ↓opK_intB, ↓opK_abs, ↓opK_max2, ↓opK_min2, ↓opK_isT, ↓opK_eqL, ↓opK_neL, ↓opK_eqT, ↓opK_neT, ↓opK_eqS, ↓opK_neS, ↓opK_eqB, ↓opK_neB, ↓opK_sumT, ↓opK_sumL, ↓opK_maxT, ↓opK_maxL, ↓opK_minT, ↓opK_minL, ↓opK_sortT, ↓opK_sortL, ↓opK_sortRT, ↓opK_sortRL, ↓opK_idxL, ↓opK_idxT, ↓opK_idxC, ↓opK_revL, ↓opK_revT, ↓opK_lrg1, ↓opK_lrg2, ↓opK_trg1, ↓opK_trg2, ↓itemW_0, ↓itemW_1, ↓itemW_2, ↓itemW_3, ↓itemsW_L, ↓itemsW_T, ↓itemsW_S, ↓itemsW_r1, ↓itemsW_r2, ↓bindW_nm, ↓bindW_nil, ↓bindW_cons, ↓back_vl, ↓back_vr, ↓back_vrN, ↓back_nil, ↓low_z, ↓low_11, ↓low_1, ↓awayE_z, ↓awayE_1, ↓awayE_2, ↓pairW, ↓intW, ↓exts1, ↓low_2, ↓low_any, ↓low_set, ↓low_len, ↓awayE_s, ↓itemsW_enL, ↓itemsW_enT, ↓itemsW_esL, ↓itemsW_esT, ↓itemsW_zTT, ↓itemsW_zLL, ↓itemsW_zTL, ↓itemsW_zLT, ↓itemsW_zST, ↓itemsW_zSL, ↓itemsW_enS, keepO, lvOf, lvO_int, lvO_bl, lvO_str, lvO_tup, lvO_lst, lvO_non, isTy, isNon, List.set_cons_zero, List.set_cons_succ, List.length_cons, List.length_nil, getE_cons0, getE_consS, Option.isNone_none, Option.isNone_some, Bool.false_eq_true, if_true, if_false, Bool.not_true, Bool.not_false, Nat.zero_add, Nat.reduceAdd, Nat.reduceLT, Nat.reduceSub, true_and, and_true, Nat.min_zero, Nat.zero_min, Nat.reduceBEq, Bool.and_true, Bool.true_and, decide_true, decide_false, outs_z, outs_S, outs_N, outs_0, Int.reduceLT, Int.reduceLE, Nat.reduceLeDiff, List.isEmpty_cons, List.isEmpty_nil, and_self, isLstAt_0, isLstAt_S, isAtomAt_0, isAtomAt_S, pOf_0, pOf_S, cmpLt, cmpLe, cmpGt, cmpGe]
    exact ⟨_, rfl⟩
  · have e : fs.map (fun f => natD (pgV f)) = (fs.map fun f => (pgV f : Int)).map D.int := by rw [List.map_map]; rfl
    have e2 : (fs.map fun f => (pgV f : Int)).sum = ((cntV fs : Nat) : Int) := by
      unfold cntV
      clear hf hl e er
      induction fs with
      | nil => rfl
      | cons f fs ih => simp only [List.map_cons, List.sum_cons, ih]; omega
    rw [e, er]
    simp only [e2, ↓exW_skip, ↓exW_seq, ↓exW_setn, ↓exW_setc, ↓exW_setJ, ↓putW_at, ↓putE_L, ↓ixW_0, ↓ixW_1, ↓exW_aug, ↓exW_retv, ↓exW_ex, ↓exW_app, ↓exW_ext, ↓exW_ite, ↓exW_for, ↓exW_whl, ↓exW_ret_op, ↓exW_ret_lit, ↓exW_ret_call, ↓exW_ret_mkt, ↓exW_ret_mkl, ↓exW_ret_ite, ↓exW_ret_and, ↓exW_ret_or, ↓exW_ret_comp, ↓exW_ret_chain, ↓exW_ret_pop, ↓evW_lit, ↓evW_var, ↓evW_nil, ↓evW_cons, ↓evW_op, ↓evW_mkl, ↓evW_mkt, ↓evW_ite, ↓evW_and, ↓evW_or, ↓evW_call, ↓evW_comp, ↓evW_pop, ↓evW_chain, ↓hdQ_1, ↓contF_nx, ↓contF_rt, ↓atE_0, ↓atE_S, ↓borW_nil, ↓borW_vl, ↓borW_vrT, ↓borW_vrF, ↓takW_nil, ↓takW_vl, ↓takW_vr, ↓oneW_vl, ↓oneW_vr, ↓lendW_nil, ↓lendW_vl, ↓lendW_vr, ↓trW_vl, ↓trW_vr, ↓ifB_t, ↓ifB_f, ↓ifB_d, ↓ifB_n, ↓truW_bl, ↓truW_int, ↓truW_lst, ↓truW_tup, ↓truW_non, ↓opK_add, ↓opK_addT, ↓opK_addL, ↓opK_addS, ↓opK_sub, ↓opK_mul, ↓opK_mulT, ↓opK_mulL, ↓opK_fdiv, ↓opK_mod, ↓opK_pow, ↓opK_shl, ↓opK_band, ↓opK_neg, ↓opK_notB, ↓opK_not, ↓opK_lt, ↓opK_le, ↓opK_gt, ↓opK_ge, ↓opK_eq, ↓opK_ne, ↓opK_isN, ↓opK_notN, ↓opK_isB, ↓opK_notB2, ↓opK_lenL, ↓opK_lenT, ↓opK_lenC, ↓opK_lenS, ↓opK_listL, ↓opK_listT, ↓opK_tupL, ↓opK_tupT, ↓opK_int, ↓opK_intB, ↓opK_abs, ↓opK_max2, ↓opK_min2, ↓opK_isT, ↓opK_eqL, ↓opK_neL, ↓opK_eqT, ↓opK_neT, ↓opK_eqS, ↓opK_neS, ↓opK_eqB, ↓opK_neB, ↓opK_sumT, ↓opK_sumL, ↓opK_maxT, ↓opK_maxL, ↓opK_minT, ↓opK_minL, ↓opK_sortT, ↓opK_sortL, ↓opK_sortRT, ↓opK_sortRL, ↓opK_idxL, ↓opK_idxT, ↓opK_idxC, ↓opK_revL, ↓opK_revT, ↓opK_lrg1, ↓opK_lrg2, ↓opK_trg1, ↓opK_trg2, ↓itemW_0, ↓itemW_1, ↓itemW_2, ↓itemW_3, ↓itemsW_L, ↓itemsW_T, ↓itemsW_S, ↓itemsW_r1, ↓itemsW_r2, ↓bindW_nm, ↓bindW_nil, ↓bindW_cons, ↓back_vl, ↓back_vr, ↓back_vrN, ↓back_nil, ↓low_z, ↓low_11, ↓low_1, ↓awayE_z, ↓awayE_1, ↓awayE_2, ↓pairW, ↓intW, ↓exts1, ↓low_2, ↓low_any, ↓low_set, ↓low_len, ↓awayE_s, ↓itemsW_enL, ↓itemsW_enT, ↓itemsW_esL, ↓itemsW_esT, ↓itemsW_zTT, ↓itemsW_zLL, ↓itemsW_zTL, ↓itemsW_zLT, ↓itemsW_zST, ↓itemsW_zSL, ↓itemsW_enS, keepO, lvOf, lvO_int, lvO_bl, lvO_str, lvO_tup, lvO_lst, lvO_non, isTy, isNon, List.set_cons_zero, List.set_cons_succ, List.length_cons, List.length_nil, getE_cons0, getE_consS, Option.isNone_none, Option.isNone_some, Bool.false_eq_true, if_true, if_false, Bool.not_true, Bool.not_false, Nat.zero_add, Nat.reduceAdd, Nat.reduceLT, Nat.reduceSub, true_and, and_true, Nat.min_zero, Nat.zero_min, Nat.reduceBEq, Bool.and_true, Bool.true_and, decide_true, decide_false, outs_z, outs_S, outs_N, outs_0, Int.reduceLT, Int.reduceLE, Nat.reduceLeDiff, List.isEmpty_cons, List.isEmpty_nil, and_self, isLstAt_0, isLstAt_S, isAtomAt_0, isAtomAt_S, pOf_0, pOf_S, cmpLt, cmpLe, cmpGt, cmpGe]
abbrev pairD (q : Nat × Nat) : D := .tup [natD q.1, natD q.2]
def insV : Nat → List Str → List (Nat × Nat)
  | _, [] => []
  | k, f :: r => (List.range (pgV f / 2)).map (fun q => (k, 1 + q)) ++ insV (k + 1) r ++ (List.range (pgV f / 2)).map fun q => (k, pgV f / 2 + 1 + q)
theorem pg_even (f : Str) : 2 * (pgV f / 2) = pgV f := by unfold pgV; omega
theorem ins_len : ∀ (k : Nat) (fs : List Str), (insV k fs).length = cntV fs
  | _, [] => rfl
  | k, f :: r => by
    have := pg_even f
    have ih := ins_len (k + 1) r
    unfold insV
    simp only [List.length_append, List.length_map, List.length_range, ih]
    unfold cntV
    simp only [List.map_cons, List.sum_cons]
    omega
theorem cnt_le {b : Nat} : ∀ {fs : List Str}, (∀ f ∈ fs, f.length ≤ b) → cntV fs ≤ fs.length * (2 * 2 ^ b)
  | [], _ => by simp [cntV]
  | f :: r, h => by
    have ih := cnt_le (fs := r) fun x m => h x (List.mem_cons_of_mem _ m)
    have := pg_le (h f List.mem_cons_self)
    unfold cntV at ih ⊢
    rw [List.map_cons, List.sum_cons, List.length_cons, Nat.succ_mul]
    omega
theorem cnt_drop (fs : List Str) (k : Nat) : cntV (fs.drop k) ≤ cntV fs := by
  have h := List.take_append_drop k fs
  have : cntV fs = cntV (fs.take k) + cntV (fs.drop k) := by
    conv => lhs; rw [← h]
    unfold cntV
    rw [List.map_append, List.sum_append]
  omega
theorem inset_ok (h0 : T[p]? = some ⟨1, 1, bPow⟩) (h1 : T[i]? = some ⟨1, 1, bPages p⟩) (h : T[j]? = some ⟨2, 6, bInset i j⟩) {fs : List Str} (hf : ∀ f ∈ fs, f.length ≤ 10) (hl : fs.length ≤ 100) :
    ∀ (d k : Nat), k + d = fs.length → ∀ n, 3 ≤ n → ∃ L, callF T (n + d) j [(strsD fs, 0), (natD k, 0)] = .val (.lst ((insV k (fs.drop k)).map pairD), L + 1, [some (strsD fs, 0), some (natD k, 0)])
  | 0, k, hk, n, hn => by
    obtain ⟨n, rfl⟩ : ∃ m, n = m + 1 := ⟨n - 1, by omega⟩
    refine ⟨8, call_eq h rfl ?_⟩
    have hk : k = fs.length := by omega
    subst hk
    simp only [env0_2, bInset, List.replicate, List.length_map, List.drop_length, insV, List.map_nil, ↓exW_skip, ↓exW_seq, ↓exW_setn, ↓exW_setc, ↓exW_setJ, ↓putW_at, ↓putE_L, ↓ixW_0, ↓ixW_1, ↓exW_aug, ↓exW_retv, ↓exW_ex, ↓exW_app, ↓exW_ext, ↓exW_ite, ↓exW_for, ↓exW_whl, ↓exW_ret_op, ↓exW_ret_lit, ↓exW_ret_call, ↓exW_ret_mkt, ↓exW_ret_mkl, ↓exW_ret_ite, ↓exW_ret_and, ↓exW_ret_or, ↓exW_ret_comp, ↓exW_ret_chain, ↓exW_ret_pop, ↓evW_lit, ↓evW_var, ↓evW_nil, ↓evW_cons, ↓evW_op, ↓evW_mkl, ↓evW_mkt, ↓evW_ite, ↓evW_and, ↓evW_or, ↓evW_call, ↓evW_comp, ↓evW_pop, ↓evW_chain, ↓hdQ_1, ↓contF_nx, ↓contF_rt, ↓atE_0, ↓atE_S, ↓borW_nil, ↓borW_vl, ↓borW_vrT, ↓borW_vrF, ↓takW_nil, ↓takW_vl, ↓takW_vr, ↓oneW_vl, ↓oneW_vr, ↓lendW_nil, ↓lendW_vl, ↓lendW_vr, ↓trW_vl, ↓trW_vr, ↓ifB_t, ↓ifB_f, ↓ifB_d, ↓ifB_n, ↓truW_bl, ↓truW_int, ↓truW_lst, ↓truW_tup, ↓truW_non, ↓opK_add, ↓opK_addT, ↓opK_addL, ↓opK_addS, ↓opK_sub, ↓opK_mul, ↓opK_mulT, ↓opK_mulL, ↓opK_fdiv, ↓opK_mod, ↓opK_pow, ↓opK_shl, ↓opK_band, ↓opK_neg, ↓opK_notB, ↓opK_not, ↓opK_lt, ↓opK_le, ↓opK_gt, ↓opK_ge, ↓opK_eq, ↓opK_ne, ↓opK_isN, ↓opK_notN, ↓opK_isB, ↓opK_notB2, ↓opK_lenL, ↓opK_lenT, ↓opK_lenC, ↓opK_lenS, ↓opK_listL, ↓opK_listT, ↓opK_tupL, ↓opK_tupT, ↓opK_int, ↓opK_intB, ↓opK_abs, ↓opK_max2, ↓opK_min2, ↓opK_isT, ↓opK_eqL, ↓opK_neL, ↓opK_eqT, ↓opK_neT, ↓opK_eqS, ↓opK_neS, ↓opK_eqB, ↓opK_neB, ↓opK_sumT, ↓opK_sumL, ↓opK_maxT, ↓opK_maxL, ↓opK_minT, ↓opK_minL, ↓opK_sortT, ↓opK_sortL, ↓opK_sortRT, ↓opK_sortRL, ↓opK_idxL, ↓opK_idxT, ↓opK_idxC, ↓opK_revL, ↓opK_revT, ↓opK_lrg1, ↓opK_lrg2, ↓opK_trg1, ↓opK_trg2, ↓itemW_0, ↓itemW_1, ↓itemW_2, ↓itemW_3, ↓itemsW_L, ↓itemsW_T, ↓itemsW_S, ↓itemsW_r1, ↓itemsW_r2, ↓bindW_nm, ↓bindW_nil, ↓bindW_cons, ↓back_vl, ↓back_vr, ↓back_vrN, ↓back_nil, ↓low_z, ↓low_11, ↓low_1, ↓awayE_z, ↓awayE_1, ↓awayE_2, ↓pairW, ↓intW, ↓exts1, ↓low_2, ↓low_any, ↓low_set, ↓low_len, ↓awayE_s, ↓itemsW_enL, ↓itemsW_enT, ↓itemsW_esL, ↓itemsW_esT, ↓itemsW_zTT, ↓itemsW_zLL, ↓itemsW_zTL, ↓itemsW_zLT, ↓itemsW_zST, ↓itemsW_zSL, ↓itemsW_enS, keepO, lvOf, lvO_int, lvO_bl, lvO_str, lvO_tup, lvO_lst, lvO_non, isTy, isNon, List.set_cons_zero, List.set_cons_succ, List.length_cons, List.length_nil, getE_cons0, getE_consS, Option.isNone_none, Option.isNone_some, Bool.false_eq_true, if_true, if_false, Bool.not_true, Bool.not_false, Nat.zero_add, Nat.reduceAdd, Nat.reduceLT, Nat.reduceSub, true_and, and_true, Nat.min_zero, Nat.zero_min, Nat.reduceBEq, Bool.and_true, Bool.true_and, decide_true, decide_false, outs_z, outs_S, outs_N, outs_0, Int.reduceLT, Int.reduceLE, Nat.reduceLeDiff, List.isEmpty_cons, List.isEmpty_nil, and_self, isLstAt_0, isLstAt_S, isAtomAt_0, isAtomAt_S, pOf_0, pOf_S, cmpLt, cmpLe, cmpGt, cmpGe]
    exact ⟨fun _ => rfl, fun h => absurd trivial h⟩
  | d + 1, k, hk, n, hn => by
    have hkl : k < fs.length := by omega
    obtain ⟨L, ih⟩ := inset_ok h0 h1 h hf hl d (k + 1) (by omega) n hn
    refine ⟨0, ?_⟩
    rw [show n + (d + 1) = (n + d) + 1 by omega]
    refine call_eq h rfl ?_
    have hm := List.getElem_mem hkl
    have hg : ∀ K, callW (callF T (n + d)) i [(.str fs[k], 0)] K ↔ K (natD (pgV fs[k])) 0 [some (.str fs[k], 0)] := fun K => by
      rw [show n + d = (n + d - 2) + 2 by omega]
      exact callW_of (pages_ok h0 h1 (by have := hf _ hm; omega))
    have e1 : (k : Int) + 1 = ((k + 1 : Nat) : Int) := by omega
    have hi : ∀ K, callW (callF T (n + d)) j [(strsD fs, 0), (natD (k + 1), 0)] K ↔ K (.lst ((insV (k + 1) (fs.drop (k + 1))).map pairD)) (L + 1) [some (strsD fs, 0), some (natD (k + 1), 0)] := fun K => callW_of ih
    have hne : decide ((k : Int) = (fs.length : Int)) = false := decide_eq_false (by omega)
    have hit : ∀ K, itemW (fs.map D.str) (k : Int) K ↔ K (.str fs[k]) := fun K => itemW_at (by rw [List.getElem?_map, List.getElem?_eq_getElem hkl]; rfl)
    have hpg := pg_le (hf _ hm)
    have hev := pg_even fs[k]
    have hd : (pgV fs[k] : Int) / 2 = ((pgV fs[k] / 2 : Nat) : Int) := by omega
    generalize hq : pgV fs[k] / 2 = q at hd hev
    have hq1 : (q : Int) + 1 = ((q + 1 : Nat) : Int) := by omega
    have hq2 : (2 : Int) * (q : Int) + 1 = ((2 * q + 1 : Nat) : Int) := by omega
    have r1 : (rangeL 1 ((q + 1 : Nat) : Int)).map D.int = (List.range q).map fun x => natD (1 + x) := rng_from 1 (q + 1)
    have r2 : (rangeL ((q + 1 : Nat) : Int) ((2 * q + 1 : Nat) : Int)).map D.int = (List.range q).map fun x => natD (q + 1 + x) := by
      rw [rng_from (q + 1) (2 * q + 1), show 2 * q + 1 - (q + 1) = q by omega]
    have hcl := cnt_le hf
    have hcd := cnt_drop fs (k + 1)
    have hil := ins_len (k + 1) (fs.drop (k + 1))
    unfold bInset
    refine seq_by (fun r => r = [(some (Ent.mk (strsD fs) 0 true)), (some (Ent.mk (natD k) 0 true)), none, none, none, none]) ?_ ?_
    · simp only [env0_2, List.replicate, List.length_map, ↓hne, ↓exW_skip, ↓exW_seq, ↓exW_setn, ↓exW_setc, ↓exW_setJ, ↓putW_at, ↓putE_L, ↓ixW_0, ↓ixW_1, ↓exW_aug, ↓exW_retv, ↓exW_ex, ↓exW_app, ↓exW_ext, ↓exW_ite, ↓exW_for, ↓exW_whl, ↓exW_ret_op, ↓exW_ret_lit, ↓exW_ret_call, ↓exW_ret_mkt, ↓exW_ret_mkl, ↓exW_ret_ite, ↓exW_ret_and, ↓exW_ret_or, ↓exW_ret_comp, ↓exW_ret_chain, ↓exW_ret_pop, ↓evW_lit, ↓evW_var, ↓evW_nil, ↓evW_cons, ↓evW_op, ↓evW_mkl, ↓evW_mkt, ↓evW_ite, ↓evW_and, ↓evW_or, ↓evW_call, ↓evW_comp, ↓evW_pop, ↓evW_chain, ↓hdQ_1, ↓contF_nx, ↓contF_rt, ↓atE_0, ↓atE_S, ↓borW_nil, ↓borW_vl, ↓borW_vrT, ↓borW_vrF, ↓takW_nil, ↓takW_vl, ↓takW_vr, ↓oneW_vl, ↓oneW_vr, ↓lendW_nil, ↓lendW_vl, ↓lendW_vr, ↓trW_vl, ↓trW_vr, ↓ifB_t, ↓ifB_f, ↓ifB_d, ↓ifB_n, ↓truW_bl, ↓truW_int, ↓truW_lst, ↓truW_tup, ↓truW_non, ↓opK_add, ↓opK_addT, ↓opK_addL, ↓opK_addS, ↓opK_sub, ↓opK_mul, ↓opK_mulT, ↓opK_mulL, ↓opK_fdiv, ↓opK_mod, ↓opK_pow, ↓opK_shl, ↓opK_band, ↓opK_neg, ↓opK_notB, ↓opK_not, ↓opK_lt, ↓opK_le, ↓opK_gt, ↓opK_ge, ↓opK_eq, ↓opK_ne, ↓opK_isN, ↓opK_notN, ↓opK_isB, ↓opK_notB2, ↓opK_lenL, ↓opK_lenT, ↓opK_lenC, ↓opK_lenS, ↓opK_listL, ↓opK_listT, ↓opK_tupL, ↓opK_tupT, ↓opK_int, ↓opK_intB, ↓opK_abs, ↓opK_max2, ↓opK_min2, ↓opK_isT, ↓opK_eqL, ↓opK_neL, ↓opK_eqT, ↓opK_neT, ↓opK_eqS, ↓opK_neS, ↓opK_eqB, ↓opK_neB, ↓opK_sumT, ↓opK_sumL, ↓opK_maxT, ↓opK_maxL, ↓opK_minT, ↓opK_minL, ↓opK_sortT, ↓opK_sortL, ↓opK_sortRT, ↓opK_sortRL, ↓opK_idxL, ↓opK_idxT, ↓opK_idxC, ↓opK_revL, ↓opK_revT, ↓opK_lrg1, ↓opK_lrg2, ↓opK_trg1, ↓opK_trg2, ↓itemW_0, ↓itemW_1, ↓itemW_2, ↓itemW_3, ↓itemsW_L, ↓itemsW_T, ↓itemsW_S, ↓itemsW_r1, ↓itemsW_r2, ↓bindW_nm, ↓bindW_nil, ↓bindW_cons, ↓back_vl, ↓back_vr, ↓back_vrN, ↓back_nil, ↓low_z, ↓low_11, ↓low_1, ↓awayE_z, ↓awayE_1, ↓awayE_2, ↓pairW, ↓intW, ↓exts1, ↓low_2, ↓low_any, ↓low_set, ↓low_len, ↓awayE_s, ↓itemsW_enL, ↓itemsW_enT, ↓itemsW_esL, ↓itemsW_esT, ↓itemsW_zTT, ↓itemsW_zLL, ↓itemsW_zTL, ↓itemsW_zLT, ↓itemsW_zST, ↓itemsW_zSL, ↓itemsW_enS, keepO, lvOf, lvO_int, lvO_bl, lvO_str, lvO_tup, lvO_lst, lvO_non, isTy, isNon, List.set_cons_zero, List.set_cons_succ, List.length_cons, List.length_nil, getE_cons0, getE_consS, Option.isNone_none, Option.isNone_some, Bool.false_eq_true, if_true, if_false, Bool.not_true, Bool.not_false, Nat.zero_add, Nat.reduceAdd, Nat.reduceLT, Nat.reduceSub, true_and, and_true, Nat.min_zero, Nat.zero_min, Nat.reduceBEq, Bool.and_true, Bool.true_and, decide_true, decide_false, outs_z, outs_S, outs_N, outs_0, Int.reduceLT, Int.reduceLE, Nat.reduceLeDiff, List.isEmpty_cons, List.isEmpty_nil, and_self, isLstAt_0, isLstAt_S, isAtomAt_0, isAtomAt_S, pOf_0, pOf_S, cmpLt, cmpLe, cmpGt, cmpGe]
      exact ⟨fun h => absurd h (by omega), fun _ => trivial⟩
    rintro r rfl
    refine seq_by (fun r => r = [(some (Ent.mk (strsD fs) 0 true)), (some (Ent.mk (natD k) 0 true)), (some (Ent.mk (natD q) 0 false)), none, none, none]) ?_ ?_
    · simp only [↓hit, ↓hg, hd, ↓exW_skip, ↓exW_seq, ↓exW_setn, ↓exW_setc, ↓exW_setJ, ↓putW_at, ↓putE_L, ↓ixW_0, ↓ixW_1, ↓exW_aug, ↓exW_retv, ↓exW_ex, ↓exW_app, ↓exW_ext, ↓exW_ite, ↓exW_for, ↓exW_whl, ↓exW_ret_op, ↓exW_ret_lit, ↓exW_ret_call, ↓exW_ret_mkt, ↓exW_ret_mkl, ↓exW_ret_ite, ↓exW_ret_and, ↓exW_ret_or, ↓exW_ret_comp, ↓exW_ret_chain, ↓exW_ret_pop, ↓evW_lit, ↓evW_var, ↓evW_nil, ↓evW_cons, ↓evW_op, ↓evW_mkl, ↓evW_mkt, ↓evW_ite, ↓evW_and, ↓evW_or, ↓evW_call, ↓evW_comp, ↓evW_pop, ↓evW_chain, ↓hdQ_1, ↓contF_nx, ↓contF_rt, ↓atE_0, ↓atE_S, ↓borW_nil, ↓borW_vl, ↓borW_vrT, ↓borW_vrF, ↓takW_nil, ↓takW_vl, ↓takW_vr, ↓oneW_vl, ↓oneW_vr, ↓lendW_nil, ↓lendW_vl, ↓lendW_vr, ↓trW_vl, ↓trW_vr, ↓ifB_t, ↓ifB_f, ↓ifB_d, ↓ifB_n, ↓truW_bl, ↓truW_int, ↓truW_lst, ↓truW_tup, ↓truW_non, ↓opK_add, ↓opK_addT, ↓opK_addL, ↓opK_addS, ↓opK_sub, ↓opK_mul, ↓opK_mulT, ↓opK_mulL, ↓opK_fdiv, ↓opK_mod, ↓opK_pow, ↓opK_shl, ↓opK_band, ↓opK_neg, ↓opK_notB, ↓opK_not, ↓opK_lt, ↓opK_le, ↓opK_gt, ↓opK_ge, ↓opK_eq, ↓opK_ne, ↓opK_isN, ↓opK_notN, ↓opK_isB, ↓opK_notB2, ↓opK_lenL, ↓opK_lenT, ↓opK_lenC, ↓opK_lenS, ↓opK_listL, ↓opK_listT, ↓opK_tupL, ↓opK_tupT, ↓opK_int, ↓opK_intB, ↓opK_abs, ↓opK_max2, ↓opK_min2, ↓opK_isT, ↓opK_eqL, ↓opK_neL, ↓opK_eqT, ↓opK_neT, ↓opK_eqS, ↓opK_neS, ↓opK_eqB, ↓opK_neB, ↓opK_sumT, ↓opK_sumL, ↓opK_maxT, ↓opK_maxL, ↓opK_minT, ↓opK_minL, ↓opK_sortT, ↓opK_sortL, ↓opK_sortRT, ↓opK_sortRL, ↓opK_idxL, ↓opK_idxT, ↓opK_idxC, ↓opK_revL, ↓opK_revT, ↓opK_lrg1, ↓opK_lrg2, ↓opK_trg1, ↓opK_trg2, ↓itemW_0, ↓itemW_1, ↓itemW_2, ↓itemW_3, ↓itemsW_L, ↓itemsW_T, ↓itemsW_S, ↓itemsW_r1, ↓itemsW_r2, ↓bindW_nm, ↓bindW_nil, ↓bindW_cons, ↓back_vl, ↓back_vr, ↓back_vrN, ↓back_nil, ↓low_z, ↓low_11, ↓low_1, ↓awayE_z, ↓awayE_1, ↓awayE_2, ↓pairW, ↓intW, ↓exts1, ↓low_2, ↓low_any, ↓low_set, ↓low_len, ↓awayE_s, ↓itemsW_enL, ↓itemsW_enT, ↓itemsW_esL, ↓itemsW_esT, ↓itemsW_zTT, ↓itemsW_zLL, ↓itemsW_zTL, ↓itemsW_zLT, ↓itemsW_zST, ↓itemsW_zSL, ↓itemsW_enS, keepO, lvOf, lvO_int, lvO_bl, lvO_str, lvO_tup, lvO_lst, lvO_non, isTy, isNon, List.set_cons_zero, List.set_cons_succ, List.length_cons, List.length_nil, getE_cons0, getE_consS, Option.isNone_none, Option.isNone_some, Bool.false_eq_true, if_true, if_false, Bool.not_true, Bool.not_false, Nat.zero_add, Nat.reduceAdd, Nat.reduceLT, Nat.reduceSub, true_and, and_true, Nat.min_zero, Nat.zero_min, Nat.reduceBEq, Bool.and_true, Bool.true_and, decide_true, decide_false, outs_z, outs_S, outs_N, outs_0, Int.reduceLT, Int.reduceLE, Nat.reduceLeDiff, List.isEmpty_cons, List.isEmpty_nil, and_self, isLstAt_0, isLstAt_S, isAtomAt_0, isAtomAt_S, pOf_0, pOf_S, cmpLt, cmpLe, cmpGt, cmpGe]
    rintro r rfl
    refine seq_by (fun r => ∃ l, r = [(some (Ent.mk (strsD fs) 0 true)), (some (Ent.mk (natD k) 0 true)), (some (Ent.mk (natD q) 0 false)), none, some ⟨.lst ((List.range q).map fun x => pairD (k, 1 + x)), l + 1, false⟩, none]) ?_ ?_
    · simp only [hq1, r1, List.length_map, List.length_range, ↓exW_skip, ↓exW_seq, ↓exW_setn, ↓exW_setc, ↓exW_setJ, ↓putW_at, ↓putE_L, ↓ixW_0, ↓ixW_1, ↓exW_aug, ↓exW_retv, ↓exW_ex, ↓exW_app, ↓exW_ext, ↓exW_ite, ↓exW_for, ↓exW_whl, ↓exW_ret_op, ↓exW_ret_lit, ↓exW_ret_call, ↓exW_ret_mkt, ↓exW_ret_mkl, ↓exW_ret_ite, ↓exW_ret_and, ↓exW_ret_or, ↓exW_ret_comp, ↓exW_ret_chain, ↓exW_ret_pop, ↓evW_lit, ↓evW_var, ↓evW_nil, ↓evW_cons, ↓evW_op, ↓evW_mkl, ↓evW_mkt, ↓evW_ite, ↓evW_and, ↓evW_or, ↓evW_call, ↓evW_comp, ↓evW_pop, ↓evW_chain, ↓hdQ_1, ↓contF_nx, ↓contF_rt, ↓atE_0, ↓atE_S, ↓borW_nil, ↓borW_vl, ↓borW_vrT, ↓borW_vrF, ↓takW_nil, ↓takW_vl, ↓takW_vr, ↓oneW_vl, ↓oneW_vr, ↓lendW_nil, ↓lendW_vl, ↓lendW_vr, ↓trW_vl, ↓trW_vr, ↓ifB_t, ↓ifB_f, ↓ifB_d, ↓ifB_n, ↓truW_bl, ↓truW_int, ↓truW_lst, ↓truW_tup, ↓truW_non, ↓opK_add, ↓opK_addT, ↓opK_addL, ↓opK_addS, ↓opK_sub, ↓opK_mul, ↓opK_mulT, ↓opK_mulL, ↓opK_fdiv, ↓opK_mod, ↓opK_pow, ↓opK_shl, ↓opK_band, ↓opK_neg, ↓opK_notB, ↓opK_not, ↓opK_lt, ↓opK_le, ↓opK_gt, ↓opK_ge, ↓opK_eq, ↓opK_ne, ↓opK_isN, ↓opK_notN, ↓opK_isB, ↓opK_notB2, ↓opK_lenL, ↓opK_lenT, ↓opK_lenC, ↓opK_lenS, ↓opK_listL, ↓opK_listT, ↓opK_tupL, ↓opK_tupT, ↓opK_int, ↓opK_intB, ↓opK_abs, ↓opK_max2, ↓opK_min2, ↓opK_isT, ↓opK_eqL, ↓opK_neL, ↓opK_eqT, ↓opK_neT, ↓opK_eqS, ↓opK_neS, ↓opK_eqB, ↓opK_neB, ↓opK_sumT, ↓opK_sumL, ↓opK_maxT, ↓opK_maxL, ↓opK_minT, ↓opK_minL, ↓opK_sortT, ↓opK_sortL, ↓opK_sortRT, ↓opK_sortRL, ↓opK_idxL, ↓opK_idxT, ↓opK_idxC, ↓opK_revL, ↓opK_revT, ↓opK_lrg1, ↓opK_lrg2, ↓opK_trg1, ↓opK_trg2, ↓itemW_0, ↓itemW_1, ↓itemW_2, ↓itemW_3, ↓itemsW_L, ↓itemsW_T, ↓itemsW_S, ↓itemsW_r1, ↓itemsW_r2, ↓bindW_nm, ↓bindW_nil, ↓bindW_cons, ↓back_vl, ↓back_vr, ↓back_vrN, ↓back_nil, ↓low_z, ↓low_11, ↓low_1, ↓awayE_z, ↓awayE_1, ↓awayE_2, ↓pairW, ↓intW, ↓exts1, ↓low_2, ↓low_any, ↓low_set, ↓low_len, ↓awayE_s, ↓itemsW_enL, ↓itemsW_enT, ↓itemsW_esL, ↓itemsW_esT, ↓itemsW_zTT, ↓itemsW_zLL, ↓itemsW_zTL, ↓itemsW_zLT, ↓itemsW_zST, ↓itemsW_zSL, ↓itemsW_enS, keepO, lvOf, lvO_int, lvO_bl, lvO_str, lvO_tup, lvO_lst, lvO_non, isTy, isNon, List.set_cons_zero, List.set_cons_succ, List.length_cons, List.length_nil, getE_cons0, getE_consS, Option.isNone_none, Option.isNone_some, Bool.false_eq_true, if_true, if_false, Bool.not_true, Bool.not_false, Nat.zero_add, Nat.reduceAdd, Nat.reduceLT, Nat.reduceSub, true_and, and_true, Nat.min_zero, Nat.zero_min, Nat.reduceBEq, Bool.and_true, Bool.true_and, decide_true, decide_false, outs_z, outs_S, outs_N, outs_0, Int.reduceLT, Int.reduceLE, Nat.reduceLeDiff, List.isEmpty_cons, List.isEmpty_nil, and_self, isLstAt_0, isLstAt_S, isAtomAt_0, isAtomAt_S, pOf_0, pOf_S, cmpLt, cmpLe, cmpGt, cmpGe]
      refine ⟨by rw [okR_of2 (by omega), okR_of2 (by omega)]; rfl, ⟨sz_of (by omega), rfl⟩, ?_⟩
      refine comp_g (fun x => natD (1 + x)) (fun x => pairD (k, 1 + x)) (fun x hx => ?_) fun l r3 er => ?_
      · simp only [↓exW_skip, ↓exW_seq, ↓exW_setn, ↓exW_setc, ↓exW_setJ, ↓putW_at, ↓putE_L, ↓ixW_0, ↓ixW_1, ↓exW_aug, ↓exW_retv, ↓exW_ex, ↓exW_app, ↓exW_ext, ↓exW_ite, ↓exW_for, ↓exW_whl, ↓exW_ret_op, ↓exW_ret_lit, ↓exW_ret_call, ↓exW_ret_mkt, ↓exW_ret_mkl, ↓exW_ret_ite, ↓exW_ret_and, ↓exW_ret_or, ↓exW_ret_comp, ↓exW_ret_chain, ↓exW_ret_pop, ↓evW_lit, ↓evW_var, ↓evW_nil, ↓evW_cons, ↓evW_op, ↓evW_mkl, ↓evW_mkt, ↓evW_ite, ↓evW_and, ↓evW_or, ↓evW_call, ↓evW_comp, ↓evW_pop, ↓evW_chain, ↓hdQ_1, ↓contF_nx, ↓contF_rt, ↓atE_0, ↓atE_S, ↓borW_nil, ↓borW_vl, ↓borW_vrT, ↓borW_vrF, ↓takW_nil, ↓takW_vl, ↓takW_vr, ↓oneW_vl, ↓oneW_vr, ↓lendW_nil, ↓lendW_vl, ↓lendW_vr, ↓trW_vl, ↓trW_vr, ↓ifB_t, ↓ifB_f, ↓ifB_d, ↓ifB_n, ↓truW_bl, ↓truW_int, ↓truW_lst, ↓truW_tup, ↓truW_non, ↓opK_add, ↓opK_addT, ↓opK_addL, ↓opK_addS, ↓opK_sub, ↓opK_mul, ↓opK_mulT, ↓opK_mulL, ↓opK_fdiv, ↓opK_mod, ↓opK_pow, ↓opK_shl, ↓opK_band, ↓opK_neg, ↓opK_notB, ↓opK_not, ↓opK_lt, ↓opK_le, ↓opK_gt, ↓opK_ge, ↓opK_eq, ↓opK_ne, ↓opK_isN, ↓opK_notN, ↓opK_isB, ↓opK_notB2, ↓opK_lenL, ↓opK_lenT, ↓opK_lenC, ↓opK_lenS, ↓opK_listL, ↓opK_listT, ↓opK_tupL, ↓opK_tupT, ↓opK_int, ↓opK_intB, ↓opK_abs, ↓opK_max2, ↓opK_min2, ↓opK_isT, ↓opK_eqL, ↓opK_neL, ↓opK_eqT, ↓opK_neT, ↓opK_eqS, ↓opK_neS, ↓opK_eqB, ↓opK_neB, ↓opK_sumT, ↓opK_sumL, ↓opK_maxT, ↓opK_maxL, ↓opK_minT, ↓opK_minL, ↓opK_sortT, ↓opK_sortL, ↓opK_sortRT, ↓opK_sortRL, ↓opK_idxL, ↓opK_idxT, ↓opK_idxC, ↓opK_revL, ↓opK_revT, ↓opK_lrg1, ↓opK_lrg2, ↓opK_trg1, ↓opK_trg2, ↓itemW_0, ↓itemW_1, ↓itemW_2, ↓itemW_3, ↓itemsW_L, ↓itemsW_T, ↓itemsW_S, ↓itemsW_r1, ↓itemsW_r2, ↓bindW_nm, ↓bindW_nil, ↓bindW_cons, ↓back_vl, ↓back_vr, ↓back_vrN, ↓back_nil, ↓low_z, ↓low_11, ↓low_1, ↓awayE_z, ↓awayE_1, ↓awayE_2, ↓pairW, ↓intW, ↓exts1, ↓low_2, ↓low_any, ↓low_set, ↓low_len, ↓awayE_s, ↓itemsW_enL, ↓itemsW_enT, ↓itemsW_esL, ↓itemsW_esT, ↓itemsW_zTT, ↓itemsW_zLL, ↓itemsW_zTL, ↓itemsW_zLT, ↓itemsW_zST, ↓itemsW_zSL, ↓itemsW_enS, keepO, lvOf, lvO_int, lvO_bl, lvO_str, lvO_tup, lvO_lst, lvO_non, isTy, isNon, List.set_cons_zero, List.set_cons_succ, List.length_cons, List.length_nil, getE_cons0, getE_consS, Option.isNone_none, Option.isNone_some, Bool.false_eq_true, if_true, if_false, Bool.not_true, Bool.not_false, Nat.zero_add, Nat.reduceAdd, Nat.reduceLT, Nat.reduceSub, true_and, and_true, Nat.min_zero, Nat.zero_min, Nat.reduceBEq, Bool.and_true, Bool.true_and, decide_true, decide_false, outs_z, outs_S, outs_N, outs_0, Int.reduceLT, Int.reduceLE, Nat.reduceLeDiff, List.isEmpty_cons, List.isEmpty_nil, and_self, isLstAt_0, isLstAt_S, isAtomAt_0, isAtomAt_S, pOf_0, pOf_S, cmpLt, cmpLe, cmpGt, cmpGe]
        exact ⟨rfl, _, rfl⟩
      · rw [er]
        simp only [↓exW_skip, ↓exW_seq, ↓exW_setn, ↓exW_setc, ↓exW_setJ, ↓putW_at, ↓putE_L, ↓ixW_0, ↓ixW_1, ↓exW_aug, ↓exW_retv, ↓exW_ex, ↓exW_app, ↓exW_ext, ↓exW_ite, ↓exW_for, ↓exW_whl, ↓exW_ret_op, ↓exW_ret_lit, ↓exW_ret_call, ↓exW_ret_mkt, ↓exW_ret_mkl, ↓exW_ret_ite, ↓exW_ret_and, ↓exW_ret_or, ↓exW_ret_comp, ↓exW_ret_chain, ↓exW_ret_pop, ↓evW_lit, ↓evW_var, ↓evW_nil, ↓evW_cons, ↓evW_op, ↓evW_mkl, ↓evW_mkt, ↓evW_ite, ↓evW_and, ↓evW_or, ↓evW_call, ↓evW_comp, ↓evW_pop, ↓evW_chain, ↓hdQ_1, ↓contF_nx, ↓contF_rt, ↓atE_0, ↓atE_S, ↓borW_nil, ↓borW_vl, ↓borW_vrT, ↓borW_vrF, ↓takW_nil, ↓takW_vl, ↓takW_vr, ↓oneW_vl, ↓oneW_vr, ↓lendW_nil, ↓lendW_vl, ↓lendW_vr, ↓trW_vl, ↓trW_vr, ↓ifB_t, ↓ifB_f, ↓ifB_d, ↓ifB_n, ↓truW_bl, ↓truW_int, ↓truW_lst, ↓truW_tup, ↓truW_non, ↓opK_add, ↓opK_addT, ↓opK_addL, ↓opK_addS, ↓opK_sub, ↓opK_mul, ↓opK_mulT, ↓opK_mulL, ↓opK_fdiv, ↓opK_mod, ↓opK_pow, ↓opK_shl, ↓opK_band, ↓opK_neg, ↓opK_notB, ↓opK_not, ↓opK_lt, ↓opK_le, ↓opK_gt, ↓opK_ge, ↓opK_eq, ↓opK_ne, ↓opK_isN, ↓opK_notN, ↓opK_isB, ↓opK_notB2, ↓opK_lenL, ↓opK_lenT, ↓opK_lenC, ↓opK_lenS, ↓opK_listL, ↓opK_listT, ↓opK_tupL, ↓opK_tupT, ↓opK_int, ↓opK_intB, ↓opK_abs, ↓opK_max2, ↓opK_min2, ↓opK_isT, ↓opK_eqL, ↓opK_neL, ↓opK_eqT, ↓opK_neT, ↓opK_eqS, ↓opK_neS, ↓opK_eqB, ↓opK_neB, ↓opK_sumT, ↓opK_sumL, ↓opK_maxT, ↓opK_maxL, ↓opK_minT, ↓opK_minL, ↓opK_sortT, ↓opK_sortL, ↓opK_sortRT, ↓opK_sortRL, ↓opK_idxL, ↓opK_idxT, ↓opK_idxC, ↓opK_revL, ↓opK_revT, ↓opK_lrg1, ↓opK_lrg2, ↓opK_trg1, ↓opK_trg2, ↓itemW_0, ↓itemW_1, ↓itemW_2, ↓itemW_3, ↓itemsW_L, ↓itemsW_T, ↓itemsW_S, ↓itemsW_r1, ↓itemsW_r2, ↓bindW_nm, ↓bindW_nil, ↓bindW_cons, ↓back_vl, ↓back_vr, ↓back_vrN, ↓back_nil, ↓low_z, ↓low_11, ↓low_1, ↓awayE_z, ↓awayE_1, ↓awayE_2, ↓pairW, ↓intW, ↓exts1, ↓low_2, ↓low_any, ↓low_set, ↓low_len, ↓awayE_s, ↓itemsW_enL, ↓itemsW_enT, ↓itemsW_esL, ↓itemsW_esT, ↓itemsW_zTT, ↓itemsW_zLL, ↓itemsW_zTL, ↓itemsW_zLT, ↓itemsW_zST, ↓itemsW_zSL, ↓itemsW_enS, keepO, lvOf, lvO_int, lvO_bl, lvO_str, lvO_tup, lvO_lst, lvO_non, isTy, isNon, List.set_cons_zero, List.set_cons_succ, List.length_cons, List.length_nil, getE_cons0, getE_consS, Option.isNone_none, Option.isNone_some, Bool.false_eq_true, if_true, if_false, Bool.not_true, Bool.not_false, Nat.zero_add, Nat.reduceAdd, Nat.reduceLT, Nat.reduceSub, true_and, and_true, Nat.min_zero, Nat.zero_min, Nat.reduceBEq, Bool.and_true, Bool.true_and, decide_true, decide_false, outs_z, outs_S, outs_N, outs_0, Int.reduceLT, Int.reduceLE, Nat.reduceLeDiff, List.isEmpty_cons, List.isEmpty_nil, and_self, isLstAt_0, isLstAt_S, isAtomAt_0, isAtomAt_S, pOf_0, pOf_S, cmpLt, cmpLe, cmpGt, cmpGe]
        exact ⟨l, rfl⟩
    rintro r ⟨l4, rfl⟩
    refine seq_by (fun r => ∃ l, r = [(some (Ent.mk (strsD fs) 0 true)), (some (Ent.mk (natD k) 0 true)), (some (Ent.mk (natD q) 0 false)), none, some ⟨.lst ((List.range q).map fun x => pairD (k, 1 + x)), l4 + 1, false⟩, some ⟨.lst ((List.range q).map fun x => pairD (k, q + 1 + x)), l + 1, false⟩]) ?_ ?_
    · simp only [hq1, hq2, r2, List.length_map, List.length_range, ↓exW_skip, ↓exW_seq, ↓exW_setn, ↓exW_setc, ↓exW_setJ, ↓putW_at, ↓putE_L, ↓ixW_0, ↓ixW_1, ↓exW_aug, ↓exW_retv, ↓exW_ex, ↓exW_app, ↓exW_ext, ↓exW_ite, ↓exW_for, ↓exW_whl, ↓exW_ret_op, ↓exW_ret_lit, ↓exW_ret_call, ↓exW_ret_mkt, ↓exW_ret_mkl, ↓exW_ret_ite, ↓exW_ret_and, ↓exW_ret_or, ↓exW_ret_comp, ↓exW_ret_chain, ↓exW_ret_pop, ↓evW_lit, ↓evW_var, ↓evW_nil, ↓evW_cons, ↓evW_op, ↓evW_mkl, ↓evW_mkt, ↓evW_ite, ↓evW_and, ↓evW_or, ↓evW_call, ↓evW_comp, ↓evW_pop, ↓evW_chain, ↓hdQ_1, ↓contF_nx, ↓contF_rt, ↓atE_0, ↓atE_S, ↓borW_nil, ↓borW_vl, ↓borW_vrT, ↓borW_vrF, ↓takW_nil, ↓takW_vl, ↓takW_vr, ↓oneW_vl, ↓oneW_vr, ↓lendW_nil, ↓lendW_vl, ↓lendW_vr, ↓trW_vl, ↓trW_vr, ↓ifB_t, ↓ifB_f, ↓ifB_d, ↓ifB_n, ↓truW_bl, ↓truW_int, ↓truW_lst, ↓truW_tup, ↓truW_non, ↓opK_add, ↓opK_addT, ↓opK_addL, ↓opK_addS, ↓opK_sub, ↓opK_mul, ↓opK_mulT, ↓opK_mulL, ↓opK_fdiv, ↓opK_mod, ↓opK_pow, ↓opK_shl, ↓opK_band, ↓opK_neg, ↓opK_notB, ↓opK_not, ↓opK_lt, ↓opK_le, ↓opK_gt, ↓opK_ge, ↓opK_eq, ↓opK_ne, ↓opK_isN, ↓opK_notN, ↓opK_isB, ↓opK_notB2, ↓opK_lenL, ↓opK_lenT, ↓opK_lenC, ↓opK_lenS, ↓opK_listL, ↓opK_listT, ↓opK_tupL, ↓opK_tupT, ↓opK_int, ↓opK_intB, ↓opK_abs, ↓opK_max2, ↓opK_min2, ↓opK_isT, ↓opK_eqL, ↓opK_neL, ↓opK_eqT, ↓opK_neT, ↓opK_eqS, ↓opK_neS, ↓opK_eqB, ↓opK_neB, ↓opK_sumT, ↓opK_sumL, ↓opK_maxT, ↓opK_maxL, ↓opK_minT, ↓opK_minL, ↓opK_sortT, ↓opK_sortL, ↓opK_sortRT, ↓opK_sortRL, ↓opK_idxL, ↓opK_idxT, ↓opK_idxC, ↓opK_revL, ↓opK_revT, ↓opK_lrg1, ↓opK_lrg2, ↓opK_trg1, ↓opK_trg2, ↓itemW_0, ↓itemW_1, ↓itemW_2, ↓itemW_3, ↓itemsW_L, ↓itemsW_T, ↓itemsW_S, ↓itemsW_r1, ↓itemsW_r2, ↓bindW_nm, ↓bindW_nil, ↓bindW_cons, ↓back_vl, ↓back_vr, ↓back_vrN, ↓back_nil, ↓low_z, ↓low_11, ↓low_1, ↓awayE_z, ↓awayE_1, ↓awayE_2, ↓pairW, ↓intW, ↓exts1, ↓low_2, ↓low_any, ↓low_set, ↓low_len, ↓awayE_s, ↓itemsW_enL, ↓itemsW_enT, ↓itemsW_esL, ↓itemsW_esT, ↓itemsW_zTT, ↓itemsW_zLL, ↓itemsW_zTL, ↓itemsW_zLT, ↓itemsW_zST, ↓itemsW_zSL, ↓itemsW_enS, keepO, lvOf, lvO_int, lvO_bl, lvO_str, lvO_tup, lvO_lst, lvO_non, isTy, isNon, List.set_cons_zero, List.set_cons_succ, List.length_cons, List.length_nil, getE_cons0, getE_consS, Option.isNone_none, Option.isNone_some, Bool.false_eq_true, if_true, if_false, Bool.not_true, Bool.not_false, Nat.zero_add, Nat.reduceAdd, Nat.reduceLT, Nat.reduceSub, true_and, and_true, Nat.min_zero, Nat.zero_min, Nat.reduceBEq, Bool.and_true, Bool.true_and, decide_true, decide_false, outs_z, outs_S, outs_N, outs_0, Int.reduceLT, Int.reduceLE, Nat.reduceLeDiff, List.isEmpty_cons, List.isEmpty_nil, and_self, isLstAt_0, isLstAt_S, isAtomAt_0, isAtomAt_S, pOf_0, pOf_S, cmpLt, cmpLe, cmpGt, cmpGe]
      refine ⟨rfl, by rw [okR_of2 (by omega), okR_of2 (by omega)]; rfl, ⟨sz_of (by omega), rfl⟩, ?_⟩
      refine comp_g (fun x => natD (q + 1 + x)) (fun x => pairD (k, q + 1 + x)) (fun x hx => ?_) fun l r3 er => ?_
      · simp only [↓exW_skip, ↓exW_seq, ↓exW_setn, ↓exW_setc, ↓exW_setJ, ↓putW_at, ↓putE_L, ↓ixW_0, ↓ixW_1, ↓exW_aug, ↓exW_retv, ↓exW_ex, ↓exW_app, ↓exW_ext, ↓exW_ite, ↓exW_for, ↓exW_whl, ↓exW_ret_op, ↓exW_ret_lit, ↓exW_ret_call, ↓exW_ret_mkt, ↓exW_ret_mkl, ↓exW_ret_ite, ↓exW_ret_and, ↓exW_ret_or, ↓exW_ret_comp, ↓exW_ret_chain, ↓exW_ret_pop, ↓evW_lit, ↓evW_var, ↓evW_nil, ↓evW_cons, ↓evW_op, ↓evW_mkl, ↓evW_mkt, ↓evW_ite, ↓evW_and, ↓evW_or, ↓evW_call, ↓evW_comp, ↓evW_pop, ↓evW_chain, ↓hdQ_1, ↓contF_nx, ↓contF_rt, ↓atE_0, ↓atE_S, ↓borW_nil, ↓borW_vl, ↓borW_vrT, ↓borW_vrF, ↓takW_nil, ↓takW_vl, ↓takW_vr, ↓oneW_vl, ↓oneW_vr, ↓lendW_nil, ↓lendW_vl, ↓lendW_vr, ↓trW_vl, ↓trW_vr, ↓ifB_t, ↓ifB_f, ↓ifB_d, ↓ifB_n, ↓truW_bl, ↓truW_int, ↓truW_lst, ↓truW_tup, ↓truW_non, ↓opK_add, ↓opK_addT, ↓opK_addL, ↓opK_addS, ↓opK_sub, ↓opK_mul, ↓opK_mulT, ↓opK_mulL, ↓opK_fdiv, ↓opK_mod, ↓opK_pow, ↓opK_shl, ↓opK_band, ↓opK_neg, ↓opK_notB, ↓opK_not, ↓opK_lt, ↓opK_le, ↓opK_gt, ↓opK_ge, ↓opK_eq, ↓opK_ne, ↓opK_isN, ↓opK_notN, ↓opK_isB, ↓opK_notB2, ↓opK_lenL, ↓opK_lenT, ↓opK_lenC, ↓opK_lenS, ↓opK_listL, ↓opK_listT, ↓opK_tupL, ↓opK_tupT, ↓opK_int, ↓opK_intB, ↓opK_abs, ↓opK_max2, ↓opK_min2, ↓opK_isT, ↓opK_eqL, ↓opK_neL, ↓opK_eqT, ↓opK_neT, ↓opK_eqS, ↓opK_neS, ↓opK_eqB, ↓opK_neB, ↓opK_sumT, ↓opK_sumL, ↓opK_maxT, ↓opK_maxL, ↓opK_minT, ↓opK_minL, ↓opK_sortT, ↓opK_sortL, ↓opK_sortRT, ↓opK_sortRL, ↓opK_idxL, ↓opK_idxT, ↓opK_idxC, ↓opK_revL, ↓opK_revT, ↓opK_lrg1, ↓opK_lrg2, ↓opK_trg1, ↓opK_trg2, ↓itemW_0, ↓itemW_1, ↓itemW_2, ↓itemW_3, ↓itemsW_L, ↓itemsW_T, ↓itemsW_S, ↓itemsW_r1, ↓itemsW_r2, ↓bindW_nm, ↓bindW_nil, ↓bindW_cons, ↓back_vl, ↓back_vr, ↓back_vrN, ↓back_nil, ↓low_z, ↓low_11, ↓low_1, ↓awayE_z, ↓awayE_1, ↓awayE_2, ↓pairW, ↓intW, ↓exts1, ↓low_2, ↓low_any, ↓low_set, ↓low_len, ↓awayE_s, ↓itemsW_enL, ↓itemsW_enT, ↓itemsW_esL, ↓itemsW_esT, ↓itemsW_zTT, ↓itemsW_zLL, ↓itemsW_zTL, ↓itemsW_zLT, ↓itemsW_zST, ↓itemsW_zSL, ↓itemsW_enS, keepO, lvOf, lvO_int, lvO_bl, lvO_str, lvO_tup, lvO_lst, lvO_non, isTy, isNon, List.set_cons_zero, List.set_cons_succ, List.length_cons, List.length_nil, getE_cons0, getE_consS, Option.isNone_none, Option.isNone_some, Bool.false_eq_true, if_true, if_false, Bool.not_true, Bool.not_false, Nat.zero_add, Nat.reduceAdd, Nat.reduceLT, Nat.reduceSub, true_and, and_true, Nat.min_zero, Nat.zero_min, Nat.reduceBEq, Bool.and_true, Bool.true_and, decide_true, decide_false, outs_z, outs_S, outs_N, outs_0, Int.reduceLT, Int.reduceLE, Nat.reduceLeDiff, List.isEmpty_cons, List.isEmpty_nil, and_self, isLstAt_0, isLstAt_S, isAtomAt_0, isAtomAt_S, pOf_0, pOf_S, cmpLt, cmpLe, cmpGt, cmpGe]
        exact ⟨rfl, _, rfl⟩
      · rw [er]
        simp only [↓exW_skip, ↓exW_seq, ↓exW_setn, ↓exW_setc, ↓exW_setJ, ↓putW_at, ↓putE_L, ↓ixW_0, ↓ixW_1, ↓exW_aug, ↓exW_retv, ↓exW_ex, ↓exW_app, ↓exW_ext, ↓exW_ite, ↓exW_for, ↓exW_whl, ↓exW_ret_op, ↓exW_ret_lit, ↓exW_ret_call, ↓exW_ret_mkt, ↓exW_ret_mkl, ↓exW_ret_ite, ↓exW_ret_and, ↓exW_ret_or, ↓exW_ret_comp, ↓exW_ret_chain, ↓exW_ret_pop, ↓evW_lit, ↓evW_var, ↓evW_nil, ↓evW_cons, ↓evW_op, ↓evW_mkl, ↓evW_mkt, ↓evW_ite, ↓evW_and, ↓evW_or, ↓evW_call, ↓evW_comp, ↓evW_pop, ↓evW_chain, ↓hdQ_1, ↓contF_nx, ↓contF_rt, ↓atE_0, ↓atE_S, ↓borW_nil, ↓borW_vl, ↓borW_vrT, ↓borW_vrF, ↓takW_nil, ↓takW_vl, ↓takW_vr, ↓oneW_vl, ↓oneW_vr, ↓lendW_nil, ↓lendW_vl, ↓lendW_vr, ↓trW_vl, ↓trW_vr, ↓ifB_t, ↓ifB_f, ↓ifB_d, ↓ifB_n, ↓truW_bl, ↓truW_int, ↓truW_lst, ↓truW_tup, ↓truW_non, ↓opK_add, ↓opK_addT, ↓opK_addL, ↓opK_addS, ↓opK_sub, ↓opK_mul, ↓opK_mulT, ↓opK_mulL, ↓opK_fdiv, ↓opK_mod, ↓opK_pow, ↓opK_shl, ↓opK_band, ↓opK_neg, ↓opK_notB, ↓opK_not, ↓opK_lt, ↓opK_le, ↓opK_gt, ↓opK_ge, ↓opK_eq, ↓opK_ne, ↓opK_isN, ↓opK_notN, ↓opK_isB, ↓opK_notB2, ↓opK_lenL, ↓opK_lenT, ↓opK_lenC, ↓opK_lenS, ↓opK_listL, ↓opK_listT, ↓opK_tupL, ↓opK_tupT, ↓opK_int, ↓opK_intB, ↓opK_abs, ↓opK_max2, ↓opK_min2, ↓opK_isT, ↓opK_eqL, ↓opK_neL, ↓opK_eqT, ↓opK_neT, ↓opK_eqS, ↓opK_neS, ↓opK_eqB, ↓opK_neB, ↓opK_sumT, ↓opK_sumL, ↓opK_maxT, ↓opK_maxL, ↓opK_minT, ↓opK_minL, ↓opK_sortT, ↓opK_sortL, ↓opK_sortRT, ↓opK_sortRL, ↓opK_idxL, ↓opK_idxT, ↓opK_idxC, ↓opK_revL, ↓opK_revT, ↓opK_lrg1, ↓opK_lrg2, ↓opK_trg1, ↓opK_trg2, ↓itemW_0, ↓itemW_1, ↓itemW_2, ↓itemW_3, ↓itemsW_L, ↓itemsW_T, ↓itemsW_S, ↓itemsW_r1, ↓itemsW_r2, ↓bindW_nm, ↓bindW_nil, ↓bindW_cons, ↓back_vl, ↓back_vr, ↓back_vrN, ↓back_nil, ↓low_z, ↓low_11, ↓low_1, ↓awayE_z, ↓awayE_1, ↓awayE_2, ↓pairW, ↓intW, ↓exts1, ↓low_2, ↓low_any, ↓low_set, ↓low_len, ↓awayE_s, ↓itemsW_enL, ↓itemsW_enT, ↓itemsW_esL, ↓itemsW_esT, ↓itemsW_zTT, ↓itemsW_zLL, ↓itemsW_zTL, ↓itemsW_zLT, ↓itemsW_zST, ↓itemsW_zSL, ↓itemsW_enS, keepO, lvOf, lvO_int, lvO_bl, lvO_str, lvO_tup, lvO_lst, lvO_non, isTy, isNon, List.set_cons_zero, List.set_cons_succ, List.length_cons, List.length_nil, getE_cons0, getE_consS, Option.isNone_none, Option.isNone_some, Bool.false_eq_true, if_true, if_false, Bool.not_true, Bool.not_false, Nat.zero_add, Nat.reduceAdd, Nat.reduceLT, Nat.reduceSub, true_and, and_true, Nat.min_zero, Nat.zero_min, Nat.reduceBEq, Bool.and_true, Bool.true_and, decide_true, decide_false, outs_z, outs_S, outs_N, outs_0, Int.reduceLT, Int.reduceLE, Nat.reduceLeDiff, List.isEmpty_cons, List.isEmpty_nil, and_self, isLstAt_0, isLstAt_S, isAtomAt_0, isAtomAt_S, pOf_0, pOf_S, cmpLt, cmpLe, cmpGt, cmpGe]
        exact ⟨l, rfl⟩
    rintro r ⟨l5, rfl⟩
    have hdr : fs.drop k = fs[k] :: fs.drop (k + 1) := List.drop_eq_getElem_cons hkl
    have fin : ((List.range q).map (fun x => pairD (k, 1 + x)) ++ (insV (k + 1) (fs.drop (k + 1))).map pairD ++ (List.range q).map fun x => pairD (k, q + 1 + x)) = (insV k (fs.drop k)).map pairD := by
      rw [hdr, insV, hq]
      simp only [List.map_append, List.map_map]
      rfl
    have hlen : ((List.range q).map (fun x => pairD (k, 1 + x))).length = q := by simp
    have hbnd : fs.length * (2 * 2 ^ 10) ≤ 100 * (2 * 2 ^ 10) := Nat.mul_le_mul_right _ hl
    simp only [e1, ↓hi, ↓low_any1, List.length_map, List.length_range, List.length_append, hil, ↓exW_skip, ↓exW_seq, ↓exW_setn, ↓exW_setc, ↓exW_setJ, ↓putW_at, ↓putE_L, ↓ixW_0, ↓ixW_1, ↓exW_aug, ↓exW_retv, ↓exW_ex, ↓exW_app, ↓exW_ext, ↓exW_ite, ↓exW_for, ↓exW_whl, ↓exW_ret_op, ↓exW_ret_lit, ↓exW_ret_call, ↓exW_ret_mkt, ↓exW_ret_mkl, ↓exW_ret_ite, ↓exW_ret_and, ↓exW_ret_or, ↓exW_ret_comp, ↓exW_ret_chain, ↓exW_ret_pop, ↓evW_lit, ↓evW_var, ↓evW_nil, ↓evW_cons, ↓evW_op, ↓evW_mkl, ↓evW_mkt, ↓evW_ite, ↓evW_and, ↓evW_or, ↓evW_call, ↓evW_comp, ↓evW_pop, ↓evW_chain, ↓hdQ_1, ↓contF_nx, ↓contF_rt, ↓atE_0, ↓atE_S, ↓borW_nil, ↓borW_vl, ↓borW_vrT, ↓borW_vrF, ↓takW_nil, ↓takW_vl, ↓takW_vr, ↓oneW_vl, ↓oneW_vr, ↓lendW_nil, ↓lendW_vl, ↓lendW_vr, ↓trW_vl, ↓trW_vr, ↓ifB_t, ↓ifB_f, ↓ifB_d, ↓ifB_n, ↓truW_bl, ↓truW_int, ↓truW_lst, ↓truW_tup, ↓truW_non, ↓opK_add, ↓opK_addT, ↓opK_addL, ↓opK_addS, ↓opK_sub, ↓opK_mul, ↓opK_mulT, ↓opK_mulL, ↓opK_fdiv, ↓opK_mod, ↓opK_pow, ↓opK_shl, ↓opK_band, ↓opK_neg, ↓opK_notB, ↓opK_not, ↓opK_lt, ↓opK_le, ↓opK_gt, ↓opK_ge, ↓opK_eq, ↓opK_ne, ↓opK_isN, ↓opK_notN, ↓opK_isB, ↓opK_notB2, ↓opK_lenL, ↓opK_lenT, ↓opK_lenC, ↓opK_lenS, ↓opK_listL, ↓opK_listT, ↓opK_tupL, ↓opK_tupT, ↓opK_int, ↓opK_intB, ↓opK_abs, ↓opK_max2, ↓opK_min2, ↓opK_isT, ↓opK_eqL, ↓opK_neL, ↓opK_eqT, ↓opK_neT, ↓opK_eqS, ↓opK_neS, ↓opK_eqB, ↓opK_neB, ↓opK_sumT, ↓opK_sumL, ↓opK_maxT, ↓opK_maxL, ↓opK_minT, ↓opK_minL, ↓opK_sortT, ↓opK_sortL, ↓opK_sortRT, ↓opK_sortRL, ↓opK_idxL, ↓opK_idxT, ↓opK_idxC, ↓opK_revL, ↓opK_revT, ↓opK_lrg1, ↓opK_lrg2, ↓opK_trg1, ↓opK_trg2, ↓itemW_0, ↓itemW_1, ↓itemW_2, ↓itemW_3, ↓itemsW_L, ↓itemsW_T, ↓itemsW_S, ↓itemsW_r1, ↓itemsW_r2, ↓bindW_nm, ↓bindW_nil, ↓bindW_cons, ↓back_vl, ↓back_vr, ↓back_vrN, ↓back_nil, ↓low_z, ↓low_11, ↓low_1, ↓awayE_z, ↓awayE_1, ↓awayE_2, ↓pairW, ↓intW, ↓exts1, ↓low_2, ↓low_any, ↓low_set, ↓low_len, ↓awayE_s, ↓itemsW_enL, ↓itemsW_enT, ↓itemsW_esL, ↓itemsW_esT, ↓itemsW_zTT, ↓itemsW_zLL, ↓itemsW_zTL, ↓itemsW_zLT, ↓itemsW_zST, ↓itemsW_zSL, ↓itemsW_enS, keepO, lvOf, lvO_int, lvO_bl, lvO_str, lvO_tup, lvO_lst, lvO_non, isTy, isNon, List.set_cons_zero, List.set_cons_succ, List.length_cons, List.length_nil, getE_cons0, getE_consS, Option.isNone_none, Option.isNone_some, Bool.false_eq_true, if_true, if_false, Bool.not_true, Bool.not_false, Nat.zero_add, Nat.reduceAdd, Nat.reduceLT, Nat.reduceSub, true_and, and_true, Nat.min_zero, Nat.zero_min, Nat.reduceBEq, Bool.and_true, Bool.true_and, decide_true, decide_false, outs_z, outs_S, outs_N, outs_0, Int.reduceLT, Int.reduceLE, Nat.reduceLeDiff, List.isEmpty_cons, List.isEmpty_nil, and_self, isLstAt_0, isLstAt_S, isAtomAt_0, isAtomAt_S, pOf_0, pOf_S, cmpLt, cmpLe, cmpGt, cmpGe]
    exact ⟨sz_of (by omega), sz_of (by omega), congrArg D.lst fin⟩
/-- the order of a gathered book -/
def ordG (fs : List Str) : List (Nat × Nat) := (List.range fs.length).flatMap fun i => (List.range (pgV (fs.getD i ⟨#[]⟩))).map fun q => (i, 1 + q)
def ordV (b : Bool) (fs : List Str) : List (Nat × Nat) := if b then insV 0 fs else ordG fs
def bindS (b : Bool) : Str := if b then ⟨#[105, 110, 115, 101, 116]⟩ else ⟨#[103, 97, 116, 104, 101, 114, 101, 100]⟩
theorem ins_mem : ∀ {k : Nat} {fs : List Str} {q : Nat × Nat}, q ∈ insV k fs → k ≤ q.1 ∧ q.1 < k + fs.length ∧ 1 ≤ q.2 ∧ q.2 ≤ pgV (fs.getD (q.1 - k) ⟨#[]⟩)
  | _, [], q, h => by simp [insV] at h
  | k, f :: r, q, h => by
    have he := pg_even f
    unfold insV at h
    rw [List.mem_append, List.mem_append] at h
    rcases h with (h | h) | h
    · obtain ⟨x, hx, rfl⟩ := List.mem_map.mp h
      have := List.mem_range.mp hx
      simp only [Nat.sub_self, List.getD_cons_zero, List.length_cons]
      omega
    · obtain ⟨h1, h2, h3, h4⟩ := ins_mem h
      rw [show q.1 - k = (q.1 - (k + 1)) + 1 by omega, List.getD_cons_succ]
      simp only [List.length_cons]
      omega
    · obtain ⟨x, hx, rfl⟩ := List.mem_map.mp h
      have := List.mem_range.mp hx
      simp only [Nat.sub_self, List.getD_cons_zero, List.length_cons]
      omega
theorem ord_mem {b : Bool} {fs : List Str} {q : Nat × Nat} (h : q ∈ ordV b fs) : q.1 < fs.length ∧ 1 ≤ q.2 ∧ q.2 ≤ pgV (fs.getD q.1 ⟨#[]⟩) := by
  cases b with
  | true =>
    have := ins_mem (show q ∈ insV 0 fs from h)
    simpa using this
  | false =>
    have h : q ∈ ordG fs := h
    unfold ordG at h
    obtain ⟨i, hi, h⟩ := List.mem_flatMap.mp h
    obtain ⟨x, hx, rfl⟩ := List.mem_map.mp h
    have := List.mem_range.mp hx
    have := List.mem_range.mp hi
    simp only
    omega
theorem ordG_len (fs : List Str) : (ordG fs).length = cntV fs := by
  unfold ordG
  rw [List.length_flatMap]
  unfold cntV
  congr 1
  apply List.ext_getElem?
  intro i
  rw [List.getElem?_map, List.getElem?_map]
  by_cases h : i < fs.length
  · rw [List.getElem?_range h, List.getElem?_eq_getElem h]
    simp [h]
  · rw [List.getElem?_eq_none (by simpa using h), List.getElem?_eq_none (by simpa using h)]
    rfl
theorem ord_len (b : Bool) (fs : List Str) : (ordV b fs).length = cntV fs := by
  cases b with
  | true => exact ins_len 0 fs
  | false => exact ordG_len fs
abbrev bookD (b : Bool) (fs : List Str) (d : D) : D := .tup [strsD fs, .str (bindS b), d]
theorem order_gath (h0 : T[p]? = some ⟨1, 1, bPow⟩) (h1 : T[i]? = some ⟨1, 1, bPages p⟩) (h : T[o]? = some ⟨1, 8, bOrder i j⟩) {fs : List Str} (hf : ∀ f ∈ fs, f.length ≤ 10) (hl : fs.length ≤ 100)
    (h1l : 1 ≤ fs.length) (d : D) {n : Nat} (hn : 2 ≤ n) : callF T (n + 1) o [(bookD false fs d, 0)] = .val (.lst ((ordV false fs).map pairD), 0 + 1, [some (bookD false fs d, 0)]) := by
  refine call_eq h rfl ?_
  have e : bindS false = ⟨#[103, 97, 116, 104, 101, 114, 101, 100]⟩ := rfl
  have e2 : ((⟨#[103, 97, 116, 104, 101, 114, 101, 100]⟩ : Str) == ⟨#[105, 110, 115, 101, 116]⟩) = false := by decide
  have hcl := cnt_le hf
  have hbnd : fs.length * (2 * 2 ^ 10) ≤ 100 * (2 * 2 ^ 10) := Nat.mul_le_mul_right _ hl
  unfold bOrder
  refine seq_by (fun r => r = [(some (Ent.mk (bookD false fs d) 0 true)), (some (Ent.mk (strsD fs) 0 false)), (some (Ent.mk (.str (bindS false)) 0 false)), (some (Ent.mk d 0 false)), none, none, none, none]) ?_ ?_
  · simp only [env0_1, List.replicate, ↓exW_skip, ↓exW_seq, ↓exW_setn, ↓exW_setc, ↓exW_setJ, ↓putW_at, ↓putE_L, ↓ixW_0, ↓ixW_1, ↓exW_aug, ↓exW_retv, ↓exW_ex, ↓exW_app, ↓exW_ext, ↓exW_ite, ↓exW_for, ↓exW_whl, ↓exW_ret_op, ↓exW_ret_lit, ↓exW_ret_call, ↓exW_ret_mkt, ↓exW_ret_mkl, ↓exW_ret_ite, ↓exW_ret_and, ↓exW_ret_or, ↓exW_ret_comp, ↓exW_ret_chain, ↓exW_ret_pop, ↓evW_lit, ↓evW_var, ↓evW_nil, ↓evW_cons, ↓evW_op, ↓evW_mkl, ↓evW_mkt, ↓evW_ite, ↓evW_and, ↓evW_or, ↓evW_call, ↓evW_comp, ↓evW_pop, ↓evW_chain, ↓hdQ_1, ↓contF_nx, ↓contF_rt, ↓atE_0, ↓atE_S, ↓borW_nil, ↓borW_vl, ↓borW_vrT, ↓borW_vrF, ↓takW_nil, ↓takW_vl, ↓takW_vr, ↓oneW_vl, ↓oneW_vr, ↓lendW_nil, ↓lendW_vl, ↓lendW_vr, ↓trW_vl, ↓trW_vr, ↓ifB_t, ↓ifB_f, ↓ifB_d, ↓ifB_n, ↓truW_bl, ↓truW_int, ↓truW_lst, ↓truW_tup, ↓truW_non, ↓opK_add, ↓opK_addT, ↓opK_addL, ↓opK_addS, ↓opK_sub, ↓opK_mul, ↓opK_mulT, ↓opK_mulL, ↓opK_fdiv, ↓opK_mod, ↓opK_pow, ↓opK_shl, ↓opK_band, ↓opK_neg, ↓opK_notB, ↓opK_not, ↓opK_lt, ↓opK_le, ↓opK_gt, ↓opK_ge, ↓opK_eq, ↓opK_ne, ↓opK_isN, ↓opK_notN, ↓opK_isB, ↓opK_notB2, ↓opK_lenL, ↓opK_lenT, ↓opK_lenC, ↓opK_lenS, ↓opK_listL, ↓opK_listT, ↓opK_tupL, ↓opK_tupT, ↓opK_int, ↓opK_intB, ↓opK_abs, ↓opK_max2, ↓opK_min2, ↓opK_isT, ↓opK_eqL, ↓opK_neL, ↓opK_eqT, ↓opK_neT, ↓opK_eqS, ↓opK_neS, ↓opK_eqB, ↓opK_neB, ↓opK_sumT, ↓opK_sumL, ↓opK_maxT, ↓opK_maxL, ↓opK_minT, ↓opK_minL, ↓opK_sortT, ↓opK_sortL, ↓opK_sortRT, ↓opK_sortRL, ↓opK_idxL, ↓opK_idxT, ↓opK_idxC, ↓opK_revL, ↓opK_revT, ↓opK_lrg1, ↓opK_lrg2, ↓opK_trg1, ↓opK_trg2, ↓itemW_0, ↓itemW_1, ↓itemW_2, ↓itemW_3, ↓itemsW_L, ↓itemsW_T, ↓itemsW_S, ↓itemsW_r1, ↓itemsW_r2, ↓bindW_nm, ↓bindW_nil, ↓bindW_cons, ↓back_vl, ↓back_vr, ↓back_vrN, ↓back_nil, ↓low_z, ↓low_11, ↓low_1, ↓awayE_z, ↓awayE_1, ↓awayE_2, ↓pairW, ↓intW, ↓exts1, ↓low_2, ↓low_any, ↓low_set, ↓low_len, ↓awayE_s, ↓itemsW_enL, ↓itemsW_enT, ↓itemsW_esL, ↓itemsW_esT, ↓itemsW_zTT, ↓itemsW_zLL, ↓itemsW_zTL, ↓itemsW_zLT, ↓itemsW_zST, ↓itemsW_zSL, ↓itemsW_enS, keepO, lvOf, lvO_int, lvO_bl, lvO_str, lvO_tup, lvO_lst, lvO_non, isTy, isNon, List.set_cons_zero, List.set_cons_succ, List.length_cons, List.length_nil, getE_cons0, getE_consS, Option.isNone_none, Option.isNone_some, Bool.false_eq_true, if_true, if_false, Bool.not_true, Bool.not_false, Nat.zero_add, Nat.reduceAdd, Nat.reduceLT, Nat.reduceSub, true_and, and_true, Nat.min_zero, Nat.zero_min, Nat.reduceBEq, Bool.and_true, Bool.true_and, decide_true, decide_false, outs_z, outs_S, outs_N, outs_0, Int.reduceLT, Int.reduceLE, Nat.reduceLeDiff, List.isEmpty_cons, List.isEmpty_nil, and_self, isLstAt_0, isLstAt_S, isAtomAt_0, isAtomAt_S, pOf_0, pOf_S, cmpLt, cmpLe, cmpGt, cmpGe]
  rintro r rfl
  refine seq_by (fun r => r = [(some (Ent.mk (bookD false fs d) 0 true)), (some (Ent.mk (strsD fs) 0 false)), (some (Ent.mk (.str (bindS false)) 0 false)), (some (Ent.mk d 0 false)), none, none, none, none]) ?_ ?_
  · simp only [e, e2, ↓exW_skip, ↓exW_seq, ↓exW_setn, ↓exW_setc, ↓exW_setJ, ↓putW_at, ↓putE_L, ↓ixW_0, ↓ixW_1, ↓exW_aug, ↓exW_retv, ↓exW_ex, ↓exW_app, ↓exW_ext, ↓exW_ite, ↓exW_for, ↓exW_whl, ↓exW_ret_op, ↓exW_ret_lit, ↓exW_ret_call, ↓exW_ret_mkt, ↓exW_ret_mkl, ↓exW_ret_ite, ↓exW_ret_and, ↓exW_ret_or, ↓exW_ret_comp, ↓exW_ret_chain, ↓exW_ret_pop, ↓evW_lit, ↓evW_var, ↓evW_nil, ↓evW_cons, ↓evW_op, ↓evW_mkl, ↓evW_mkt, ↓evW_ite, ↓evW_and, ↓evW_or, ↓evW_call, ↓evW_comp, ↓evW_pop, ↓evW_chain, ↓hdQ_1, ↓contF_nx, ↓contF_rt, ↓atE_0, ↓atE_S, ↓borW_nil, ↓borW_vl, ↓borW_vrT, ↓borW_vrF, ↓takW_nil, ↓takW_vl, ↓takW_vr, ↓oneW_vl, ↓oneW_vr, ↓lendW_nil, ↓lendW_vl, ↓lendW_vr, ↓trW_vl, ↓trW_vr, ↓ifB_t, ↓ifB_f, ↓ifB_d, ↓ifB_n, ↓truW_bl, ↓truW_int, ↓truW_lst, ↓truW_tup, ↓truW_non, ↓opK_add, ↓opK_addT, ↓opK_addL, ↓opK_addS, ↓opK_sub, ↓opK_mul, ↓opK_mulT, ↓opK_mulL, ↓opK_fdiv, ↓opK_mod, ↓opK_pow, ↓opK_shl, ↓opK_band, ↓opK_neg, ↓opK_notB, ↓opK_not, ↓opK_lt, ↓opK_le, ↓opK_gt, ↓opK_ge, ↓opK_eq, ↓opK_ne, ↓opK_isN, ↓opK_notN, ↓opK_isB, ↓opK_notB2, ↓opK_lenL, ↓opK_lenT, ↓opK_lenC, ↓opK_lenS, ↓opK_listL, ↓opK_listT, ↓opK_tupL, ↓opK_tupT, ↓opK_int, ↓opK_intB, ↓opK_abs, ↓opK_max2, ↓opK_min2, ↓opK_isT, ↓opK_eqL, ↓opK_neL, ↓opK_eqT, ↓opK_neT, ↓opK_eqS, ↓opK_neS, ↓opK_eqB, ↓opK_neB, ↓opK_sumT, ↓opK_sumL, ↓opK_maxT, ↓opK_maxL, ↓opK_minT, ↓opK_minL, ↓opK_sortT, ↓opK_sortL, ↓opK_sortRT, ↓opK_sortRL, ↓opK_idxL, ↓opK_idxT, ↓opK_idxC, ↓opK_revL, ↓opK_revT, ↓opK_lrg1, ↓opK_lrg2, ↓opK_trg1, ↓opK_trg2, ↓itemW_0, ↓itemW_1, ↓itemW_2, ↓itemW_3, ↓itemsW_L, ↓itemsW_T, ↓itemsW_S, ↓itemsW_r1, ↓itemsW_r2, ↓bindW_nm, ↓bindW_nil, ↓bindW_cons, ↓back_vl, ↓back_vr, ↓back_vrN, ↓back_nil, ↓low_z, ↓low_11, ↓low_1, ↓awayE_z, ↓awayE_1, ↓awayE_2, ↓pairW, ↓intW, ↓exts1, ↓low_2, ↓low_any, ↓low_set, ↓low_len, ↓awayE_s, ↓itemsW_enL, ↓itemsW_enT, ↓itemsW_esL, ↓itemsW_esT, ↓itemsW_zTT, ↓itemsW_zLL, ↓itemsW_zTL, ↓itemsW_zLT, ↓itemsW_zST, ↓itemsW_zSL, ↓itemsW_enS, keepO, lvOf, lvO_int, lvO_bl, lvO_str, lvO_tup, lvO_lst, lvO_non, isTy, isNon, List.set_cons_zero, List.set_cons_succ, List.length_cons, List.length_nil, getE_cons0, getE_consS, Option.isNone_none, Option.isNone_some, Bool.false_eq_true, if_true, if_false, Bool.not_true, Bool.not_false, Nat.zero_add, Nat.reduceAdd, Nat.reduceLT, Nat.reduceSub, true_and, and_true, Nat.min_zero, Nat.zero_min, Nat.reduceBEq, Bool.and_true, Bool.true_and, decide_true, decide_false, outs_z, outs_S, outs_N, outs_0, Int.reduceLT, Int.reduceLE, Nat.reduceLeDiff, List.isEmpty_cons, List.isEmpty_nil, and_self, isLstAt_0, isLstAt_S, isAtomAt_0, isAtomAt_S, pOf_0, pOf_S, cmpLt, cmpLe, cmpGt, cmpGe]
  rintro r rfl
  refine seq_by (fun r => r = [(some (Ent.mk (bookD false fs d) 0 true)), (some (Ent.mk (strsD fs) 0 false)), (some (Ent.mk (.str (bindS false)) 0 false)), (some (Ent.mk d 0 false)), some ⟨.lst [], 9, false⟩, none, none, none]) ?_ ?_
  · simp only [↓exW_skip, ↓exW_seq, ↓exW_setn, ↓exW_setc, ↓exW_setJ, ↓putW_at, ↓putE_L, ↓ixW_0, ↓ixW_1, ↓exW_aug, ↓exW_retv, ↓exW_ex, ↓exW_app, ↓exW_ext, ↓exW_ite, ↓exW_for, ↓exW_whl, ↓exW_ret_op, ↓exW_ret_lit, ↓exW_ret_call, ↓exW_ret_mkt, ↓exW_ret_mkl, ↓exW_ret_ite, ↓exW_ret_and, ↓exW_ret_or, ↓exW_ret_comp, ↓exW_ret_chain, ↓exW_ret_pop, ↓evW_lit, ↓evW_var, ↓evW_nil, ↓evW_cons, ↓evW_op, ↓evW_mkl, ↓evW_mkt, ↓evW_ite, ↓evW_and, ↓evW_or, ↓evW_call, ↓evW_comp, ↓evW_pop, ↓evW_chain, ↓hdQ_1, ↓contF_nx, ↓contF_rt, ↓atE_0, ↓atE_S, ↓borW_nil, ↓borW_vl, ↓borW_vrT, ↓borW_vrF, ↓takW_nil, ↓takW_vl, ↓takW_vr, ↓oneW_vl, ↓oneW_vr, ↓lendW_nil, ↓lendW_vl, ↓lendW_vr, ↓trW_vl, ↓trW_vr, ↓ifB_t, ↓ifB_f, ↓ifB_d, ↓ifB_n, ↓truW_bl, ↓truW_int, ↓truW_lst, ↓truW_tup, ↓truW_non, ↓opK_add, ↓opK_addT, ↓opK_addL, ↓opK_addS, ↓opK_sub, ↓opK_mul, ↓opK_mulT, ↓opK_mulL, ↓opK_fdiv, ↓opK_mod, ↓opK_pow, ↓opK_shl, ↓opK_band, ↓opK_neg, ↓opK_notB, ↓opK_not, ↓opK_lt, ↓opK_le, ↓opK_gt, ↓opK_ge, ↓opK_eq, ↓opK_ne, ↓opK_isN, ↓opK_notN, ↓opK_isB, ↓opK_notB2, ↓opK_lenL, ↓opK_lenT, ↓opK_lenC, ↓opK_lenS, ↓opK_listL, ↓opK_listT, ↓opK_tupL, ↓opK_tupT, ↓opK_int, ↓opK_intB, ↓opK_abs, ↓opK_max2, ↓opK_min2, ↓opK_isT, ↓opK_eqL, ↓opK_neL, ↓opK_eqT, ↓opK_neT, ↓opK_eqS, ↓opK_neS, ↓opK_eqB, ↓opK_neB, ↓opK_sumT, ↓opK_sumL, ↓opK_maxT, ↓opK_maxL, ↓opK_minT, ↓opK_minL, ↓opK_sortT, ↓opK_sortL, ↓opK_sortRT, ↓opK_sortRL, ↓opK_idxL, ↓opK_idxT, ↓opK_idxC, ↓opK_revL, ↓opK_revT, ↓opK_lrg1, ↓opK_lrg2, ↓opK_trg1, ↓opK_trg2, ↓itemW_0, ↓itemW_1, ↓itemW_2, ↓itemW_3, ↓itemsW_L, ↓itemsW_T, ↓itemsW_S, ↓itemsW_r1, ↓itemsW_r2, ↓bindW_nm, ↓bindW_nil, ↓bindW_cons, ↓back_vl, ↓back_vr, ↓back_vrN, ↓back_nil, ↓low_z, ↓low_11, ↓low_1, ↓awayE_z, ↓awayE_1, ↓awayE_2, ↓pairW, ↓intW, ↓exts1, ↓low_2, ↓low_any, ↓low_set, ↓low_len, ↓awayE_s, ↓itemsW_enL, ↓itemsW_enT, ↓itemsW_esL, ↓itemsW_esT, ↓itemsW_zTT, ↓itemsW_zLL, ↓itemsW_zTL, ↓itemsW_zLT, ↓itemsW_zST, ↓itemsW_zSL, ↓itemsW_enS, keepO, lvOf, lvO_int, lvO_bl, lvO_str, lvO_tup, lvO_lst, lvO_non, isTy, isNon, List.set_cons_zero, List.set_cons_succ, List.length_cons, List.length_nil, getE_cons0, getE_consS, Option.isNone_none, Option.isNone_some, Bool.false_eq_true, if_true, if_false, Bool.not_true, Bool.not_false, Nat.zero_add, Nat.reduceAdd, Nat.reduceLT, Nat.reduceSub, true_and, and_true, Nat.min_zero, Nat.zero_min, Nat.reduceBEq, Bool.and_true, Bool.true_and, decide_true, decide_false, outs_z, outs_S, outs_N, outs_0, Int.reduceLT, Int.reduceLE, Nat.reduceLeDiff, List.isEmpty_cons, List.isEmpty_nil, and_self, isLstAt_0, isLstAt_S, isAtomAt_0, isAtomAt_S, pOf_0, pOf_S, cmpLt, cmpLe, cmpGt, cmpGe]
    rfl
  rintro r rfl
  rw [exW_seq]
  have hen : enumL 0 (fs.map D.str) = (List.range fs.length).map fun i => .tup [natD i, .str (fs.getD i ⟨#[]⟩)] := by
    rw [enum_range, List.length_map]
    refine List.map_congr_left fun i hi => ?_
    have := List.mem_range.mp hi
    simp [this]
  simp only [↓exW_for, hen, ↓exW_skip, ↓exW_seq, ↓exW_setn, ↓exW_setc, ↓exW_setJ, ↓putW_at, ↓putE_L, ↓ixW_0, ↓ixW_1, ↓exW_aug, ↓exW_retv, ↓exW_ex, ↓exW_app, ↓exW_ext, ↓exW_ite, ↓exW_for, ↓exW_whl, ↓exW_ret_op, ↓exW_ret_lit, ↓exW_ret_call, ↓exW_ret_mkt, ↓exW_ret_mkl, ↓exW_ret_ite, ↓exW_ret_and, ↓exW_ret_or, ↓exW_ret_comp, ↓exW_ret_chain, ↓exW_ret_pop, ↓evW_lit, ↓evW_var, ↓evW_nil, ↓evW_cons, ↓evW_op, ↓evW_mkl, ↓evW_mkt, ↓evW_ite, ↓evW_and, ↓evW_or, ↓evW_call, ↓evW_comp, ↓evW_pop, ↓evW_chain, ↓hdQ_1, ↓contF_nx, ↓contF_rt, ↓atE_0, ↓atE_S, ↓borW_nil, ↓borW_vl, ↓borW_vrT, ↓borW_vrF, ↓takW_nil, ↓takW_vl, ↓takW_vr, ↓oneW_vl, ↓oneW_vr, ↓lendW_nil, ↓lendW_vl, ↓lendW_vr, ↓trW_vl, ↓trW_vr, ↓ifB_t, ↓ifB_f, ↓ifB_d, ↓ifB_n, ↓truW_bl, ↓truW_int, ↓truW_lst, ↓truW_tup, ↓truW_non, ↓opK_add, ↓opK_addT, ↓opK_addL, ↓opK_addS, ↓opK_sub, ↓opK_mul, ↓opK_mulT, ↓opK_mulL, ↓opK_fdiv, ↓opK_mod, ↓opK_pow, ↓opK_shl, ↓opK_band, ↓opK_neg, ↓opK_notB, ↓opK_not, ↓opK_lt, ↓opK_le, ↓opK_gt, ↓opK_ge, ↓opK_eq, ↓opK_ne, ↓opK_isN, ↓opK_notN, ↓opK_isB, ↓opK_notB2, ↓opK_lenL, ↓opK_lenT, ↓opK_lenC, ↓opK_lenS, ↓opK_listL, ↓opK_listT, ↓opK_tupL, ↓opK_tupT, ↓opK_int, ↓opK_intB, ↓opK_abs, ↓opK_max2, ↓opK_min2, ↓opK_isT, ↓opK_eqL, ↓opK_neL, ↓opK_eqT, ↓opK_neT, ↓opK_eqS, ↓opK_neS, ↓opK_eqB, ↓opK_neB, ↓opK_sumT, ↓opK_sumL, ↓opK_maxT, ↓opK_maxL, ↓opK_minT, ↓opK_minL, ↓opK_sortT, ↓opK_sortL, ↓opK_sortRT, ↓opK_sortRL, ↓opK_idxL, ↓opK_idxT, ↓opK_idxC, ↓opK_revL, ↓opK_revT, ↓opK_lrg1, ↓opK_lrg2, ↓opK_trg1, ↓opK_trg2, ↓itemW_0, ↓itemW_1, ↓itemW_2, ↓itemW_3, ↓itemsW_L, ↓itemsW_T, ↓itemsW_S, ↓itemsW_r1, ↓itemsW_r2, ↓bindW_nm, ↓bindW_nil, ↓bindW_cons, ↓back_vl, ↓back_vr, ↓back_vrN, ↓back_nil, ↓low_z, ↓low_11, ↓low_1, ↓awayE_z, ↓awayE_1, ↓awayE_2, ↓pairW, ↓intW, ↓exts1, ↓low_2, ↓low_any, ↓low_set, ↓low_len, ↓awayE_s, ↓itemsW_enL, ↓itemsW_enT, ↓itemsW_esL, ↓itemsW_esT, ↓itemsW_zTT, ↓itemsW_zLL, ↓itemsW_zTL, ↓itemsW_zLT, ↓itemsW_zST, ↓itemsW_zSL, ↓itemsW_enS, keepO, lvOf, lvO_int, lvO_bl, lvO_str, lvO_tup, lvO_lst, lvO_non, isTy, isNon, List.set_cons_zero, List.set_cons_succ, List.length_cons, List.length_nil, getE_cons0, getE_consS, Option.isNone_none, Option.isNone_some, Bool.false_eq_true, if_true, if_false, Bool.not_true, Bool.not_false, Nat.zero_add, Nat.reduceAdd, Nat.reduceLT, Nat.reduceSub, true_and, and_true, Nat.min_zero, Nat.zero_min, Nat.reduceBEq, Bool.and_true, Bool.true_and, decide_true, decide_false, outs_z, outs_S, outs_N, outs_0, Int.reduceLT, Int.reduceLE, Nat.reduceLeDiff, List.isEmpty_cons, List.isEmpty_nil, and_self, isLstAt_0, isLstAt_S, isAtomAt_0, isAtomAt_S, pOf_0, pOf_S, cmpLt, cmpLe, cmpGt, cmpGe]
  refine for_pre (fun (pre : List Nat) r => ∃ l x5 x6, (pre ≠ [] → l = 0) ∧ r = [(some (Ent.mk (bookD false fs d) 0 true)), (some (Ent.mk (strsD fs) 0 false)), (some (Ent.mk (.str (bindS false)) 0 false)), (some (Ent.mk d 0 false)), some ⟨.lst ((pre.flatMap fun i => (List.range (pgV (fs.getD i ⟨#[]⟩))).map fun q => (i, 1 + q)).map pairD), l + 1, false⟩, x5, x6, none]) (fun i => .tup [natD i, .str (fs.getD i ⟨#[]⟩)]) ⟨8, none, none, (fun h => absurd rfl h), rfl⟩ ?_ ?_
  · rintro pre k post r ep ⟨l, x5, x6, hl0, rfl⟩
    have hk : k < fs.length := List.mem_range.mp (by rw [ep]; simp)
    have hkm : (fs.getD k ⟨#[]⟩) ∈ fs := by
      rw [List.getD_eq_getElem?_getD, List.getElem?_eq_getElem hk]
      exact List.getElem_mem hk
    have hg : ∀ K, callW (callF T n) i [(.str (fs.getD k ⟨#[]⟩), 0)] K ↔ K (natD (pgV (fs.getD k ⟨#[]⟩))) 0 [some (.str (fs.getD k ⟨#[]⟩), 0)] := fun K => by
      obtain ⟨m, rfl⟩ : ∃ m, n = m + 2 := ⟨n - 2, by omega⟩
      exact callW_of (pages_ok h0 h1 (by have := hf _ hkm; omega))
    have hpg := pg_le (hf _ hkm)
    have hpre : pre.length + 1 ≤ fs.length := by have := congrArg List.length ep; simp at this; omega
    have hlen : (((pre.flatMap fun i => (List.range (pgV (fs.getD i ⟨#[]⟩))).map fun q => (i, 1 + q)).map pairD).length) + pgV (fs.getD k ⟨#[]⟩) ≤ 16777216 := by
      have e3 : (ordG fs).length = cntV fs := ordG_len fs
      unfold ordG at e3
      rw [ep, List.flatMap_append, List.flatMap_cons] at e3
      simp only [List.length_append, List.length_map, List.length_range] at e3 ⊢
      omega
    generalize hq : pgV (fs.getD k ⟨#[]⟩) = q at hpg hg hlen
    have hq1 : (q : Int) + 1 = ((q + 1 : Nat) : Int) := by omega
    have r1 : (rangeL 1 ((q + 1 : Nat) : Int)).map D.int = (List.range q).map fun x => natD (1 + x) := rng_from 1 (q + 1)
    rw [turn_exW]
    simp only [↓hg, hq1, r1, List.length_range, List.length_map, ↓exW_skip, ↓exW_seq, ↓exW_setn, ↓exW_setc, ↓exW_setJ, ↓putW_at, ↓putE_L, ↓ixW_0, ↓ixW_1, ↓exW_aug, ↓exW_retv, ↓exW_ex, ↓exW_app, ↓exW_ext, ↓exW_ite, ↓exW_for, ↓exW_whl, ↓exW_ret_op, ↓exW_ret_lit, ↓exW_ret_call, ↓exW_ret_mkt, ↓exW_ret_mkl, ↓exW_ret_ite, ↓exW_ret_and, ↓exW_ret_or, ↓exW_ret_comp, ↓exW_ret_chain, ↓exW_ret_pop, ↓evW_lit, ↓evW_var, ↓evW_nil, ↓evW_cons, ↓evW_op, ↓evW_mkl, ↓evW_mkt, ↓evW_ite, ↓evW_and, ↓evW_or, ↓evW_call, ↓evW_comp, ↓evW_pop, ↓evW_chain, ↓hdQ_1, ↓contF_nx, ↓contF_rt, ↓atE_0, ↓atE_S, ↓borW_nil, ↓borW_vl, ↓borW_vrT, ↓borW_vrF, ↓takW_nil, ↓takW_vl, ↓takW_vr, ↓oneW_vl, ↓oneW_vr, ↓lendW_nil, ↓lendW_vl, ↓lendW_vr, ↓trW_vl, ↓trW_vr, ↓ifB_t, ↓ifB_f, ↓ifB_d, ↓ifB_n, ↓truW_bl, ↓truW_int, ↓truW_lst, ↓truW_tup, ↓truW_non, ↓opK_add, ↓opK_addT, ↓opK_addL, ↓opK_addS, ↓opK_sub, ↓opK_mul, ↓opK_mulT, ↓opK_mulL, ↓opK_fdiv, ↓opK_mod, ↓opK_pow, ↓opK_shl, ↓opK_band, ↓opK_neg, ↓opK_notB, ↓opK_not, ↓opK_lt, ↓opK_le, ↓opK_gt, ↓opK_ge, ↓opK_eq, ↓opK_ne, ↓opK_isN, ↓opK_notN, ↓opK_isB, ↓opK_notB2, ↓opK_lenL, ↓opK_lenT, ↓opK_lenC, ↓opK_lenS, ↓opK_listL, ↓opK_listT, ↓opK_tupL, ↓opK_tupT, ↓opK_int, ↓opK_intB, ↓opK_abs, ↓opK_max2, ↓opK_min2, ↓opK_isT, ↓opK_eqL, ↓opK_neL, ↓opK_eqT, ↓opK_neT, ↓opK_eqS, ↓opK_neS, ↓opK_eqB, ↓opK_neB, ↓opK_sumT, ↓opK_sumL, ↓opK_maxT, ↓opK_maxL, ↓opK_minT, ↓opK_minL, ↓opK_sortT, ↓opK_sortL, ↓opK_sortRT, ↓opK_sortRL, ↓opK_idxL, ↓opK_idxT, ↓opK_idxC, ↓opK_revL, ↓opK_revT, ↓opK_lrg1, ↓opK_lrg2, ↓opK_trg1, ↓opK_trg2, ↓itemW_0, ↓itemW_1, ↓itemW_2, ↓itemW_3, ↓itemsW_L, ↓itemsW_T, ↓itemsW_S, ↓itemsW_r1, ↓itemsW_r2, ↓bindW_nm, ↓bindW_nil, ↓bindW_cons, ↓back_vl, ↓back_vr, ↓back_vrN, ↓back_nil, ↓low_z, ↓low_11, ↓low_1, ↓awayE_z, ↓awayE_1, ↓awayE_2, ↓pairW, ↓intW, ↓exts1, ↓low_2, ↓low_any, ↓low_set, ↓low_len, ↓awayE_s, ↓itemsW_enL, ↓itemsW_enT, ↓itemsW_esL, ↓itemsW_esT, ↓itemsW_zTT, ↓itemsW_zLL, ↓itemsW_zTL, ↓itemsW_zLT, ↓itemsW_zST, ↓itemsW_zSL, ↓itemsW_enS, keepO, lvOf, lvO_int, lvO_bl, lvO_str, lvO_tup, lvO_lst, lvO_non, isTy, isNon, List.set_cons_zero, List.set_cons_succ, List.length_cons, List.length_nil, getE_cons0, getE_consS, Option.isNone_none, Option.isNone_some, Bool.false_eq_true, if_true, if_false, Bool.not_true, Bool.not_false, Nat.zero_add, Nat.reduceAdd, Nat.reduceLT, Nat.reduceSub, true_and, and_true, Nat.min_zero, Nat.zero_min, Nat.reduceBEq, Bool.and_true, Bool.true_and, decide_true, decide_false, outs_z, outs_S, outs_N, outs_0, Int.reduceLT, Int.reduceLE, Nat.reduceLeDiff, List.isEmpty_cons, List.isEmpty_nil, and_self, isLstAt_0, isLstAt_S, isAtomAt_0, isAtomAt_S, pOf_0, pOf_S, cmpLt, cmpLe, cmpGt, cmpGe]
    refine ⟨by rw [okR_of2 (by omega), okR_of2 (by omega)]; rfl, ⟨sz_of (by omega), rfl⟩, ?_⟩
    refine comp_g (fun x => natD (1 + x)) (fun x => pairD (k, 1 + x)) (fun x hx => ?_) fun l2 r3 er => ?_
    · simp only [↓exW_skip, ↓exW_seq, ↓exW_setn, ↓exW_setc, ↓exW_setJ, ↓putW_at, ↓putE_L, ↓ixW_0, ↓ixW_1, ↓exW_aug, ↓exW_retv, ↓exW_ex, ↓exW_app, ↓exW_ext, ↓exW_ite, ↓exW_for, ↓exW_whl, ↓exW_ret_op, ↓exW_ret_lit, ↓exW_ret_call, ↓exW_ret_mkt, ↓exW_ret_mkl, ↓exW_ret_ite, ↓exW_ret_and, ↓exW_ret_or, ↓exW_ret_comp, ↓exW_ret_chain, ↓exW_ret_pop, ↓evW_lit, ↓evW_var, ↓evW_nil, ↓evW_cons, ↓evW_op, ↓evW_mkl, ↓evW_mkt, ↓evW_ite, ↓evW_and, ↓evW_or, ↓evW_call, ↓evW_comp, ↓evW_pop, ↓evW_chain, ↓hdQ_1, ↓contF_nx, ↓contF_rt, ↓atE_0, ↓atE_S, ↓borW_nil, ↓borW_vl, ↓borW_vrT, ↓borW_vrF, ↓takW_nil, ↓takW_vl, ↓takW_vr, ↓oneW_vl, ↓oneW_vr, ↓lendW_nil, ↓lendW_vl, ↓lendW_vr, ↓trW_vl, ↓trW_vr, ↓ifB_t, ↓ifB_f, ↓ifB_d, ↓ifB_n, ↓truW_bl, ↓truW_int, ↓truW_lst, ↓truW_tup, ↓truW_non, ↓opK_add, ↓opK_addT, ↓opK_addL, ↓opK_addS, ↓opK_sub, ↓opK_mul, ↓opK_mulT, ↓opK_mulL, ↓opK_fdiv, ↓opK_mod, ↓opK_pow, ↓opK_shl, ↓opK_band, ↓opK_neg, ↓opK_notB, ↓opK_not, ↓opK_lt, ↓opK_le, ↓opK_gt, ↓opK_ge, ↓opK_eq, ↓opK_ne, ↓opK_isN, ↓opK_notN, ↓opK_isB, ↓opK_notB2, ↓opK_lenL, ↓opK_lenT, ↓opK_lenC, ↓opK_lenS, ↓opK_listL, ↓opK_listT, ↓opK_tupL, ↓opK_tupT, ↓opK_int, ↓opK_intB, ↓opK_abs, ↓opK_max2, ↓opK_min2, ↓opK_isT, ↓opK_eqL, ↓opK_neL, ↓opK_eqT, ↓opK_neT, ↓opK_eqS, ↓opK_neS, ↓opK_eqB, ↓opK_neB, ↓opK_sumT, ↓opK_sumL, ↓opK_maxT, ↓opK_maxL, ↓opK_minT, ↓opK_minL, ↓opK_sortT, ↓opK_sortL, ↓opK_sortRT, ↓opK_sortRL, ↓opK_idxL, ↓opK_idxT, ↓opK_idxC, ↓opK_revL, ↓opK_revT, ↓opK_lrg1, ↓opK_lrg2, ↓opK_trg1, ↓opK_trg2, ↓itemW_0, ↓itemW_1, ↓itemW_2, ↓itemW_3, ↓itemsW_L, ↓itemsW_T, ↓itemsW_S, ↓itemsW_r1, ↓itemsW_r2, ↓bindW_nm, ↓bindW_nil, ↓bindW_cons, ↓back_vl, ↓back_vr, ↓back_vrN, ↓back_nil, ↓low_z, ↓low_11, ↓low_1, ↓awayE_z, ↓awayE_1, ↓awayE_2, ↓pairW, ↓intW, ↓exts1, ↓low_2, ↓low_any, ↓low_set, ↓low_len, ↓awayE_s, ↓itemsW_enL, ↓itemsW_enT, ↓itemsW_esL, ↓itemsW_esT, ↓itemsW_zTT, ↓itemsW_zLL, ↓itemsW_zTL, ↓itemsW_zLT, ↓itemsW_zST, ↓itemsW_zSL, ↓itemsW_enS, keepO, lvOf, lvO_int, lvO_bl, lvO_str, lvO_tup, lvO_lst, lvO_non, isTy, isNon, List.set_cons_zero, List.set_cons_succ, List.length_cons, List.length_nil, getE_cons0, getE_consS, Option.isNone_none, Option.isNone_some, Bool.false_eq_true, if_true, if_false, Bool.not_true, Bool.not_false, Nat.zero_add, Nat.reduceAdd, Nat.reduceLT, Nat.reduceSub, true_and, and_true, Nat.min_zero, Nat.zero_min, Nat.reduceBEq, Bool.and_true, Bool.true_and, decide_true, decide_false, outs_z, outs_S, outs_N, outs_0, Int.reduceLT, Int.reduceLE, Nat.reduceLeDiff, List.isEmpty_cons, List.isEmpty_nil, and_self, isLstAt_0, isLstAt_S, isAtomAt_0, isAtomAt_S, pOf_0, pOf_S, cmpLt, cmpLe, cmpGt, cmpGe]
      exact ⟨rfl, _, rfl⟩
    · rw [er, extW_at rfl]
      refine ⟨sz_of (by simpa using hlen), ?_⟩
      simp only [↓exW_skip, ↓exW_seq, ↓exW_setn, ↓exW_setc, ↓exW_setJ, ↓putW_at, ↓putE_L, ↓ixW_0, ↓ixW_1, ↓exW_aug, ↓exW_retv, ↓exW_ex, ↓exW_app, ↓exW_ext, ↓exW_ite, ↓exW_for, ↓exW_whl, ↓exW_ret_op, ↓exW_ret_lit, ↓exW_ret_call, ↓exW_ret_mkt, ↓exW_ret_mkl, ↓exW_ret_ite, ↓exW_ret_and, ↓exW_ret_or, ↓exW_ret_comp, ↓exW_ret_chain, ↓exW_ret_pop, ↓evW_lit, ↓evW_var, ↓evW_nil, ↓evW_cons, ↓evW_op, ↓evW_mkl, ↓evW_mkt, ↓evW_ite, ↓evW_and, ↓evW_or, ↓evW_call, ↓evW_comp, ↓evW_pop, ↓evW_chain, ↓hdQ_1, ↓contF_nx, ↓contF_rt, ↓atE_0, ↓atE_S, ↓borW_nil, ↓borW_vl, ↓borW_vrT, ↓borW_vrF, ↓takW_nil, ↓takW_vl, ↓takW_vr, ↓oneW_vl, ↓oneW_vr, ↓lendW_nil, ↓lendW_vl, ↓lendW_vr, ↓trW_vl, ↓trW_vr, ↓ifB_t, ↓ifB_f, ↓ifB_d, ↓ifB_n, ↓truW_bl, ↓truW_int, ↓truW_lst, ↓truW_tup, ↓truW_non, ↓opK_add, ↓opK_addT, ↓opK_addL, ↓opK_addS, ↓opK_sub, ↓opK_mul, ↓opK_mulT, ↓opK_mulL, ↓opK_fdiv, ↓opK_mod, ↓opK_pow, ↓opK_shl, ↓opK_band, ↓opK_neg, ↓opK_notB, ↓opK_not, ↓opK_lt, ↓opK_le, ↓opK_gt, ↓opK_ge, ↓opK_eq, ↓opK_ne, ↓opK_isN, ↓opK_notN, ↓opK_isB, ↓opK_notB2, ↓opK_lenL, ↓opK_lenT, ↓opK_lenC, ↓opK_lenS, ↓opK_listL, ↓opK_listT, ↓opK_tupL, ↓opK_tupT, ↓opK_int, ↓opK_intB, ↓opK_abs, ↓opK_max2, ↓opK_min2, ↓opK_isT, ↓opK_eqL, ↓opK_neL, ↓opK_eqT, ↓opK_neT, ↓opK_eqS, ↓opK_neS, ↓opK_eqB, ↓opK_neB, ↓opK_sumT, ↓opK_sumL, ↓opK_maxT, ↓opK_maxL, ↓opK_minT, ↓opK_minL, ↓opK_sortT, ↓opK_sortL, ↓opK_sortRT, ↓opK_sortRL, ↓opK_idxL, ↓opK_idxT, ↓opK_idxC, ↓opK_revL, ↓opK_revT, ↓opK_lrg1, ↓opK_lrg2, ↓opK_trg1, ↓opK_trg2, ↓itemW_0, ↓itemW_1, ↓itemW_2, ↓itemW_3, ↓itemsW_L, ↓itemsW_T, ↓itemsW_S, ↓itemsW_r1, ↓itemsW_r2, ↓bindW_nm, ↓bindW_nil, ↓bindW_cons, ↓back_vl, ↓back_vr, ↓back_vrN, ↓back_nil, ↓low_z, ↓low_11, ↓low_1, ↓awayE_z, ↓awayE_1, ↓awayE_2, ↓pairW, ↓intW, ↓exts1, ↓low_2, ↓low_any, ↓low_set, ↓low_len, ↓awayE_s, ↓itemsW_enL, ↓itemsW_enT, ↓itemsW_esL, ↓itemsW_esT, ↓itemsW_zTT, ↓itemsW_zLL, ↓itemsW_zTL, ↓itemsW_zLT, ↓itemsW_zST, ↓itemsW_zSL, ↓itemsW_enS, keepO, lvOf, lvO_int, lvO_bl, lvO_str, lvO_tup, lvO_lst, lvO_non, isTy, isNon, List.set_cons_zero, List.set_cons_succ, List.length_cons, List.length_nil, getE_cons0, getE_consS, Option.isNone_none, Option.isNone_some, Bool.false_eq_true, if_true, if_false, Bool.not_true, Bool.not_false, Nat.zero_add, Nat.reduceAdd, Nat.reduceLT, Nat.reduceSub, true_and, and_true, Nat.min_zero, Nat.zero_min, Nat.reduceBEq, Bool.and_true, Bool.true_and, decide_true, decide_false, outs_z, outs_S, outs_N, outs_0, Int.reduceLT, Int.reduceLE, Nat.reduceLeDiff, List.isEmpty_cons, List.isEmpty_nil, and_self, isLstAt_0, isLstAt_S, isAtomAt_0, isAtomAt_S, pOf_0, pOf_S, cmpLt, cmpLe, cmpGt, cmpGe]
      refine ⟨0, (some (Ent.mk (natD k) 0 false)), (some (Ent.mk (.str (fs.getD k ⟨#[]⟩)) 0 false)), fun _ => rfl, ?_⟩
      rw [List.flatMap_append, List.map_append]
      simp only [List.flatMap_cons, List.flatMap_nil, List.append_nil, List.map_map, hq]
      rfl
  · rintro r ⟨l, x5, x6, hl0, rfl⟩
    have := hl0 (fun e => by rw [List.range_eq_nil] at e; omega)
    subst this
    simp only [↓exW_skip, ↓exW_seq, ↓exW_setn, ↓exW_setc, ↓exW_setJ, ↓putW_at, ↓putE_L, ↓ixW_0, ↓ixW_1, ↓exW_aug, ↓exW_retv, ↓exW_ex, ↓exW_app, ↓exW_ext, ↓exW_ite, ↓exW_for, ↓exW_whl, ↓exW_ret_op, ↓exW_ret_lit, ↓exW_ret_call, ↓exW_ret_mkt, ↓exW_ret_mkl, ↓exW_ret_ite, ↓exW_ret_and, ↓exW_ret_or, ↓exW_ret_comp, ↓exW_ret_chain, ↓exW_ret_pop, ↓evW_lit, ↓evW_var, ↓evW_nil, ↓evW_cons, ↓evW_op, ↓evW_mkl, ↓evW_mkt, ↓evW_ite, ↓evW_and, ↓evW_or, ↓evW_call, ↓evW_comp, ↓evW_pop, ↓evW_chain, ↓hdQ_1, ↓contF_nx, ↓contF_rt, ↓atE_0, ↓atE_S, ↓borW_nil, ↓borW_vl, ↓borW_vrT, ↓borW_vrF, ↓takW_nil, ↓takW_vl, ↓takW_vr, ↓oneW_vl, ↓oneW_vr, ↓lendW_nil, ↓lendW_vl, ↓lendW_vr, ↓trW_vl, ↓trW_vr, ↓ifB_t, ↓ifB_f, ↓ifB_d, ↓ifB_n, ↓truW_bl, ↓truW_int, ↓truW_lst, ↓truW_tup, ↓truW_non, ↓opK_add, ↓opK_addT, ↓opK_addL, ↓opK_addS, ↓opK_sub, ↓opK_mul, ↓opK_mulT, ↓opK_mulL, ↓opK_fdiv, ↓opK_mod, ↓opK_pow, ↓opK_shl, ↓opK_band, ↓opK_neg, ↓opK_notB, ↓opK_not, ↓opK_lt, ↓opK_le, ↓opK_gt, ↓opK_ge, ↓opK_eq, ↓opK_ne, ↓opK_isN, ↓opK_notN, ↓opK_isB, ↓opK_notB2, ↓opK_lenL, ↓opK_lenT, ↓opK_lenC, ↓opK_lenS, ↓opK_listL, ↓opK_listT, ↓opK_tupL, ↓opK_tupT, ↓opK_int, ↓opK_intB, ↓opK_abs, ↓opK_max2, ↓opK_min2, ↓opK_isT, ↓opK_eqL, ↓opK_neL, ↓opK_eqT, ↓opK_neT, ↓opK_eqS, ↓opK_neS, ↓opK_eqB, ↓opK_neB, ↓opK_sumT, ↓opK_sumL, ↓opK_maxT, ↓opK_maxL, ↓opK_minT, ↓opK_minL, ↓opK_sortT, ↓opK_sortL, ↓opK_sortRT, ↓opK_sortRL, ↓opK_idxL, ↓opK_idxT, ↓opK_idxC, ↓opK_revL, ↓opK_revT, ↓opK_lrg1, ↓opK_lrg2, ↓opK_trg1, ↓opK_trg2, ↓itemW_0, ↓itemW_1, ↓itemW_2, ↓itemW_3, ↓itemsW_L, ↓itemsW_T, ↓itemsW_S, ↓itemsW_r1, ↓itemsW_r2, ↓bindW_nm, ↓bindW_nil, ↓bindW_cons, ↓back_vl, ↓back_vr, ↓back_vrN, ↓back_nil, ↓low_z, ↓low_11, ↓low_1, ↓awayE_z, ↓awayE_1, ↓awayE_2, ↓pairW, ↓intW, ↓exts1, ↓low_2, ↓low_any, ↓low_set, ↓low_len, ↓awayE_s, ↓itemsW_enL, ↓itemsW_enT, ↓itemsW_esL, ↓itemsW_esT, ↓itemsW_zTT, ↓itemsW_zLL, ↓itemsW_zTL, ↓itemsW_zLT, ↓itemsW_zST, ↓itemsW_zSL, ↓itemsW_enS, keepO, lvOf, lvO_int, lvO_bl, lvO_str, lvO_tup, lvO_lst, lvO_non, isTy, isNon, List.set_cons_zero, List.set_cons_succ, List.length_cons, List.length_nil, getE_cons0, getE_consS, Option.isNone_none, Option.isNone_some, Bool.false_eq_true, if_true, if_false, Bool.not_true, Bool.not_false, Nat.zero_add, Nat.reduceAdd, Nat.reduceLT, Nat.reduceSub, true_and, and_true, Nat.min_zero, Nat.zero_min, Nat.reduceBEq, Bool.and_true, Bool.true_and, decide_true, decide_false, outs_z, outs_S, outs_N, outs_0, Int.reduceLT, Int.reduceLE, Nat.reduceLeDiff, List.isEmpty_cons, List.isEmpty_nil, and_self, isLstAt_0, isLstAt_S, isAtomAt_0, isAtomAt_S, pOf_0, pOf_S, cmpLt, cmpLe, cmpGt, cmpGe]
    rfl
theorem order_ok (h0 : T[p]? = some ⟨1, 1, bPow⟩) (h1 : T[i]? = some ⟨1, 1, bPages p⟩) (h2 : T[j]? = some ⟨2, 6, bInset i j⟩) (h : T[o]? = some ⟨1, 8, bOrder i j⟩) {fs : List Str} (hf : ∀ f ∈ fs, f.length ≤ 10) (hl : fs.length ≤ 100)
    (h1l : 1 ≤ fs.length) (b : Bool) (d : D) {n : Nat} (hn : 3 + fs.length ≤ n) : ∃ L, callF T (n + 1) o [(bookD b fs d, 0)] = .val (.lst ((ordV b fs).map pairD), L + 1, [some (bookD b fs d, 0)]) := by
  cases b with
  | true =>
    obtain ⟨L, hi⟩ := inset_ok h0 h1 h2 hf hl fs.length 0 (by omega) (n - fs.length) (by omega)
    rw [show n - fs.length + fs.length = n by omega] at hi
    have hc : ∀ K, callW (callF T n) j [(strsD fs, 0), (.int 0, 0)] K ↔ K (.lst ((insV 0 (fs.drop 0)).map pairD)) (L + 1) [some (strsD fs, 0), some (natD 0, 0)] := fun K => callW_of hi
    refine ⟨L, call_eq h rfl ?_⟩
    have e : bindS true = ⟨#[105, 110, 115, 101, 116]⟩ := rfl
    have e2 : ((⟨#[105, 110, 115, 101, 116]⟩ : Str) == ⟨#[105, 110, 115, 101, 116]⟩) = true := by decide
    simp only [env0_1, bOrder, List.replicate, e, e2, ↓hc, ↓exW_skip, ↓exW_seq, ↓exW_setn, ↓exW_setc, ↓exW_setJ, ↓putW_at, ↓putE_L, ↓ixW_0, ↓ixW_1, ↓exW_aug, ↓exW_retv, ↓exW_ex, ↓exW_app, ↓exW_ext, ↓exW_ite, ↓exW_for, ↓exW_whl, ↓exW_ret_op, ↓exW_ret_lit, ↓exW_ret_call, ↓exW_ret_mkt, ↓exW_ret_mkl, ↓exW_ret_ite, ↓exW_ret_and, ↓exW_ret_or, ↓exW_ret_comp, ↓exW_ret_chain, ↓exW_ret_pop, ↓evW_lit, ↓evW_var, ↓evW_nil, ↓evW_cons, ↓evW_op, ↓evW_mkl, ↓evW_mkt, ↓evW_ite, ↓evW_and, ↓evW_or, ↓evW_call, ↓evW_comp, ↓evW_pop, ↓evW_chain, ↓hdQ_1, ↓contF_nx, ↓contF_rt, ↓atE_0, ↓atE_S, ↓borW_nil, ↓borW_vl, ↓borW_vrT, ↓borW_vrF, ↓takW_nil, ↓takW_vl, ↓takW_vr, ↓oneW_vl, ↓oneW_vr, ↓lendW_nil, ↓lendW_vl, ↓lendW_vr, ↓trW_vl, ↓trW_vr, ↓ifB_t, ↓ifB_f, ↓ifB_d, ↓ifB_n, ↓truW_bl, ↓truW_int, ↓truW_lst, ↓truW_tup, ↓truW_non, ↓opK_add, ↓opK_addT, ↓opK_addL, ↓opK_addS, ↓opK_sub, ↓opK_mul, ↓opK_mulT, ↓opK_mulL, ↓opK_fdiv, ↓opK_mod, ↓opK_pow, ↓opK_shl, ↓opK_band, ↓opK_neg, ↓opK_notB, ↓opK_not, ↓opK_lt, ↓opK_le, ↓opK_gt, ↓opK_ge, ↓opK_eq, ↓opK_ne, ↓opK_isN, ↓opK_notN, ↓opK_isB, ↓opK_notB2, ↓opK_lenL, ↓opK_lenT, ↓opK_lenC, ↓opK_lenS, ↓opK_listL, ↓opK_listT, ↓opK_tupL, ↓opK_tupT, ↓opK_int, ↓opK_intB, ↓opK_abs, ↓opK_max2, ↓opK_min2, ↓opK_isT, ↓opK_eqL, ↓opK_neL, ↓opK_eqT, ↓opK_neT, ↓opK_eqS, ↓opK_neS, ↓opK_eqB, ↓opK_neB, ↓opK_sumT, ↓opK_sumL, ↓opK_maxT, ↓opK_maxL, ↓opK_minT, ↓opK_minL, ↓opK_sortT, ↓opK_sortL, ↓opK_sortRT, ↓opK_sortRL, ↓opK_idxL, ↓opK_idxT, ↓opK_idxC, ↓opK_revL, ↓opK_revT, ↓opK_lrg1, ↓opK_lrg2, ↓opK_trg1, ↓opK_trg2, ↓itemW_0, ↓itemW_1, ↓itemW_2, ↓itemW_3, ↓itemsW_L, ↓itemsW_T, ↓itemsW_S, ↓itemsW_r1, ↓itemsW_r2, ↓bindW_nm, ↓bindW_nil, ↓bindW_cons, ↓back_vl, ↓back_vr, ↓back_vrN, ↓back_nil, ↓low_z, ↓low_11, ↓low_1, ↓awayE_z, ↓awayE_1, ↓awayE_2, ↓pairW, ↓intW, ↓exts1, ↓low_2, ↓low_any, ↓low_set, ↓low_len, ↓awayE_s, ↓itemsW_enL, ↓itemsW_enT, ↓itemsW_esL, ↓itemsW_esT, ↓itemsW_zTT, ↓itemsW_zLL, ↓itemsW_zTL, ↓itemsW_zLT, ↓itemsW_zST, ↓itemsW_zSL, ↓itemsW_enS, keepO, lvOf, lvO_int, lvO_bl, lvO_str, lvO_tup, lvO_lst, lvO_non, isTy, isNon, List.set_cons_zero, List.set_cons_succ, List.length_cons, List.length_nil, getE_cons0, getE_consS, Option.isNone_none, Option.isNone_some, Bool.false_eq_true, if_true, if_false, Bool.not_true, Bool.not_false, Nat.zero_add, Nat.reduceAdd, Nat.reduceLT, Nat.reduceSub, true_and, and_true, Nat.min_zero, Nat.zero_min, Nat.reduceBEq, Bool.and_true, Bool.true_and, decide_true, decide_false, outs_z, outs_S, outs_N, outs_0, Int.reduceLT, Int.reduceLE, Nat.reduceLeDiff, List.isEmpty_cons, List.isEmpty_nil, and_self, isLstAt_0, isLstAt_S, isAtomAt_0, isAtomAt_S, pOf_0, pOf_S, cmpLt, cmpLe, cmpGt, cmpGe]
    rfl
  | false => exact ⟨0, order_gath h0 h1 h hf hl h1l d (by omega)⟩
theorem locate_ok (h0 : T[p]? = some ⟨1, 1, bPow⟩) (h1 : T[i]? = some ⟨1, 1, bPages p⟩) (h2 : T[j]? = some ⟨2, 6, bInset i j⟩) (h3 : T[o]? = some ⟨1, 8, bOrder i j⟩) {c : Nat} (h : T[c]? = some ⟨2, 2, bLocate o⟩) {fs : List Str} (hf : ∀ f ∈ fs, f.length ≤ 10) (hl : fs.length ≤ 100)
    (h1l : 1 ≤ fs.length) (b : Bool) (d : D) {n : Nat} (hn : 3 + fs.length ≤ n) {m : Nat} (hm : m < cntV fs) : callF T (n + 2) c [(bookD b fs d, 0), (.int ((m : Int) + 1), 0)] = .val (pairD ((ordV b fs).getD m (0, 0)), 0, [some (bookD b fs d, 0), some (.int ((m : Int) + 1), 0)]) := by
  obtain ⟨L, ho⟩ := order_ok h0 h1 h2 h3 hf hl h1l b d hn
  have hc : ∀ K, callW (callF T (n + 1)) o [(bookD b fs d, 0)] K ↔ K (.lst ((ordV b fs).map pairD)) (L + 1) [some (bookD b fs d, 0)] := fun K => callW_of ho
  refine call_eq h rfl ?_
  have e : ((m : Int) + 1) - 1 = (m : Int) := by omega
  have hi : ∀ K, itemW ((ordV b fs).map pairD) (m : Int) K ↔ K (pairD ((ordV b fs).getD m (0, 0))) := fun K => itemW_at (by
    have := ord_len b fs
    rw [List.getElem?_map, List.getElem?_eq_getElem (by omega)]
    simp [List.getD_eq_getElem?_getD, show m < (ordV b fs).length by omega])
  simp only [env0_2, bLocate, List.replicate, ↓hc, e, ↓hi, ↓exW_skip, ↓exW_seq, ↓exW_setn, ↓exW_setc, ↓exW_setJ, ↓putW_at, ↓putE_L, ↓ixW_0, ↓ixW_1, ↓exW_aug, ↓exW_retv, ↓exW_ex, ↓exW_app, ↓exW_ext, ↓exW_ite, ↓exW_for, ↓exW_whl, ↓exW_ret_op, ↓exW_ret_lit, ↓exW_ret_call, ↓exW_ret_mkt, ↓exW_ret_mkl, ↓exW_ret_ite, ↓exW_ret_and, ↓exW_ret_or, ↓exW_ret_comp, ↓exW_ret_chain, ↓exW_ret_pop, ↓evW_lit, ↓evW_var, ↓evW_nil, ↓evW_cons, ↓evW_op, ↓evW_mkl, ↓evW_mkt, ↓evW_ite, ↓evW_and, ↓evW_or, ↓evW_call, ↓evW_comp, ↓evW_pop, ↓evW_chain, ↓hdQ_1, ↓contF_nx, ↓contF_rt, ↓atE_0, ↓atE_S, ↓borW_nil, ↓borW_vl, ↓borW_vrT, ↓borW_vrF, ↓takW_nil, ↓takW_vl, ↓takW_vr, ↓oneW_vl, ↓oneW_vr, ↓lendW_nil, ↓lendW_vl, ↓lendW_vr, ↓trW_vl, ↓trW_vr, ↓ifB_t, ↓ifB_f, ↓ifB_d, ↓ifB_n, ↓truW_bl, ↓truW_int, ↓truW_lst, ↓truW_tup, ↓truW_non, ↓opK_add, ↓opK_addT, ↓opK_addL, ↓opK_addS, ↓opK_sub, ↓opK_mul, ↓opK_mulT, ↓opK_mulL, ↓opK_fdiv, ↓opK_mod, ↓opK_pow, ↓opK_shl, ↓opK_band, ↓opK_neg, ↓opK_notB, ↓opK_not, ↓opK_lt, ↓opK_le, ↓opK_gt, ↓opK_ge, ↓opK_eq, ↓opK_ne, ↓opK_isN, ↓opK_notN, ↓opK_isB, ↓opK_notB2, ↓opK_lenL, ↓opK_lenT, ↓opK_lenC, ↓opK_lenS, ↓opK_listL, ↓opK_listT, ↓opK_tupL, ↓opK_tupT, ↓opK_int, ↓opK_intB, ↓opK_abs, ↓opK_max2, ↓opK_min2, ↓opK_isT, ↓opK_eqL, ↓opK_neL, ↓opK_eqT, ↓opK_neT, ↓opK_eqS, ↓opK_neS, ↓opK_eqB, ↓opK_neB, ↓opK_sumT, ↓opK_sumL, ↓opK_maxT, ↓opK_maxL, ↓opK_minT, ↓opK_minL, ↓opK_sortT, ↓opK_sortL, ↓opK_sortRT, ↓opK_sortRL, ↓opK_idxL, ↓opK_idxT, ↓opK_idxC, ↓opK_revL, ↓opK_revT, ↓opK_lrg1, ↓opK_lrg2, ↓opK_trg1, ↓opK_trg2, ↓itemW_0, ↓itemW_1, ↓itemW_2, ↓itemW_3, ↓itemsW_L, ↓itemsW_T, ↓itemsW_S, ↓itemsW_r1, ↓itemsW_r2, ↓bindW_nm, ↓bindW_nil, ↓bindW_cons, ↓back_vl, ↓back_vr, ↓back_vrN, ↓back_nil, ↓low_z, ↓low_11, ↓low_1, ↓awayE_z, ↓awayE_1, ↓awayE_2, ↓pairW, ↓intW, ↓exts1, ↓low_2, ↓low_any, ↓low_set, ↓low_len, ↓awayE_s, ↓itemsW_enL, ↓itemsW_enT, ↓itemsW_esL, ↓itemsW_esT, ↓itemsW_zTT, ↓itemsW_zLL, ↓itemsW_zTL, ↓itemsW_zLT, ↓itemsW_zST, ↓itemsW_zSL, ↓itemsW_enS, keepO, lvOf, lvO_int, lvO_bl, lvO_str, lvO_tup, lvO_lst, lvO_non, isTy, isNon, List.set_cons_zero, List.set_cons_succ, List.length_cons, List.length_nil, getE_cons0, getE_consS, Option.isNone_none, Option.isNone_some, Bool.false_eq_true, if_true, if_false, Bool.not_true, Bool.not_false, Nat.zero_add, Nat.reduceAdd, Nat.reduceLT, Nat.reduceSub, true_and, and_true, Nat.min_zero, Nat.zero_min, Nat.reduceBEq, Bool.and_true, Bool.true_and, decide_true, decide_false, outs_z, outs_S, outs_N, outs_0, Int.reduceLT, Int.reduceLE, Nat.reduceLeDiff, List.isEmpty_cons, List.isEmpty_nil, and_self, isLstAt_0, isLstAt_S, isAtomAt_0, isAtomAt_S, pOf_0, pOf_S, cmpLt, cmpLe, cmpGt, cmpGe]
theorem locate_gath (h0 : T[p]? = some ⟨1, 1, bPow⟩) (h1 : T[i]? = some ⟨1, 1, bPages p⟩) (h3 : T[o]? = some ⟨1, 8, bOrder i j⟩) {c : Nat} (h : T[c]? = some ⟨2, 2, bLocate o⟩) {fs : List Str} (hf : ∀ f ∈ fs, f.length ≤ 10) (hl : fs.length ≤ 100)
    (h1l : 1 ≤ fs.length) (d : D) {n : Nat} (hn : 2 ≤ n) {m : Nat} (hm : m < cntV fs) : callF T (n + 2) c [(bookD false fs d, 0), (natD (1 + m), 0)] = .val (pairD ((ordV false fs).getD m (0, 0)), 0, [some (bookD false fs d, 0), some (natD (1 + m), 0)]) := by
  have ho := order_gath h0 h1 h3 hf hl h1l d hn
  have hc : ∀ K, callW (callF T (n + 1)) o [(bookD false fs d, 0)] K ↔ K (.lst ((ordV false fs).map pairD)) (0 + 1) [some (bookD false fs d, 0)] := fun K => callW_of ho
  refine call_eq h rfl ?_
  have e : ((1 + m : Nat) : Int) - 1 = (m : Int) := by omega
  have hi : ∀ K, itemW ((ordV false fs).map pairD) (m : Int) K ↔ K (pairD ((ordV false fs).getD m (0, 0))) := fun K => itemW_at (by
    have := ord_len false fs
    rw [List.getElem?_map, List.getElem?_eq_getElem (by omega)]
    simp [List.getD_eq_getElem?_getD, show m < (ordV false fs).length by omega])
  simp only [env0_2, bLocate, List.replicate, ↓hc, e, ↓hi, ↓exW_skip, ↓exW_seq, ↓exW_setn, ↓exW_setc, ↓exW_setJ, ↓putW_at, ↓putE_L, ↓ixW_0, ↓ixW_1, ↓exW_aug, ↓exW_retv, ↓exW_ex, ↓exW_app, ↓exW_ext, ↓exW_ite, ↓exW_for, ↓exW_whl, ↓exW_ret_op, ↓exW_ret_lit, ↓exW_ret_call, ↓exW_ret_mkt, ↓exW_ret_mkl, ↓exW_ret_ite, ↓exW_ret_and, ↓exW_ret_or, ↓exW_ret_comp, ↓exW_ret_chain, ↓exW_ret_pop, ↓evW_lit, ↓evW_var, ↓evW_nil, ↓evW_cons, ↓evW_op, ↓evW_mkl, ↓evW_mkt, ↓evW_ite, ↓evW_and, ↓evW_or, ↓evW_call, ↓evW_comp, ↓evW_pop, ↓evW_chain, ↓hdQ_1, ↓contF_nx, ↓contF_rt, ↓atE_0, ↓atE_S, ↓borW_nil, ↓borW_vl, ↓borW_vrT, ↓borW_vrF, ↓takW_nil, ↓takW_vl, ↓takW_vr, ↓oneW_vl, ↓oneW_vr, ↓lendW_nil, ↓lendW_vl, ↓lendW_vr, ↓trW_vl, ↓trW_vr, ↓ifB_t, ↓ifB_f, ↓ifB_d, ↓ifB_n, ↓truW_bl, ↓truW_int, ↓truW_lst, ↓truW_tup, ↓truW_non, ↓opK_add, ↓opK_addT, ↓opK_addL, ↓opK_addS, ↓opK_sub, ↓opK_mul, ↓opK_mulT, ↓opK_mulL, ↓opK_fdiv, ↓opK_mod, ↓opK_pow, ↓opK_shl, ↓opK_band, ↓opK_neg, ↓opK_notB, ↓opK_not, ↓opK_lt, ↓opK_le, ↓opK_gt, ↓opK_ge, ↓opK_eq, ↓opK_ne, ↓opK_isN, ↓opK_notN, ↓opK_isB, ↓opK_notB2, ↓opK_lenL, ↓opK_lenT, ↓opK_lenC, ↓opK_lenS, ↓opK_listL, ↓opK_listT, ↓opK_tupL, ↓opK_tupT, ↓opK_int, ↓opK_intB, ↓opK_abs, ↓opK_max2, ↓opK_min2, ↓opK_isT, ↓opK_eqL, ↓opK_neL, ↓opK_eqT, ↓opK_neT, ↓opK_eqS, ↓opK_neS, ↓opK_eqB, ↓opK_neB, ↓opK_sumT, ↓opK_sumL, ↓opK_maxT, ↓opK_maxL, ↓opK_minT, ↓opK_minL, ↓opK_sortT, ↓opK_sortL, ↓opK_sortRT, ↓opK_sortRL, ↓opK_idxL, ↓opK_idxT, ↓opK_idxC, ↓opK_revL, ↓opK_revT, ↓opK_lrg1, ↓opK_lrg2, ↓opK_trg1, ↓opK_trg2, ↓itemW_0, ↓itemW_1, ↓itemW_2, ↓itemW_3, ↓itemsW_L, ↓itemsW_T, ↓itemsW_S, ↓itemsW_r1, ↓itemsW_r2, ↓bindW_nm, ↓bindW_nil, ↓bindW_cons, ↓back_vl, ↓back_vr, ↓back_vrN, ↓back_nil, ↓low_z, ↓low_11, ↓low_1, ↓awayE_z, ↓awayE_1, ↓awayE_2, ↓pairW, ↓intW, ↓exts1, ↓low_2, ↓low_any, ↓low_set, ↓low_len, ↓awayE_s, ↓itemsW_enL, ↓itemsW_enT, ↓itemsW_esL, ↓itemsW_esT, ↓itemsW_zTT, ↓itemsW_zLL, ↓itemsW_zTL, ↓itemsW_zLT, ↓itemsW_zST, ↓itemsW_zSL, ↓itemsW_enS, keepO, lvOf, lvO_int, lvO_bl, lvO_str, lvO_tup, lvO_lst, lvO_non, isTy, isNon, List.set_cons_zero, List.set_cons_succ, List.length_cons, List.length_nil, getE_cons0, getE_consS, Option.isNone_none, Option.isNone_some, Bool.false_eq_true, if_true, if_false, Bool.not_true, Bool.not_false, Nat.zero_add, Nat.reduceAdd, Nat.reduceLT, Nat.reduceSub, true_and, and_true, Nat.min_zero, Nat.zero_min, Nat.reduceBEq, Bool.and_true, Bool.true_and, decide_true, decide_false, outs_z, outs_S, outs_N, outs_0, Int.reduceLT, Int.reduceLE, Nat.reduceLeDiff, List.isEmpty_cons, List.isEmpty_nil, and_self, isLstAt_0, isLstAt_S, isAtomAt_0, isAtomAt_S, pOf_0, pOf_S, cmpLt, cmpLe, cmpGt, cmpGe]
end
end Bk
/-! Bk: the law's own books. -/
namespace Bk
open L2 PyProof PyProof.Rows PySem.Spec PySem
/-- a text of its signs -/
def strC (cs : List Nat) : Str := ⟨cs.toArray⟩
theorem strC_len (cs : List Nat) : (strC cs).length = cs.length := rfl
theorem strC_app (a b : List Nat) : strC a ++ strC b = strC (a ++ b) := by
  show Str.mk (a.toArray ++ b.toArray) = Str.mk (a ++ b).toArray
  rw [List.append_toArray]
theorem strC_take (a : List Nat) (m : Nat) : takeS (strC a) m = strC (a.take m) := rfl
theorem strC_cps (a : List Nat) : (strC a).cps.toList = a := rfl
theorem glue_to : ∀ (ps : List Nat) (c : Array Nat), (ps.map chS).foldl (fun acc p => acc ++ (#[] : Array Nat) ++ p.cps) c = c ++ ps.toArray
  | [], c => by simp
  | p :: ps, c => by
    rw [List.map_cons, List.foldl_cons, glue_to ps]
    show c ++ #[] ++ #[p] ++ ps.toArray = c ++ (p :: ps).toArray
    apply Array.ext'
    simp
theorem glue_eq (cs : List Nat) : Txt.join ⟨#[]⟩ (cs.map chS) = strC cs := by
  cases cs with
  | nil => rfl
  | cons c cs =>
    have := glue_to cs #[c]
    exact congrArg Str.mk (this.trans (by apply Array.ext'; simp))
def bLawPages : S := (.ret (.op .mul (.cons (.lit (.int 2)) (.cons (.op .idx (.cons (.mkl (.cons (.lit (.int 1)) (.cons (.lit (.int 2)) (.cons (.lit (.int 4)) (.cons (.lit (.int 8)) (.cons (.lit (.int 16)) (.cons (.lit (.int 32)) .nil))))))) (.cons (.op .len (.cons (.var 0) .nil)) .nil))) .nil))))
def bLawBook (w p : Nat) : S := (.seq (.set (.nm 1) (.op .idx (.cons (.mkl (.cons (.lit (.str ⟨#[103, 97, 116, 104, 101, 114, 101, 100]⟩)) (.cons (.lit (.str ⟨#[105, 110, 115, 101, 116]⟩)) .nil))) (.cons (.call w (.cons (.var 0) (.cons (.lit (.int 2)) .nil))) .nil))))
  (.seq (.set (.nm 2) (.mkl .nil))
  (.seq (.for (.nm 3) .range (.cons (.op .add (.cons (.lit (.int 1)) (.cons (.call w (.cons (.var 0) (.cons (.lit (.int 4)) .nil))) .nil))) .nil)
  (.seq (.set (.nm 5) (.op .add (.cons (.op .join (.cons (.lit (.str ⟨#[]⟩)) (.cons (.comp [4] .range (.cons (.call w (.cons (.var 0) (.cons (.lit (.int 3)) .nil))) .nil) (.nm 4) (.lit (.bl true)) (.op .idx (.cons (.lit (.str ⟨#[76, 82, 84, 66]⟩)) (.cons (.call w (.cons (.var 0) (.cons (.lit (.int 4)) .nil))) .nil)))) .nil))) (.cons (.op .idx (.cons (.lit (.str ⟨#[76, 82, 84, 66]⟩)) (.cons (.call w (.cons (.var 0) (.cons (.lit (.int 4)) .nil))) .nil))) .nil))))
  (.seq (.ite (.op .eq (.cons (.var 1) (.cons (.lit (.str ⟨#[105, 110, 115, 101, 116]⟩)) .nil))) (.set (.nm 5) (.op .add (.cons (.op (.slL false true) (.cons (.var 5) (.cons (.op .neg (.cons (.lit (.int 1)) .nil)) .nil))) (.cons (.lit (.str ⟨#[76]⟩)) .nil)))) .skip)
  (.app 2 (.var 5)))))
  (.seq (.set (.nm 6) (.op .sum (.cons (.comp [5] .seq (.var 2) (.nm 5) (.lit (.bl true)) (.call p (.cons (.var 5) .nil))) .nil)))
  (.seq (.set (.nm 7) (.op .idx (.cons (.mkl (.cons (.var 6) (.cons (.op .add (.cons (.lit (.int 1)) (.cons (.call w (.cons (.var 0) (.cons (.var 6) .nil))) .nil))) (.cons (.op .max2 (.cons (.lit (.int 1)) (.cons (.op .sub (.cons (.var 6) (.cons (.call w (.cons (.var 0) (.cons (.lit (.int 4)) .nil))) .nil))) .nil))) .nil)))) (.cons (.call w (.cons (.var 0) (.cons (.lit (.int 3)) .nil))) .nil))))
  (.ret (.mkt (.cons (.op .tuple (.cons (.var 2) .nil)) (.cons (.var 1) (.cons (.var 7) .nil))))))))))
section
variable {T : List Fn} {n w p o : Nat}
theorem lawpages_ok (h : T[p]? = some ⟨1, 1, bLawPages⟩) {f : Str} (hf : f.length ≤ 5) : callF T (n + 1) p [(.str f, 0)] = .val (natD (pgV f), 0, [some (.str f, 0)]) := by
  refine call_eq h rfl ?_
  have hi : ∀ K, itemW [D.int 1, .int 2, .int 4, .int 8, .int 16, .int 32] (f.length : Int) K ↔ K (natD (2 ^ f.length)) := fun K => itemW_at (by
    generalize f.length = m at hf
    have : m = 0 ∨ m = 1 ∨ m = 2 ∨ m = 3 ∨ m = 4 ∨ m = 5 := by omega
    rcases this with rfl | rfl | rfl | rfl | rfl | rfl <;> rfl)
  have e : (2 : Int) * ((2 ^ f.length : Nat) : Int) = ((pgV f : Nat) : Int) := by unfold pgV; omega
  simp only [env0_1, bLawPages, List.replicate, ↓hi, e, ↓exW_skip, ↓exW_seq, ↓exW_setn, ↓exW_setc, ↓exW_setJ, ↓putW_at, ↓putE_L, ↓ixW_0, ↓ixW_1, ↓exW_aug, ↓exW_retv, ↓exW_ex, ↓exW_app, ↓exW_ext, ↓exW_ite, ↓exW_for, ↓exW_whl, ↓exW_ret_op, ↓exW_ret_lit, ↓exW_ret_call, ↓exW_ret_mkt, ↓exW_ret_mkl, ↓exW_ret_ite, ↓exW_ret_and, ↓exW_ret_or, ↓exW_ret_comp, ↓exW_ret_chain, ↓exW_ret_pop, ↓evW_lit, ↓evW_var, ↓evW_nil, ↓evW_cons, ↓evW_op, ↓evW_mkl, ↓evW_mkt, ↓evW_ite, ↓evW_and, ↓evW_or, ↓evW_call, ↓evW_comp, ↓evW_pop, ↓evW_chain, ↓hdQ_1, ↓contF_nx, ↓contF_rt, ↓atE_0, ↓atE_S, ↓borW_nil, ↓borW_vl, ↓borW_vrT, ↓borW_vrF, ↓takW_nil, ↓takW_vl, ↓takW_vr, ↓oneW_vl, ↓oneW_vr, ↓lendW_nil, ↓lendW_vl, ↓lendW_vr, ↓trW_vl, ↓trW_vr, ↓ifB_t, ↓ifB_f, ↓ifB_d, ↓ifB_n, ↓truW_bl, ↓truW_int, ↓truW_lst, ↓truW_tup, ↓truW_non, ↓opK_add, ↓opK_addT, ↓opK_addL, ↓opK_addS, ↓opK_sub, ↓opK_mul, ↓opK_mulT, ↓opK_mulL, ↓opK_fdiv, ↓opK_mod, ↓opK_pow, ↓opK_shl, ↓opK_band, ↓opK_neg, ↓opK_notB, ↓opK_not, ↓opK_lt, ↓opK_le, ↓opK_gt, ↓opK_ge, ↓opK_eq, ↓opK_ne, ↓opK_isN, ↓opK_notN, ↓opK_isB, ↓opK_notB2, ↓opK_lenL, ↓opK_lenT, ↓opK_lenC, ↓opK_lenS, ↓opK_listL, ↓opK_listT, ↓opK_tupL, ↓opK_tupT, ↓opK_int, ↓opK_intB, ↓opK_abs, ↓opK_max2, ↓opK_min2, ↓opK_isT, ↓opK_eqL, ↓opK_neL, ↓opK_eqT, ↓opK_neT, ↓opK_eqS, ↓opK_neS, ↓opK_eqB, ↓opK_neB, ↓opK_sumT, ↓opK_sumL, ↓opK_maxT, ↓opK_maxL, ↓opK_minT, ↓opK_minL, ↓opK_sortT, ↓opK_sortL, ↓opK_sortRT, ↓opK_sortRL, ↓opK_idxL, ↓opK_idxT, ↓opK_idxC, ↓opK_revL, ↓opK_revT, ↓opK_lrg1, ↓opK_lrg2, ↓opK_trg1, ↓opK_trg2, ↓itemW_0, ↓itemW_1, ↓itemW_2, ↓itemW_3, ↓itemsW_L, ↓itemsW_T, ↓itemsW_S, ↓itemsW_r1, ↓itemsW_r2, ↓bindW_nm, ↓bindW_nil, ↓bindW_cons, ↓back_vl, ↓back_vr, ↓back_vrN, ↓back_nil, ↓low_z, ↓low_11, ↓low_1, ↓awayE_z, ↓awayE_1, ↓awayE_2, ↓pairW, ↓intW, ↓exts1, ↓low_2, ↓low_any, ↓low_set, ↓low_len, ↓awayE_s, ↓itemsW_enL, ↓itemsW_enT, ↓itemsW_esL, ↓itemsW_esT, ↓itemsW_zTT, ↓itemsW_zLL, ↓itemsW_zTL, ↓itemsW_zLT, ↓itemsW_zST, ↓itemsW_zSL, ↓itemsW_enS, ↓opK_mulS, ↓opK_imul, ↓opK_idxS, ↓opK_strI, ↓opK_strS, ↓opK_takeS, ↓opK_dropS, ↓opK_initS, ↓opK_inC, ↓opK_niC, keepO, lvOf, lvO_int, lvO_bl, lvO_str, lvO_tup, lvO_lst, lvO_non, isTy, isNon, List.set_cons_zero, List.set_cons_succ, List.length_cons, List.length_nil, getE_cons0, getE_consS, Option.isNone_none, Option.isNone_some, Bool.false_eq_true, if_true, if_false, Bool.not_true, Bool.not_false, Nat.zero_add, Nat.reduceAdd, Nat.reduceLT, Nat.reduceSub, true_and, and_true, Nat.min_zero, Nat.zero_min, Nat.reduceBEq, Bool.and_true, Bool.true_and, decide_true, decide_false, outs_z, outs_S, outs_N, outs_0, Int.reduceLT, Int.reduceLE, Nat.reduceLeDiff, List.isEmpty_cons, List.isEmpty_nil, and_self, isLstAt_0, isLstAt_S, isAtomAt_0, isAtomAt_S, pOf_0, pOf_S, cmpLt, cmpLe, cmpGt, cmpGe]
  (repeat' apply And.intro) <;> try (first | (with_reducible rfl) | trivial | omega | exact okR_of2 (by omega) | exact sz_of (by simp; done) | exact sz_of (by simp; omega) | (rw [okR_of2 (by omega), sz_of (by simp; omega)]; done) | decide)
  all_goals exact sz_of (by omega)
/-- what a folding of the law's books is -/
def FoldOk (b : Bool) (cs : List Nat) : Prop := (1 ≤ cs.length ∧ cs.length ≤ 3) ∧ (∀ c ∈ cs, c ∈ [76, 82, 84, 66]) ∧ (b = true → cs.getLast? = some 76)
theorem lawbook_ok (hdraw : T[w]? = some ⟨2, 3, bDraw⟩) (hp : T[p]? = some ⟨1, 1, bLawPages⟩) (h : T[o]? = some ⟨1, 8, bLawBook w p⟩) (ds : List Int) (at_ : Nat) :
    ∃ (b : Bool) (fs : List (List Nat)) (pg at' : Nat), callF T (n + 2) o [(Box ds at_, 1)] = .val (bookD b (fs.map strC) (natD pg), 0, [some (Box ds at', 1)]) ∧ (1 ≤ fs.length ∧ fs.length ≤ 4) ∧ (∀ cs ∈ fs, FoldOk b cs) ∧ 1 ≤ pg ∧ pg ≤ cntV (fs.map strC) := by
  have goal : callW (callF T (n + 2)) o [(Box ds at_, 1)] fun d l outs => l = 0 ∧ ∃ (b : Bool) (fs : List (List Nat)) (pg at' : Nat), d = bookD b (fs.map strC) (natD pg) ∧ outs = [some (Box ds at', 1)] ∧ (1 ≤ fs.length ∧ fs.length ≤ 4) ∧ (∀ cs ∈ fs, FoldOk b cs) ∧ 1 ≤ pg ∧ pg ≤ cntV (fs.map strC) := by
    rw [call_in h rfl]
    have hb : ∀ at_ m K, 0 < m → (callW (callF T (n + 1)) w [(Box ds at_, 1), (.int m, 0)] K ↔ K (.int (drawV ds at_ m)) 0 [some (Box ds (at_ + 1), 1), some (.int m, 0)]) := fun at_ m K h => callW_of (draw_ok hdraw ds at_ m h)
    have h2 := fun at_ K => hb at_ 2 K (by decide)
    have h3 := fun at_ K => hb at_ 3 K (by decide)
    have h4 := fun at_ K => hb at_ 4 K (by decide)
    have e2 := fun at_ => drawV_lt (ds := ds) (at_ := at_) (m := 2) (by decide)
    have e3 := fun at_ => drawV_lt (ds := ds) (at_ := at_) (m := 3) (by decide)
    have e4 := fun at_ => drawV_lt (ds := ds) (at_ := at_) (m := 4) (by decide)
    unfold bLawBook
    refine seq_by (fun r => ∃ b, r = [(some (Ent.mk (Box ds (at_ + 1)) 1 true)), (some (Ent.mk (.str (bindS b)) 0 false)), none, none, none, none, none, none]) ?_ ?_
    · simp only [env0_1, List.replicate, ↓h2, ↓exW_skip, ↓exW_seq, ↓exW_setn, ↓exW_setc, ↓exW_setJ, ↓putW_at, ↓putE_L, ↓ixW_0, ↓ixW_1, ↓exW_aug, ↓exW_retv, ↓exW_ex, ↓exW_app, ↓exW_ext, ↓exW_ite, ↓exW_for, ↓exW_whl, ↓exW_ret_op, ↓exW_ret_lit, ↓exW_ret_call, ↓exW_ret_mkt, ↓exW_ret_mkl, ↓exW_ret_ite, ↓exW_ret_and, ↓exW_ret_or, ↓exW_ret_comp, ↓exW_ret_chain, ↓exW_ret_pop, ↓evW_lit, ↓evW_var, ↓evW_nil, ↓evW_cons, ↓evW_op, ↓evW_mkl, ↓evW_mkt, ↓evW_ite, ↓evW_and, ↓evW_or, ↓evW_call, ↓evW_comp, ↓evW_pop, ↓evW_chain, ↓hdQ_1, ↓contF_nx, ↓contF_rt, ↓atE_0, ↓atE_S, ↓borW_nil, ↓borW_vl, ↓borW_vrT, ↓borW_vrF, ↓takW_nil, ↓takW_vl, ↓takW_vr, ↓oneW_vl, ↓oneW_vr, ↓lendW_nil, ↓lendW_vl, ↓lendW_vr, ↓trW_vl, ↓trW_vr, ↓ifB_t, ↓ifB_f, ↓ifB_d, ↓ifB_n, ↓truW_bl, ↓truW_int, ↓truW_lst, ↓truW_tup, ↓truW_non, ↓opK_add, ↓opK_addT, ↓opK_addL, ↓opK_addS, ↓opK_sub, ↓opK_mul, ↓opK_mulT, ↓opK_mulL, ↓opK_fdiv, ↓opK_mod, ↓opK_pow, ↓opK_shl, ↓opK_band, ↓opK_neg, ↓opK_notB, ↓opK_not, ↓opK_lt, ↓opK_le, ↓opK_gt, ↓opK_ge, ↓opK_eq, ↓opK_ne, ↓opK_isN, ↓opK_notN, ↓opK_isB, ↓opK_notB2, ↓opK_lenL, ↓opK_lenT, ↓opK_lenC, ↓opK_lenS, ↓opK_listL, ↓opK_listT, ↓opK_tupL, ↓opK_tupT, ↓opK_int, ↓opK_intB, ↓opK_abs, ↓opK_max2, ↓opK_min2, ↓opK_isT, ↓opK_eqL, ↓opK_neL, ↓opK_eqT, ↓opK_neT, ↓opK_eqS, ↓opK_neS, ↓opK_eqB, ↓opK_neB, ↓opK_sumT, ↓opK_sumL, ↓opK_maxT, ↓opK_maxL, ↓opK_minT, ↓opK_minL, ↓opK_sortT, ↓opK_sortL, ↓opK_sortRT, ↓opK_sortRL, ↓opK_idxL, ↓opK_idxT, ↓opK_idxC, ↓opK_revL, ↓opK_revT, ↓opK_lrg1, ↓opK_lrg2, ↓opK_trg1, ↓opK_trg2, ↓itemW_0, ↓itemW_1, ↓itemW_2, ↓itemW_3, ↓itemsW_L, ↓itemsW_T, ↓itemsW_S, ↓itemsW_r1, ↓itemsW_r2, ↓bindW_nm, ↓bindW_nil, ↓bindW_cons, ↓back_vl, ↓back_vr, ↓back_vrN, ↓back_nil, ↓low_z, ↓low_11, ↓low_1, ↓awayE_z, ↓awayE_1, ↓awayE_2, ↓pairW, ↓intW, ↓exts1, ↓low_2, ↓low_any, ↓low_set, ↓low_len, ↓awayE_s, ↓itemsW_enL, ↓itemsW_enT, ↓itemsW_esL, ↓itemsW_esT, ↓itemsW_zTT, ↓itemsW_zLL, ↓itemsW_zTL, ↓itemsW_zLT, ↓itemsW_zST, ↓itemsW_zSL, ↓itemsW_enS, ↓opK_mulS, ↓opK_imul, ↓opK_idxS, ↓opK_strI, ↓opK_strS, ↓opK_takeS, ↓opK_dropS, ↓opK_initS, ↓opK_inC, ↓opK_niC, keepO, lvOf, lvO_int, lvO_bl, lvO_str, lvO_tup, lvO_lst, lvO_non, isTy, isNon, List.set_cons_zero, List.set_cons_succ, List.length_cons, List.length_nil, getE_cons0, getE_consS, Option.isNone_none, Option.isNone_some, Bool.false_eq_true, if_true, if_false, Bool.not_true, Bool.not_false, Nat.zero_add, Nat.reduceAdd, Nat.reduceLT, Nat.reduceSub, true_and, and_true, Nat.min_zero, Nat.zero_min, Nat.reduceBEq, Bool.and_true, Bool.true_and, decide_true, decide_false, outs_z, outs_S, outs_N, outs_0, Int.reduceLT, Int.reduceLE, Nat.reduceLeDiff, List.isEmpty_cons, List.isEmpty_nil, and_self, isLstAt_0, isLstAt_S, isAtomAt_0, isAtomAt_S, pOf_0, pOf_S, cmpLt, cmpLe, cmpGt, cmpGe]
      refine ⟨rfl, item_any (show _ ∧ _ < ((2 : Nat) : Int) from e2 _) fun d hd => ?_⟩
      simp only [List.mem_cons, List.not_mem_nil, or_false] at hd
      rcases hd with rfl | rfl
      · exact ⟨false, rfl⟩
      · exact ⟨true, rfl⟩
    rintro r ⟨b, rfl⟩
    refine seq_by (fun r => r = [(some (Ent.mk (Box ds (at_ + 1)) 1 true)), (some (Ent.mk (.str (bindS b)) 0 false)), some ⟨.lst [], 9, false⟩, none, none, none, none, none]) ?_ ?_
    · simp only [↓exW_skip, ↓exW_seq, ↓exW_setn, ↓exW_setc, ↓exW_setJ, ↓putW_at, ↓putE_L, ↓ixW_0, ↓ixW_1, ↓exW_aug, ↓exW_retv, ↓exW_ex, ↓exW_app, ↓exW_ext, ↓exW_ite, ↓exW_for, ↓exW_whl, ↓exW_ret_op, ↓exW_ret_lit, ↓exW_ret_call, ↓exW_ret_mkt, ↓exW_ret_mkl, ↓exW_ret_ite, ↓exW_ret_and, ↓exW_ret_or, ↓exW_ret_comp, ↓exW_ret_chain, ↓exW_ret_pop, ↓evW_lit, ↓evW_var, ↓evW_nil, ↓evW_cons, ↓evW_op, ↓evW_mkl, ↓evW_mkt, ↓evW_ite, ↓evW_and, ↓evW_or, ↓evW_call, ↓evW_comp, ↓evW_pop, ↓evW_chain, ↓hdQ_1, ↓contF_nx, ↓contF_rt, ↓atE_0, ↓atE_S, ↓borW_nil, ↓borW_vl, ↓borW_vrT, ↓borW_vrF, ↓takW_nil, ↓takW_vl, ↓takW_vr, ↓oneW_vl, ↓oneW_vr, ↓lendW_nil, ↓lendW_vl, ↓lendW_vr, ↓trW_vl, ↓trW_vr, ↓ifB_t, ↓ifB_f, ↓ifB_d, ↓ifB_n, ↓truW_bl, ↓truW_int, ↓truW_lst, ↓truW_tup, ↓truW_non, ↓opK_add, ↓opK_addT, ↓opK_addL, ↓opK_addS, ↓opK_sub, ↓opK_mul, ↓opK_mulT, ↓opK_mulL, ↓opK_fdiv, ↓opK_mod, ↓opK_pow, ↓opK_shl, ↓opK_band, ↓opK_neg, ↓opK_notB, ↓opK_not, ↓opK_lt, ↓opK_le, ↓opK_gt, ↓opK_ge, ↓opK_eq, ↓opK_ne, ↓opK_isN, ↓opK_notN, ↓opK_isB, ↓opK_notB2, ↓opK_lenL, ↓opK_lenT, ↓opK_lenC, ↓opK_lenS, ↓opK_listL, ↓opK_listT, ↓opK_tupL, ↓opK_tupT, ↓opK_int, ↓opK_intB, ↓opK_abs, ↓opK_max2, ↓opK_min2, ↓opK_isT, ↓opK_eqL, ↓opK_neL, ↓opK_eqT, ↓opK_neT, ↓opK_eqS, ↓opK_neS, ↓opK_eqB, ↓opK_neB, ↓opK_sumT, ↓opK_sumL, ↓opK_maxT, ↓opK_maxL, ↓opK_minT, ↓opK_minL, ↓opK_sortT, ↓opK_sortL, ↓opK_sortRT, ↓opK_sortRL, ↓opK_idxL, ↓opK_idxT, ↓opK_idxC, ↓opK_revL, ↓opK_revT, ↓opK_lrg1, ↓opK_lrg2, ↓opK_trg1, ↓opK_trg2, ↓itemW_0, ↓itemW_1, ↓itemW_2, ↓itemW_3, ↓itemsW_L, ↓itemsW_T, ↓itemsW_S, ↓itemsW_r1, ↓itemsW_r2, ↓bindW_nm, ↓bindW_nil, ↓bindW_cons, ↓back_vl, ↓back_vr, ↓back_vrN, ↓back_nil, ↓low_z, ↓low_11, ↓low_1, ↓awayE_z, ↓awayE_1, ↓awayE_2, ↓pairW, ↓intW, ↓exts1, ↓low_2, ↓low_any, ↓low_set, ↓low_len, ↓awayE_s, ↓itemsW_enL, ↓itemsW_enT, ↓itemsW_esL, ↓itemsW_esT, ↓itemsW_zTT, ↓itemsW_zLL, ↓itemsW_zTL, ↓itemsW_zLT, ↓itemsW_zST, ↓itemsW_zSL, ↓itemsW_enS, ↓opK_mulS, ↓opK_imul, ↓opK_idxS, ↓opK_strI, ↓opK_strS, ↓opK_takeS, ↓opK_dropS, ↓opK_initS, ↓opK_inC, ↓opK_niC, keepO, lvOf, lvO_int, lvO_bl, lvO_str, lvO_tup, lvO_lst, lvO_non, isTy, isNon, List.set_cons_zero, List.set_cons_succ, List.length_cons, List.length_nil, getE_cons0, getE_consS, Option.isNone_none, Option.isNone_some, Bool.false_eq_true, if_true, if_false, Bool.not_true, Bool.not_false, Nat.zero_add, Nat.reduceAdd, Nat.reduceLT, Nat.reduceSub, true_and, and_true, Nat.min_zero, Nat.zero_min, Nat.reduceBEq, Bool.and_true, Bool.true_and, decide_true, decide_false, outs_z, outs_S, outs_N, outs_0, Int.reduceLT, Int.reduceLE, Nat.reduceLeDiff, List.isEmpty_cons, List.isEmpty_nil, and_self, isLstAt_0, isLstAt_S, isAtomAt_0, isAtomAt_S, pOf_0, pOf_S, cmpLt, cmpLe, cmpGt, cmpGe]
      rfl
    rintro r rfl
    refine seq_by (fun r => ∃ (a1 : Nat) (fs : List (List Nat)) (x3 x5 : Option Ent) (l : Nat), (1 ≤ fs.length ∧ fs.length ≤ 4) ∧ (∀ cs ∈ fs, FoldOk b cs) ∧ (∀ e, x5 = some e → e.l = 0) ∧ r = [(some (Ent.mk (Box ds a1) 1 true)), (some (Ent.mk (.str (bindS b)) 0 false)), some ⟨.lst ((fs.map strC).map D.str), l + 1, false⟩, x3, none, x5, none, none]) ?_ ?_
    · have q := e4 (at_ + 1)
      obtain ⟨nn, hnn⟩ := Int.eq_ofNat_of_zero_le q.1
      have e1 : (1 : Int) + (nn : Int) = ((nn + 1 : Nat) : Int) := by omega
      simp only [↓h4, hnn, e1, rng_nat, ↓exW_for, ↓exW_skip, ↓exW_seq, ↓exW_setn, ↓exW_setc, ↓exW_setJ, ↓putW_at, ↓putE_L, ↓ixW_0, ↓ixW_1, ↓exW_aug, ↓exW_retv, ↓exW_ex, ↓exW_app, ↓exW_ext, ↓exW_ite, ↓exW_for, ↓exW_whl, ↓exW_ret_op, ↓exW_ret_lit, ↓exW_ret_call, ↓exW_ret_mkt, ↓exW_ret_mkl, ↓exW_ret_ite, ↓exW_ret_and, ↓exW_ret_or, ↓exW_ret_comp, ↓exW_ret_chain, ↓exW_ret_pop, ↓evW_lit, ↓evW_var, ↓evW_nil, ↓evW_cons, ↓evW_op, ↓evW_mkl, ↓evW_mkt, ↓evW_ite, ↓evW_and, ↓evW_or, ↓evW_call, ↓evW_comp, ↓evW_pop, ↓evW_chain, ↓hdQ_1, ↓contF_nx, ↓contF_rt, ↓atE_0, ↓atE_S, ↓borW_nil, ↓borW_vl, ↓borW_vrT, ↓borW_vrF, ↓takW_nil, ↓takW_vl, ↓takW_vr, ↓oneW_vl, ↓oneW_vr, ↓lendW_nil, ↓lendW_vl, ↓lendW_vr, ↓trW_vl, ↓trW_vr, ↓ifB_t, ↓ifB_f, ↓ifB_d, ↓ifB_n, ↓truW_bl, ↓truW_int, ↓truW_lst, ↓truW_tup, ↓truW_non, ↓opK_add, ↓opK_addT, ↓opK_addL, ↓opK_addS, ↓opK_sub, ↓opK_mul, ↓opK_mulT, ↓opK_mulL, ↓opK_fdiv, ↓opK_mod, ↓opK_pow, ↓opK_shl, ↓opK_band, ↓opK_neg, ↓opK_notB, ↓opK_not, ↓opK_lt, ↓opK_le, ↓opK_gt, ↓opK_ge, ↓opK_eq, ↓opK_ne, ↓opK_isN, ↓opK_notN, ↓opK_isB, ↓opK_notB2, ↓opK_lenL, ↓opK_lenT, ↓opK_lenC, ↓opK_lenS, ↓opK_listL, ↓opK_listT, ↓opK_tupL, ↓opK_tupT, ↓opK_int, ↓opK_intB, ↓opK_abs, ↓opK_max2, ↓opK_min2, ↓opK_isT, ↓opK_eqL, ↓opK_neL, ↓opK_eqT, ↓opK_neT, ↓opK_eqS, ↓opK_neS, ↓opK_eqB, ↓opK_neB, ↓opK_sumT, ↓opK_sumL, ↓opK_maxT, ↓opK_maxL, ↓opK_minT, ↓opK_minL, ↓opK_sortT, ↓opK_sortL, ↓opK_sortRT, ↓opK_sortRL, ↓opK_idxL, ↓opK_idxT, ↓opK_idxC, ↓opK_revL, ↓opK_revT, ↓opK_lrg1, ↓opK_lrg2, ↓opK_trg1, ↓opK_trg2, ↓itemW_0, ↓itemW_1, ↓itemW_2, ↓itemW_3, ↓itemsW_L, ↓itemsW_T, ↓itemsW_S, ↓itemsW_r1, ↓itemsW_r2, ↓bindW_nm, ↓bindW_nil, ↓bindW_cons, ↓back_vl, ↓back_vr, ↓back_vrN, ↓back_nil, ↓low_z, ↓low_11, ↓low_1, ↓awayE_z, ↓awayE_1, ↓awayE_2, ↓pairW, ↓intW, ↓exts1, ↓low_2, ↓low_any, ↓low_set, ↓low_len, ↓awayE_s, ↓itemsW_enL, ↓itemsW_enT, ↓itemsW_esL, ↓itemsW_esT, ↓itemsW_zTT, ↓itemsW_zLL, ↓itemsW_zTL, ↓itemsW_zLT, ↓itemsW_zST, ↓itemsW_zSL, ↓itemsW_enS, ↓opK_mulS, ↓opK_imul, ↓opK_idxS, ↓opK_strI, ↓opK_strS, ↓opK_takeS, ↓opK_dropS, ↓opK_initS, ↓opK_inC, ↓opK_niC, keepO, lvOf, lvO_int, lvO_bl, lvO_str, lvO_tup, lvO_lst, lvO_non, isTy, isNon, List.set_cons_zero, List.set_cons_succ, List.length_cons, List.length_nil, getE_cons0, getE_consS, Option.isNone_none, Option.isNone_some, Bool.false_eq_true, if_true, if_false, Bool.not_true, Bool.not_false, Nat.zero_add, Nat.reduceAdd, Nat.reduceLT, Nat.reduceSub, true_and, and_true, Nat.min_zero, Nat.zero_min, Nat.reduceBEq, Bool.and_true, Bool.true_and, decide_true, decide_false, outs_z, outs_S, outs_N, outs_0, Int.reduceLT, Int.reduceLE, Nat.reduceLeDiff, List.isEmpty_cons, List.isEmpty_nil, and_self, isLstAt_0, isLstAt_S, isAtomAt_0, isAtomAt_S, pOf_0, pOf_S, cmpLt, cmpLe, cmpGt, cmpGe]
      refine ⟨okR_of2 (by omega), ?_⟩
      refine for_pre (fun (pre : List Nat) r => ∃ (a1 : Nat) (fs : List (List Nat)) (x3 x5 : Option Ent) (l : Nat), fs.length = pre.length ∧ (∀ cs ∈ fs, FoldOk b cs) ∧ (∀ e, x5 = some e → e.l = 0) ∧ r = [(some (Ent.mk (Box ds a1) 1 true)), (some (Ent.mk (.str (bindS b)) 0 false)), some ⟨.lst ((fs.map strC).map D.str), l + 1, false⟩, x3, none, x5, none, none]) natD ⟨_, [], none, none, 8, rfl, by simp, (fun e h => nomatch h), rfl⟩ ?_ ?_
      · rintro pre k post r ep ⟨a1, fs, x3, x5, l, hl, hf, hx5, rfl⟩
        have hpl : pre.length < nn + 1 := by have := congrArg List.length ep; simp at this; omega
        rw [turn_exW, bindW_nm]
        refine ⟨rfl, ?_⟩
        simp only [List.set_cons_zero, List.set_cons_succ]
        generalize (some (Ent.mk (natD k) 0 false) : Option Ent) = x3
        refine seq_by (fun r => ∃ (a2 : Nat) (cs : List Nat) (c : Nat), cs.length ≤ 2 ∧ (∀ c ∈ cs, c ∈ [76, 82, 84, 66]) ∧ c ∈ [76, 82, 84, 66] ∧ r = [(some (Ent.mk (Box ds a2) 1 true)), (some (Ent.mk (.str (bindS b)) 0 false)), some ⟨.lst ((fs.map strC).map D.str), l + 1, false⟩, x3, none, (some (Ent.mk (.str (strC (cs ++ [c]))) 0 false)), none, none]) ?_ ?_
        · have q3 := e3 a1
          obtain ⟨mm, hmm⟩ := Int.eq_ofNat_of_zero_le q3.1
          simp only [↓h3, hmm, rng_nat, List.length_map, List.length_range, ↓exW_skip, ↓exW_seq, ↓exW_setn, ↓exW_setc, ↓exW_setJ, ↓putW_at, ↓putE_L, ↓ixW_0, ↓ixW_1, ↓exW_aug, ↓exW_retv, ↓exW_ex, ↓exW_app, ↓exW_ext, ↓exW_ite, ↓exW_for, ↓exW_whl, ↓exW_ret_op, ↓exW_ret_lit, ↓exW_ret_call, ↓exW_ret_mkt, ↓exW_ret_mkl, ↓exW_ret_ite, ↓exW_ret_and, ↓exW_ret_or, ↓exW_ret_comp, ↓exW_ret_chain, ↓exW_ret_pop, ↓evW_lit, ↓evW_var, ↓evW_nil, ↓evW_cons, ↓evW_op, ↓evW_mkl, ↓evW_mkt, ↓evW_ite, ↓evW_and, ↓evW_or, ↓evW_call, ↓evW_comp, ↓evW_pop, ↓evW_chain, ↓hdQ_1, ↓contF_nx, ↓contF_rt, ↓atE_0, ↓atE_S, ↓borW_nil, ↓borW_vl, ↓borW_vrT, ↓borW_vrF, ↓takW_nil, ↓takW_vl, ↓takW_vr, ↓oneW_vl, ↓oneW_vr, ↓lendW_nil, ↓lendW_vl, ↓lendW_vr, ↓trW_vl, ↓trW_vr, ↓ifB_t, ↓ifB_f, ↓ifB_d, ↓ifB_n, ↓truW_bl, ↓truW_int, ↓truW_lst, ↓truW_tup, ↓truW_non, ↓opK_add, ↓opK_addT, ↓opK_addL, ↓opK_addS, ↓opK_sub, ↓opK_mul, ↓opK_mulT, ↓opK_mulL, ↓opK_fdiv, ↓opK_mod, ↓opK_pow, ↓opK_shl, ↓opK_band, ↓opK_neg, ↓opK_notB, ↓opK_not, ↓opK_lt, ↓opK_le, ↓opK_gt, ↓opK_ge, ↓opK_eq, ↓opK_ne, ↓opK_isN, ↓opK_notN, ↓opK_isB, ↓opK_notB2, ↓opK_lenL, ↓opK_lenT, ↓opK_lenC, ↓opK_lenS, ↓opK_listL, ↓opK_listT, ↓opK_tupL, ↓opK_tupT, ↓opK_int, ↓opK_intB, ↓opK_abs, ↓opK_max2, ↓opK_min2, ↓opK_isT, ↓opK_eqL, ↓opK_neL, ↓opK_eqT, ↓opK_neT, ↓opK_eqS, ↓opK_neS, ↓opK_eqB, ↓opK_neB, ↓opK_sumT, ↓opK_sumL, ↓opK_maxT, ↓opK_maxL, ↓opK_minT, ↓opK_minL, ↓opK_sortT, ↓opK_sortL, ↓opK_sortRT, ↓opK_sortRL, ↓opK_idxL, ↓opK_idxT, ↓opK_idxC, ↓opK_revL, ↓opK_revT, ↓opK_lrg1, ↓opK_lrg2, ↓opK_trg1, ↓opK_trg2, ↓itemW_0, ↓itemW_1, ↓itemW_2, ↓itemW_3, ↓itemsW_L, ↓itemsW_T, ↓itemsW_S, ↓itemsW_r1, ↓itemsW_r2, ↓bindW_nm, ↓bindW_nil, ↓bindW_cons, ↓back_vl, ↓back_vr, ↓back_vrN, ↓back_nil, ↓low_z, ↓low_11, ↓low_1, ↓awayE_z, ↓awayE_1, ↓awayE_2, ↓pairW, ↓intW, ↓exts1, ↓low_2, ↓low_any, ↓low_set, ↓low_len, ↓awayE_s, ↓itemsW_enL, ↓itemsW_enT, ↓itemsW_esL, ↓itemsW_esT, ↓itemsW_zTT, ↓itemsW_zLL, ↓itemsW_zTL, ↓itemsW_zLT, ↓itemsW_zST, ↓itemsW_zSL, ↓itemsW_enS, ↓opK_mulS, ↓opK_imul, ↓opK_idxS, ↓opK_strI, ↓opK_strS, ↓opK_takeS, ↓opK_dropS, ↓opK_initS, ↓opK_inC, ↓opK_niC, keepO, lvOf, lvO_int, lvO_bl, lvO_str, lvO_tup, lvO_lst, lvO_non, isTy, isNon, List.set_cons_zero, List.set_cons_succ, List.length_cons, List.length_nil, getE_cons0, getE_consS, Option.isNone_none, Option.isNone_some, Bool.false_eq_true, if_true, if_false, Bool.not_true, Bool.not_false, Nat.zero_add, Nat.reduceAdd, Nat.reduceLT, Nat.reduceSub, true_and, and_true, Nat.min_zero, Nat.zero_min, Nat.reduceBEq, Bool.and_true, Bool.true_and, decide_true, decide_false, outs_z, outs_S, outs_N, outs_0, Int.reduceLT, Int.reduceLE, Nat.reduceLeDiff, List.isEmpty_cons, List.isEmpty_nil, and_self, isLstAt_0, isLstAt_S, isAtomAt_0, isAtomAt_S, pOf_0, pOf_S, cmpLt, cmpLe, cmpGt, cmpGe]
          refine ⟨okR_of2 (by omega), ⟨sz_of (by omega), rfl⟩, ?_⟩
          refine comp_inv (fun i ys r => ∃ (cs : List Nat) (a2 : Nat) (y : Option Ent), cs.length = i ∧ (∀ c ∈ cs, c ∈ [76, 82, 84, 66]) ∧ ys = cs.map (fun c => D.str (chS c)) ∧ r = [(some (Ent.mk (Box ds a2) 1 true)), (some (Ent.mk (.str (bindS b)) 0 false)), some ⟨.lst ((fs.map strC).map D.str), l + 1, false⟩, x3, y, x5, none, none]) ⟨[], _, _, rfl, by simp, rfl, rfl⟩ ?_ ?_
          · rintro i d acc r hd ⟨cs, a2, y, hcl, hcm, rfl, rfl⟩
            refine turn_comp.mpr ?_
            have hw : wipeE [4] [(some (Ent.mk (Box ds a2) 1 true)), (some (Ent.mk (.str (bindS b)) 0 false)), some ⟨.lst ((fs.map strC).map D.str), l + 1, false⟩, x3, y, x5, none, none] = [(some (Ent.mk (Box ds a2) 1 true)), (some (Ent.mk (.str (bindS b)) 0 false)), some ⟨.lst ((fs.map strC).map D.str), l + 1, false⟩, x3, none, x5, none, none] := rfl
            rw [hw, bindW_nm]
            refine ⟨rfl, ?_⟩
            simp only [↓h4, ↓exW_skip, ↓exW_seq, ↓exW_setn, ↓exW_setc, ↓exW_setJ, ↓putW_at, ↓putE_L, ↓ixW_0, ↓ixW_1, ↓exW_aug, ↓exW_retv, ↓exW_ex, ↓exW_app, ↓exW_ext, ↓exW_ite, ↓exW_for, ↓exW_whl, ↓exW_ret_op, ↓exW_ret_lit, ↓exW_ret_call, ↓exW_ret_mkt, ↓exW_ret_mkl, ↓exW_ret_ite, ↓exW_ret_and, ↓exW_ret_or, ↓exW_ret_comp, ↓exW_ret_chain, ↓exW_ret_pop, ↓evW_lit, ↓evW_var, ↓evW_nil, ↓evW_cons, ↓evW_op, ↓evW_mkl, ↓evW_mkt, ↓evW_ite, ↓evW_and, ↓evW_or, ↓evW_call, ↓evW_comp, ↓evW_pop, ↓evW_chain, ↓hdQ_1, ↓contF_nx, ↓contF_rt, ↓atE_0, ↓atE_S, ↓borW_nil, ↓borW_vl, ↓borW_vrT, ↓borW_vrF, ↓takW_nil, ↓takW_vl, ↓takW_vr, ↓oneW_vl, ↓oneW_vr, ↓lendW_nil, ↓lendW_vl, ↓lendW_vr, ↓trW_vl, ↓trW_vr, ↓ifB_t, ↓ifB_f, ↓ifB_d, ↓ifB_n, ↓truW_bl, ↓truW_int, ↓truW_lst, ↓truW_tup, ↓truW_non, ↓opK_add, ↓opK_addT, ↓opK_addL, ↓opK_addS, ↓opK_sub, ↓opK_mul, ↓opK_mulT, ↓opK_mulL, ↓opK_fdiv, ↓opK_mod, ↓opK_pow, ↓opK_shl, ↓opK_band, ↓opK_neg, ↓opK_notB, ↓opK_not, ↓opK_lt, ↓opK_le, ↓opK_gt, ↓opK_ge, ↓opK_eq, ↓opK_ne, ↓opK_isN, ↓opK_notN, ↓opK_isB, ↓opK_notB2, ↓opK_lenL, ↓opK_lenT, ↓opK_lenC, ↓opK_lenS, ↓opK_listL, ↓opK_listT, ↓opK_tupL, ↓opK_tupT, ↓opK_int, ↓opK_intB, ↓opK_abs, ↓opK_max2, ↓opK_min2, ↓opK_isT, ↓opK_eqL, ↓opK_neL, ↓opK_eqT, ↓opK_neT, ↓opK_eqS, ↓opK_neS, ↓opK_eqB, ↓opK_neB, ↓opK_sumT, ↓opK_sumL, ↓opK_maxT, ↓opK_maxL, ↓opK_minT, ↓opK_minL, ↓opK_sortT, ↓opK_sortL, ↓opK_sortRT, ↓opK_sortRL, ↓opK_idxL, ↓opK_idxT, ↓opK_idxC, ↓opK_revL, ↓opK_revT, ↓opK_lrg1, ↓opK_lrg2, ↓opK_trg1, ↓opK_trg2, ↓itemW_0, ↓itemW_1, ↓itemW_2, ↓itemW_3, ↓itemsW_L, ↓itemsW_T, ↓itemsW_S, ↓itemsW_r1, ↓itemsW_r2, ↓bindW_nm, ↓bindW_nil, ↓bindW_cons, ↓back_vl, ↓back_vr, ↓back_vrN, ↓back_nil, ↓low_z, ↓low_11, ↓low_1, ↓awayE_z, ↓awayE_1, ↓awayE_2, ↓pairW, ↓intW, ↓exts1, ↓low_2, ↓low_any, ↓low_set, ↓low_len, ↓awayE_s, ↓itemsW_enL, ↓itemsW_enT, ↓itemsW_esL, ↓itemsW_esT, ↓itemsW_zTT, ↓itemsW_zLL, ↓itemsW_zTL, ↓itemsW_zLT, ↓itemsW_zST, ↓itemsW_zSL, ↓itemsW_enS, ↓opK_mulS, ↓opK_imul, ↓opK_idxS, ↓opK_strI, ↓opK_strS, ↓opK_takeS, ↓opK_dropS, ↓opK_initS, ↓opK_inC, ↓opK_niC, keepO, lvOf, lvO_int, lvO_bl, lvO_str, lvO_tup, lvO_lst, lvO_non, isTy, isNon, List.set_cons_zero, List.set_cons_succ, List.length_cons, List.length_nil, getE_cons0, getE_consS, Option.isNone_none, Option.isNone_some, Bool.false_eq_true, if_true, if_false, Bool.not_true, Bool.not_false, Nat.zero_add, Nat.reduceAdd, Nat.reduceLT, Nat.reduceSub, true_and, and_true, Nat.min_zero, Nat.zero_min, Nat.reduceBEq, Bool.and_true, Bool.true_and, decide_true, decide_false, outs_z, outs_S, outs_N, outs_0, Int.reduceLT, Int.reduceLE, Nat.reduceLeDiff, List.isEmpty_cons, List.isEmpty_nil, and_self, isLstAt_0, isLstAt_S, isAtomAt_0, isAtomAt_S, pOf_0, pOf_S, cmpLt, cmpLe, cmpGt, cmpGe, true_implies, implies_true, not_true_eq_false, false_implies, not_false_eq_true, reduceCtorEq, imp_false, Classical.not_not]
            refine ⟨rfl, item_any (show _ ∧ _ < ((4 : Nat) : Int) from e4 a2) fun c hc => ?_⟩
            refine ⟨cs ++ [c], _, _, by simp [hcl], fun z hz => ?_, by simp, rfl⟩
            rcases List.mem_append.mp hz with hz | hz
            · exact hcm z hz
            · rw [List.mem_singleton.mp hz]; exact hc
          · rintro ys l2 r ⟨cs, a2, y, hcl, hcm, rfl, rfl⟩
            have hcl : cs.length ≤ 2 := by simp at hcl; omega
            have hj : ∀ K, opK .join [.str ⟨#[]⟩, .lst (cs.map fun c => D.str (chS c))] K ↔ K (.str (strC cs)) := fun K => by
              have : cs.map (fun c => D.str (chS c)) = (cs.map chS).map D.str := by rw [List.map_map]; rfl
              rw [this, ← glue_eq]
              exact opK_joinL (joinable (by omega))
            have hre : restore [4] [(some (Ent.mk (Box ds (a1 + 1)) 1 true)), (some (Ent.mk (.str (bindS b)) 0 false)), some ⟨.lst ((fs.map strC).map D.str), l + 1, false⟩, x3, none, x5, none, none] [(some (Ent.mk (Box ds a2) 1 true)), (some (Ent.mk (.str (bindS b)) 0 false)), some ⟨.lst ((fs.map strC).map D.str), l + 1, false⟩, x3, y, x5, none, none] = [(some (Ent.mk (Box ds a2) 1 true)), (some (Ent.mk (.str (bindS b)) 0 false)), some ⟨.lst ((fs.map strC).map D.str), l + 1, false⟩, x3, none, x5, none, none] := rfl
            rw [hre]
            simp only [↓hj, ↓h4, ↓exW_skip, ↓exW_seq, ↓exW_setn, ↓exW_setc, ↓exW_setJ, ↓putW_at, ↓putE_L, ↓ixW_0, ↓ixW_1, ↓exW_aug, ↓exW_retv, ↓exW_ex, ↓exW_app, ↓exW_ext, ↓exW_ite, ↓exW_for, ↓exW_whl, ↓exW_ret_op, ↓exW_ret_lit, ↓exW_ret_call, ↓exW_ret_mkt, ↓exW_ret_mkl, ↓exW_ret_ite, ↓exW_ret_and, ↓exW_ret_or, ↓exW_ret_comp, ↓exW_ret_chain, ↓exW_ret_pop, ↓evW_lit, ↓evW_var, ↓evW_nil, ↓evW_cons, ↓evW_op, ↓evW_mkl, ↓evW_mkt, ↓evW_ite, ↓evW_and, ↓evW_or, ↓evW_call, ↓evW_comp, ↓evW_pop, ↓evW_chain, ↓hdQ_1, ↓contF_nx, ↓contF_rt, ↓atE_0, ↓atE_S, ↓borW_nil, ↓borW_vl, ↓borW_vrT, ↓borW_vrF, ↓takW_nil, ↓takW_vl, ↓takW_vr, ↓oneW_vl, ↓oneW_vr, ↓lendW_nil, ↓lendW_vl, ↓lendW_vr, ↓trW_vl, ↓trW_vr, ↓ifB_t, ↓ifB_f, ↓ifB_d, ↓ifB_n, ↓truW_bl, ↓truW_int, ↓truW_lst, ↓truW_tup, ↓truW_non, ↓opK_add, ↓opK_addT, ↓opK_addL, ↓opK_addS, ↓opK_sub, ↓opK_mul, ↓opK_mulT, ↓opK_mulL, ↓opK_fdiv, ↓opK_mod, ↓opK_pow, ↓opK_shl, ↓opK_band, ↓opK_neg, ↓opK_notB, ↓opK_not, ↓opK_lt, ↓opK_le, ↓opK_gt, ↓opK_ge, ↓opK_eq, ↓opK_ne, ↓opK_isN, ↓opK_notN, ↓opK_isB, ↓opK_notB2, ↓opK_lenL, ↓opK_lenT, ↓opK_lenC, ↓opK_lenS, ↓opK_listL, ↓opK_listT, ↓opK_tupL, ↓opK_tupT, ↓opK_int, ↓opK_intB, ↓opK_abs, ↓opK_max2, ↓opK_min2, ↓opK_isT, ↓opK_eqL, ↓opK_neL, ↓opK_eqT, ↓opK_neT, ↓opK_eqS, ↓opK_neS, ↓opK_eqB, ↓opK_neB, ↓opK_sumT, ↓opK_sumL, ↓opK_maxT, ↓opK_maxL, ↓opK_minT, ↓opK_minL, ↓opK_sortT, ↓opK_sortL, ↓opK_sortRT, ↓opK_sortRL, ↓opK_idxL, ↓opK_idxT, ↓opK_idxC, ↓opK_revL, ↓opK_revT, ↓opK_lrg1, ↓opK_lrg2, ↓opK_trg1, ↓opK_trg2, ↓itemW_0, ↓itemW_1, ↓itemW_2, ↓itemW_3, ↓itemsW_L, ↓itemsW_T, ↓itemsW_S, ↓itemsW_r1, ↓itemsW_r2, ↓bindW_nm, ↓bindW_nil, ↓bindW_cons, ↓back_vl, ↓back_vr, ↓back_vrN, ↓back_nil, ↓low_z, ↓low_11, ↓low_1, ↓awayE_z, ↓awayE_1, ↓awayE_2, ↓pairW, ↓intW, ↓exts1, ↓low_2, ↓low_any, ↓low_set, ↓low_len, ↓awayE_s, ↓itemsW_enL, ↓itemsW_enT, ↓itemsW_esL, ↓itemsW_esT, ↓itemsW_zTT, ↓itemsW_zLL, ↓itemsW_zTL, ↓itemsW_zLT, ↓itemsW_zST, ↓itemsW_zSL, ↓itemsW_enS, ↓opK_mulS, ↓opK_imul, ↓opK_idxS, ↓opK_strI, ↓opK_strS, ↓opK_takeS, ↓opK_dropS, ↓opK_initS, ↓opK_inC, ↓opK_niC, keepO, lvOf, lvO_int, lvO_bl, lvO_str, lvO_tup, lvO_lst, lvO_non, isTy, isNon, List.set_cons_zero, List.set_cons_succ, List.length_cons, List.length_nil, getE_cons0, getE_consS, Option.isNone_none, Option.isNone_some, Bool.false_eq_true, if_true, if_false, Bool.not_true, Bool.not_false, Nat.zero_add, Nat.reduceAdd, Nat.reduceLT, Nat.reduceSub, true_and, and_true, Nat.min_zero, Nat.zero_min, Nat.reduceBEq, Bool.and_true, Bool.true_and, decide_true, decide_false, outs_z, outs_S, outs_N, outs_0, Int.reduceLT, Int.reduceLE, Nat.reduceLeDiff, List.isEmpty_cons, List.isEmpty_nil, and_self, isLstAt_0, isLstAt_S, isAtomAt_0, isAtomAt_S, pOf_0, pOf_S, cmpLt, cmpLe, cmpGt, cmpGe]
            refine ⟨rfl, item_any (show _ ∧ _ < ((4 : Nat) : Int) from e4 a2) fun c hc => ?_⟩
            refine ⟨sz_of (by rw [strC_len, chS_len]; omega), a2 + 1, cs, c, hcl, hcm, hc, ?_⟩
            show _ = [(some (Ent.mk (Box ds (a2 + 1)) 1 true)), (some (Ent.mk (.str (bindS b)) 0 false)), some ⟨.lst ((fs.map strC).map D.str), l + 1, false⟩, x3, none, (some (Ent.mk (.str (strC (cs ++ [c]))) 0 false)), none, none]
            rw [← strC_app]
            rfl
        rintro r ⟨a2, cs, c, hcl, hcm, hc, rfl⟩
        refine seq_by (fun r => ∃ (gs : List Nat), FoldOk b gs ∧ r = [(some (Ent.mk (Box ds a2) 1 true)), (some (Ent.mk (.str (bindS b)) 0 false)), some ⟨.lst ((fs.map strC).map D.str), l + 1, false⟩, x3, none, (some (Ent.mk (.str (strC gs)) 0 false)), none, none]) ?_ ?_
        · cases b with
          | false =>
            have eb : (bindS false == (⟨#[105, 110, 115, 101, 116]⟩ : Str)) = false := by decide
            simp only [eb, ↓exW_skip, ↓exW_seq, ↓exW_setn, ↓exW_setc, ↓exW_setJ, ↓putW_at, ↓putE_L, ↓ixW_0, ↓ixW_1, ↓exW_aug, ↓exW_retv, ↓exW_ex, ↓exW_app, ↓exW_ext, ↓exW_ite, ↓exW_for, ↓exW_whl, ↓exW_ret_op, ↓exW_ret_lit, ↓exW_ret_call, ↓exW_ret_mkt, ↓exW_ret_mkl, ↓exW_ret_ite, ↓exW_ret_and, ↓exW_ret_or, ↓exW_ret_comp, ↓exW_ret_chain, ↓exW_ret_pop, ↓evW_lit, ↓evW_var, ↓evW_nil, ↓evW_cons, ↓evW_op, ↓evW_mkl, ↓evW_mkt, ↓evW_ite, ↓evW_and, ↓evW_or, ↓evW_call, ↓evW_comp, ↓evW_pop, ↓evW_chain, ↓hdQ_1, ↓contF_nx, ↓contF_rt, ↓atE_0, ↓atE_S, ↓borW_nil, ↓borW_vl, ↓borW_vrT, ↓borW_vrF, ↓takW_nil, ↓takW_vl, ↓takW_vr, ↓oneW_vl, ↓oneW_vr, ↓lendW_nil, ↓lendW_vl, ↓lendW_vr, ↓trW_vl, ↓trW_vr, ↓ifB_t, ↓ifB_f, ↓ifB_d, ↓ifB_n, ↓truW_bl, ↓truW_int, ↓truW_lst, ↓truW_tup, ↓truW_non, ↓opK_add, ↓opK_addT, ↓opK_addL, ↓opK_addS, ↓opK_sub, ↓opK_mul, ↓opK_mulT, ↓opK_mulL, ↓opK_fdiv, ↓opK_mod, ↓opK_pow, ↓opK_shl, ↓opK_band, ↓opK_neg, ↓opK_notB, ↓opK_not, ↓opK_lt, ↓opK_le, ↓opK_gt, ↓opK_ge, ↓opK_eq, ↓opK_ne, ↓opK_isN, ↓opK_notN, ↓opK_isB, ↓opK_notB2, ↓opK_lenL, ↓opK_lenT, ↓opK_lenC, ↓opK_lenS, ↓opK_listL, ↓opK_listT, ↓opK_tupL, ↓opK_tupT, ↓opK_int, ↓opK_intB, ↓opK_abs, ↓opK_max2, ↓opK_min2, ↓opK_isT, ↓opK_eqL, ↓opK_neL, ↓opK_eqT, ↓opK_neT, ↓opK_eqS, ↓opK_neS, ↓opK_eqB, ↓opK_neB, ↓opK_sumT, ↓opK_sumL, ↓opK_maxT, ↓opK_maxL, ↓opK_minT, ↓opK_minL, ↓opK_sortT, ↓opK_sortL, ↓opK_sortRT, ↓opK_sortRL, ↓opK_idxL, ↓opK_idxT, ↓opK_idxC, ↓opK_revL, ↓opK_revT, ↓opK_lrg1, ↓opK_lrg2, ↓opK_trg1, ↓opK_trg2, ↓itemW_0, ↓itemW_1, ↓itemW_2, ↓itemW_3, ↓itemsW_L, ↓itemsW_T, ↓itemsW_S, ↓itemsW_r1, ↓itemsW_r2, ↓bindW_nm, ↓bindW_nil, ↓bindW_cons, ↓back_vl, ↓back_vr, ↓back_vrN, ↓back_nil, ↓low_z, ↓low_11, ↓low_1, ↓awayE_z, ↓awayE_1, ↓awayE_2, ↓pairW, ↓intW, ↓exts1, ↓low_2, ↓low_any, ↓low_set, ↓low_len, ↓awayE_s, ↓itemsW_enL, ↓itemsW_enT, ↓itemsW_esL, ↓itemsW_esT, ↓itemsW_zTT, ↓itemsW_zLL, ↓itemsW_zTL, ↓itemsW_zLT, ↓itemsW_zST, ↓itemsW_zSL, ↓itemsW_enS, ↓opK_mulS, ↓opK_imul, ↓opK_idxS, ↓opK_strI, ↓opK_strS, ↓opK_takeS, ↓opK_dropS, ↓opK_initS, ↓opK_inC, ↓opK_niC, keepO, lvOf, lvO_int, lvO_bl, lvO_str, lvO_tup, lvO_lst, lvO_non, isTy, isNon, List.set_cons_zero, List.set_cons_succ, List.length_cons, List.length_nil, getE_cons0, getE_consS, Option.isNone_none, Option.isNone_some, Bool.false_eq_true, if_true, if_false, Bool.not_true, Bool.not_false, Nat.zero_add, Nat.reduceAdd, Nat.reduceLT, Nat.reduceSub, true_and, and_true, Nat.min_zero, Nat.zero_min, Nat.reduceBEq, Bool.and_true, Bool.true_and, decide_true, decide_false, outs_z, outs_S, outs_N, outs_0, Int.reduceLT, Int.reduceLE, Nat.reduceLeDiff, List.isEmpty_cons, List.isEmpty_nil, and_self, isLstAt_0, isLstAt_S, isAtomAt_0, isAtomAt_S, pOf_0, pOf_S, cmpLt, cmpLe, cmpGt, cmpGe]
            refine ⟨cs ++ [c], ⟨by simp; omega, fun z hz => ?_, fun h => nomatch h⟩, rfl⟩
            rcases List.mem_append.mp hz with hz | hz
            · exact hcm z hz
            · rw [List.mem_singleton.mp hz]; exact hc
          | true =>
            have eb : (bindS true == (⟨#[105, 110, 115, 101, 116]⟩ : Str)) = true := by decide
            have ei : takeS (strC (cs ++ [c])) ((strC (cs ++ [c])).length - 1) = strC cs := by
              rw [strC_take, strC_len]
              simp
            simp only [eb, ei, Int.reduceNeg, ↓exW_skip, ↓exW_seq, ↓exW_setn, ↓exW_setc, ↓exW_setJ, ↓putW_at, ↓putE_L, ↓ixW_0, ↓ixW_1, ↓exW_aug, ↓exW_retv, ↓exW_ex, ↓exW_app, ↓exW_ext, ↓exW_ite, ↓exW_for, ↓exW_whl, ↓exW_ret_op, ↓exW_ret_lit, ↓exW_ret_call, ↓exW_ret_mkt, ↓exW_ret_mkl, ↓exW_ret_ite, ↓exW_ret_and, ↓exW_ret_or, ↓exW_ret_comp, ↓exW_ret_chain, ↓exW_ret_pop, ↓evW_lit, ↓evW_var, ↓evW_nil, ↓evW_cons, ↓evW_op, ↓evW_mkl, ↓evW_mkt, ↓evW_ite, ↓evW_and, ↓evW_or, ↓evW_call, ↓evW_comp, ↓evW_pop, ↓evW_chain, ↓hdQ_1, ↓contF_nx, ↓contF_rt, ↓atE_0, ↓atE_S, ↓borW_nil, ↓borW_vl, ↓borW_vrT, ↓borW_vrF, ↓takW_nil, ↓takW_vl, ↓takW_vr, ↓oneW_vl, ↓oneW_vr, ↓lendW_nil, ↓lendW_vl, ↓lendW_vr, ↓trW_vl, ↓trW_vr, ↓ifB_t, ↓ifB_f, ↓ifB_d, ↓ifB_n, ↓truW_bl, ↓truW_int, ↓truW_lst, ↓truW_tup, ↓truW_non, ↓opK_add, ↓opK_addT, ↓opK_addL, ↓opK_addS, ↓opK_sub, ↓opK_mul, ↓opK_mulT, ↓opK_mulL, ↓opK_fdiv, ↓opK_mod, ↓opK_pow, ↓opK_shl, ↓opK_band, ↓opK_neg, ↓opK_notB, ↓opK_not, ↓opK_lt, ↓opK_le, ↓opK_gt, ↓opK_ge, ↓opK_eq, ↓opK_ne, ↓opK_isN, ↓opK_notN, ↓opK_isB, ↓opK_notB2, ↓opK_lenL, ↓opK_lenT, ↓opK_lenC, ↓opK_lenS, ↓opK_listL, ↓opK_listT, ↓opK_tupL, ↓opK_tupT, ↓opK_int, ↓opK_intB, ↓opK_abs, ↓opK_max2, ↓opK_min2, ↓opK_isT, ↓opK_eqL, ↓opK_neL, ↓opK_eqT, ↓opK_neT, ↓opK_eqS, ↓opK_neS, ↓opK_eqB, ↓opK_neB, ↓opK_sumT, ↓opK_sumL, ↓opK_maxT, ↓opK_maxL, ↓opK_minT, ↓opK_minL, ↓opK_sortT, ↓opK_sortL, ↓opK_sortRT, ↓opK_sortRL, ↓opK_idxL, ↓opK_idxT, ↓opK_idxC, ↓opK_revL, ↓opK_revT, ↓opK_lrg1, ↓opK_lrg2, ↓opK_trg1, ↓opK_trg2, ↓itemW_0, ↓itemW_1, ↓itemW_2, ↓itemW_3, ↓itemsW_L, ↓itemsW_T, ↓itemsW_S, ↓itemsW_r1, ↓itemsW_r2, ↓bindW_nm, ↓bindW_nil, ↓bindW_cons, ↓back_vl, ↓back_vr, ↓back_vrN, ↓back_nil, ↓low_z, ↓low_11, ↓low_1, ↓awayE_z, ↓awayE_1, ↓awayE_2, ↓pairW, ↓intW, ↓exts1, ↓low_2, ↓low_any, ↓low_set, ↓low_len, ↓awayE_s, ↓itemsW_enL, ↓itemsW_enT, ↓itemsW_esL, ↓itemsW_esT, ↓itemsW_zTT, ↓itemsW_zLL, ↓itemsW_zTL, ↓itemsW_zLT, ↓itemsW_zST, ↓itemsW_zSL, ↓itemsW_enS, ↓opK_mulS, ↓opK_imul, ↓opK_idxS, ↓opK_strI, ↓opK_strS, ↓opK_takeS, ↓opK_dropS, ↓opK_initS, ↓opK_inC, ↓opK_niC, keepO, lvOf, lvO_int, lvO_bl, lvO_str, lvO_tup, lvO_lst, lvO_non, isTy, isNon, List.set_cons_zero, List.set_cons_succ, List.length_cons, List.length_nil, getE_cons0, getE_consS, Option.isNone_none, Option.isNone_some, Bool.false_eq_true, if_true, if_false, Bool.not_true, Bool.not_false, Nat.zero_add, Nat.reduceAdd, Nat.reduceLT, Nat.reduceSub, true_and, and_true, Nat.min_zero, Nat.zero_min, Nat.reduceBEq, Bool.and_true, Bool.true_and, decide_true, decide_false, outs_z, outs_S, outs_N, outs_0, Int.reduceLT, Int.reduceLE, Nat.reduceLeDiff, List.isEmpty_cons, List.isEmpty_nil, and_self, isLstAt_0, isLstAt_S, isAtomAt_0, isAtomAt_S, pOf_0, pOf_S, cmpLt, cmpLe, cmpGt, cmpGe]
            refine ⟨sz_of (by rw [strC_len]; simp; omega), sz_of (by rw [strC_len]; show cs.length + 1 ≤ _; omega), cs ++ [76], ⟨by simp; omega, fun z hz => ?_, fun _ => by simp⟩, ?_⟩
            · rcases List.mem_append.mp hz with hz | hz
              · exact hcm z hz
              · rw [List.mem_singleton.mp hz]; decide
            · rw [← strC_app]; rfl
        rintro r ⟨gs, hgs, rfl⟩
        simp only [↓exW_skip, ↓exW_seq, ↓exW_setn, ↓exW_setc, ↓exW_setJ, ↓putW_at, ↓putE_L, ↓ixW_0, ↓ixW_1, ↓exW_aug, ↓exW_retv, ↓exW_ex, ↓exW_app, ↓exW_ext, ↓exW_ite, ↓exW_for, ↓exW_whl, ↓exW_ret_op, ↓exW_ret_lit, ↓exW_ret_call, ↓exW_ret_mkt, ↓exW_ret_mkl, ↓exW_ret_ite, ↓exW_ret_and, ↓exW_ret_or, ↓exW_ret_comp, ↓exW_ret_chain, ↓exW_ret_pop, ↓evW_lit, ↓evW_var, ↓evW_nil, ↓evW_cons, ↓evW_op, ↓evW_mkl, ↓evW_mkt, ↓evW_ite, ↓evW_and, ↓evW_or, ↓evW_call, ↓evW_comp, ↓evW_pop, ↓evW_chain, ↓hdQ_1, ↓contF_nx, ↓contF_rt, ↓atE_0, ↓atE_S, ↓borW_nil, ↓borW_vl, ↓borW_vrT, ↓borW_vrF, ↓takW_nil, ↓takW_vl, ↓takW_vr, ↓oneW_vl, ↓oneW_vr, ↓lendW_nil, ↓lendW_vl, ↓lendW_vr, ↓trW_vl, ↓trW_vr, ↓ifB_t, ↓ifB_f, ↓ifB_d, ↓ifB_n, ↓truW_bl, ↓truW_int, ↓truW_lst, ↓truW_tup, ↓truW_non, ↓opK_add, ↓opK_addT, ↓opK_addL, ↓opK_addS, ↓opK_sub, ↓opK_mul, ↓opK_mulT, ↓opK_mulL, ↓opK_fdiv, ↓opK_mod, ↓opK_pow, ↓opK_shl, ↓opK_band, ↓opK_neg, ↓opK_notB, ↓opK_not, ↓opK_lt, ↓opK_le, ↓opK_gt, ↓opK_ge, ↓opK_eq, ↓opK_ne, ↓opK_isN, ↓opK_notN, ↓opK_isB, ↓opK_notB2, ↓opK_lenL, ↓opK_lenT, ↓opK_lenC, ↓opK_lenS, ↓opK_listL, ↓opK_listT, ↓opK_tupL, ↓opK_tupT, ↓opK_int, ↓opK_intB, ↓opK_abs, ↓opK_max2, ↓opK_min2, ↓opK_isT, ↓opK_eqL, ↓opK_neL, ↓opK_eqT, ↓opK_neT, ↓opK_eqS, ↓opK_neS, ↓opK_eqB, ↓opK_neB, ↓opK_sumT, ↓opK_sumL, ↓opK_maxT, ↓opK_maxL, ↓opK_minT, ↓opK_minL, ↓opK_sortT, ↓opK_sortL, ↓opK_sortRT, ↓opK_sortRL, ↓opK_idxL, ↓opK_idxT, ↓opK_idxC, ↓opK_revL, ↓opK_revT, ↓opK_lrg1, ↓opK_lrg2, ↓opK_trg1, ↓opK_trg2, ↓itemW_0, ↓itemW_1, ↓itemW_2, ↓itemW_3, ↓itemsW_L, ↓itemsW_T, ↓itemsW_S, ↓itemsW_r1, ↓itemsW_r2, ↓bindW_nm, ↓bindW_nil, ↓bindW_cons, ↓back_vl, ↓back_vr, ↓back_vrN, ↓back_nil, ↓low_z, ↓low_11, ↓low_1, ↓awayE_z, ↓awayE_1, ↓awayE_2, ↓pairW, ↓intW, ↓exts1, ↓low_2, ↓low_any, ↓low_set, ↓low_len, ↓awayE_s, ↓itemsW_enL, ↓itemsW_enT, ↓itemsW_esL, ↓itemsW_esT, ↓itemsW_zTT, ↓itemsW_zLL, ↓itemsW_zTL, ↓itemsW_zLT, ↓itemsW_zST, ↓itemsW_zSL, ↓itemsW_enS, ↓opK_mulS, ↓opK_imul, ↓opK_idxS, ↓opK_strI, ↓opK_strS, ↓opK_takeS, ↓opK_dropS, ↓opK_initS, ↓opK_inC, ↓opK_niC, keepO, lvOf, lvO_int, lvO_bl, lvO_str, lvO_tup, lvO_lst, lvO_non, isTy, isNon, List.set_cons_zero, List.set_cons_succ, List.length_cons, List.length_nil, getE_cons0, getE_consS, Option.isNone_none, Option.isNone_some, Bool.false_eq_true, if_true, if_false, Bool.not_true, Bool.not_false, Nat.zero_add, Nat.reduceAdd, Nat.reduceLT, Nat.reduceSub, true_and, and_true, Nat.min_zero, Nat.zero_min, Nat.reduceBEq, Bool.and_true, Bool.true_and, decide_true, decide_false, outs_z, outs_S, outs_N, outs_0, Int.reduceLT, Int.reduceLE, Nat.reduceLeDiff, List.isEmpty_cons, List.isEmpty_nil, and_self, isLstAt_0, isLstAt_S, isAtomAt_0, isAtomAt_S, pOf_0, pOf_S, cmpLt, cmpLe, cmpGt, cmpGe]
        rw [appW_at rfl]
        refine ⟨by rw [List.length_map, List.length_map]; omega, _, fs ++ [gs], x3, _, 0, by simp [hl], fun z hz => ?_, ?_, by rw [List.map_append, List.map_append, Nat.min_zero]; rfl⟩
        · rcases List.mem_append.mp hz with hz | hz
          · exact hf z hz
          · rw [List.mem_singleton.mp hz]; exact hgs
        · rintro e he; cases he; rfl
      · rintro r ⟨a1, fs, x3, x5, l, hl, hf, hx5, rfl⟩
        rw [List.length_range] at hl
        exact ⟨_, fs, _, _, _, ⟨by omega, by omega⟩, hf, hx5, rfl⟩
    rintro r ⟨a1, fs, x3, x5, l, hl, hf, hx5, rfl⟩
    have hcl := cnt_le (fs := fs.map strC) (b := 3) fun f hfm => by
      obtain ⟨cs, hcs, rfl⟩ := List.mem_map.mp hfm
      exact (hf cs hcs).1.2
    have hcg : 4 ≤ cntV (fs.map strC) := by
      cases fs with
      | nil => simp at hl
      | cons g fs =>
        have h1 := (hf g List.mem_cons_self).1.1
        have h2 : 2 ^ 1 ≤ 2 ^ g.length := Nat.pow_le_pow_right (by decide) h1
        show 4 ≤ (pgV (strC g) :: _).sum
        rw [List.sum_cons]
        unfold pgV
        rw [strC_len]
        omega
    rw [List.length_map] at hcl
    have hbd : fs.length * (2 * 2 ^ 3) ≤ 4 * (2 * 2 ^ 3) := Nat.mul_le_mul_right _ hl.2
    generalize hcv : cntV (fs.map strC) = cv at hcl hcg
    refine seq_by (fun r => ∃ l x5, r = [(some (Ent.mk (Box ds a1) 1 true)), (some (Ent.mk (.str (bindS b)) 0 false)), some ⟨.lst ((fs.map strC).map D.str), l, false⟩, x3, none, x5, (some (Ent.mk (natD cv) 0 false)), none]) ?_ ?_
    · simp only [List.length_map, ↓exW_skip, ↓exW_seq, ↓exW_setn, ↓exW_setc, ↓exW_setJ, ↓putW_at, ↓putE_L, ↓ixW_0, ↓ixW_1, ↓exW_aug, ↓exW_retv, ↓exW_ex, ↓exW_app, ↓exW_ext, ↓exW_ite, ↓exW_for, ↓exW_whl, ↓exW_ret_op, ↓exW_ret_lit, ↓exW_ret_call, ↓exW_ret_mkt, ↓exW_ret_mkl, ↓exW_ret_ite, ↓exW_ret_and, ↓exW_ret_or, ↓exW_ret_comp, ↓exW_ret_chain, ↓exW_ret_pop, ↓evW_lit, ↓evW_var, ↓evW_nil, ↓evW_cons, ↓evW_op, ↓evW_mkl, ↓evW_mkt, ↓evW_ite, ↓evW_and, ↓evW_or, ↓evW_call, ↓evW_comp, ↓evW_pop, ↓evW_chain, ↓hdQ_1, ↓contF_nx, ↓contF_rt, ↓atE_0, ↓atE_S, ↓borW_nil, ↓borW_vl, ↓borW_vrT, ↓borW_vrF, ↓takW_nil, ↓takW_vl, ↓takW_vr, ↓oneW_vl, ↓oneW_vr, ↓lendW_nil, ↓lendW_vl, ↓lendW_vr, ↓trW_vl, ↓trW_vr, ↓ifB_t, ↓ifB_f, ↓ifB_d, ↓ifB_n, ↓truW_bl, ↓truW_int, ↓truW_lst, ↓truW_tup, ↓truW_non, ↓opK_add, ↓opK_addT, ↓opK_addL, ↓opK_addS, ↓opK_sub, ↓opK_mul, ↓opK_mulT, ↓opK_mulL, ↓opK_fdiv, ↓opK_mod, ↓opK_pow, ↓opK_shl, ↓opK_band, ↓opK_neg, ↓opK_notB, ↓opK_not, ↓opK_lt, ↓opK_le, ↓opK_gt, ↓opK_ge, ↓opK_eq, ↓opK_ne, ↓opK_isN, ↓opK_notN, ↓opK_isB, ↓opK_notB2, ↓opK_lenL, ↓opK_lenT, ↓opK_lenC, ↓opK_lenS, ↓opK_listL, ↓opK_listT, ↓opK_tupL, ↓opK_tupT, ↓opK_int, ↓opK_intB, ↓opK_abs, ↓opK_max2, ↓opK_min2, ↓opK_isT, ↓opK_eqL, ↓opK_neL, ↓opK_eqT, ↓opK_neT, ↓opK_eqS, ↓opK_neS, ↓opK_eqB, ↓opK_neB, ↓opK_sumT, ↓opK_sumL, ↓opK_maxT, ↓opK_maxL, ↓opK_minT, ↓opK_minL, ↓opK_sortT, ↓opK_sortL, ↓opK_sortRT, ↓opK_sortRL, ↓opK_idxL, ↓opK_idxT, ↓opK_idxC, ↓opK_revL, ↓opK_revT, ↓opK_lrg1, ↓opK_lrg2, ↓opK_trg1, ↓opK_trg2, ↓itemW_0, ↓itemW_1, ↓itemW_2, ↓itemW_3, ↓itemsW_L, ↓itemsW_T, ↓itemsW_S, ↓itemsW_r1, ↓itemsW_r2, ↓bindW_nm, ↓bindW_nil, ↓bindW_cons, ↓back_vl, ↓back_vr, ↓back_vrN, ↓back_nil, ↓low_z, ↓low_11, ↓low_1, ↓awayE_z, ↓awayE_1, ↓awayE_2, ↓pairW, ↓intW, ↓exts1, ↓low_2, ↓low_any, ↓low_set, ↓low_len, ↓awayE_s, ↓itemsW_enL, ↓itemsW_enT, ↓itemsW_esL, ↓itemsW_esT, ↓itemsW_zTT, ↓itemsW_zLL, ↓itemsW_zTL, ↓itemsW_zLT, ↓itemsW_zST, ↓itemsW_zSL, ↓itemsW_enS, ↓opK_mulS, ↓opK_imul, ↓opK_idxS, ↓opK_strI, ↓opK_strS, ↓opK_takeS, ↓opK_dropS, ↓opK_initS, ↓opK_inC, ↓opK_niC, keepO, lvOf, lvO_int, lvO_bl, lvO_str, lvO_tup, lvO_lst, lvO_non, isTy, isNon, List.set_cons_zero, List.set_cons_succ, List.length_cons, List.length_nil, getE_cons0, getE_consS, Option.isNone_none, Option.isNone_some, Bool.false_eq_true, if_true, if_false, Bool.not_true, Bool.not_false, Nat.zero_add, Nat.reduceAdd, Nat.reduceLT, Nat.reduceSub, true_and, and_true, Nat.min_zero, Nat.zero_min, Nat.reduceBEq, Bool.and_true, Bool.true_and, decide_true, decide_false, outs_z, outs_S, outs_N, outs_0, Int.reduceLT, Int.reduceLE, Nat.reduceLeDiff, List.isEmpty_cons, List.isEmpty_nil, and_self, isLstAt_0, isLstAt_S, isAtomAt_0, isAtomAt_S, pOf_0, pOf_S, cmpLt, cmpLe, cmpGt, cmpGe]
      refine ⟨⟨sz_of (by omega), ?_⟩, ?_⟩
      · cases x5 with
        | none => rfl
        | some e => have := hx5 e rfl; simp [quietE, getE, this]
      refine comp_g D.str (fun f => natD (pgV f)) (fun f hm => ?_) fun l r3 er => ?_
      · obtain ⟨cs, hcs, rfl⟩ := List.mem_map.mp hm
        have hp : ∀ K, callW (callF T (n + 1)) p [(.str (strC cs), 0)] K ↔ K (natD (pgV (strC cs))) 0 [some (.str (strC cs), 0)] := fun K => callW_of (lawpages_ok hp (by have := (hf cs hcs).1.2; rw [strC_len]; omega))
        simp only [↓hp, ↓exW_skip, ↓exW_seq, ↓exW_setn, ↓exW_setc, ↓exW_setJ, ↓putW_at, ↓putE_L, ↓ixW_0, ↓ixW_1, ↓exW_aug, ↓exW_retv, ↓exW_ex, ↓exW_app, ↓exW_ext, ↓exW_ite, ↓exW_for, ↓exW_whl, ↓exW_ret_op, ↓exW_ret_lit, ↓exW_ret_call, ↓exW_ret_mkt, ↓exW_ret_mkl, ↓exW_ret_ite, ↓exW_ret_and, ↓exW_ret_or, ↓exW_ret_comp, ↓exW_ret_chain, ↓exW_ret_pop, ↓evW_lit, ↓evW_var, ↓evW_nil, ↓evW_cons, ↓evW_op, ↓evW_mkl, ↓evW_mkt, ↓evW_ite, ↓evW_and, ↓evW_or, ↓evW_call, ↓evW_comp, ↓evW_pop, ↓evW_chain, ↓hdQ_1, ↓contF_nx, ↓contF_rt, ↓atE_0, ↓atE_S, ↓borW_nil, ↓borW_vl, ↓borW_vrT, ↓borW_vrF, ↓takW_nil, ↓takW_vl, ↓takW_vr, ↓oneW_vl, ↓oneW_vr, ↓lendW_nil, ↓lendW_vl, ↓lendW_vr, ↓trW_vl, ↓trW_vr, ↓ifB_t, ↓ifB_f, ↓ifB_d, ↓ifB_n, ↓truW_bl, ↓truW_int, ↓truW_lst, ↓truW_tup, ↓truW_non, ↓opK_add, ↓opK_addT, ↓opK_addL, ↓opK_addS, ↓opK_sub, ↓opK_mul, ↓opK_mulT, ↓opK_mulL, ↓opK_fdiv, ↓opK_mod, ↓opK_pow, ↓opK_shl, ↓opK_band, ↓opK_neg, ↓opK_notB, ↓opK_not, ↓opK_lt, ↓opK_le, ↓opK_gt, ↓opK_ge, ↓opK_eq, ↓opK_ne, ↓opK_isN, ↓opK_notN, ↓opK_isB, ↓opK_notB2, ↓opK_lenL, ↓opK_lenT, ↓opK_lenC, ↓opK_lenS, ↓opK_listL, ↓opK_listT, ↓opK_tupL, ↓opK_tupT, ↓opK_int, ↓opK_intB, ↓opK_abs, ↓opK_max2, ↓opK_min2, ↓opK_isT, ↓opK_eqL, ↓opK_neL, ↓opK_eqT, ↓opK_neT, ↓opK_eqS, ↓opK_neS, ↓opK_eqB, ↓opK_neB, ↓opK_sumT, ↓opK_sumL, ↓opK_maxT, ↓opK_maxL, ↓opK_minT, ↓opK_minL, ↓opK_sortT, ↓opK_sortL, ↓opK_sortRT, ↓opK_sortRL, ↓opK_idxL, ↓opK_idxT, ↓opK_idxC, ↓opK_revL, ↓opK_revT, ↓opK_lrg1, ↓opK_lrg2, ↓opK_trg1, ↓opK_trg2, ↓itemW_0, ↓itemW_1, ↓itemW_2, ↓itemW_3, ↓itemsW_L, ↓itemsW_T, ↓itemsW_S, ↓itemsW_r1, ↓itemsW_r2, ↓bindW_nm, ↓bindW_nil, ↓bindW_cons, ↓back_vl, ↓back_vr, ↓back_vrN, ↓back_nil, ↓low_z, ↓low_11, ↓low_1, ↓awayE_z, ↓awayE_1, ↓awayE_2, ↓pairW, ↓intW, ↓exts1, ↓low_2, ↓low_any, ↓low_set, ↓low_len, ↓awayE_s, ↓itemsW_enL, ↓itemsW_enT, ↓itemsW_esL, ↓itemsW_esT, ↓itemsW_zTT, ↓itemsW_zLL, ↓itemsW_zTL, ↓itemsW_zLT, ↓itemsW_zST, ↓itemsW_zSL, ↓itemsW_enS, keepO, lvOf, lvO_int, lvO_bl, lvO_str, lvO_tup, lvO_lst, lvO_non, isTy, isNon, List.set_cons_zero, List.set_cons_succ, List.length_cons, List.length_nil, getE_cons0, getE_consS, Option.isNone_none, Option.isNone_some, Bool.false_eq_true, if_true, if_false, Bool.not_true, Bool.not_false, Nat.zero_add, Nat.reduceAdd, Nat.reduceLT, Nat.reduceSub, true_and, and_true, Nat.min_zero, Nat.zero_min, Nat.reduceBEq, Bool.and_true, Bool.true_and, decide_true, decide_false, outs_z, outs_S, outs_N, outs_0, Int.reduceLT, Int.reduceLE, Nat.reduceLeDiff, List.isEmpty_cons, List.isEmpty_nil, and_self, isLstAt_0, isLstAt_S, isAtomAt_0, isAtomAt_S, pOf_0, pOf_S, cmpLt, cmpLe, cmpGt, cmpGe]
        exact ⟨_, rfl⟩
      · have e : (fs.map strC).map (fun f => natD (pgV f)) = ((fs.map strC).map fun f => (pgV f : Int)).map D.int := by rw [List.map_map, List.map_map, List.map_map]; rfl
        have e2 : ((fs.map strC).map fun f => (pgV f : Int)).sum = ((cv : Nat) : Int) := by
          rw [← hcv]
          unfold cntV
          generalize fs.map strC = gs
          induction gs with
          | nil => rfl
          | cons f gs ih => simp only [List.map_cons, List.sum_cons, ih]; omega
        rw [e, er]
        simp only [e2, ↓exW_skip, ↓exW_seq, ↓exW_setn, ↓exW_setc, ↓exW_setJ, ↓putW_at, ↓putE_L, ↓ixW_0, ↓ixW_1, ↓exW_aug, ↓exW_retv, ↓exW_ex, ↓exW_app, ↓exW_ext, ↓exW_ite, ↓exW_for, ↓exW_whl, ↓exW_ret_op, ↓exW_ret_lit, ↓exW_ret_call, ↓exW_ret_mkt, ↓exW_ret_mkl, ↓exW_ret_ite, ↓exW_ret_and, ↓exW_ret_or, ↓exW_ret_comp, ↓exW_ret_chain, ↓exW_ret_pop, ↓evW_lit, ↓evW_var, ↓evW_nil, ↓evW_cons, ↓evW_op, ↓evW_mkl, ↓evW_mkt, ↓evW_ite, ↓evW_and, ↓evW_or, ↓evW_call, ↓evW_comp, ↓evW_pop, ↓evW_chain, ↓hdQ_1, ↓contF_nx, ↓contF_rt, ↓atE_0, ↓atE_S, ↓borW_nil, ↓borW_vl, ↓borW_vrT, ↓borW_vrF, ↓takW_nil, ↓takW_vl, ↓takW_vr, ↓oneW_vl, ↓oneW_vr, ↓lendW_nil, ↓lendW_vl, ↓lendW_vr, ↓trW_vl, ↓trW_vr, ↓ifB_t, ↓ifB_f, ↓ifB_d, ↓ifB_n, ↓truW_bl, ↓truW_int, ↓truW_lst, ↓truW_tup, ↓truW_non, ↓opK_add, ↓opK_addT, ↓opK_addL, ↓opK_addS, ↓opK_sub, ↓opK_mul, ↓opK_mulT, ↓opK_mulL, ↓opK_fdiv, ↓opK_mod, ↓opK_pow, ↓opK_shl, ↓opK_band, ↓opK_neg, ↓opK_notB, ↓opK_not, ↓opK_lt, ↓opK_le, ↓opK_gt, ↓opK_ge, ↓opK_eq, ↓opK_ne, ↓opK_isN, ↓opK_notN, ↓opK_isB, ↓opK_notB2, ↓opK_lenL, ↓opK_lenT, ↓opK_lenC, ↓opK_lenS, ↓opK_listL, ↓opK_listT, ↓opK_tupL, ↓opK_tupT, ↓opK_int, ↓opK_intB, ↓opK_abs, ↓opK_max2, ↓opK_min2, ↓opK_isT, ↓opK_eqL, ↓opK_neL, ↓opK_eqT, ↓opK_neT, ↓opK_eqS, ↓opK_neS, ↓opK_eqB, ↓opK_neB, ↓opK_sumT, ↓opK_sumL, ↓opK_maxT, ↓opK_maxL, ↓opK_minT, ↓opK_minL, ↓opK_sortT, ↓opK_sortL, ↓opK_sortRT, ↓opK_sortRL, ↓opK_idxL, ↓opK_idxT, ↓opK_idxC, ↓opK_revL, ↓opK_revT, ↓opK_lrg1, ↓opK_lrg2, ↓opK_trg1, ↓opK_trg2, ↓itemW_0, ↓itemW_1, ↓itemW_2, ↓itemW_3, ↓itemsW_L, ↓itemsW_T, ↓itemsW_S, ↓itemsW_r1, ↓itemsW_r2, ↓bindW_nm, ↓bindW_nil, ↓bindW_cons, ↓back_vl, ↓back_vr, ↓back_vrN, ↓back_nil, ↓low_z, ↓low_11, ↓low_1, ↓awayE_z, ↓awayE_1, ↓awayE_2, ↓pairW, ↓intW, ↓exts1, ↓low_2, ↓low_any, ↓low_set, ↓low_len, ↓awayE_s, ↓itemsW_enL, ↓itemsW_enT, ↓itemsW_esL, ↓itemsW_esT, ↓itemsW_zTT, ↓itemsW_zLL, ↓itemsW_zTL, ↓itemsW_zLT, ↓itemsW_zST, ↓itemsW_zSL, ↓itemsW_enS, keepO, lvOf, lvO_int, lvO_bl, lvO_str, lvO_tup, lvO_lst, lvO_non, isTy, isNon, List.set_cons_zero, List.set_cons_succ, List.length_cons, List.length_nil, getE_cons0, getE_consS, Option.isNone_none, Option.isNone_some, Bool.false_eq_true, if_true, if_false, Bool.not_true, Bool.not_false, Nat.zero_add, Nat.reduceAdd, Nat.reduceLT, Nat.reduceSub, true_and, and_true, Nat.min_zero, Nat.zero_min, Nat.reduceBEq, Bool.and_true, Bool.true_and, decide_true, decide_false, outs_z, outs_S, outs_N, outs_0, Int.reduceLT, Int.reduceLE, Nat.reduceLeDiff, List.isEmpty_cons, List.isEmpty_nil, and_self, isLstAt_0, isLstAt_S, isAtomAt_0, isAtomAt_S, pOf_0, pOf_S, cmpLt, cmpLe, cmpGt, cmpGe]
        exact ⟨_, _, rfl⟩
    rintro r ⟨l, x5, rfl⟩
    have hv := fun at_ K => hb at_ (cv : Int) K (by omega)
    have ev := fun at_ => drawV_lt (ds := ds) (at_ := at_) (m := (cv : Int)) (by omega)
    refine seq_by (fun r => ∃ (pg a2 : Nat), (1 ≤ pg ∧ pg ≤ cv) ∧ r = [(some (Ent.mk (Box ds a2) 1 true)), (some (Ent.mk (.str (bindS b)) 0 false)), some ⟨.lst ((fs.map strC).map D.str), l, false⟩, x3, none, x5, (some (Ent.mk (natD cv) 0 false)), (some (Ent.mk (natD pg) 0 false))]) ?_ ?_
    · simp only [↓hv, ↓h4, ↓h3, ↓exW_skip, ↓exW_seq, ↓exW_setn, ↓exW_setc, ↓exW_setJ, ↓putW_at, ↓putE_L, ↓ixW_0, ↓ixW_1, ↓exW_aug, ↓exW_retv, ↓exW_ex, ↓exW_app, ↓exW_ext, ↓exW_ite, ↓exW_for, ↓exW_whl, ↓exW_ret_op, ↓exW_ret_lit, ↓exW_ret_call, ↓exW_ret_mkt, ↓exW_ret_mkl, ↓exW_ret_ite, ↓exW_ret_and, ↓exW_ret_or, ↓exW_ret_comp, ↓exW_ret_chain, ↓exW_ret_pop, ↓evW_lit, ↓evW_var, ↓evW_nil, ↓evW_cons, ↓evW_op, ↓evW_mkl, ↓evW_mkt, ↓evW_ite, ↓evW_and, ↓evW_or, ↓evW_call, ↓evW_comp, ↓evW_pop, ↓evW_chain, ↓hdQ_1, ↓contF_nx, ↓contF_rt, ↓atE_0, ↓atE_S, ↓borW_nil, ↓borW_vl, ↓borW_vrT, ↓borW_vrF, ↓takW_nil, ↓takW_vl, ↓takW_vr, ↓oneW_vl, ↓oneW_vr, ↓lendW_nil, ↓lendW_vl, ↓lendW_vr, ↓trW_vl, ↓trW_vr, ↓ifB_t, ↓ifB_f, ↓ifB_d, ↓ifB_n, ↓truW_bl, ↓truW_int, ↓truW_lst, ↓truW_tup, ↓truW_non, ↓opK_add, ↓opK_addT, ↓opK_addL, ↓opK_addS, ↓opK_sub, ↓opK_mul, ↓opK_mulT, ↓opK_mulL, ↓opK_fdiv, ↓opK_mod, ↓opK_pow, ↓opK_shl, ↓opK_band, ↓opK_neg, ↓opK_notB, ↓opK_not, ↓opK_lt, ↓opK_le, ↓opK_gt, ↓opK_ge, ↓opK_eq, ↓opK_ne, ↓opK_isN, ↓opK_notN, ↓opK_isB, ↓opK_notB2, ↓opK_lenL, ↓opK_lenT, ↓opK_lenC, ↓opK_lenS, ↓opK_listL, ↓opK_listT, ↓opK_tupL, ↓opK_tupT, ↓opK_int, ↓opK_intB, ↓opK_abs, ↓opK_max2, ↓opK_min2, ↓opK_isT, ↓opK_eqL, ↓opK_neL, ↓opK_eqT, ↓opK_neT, ↓opK_eqS, ↓opK_neS, ↓opK_eqB, ↓opK_neB, ↓opK_sumT, ↓opK_sumL, ↓opK_maxT, ↓opK_maxL, ↓opK_minT, ↓opK_minL, ↓opK_sortT, ↓opK_sortL, ↓opK_sortRT, ↓opK_sortRL, ↓opK_idxL, ↓opK_idxT, ↓opK_idxC, ↓opK_revL, ↓opK_revT, ↓opK_lrg1, ↓opK_lrg2, ↓opK_trg1, ↓opK_trg2, ↓itemW_0, ↓itemW_1, ↓itemW_2, ↓itemW_3, ↓itemsW_L, ↓itemsW_T, ↓itemsW_S, ↓itemsW_r1, ↓itemsW_r2, ↓bindW_nm, ↓bindW_nil, ↓bindW_cons, ↓back_vl, ↓back_vr, ↓back_vrN, ↓back_nil, ↓low_z, ↓low_11, ↓low_1, ↓awayE_z, ↓awayE_1, ↓awayE_2, ↓pairW, ↓intW, ↓exts1, ↓low_2, ↓low_any, ↓low_set, ↓low_len, ↓awayE_s, ↓itemsW_enL, ↓itemsW_enT, ↓itemsW_esL, ↓itemsW_esT, ↓itemsW_zTT, ↓itemsW_zLL, ↓itemsW_zTL, ↓itemsW_zLT, ↓itemsW_zST, ↓itemsW_zSL, ↓itemsW_enS, ↓opK_mulS, ↓opK_imul, ↓opK_idxS, ↓opK_strI, ↓opK_strS, ↓opK_takeS, ↓opK_dropS, ↓opK_initS, ↓opK_inC, ↓opK_niC, keepO, lvOf, lvO_int, lvO_bl, lvO_str, lvO_tup, lvO_lst, lvO_non, isTy, isNon, List.set_cons_zero, List.set_cons_succ, List.length_cons, List.length_nil, getE_cons0, getE_consS, Option.isNone_none, Option.isNone_some, Bool.false_eq_true, if_true, if_false, Bool.not_true, Bool.not_false, Nat.zero_add, Nat.reduceAdd, Nat.reduceLT, Nat.reduceSub, true_and, and_true, Nat.min_zero, Nat.zero_min, Nat.reduceBEq, Bool.and_true, Bool.true_and, decide_true, decide_false, outs_z, outs_S, outs_N, outs_0, Int.reduceLT, Int.reduceLE, Nat.reduceLeDiff, List.isEmpty_cons, List.isEmpty_nil, and_self, isLstAt_0, isLstAt_S, isAtomAt_0, isAtomAt_S, pOf_0, pOf_S, cmpLt, cmpLe, cmpGt, cmpGe]
      refine ⟨rfl, item_any (show _ ∧ _ < ((3 : Nat) : Int) from e3 _) fun d hd => ?_⟩
      have q1 := ev a1
      have q2 := e4 (a1 + 1)
      have fin : ∀ i : Int, 1 ≤ i → i ≤ cv → d = .int i → ∃ (pg a2 : Nat), (1 ≤ pg ∧ pg ≤ cv) ∧ [(some (Ent.mk (Box ds (a1 + 1 + 1 + 1)) 1 true)), (some (Ent.mk (.str (bindS b)) 0 false)), some ⟨.lst ((fs.map strC).map D.str), l, false⟩, x3, none, x5, (some (Ent.mk (natD cv) 0 false)), (some (Ent.mk d 0 false))] = [(some (Ent.mk (Box ds a2) 1 true)), (some (Ent.mk (.str (bindS b)) 0 false)), some ⟨.lst ((fs.map strC).map D.str), l, false⟩, x3, none, x5, (some (Ent.mk (natD cv) 0 false)), (some (Ent.mk (natD pg) 0 false))] := by
        rintro i h1 h2 rfl
        obtain ⟨j, rfl⟩ := Int.eq_ofNat_of_zero_le (show 0 ≤ i by omega)
        exact ⟨j, _, by omega, rfl⟩
      simp only [List.mem_cons, List.not_mem_nil, or_false] at hd
      rcases hd with h | h | h
      · exact fin cv (by omega) (by omega) h
      · exact fin _ (by omega) (by omega) h
      · refine fin _ ?_ ?_ h
        · split <;> omega
        · split <;> omega
    rintro r ⟨pg, a2, hpg, rfl⟩
    cases b with
    | false =>
      simp only [↓low_any1, ↓exW_skip, ↓exW_seq, ↓exW_setn, ↓exW_setc, ↓exW_setJ, ↓putW_at, ↓putE_L, ↓ixW_0, ↓ixW_1, ↓exW_aug, ↓exW_retv, ↓exW_ex, ↓exW_app, ↓exW_ext, ↓exW_ite, ↓exW_for, ↓exW_whl, ↓exW_ret_op, ↓exW_ret_lit, ↓exW_ret_call, ↓exW_ret_mkt, ↓exW_ret_mkl, ↓exW_ret_ite, ↓exW_ret_and, ↓exW_ret_or, ↓exW_ret_comp, ↓exW_ret_chain, ↓exW_ret_pop, ↓evW_lit, ↓evW_var, ↓evW_nil, ↓evW_cons, ↓evW_op, ↓evW_mkl, ↓evW_mkt, ↓evW_ite, ↓evW_and, ↓evW_or, ↓evW_call, ↓evW_comp, ↓evW_pop, ↓evW_chain, ↓hdQ_1, ↓contF_nx, ↓contF_rt, ↓atE_0, ↓atE_S, ↓borW_nil, ↓borW_vl, ↓borW_vrT, ↓borW_vrF, ↓takW_nil, ↓takW_vl, ↓takW_vr, ↓oneW_vl, ↓oneW_vr, ↓lendW_nil, ↓lendW_vl, ↓lendW_vr, ↓trW_vl, ↓trW_vr, ↓ifB_t, ↓ifB_f, ↓ifB_d, ↓ifB_n, ↓truW_bl, ↓truW_int, ↓truW_lst, ↓truW_tup, ↓truW_non, ↓opK_add, ↓opK_addT, ↓opK_addL, ↓opK_addS, ↓opK_sub, ↓opK_mul, ↓opK_mulT, ↓opK_mulL, ↓opK_fdiv, ↓opK_mod, ↓opK_pow, ↓opK_shl, ↓opK_band, ↓opK_neg, ↓opK_notB, ↓opK_not, ↓opK_lt, ↓opK_le, ↓opK_gt, ↓opK_ge, ↓opK_eq, ↓opK_ne, ↓opK_isN, ↓opK_notN, ↓opK_isB, ↓opK_notB2, ↓opK_lenL, ↓opK_lenT, ↓opK_lenC, ↓opK_lenS, ↓opK_listL, ↓opK_listT, ↓opK_tupL, ↓opK_tupT, ↓opK_int, ↓opK_intB, ↓opK_abs, ↓opK_max2, ↓opK_min2, ↓opK_isT, ↓opK_eqL, ↓opK_neL, ↓opK_eqT, ↓opK_neT, ↓opK_eqS, ↓opK_neS, ↓opK_eqB, ↓opK_neB, ↓opK_sumT, ↓opK_sumL, ↓opK_maxT, ↓opK_maxL, ↓opK_minT, ↓opK_minL, ↓opK_sortT, ↓opK_sortL, ↓opK_sortRT, ↓opK_sortRL, ↓opK_idxL, ↓opK_idxT, ↓opK_idxC, ↓opK_revL, ↓opK_revT, ↓opK_lrg1, ↓opK_lrg2, ↓opK_trg1, ↓opK_trg2, ↓itemW_0, ↓itemW_1, ↓itemW_2, ↓itemW_3, ↓itemsW_L, ↓itemsW_T, ↓itemsW_S, ↓itemsW_r1, ↓itemsW_r2, ↓bindW_nm, ↓bindW_nil, ↓bindW_cons, ↓back_vl, ↓back_vr, ↓back_vrN, ↓back_nil, ↓low_z, ↓low_11, ↓low_1, ↓awayE_z, ↓awayE_1, ↓awayE_2, ↓pairW, ↓intW, ↓exts1, ↓low_2, ↓low_any, ↓low_set, ↓low_len, ↓awayE_s, ↓itemsW_enL, ↓itemsW_enT, ↓itemsW_esL, ↓itemsW_esT, ↓itemsW_zTT, ↓itemsW_zLL, ↓itemsW_zTL, ↓itemsW_zLT, ↓itemsW_zST, ↓itemsW_zSL, ↓itemsW_enS, ↓opK_mulS, ↓opK_imul, ↓opK_idxS, ↓opK_strI, ↓opK_strS, ↓opK_takeS, ↓opK_dropS, ↓opK_initS, ↓opK_inC, ↓opK_niC, keepO, lvOf, lvO_int, lvO_bl, lvO_str, lvO_tup, lvO_lst, lvO_non, isTy, isNon, List.set_cons_zero, List.set_cons_succ, List.length_cons, List.length_nil, getE_cons0, getE_consS, Option.isNone_none, Option.isNone_some, Bool.false_eq_true, if_true, if_false, Bool.not_true, Bool.not_false, Nat.zero_add, Nat.reduceAdd, Nat.reduceLT, Nat.reduceSub, true_and, and_true, Nat.min_zero, Nat.zero_min, Nat.reduceBEq, Bool.and_true, Bool.true_and, decide_true, decide_false, outs_z, outs_S, outs_N, outs_0, Int.reduceLT, Int.reduceLE, Nat.reduceLeDiff, List.isEmpty_cons, List.isEmpty_nil, and_self, isLstAt_0, isLstAt_S, isAtomAt_0, isAtomAt_S, pOf_0, pOf_S, cmpLt, cmpLe, cmpGt, cmpGe]
      exact ⟨rfl, _, fs, pg, a2, rfl, rfl, hl, hf, hpg.1, by rw [hcv]; exact hpg.2⟩
    | true =>
      simp only [↓low_any1, ↓exW_skip, ↓exW_seq, ↓exW_setn, ↓exW_setc, ↓exW_setJ, ↓putW_at, ↓putE_L, ↓ixW_0, ↓ixW_1, ↓exW_aug, ↓exW_retv, ↓exW_ex, ↓exW_app, ↓exW_ext, ↓exW_ite, ↓exW_for, ↓exW_whl, ↓exW_ret_op, ↓exW_ret_lit, ↓exW_ret_call, ↓exW_ret_mkt, ↓exW_ret_mkl, ↓exW_ret_ite, ↓exW_ret_and, ↓exW_ret_or, ↓exW_ret_comp, ↓exW_ret_chain, ↓exW_ret_pop, ↓evW_lit, ↓evW_var, ↓evW_nil, ↓evW_cons, ↓evW_op, ↓evW_mkl, ↓evW_mkt, ↓evW_ite, ↓evW_and, ↓evW_or, ↓evW_call, ↓evW_comp, ↓evW_pop, ↓evW_chain, ↓hdQ_1, ↓contF_nx, ↓contF_rt, ↓atE_0, ↓atE_S, ↓borW_nil, ↓borW_vl, ↓borW_vrT, ↓borW_vrF, ↓takW_nil, ↓takW_vl, ↓takW_vr, ↓oneW_vl, ↓oneW_vr, ↓lendW_nil, ↓lendW_vl, ↓lendW_vr, ↓trW_vl, ↓trW_vr, ↓ifB_t, ↓ifB_f, ↓ifB_d, ↓ifB_n, ↓truW_bl, ↓truW_int, ↓truW_lst, ↓truW_tup, ↓truW_non, ↓opK_add, ↓opK_addT, ↓opK_addL, ↓opK_addS, ↓opK_sub, ↓opK_mul, ↓opK_mulT, ↓opK_mulL, ↓opK_fdiv, ↓opK_mod, ↓opK_pow, ↓opK_shl, ↓opK_band, ↓opK_neg, ↓opK_notB, ↓opK_not, ↓opK_lt, ↓opK_le, ↓opK_gt, ↓opK_ge, ↓opK_eq, ↓opK_ne, ↓opK_isN, ↓opK_notN, ↓opK_isB, ↓opK_notB2, ↓opK_lenL, ↓opK_lenT, ↓opK_lenC, ↓opK_lenS, ↓opK_listL, ↓opK_listT, ↓opK_tupL, ↓opK_tupT, ↓opK_int, ↓opK_intB, ↓opK_abs, ↓opK_max2, ↓opK_min2, ↓opK_isT, ↓opK_eqL, ↓opK_neL, ↓opK_eqT, ↓opK_neT, ↓opK_eqS, ↓opK_neS, ↓opK_eqB, ↓opK_neB, ↓opK_sumT, ↓opK_sumL, ↓opK_maxT, ↓opK_maxL, ↓opK_minT, ↓opK_minL, ↓opK_sortT, ↓opK_sortL, ↓opK_sortRT, ↓opK_sortRL, ↓opK_idxL, ↓opK_idxT, ↓opK_idxC, ↓opK_revL, ↓opK_revT, ↓opK_lrg1, ↓opK_lrg2, ↓opK_trg1, ↓opK_trg2, ↓itemW_0, ↓itemW_1, ↓itemW_2, ↓itemW_3, ↓itemsW_L, ↓itemsW_T, ↓itemsW_S, ↓itemsW_r1, ↓itemsW_r2, ↓bindW_nm, ↓bindW_nil, ↓bindW_cons, ↓back_vl, ↓back_vr, ↓back_vrN, ↓back_nil, ↓low_z, ↓low_11, ↓low_1, ↓awayE_z, ↓awayE_1, ↓awayE_2, ↓pairW, ↓intW, ↓exts1, ↓low_2, ↓low_any, ↓low_set, ↓low_len, ↓awayE_s, ↓itemsW_enL, ↓itemsW_enT, ↓itemsW_esL, ↓itemsW_esT, ↓itemsW_zTT, ↓itemsW_zLL, ↓itemsW_zTL, ↓itemsW_zLT, ↓itemsW_zST, ↓itemsW_zSL, ↓itemsW_enS, ↓opK_mulS, ↓opK_imul, ↓opK_idxS, ↓opK_strI, ↓opK_strS, ↓opK_takeS, ↓opK_dropS, ↓opK_initS, ↓opK_inC, ↓opK_niC, keepO, lvOf, lvO_int, lvO_bl, lvO_str, lvO_tup, lvO_lst, lvO_non, isTy, isNon, List.set_cons_zero, List.set_cons_succ, List.length_cons, List.length_nil, getE_cons0, getE_consS, Option.isNone_none, Option.isNone_some, Bool.false_eq_true, if_true, if_false, Bool.not_true, Bool.not_false, Nat.zero_add, Nat.reduceAdd, Nat.reduceLT, Nat.reduceSub, true_and, and_true, Nat.min_zero, Nat.zero_min, Nat.reduceBEq, Bool.and_true, Bool.true_and, decide_true, decide_false, outs_z, outs_S, outs_N, outs_0, Int.reduceLT, Int.reduceLE, Nat.reduceLeDiff, List.isEmpty_cons, List.isEmpty_nil, and_self, isLstAt_0, isLstAt_S, isAtomAt_0, isAtomAt_S, pOf_0, pOf_S, cmpLt, cmpLe, cmpGt, cmpGe]
      exact ⟨rfl, _, fs, pg, a2, rfl, rfl, hl, hf, hpg.1, by rw [hcv]; exact hpg.2⟩
  obtain ⟨d, l, outs, h1, rfl, b, fs, pg, at', rfl, rfl, h5⟩ := goal
  exact ⟨b, fs, pg, at', h1, h5⟩
end
end Bk
namespace Bk.K08
open Bk L2 PyProof.Rows PySem.Spec PySem
abbrev top (i : Nat) : Stmt := PySem.Challenge.pw_gathersheets_k08_creep_exact.main.body.getD i (.Pass ⟨0, 0, 0, 0⟩)
def FT : List Str := ["power", "page_count", "position_count", "inset_order", "reading_order", "locate", "depth_among", "depth_of", "creep_of", "widest_creep", "_law_cell", "_law_same", "_law_digits", "_law_draw", "_law_pages_of", "_law_book", "_law_depths", "law"]
def GC : List (Str × D) := [("INSET", (.str (Str.ofString "inset")))]
/-- power: [exponent] -/
def b0 : S := (.ret (.op .shl (.cons (.lit (.int 1)) (.cons (.var 0) .nil))))
/-- page_count: [folding] -/
def b1 : S := (.ret (.op .mul (.cons (.lit (.int 2)) (.cons (.call 0 (.cons (.op .len (.cons (.var 0) .nil)) .nil)) .nil))))
/-- position_count: [book, folding] -/
def b2 : S := (.ret (.op .sum (.cons (.comp [1] .seq (.op .idx (.cons (.var 0) (.cons (.lit (.int 0)) .nil))) (.nm 1) (.lit (.bl true)) (.call 1 (.cons (.var 1) .nil))) .nil)))
/-- inset_order: [sheets, first, half, page, front, back] -/
def b3 : S := (.seq (.ite (.op .eq (.cons (.var 1) (.cons (.op .len (.cons (.var 0) .nil)) .nil))) (.ret (.mkl .nil)) .skip)
  (.seq (.set (.nm 2) (.op .fdiv (.cons (.call 1 (.cons (.op .idx (.cons (.var 0) (.cons (.var 1) .nil))) .nil)) (.cons (.lit (.int 2)) .nil))))
  (.seq (.set (.nm 4) (.comp [3] .range (.cons (.lit (.int 1)) (.cons (.op .add (.cons (.var 2) (.cons (.lit (.int 1)) .nil))) .nil)) (.nm 3) (.lit (.bl true)) (.mkt (.cons (.var 1) (.cons (.var 3) .nil)))))
  (.seq (.set (.nm 5) (.comp [3] .range (.cons (.op .add (.cons (.var 2) (.cons (.lit (.int 1)) .nil))) (.cons (.op .add (.cons (.op .mul (.cons (.lit (.int 2)) (.cons (.var 2) .nil))) (.cons (.lit (.int 1)) .nil))) .nil)) (.nm 3) (.lit (.bl true)) (.mkt (.cons (.var 1) (.cons (.var 3) .nil)))))
  (.ret (.op .add (.cons (.op .add (.cons (.var 4) (.cons (.call 3 (.cons (.var 0) (.cons (.op .add (.cons (.var 1) (.cons (.lit (.int 1)) .nil))) .nil))) .nil))) (.cons (.var 5) .nil))))))))
/-- reading_order: [book, sheets, binding, _, found, sheet, folding, page] -/
def b4 : S := (.seq (.set (.cons (.nm 1) (.cons (.nm 2) (.cons (.nm 3) .nil))) (.var 0))
  (.seq (.ite (.op .eq (.cons (.var 2) (.cons (.lit (.str ⟨#[105, 110, 115, 101, 116]⟩)) .nil))) (.ret (.call 3 (.cons (.var 1) (.cons (.lit (.int 0)) .nil)))) .skip)
  (.seq (.set (.nm 4) (.mkl .nil))
  (.seq (.for (.cons (.nm 5) (.cons (.nm 6) .nil)) .enum (.cons (.var 1) .nil)
  (.ext 4 (.comp [7] .range (.cons (.lit (.int 1)) (.cons (.op .add (.cons (.call 1 (.cons (.var 6) .nil)) (.cons (.lit (.int 1)) .nil))) .nil)) (.nm 7) (.lit (.bl true)) (.mkt (.cons (.var 5) (.cons (.var 7) .nil))))))
  (.ret (.var 4))))))
/-- locate: [book, position] -/
def b5 : S := (.ret (.op .idx (.cons (.call 4 (.cons (.var 0) .nil)) (.cons (.op .sub (.cons (.var 1) (.cons (.lit (.int 1)) .nil))) .nil))))
/-- depth_among: [place, many] -/
def b6 : S := (.ret (.op .min2 (.cons (.var 0) (.cons (.op .sub (.cons (.op .sub (.cons (.var 1) (.cons (.lit (.int 1)) .nil))) (.cons (.var 0) .nil))) .nil))))
/-- depth_of: [book, position, sheet, page] -/
def b7 : S := (.seq (.ite (.op .eq (.cons (.op .idx (.cons (.var 0) (.cons (.lit (.int 1)) .nil))) (.cons (.lit (.str ⟨#[105, 110, 115, 101, 116]⟩)) .nil))) (.ret (.call 6 (.cons (.op .fdiv (.cons (.op .sub (.cons (.var 1) (.cons (.lit (.int 1)) .nil))) (.cons (.lit (.int 2)) .nil))) (.cons (.op .fdiv (.cons (.call 2 (.cons (.var 0) .nil)) (.cons (.lit (.int 2)) .nil))) .nil)))) .skip)
  (.seq (.set (.cons (.nm 2) (.cons (.nm 3) .nil)) (.call 5 (.cons (.var 0) (.cons (.var 1) .nil))))
  (.ret (.call 6 (.cons (.op .fdiv (.cons (.op .sub (.cons (.var 3) (.cons (.lit (.int 1)) .nil))) (.cons (.lit (.int 2)) .nil))) (.cons (.op .fdiv (.cons (.call 1 (.cons (.op .idx (.cons (.op .idx (.cons (.var 0) (.cons (.lit (.int 0)) .nil))) (.cons (.var 2) .nil))) .nil)) (.cons (.lit (.int 2)) .nil))) .nil))))))
/-- creep_of: [book, position, thickness] -/
def b8 : S := (.ret (.op .mul (.cons (.var 2) (.cons (.call 7 (.cons (.var 0) (.cons (.var 1) .nil))) .nil))))
/-- widest_creep: [book, thickness, position] -/
def b9 : S := (.ret (.op .max1 (.cons (.comp [2] .range (.cons (.lit (.int 1)) (.cons (.op .add (.cons (.call 2 (.cons (.var 0) .nil)) (.cons (.lit (.int 1)) .nil))) .nil)) (.nm 2) (.lit (.bl true)) (.call 8 (.cons (.var 0) (.cons (.var 2) (.cons (.var 1) .nil))))) .nil)))
/-- _law_cell: [script, k] -/
def b10 : S := (.seq (.ite (.op .lt (.cons (.var 1) (.cons (.op .len (.cons (.var 0) .nil)) .nil))) (.ret (.op .idx (.cons (.var 0) (.cons (.var 1) .nil)))) .skip)
  (.ret (.lit (.int 0))))
/-- _law_same: [actual, due] -/
def b11 : S := (.ret (.op .eq (.cons (.op .repr (.cons (.var 0) .nil)) (.cons (.op .repr (.cons (.var 1) .nil)) .nil))))
/-- _law_digits: [script, first, last, digits, k, cell, lap, seed] -/
def b12 : S := (.seq (.set (.nm 3) (.mkl .nil))
  (.seq (.for (.nm 4) .range (.cons (.var 1) (.cons (.var 2) .nil))
  (.seq (.set (.nm 5) (.call 10 (.cons (.var 0) (.cons (.var 4) .nil))))
  (.seq (.ite (.op .lt (.cons (.var 5) (.cons (.lit (.int 0)) .nil))) (.set (.nm 5) (.op .sub (.cons (.lit (.int 1)) (.cons (.op .mul (.cons (.lit (.int 2)) (.cons (.var 5) .nil))) .nil)))) .skip)
  (.ite (.op .ge (.cons (.var 5) (.cons (.op .pow (.cons (.lit (.int 10)) (.cons (.lit (.int 18)) .nil))) .nil))) (.for (.nm 6) .range (.cons (.lit (.int 60)) .nil)
  (.ite (.op .gt (.cons (.var 5) (.cons (.lit (.int 0)) .nil))) (.seq (.app 3 (.op .mod (.cons (.op .int (.cons (.var 5) .nil)) (.cons (.lit (.int 1000)) .nil))))
  (.set (.nm 5) (.op .fdiv (.cons (.var 5) (.cons (.lit (.int 1000)) .nil))))) .skip)) (.seq (.set (.nm 7) (.op .mod (.cons (.op .int (.cons (.op .add (.cons (.op .add (.cons (.op .mul (.cons (.var 5) (.cons (.lit (.int 48271)) .nil))) (.cons (.op .mul (.cons (.var 4) (.cons (.lit (.int 69621)) .nil))) .nil))) (.cons (.lit (.int 11)) .nil))) .nil)) (.cons (.lit (.int 2147483647)) .nil))))
  (.for (.nm 6) .range (.cons (.lit (.int 12)) .nil)
  (.seq (.set (.nm 7) (.op .mod (.cons (.op .int (.cons (.op .add (.cons (.op .add (.cons (.op .mul (.cons (.var 7) (.cons (.lit (.int 16807)) .nil))) (.cons (.op .mul (.cons (.lit (.int 7)) (.cons (.var 6) .nil))) .nil))) (.cons (.lit (.int 1)) .nil))) .nil)) (.cons (.lit (.int 2147483647)) .nil))))
  (.app 3 (.op .mod (.cons (.op .int (.cons (.op .fdiv (.cons (.var 7) (.cons (.lit (.int 997)) .nil))) .nil)) (.cons (.lit (.int 1000)) .nil)))))))))))
  (.ret (.var 3))))
/-- _law_draw: [box, many, at] -/
def b13 : S := (.seq (.set (.nm 2) (.op .idx (.cons (.var 0) (.cons (.lit (.int 1)) .nil))))
  (.seq (.setI 0 (.lit (.int 1)) (.op .add (.cons (.var 2) (.cons (.lit (.int 1)) .nil))))
  (.seq (.ite (.op .lt (.cons (.var 2) (.cons (.op .len (.cons (.op .idx (.cons (.var 0) (.cons (.lit (.int 0)) .nil))) .nil)) .nil))) (.ret (.op .mod (.cons (.op .int (.cons (.op .idx (.cons (.op .idx (.cons (.var 0) (.cons (.lit (.int 0)) .nil))) (.cons (.var 2) .nil))) .nil)) (.cons (.var 1) .nil)))) .skip)
  (.ret (.op .mod (.cons (.op .int (.cons (.op .add (.cons (.op .mul (.cons (.var 2) (.cons (.lit (.int 7)) .nil))) (.cons (.lit (.int 3)) .nil))) .nil)) (.cons (.var 1) .nil)))))))
/-- _law_pages_of: [folding] -/
def b14 : S := (.ret (.op .mul (.cons (.lit (.int 2)) (.cons (.op .idx (.cons (.mkl (.cons (.lit (.int 1)) (.cons (.lit (.int 2)) (.cons (.lit (.int 4)) (.cons (.lit (.int 8)) (.cons (.lit (.int 16)) (.cons (.lit (.int 32)) .nil))))))) (.cons (.op .len (.cons (.var 0) .nil)) .nil))) .nil))))
/-- _law_book: [box, binding, foldings, k, j, folding, many, pages] -/
def b15 : S := (.seq (.set (.nm 1) (.op .idx (.cons (.mkl (.cons (.lit (.str ⟨#[103, 97, 116, 104, 101, 114, 101, 100]⟩)) (.cons (.lit (.str ⟨#[105, 110, 115, 101, 116]⟩)) .nil))) (.cons (.call 13 (.cons (.var 0) (.cons (.lit (.int 2)) .nil))) .nil))))
  (.seq (.set (.nm 2) (.mkl .nil))
  (.seq (.for (.nm 3) .range (.cons (.op .add (.cons (.lit (.int 1)) (.cons (.call 13 (.cons (.var 0) (.cons (.lit (.int 4)) .nil))) .nil))) .nil)
  (.seq (.set (.nm 5) (.op .add (.cons (.op .join (.cons (.lit (.str ⟨#[]⟩)) (.cons (.comp [4] .range (.cons (.call 13 (.cons (.var 0) (.cons (.lit (.int 3)) .nil))) .nil) (.nm 4) (.lit (.bl true)) (.op .idx (.cons (.lit (.str ⟨#[76, 82, 84, 66]⟩)) (.cons (.call 13 (.cons (.var 0) (.cons (.lit (.int 4)) .nil))) .nil)))) .nil))) (.cons (.op .idx (.cons (.lit (.str ⟨#[76, 82, 84, 66]⟩)) (.cons (.call 13 (.cons (.var 0) (.cons (.lit (.int 4)) .nil))) .nil))) .nil))))
  (.seq (.ite (.op .eq (.cons (.var 1) (.cons (.lit (.str ⟨#[105, 110, 115, 101, 116]⟩)) .nil))) (.set (.nm 5) (.op .add (.cons (.op (.slL false true) (.cons (.var 5) (.cons (.op .neg (.cons (.lit (.int 1)) .nil)) .nil))) (.cons (.lit (.str ⟨#[76]⟩)) .nil)))) .skip)
  (.app 2 (.var 5)))))
  (.seq (.set (.nm 6) (.op .sum (.cons (.comp [5] .seq (.var 2) (.nm 5) (.lit (.bl true)) (.call 14 (.cons (.var 5) .nil))) .nil)))
  (.seq (.set (.nm 7) (.op .idx (.cons (.mkl (.cons (.var 6) (.cons (.op .add (.cons (.lit (.int 1)) (.cons (.call 13 (.cons (.var 0) (.cons (.var 6) .nil))) .nil))) (.cons (.op .max2 (.cons (.lit (.int 1)) (.cons (.op .sub (.cons (.var 6) (.cons (.call 13 (.cons (.var 0) (.cons (.lit (.int 4)) .nil))) .nil))) .nil))) .nil)))) (.cons (.call 13 (.cons (.var 0) (.cons (.lit (.int 3)) .nil))) .nil))))
  (.ret (.mkt (.cons (.op .tuple (.cons (.var 2) .nil)) (.cons (.var 1) (.cons (.var 7) .nil))))))))))
/-- _law_depths: [book, folding, groups, found, many, k, depth] -/
def b16 : S := (.seq (.set (.nm 2) (.mkl (.cons (.op .fdiv (.cons (.op .sum (.cons (.comp [1] .seq (.op .idx (.cons (.var 0) (.cons (.lit (.int 0)) .nil))) (.nm 1) (.lit (.bl true)) (.call 14 (.cons (.var 1) .nil))) .nil)) (.cons (.lit (.int 2)) .nil))) .nil)))
  (.seq (.ite (.op .eq (.cons (.op .idx (.cons (.var 0) (.cons (.lit (.int 1)) .nil))) (.cons (.lit (.str ⟨#[103, 97, 116, 104, 101, 114, 101, 100]⟩)) .nil))) (.set (.nm 2) (.comp [1] .seq (.op .idx (.cons (.var 0) (.cons (.lit (.int 0)) .nil))) (.nm 1) (.lit (.bl true)) (.op .fdiv (.cons (.call 14 (.cons (.var 1) .nil)) (.cons (.lit (.int 2)) .nil))))) .skip)
  (.seq (.set (.nm 3) (.mkl .nil))
  (.seq (.for (.nm 4) .seq (.var 2)
  (.for (.nm 5) .range (.cons (.var 4) .nil)
  (.seq (.set (.nm 6) (.op .min2 (.cons (.op .int (.cons (.var 5) .nil)) (.cons (.op .sub (.cons (.op .sub (.cons (.var 4) (.cons (.lit (.int 1)) .nil))) (.cons (.op .int (.cons (.var 5) .nil)) .nil))) .nil))))
  (.set (.nm 3) (.op .add (.cons (.var 3) (.cons (.mkl (.cons (.var 6) (.cons (.var 6) .nil))) .nil)))))))
  (.ret (.var 3))))))
/-- law: [script, box, lap, book, thickness, depths, k] -/
def b17 : S := (.seq (.set (.nm 1) (.mkl (.cons (.call 12 (.cons (.var 0) (.cons (.lit (.int 0)) (.cons (.lit (.int 50)) .nil)))) (.cons (.lit (.int 0)) .nil))))
  (.seq (.for (.nm 2) .range (.cons (.lit (.int 4)) .nil)
  (.seq (.set (.nm 3) (.call 15 (.cons (.var 1) .nil)))
  (.seq (.set (.nm 4) (.op .idx (.cons (.mkl (.cons (.lit (.int 0)) (.cons (.lit (.int 1)) (.cons (.lit (.int 3)) (.cons (.lit (.int 120)) (.cons (.lit (.int 7)) .nil)))))) (.cons (.call 13 (.cons (.var 1) (.cons (.lit (.int 5)) .nil))) .nil))))
  (.seq (.set (.nm 5) (.call 16 (.cons (.var 3) .nil)))
  (.seq (.for (.nm 6) .range (.cons (.op .len (.cons (.var 5) .nil)) .nil)
  (.ite (.op .not (.cons (.call 11 (.cons (.call 8 (.cons (.var 3) (.cons (.op .add (.cons (.op .int (.cons (.var 6) .nil)) (.cons (.lit (.int 1)) .nil))) (.cons (.var 4) .nil)))) (.cons (.op .mul (.cons (.var 4) (.cons (.op .idx (.cons (.var 5) (.cons (.var 6) .nil))) .nil))) .nil))) .nil)) (.ret (.lit (.bl false))) .skip))
  (.ite (.op .not (.cons (.call 11 (.cons (.call 9 (.cons (.var 3) (.cons (.var 4) .nil))) (.cons (.op .mul (.cons (.var 4) (.cons (.op .max1 (.cons (.var 5) .nil)) .nil))) .nil))) .nil)) (.ret (.lit (.bl false))) .skip))))))
  (.ret (.lit (.bl true)))))
def T : List Fn := [⟨1, 1, b0⟩, ⟨1, 1, b1⟩, ⟨1, 2, b2⟩, ⟨2, 6, b3⟩, ⟨1, 8, b4⟩, ⟨2, 2, b5⟩, ⟨2, 2, b6⟩, ⟨2, 4, b7⟩, ⟨3, 3, b8⟩, ⟨2, 3, b9⟩, ⟨2, 2, b10⟩, ⟨2, 2, b11⟩, ⟨3, 8, b12⟩, ⟨2, 3, b13⟩, ⟨1, 1, b14⟩, ⟨1, 8, b15⟩, ⟨1, 7, b16⟩, ⟨1, 7, b17⟩]
theorem cf0 : cF FT GC ["exponent"] (top 1) = some b0 := by kernel_rfl
theorem sc0 : FnScope ["exponent"] ["exponent"] (defScope (top 1)) := ⟨rfl, rfl, rfl, by decide +kernel, rfl, by decide +kernel, by decide +kernel⟩
theorem cf1 : cF FT GC ["folding"] (top 4) = some b1 := by kernel_rfl
theorem sc1 : FnScope ["folding"] ["folding"] (defScope (top 4)) := ⟨rfl, rfl, rfl, by decide +kernel, rfl, by decide +kernel, by decide +kernel⟩
theorem cf2 : cF FT GC ["book", "folding"] (top 5) = some b2 := by kernel_rfl
theorem sc2 : FnScope ["book", "folding"] ["book"] (defScope (top 5)) := ⟨rfl, rfl, rfl, by decide +kernel, rfl, by decide +kernel, by decide +kernel⟩
theorem cf3 : cF FT GC ["sheets", "first", "half", "page", "front", "back"] (top 6) = some b3 := by kernel_rfl
theorem sc3 : FnScope ["sheets", "first", "half", "page", "front", "back"] ["sheets", "first"] (defScope (top 6)) := ⟨rfl, rfl, rfl, by decide +kernel, rfl, by decide +kernel, by decide +kernel⟩
theorem cf4 : cF FT GC ["book", "sheets", "binding", "_", "found", "sheet", "folding", "page"] (top 7) = some b4 := by kernel_rfl
theorem sc4 : FnScope ["book", "sheets", "binding", "_", "found", "sheet", "folding", "page"] ["book"] (defScope (top 7)) := ⟨rfl, rfl, rfl, by decide +kernel, rfl, by decide +kernel, by decide +kernel⟩
theorem cf5 : cF FT GC ["book", "position"] (top 8) = some b5 := by kernel_rfl
theorem sc5 : FnScope ["book", "position"] ["book", "position"] (defScope (top 8)) := ⟨rfl, rfl, rfl, by decide +kernel, rfl, by decide +kernel, by decide +kernel⟩
theorem cf6 : cF FT GC ["place", "many"] (top 10) = some b6 := by kernel_rfl
theorem sc6 : FnScope ["place", "many"] ["place", "many"] (defScope (top 10)) := ⟨rfl, rfl, rfl, by decide +kernel, rfl, by decide +kernel, by decide +kernel⟩
theorem cf7 : cF FT GC ["book", "position", "sheet", "page"] (top 11) = some b7 := by kernel_rfl
theorem sc7 : FnScope ["book", "position", "sheet", "page"] ["book", "position"] (defScope (top 11)) := ⟨rfl, rfl, rfl, by decide +kernel, rfl, by decide +kernel, by decide +kernel⟩
theorem cf8 : cF FT GC ["book", "position", "thickness"] (top 12) = some b8 := by kernel_rfl
theorem sc8 : FnScope ["book", "position", "thickness"] ["book", "position", "thickness"] (defScope (top 12)) := ⟨rfl, rfl, rfl, by decide +kernel, rfl, by decide +kernel, by decide +kernel⟩
theorem cf9 : cF FT GC ["book", "thickness", "position"] (top 13) = some b9 := by kernel_rfl
theorem sc9 : FnScope ["book", "thickness", "position"] ["book", "thickness"] (defScope (top 13)) := ⟨rfl, rfl, rfl, by decide +kernel, rfl, by decide +kernel, by decide +kernel⟩
theorem cf10 : cF FT GC ["script", "k"] (top 16) = some b10 := by kernel_rfl
theorem sc10 : FnScope ["script", "k"] ["script", "k"] (defScope (top 16)) := ⟨rfl, rfl, rfl, by decide +kernel, rfl, by decide +kernel, by decide +kernel⟩
theorem cf11 : cF FT GC ["actual", "due"] (top 18) = some b11 := by kernel_rfl
theorem sc11 : FnScope ["actual", "due"] ["actual", "due"] (defScope (top 18)) := ⟨rfl, rfl, rfl, by decide +kernel, rfl, by decide +kernel, by decide +kernel⟩
theorem cf12 : cF FT GC ["script", "first", "last", "digits", "k", "cell", "lap", "seed"] (top 19) = some b12 := by kernel_rfl
theorem sc12 : FnScope ["script", "first", "last", "digits", "k", "cell", "lap", "seed"] ["script", "first", "last"] (defScope (top 19)) := ⟨rfl, rfl, rfl, by decide +kernel, rfl, by decide +kernel, by decide +kernel⟩
theorem cf13 : cF FT GC ["box", "many", "at"] (top 20) = some b13 := by kernel_rfl
theorem sc13 : FnScope ["box", "many", "at"] ["box", "many"] (defScope (top 20)) := ⟨rfl, rfl, rfl, by decide +kernel, rfl, by decide +kernel, by decide +kernel⟩
theorem cf14 : cF FT GC ["folding"] (top 28) = some b14 := by kernel_rfl
theorem sc14 : FnScope ["folding"] ["folding"] (defScope (top 28)) := ⟨rfl, rfl, rfl, by decide +kernel, rfl, by decide +kernel, by decide +kernel⟩
theorem cf15 : cF FT GC ["box", "binding", "foldings", "k", "j", "folding", "many", "pages"] (top 30) = some b15 := by kernel_rfl
theorem sc15 : FnScope ["box", "binding", "foldings", "k", "j", "folding", "many", "pages"] ["box"] (defScope (top 30)) := ⟨rfl, rfl, rfl, by decide +kernel, rfl, by decide +kernel, by decide +kernel⟩
theorem cf16 : cF FT GC ["book", "folding", "groups", "found", "many", "k", "depth"] (top 31) = some b16 := by kernel_rfl
theorem sc16 : FnScope ["book", "folding", "groups", "found", "many", "k", "depth"] ["book"] (defScope (top 31)) := ⟨rfl, rfl, rfl, by decide +kernel, rfl, by decide +kernel, by decide +kernel⟩
theorem cf17 : cF FT GC ["script", "box", "lap", "book", "thickness", "depths", "k"] (top 32) = some b17 := by kernel_rfl
theorem sc17 : FnScope ["script", "box", "lap", "book", "thickness", "depths", "k"] ["script"] (defScope (top 32)) := ⟨rfl, rfl, rfl, by decide +kernel, rfl, by decide +kernel, by decide +kernel⟩
theorem tab {K : PySem.W.Frag} {h : Heap} {mg : Str → Option Value} (X : K.In h) (G : h.Ns mainGlobals mg)
    {f0 : Addr} {od0 an0 : Option Addr} {sl0 : Array (Option Value)} {oc0 kV0 dc0 pm0 cd0 ct0 : Value}
    (a0 : PySem.W.nsIn K mainGlobals "power" = some (some (.ref f0)))
    (l0 : K.lookup f0 = some ⟨oc0, od0, .func (PySem.W.fnOf "power" "power" (defArgs (top 1)) (defBody (top 1)) (defScope (top 1)) .none kV0 dc0 pm0 an0 cd0 ct0), sl0⟩)
    (c0 : PySem.W.codeIn K cd0 "power" = true) (k0 : PySem.W.keepIn K (.ref f0) = true)
    {f1 : Addr} {od1 an1 : Option Addr} {sl1 : Array (Option Value)} {oc1 kV1 dc1 pm1 cd1 ct1 : Value}
    (a1 : PySem.W.nsIn K mainGlobals "page_count" = some (some (.ref f1)))
    (l1 : K.lookup f1 = some ⟨oc1, od1, .func (PySem.W.fnOf "page_count" "page_count" (defArgs (top 4)) (defBody (top 4)) (defScope (top 4)) .none kV1 dc1 pm1 an1 cd1 ct1), sl1⟩)
    (c1 : PySem.W.codeIn K cd1 "page_count" = true) (k1 : PySem.W.keepIn K (.ref f1) = true)
    {f2 : Addr} {od2 an2 : Option Addr} {sl2 : Array (Option Value)} {oc2 kV2 dc2 pm2 cd2 ct2 : Value}
    (a2 : PySem.W.nsIn K mainGlobals "position_count" = some (some (.ref f2)))
    (l2 : K.lookup f2 = some ⟨oc2, od2, .func (PySem.W.fnOf "position_count" "position_count" (defArgs (top 5)) (defBody (top 5)) (defScope (top 5)) .none kV2 dc2 pm2 an2 cd2 ct2), sl2⟩)
    (c2 : PySem.W.codeIn K cd2 "position_count" = true) (k2 : PySem.W.keepIn K (.ref f2) = true)
    {f3 : Addr} {od3 an3 : Option Addr} {sl3 : Array (Option Value)} {oc3 kV3 dc3 pm3 cd3 ct3 : Value}
    (a3 : PySem.W.nsIn K mainGlobals "inset_order" = some (some (.ref f3)))
    (l3 : K.lookup f3 = some ⟨oc3, od3, .func (PySem.W.fnOf "inset_order" "inset_order" (defArgs (top 6)) (defBody (top 6)) (defScope (top 6)) .none kV3 dc3 pm3 an3 cd3 ct3), sl3⟩)
    (c3 : PySem.W.codeIn K cd3 "inset_order" = true) (k3 : PySem.W.keepIn K (.ref f3) = true)
    {f4 : Addr} {od4 an4 : Option Addr} {sl4 : Array (Option Value)} {oc4 kV4 dc4 pm4 cd4 ct4 : Value}
    (a4 : PySem.W.nsIn K mainGlobals "reading_order" = some (some (.ref f4)))
    (l4 : K.lookup f4 = some ⟨oc4, od4, .func (PySem.W.fnOf "reading_order" "reading_order" (defArgs (top 7)) (defBody (top 7)) (defScope (top 7)) .none kV4 dc4 pm4 an4 cd4 ct4), sl4⟩)
    (c4 : PySem.W.codeIn K cd4 "reading_order" = true) (k4 : PySem.W.keepIn K (.ref f4) = true)
    {f5 : Addr} {od5 an5 : Option Addr} {sl5 : Array (Option Value)} {oc5 kV5 dc5 pm5 cd5 ct5 : Value}
    (a5 : PySem.W.nsIn K mainGlobals "locate" = some (some (.ref f5)))
    (l5 : K.lookup f5 = some ⟨oc5, od5, .func (PySem.W.fnOf "locate" "locate" (defArgs (top 8)) (defBody (top 8)) (defScope (top 8)) .none kV5 dc5 pm5 an5 cd5 ct5), sl5⟩)
    (c5 : PySem.W.codeIn K cd5 "locate" = true) (k5 : PySem.W.keepIn K (.ref f5) = true)
    {f6 : Addr} {od6 an6 : Option Addr} {sl6 : Array (Option Value)} {oc6 kV6 dc6 pm6 cd6 ct6 : Value}
    (a6 : PySem.W.nsIn K mainGlobals "depth_among" = some (some (.ref f6)))
    (l6 : K.lookup f6 = some ⟨oc6, od6, .func (PySem.W.fnOf "depth_among" "depth_among" (defArgs (top 10)) (defBody (top 10)) (defScope (top 10)) .none kV6 dc6 pm6 an6 cd6 ct6), sl6⟩)
    (c6 : PySem.W.codeIn K cd6 "depth_among" = true) (k6 : PySem.W.keepIn K (.ref f6) = true)
    {f7 : Addr} {od7 an7 : Option Addr} {sl7 : Array (Option Value)} {oc7 kV7 dc7 pm7 cd7 ct7 : Value}
    (a7 : PySem.W.nsIn K mainGlobals "depth_of" = some (some (.ref f7)))
    (l7 : K.lookup f7 = some ⟨oc7, od7, .func (PySem.W.fnOf "depth_of" "depth_of" (defArgs (top 11)) (defBody (top 11)) (defScope (top 11)) .none kV7 dc7 pm7 an7 cd7 ct7), sl7⟩)
    (c7 : PySem.W.codeIn K cd7 "depth_of" = true) (k7 : PySem.W.keepIn K (.ref f7) = true)
    {f8 : Addr} {od8 an8 : Option Addr} {sl8 : Array (Option Value)} {oc8 kV8 dc8 pm8 cd8 ct8 : Value}
    (a8 : PySem.W.nsIn K mainGlobals "creep_of" = some (some (.ref f8)))
    (l8 : K.lookup f8 = some ⟨oc8, od8, .func (PySem.W.fnOf "creep_of" "creep_of" (defArgs (top 12)) (defBody (top 12)) (defScope (top 12)) .none kV8 dc8 pm8 an8 cd8 ct8), sl8⟩)
    (c8 : PySem.W.codeIn K cd8 "creep_of" = true) (k8 : PySem.W.keepIn K (.ref f8) = true)
    {f9 : Addr} {od9 an9 : Option Addr} {sl9 : Array (Option Value)} {oc9 kV9 dc9 pm9 cd9 ct9 : Value}
    (a9 : PySem.W.nsIn K mainGlobals "widest_creep" = some (some (.ref f9)))
    (l9 : K.lookup f9 = some ⟨oc9, od9, .func (PySem.W.fnOf "widest_creep" "widest_creep" (defArgs (top 13)) (defBody (top 13)) (defScope (top 13)) .none kV9 dc9 pm9 an9 cd9 ct9), sl9⟩)
    (c9 : PySem.W.codeIn K cd9 "widest_creep" = true) (k9 : PySem.W.keepIn K (.ref f9) = true)
    {f10 : Addr} {od10 an10 : Option Addr} {sl10 : Array (Option Value)} {oc10 kV10 dc10 pm10 cd10 ct10 : Value}
    (a10 : PySem.W.nsIn K mainGlobals "_law_cell" = some (some (.ref f10)))
    (l10 : K.lookup f10 = some ⟨oc10, od10, .func (PySem.W.fnOf "_law_cell" "_law_cell" (defArgs (top 16)) (defBody (top 16)) (defScope (top 16)) .none kV10 dc10 pm10 an10 cd10 ct10), sl10⟩)
    (c10 : PySem.W.codeIn K cd10 "_law_cell" = true) (k10 : PySem.W.keepIn K (.ref f10) = true)
    {f11 : Addr} {od11 an11 : Option Addr} {sl11 : Array (Option Value)} {oc11 kV11 dc11 pm11 cd11 ct11 : Value}
    (a11 : PySem.W.nsIn K mainGlobals "_law_same" = some (some (.ref f11)))
    (l11 : K.lookup f11 = some ⟨oc11, od11, .func (PySem.W.fnOf "_law_same" "_law_same" (defArgs (top 18)) (defBody (top 18)) (defScope (top 18)) .none kV11 dc11 pm11 an11 cd11 ct11), sl11⟩)
    (c11 : PySem.W.codeIn K cd11 "_law_same" = true) (k11 : PySem.W.keepIn K (.ref f11) = true)
    {f12 : Addr} {od12 an12 : Option Addr} {sl12 : Array (Option Value)} {oc12 kV12 dc12 pm12 cd12 ct12 : Value}
    (a12 : PySem.W.nsIn K mainGlobals "_law_digits" = some (some (.ref f12)))
    (l12 : K.lookup f12 = some ⟨oc12, od12, .func (PySem.W.fnOf "_law_digits" "_law_digits" (defArgs (top 19)) (defBody (top 19)) (defScope (top 19)) .none kV12 dc12 pm12 an12 cd12 ct12), sl12⟩)
    (c12 : PySem.W.codeIn K cd12 "_law_digits" = true) (k12 : PySem.W.keepIn K (.ref f12) = true)
    {f13 : Addr} {od13 an13 : Option Addr} {sl13 : Array (Option Value)} {oc13 kV13 dc13 pm13 cd13 ct13 : Value}
    (a13 : PySem.W.nsIn K mainGlobals "_law_draw" = some (some (.ref f13)))
    (l13 : K.lookup f13 = some ⟨oc13, od13, .func (PySem.W.fnOf "_law_draw" "_law_draw" (defArgs (top 20)) (defBody (top 20)) (defScope (top 20)) .none kV13 dc13 pm13 an13 cd13 ct13), sl13⟩)
    (c13 : PySem.W.codeIn K cd13 "_law_draw" = true) (k13 : PySem.W.keepIn K (.ref f13) = true)
    {f14 : Addr} {od14 an14 : Option Addr} {sl14 : Array (Option Value)} {oc14 kV14 dc14 pm14 cd14 ct14 : Value}
    (a14 : PySem.W.nsIn K mainGlobals "_law_pages_of" = some (some (.ref f14)))
    (l14 : K.lookup f14 = some ⟨oc14, od14, .func (PySem.W.fnOf "_law_pages_of" "_law_pages_of" (defArgs (top 28)) (defBody (top 28)) (defScope (top 28)) .none kV14 dc14 pm14 an14 cd14 ct14), sl14⟩)
    (c14 : PySem.W.codeIn K cd14 "_law_pages_of" = true) (k14 : PySem.W.keepIn K (.ref f14) = true)
    {f15 : Addr} {od15 an15 : Option Addr} {sl15 : Array (Option Value)} {oc15 kV15 dc15 pm15 cd15 ct15 : Value}
    (a15 : PySem.W.nsIn K mainGlobals "_law_book" = some (some (.ref f15)))
    (l15 : K.lookup f15 = some ⟨oc15, od15, .func (PySem.W.fnOf "_law_book" "_law_book" (defArgs (top 30)) (defBody (top 30)) (defScope (top 30)) .none kV15 dc15 pm15 an15 cd15 ct15), sl15⟩)
    (c15 : PySem.W.codeIn K cd15 "_law_book" = true) (k15 : PySem.W.keepIn K (.ref f15) = true)
    {f16 : Addr} {od16 an16 : Option Addr} {sl16 : Array (Option Value)} {oc16 kV16 dc16 pm16 cd16 ct16 : Value}
    (a16 : PySem.W.nsIn K mainGlobals "_law_depths" = some (some (.ref f16)))
    (l16 : K.lookup f16 = some ⟨oc16, od16, .func (PySem.W.fnOf "_law_depths" "_law_depths" (defArgs (top 31)) (defBody (top 31)) (defScope (top 31)) .none kV16 dc16 pm16 an16 cd16 ct16), sl16⟩)
    (c16 : PySem.W.codeIn K cd16 "_law_depths" = true) (k16 : PySem.W.keepIn K (.ref f16) = true)
    {f17 : Addr} {od17 an17 : Option Addr} {sl17 : Array (Option Value)} {oc17 kV17 dc17 pm17 cd17 ct17 : Value}
    (a17 : PySem.W.nsIn K mainGlobals "law" = some (some (.ref f17)))
    (l17 : K.lookup f17 = some ⟨oc17, od17, .func (PySem.W.fnOf "law" "law" (defArgs (top 32)) (defBody (top 32)) (defScope (top 32)) .none kV17 dc17 pm17 an17 cd17 ct17), sl17⟩)
    (c17 : PySem.W.codeIn K cd17 "law" = true) (k17 : PySem.W.keepIn K (.ref f17) = true)
    (z0 : PySem.W.nsIn K mainGlobals "len" = some none)
    (z1 : PySem.W.nsIn K mainGlobals "int" = some none)
    (z2 : PySem.W.nsIn K mainGlobals "str" = some none)
    (z3 : PySem.W.nsIn K mainGlobals "abs" = some none)
    (z4 : PySem.W.nsIn K mainGlobals "sum" = some none)
    (z5 : PySem.W.nsIn K mainGlobals "max" = some none)
    (z6 : PySem.W.nsIn K mainGlobals "min" = some none)
    (z7 : PySem.W.nsIn K mainGlobals "sorted" = some none)
    (z8 : PySem.W.nsIn K mainGlobals "repr" = some none)
    (z9 : PySem.W.nsIn K mainGlobals "list" = some none)
    (z10 : PySem.W.nsIn K mainGlobals "tuple" = some none)
    (z11 : PySem.W.nsIn K mainGlobals "isinstance" = some none)
    (z12 : PySem.W.nsIn K mainGlobals "bool" = some none)
    (z13 : PySem.W.nsIn K mainGlobals "range" = some none)
    (z14 : PySem.W.nsIn K mainGlobals "enumerate" = some none)
    (z15 : PySem.W.nsIn K mainGlobals "zip" = some none)
    {gt0 : Tok} (g0 : PySem.W.nsIn K mainGlobals "INSET" = some (some (.str (Str.ofString "inset") gt0)))
    : (∀ x ∈ bNames, mg x = none) ∧ ConOk K mg GC ∧ TabOk K mg FT GC T := by
  refine ⟨fun x hx => ?_, fun x d hd => ?_, fun i x h => ?_⟩
  · simp only [bNames, List.mem_cons, List.not_mem_nil, or_false] at hx
    rcases hx with rfl | rfl | rfl | rfl | rfl | rfl | rfl | rfl | rfl | rfl | rfl | rfl | rfl | rfl | rfl | rfl
    · exact PySem.W.mg_none_of X G z0
    · exact PySem.W.mg_none_of X G z1
    · exact PySem.W.mg_none_of X G z2
    · exact PySem.W.mg_none_of X G z3
    · exact PySem.W.mg_none_of X G z4
    · exact PySem.W.mg_none_of X G z5
    · exact PySem.W.mg_none_of X G z6
    · exact PySem.W.mg_none_of X G z7
    · exact PySem.W.mg_none_of X G z8
    · exact PySem.W.mg_none_of X G z9
    · exact PySem.W.mg_none_of X G z10
    · exact PySem.W.mg_none_of X G z11
    · exact PySem.W.mg_none_of X G z12
    · exact PySem.W.mg_none_of X G z13
    · exact PySem.W.mg_none_of X G z14
    · exact PySem.W.mg_none_of X G z15
  · simp only [GC, gcOf] at hd
    split at hd
    · rename_i e; subst e; cases hd; exact con_str X G g0
    · cases hd
  · match i, h with
    | 0, h =>
      cases h
      have F := fun_mk (st := top 1) l0 c0 k0
      exact ⟨top 1, f0, _, ["exponent"], ["exponent"], ⟨1, 1, b0⟩, rfl, PySem.W.mg_of X G a0, F, F.binds (ps := ["exponent"]) fun _ _ _ _ _ _ us hl => (match us, hl with | [_], _ => rfl), sc0, cf0, rfl, rfl⟩
    | 1, h =>
      cases h
      have F := fun_mk (st := top 4) l1 c1 k1
      exact ⟨top 4, f1, _, ["folding"], ["folding"], ⟨1, 1, b1⟩, rfl, PySem.W.mg_of X G a1, F, F.binds (ps := ["folding"]) fun _ _ _ _ _ _ us hl => (match us, hl with | [_], _ => rfl), sc1, cf1, rfl, rfl⟩
    | 2, h =>
      cases h
      have F := fun_mk (st := top 5) l2 c2 k2
      exact ⟨top 5, f2, _, ["book", "folding"], ["book"], ⟨1, 2, b2⟩, rfl, PySem.W.mg_of X G a2, F, F.binds (ps := ["book"]) fun _ _ _ _ _ _ us hl => (match us, hl with | [_], _ => rfl), sc2, cf2, rfl, rfl⟩
    | 3, h =>
      cases h
      have F := fun_mk (st := top 6) l3 c3 k3
      exact ⟨top 6, f3, _, ["sheets", "first", "half", "page", "front", "back"], ["sheets", "first"], ⟨2, 6, b3⟩, rfl, PySem.W.mg_of X G a3, F, F.binds (ps := ["sheets", "first"]) fun _ _ _ _ _ _ us hl => (match us, hl with | [_, _], _ => rfl), sc3, cf3, rfl, rfl⟩
    | 4, h =>
      cases h
      have F := fun_mk (st := top 7) l4 c4 k4
      exact ⟨top 7, f4, _, ["book", "sheets", "binding", "_", "found", "sheet", "folding", "page"], ["book"], ⟨1, 8, b4⟩, rfl, PySem.W.mg_of X G a4, F, F.binds (ps := ["book"]) fun _ _ _ _ _ _ us hl => (match us, hl with | [_], _ => rfl), sc4, cf4, rfl, rfl⟩
    | 5, h =>
      cases h
      have F := fun_mk (st := top 8) l5 c5 k5
      exact ⟨top 8, f5, _, ["book", "position"], ["book", "position"], ⟨2, 2, b5⟩, rfl, PySem.W.mg_of X G a5, F, F.binds (ps := ["book", "position"]) fun _ _ _ _ _ _ us hl => (match us, hl with | [_, _], _ => rfl), sc5, cf5, rfl, rfl⟩
    | 6, h =>
      cases h
      have F := fun_mk (st := top 10) l6 c6 k6
      exact ⟨top 10, f6, _, ["place", "many"], ["place", "many"], ⟨2, 2, b6⟩, rfl, PySem.W.mg_of X G a6, F, F.binds (ps := ["place", "many"]) fun _ _ _ _ _ _ us hl => (match us, hl with | [_, _], _ => rfl), sc6, cf6, rfl, rfl⟩
    | 7, h =>
      cases h
      have F := fun_mk (st := top 11) l7 c7 k7
      exact ⟨top 11, f7, _, ["book", "position", "sheet", "page"], ["book", "position"], ⟨2, 4, b7⟩, rfl, PySem.W.mg_of X G a7, F, F.binds (ps := ["book", "position"]) fun _ _ _ _ _ _ us hl => (match us, hl with | [_, _], _ => rfl), sc7, cf7, rfl, rfl⟩
    | 8, h =>
      cases h
      have F := fun_mk (st := top 12) l8 c8 k8
      exact ⟨top 12, f8, _, ["book", "position", "thickness"], ["book", "position", "thickness"], ⟨3, 3, b8⟩, rfl, PySem.W.mg_of X G a8, F, F.binds (ps := ["book", "position", "thickness"]) fun _ _ _ _ _ _ us hl => (match us, hl with | [_, _, _], _ => rfl), sc8, cf8, rfl, rfl⟩
    | 9, h =>
      cases h
      have F := fun_mk (st := top 13) l9 c9 k9
      exact ⟨top 13, f9, _, ["book", "thickness", "position"], ["book", "thickness"], ⟨2, 3, b9⟩, rfl, PySem.W.mg_of X G a9, F, F.binds (ps := ["book", "thickness"]) fun _ _ _ _ _ _ us hl => (match us, hl with | [_, _], _ => rfl), sc9, cf9, rfl, rfl⟩
    | 10, h =>
      cases h
      have F := fun_mk (st := top 16) l10 c10 k10
      exact ⟨top 16, f10, _, ["script", "k"], ["script", "k"], ⟨2, 2, b10⟩, rfl, PySem.W.mg_of X G a10, F, F.binds (ps := ["script", "k"]) fun _ _ _ _ _ _ us hl => (match us, hl with | [_, _], _ => rfl), sc10, cf10, rfl, rfl⟩
    | 11, h =>
      cases h
      have F := fun_mk (st := top 18) l11 c11 k11
      exact ⟨top 18, f11, _, ["actual", "due"], ["actual", "due"], ⟨2, 2, b11⟩, rfl, PySem.W.mg_of X G a11, F, F.binds (ps := ["actual", "due"]) fun _ _ _ _ _ _ us hl => (match us, hl with | [_, _], _ => rfl), sc11, cf11, rfl, rfl⟩
    | 12, h =>
      cases h
      have F := fun_mk (st := top 19) l12 c12 k12
      exact ⟨top 19, f12, _, ["script", "first", "last", "digits", "k", "cell", "lap", "seed"], ["script", "first", "last"], ⟨3, 8, b12⟩, rfl, PySem.W.mg_of X G a12, F, F.binds (ps := ["script", "first", "last"]) fun _ _ _ _ _ _ us hl => (match us, hl with | [_, _, _], _ => rfl), sc12, cf12, rfl, rfl⟩
    | 13, h =>
      cases h
      have F := fun_mk (st := top 20) l13 c13 k13
      exact ⟨top 20, f13, _, ["box", "many", "at"], ["box", "many"], ⟨2, 3, b13⟩, rfl, PySem.W.mg_of X G a13, F, F.binds (ps := ["box", "many"]) fun _ _ _ _ _ _ us hl => (match us, hl with | [_, _], _ => rfl), sc13, cf13, rfl, rfl⟩
    | 14, h =>
      cases h
      have F := fun_mk (st := top 28) l14 c14 k14
      exact ⟨top 28, f14, _, ["folding"], ["folding"], ⟨1, 1, b14⟩, rfl, PySem.W.mg_of X G a14, F, F.binds (ps := ["folding"]) fun _ _ _ _ _ _ us hl => (match us, hl with | [_], _ => rfl), sc14, cf14, rfl, rfl⟩
    | 15, h =>
      cases h
      have F := fun_mk (st := top 30) l15 c15 k15
      exact ⟨top 30, f15, _, ["box", "binding", "foldings", "k", "j", "folding", "many", "pages"], ["box"], ⟨1, 8, b15⟩, rfl, PySem.W.mg_of X G a15, F, F.binds (ps := ["box"]) fun _ _ _ _ _ _ us hl => (match us, hl with | [_], _ => rfl), sc15, cf15, rfl, rfl⟩
    | 16, h =>
      cases h
      have F := fun_mk (st := top 31) l16 c16 k16
      exact ⟨top 31, f16, _, ["book", "folding", "groups", "found", "many", "k", "depth"], ["book"], ⟨1, 7, b16⟩, rfl, PySem.W.mg_of X G a16, F, F.binds (ps := ["book"]) fun _ _ _ _ _ _ us hl => (match us, hl with | [_], _ => rfl), sc16, cf16, rfl, rfl⟩
    | 17, h =>
      cases h
      have F := fun_mk (st := top 32) l17 c17 k17
      exact ⟨top 32, f17, _, ["script", "box", "lap", "book", "thickness", "depths", "k"], ["script"], ⟨1, 7, b17⟩, rfl, PySem.W.mg_of X G a17, F, F.binds (ps := ["script"]) fun _ _ _ _ _ _ us hl => (match us, hl with | [_], _ => rfl), sc17, cf17, rfl, rfl⟩
    | i + 18, h => cases h
theorem hpow : T[0]? = some ⟨1, 1, bPow⟩ := rfl
theorem hpag : T[1]? = some ⟨1, 1, bPages 0⟩ := rfl
theorem hcnt : T[2]? = some ⟨1, 2, bCount 1⟩ := rfl
theorem hins : T[3]? = some ⟨2, 6, bInset 1 3⟩ := rfl
theorem hord : T[4]? = some ⟨1, 8, bOrder 1 3⟩ := rfl
theorem hloc : T[5]? = some ⟨2, 2, bLocate 4⟩ := rfl
theorem hcell : T[10]? = some ⟨2, 2, bCell⟩ := rfl
theorem hdig : T[12]? = some ⟨3, 8, bDigits 10⟩ := rfl
theorem hdraw : T[13]? = some ⟨2, 3, bDraw⟩ := rfl
theorem hsame : T[11]? = some ⟨2, 2, bSame⟩ := rfl
theorem hlpg : T[14]? = some ⟨1, 1, bLawPages⟩ := rfl
theorem hbook : T[15]? = some ⟨1, 8, bLawBook 13 14⟩ := rfl
/-! ### the plain law -/
def dep (m k : Nat) : Nat := min k (m - 1 - k)
def depsV (m : Nat) : List Nat := (List.range m).flatMap fun k => [dep m k, dep m k]
def grpV (b : Bool) (fs : List Str) : List Nat := if b then [cntV fs / 2] else fs.map fun f => pgV f / 2
def depV (b : Bool) (fs : List Str) : List Nat := (grpV b fs).flatMap depsV
/-- the depth, as the program has it -/
def deepV (b : Bool) (fs : List Str) (k : Nat) : Nat :=
  if b then dep (cntV fs / 2) (k / 2) else dep (pgV (fs.getD ((ordG fs).getD k (0, 0)).1 ⟨#[]⟩) / 2) ((((ordG fs).getD k (0, 0)).2 - 1) / 2)
theorem two_by (g : Nat → Nat) : ∀ n, (List.range n).flatMap (fun k => [g k, g k]) = (List.range (2 * n)).map fun q => g (q / 2)
  | 0 => rfl
  | n + 1 => by
    rw [List.range_succ, List.flatMap_append, two_by g n, show 2 * (n + 1) = 2 * n + 1 + 1 by omega, List.range_succ, List.range_succ]
    simp only [List.map_append, List.map_cons, List.map_nil, List.flatMap_cons, List.flatMap_nil, List.append_nil, List.append_assoc]
    have e1 : 2 * n / 2 = n := by omega
    have e2 : (2 * n + 1) / 2 = n := by omega
    rw [e1, e2]
    rfl
theorem two_len (g : Nat → Nat) : ∀ l : List Nat, (l.flatMap fun k => [g k, g k]).length = 2 * l.length
  | [] => rfl
  | x :: l => by rw [List.flatMap_cons, List.length_append, two_len g l, List.length_cons]; simp; omega
theorem deps_eq (m : Nat) : depsV m = (List.range (2 * m)).map fun q => dep m (q / 2) := two_by (dep m) m
theorem cnt_even : ∀ fs : List Str, cntV fs % 2 = 0
  | [] => rfl
  | f :: fs => by
    have := cnt_even fs
    unfold cntV at this ⊢
    rw [List.map_cons, List.sum_cons]
    unfold pgV at this ⊢
    omega
theorem dep_all (b : Bool) (fs : List Str) : depV b fs = (List.range (cntV fs)).map (deepV b fs) := by
  cases b with
  | true =>
    unfold depV grpV deepV
    simp only [if_true, List.flatMap_cons, List.flatMap_nil, List.append_nil]
    rw [deps_eq]
    have := cnt_even fs
    rw [show 2 * (cntV fs / 2) = cntV fs by omega]
  | false =>
    have e1 : (ordG fs).map (fun q : Nat × Nat => dep (pgV (fs.getD q.1 ⟨#[]⟩) / 2) ((q.2 - 1) / 2)) = depV false fs := by
      unfold depV grpV ordG
      simp only [Bool.false_eq_true, if_false]
      rw [List.map_flatMap, List.flatMap_map]
      have e2 : fs = (List.range fs.length).map fun i => fs.getD i ⟨#[]⟩ := by
        apply List.ext_getElem?
        intro i
        rw [List.getElem?_map]
        by_cases h : i < fs.length
        · rw [List.getElem?_range h, List.getElem?_eq_getElem h]; simp [h]
        · rw [List.getElem?_eq_none (by omega), List.getElem?_eq_none (by simpa using h)]; rfl
      conv => rhs; arg 2; rw [e2]
      rw [List.flatMap_map]
      congr 1
      funext i
      rw [List.map_map, deps_eq, pg_even]
      exact List.map_congr_left fun q _ => by
        show dep _ ((1 + q - 1) / 2) = _
        rw [show 1 + q - 1 = q by omega]
    rw [← e1]
    apply List.ext_getElem?
    intro k
    rw [List.getElem?_map, List.getElem?_map]
    have hl := ordG_len fs
    by_cases h : k < cntV fs
    · rw [List.getElem?_range h, List.getElem?_eq_getElem (by omega)]
      unfold deepV
      simp [List.getD_eq_getElem?_getD, show k < (ordG fs).length by omega]
    · rw [List.getElem?_eq_none (by omega), List.getElem?_eq_none (by simpa using h)]
      rfl
theorem max_mul {t : Int} (ht : 0 ≤ t) : ∀ (l : List Int) (x : Int), (l.map fun i => t * i).foldl max (t * x) = t * l.foldl max x
  | [], x => rfl
  | y :: l, x => by
    rw [List.map_cons, List.foldl_cons, List.foldl_cons]
    have : max (t * x) (t * y) = t * max x y := by
      rcases Int.le_total x y with h | h
      · rw [Int.max_eq_right h, Int.max_eq_right (Int.mul_le_mul_of_nonneg_left h ht)]
      · rw [Int.max_eq_left h, Int.max_eq_left (Int.mul_le_mul_of_nonneg_left h ht)]
    rw [this, max_mul ht l]
theorem dep_le (m k : Nat) : dep m k ≤ m := by unfold dep; omega
/-! ### the walks -/
def BookOk (fs : List Str) : Prop := (∀ f ∈ fs, f.length ≤ 3) ∧ 1 ≤ fs.length ∧ fs.length ≤ 4
theorem among_ok {n k m : Nat} (h : k < m) : callF T (n + 1) 6 [(natD k, 0), (natD m, 0)] = .val (natD (dep m k), 0, [some (natD k, 0), some (natD m, 0)]) := by
  refine call_eq (F := ⟨2, 2, b6⟩) rfl rfl ?_
  have e : (if (m : Int) - 1 - (k : Int) < (k : Int) then (m : Int) - 1 - (k : Int) else (k : Int)) = ((dep m k : Nat) : Int) := by
    unfold dep
    split <;> omega
  simp only [env0_2, b6, List.replicate, e, ↓exW_skip, ↓exW_seq, ↓exW_setn, ↓exW_setc, ↓exW_setJ, ↓putW_at, ↓putE_L, ↓ixW_0, ↓ixW_1, ↓exW_aug, ↓exW_retv, ↓exW_ex, ↓exW_app, ↓exW_ext, ↓exW_ite, ↓exW_for, ↓exW_whl, ↓exW_ret_op, ↓exW_ret_lit, ↓exW_ret_call, ↓exW_ret_mkt, ↓exW_ret_mkl, ↓exW_ret_ite, ↓exW_ret_and, ↓exW_ret_or, ↓exW_ret_comp, ↓exW_ret_chain, ↓exW_ret_pop, ↓evW_lit, ↓evW_var, ↓evW_nil, ↓evW_cons, ↓evW_op, ↓evW_mkl, ↓evW_mkt, ↓evW_ite, ↓evW_and, ↓evW_or, ↓evW_call, ↓evW_comp, ↓evW_pop, ↓evW_chain, ↓hdQ_1, ↓contF_nx, ↓contF_rt, ↓atE_0, ↓atE_S, ↓borW_nil, ↓borW_vl, ↓borW_vrT, ↓borW_vrF, ↓takW_nil, ↓takW_vl, ↓takW_vr, ↓oneW_vl, ↓oneW_vr, ↓lendW_nil, ↓lendW_vl, ↓lendW_vr, ↓trW_vl, ↓trW_vr, ↓ifB_t, ↓ifB_f, ↓ifB_d, ↓ifB_n, ↓truW_bl, ↓truW_int, ↓truW_lst, ↓truW_tup, ↓truW_non, ↓opK_add, ↓opK_addT, ↓opK_addL, ↓opK_addS, ↓opK_sub, ↓opK_mul, ↓opK_mulT, ↓opK_mulL, ↓opK_fdiv, ↓opK_mod, ↓opK_pow, ↓opK_shl, ↓opK_band, ↓opK_neg, ↓opK_notB, ↓opK_not, ↓opK_lt, ↓opK_le, ↓opK_gt, ↓opK_ge, ↓opK_eq, ↓opK_ne, ↓opK_isN, ↓opK_notN, ↓opK_isB, ↓opK_notB2, ↓opK_lenL, ↓opK_lenT, ↓opK_lenC, ↓opK_lenS, ↓opK_listL, ↓opK_listT, ↓opK_tupL, ↓opK_tupT, ↓opK_int, ↓opK_intB, ↓opK_abs, ↓opK_max2, ↓opK_min2, ↓opK_isT, ↓opK_eqL, ↓opK_neL, ↓opK_eqT, ↓opK_neT, ↓opK_eqS, ↓opK_neS, ↓opK_eqB, ↓opK_neB, ↓opK_sumT, ↓opK_sumL, ↓opK_maxT, ↓opK_maxL, ↓opK_minT, ↓opK_minL, ↓opK_sortT, ↓opK_sortL, ↓opK_sortRT, ↓opK_sortRL, ↓opK_idxL, ↓opK_idxT, ↓opK_idxC, ↓opK_revL, ↓opK_revT, ↓opK_lrg1, ↓opK_lrg2, ↓opK_trg1, ↓opK_trg2, ↓itemW_0, ↓itemW_1, ↓itemW_2, ↓itemW_3, ↓itemsW_L, ↓itemsW_T, ↓itemsW_S, ↓itemsW_r1, ↓itemsW_r2, ↓bindW_nm, ↓bindW_nil, ↓bindW_cons, ↓back_vl, ↓back_vr, ↓back_vrN, ↓back_nil, ↓low_z, ↓low_11, ↓low_1, ↓awayE_z, ↓awayE_1, ↓awayE_2, ↓pairW, ↓intW, ↓exts1, ↓low_2, ↓low_any, ↓low_set, ↓low_len, ↓awayE_s, ↓itemsW_enL, ↓itemsW_enT, ↓itemsW_esL, ↓itemsW_esT, ↓itemsW_zTT, ↓itemsW_zLL, ↓itemsW_zTL, ↓itemsW_zLT, ↓itemsW_zST, ↓itemsW_zSL, ↓itemsW_enS, ↓opK_mulS, ↓opK_imul, ↓opK_idxS, ↓opK_strI, ↓opK_strS, ↓opK_takeS, ↓opK_dropS, ↓opK_initS, ↓opK_inC, ↓opK_niC, keepO, lvOf, lvO_int, lvO_bl, lvO_str, lvO_tup, lvO_lst, lvO_non, isTy, isNon, List.set_cons_zero, List.set_cons_succ, List.length_cons, List.length_nil, getE_cons0, getE_consS, Option.isNone_none, Option.isNone_some, Bool.false_eq_true, if_true, if_false, Bool.not_true, Bool.not_false, Nat.zero_add, Nat.reduceAdd, Nat.reduceLT, Nat.reduceSub, true_and, and_true, Nat.min_zero, Nat.zero_min, Nat.reduceBEq, Bool.and_true, Bool.true_and, decide_true, decide_false, outs_z, outs_S, outs_N, outs_0, Int.reduceLT, Int.reduceLE, Nat.reduceLeDiff, List.isEmpty_cons, List.isEmpty_nil, and_self, isLstAt_0, isLstAt_S, isAtomAt_0, isAtomAt_S, pOf_0, pOf_S, cmpLt, cmpLe, cmpGt, cmpGe]
theorem pg_two (f : Str) : 2 ≤ pgV f := by
  have : 1 ≤ 2 ^ f.length := Nat.one_le_two_pow
  unfold pgV; omega
theorem deep_ok {n k : Nat} {fs : List Str} (h : BookOk fs) (b : Bool) (d : D) (hk : k < cntV fs) : callF T (n + 5) 7 [(bookD b fs d, 0), (natD (1 + k), 0)] = .val (natD (deepV b fs k), 0, [some (bookD b fs d, 0), some (natD (1 + k), 0)]) := by
  refine call_eq (F := ⟨2, 4, b7⟩) rfl rfl ?_
  have e1 : (((1 + k : Nat) : Int) - 1) / 2 = ((k / 2 : Nat) : Int) := by omega
  cases b with
  | true =>
    have hcn : ∀ K, callW (callF T (n + 4)) 2 [(bookD true fs d, 0)] K ↔ K (natD (cntV fs)) 0 [some (bookD true fs d, 0)] := fun K => callW_of (count_ok (n := n + 1) hpow hpag hcnt (fun f hf => by have := h.1 f hf; omega) (by have := h.2; omega))
    have e2 : (cntV fs : Int) / 2 = ((cntV fs / 2 : Nat) : Int) := by omega
    have hev := cnt_even fs
    have ham : ∀ K, callW (callF T (n + 4)) 6 [(natD (k / 2), 0), (natD (cntV fs / 2), 0)] K ↔ K (natD (deepV true fs k)) 0 _ := fun K => callW_of (among_ok (n := n + 3) (by omega))
    have eb : (bindS true == (⟨#[105, 110, 115, 101, 116]⟩ : Str)) = true := by decide
    simp only [env0_2, b7, List.replicate, eb, ↓hcn, e1, e2, ↓ham, ↓exW_skip, ↓exW_seq, ↓exW_setn, ↓exW_setc, ↓exW_setJ, ↓putW_at, ↓putE_L, ↓ixW_0, ↓ixW_1, ↓exW_aug, ↓exW_retv, ↓exW_ex, ↓exW_app, ↓exW_ext, ↓exW_ite, ↓exW_for, ↓exW_whl, ↓exW_ret_op, ↓exW_ret_lit, ↓exW_ret_call, ↓exW_ret_mkt, ↓exW_ret_mkl, ↓exW_ret_ite, ↓exW_ret_and, ↓exW_ret_or, ↓exW_ret_comp, ↓exW_ret_chain, ↓exW_ret_pop, ↓evW_lit, ↓evW_var, ↓evW_nil, ↓evW_cons, ↓evW_op, ↓evW_mkl, ↓evW_mkt, ↓evW_ite, ↓evW_and, ↓evW_or, ↓evW_call, ↓evW_comp, ↓evW_pop, ↓evW_chain, ↓hdQ_1, ↓contF_nx, ↓contF_rt, ↓atE_0, ↓atE_S, ↓borW_nil, ↓borW_vl, ↓borW_vrT, ↓borW_vrF, ↓takW_nil, ↓takW_vl, ↓takW_vr, ↓oneW_vl, ↓oneW_vr, ↓lendW_nil, ↓lendW_vl, ↓lendW_vr, ↓trW_vl, ↓trW_vr, ↓ifB_t, ↓ifB_f, ↓ifB_d, ↓ifB_n, ↓truW_bl, ↓truW_int, ↓truW_lst, ↓truW_tup, ↓truW_non, ↓opK_add, ↓opK_addT, ↓opK_addL, ↓opK_addS, ↓opK_sub, ↓opK_mul, ↓opK_mulT, ↓opK_mulL, ↓opK_fdiv, ↓opK_mod, ↓opK_pow, ↓opK_shl, ↓opK_band, ↓opK_neg, ↓opK_notB, ↓opK_not, ↓opK_lt, ↓opK_le, ↓opK_gt, ↓opK_ge, ↓opK_eq, ↓opK_ne, ↓opK_isN, ↓opK_notN, ↓opK_isB, ↓opK_notB2, ↓opK_lenL, ↓opK_lenT, ↓opK_lenC, ↓opK_lenS, ↓opK_listL, ↓opK_listT, ↓opK_tupL, ↓opK_tupT, ↓opK_int, ↓opK_intB, ↓opK_abs, ↓opK_max2, ↓opK_min2, ↓opK_isT, ↓opK_eqL, ↓opK_neL, ↓opK_eqT, ↓opK_neT, ↓opK_eqS, ↓opK_neS, ↓opK_eqB, ↓opK_neB, ↓opK_sumT, ↓opK_sumL, ↓opK_maxT, ↓opK_maxL, ↓opK_minT, ↓opK_minL, ↓opK_sortT, ↓opK_sortL, ↓opK_sortRT, ↓opK_sortRL, ↓opK_idxL, ↓opK_idxT, ↓opK_idxC, ↓opK_revL, ↓opK_revT, ↓opK_lrg1, ↓opK_lrg2, ↓opK_trg1, ↓opK_trg2, ↓itemW_0, ↓itemW_1, ↓itemW_2, ↓itemW_3, ↓itemsW_L, ↓itemsW_T, ↓itemsW_S, ↓itemsW_r1, ↓itemsW_r2, ↓bindW_nm, ↓bindW_nil, ↓bindW_cons, ↓back_vl, ↓back_vr, ↓back_vrN, ↓back_nil, ↓low_z, ↓low_11, ↓low_1, ↓awayE_z, ↓awayE_1, ↓awayE_2, ↓pairW, ↓intW, ↓exts1, ↓low_2, ↓low_any, ↓low_set, ↓low_len, ↓awayE_s, ↓itemsW_enL, ↓itemsW_enT, ↓itemsW_esL, ↓itemsW_esT, ↓itemsW_zTT, ↓itemsW_zLL, ↓itemsW_zTL, ↓itemsW_zLT, ↓itemsW_zST, ↓itemsW_zSL, ↓itemsW_enS, ↓opK_mulS, ↓opK_imul, ↓opK_idxS, ↓opK_strI, ↓opK_strS, ↓opK_takeS, ↓opK_dropS, ↓opK_initS, ↓opK_inC, ↓opK_niC, keepO, lvOf, lvO_int, lvO_bl, lvO_str, lvO_tup, lvO_lst, lvO_non, isTy, isNon, List.set_cons_zero, List.set_cons_succ, List.length_cons, List.length_nil, getE_cons0, getE_consS, Option.isNone_none, Option.isNone_some, Bool.false_eq_true, if_true, if_false, Bool.not_true, Bool.not_false, Nat.zero_add, Nat.reduceAdd, Nat.reduceLT, Nat.reduceSub, true_and, and_true, Nat.min_zero, Nat.zero_min, Nat.reduceBEq, Bool.and_true, Bool.true_and, decide_true, decide_false, outs_z, outs_S, outs_N, outs_0, Int.reduceLT, Int.reduceLE, Nat.reduceLeDiff, List.isEmpty_cons, List.isEmpty_nil, and_self, isLstAt_0, isLstAt_S, isAtomAt_0, isAtomAt_S, pOf_0, pOf_S, cmpLt, cmpLe, cmpGt, cmpGe]
  | false =>
    have hlo : ∀ K, callW (callF T (n + 4)) 5 [(bookD false fs d, 0), (natD (1 + k), 0)] K ↔ K (pairD ((ordV false fs).getD k (0, 0))) 0 [some (bookD false fs d, 0), some (natD (1 + k), 0)] := fun K =>
      callW_of (locate_gath hpow hpag hord hloc (fun f hf => by have := h.1 f hf; omega) (by have := h.2; omega) h.2.1 d (n := n + 2) (by omega) hk)
    have hmem : (ordV false fs).getD k (0, 0) ∈ ordV false fs := by
      have := ord_len false fs
      rw [List.getD_eq_getElem?_getD, List.getElem?_eq_getElem (by omega)]
      exact List.getElem_mem _
    have hdv : deepV false fs k = dep (pgV (fs.getD ((ordV false fs).getD k (0, 0)).1 ⟨#[]⟩) / 2) ((((ordV false fs).getD k (0, 0)).2 - 1) / 2) := rfl
    rw [hdv]
    generalize (ordV false fs).getD k (0, 0) = sq at hlo hmem
    obtain ⟨s, q⟩ := sq
    have hq := ord_mem hmem
    simp only at hq ⊢
    have hfm : fs.getD s ⟨#[]⟩ ∈ fs := by
      rw [List.getD_eq_getElem?_getD, List.getElem?_eq_getElem hq.1]
      exact List.getElem_mem hq.1
    have hit : ∀ K, itemW (fs.map D.str) (s : Int) K ↔ K (.str (fs.getD s ⟨#[]⟩)) := fun K => itemW_at (by
      rw [List.getElem?_map, List.getD_eq_getElem?_getD, List.getElem?_eq_getElem hq.1]; rfl)
    have hf3 := h.1 _ hfm
    generalize fs.getD s ⟨#[]⟩ = f at hq hfm hit hf3
    have hpg : ∀ K, callW (callF T (n + 4)) 1 [(.str f, 0)] K ↔ K (natD (pgV f)) 0 [some (.str f, 0)] := fun K => callW_of (pages_ok (n := n + 2) hpow hpag (by omega))
    have hev := pg_even f
    have ham : ∀ K, callW (callF T (n + 4)) 6 [(natD ((q - 1) / 2), 0), (natD (pgV f / 2), 0)] K ↔ K (natD (dep (pgV f / 2) ((q - 1) / 2))) 0 _ := fun K => callW_of (among_ok (n := n + 3) (by omega))
    have e2 : ((q : Int) - 1) / 2 = (((q - 1) / 2 : Nat) : Int) := by omega
    have e3 : (pgV f : Int) / 2 = ((pgV f / 2 : Nat) : Int) := by omega
    have eb : (bindS false == (⟨#[105, 110, 115, 101, 116]⟩ : Str)) = false := by decide
    simp only [env0_2, b7, List.replicate, eb, ↓hlo, ↓hit, ↓hpg, e2, e3, ↓ham, ↓exW_skip, ↓exW_seq, ↓exW_setn, ↓exW_setc, ↓exW_setJ, ↓putW_at, ↓putE_L, ↓ixW_0, ↓ixW_1, ↓exW_aug, ↓exW_retv, ↓exW_ex, ↓exW_app, ↓exW_ext, ↓exW_ite, ↓exW_for, ↓exW_whl, ↓exW_ret_op, ↓exW_ret_lit, ↓exW_ret_call, ↓exW_ret_mkt, ↓exW_ret_mkl, ↓exW_ret_ite, ↓exW_ret_and, ↓exW_ret_or, ↓exW_ret_comp, ↓exW_ret_chain, ↓exW_ret_pop, ↓evW_lit, ↓evW_var, ↓evW_nil, ↓evW_cons, ↓evW_op, ↓evW_mkl, ↓evW_mkt, ↓evW_ite, ↓evW_and, ↓evW_or, ↓evW_call, ↓evW_comp, ↓evW_pop, ↓evW_chain, ↓hdQ_1, ↓contF_nx, ↓contF_rt, ↓atE_0, ↓atE_S, ↓borW_nil, ↓borW_vl, ↓borW_vrT, ↓borW_vrF, ↓takW_nil, ↓takW_vl, ↓takW_vr, ↓oneW_vl, ↓oneW_vr, ↓lendW_nil, ↓lendW_vl, ↓lendW_vr, ↓trW_vl, ↓trW_vr, ↓ifB_t, ↓ifB_f, ↓ifB_d, ↓ifB_n, ↓truW_bl, ↓truW_int, ↓truW_lst, ↓truW_tup, ↓truW_non, ↓opK_add, ↓opK_addT, ↓opK_addL, ↓opK_addS, ↓opK_sub, ↓opK_mul, ↓opK_mulT, ↓opK_mulL, ↓opK_fdiv, ↓opK_mod, ↓opK_pow, ↓opK_shl, ↓opK_band, ↓opK_neg, ↓opK_notB, ↓opK_not, ↓opK_lt, ↓opK_le, ↓opK_gt, ↓opK_ge, ↓opK_eq, ↓opK_ne, ↓opK_isN, ↓opK_notN, ↓opK_isB, ↓opK_notB2, ↓opK_lenL, ↓opK_lenT, ↓opK_lenC, ↓opK_lenS, ↓opK_listL, ↓opK_listT, ↓opK_tupL, ↓opK_tupT, ↓opK_int, ↓opK_intB, ↓opK_abs, ↓opK_max2, ↓opK_min2, ↓opK_isT, ↓opK_eqL, ↓opK_neL, ↓opK_eqT, ↓opK_neT, ↓opK_eqS, ↓opK_neS, ↓opK_eqB, ↓opK_neB, ↓opK_sumT, ↓opK_sumL, ↓opK_maxT, ↓opK_maxL, ↓opK_minT, ↓opK_minL, ↓opK_sortT, ↓opK_sortL, ↓opK_sortRT, ↓opK_sortRL, ↓opK_idxL, ↓opK_idxT, ↓opK_idxC, ↓opK_revL, ↓opK_revT, ↓opK_lrg1, ↓opK_lrg2, ↓opK_trg1, ↓opK_trg2, ↓itemW_0, ↓itemW_1, ↓itemW_2, ↓itemW_3, ↓itemsW_L, ↓itemsW_T, ↓itemsW_S, ↓itemsW_r1, ↓itemsW_r2, ↓bindW_nm, ↓bindW_nil, ↓bindW_cons, ↓back_vl, ↓back_vr, ↓back_vrN, ↓back_nil, ↓low_z, ↓low_11, ↓low_1, ↓awayE_z, ↓awayE_1, ↓awayE_2, ↓pairW, ↓intW, ↓exts1, ↓low_2, ↓low_any, ↓low_set, ↓low_len, ↓awayE_s, ↓itemsW_enL, ↓itemsW_enT, ↓itemsW_esL, ↓itemsW_esT, ↓itemsW_zTT, ↓itemsW_zLL, ↓itemsW_zTL, ↓itemsW_zLT, ↓itemsW_zST, ↓itemsW_zSL, ↓itemsW_enS, ↓opK_mulS, ↓opK_imul, ↓opK_idxS, ↓opK_strI, ↓opK_strS, ↓opK_takeS, ↓opK_dropS, ↓opK_initS, ↓opK_inC, ↓opK_niC, keepO, lvOf, lvO_int, lvO_bl, lvO_str, lvO_tup, lvO_lst, lvO_non, isTy, isNon, List.set_cons_zero, List.set_cons_succ, List.length_cons, List.length_nil, getE_cons0, getE_consS, Option.isNone_none, Option.isNone_some, Bool.false_eq_true, if_true, if_false, Bool.not_true, Bool.not_false, Nat.zero_add, Nat.reduceAdd, Nat.reduceLT, Nat.reduceSub, true_and, and_true, Nat.min_zero, Nat.zero_min, Nat.reduceBEq, Bool.and_true, Bool.true_and, decide_true, decide_false, outs_z, outs_S, outs_N, outs_0, Int.reduceLT, Int.reduceLE, Nat.reduceLeDiff, List.isEmpty_cons, List.isEmpty_nil, and_self, isLstAt_0, isLstAt_S, isAtomAt_0, isAtomAt_S, pOf_0, pOf_S, cmpLt, cmpLe, cmpGt, cmpGe]
theorem creep_ok {n k : Nat} {fs : List Str} (h : BookOk fs) (b : Bool) (d : D) (hk : k < cntV fs) {t : Int} (ht : 0 ≤ t ∧ t ≤ 120) : callF T (n + 6) 8 [(bookD b fs d, 0), (natD (1 + k), 0), (.int t, 0)] = .val (.int (t * (deepV b fs k : Nat)), 0, [some (bookD b fs d, 0), some (natD (1 + k), 0), some (.int t, 0)]) := by
  refine call_eq (F := ⟨3, 3, b8⟩) rfl rfl ?_
  have hd : ∀ K, callW (callF T (n + 5)) 7 [(bookD b fs d, 0), (natD (1 + k), 0)] K ↔ K (natD (deepV b fs k)) 0 [some (bookD b fs d, 0), some (natD (1 + k), 0)] := fun K => callW_of (deep_ok h b d hk)
  have st : small t = true := small_lit ⟨by omega, by omega⟩
  simp only [env0_3, b8, List.replicate, ↓hd, st, Bool.true_or, ↓exW_skip, ↓exW_seq, ↓exW_setn, ↓exW_setc, ↓exW_setJ, ↓putW_at, ↓putE_L, ↓ixW_0, ↓ixW_1, ↓exW_aug, ↓exW_retv, ↓exW_ex, ↓exW_app, ↓exW_ext, ↓exW_ite, ↓exW_for, ↓exW_whl, ↓exW_ret_op, ↓exW_ret_lit, ↓exW_ret_call, ↓exW_ret_mkt, ↓exW_ret_mkl, ↓exW_ret_ite, ↓exW_ret_and, ↓exW_ret_or, ↓exW_ret_comp, ↓exW_ret_chain, ↓exW_ret_pop, ↓evW_lit, ↓evW_var, ↓evW_nil, ↓evW_cons, ↓evW_op, ↓evW_mkl, ↓evW_mkt, ↓evW_ite, ↓evW_and, ↓evW_or, ↓evW_call, ↓evW_comp, ↓evW_pop, ↓evW_chain, ↓hdQ_1, ↓contF_nx, ↓contF_rt, ↓atE_0, ↓atE_S, ↓borW_nil, ↓borW_vl, ↓borW_vrT, ↓borW_vrF, ↓takW_nil, ↓takW_vl, ↓takW_vr, ↓oneW_vl, ↓oneW_vr, ↓lendW_nil, ↓lendW_vl, ↓lendW_vr, ↓trW_vl, ↓trW_vr, ↓ifB_t, ↓ifB_f, ↓ifB_d, ↓ifB_n, ↓truW_bl, ↓truW_int, ↓truW_lst, ↓truW_tup, ↓truW_non, ↓opK_add, ↓opK_addT, ↓opK_addL, ↓opK_addS, ↓opK_sub, ↓opK_mul, ↓opK_mulT, ↓opK_mulL, ↓opK_fdiv, ↓opK_mod, ↓opK_pow, ↓opK_shl, ↓opK_band, ↓opK_neg, ↓opK_notB, ↓opK_not, ↓opK_lt, ↓opK_le, ↓opK_gt, ↓opK_ge, ↓opK_eq, ↓opK_ne, ↓opK_isN, ↓opK_notN, ↓opK_isB, ↓opK_notB2, ↓opK_lenL, ↓opK_lenT, ↓opK_lenC, ↓opK_lenS, ↓opK_listL, ↓opK_listT, ↓opK_tupL, ↓opK_tupT, ↓opK_int, ↓opK_intB, ↓opK_abs, ↓opK_max2, ↓opK_min2, ↓opK_isT, ↓opK_eqL, ↓opK_neL, ↓opK_eqT, ↓opK_neT, ↓opK_eqS, ↓opK_neS, ↓opK_eqB, ↓opK_neB, ↓opK_sumT, ↓opK_sumL, ↓opK_maxT, ↓opK_maxL, ↓opK_minT, ↓opK_minL, ↓opK_sortT, ↓opK_sortL, ↓opK_sortRT, ↓opK_sortRL, ↓opK_idxL, ↓opK_idxT, ↓opK_idxC, ↓opK_revL, ↓opK_revT, ↓opK_lrg1, ↓opK_lrg2, ↓opK_trg1, ↓opK_trg2, ↓itemW_0, ↓itemW_1, ↓itemW_2, ↓itemW_3, ↓itemsW_L, ↓itemsW_T, ↓itemsW_S, ↓itemsW_r1, ↓itemsW_r2, ↓bindW_nm, ↓bindW_nil, ↓bindW_cons, ↓back_vl, ↓back_vr, ↓back_vrN, ↓back_nil, ↓low_z, ↓low_11, ↓low_1, ↓awayE_z, ↓awayE_1, ↓awayE_2, ↓pairW, ↓intW, ↓exts1, ↓low_2, ↓low_any, ↓low_set, ↓low_len, ↓awayE_s, ↓itemsW_enL, ↓itemsW_enT, ↓itemsW_esL, ↓itemsW_esT, ↓itemsW_zTT, ↓itemsW_zLL, ↓itemsW_zTL, ↓itemsW_zLT, ↓itemsW_zST, ↓itemsW_zSL, ↓itemsW_enS, ↓opK_mulS, ↓opK_imul, ↓opK_idxS, ↓opK_strI, ↓opK_strS, ↓opK_takeS, ↓opK_dropS, ↓opK_initS, ↓opK_inC, ↓opK_niC, keepO, lvOf, lvO_int, lvO_bl, lvO_str, lvO_tup, lvO_lst, lvO_non, isTy, isNon, List.set_cons_zero, List.set_cons_succ, List.length_cons, List.length_nil, getE_cons0, getE_consS, Option.isNone_none, Option.isNone_some, Bool.false_eq_true, if_true, if_false, Bool.not_true, Bool.not_false, Nat.zero_add, Nat.reduceAdd, Nat.reduceLT, Nat.reduceSub, true_and, and_true, Nat.min_zero, Nat.zero_min, Nat.reduceBEq, Bool.and_true, Bool.true_and, decide_true, decide_false, outs_z, outs_S, outs_N, outs_0, Int.reduceLT, Int.reduceLE, Nat.reduceLeDiff, List.isEmpty_cons, List.isEmpty_nil, and_self, isLstAt_0, isLstAt_S, isAtomAt_0, isAtomAt_S, pOf_0, pOf_S, cmpLt, cmpLe, cmpGt, cmpGe]
theorem widest_ok {n : Nat} {fs : List Str} (h : BookOk fs) (b : Bool) (d : D) {x : Nat} {xs : List Nat} (hx : depV b fs = x :: xs) {t : Int} (ht : 0 ≤ t ∧ t ≤ 120) : callF T (n + 7) 9 [(bookD b fs d, 0), (.int t, 0)] = .val (.int (t * (xs.map fun i : Nat => (i : Int)).foldl max (x : Int)), 0, [some (bookD b fs d, 0), some (.int t, 0)]) := by
  refine call_eq (F := ⟨2, 3, b9⟩) rfl rfl ?_
  have hcn : ∀ K, callW (callF T (n + 6)) 2 [(bookD b fs d, 0)] K ↔ K (natD (cntV fs)) 0 [some (bookD b fs d, 0)] := fun K => callW_of (count_ok (n := n + 3) hpow hpag hcnt (fun f hf => by have := h.1 f hf; omega) (by have := h.2; omega))
  have hcl := cnt_le h.1
  have hbd : fs.length * (2 * 2 ^ 3) ≤ 4 * (2 * 2 ^ 3) := Nat.mul_le_mul_right _ h.2.2
  have e1 : (cntV fs : Int) + 1 = ((cntV fs + 1 : Nat) : Int) := by omega
  have r1 : (rangeL 1 ((cntV fs + 1 : Nat) : Int)).map D.int = (List.range (cntV fs)).map fun x => natD (1 + x) := rng_from 1 (cntV fs + 1)
  simp only [env0_2, b9, List.replicate, ↓hcn, e1, r1, List.length_map, List.length_range, ↓exW_skip, ↓exW_seq, ↓exW_setn, ↓exW_setc, ↓exW_setJ, ↓putW_at, ↓putE_L, ↓ixW_0, ↓ixW_1, ↓exW_aug, ↓exW_retv, ↓exW_ex, ↓exW_app, ↓exW_ext, ↓exW_ite, ↓exW_for, ↓exW_whl, ↓exW_ret_op, ↓exW_ret_lit, ↓exW_ret_call, ↓exW_ret_mkt, ↓exW_ret_mkl, ↓exW_ret_ite, ↓exW_ret_and, ↓exW_ret_or, ↓exW_ret_comp, ↓exW_ret_chain, ↓exW_ret_pop, ↓evW_lit, ↓evW_var, ↓evW_nil, ↓evW_cons, ↓evW_op, ↓evW_mkl, ↓evW_mkt, ↓evW_ite, ↓evW_and, ↓evW_or, ↓evW_call, ↓evW_comp, ↓evW_pop, ↓evW_chain, ↓hdQ_1, ↓contF_nx, ↓contF_rt, ↓atE_0, ↓atE_S, ↓borW_nil, ↓borW_vl, ↓borW_vrT, ↓borW_vrF, ↓takW_nil, ↓takW_vl, ↓takW_vr, ↓oneW_vl, ↓oneW_vr, ↓lendW_nil, ↓lendW_vl, ↓lendW_vr, ↓trW_vl, ↓trW_vr, ↓ifB_t, ↓ifB_f, ↓ifB_d, ↓ifB_n, ↓truW_bl, ↓truW_int, ↓truW_lst, ↓truW_tup, ↓truW_non, ↓opK_add, ↓opK_addT, ↓opK_addL, ↓opK_addS, ↓opK_sub, ↓opK_mul, ↓opK_mulT, ↓opK_mulL, ↓opK_fdiv, ↓opK_mod, ↓opK_pow, ↓opK_shl, ↓opK_band, ↓opK_neg, ↓opK_notB, ↓opK_not, ↓opK_lt, ↓opK_le, ↓opK_gt, ↓opK_ge, ↓opK_eq, ↓opK_ne, ↓opK_isN, ↓opK_notN, ↓opK_isB, ↓opK_notB2, ↓opK_lenL, ↓opK_lenT, ↓opK_lenC, ↓opK_lenS, ↓opK_listL, ↓opK_listT, ↓opK_tupL, ↓opK_tupT, ↓opK_int, ↓opK_intB, ↓opK_abs, ↓opK_max2, ↓opK_min2, ↓opK_isT, ↓opK_eqL, ↓opK_neL, ↓opK_eqT, ↓opK_neT, ↓opK_eqS, ↓opK_neS, ↓opK_eqB, ↓opK_neB, ↓opK_sumT, ↓opK_sumL, ↓opK_maxT, ↓opK_maxL, ↓opK_minT, ↓opK_minL, ↓opK_sortT, ↓opK_sortL, ↓opK_sortRT, ↓opK_sortRL, ↓opK_idxL, ↓opK_idxT, ↓opK_idxC, ↓opK_revL, ↓opK_revT, ↓opK_lrg1, ↓opK_lrg2, ↓opK_trg1, ↓opK_trg2, ↓itemW_0, ↓itemW_1, ↓itemW_2, ↓itemW_3, ↓itemsW_L, ↓itemsW_T, ↓itemsW_S, ↓itemsW_r1, ↓itemsW_r2, ↓bindW_nm, ↓bindW_nil, ↓bindW_cons, ↓back_vl, ↓back_vr, ↓back_vrN, ↓back_nil, ↓low_z, ↓low_11, ↓low_1, ↓awayE_z, ↓awayE_1, ↓awayE_2, ↓pairW, ↓intW, ↓exts1, ↓low_2, ↓low_any, ↓low_set, ↓low_len, ↓awayE_s, ↓itemsW_enL, ↓itemsW_enT, ↓itemsW_esL, ↓itemsW_esT, ↓itemsW_zTT, ↓itemsW_zLL, ↓itemsW_zTL, ↓itemsW_zLT, ↓itemsW_zST, ↓itemsW_zSL, ↓itemsW_enS, ↓opK_mulS, ↓opK_imul, ↓opK_idxS, ↓opK_strI, ↓opK_strS, ↓opK_takeS, ↓opK_dropS, ↓opK_initS, ↓opK_inC, ↓opK_niC, keepO, lvOf, lvO_int, lvO_bl, lvO_str, lvO_tup, lvO_lst, lvO_non, isTy, isNon, List.set_cons_zero, List.set_cons_succ, List.length_cons, List.length_nil, getE_cons0, getE_consS, Option.isNone_none, Option.isNone_some, Bool.false_eq_true, if_true, if_false, Bool.not_true, Bool.not_false, Nat.zero_add, Nat.reduceAdd, Nat.reduceLT, Nat.reduceSub, true_and, and_true, Nat.min_zero, Nat.zero_min, Nat.reduceBEq, Bool.and_true, Bool.true_and, decide_true, decide_false, outs_z, outs_S, outs_N, outs_0, Int.reduceLT, Int.reduceLE, Nat.reduceLeDiff, List.isEmpty_cons, List.isEmpty_nil, and_self, isLstAt_0, isLstAt_S, isAtomAt_0, isAtomAt_S, pOf_0, pOf_S, cmpLt, cmpLe, cmpGt, cmpGe]
  refine ⟨by rw [okR_of2 (by omega), okR_of2 (by omega)]; rfl, ⟨sz_of (by omega), rfl⟩, ?_⟩
  refine comp_g (fun x => natD (1 + x)) (fun k => .int (t * (deepV b fs k : Nat))) (fun k hk => ?_) fun l r3 er => ?_
  · have hc : ∀ K, callW (callF T (n + 6)) 8 [(bookD b fs d, 0), (natD (1 + k), 0), (.int t, 0)] K ↔ K (.int (t * (deepV b fs k : Nat))) 0 _ := fun K => callW_of (creep_ok h b d (List.mem_range.mp hk) ht)
    simp only [↓hc, ↓exW_skip, ↓exW_seq, ↓exW_setn, ↓exW_setc, ↓exW_setJ, ↓putW_at, ↓putE_L, ↓ixW_0, ↓ixW_1, ↓exW_aug, ↓exW_retv, ↓exW_ex, ↓exW_app, ↓exW_ext, ↓exW_ite, ↓exW_for, ↓exW_whl, ↓exW_ret_op, ↓exW_ret_lit, ↓exW_ret_call, ↓exW_ret_mkt, ↓exW_ret_mkl, ↓exW_ret_ite, ↓exW_ret_and, ↓exW_ret_or, ↓exW_ret_comp, ↓exW_ret_chain, ↓exW_ret_pop, ↓evW_lit, ↓evW_var, ↓evW_nil, ↓evW_cons, ↓evW_op, ↓evW_mkl, ↓evW_mkt, ↓evW_ite, ↓evW_and, ↓evW_or, ↓evW_call, ↓evW_comp, ↓evW_pop, ↓evW_chain, ↓hdQ_1, ↓contF_nx, ↓contF_rt, ↓atE_0, ↓atE_S, ↓borW_nil, ↓borW_vl, ↓borW_vrT, ↓borW_vrF, ↓takW_nil, ↓takW_vl, ↓takW_vr, ↓oneW_vl, ↓oneW_vr, ↓lendW_nil, ↓lendW_vl, ↓lendW_vr, ↓trW_vl, ↓trW_vr, ↓ifB_t, ↓ifB_f, ↓ifB_d, ↓ifB_n, ↓truW_bl, ↓truW_int, ↓truW_lst, ↓truW_tup, ↓truW_non, ↓opK_add, ↓opK_addT, ↓opK_addL, ↓opK_addS, ↓opK_sub, ↓opK_mul, ↓opK_mulT, ↓opK_mulL, ↓opK_fdiv, ↓opK_mod, ↓opK_pow, ↓opK_shl, ↓opK_band, ↓opK_neg, ↓opK_notB, ↓opK_not, ↓opK_lt, ↓opK_le, ↓opK_gt, ↓opK_ge, ↓opK_eq, ↓opK_ne, ↓opK_isN, ↓opK_notN, ↓opK_isB, ↓opK_notB2, ↓opK_lenL, ↓opK_lenT, ↓opK_lenC, ↓opK_lenS, ↓opK_listL, ↓opK_listT, ↓opK_tupL, ↓opK_tupT, ↓opK_int, ↓opK_intB, ↓opK_abs, ↓opK_max2, ↓opK_min2, ↓opK_isT, ↓opK_eqL, ↓opK_neL, ↓opK_eqT, ↓opK_neT, ↓opK_eqS, ↓opK_neS, ↓opK_eqB, ↓opK_neB, ↓opK_sumT, ↓opK_sumL, ↓opK_maxT, ↓opK_maxL, ↓opK_minT, ↓opK_minL, ↓opK_sortT, ↓opK_sortL, ↓opK_sortRT, ↓opK_sortRL, ↓opK_idxL, ↓opK_idxT, ↓opK_idxC, ↓opK_revL, ↓opK_revT, ↓opK_lrg1, ↓opK_lrg2, ↓opK_trg1, ↓opK_trg2, ↓itemW_0, ↓itemW_1, ↓itemW_2, ↓itemW_3, ↓itemsW_L, ↓itemsW_T, ↓itemsW_S, ↓itemsW_r1, ↓itemsW_r2, ↓bindW_nm, ↓bindW_nil, ↓bindW_cons, ↓back_vl, ↓back_vr, ↓back_vrN, ↓back_nil, ↓low_z, ↓low_11, ↓low_1, ↓awayE_z, ↓awayE_1, ↓awayE_2, ↓pairW, ↓intW, ↓exts1, ↓low_2, ↓low_any, ↓low_set, ↓low_len, ↓awayE_s, ↓itemsW_enL, ↓itemsW_enT, ↓itemsW_esL, ↓itemsW_esT, ↓itemsW_zTT, ↓itemsW_zLL, ↓itemsW_zTL, ↓itemsW_zLT, ↓itemsW_zST, ↓itemsW_zSL, ↓itemsW_enS, ↓opK_mulS, ↓opK_imul, ↓opK_idxS, ↓opK_strI, ↓opK_strS, ↓opK_takeS, ↓opK_dropS, ↓opK_initS, ↓opK_inC, ↓opK_niC, keepO, lvOf, lvO_int, lvO_bl, lvO_str, lvO_tup, lvO_lst, lvO_non, isTy, isNon, List.set_cons_zero, List.set_cons_succ, List.length_cons, List.length_nil, getE_cons0, getE_consS, Option.isNone_none, Option.isNone_some, Bool.false_eq_true, if_true, if_false, Bool.not_true, Bool.not_false, Nat.zero_add, Nat.reduceAdd, Nat.reduceLT, Nat.reduceSub, true_and, and_true, Nat.min_zero, Nat.zero_min, Nat.reduceBEq, Bool.and_true, Bool.true_and, decide_true, decide_false, outs_z, outs_S, outs_N, outs_0, Int.reduceLT, Int.reduceLE, Nat.reduceLeDiff, List.isEmpty_cons, List.isEmpty_nil, and_self, isLstAt_0, isLstAt_S, isAtomAt_0, isAtomAt_S, pOf_0, pOf_S, cmpLt, cmpLe, cmpGt, cmpGe]
    exact ⟨_, rfl⟩
  · have e : (List.range (cntV fs)).map (fun k => D.int (t * (deepV b fs k : Nat))) = ((t * (x : Int)) :: ((xs.map fun i : Nat => (i : Int)).map fun i => t * i)).map D.int := by
      have : (List.range (cntV fs)).map (fun k => D.int (t * (deepV b fs k : Nat))) = (depV b fs).map fun i : Nat => D.int (t * (i : Int)) := by
        rw [dep_all, List.map_map]; rfl
      rw [this, hx]
      simp [List.map_map, Function.comp_def]
    rw [er, e, opK_maxL, max_mul ht.1]
    simp only [↓exW_skip, ↓exW_seq, ↓exW_setn, ↓exW_setc, ↓exW_setJ, ↓putW_at, ↓putE_L, ↓ixW_0, ↓ixW_1, ↓exW_aug, ↓exW_retv, ↓exW_ex, ↓exW_app, ↓exW_ext, ↓exW_ite, ↓exW_for, ↓exW_whl, ↓exW_ret_op, ↓exW_ret_lit, ↓exW_ret_call, ↓exW_ret_mkt, ↓exW_ret_mkl, ↓exW_ret_ite, ↓exW_ret_and, ↓exW_ret_or, ↓exW_ret_comp, ↓exW_ret_chain, ↓exW_ret_pop, ↓evW_lit, ↓evW_var, ↓evW_nil, ↓evW_cons, ↓evW_op, ↓evW_mkl, ↓evW_mkt, ↓evW_ite, ↓evW_and, ↓evW_or, ↓evW_call, ↓evW_comp, ↓evW_pop, ↓evW_chain, ↓hdQ_1, ↓contF_nx, ↓contF_rt, ↓atE_0, ↓atE_S, ↓borW_nil, ↓borW_vl, ↓borW_vrT, ↓borW_vrF, ↓takW_nil, ↓takW_vl, ↓takW_vr, ↓oneW_vl, ↓oneW_vr, ↓lendW_nil, ↓lendW_vl, ↓lendW_vr, ↓trW_vl, ↓trW_vr, ↓ifB_t, ↓ifB_f, ↓ifB_d, ↓ifB_n, ↓truW_bl, ↓truW_int, ↓truW_lst, ↓truW_tup, ↓truW_non, ↓opK_add, ↓opK_addT, ↓opK_addL, ↓opK_addS, ↓opK_sub, ↓opK_mul, ↓opK_mulT, ↓opK_mulL, ↓opK_fdiv, ↓opK_mod, ↓opK_pow, ↓opK_shl, ↓opK_band, ↓opK_neg, ↓opK_notB, ↓opK_not, ↓opK_lt, ↓opK_le, ↓opK_gt, ↓opK_ge, ↓opK_eq, ↓opK_ne, ↓opK_isN, ↓opK_notN, ↓opK_isB, ↓opK_notB2, ↓opK_lenL, ↓opK_lenT, ↓opK_lenC, ↓opK_lenS, ↓opK_listL, ↓opK_listT, ↓opK_tupL, ↓opK_tupT, ↓opK_int, ↓opK_intB, ↓opK_abs, ↓opK_max2, ↓opK_min2, ↓opK_isT, ↓opK_eqL, ↓opK_neL, ↓opK_eqT, ↓opK_neT, ↓opK_eqS, ↓opK_neS, ↓opK_eqB, ↓opK_neB, ↓opK_sumT, ↓opK_sumL, ↓opK_maxT, ↓opK_maxL, ↓opK_minT, ↓opK_minL, ↓opK_sortT, ↓opK_sortL, ↓opK_sortRT, ↓opK_sortRL, ↓opK_idxL, ↓opK_idxT, ↓opK_idxC, ↓opK_revL, ↓opK_revT, ↓opK_lrg1, ↓opK_lrg2, ↓opK_trg1, ↓opK_trg2, ↓itemW_0, ↓itemW_1, ↓itemW_2, ↓itemW_3, ↓itemsW_L, ↓itemsW_T, ↓itemsW_S, ↓itemsW_r1, ↓itemsW_r2, ↓bindW_nm, ↓bindW_nil, ↓bindW_cons, ↓back_vl, ↓back_vr, ↓back_vrN, ↓back_nil, ↓low_z, ↓low_11, ↓low_1, ↓awayE_z, ↓awayE_1, ↓awayE_2, ↓pairW, ↓intW, ↓exts1, ↓low_2, ↓low_any, ↓low_set, ↓low_len, ↓awayE_s, ↓itemsW_enL, ↓itemsW_enT, ↓itemsW_esL, ↓itemsW_esT, ↓itemsW_zTT, ↓itemsW_zLL, ↓itemsW_zTL, ↓itemsW_zLT, ↓itemsW_zST, ↓itemsW_zSL, ↓itemsW_enS, ↓opK_mulS, ↓opK_imul, ↓opK_idxS, ↓opK_strI, ↓opK_strS, ↓opK_takeS, ↓opK_dropS, ↓opK_initS, ↓opK_inC, ↓opK_niC, keepO, lvOf, lvO_int, lvO_bl, lvO_str, lvO_tup, lvO_lst, lvO_non, isTy, isNon, List.set_cons_zero, List.set_cons_succ, List.length_cons, List.length_nil, getE_cons0, getE_consS, Option.isNone_none, Option.isNone_some, Bool.false_eq_true, if_true, if_false, Bool.not_true, Bool.not_false, Nat.zero_add, Nat.reduceAdd, Nat.reduceLT, Nat.reduceSub, true_and, and_true, Nat.min_zero, Nat.zero_min, Nat.reduceBEq, Bool.and_true, Bool.true_and, decide_true, decide_false, outs_z, outs_S, outs_N, outs_0, Int.reduceLT, Int.reduceLE, Nat.reduceLeDiff, List.isEmpty_cons, List.isEmpty_nil, and_self, isLstAt_0, isLstAt_S, isAtomAt_0, isAtomAt_S, pOf_0, pOf_S, cmpLt, cmpLe, cmpGt, cmpGe]
theorem depths_ok {n : Nat} {fs : List Str} (h : BookOk fs) (b : Bool) (d : D) : ∃ L, callF T (n + 2) 16 [(bookD b fs d, 0)] = .val (.lst ((depV b fs).map natD), L + 1, [some (bookD b fs d, 0)]) := by
  have goal : callW (callF T (n + 2)) 16 [(bookD b fs d, 0)] fun d' l outs => ∃ L, l = L + 1 ∧ d' = .lst ((depV b fs).map natD) ∧ outs = [some (bookD b fs d, 0)] := by
    rw [call_in (F := ⟨1, 7, b16⟩) rfl rfl]
    have hcl := cnt_le h.1
    have hbd : fs.length * (2 * 2 ^ 3) ≤ 4 * (2 * 2 ^ 3) := Nat.mul_le_mul_right _ h.2.2
    have hlen : (depV b fs).length = cntV fs := by rw [dep_all]; simp
    have hlp : ∀ f ∈ fs, ∀ K, callW (callF T (n + 1)) 14 [(.str f, 0)] K ↔ K (natD (pgV f)) 0 [some (.str f, 0)] := fun f hf K => callW_of (lawpages_ok hlpg (by have := h.1 f hf; omega))
    unfold b16
    refine seq_by (fun r => ∃ l, r = [(some (Ent.mk (bookD b fs d) 0 true)), none, some ⟨.lst ([cntV fs / 2].map natD), l + 1, false⟩, none, none, none, none]) ?_ ?_
    · simp only [env0_1, List.replicate, List.length_map, ↓exW_skip, ↓exW_seq, ↓exW_setn, ↓exW_setc, ↓exW_setJ, ↓putW_at, ↓putE_L, ↓ixW_0, ↓ixW_1, ↓exW_aug, ↓exW_retv, ↓exW_ex, ↓exW_app, ↓exW_ext, ↓exW_ite, ↓exW_for, ↓exW_whl, ↓exW_ret_op, ↓exW_ret_lit, ↓exW_ret_call, ↓exW_ret_mkt, ↓exW_ret_mkl, ↓exW_ret_ite, ↓exW_ret_and, ↓exW_ret_or, ↓exW_ret_comp, ↓exW_ret_chain, ↓exW_ret_pop, ↓evW_lit, ↓evW_var, ↓evW_nil, ↓evW_cons, ↓evW_op, ↓evW_mkl, ↓evW_mkt, ↓evW_ite, ↓evW_and, ↓evW_or, ↓evW_call, ↓evW_comp, ↓evW_pop, ↓evW_chain, ↓hdQ_1, ↓contF_nx, ↓contF_rt, ↓atE_0, ↓atE_S, ↓borW_nil, ↓borW_vl, ↓borW_vrT, ↓borW_vrF, ↓takW_nil, ↓takW_vl, ↓takW_vr, ↓oneW_vl, ↓oneW_vr, ↓lendW_nil, ↓lendW_vl, ↓lendW_vr, ↓trW_vl, ↓trW_vr, ↓ifB_t, ↓ifB_f, ↓ifB_d, ↓ifB_n, ↓truW_bl, ↓truW_int, ↓truW_lst, ↓truW_tup, ↓truW_non, ↓opK_add, ↓opK_addT, ↓opK_addL, ↓opK_addS, ↓opK_sub, ↓opK_mul, ↓opK_mulT, ↓opK_mulL, ↓opK_fdiv, ↓opK_mod, ↓opK_pow, ↓opK_shl, ↓opK_band, ↓opK_neg, ↓opK_notB, ↓opK_not, ↓opK_lt, ↓opK_le, ↓opK_gt, ↓opK_ge, ↓opK_eq, ↓opK_ne, ↓opK_isN, ↓opK_notN, ↓opK_isB, ↓opK_notB2, ↓opK_lenL, ↓opK_lenT, ↓opK_lenC, ↓opK_lenS, ↓opK_listL, ↓opK_listT, ↓opK_tupL, ↓opK_tupT, ↓opK_int, ↓opK_intB, ↓opK_abs, ↓opK_max2, ↓opK_min2, ↓opK_isT, ↓opK_eqL, ↓opK_neL, ↓opK_eqT, ↓opK_neT, ↓opK_eqS, ↓opK_neS, ↓opK_eqB, ↓opK_neB, ↓opK_sumT, ↓opK_sumL, ↓opK_maxT, ↓opK_maxL, ↓opK_minT, ↓opK_minL, ↓opK_sortT, ↓opK_sortL, ↓opK_sortRT, ↓opK_sortRL, ↓opK_idxL, ↓opK_idxT, ↓opK_idxC, ↓opK_revL, ↓opK_revT, ↓opK_lrg1, ↓opK_lrg2, ↓opK_trg1, ↓opK_trg2, ↓itemW_0, ↓itemW_1, ↓itemW_2, ↓itemW_3, ↓itemsW_L, ↓itemsW_T, ↓itemsW_S, ↓itemsW_r1, ↓itemsW_r2, ↓bindW_nm, ↓bindW_nil, ↓bindW_cons, ↓back_vl, ↓back_vr, ↓back_vrN, ↓back_nil, ↓low_z, ↓low_11, ↓low_1, ↓awayE_z, ↓awayE_1, ↓awayE_2, ↓pairW, ↓intW, ↓exts1, ↓low_2, ↓low_any, ↓low_set, ↓low_len, ↓awayE_s, ↓itemsW_enL, ↓itemsW_enT, ↓itemsW_esL, ↓itemsW_esT, ↓itemsW_zTT, ↓itemsW_zLL, ↓itemsW_zTL, ↓itemsW_zLT, ↓itemsW_zST, ↓itemsW_zSL, ↓itemsW_enS, ↓opK_mulS, ↓opK_imul, ↓opK_idxS, ↓opK_strI, ↓opK_strS, ↓opK_takeS, ↓opK_dropS, ↓opK_initS, ↓opK_inC, ↓opK_niC, keepO, lvOf, lvO_int, lvO_bl, lvO_str, lvO_tup, lvO_lst, lvO_non, isTy, isNon, List.set_cons_zero, List.set_cons_succ, List.length_cons, List.length_nil, getE_cons0, getE_consS, Option.isNone_none, Option.isNone_some, Bool.false_eq_true, if_true, if_false, Bool.not_true, Bool.not_false, Nat.zero_add, Nat.reduceAdd, Nat.reduceLT, Nat.reduceSub, true_and, and_true, Nat.min_zero, Nat.zero_min, Nat.reduceBEq, Bool.and_true, Bool.true_and, decide_true, decide_false, outs_z, outs_S, outs_N, outs_0, Int.reduceLT, Int.reduceLE, Nat.reduceLeDiff, List.isEmpty_cons, List.isEmpty_nil, and_self, isLstAt_0, isLstAt_S, isAtomAt_0, isAtomAt_S, pOf_0, pOf_S, cmpLt, cmpLe, cmpGt, cmpGe]
      refine ⟨⟨sz_of (by omega), rfl⟩, ?_⟩
      refine comp_g D.str (fun f => natD (pgV f)) (fun f hf => ?_) fun l r3 er => ?_
      · have hlp := hlp f hf
        simp only [↓hlp, ↓exW_skip, ↓exW_seq, ↓exW_setn, ↓exW_setc, ↓exW_setJ, ↓putW_at, ↓putE_L, ↓ixW_0, ↓ixW_1, ↓exW_aug, ↓exW_retv, ↓exW_ex, ↓exW_app, ↓exW_ext, ↓exW_ite, ↓exW_for, ↓exW_whl, ↓exW_ret_op, ↓exW_ret_lit, ↓exW_ret_call, ↓exW_ret_mkt, ↓exW_ret_mkl, ↓exW_ret_ite, ↓exW_ret_and, ↓exW_ret_or, ↓exW_ret_comp, ↓exW_ret_chain, ↓exW_ret_pop, ↓evW_lit, ↓evW_var, ↓evW_nil, ↓evW_cons, ↓evW_op, ↓evW_mkl, ↓evW_mkt, ↓evW_ite, ↓evW_and, ↓evW_or, ↓evW_call, ↓evW_comp, ↓evW_pop, ↓evW_chain, ↓hdQ_1, ↓contF_nx, ↓contF_rt, ↓atE_0, ↓atE_S, ↓borW_nil, ↓borW_vl, ↓borW_vrT, ↓borW_vrF, ↓takW_nil, ↓takW_vl, ↓takW_vr, ↓oneW_vl, ↓oneW_vr, ↓lendW_nil, ↓lendW_vl, ↓lendW_vr, ↓trW_vl, ↓trW_vr, ↓ifB_t, ↓ifB_f, ↓ifB_d, ↓ifB_n, ↓truW_bl, ↓truW_int, ↓truW_lst, ↓truW_tup, ↓truW_non, ↓opK_add, ↓opK_addT, ↓opK_addL, ↓opK_addS, ↓opK_sub, ↓opK_mul, ↓opK_mulT, ↓opK_mulL, ↓opK_fdiv, ↓opK_mod, ↓opK_pow, ↓opK_shl, ↓opK_band, ↓opK_neg, ↓opK_notB, ↓opK_not, ↓opK_lt, ↓opK_le, ↓opK_gt, ↓opK_ge, ↓opK_eq, ↓opK_ne, ↓opK_isN, ↓opK_notN, ↓opK_isB, ↓opK_notB2, ↓opK_lenL, ↓opK_lenT, ↓opK_lenC, ↓opK_lenS, ↓opK_listL, ↓opK_listT, ↓opK_tupL, ↓opK_tupT, ↓opK_int, ↓opK_intB, ↓opK_abs, ↓opK_max2, ↓opK_min2, ↓opK_isT, ↓opK_eqL, ↓opK_neL, ↓opK_eqT, ↓opK_neT, ↓opK_eqS, ↓opK_neS, ↓opK_eqB, ↓opK_neB, ↓opK_sumT, ↓opK_sumL, ↓opK_maxT, ↓opK_maxL, ↓opK_minT, ↓opK_minL, ↓opK_sortT, ↓opK_sortL, ↓opK_sortRT, ↓opK_sortRL, ↓opK_idxL, ↓opK_idxT, ↓opK_idxC, ↓opK_revL, ↓opK_revT, ↓opK_lrg1, ↓opK_lrg2, ↓opK_trg1, ↓opK_trg2, ↓itemW_0, ↓itemW_1, ↓itemW_2, ↓itemW_3, ↓itemsW_L, ↓itemsW_T, ↓itemsW_S, ↓itemsW_r1, ↓itemsW_r2, ↓bindW_nm, ↓bindW_nil, ↓bindW_cons, ↓back_vl, ↓back_vr, ↓back_vrN, ↓back_nil, ↓low_z, ↓low_11, ↓low_1, ↓awayE_z, ↓awayE_1, ↓awayE_2, ↓pairW, ↓intW, ↓exts1, ↓low_2, ↓low_any, ↓low_set, ↓low_len, ↓awayE_s, ↓itemsW_enL, ↓itemsW_enT, ↓itemsW_esL, ↓itemsW_esT, ↓itemsW_zTT, ↓itemsW_zLL, ↓itemsW_zTL, ↓itemsW_zLT, ↓itemsW_zST, ↓itemsW_zSL, ↓itemsW_enS, ↓opK_mulS, ↓opK_imul, ↓opK_idxS, ↓opK_strI, ↓opK_strS, ↓opK_takeS, ↓opK_dropS, ↓opK_initS, ↓opK_inC, ↓opK_niC, keepO, lvOf, lvO_int, lvO_bl, lvO_str, lvO_tup, lvO_lst, lvO_non, isTy, isNon, List.set_cons_zero, List.set_cons_succ, List.length_cons, List.length_nil, getE_cons0, getE_consS, Option.isNone_none, Option.isNone_some, Bool.false_eq_true, if_true, if_false, Bool.not_true, Bool.not_false, Nat.zero_add, Nat.reduceAdd, Nat.reduceLT, Nat.reduceSub, true_and, and_true, Nat.min_zero, Nat.zero_min, Nat.reduceBEq, Bool.and_true, Bool.true_and, decide_true, decide_false, outs_z, outs_S, outs_N, outs_0, Int.reduceLT, Int.reduceLE, Nat.reduceLeDiff, List.isEmpty_cons, List.isEmpty_nil, and_self, isLstAt_0, isLstAt_S, isAtomAt_0, isAtomAt_S, pOf_0, pOf_S, cmpLt, cmpLe, cmpGt, cmpGe]
        exact ⟨_, rfl⟩
      · have e : fs.map (fun f => natD (pgV f)) = (fs.map fun f => (pgV f : Int)).map D.int := by rw [List.map_map]; rfl
        have e2 : (fs.map fun f => (pgV f : Int)).sum = ((cntV fs : Nat) : Int) := by
          unfold cntV
          generalize fs = gs
          induction gs with
          | nil => rfl
          | cons f gs ih => simp only [List.map_cons, List.sum_cons, ih]; omega
        have e3 : (cntV fs : Int) / 2 = ((cntV fs / 2 : Nat) : Int) := by omega
        rw [e, er]
        simp only [e2, e3, ↓exW_skip, ↓exW_seq, ↓exW_setn, ↓exW_setc, ↓exW_setJ, ↓putW_at, ↓putE_L, ↓ixW_0, ↓ixW_1, ↓exW_aug, ↓exW_retv, ↓exW_ex, ↓exW_app, ↓exW_ext, ↓exW_ite, ↓exW_for, ↓exW_whl, ↓exW_ret_op, ↓exW_ret_lit, ↓exW_ret_call, ↓exW_ret_mkt, ↓exW_ret_mkl, ↓exW_ret_ite, ↓exW_ret_and, ↓exW_ret_or, ↓exW_ret_comp, ↓exW_ret_chain, ↓exW_ret_pop, ↓evW_lit, ↓evW_var, ↓evW_nil, ↓evW_cons, ↓evW_op, ↓evW_mkl, ↓evW_mkt, ↓evW_ite, ↓evW_and, ↓evW_or, ↓evW_call, ↓evW_comp, ↓evW_pop, ↓evW_chain, ↓hdQ_1, ↓contF_nx, ↓contF_rt, ↓atE_0, ↓atE_S, ↓borW_nil, ↓borW_vl, ↓borW_vrT, ↓borW_vrF, ↓takW_nil, ↓takW_vl, ↓takW_vr, ↓oneW_vl, ↓oneW_vr, ↓lendW_nil, ↓lendW_vl, ↓lendW_vr, ↓trW_vl, ↓trW_vr, ↓ifB_t, ↓ifB_f, ↓ifB_d, ↓ifB_n, ↓truW_bl, ↓truW_int, ↓truW_lst, ↓truW_tup, ↓truW_non, ↓opK_add, ↓opK_addT, ↓opK_addL, ↓opK_addS, ↓opK_sub, ↓opK_mul, ↓opK_mulT, ↓opK_mulL, ↓opK_fdiv, ↓opK_mod, ↓opK_pow, ↓opK_shl, ↓opK_band, ↓opK_neg, ↓opK_notB, ↓opK_not, ↓opK_lt, ↓opK_le, ↓opK_gt, ↓opK_ge, ↓opK_eq, ↓opK_ne, ↓opK_isN, ↓opK_notN, ↓opK_isB, ↓opK_notB2, ↓opK_lenL, ↓opK_lenT, ↓opK_lenC, ↓opK_lenS, ↓opK_listL, ↓opK_listT, ↓opK_tupL, ↓opK_tupT, ↓opK_int, ↓opK_intB, ↓opK_abs, ↓opK_max2, ↓opK_min2, ↓opK_isT, ↓opK_eqL, ↓opK_neL, ↓opK_eqT, ↓opK_neT, ↓opK_eqS, ↓opK_neS, ↓opK_eqB, ↓opK_neB, ↓opK_sumT, ↓opK_sumL, ↓opK_maxT, ↓opK_maxL, ↓opK_minT, ↓opK_minL, ↓opK_sortT, ↓opK_sortL, ↓opK_sortRT, ↓opK_sortRL, ↓opK_idxL, ↓opK_idxT, ↓opK_idxC, ↓opK_revL, ↓opK_revT, ↓opK_lrg1, ↓opK_lrg2, ↓opK_trg1, ↓opK_trg2, ↓itemW_0, ↓itemW_1, ↓itemW_2, ↓itemW_3, ↓itemsW_L, ↓itemsW_T, ↓itemsW_S, ↓itemsW_r1, ↓itemsW_r2, ↓bindW_nm, ↓bindW_nil, ↓bindW_cons, ↓back_vl, ↓back_vr, ↓back_vrN, ↓back_nil, ↓low_z, ↓low_11, ↓low_1, ↓awayE_z, ↓awayE_1, ↓awayE_2, ↓pairW, ↓intW, ↓exts1, ↓low_2, ↓low_any, ↓low_set, ↓low_len, ↓awayE_s, ↓itemsW_enL, ↓itemsW_enT, ↓itemsW_esL, ↓itemsW_esT, ↓itemsW_zTT, ↓itemsW_zLL, ↓itemsW_zTL, ↓itemsW_zLT, ↓itemsW_zST, ↓itemsW_zSL, ↓itemsW_enS, ↓opK_mulS, ↓opK_imul, ↓opK_idxS, ↓opK_strI, ↓opK_strS, ↓opK_takeS, ↓opK_dropS, ↓opK_initS, ↓opK_inC, ↓opK_niC, keepO, lvOf, lvO_int, lvO_bl, lvO_str, lvO_tup, lvO_lst, lvO_non, isTy, isNon, List.set_cons_zero, List.set_cons_succ, List.length_cons, List.length_nil, getE_cons0, getE_consS, Option.isNone_none, Option.isNone_some, Bool.false_eq_true, if_true, if_false, Bool.not_true, Bool.not_false, Nat.zero_add, Nat.reduceAdd, Nat.reduceLT, Nat.reduceSub, true_and, and_true, Nat.min_zero, Nat.zero_min, Nat.reduceBEq, Bool.and_true, Bool.true_and, decide_true, decide_false, outs_z, outs_S, outs_N, outs_0, Int.reduceLT, Int.reduceLE, Nat.reduceLeDiff, List.isEmpty_cons, List.isEmpty_nil, and_self, isLstAt_0, isLstAt_S, isAtomAt_0, isAtomAt_S, pOf_0, pOf_S, cmpLt, cmpLe, cmpGt, cmpGe]
        exact ⟨rfl, 0, rfl⟩
    rintro r ⟨l2, rfl⟩
    refine seq_by (fun r => ∃ l, r = [(some (Ent.mk (bookD b fs d) 0 true)), none, some ⟨.lst ((grpV b fs).map natD), l + 1, false⟩, none, none, none, none]) ?_ ?_
    · cases b with
      | true =>
        have eb : (bindS true == (⟨#[103, 97, 116, 104, 101, 114, 101, 100]⟩ : Str)) = false := by decide
        simp only [eb, ↓exW_skip, ↓exW_seq, ↓exW_setn, ↓exW_setc, ↓exW_setJ, ↓putW_at, ↓putE_L, ↓ixW_0, ↓ixW_1, ↓exW_aug, ↓exW_retv, ↓exW_ex, ↓exW_app, ↓exW_ext, ↓exW_ite, ↓exW_for, ↓exW_whl, ↓exW_ret_op, ↓exW_ret_lit, ↓exW_ret_call, ↓exW_ret_mkt, ↓exW_ret_mkl, ↓exW_ret_ite, ↓exW_ret_and, ↓exW_ret_or, ↓exW_ret_comp, ↓exW_ret_chain, ↓exW_ret_pop, ↓evW_lit, ↓evW_var, ↓evW_nil, ↓evW_cons, ↓evW_op, ↓evW_mkl, ↓evW_mkt, ↓evW_ite, ↓evW_and, ↓evW_or, ↓evW_call, ↓evW_comp, ↓evW_pop, ↓evW_chain, ↓hdQ_1, ↓contF_nx, ↓contF_rt, ↓atE_0, ↓atE_S, ↓borW_nil, ↓borW_vl, ↓borW_vrT, ↓borW_vrF, ↓takW_nil, ↓takW_vl, ↓takW_vr, ↓oneW_vl, ↓oneW_vr, ↓lendW_nil, ↓lendW_vl, ↓lendW_vr, ↓trW_vl, ↓trW_vr, ↓ifB_t, ↓ifB_f, ↓ifB_d, ↓ifB_n, ↓truW_bl, ↓truW_int, ↓truW_lst, ↓truW_tup, ↓truW_non, ↓opK_add, ↓opK_addT, ↓opK_addL, ↓opK_addS, ↓opK_sub, ↓opK_mul, ↓opK_mulT, ↓opK_mulL, ↓opK_fdiv, ↓opK_mod, ↓opK_pow, ↓opK_shl, ↓opK_band, ↓opK_neg, ↓opK_notB, ↓opK_not, ↓opK_lt, ↓opK_le, ↓opK_gt, ↓opK_ge, ↓opK_eq, ↓opK_ne, ↓opK_isN, ↓opK_notN, ↓opK_isB, ↓opK_notB2, ↓opK_lenL, ↓opK_lenT, ↓opK_lenC, ↓opK_lenS, ↓opK_listL, ↓opK_listT, ↓opK_tupL, ↓opK_tupT, ↓opK_int, ↓opK_intB, ↓opK_abs, ↓opK_max2, ↓opK_min2, ↓opK_isT, ↓opK_eqL, ↓opK_neL, ↓opK_eqT, ↓opK_neT, ↓opK_eqS, ↓opK_neS, ↓opK_eqB, ↓opK_neB, ↓opK_sumT, ↓opK_sumL, ↓opK_maxT, ↓opK_maxL, ↓opK_minT, ↓opK_minL, ↓opK_sortT, ↓opK_sortL, ↓opK_sortRT, ↓opK_sortRL, ↓opK_idxL, ↓opK_idxT, ↓opK_idxC, ↓opK_revL, ↓opK_revT, ↓opK_lrg1, ↓opK_lrg2, ↓opK_trg1, ↓opK_trg2, ↓itemW_0, ↓itemW_1, ↓itemW_2, ↓itemW_3, ↓itemsW_L, ↓itemsW_T, ↓itemsW_S, ↓itemsW_r1, ↓itemsW_r2, ↓bindW_nm, ↓bindW_nil, ↓bindW_cons, ↓back_vl, ↓back_vr, ↓back_vrN, ↓back_nil, ↓low_z, ↓low_11, ↓low_1, ↓awayE_z, ↓awayE_1, ↓awayE_2, ↓pairW, ↓intW, ↓exts1, ↓low_2, ↓low_any, ↓low_set, ↓low_len, ↓awayE_s, ↓itemsW_enL, ↓itemsW_enT, ↓itemsW_esL, ↓itemsW_esT, ↓itemsW_zTT, ↓itemsW_zLL, ↓itemsW_zTL, ↓itemsW_zLT, ↓itemsW_zST, ↓itemsW_zSL, ↓itemsW_enS, ↓opK_mulS, ↓opK_imul, ↓opK_idxS, ↓opK_strI, ↓opK_strS, ↓opK_takeS, ↓opK_dropS, ↓opK_initS, ↓opK_inC, ↓opK_niC, keepO, lvOf, lvO_int, lvO_bl, lvO_str, lvO_tup, lvO_lst, lvO_non, isTy, isNon, List.set_cons_zero, List.set_cons_succ, List.length_cons, List.length_nil, getE_cons0, getE_consS, Option.isNone_none, Option.isNone_some, Bool.false_eq_true, if_true, if_false, Bool.not_true, Bool.not_false, Nat.zero_add, Nat.reduceAdd, Nat.reduceLT, Nat.reduceSub, true_and, and_true, Nat.min_zero, Nat.zero_min, Nat.reduceBEq, Bool.and_true, Bool.true_and, decide_true, decide_false, outs_z, outs_S, outs_N, outs_0, Int.reduceLT, Int.reduceLE, Nat.reduceLeDiff, List.isEmpty_cons, List.isEmpty_nil, and_self, isLstAt_0, isLstAt_S, isAtomAt_0, isAtomAt_S, pOf_0, pOf_S, cmpLt, cmpLe, cmpGt, cmpGe]
        exact ⟨l2, rfl⟩
      | false =>
        have eb : (bindS false == (⟨#[103, 97, 116, 104, 101, 114, 101, 100]⟩ : Str)) = true := by decide
        simp only [eb, List.length_map, ↓exW_skip, ↓exW_seq, ↓exW_setn, ↓exW_setc, ↓exW_setJ, ↓putW_at, ↓putE_L, ↓ixW_0, ↓ixW_1, ↓exW_aug, ↓exW_retv, ↓exW_ex, ↓exW_app, ↓exW_ext, ↓exW_ite, ↓exW_for, ↓exW_whl, ↓exW_ret_op, ↓exW_ret_lit, ↓exW_ret_call, ↓exW_ret_mkt, ↓exW_ret_mkl, ↓exW_ret_ite, ↓exW_ret_and, ↓exW_ret_or, ↓exW_ret_comp, ↓exW_ret_chain, ↓exW_ret_pop, ↓evW_lit, ↓evW_var, ↓evW_nil, ↓evW_cons, ↓evW_op, ↓evW_mkl, ↓evW_mkt, ↓evW_ite, ↓evW_and, ↓evW_or, ↓evW_call, ↓evW_comp, ↓evW_pop, ↓evW_chain, ↓hdQ_1, ↓contF_nx, ↓contF_rt, ↓atE_0, ↓atE_S, ↓borW_nil, ↓borW_vl, ↓borW_vrT, ↓borW_vrF, ↓takW_nil, ↓takW_vl, ↓takW_vr, ↓oneW_vl, ↓oneW_vr, ↓lendW_nil, ↓lendW_vl, ↓lendW_vr, ↓trW_vl, ↓trW_vr, ↓ifB_t, ↓ifB_f, ↓ifB_d, ↓ifB_n, ↓truW_bl, ↓truW_int, ↓truW_lst, ↓truW_tup, ↓truW_non, ↓opK_add, ↓opK_addT, ↓opK_addL, ↓opK_addS, ↓opK_sub, ↓opK_mul, ↓opK_mulT, ↓opK_mulL, ↓opK_fdiv, ↓opK_mod, ↓opK_pow, ↓opK_shl, ↓opK_band, ↓opK_neg, ↓opK_notB, ↓opK_not, ↓opK_lt, ↓opK_le, ↓opK_gt, ↓opK_ge, ↓opK_eq, ↓opK_ne, ↓opK_isN, ↓opK_notN, ↓opK_isB, ↓opK_notB2, ↓opK_lenL, ↓opK_lenT, ↓opK_lenC, ↓opK_lenS, ↓opK_listL, ↓opK_listT, ↓opK_tupL, ↓opK_tupT, ↓opK_int, ↓opK_intB, ↓opK_abs, ↓opK_max2, ↓opK_min2, ↓opK_isT, ↓opK_eqL, ↓opK_neL, ↓opK_eqT, ↓opK_neT, ↓opK_eqS, ↓opK_neS, ↓opK_eqB, ↓opK_neB, ↓opK_sumT, ↓opK_sumL, ↓opK_maxT, ↓opK_maxL, ↓opK_minT, ↓opK_minL, ↓opK_sortT, ↓opK_sortL, ↓opK_sortRT, ↓opK_sortRL, ↓opK_idxL, ↓opK_idxT, ↓opK_idxC, ↓opK_revL, ↓opK_revT, ↓opK_lrg1, ↓opK_lrg2, ↓opK_trg1, ↓opK_trg2, ↓itemW_0, ↓itemW_1, ↓itemW_2, ↓itemW_3, ↓itemsW_L, ↓itemsW_T, ↓itemsW_S, ↓itemsW_r1, ↓itemsW_r2, ↓bindW_nm, ↓bindW_nil, ↓bindW_cons, ↓back_vl, ↓back_vr, ↓back_vrN, ↓back_nil, ↓low_z, ↓low_11, ↓low_1, ↓awayE_z, ↓awayE_1, ↓awayE_2, ↓pairW, ↓intW, ↓exts1, ↓low_2, ↓low_any, ↓low_set, ↓low_len, ↓awayE_s, ↓itemsW_enL, ↓itemsW_enT, ↓itemsW_esL, ↓itemsW_esT, ↓itemsW_zTT, ↓itemsW_zLL, ↓itemsW_zTL, ↓itemsW_zLT, ↓itemsW_zST, ↓itemsW_zSL, ↓itemsW_enS, ↓opK_mulS, ↓opK_imul, ↓opK_idxS, ↓opK_strI, ↓opK_strS, ↓opK_takeS, ↓opK_dropS, ↓opK_initS, ↓opK_inC, ↓opK_niC, keepO, lvOf, lvO_int, lvO_bl, lvO_str, lvO_tup, lvO_lst, lvO_non, isTy, isNon, List.set_cons_zero, List.set_cons_succ, List.length_cons, List.length_nil, getE_cons0, getE_consS, Option.isNone_none, Option.isNone_some, Bool.false_eq_true, if_true, if_false, Bool.not_true, Bool.not_false, Nat.zero_add, Nat.reduceAdd, Nat.reduceLT, Nat.reduceSub, true_and, and_true, Nat.min_zero, Nat.zero_min, Nat.reduceBEq, Bool.and_true, Bool.true_and, decide_true, decide_false, outs_z, outs_S, outs_N, outs_0, Int.reduceLT, Int.reduceLE, Nat.reduceLeDiff, List.isEmpty_cons, List.isEmpty_nil, and_self, isLstAt_0, isLstAt_S, isAtomAt_0, isAtomAt_S, pOf_0, pOf_S, cmpLt, cmpLe, cmpGt, cmpGe]
        refine ⟨⟨sz_of (by omega), rfl⟩, ?_⟩
        refine comp_g D.str (fun f => natD (pgV f / 2)) (fun f hf => ?_) fun l r3 er => ?_
        · have hlp := hlp f hf
          have e3 : (pgV f : Int) / 2 = ((pgV f / 2 : Nat) : Int) := by omega
          simp only [↓hlp, e3, ↓exW_skip, ↓exW_seq, ↓exW_setn, ↓exW_setc, ↓exW_setJ, ↓putW_at, ↓putE_L, ↓ixW_0, ↓ixW_1, ↓exW_aug, ↓exW_retv, ↓exW_ex, ↓exW_app, ↓exW_ext, ↓exW_ite, ↓exW_for, ↓exW_whl, ↓exW_ret_op, ↓exW_ret_lit, ↓exW_ret_call, ↓exW_ret_mkt, ↓exW_ret_mkl, ↓exW_ret_ite, ↓exW_ret_and, ↓exW_ret_or, ↓exW_ret_comp, ↓exW_ret_chain, ↓exW_ret_pop, ↓evW_lit, ↓evW_var, ↓evW_nil, ↓evW_cons, ↓evW_op, ↓evW_mkl, ↓evW_mkt, ↓evW_ite, ↓evW_and, ↓evW_or, ↓evW_call, ↓evW_comp, ↓evW_pop, ↓evW_chain, ↓hdQ_1, ↓contF_nx, ↓contF_rt, ↓atE_0, ↓atE_S, ↓borW_nil, ↓borW_vl, ↓borW_vrT, ↓borW_vrF, ↓takW_nil, ↓takW_vl, ↓takW_vr, ↓oneW_vl, ↓oneW_vr, ↓lendW_nil, ↓lendW_vl, ↓lendW_vr, ↓trW_vl, ↓trW_vr, ↓ifB_t, ↓ifB_f, ↓ifB_d, ↓ifB_n, ↓truW_bl, ↓truW_int, ↓truW_lst, ↓truW_tup, ↓truW_non, ↓opK_add, ↓opK_addT, ↓opK_addL, ↓opK_addS, ↓opK_sub, ↓opK_mul, ↓opK_mulT, ↓opK_mulL, ↓opK_fdiv, ↓opK_mod, ↓opK_pow, ↓opK_shl, ↓opK_band, ↓opK_neg, ↓opK_notB, ↓opK_not, ↓opK_lt, ↓opK_le, ↓opK_gt, ↓opK_ge, ↓opK_eq, ↓opK_ne, ↓opK_isN, ↓opK_notN, ↓opK_isB, ↓opK_notB2, ↓opK_lenL, ↓opK_lenT, ↓opK_lenC, ↓opK_lenS, ↓opK_listL, ↓opK_listT, ↓opK_tupL, ↓opK_tupT, ↓opK_int, ↓opK_intB, ↓opK_abs, ↓opK_max2, ↓opK_min2, ↓opK_isT, ↓opK_eqL, ↓opK_neL, ↓opK_eqT, ↓opK_neT, ↓opK_eqS, ↓opK_neS, ↓opK_eqB, ↓opK_neB, ↓opK_sumT, ↓opK_sumL, ↓opK_maxT, ↓opK_maxL, ↓opK_minT, ↓opK_minL, ↓opK_sortT, ↓opK_sortL, ↓opK_sortRT, ↓opK_sortRL, ↓opK_idxL, ↓opK_idxT, ↓opK_idxC, ↓opK_revL, ↓opK_revT, ↓opK_lrg1, ↓opK_lrg2, ↓opK_trg1, ↓opK_trg2, ↓itemW_0, ↓itemW_1, ↓itemW_2, ↓itemW_3, ↓itemsW_L, ↓itemsW_T, ↓itemsW_S, ↓itemsW_r1, ↓itemsW_r2, ↓bindW_nm, ↓bindW_nil, ↓bindW_cons, ↓back_vl, ↓back_vr, ↓back_vrN, ↓back_nil, ↓low_z, ↓low_11, ↓low_1, ↓awayE_z, ↓awayE_1, ↓awayE_2, ↓pairW, ↓intW, ↓exts1, ↓low_2, ↓low_any, ↓low_set, ↓low_len, ↓awayE_s, ↓itemsW_enL, ↓itemsW_enT, ↓itemsW_esL, ↓itemsW_esT, ↓itemsW_zTT, ↓itemsW_zLL, ↓itemsW_zTL, ↓itemsW_zLT, ↓itemsW_zST, ↓itemsW_zSL, ↓itemsW_enS, ↓opK_mulS, ↓opK_imul, ↓opK_idxS, ↓opK_strI, ↓opK_strS, ↓opK_takeS, ↓opK_dropS, ↓opK_initS, ↓opK_inC, ↓opK_niC, keepO, lvOf, lvO_int, lvO_bl, lvO_str, lvO_tup, lvO_lst, lvO_non, isTy, isNon, List.set_cons_zero, List.set_cons_succ, List.length_cons, List.length_nil, getE_cons0, getE_consS, Option.isNone_none, Option.isNone_some, Bool.false_eq_true, if_true, if_false, Bool.not_true, Bool.not_false, Nat.zero_add, Nat.reduceAdd, Nat.reduceLT, Nat.reduceSub, true_and, and_true, Nat.min_zero, Nat.zero_min, Nat.reduceBEq, Bool.and_true, Bool.true_and, decide_true, decide_false, outs_z, outs_S, outs_N, outs_0, Int.reduceLT, Int.reduceLE, Nat.reduceLeDiff, List.isEmpty_cons, List.isEmpty_nil, and_self, isLstAt_0, isLstAt_S, isAtomAt_0, isAtomAt_S, pOf_0, pOf_S, cmpLt, cmpLe, cmpGt, cmpGe]
          exact ⟨_, rfl⟩
        · rw [er]
          simp only [↓exW_skip, ↓exW_seq, ↓exW_setn, ↓exW_setc, ↓exW_setJ, ↓putW_at, ↓putE_L, ↓ixW_0, ↓ixW_1, ↓exW_aug, ↓exW_retv, ↓exW_ex, ↓exW_app, ↓exW_ext, ↓exW_ite, ↓exW_for, ↓exW_whl, ↓exW_ret_op, ↓exW_ret_lit, ↓exW_ret_call, ↓exW_ret_mkt, ↓exW_ret_mkl, ↓exW_ret_ite, ↓exW_ret_and, ↓exW_ret_or, ↓exW_ret_comp, ↓exW_ret_chain, ↓exW_ret_pop, ↓evW_lit, ↓evW_var, ↓evW_nil, ↓evW_cons, ↓evW_op, ↓evW_mkl, ↓evW_mkt, ↓evW_ite, ↓evW_and, ↓evW_or, ↓evW_call, ↓evW_comp, ↓evW_pop, ↓evW_chain, ↓hdQ_1, ↓contF_nx, ↓contF_rt, ↓atE_0, ↓atE_S, ↓borW_nil, ↓borW_vl, ↓borW_vrT, ↓borW_vrF, ↓takW_nil, ↓takW_vl, ↓takW_vr, ↓oneW_vl, ↓oneW_vr, ↓lendW_nil, ↓lendW_vl, ↓lendW_vr, ↓trW_vl, ↓trW_vr, ↓ifB_t, ↓ifB_f, ↓ifB_d, ↓ifB_n, ↓truW_bl, ↓truW_int, ↓truW_lst, ↓truW_tup, ↓truW_non, ↓opK_add, ↓opK_addT, ↓opK_addL, ↓opK_addS, ↓opK_sub, ↓opK_mul, ↓opK_mulT, ↓opK_mulL, ↓opK_fdiv, ↓opK_mod, ↓opK_pow, ↓opK_shl, ↓opK_band, ↓opK_neg, ↓opK_notB, ↓opK_not, ↓opK_lt, ↓opK_le, ↓opK_gt, ↓opK_ge, ↓opK_eq, ↓opK_ne, ↓opK_isN, ↓opK_notN, ↓opK_isB, ↓opK_notB2, ↓opK_lenL, ↓opK_lenT, ↓opK_lenC, ↓opK_lenS, ↓opK_listL, ↓opK_listT, ↓opK_tupL, ↓opK_tupT, ↓opK_int, ↓opK_intB, ↓opK_abs, ↓opK_max2, ↓opK_min2, ↓opK_isT, ↓opK_eqL, ↓opK_neL, ↓opK_eqT, ↓opK_neT, ↓opK_eqS, ↓opK_neS, ↓opK_eqB, ↓opK_neB, ↓opK_sumT, ↓opK_sumL, ↓opK_maxT, ↓opK_maxL, ↓opK_minT, ↓opK_minL, ↓opK_sortT, ↓opK_sortL, ↓opK_sortRT, ↓opK_sortRL, ↓opK_idxL, ↓opK_idxT, ↓opK_idxC, ↓opK_revL, ↓opK_revT, ↓opK_lrg1, ↓opK_lrg2, ↓opK_trg1, ↓opK_trg2, ↓itemW_0, ↓itemW_1, ↓itemW_2, ↓itemW_3, ↓itemsW_L, ↓itemsW_T, ↓itemsW_S, ↓itemsW_r1, ↓itemsW_r2, ↓bindW_nm, ↓bindW_nil, ↓bindW_cons, ↓back_vl, ↓back_vr, ↓back_vrN, ↓back_nil, ↓low_z, ↓low_11, ↓low_1, ↓awayE_z, ↓awayE_1, ↓awayE_2, ↓pairW, ↓intW, ↓exts1, ↓low_2, ↓low_any, ↓low_set, ↓low_len, ↓awayE_s, ↓itemsW_enL, ↓itemsW_enT, ↓itemsW_esL, ↓itemsW_esT, ↓itemsW_zTT, ↓itemsW_zLL, ↓itemsW_zTL, ↓itemsW_zLT, ↓itemsW_zST, ↓itemsW_zSL, ↓itemsW_enS, ↓opK_mulS, ↓opK_imul, ↓opK_idxS, ↓opK_strI, ↓opK_strS, ↓opK_takeS, ↓opK_dropS, ↓opK_initS, ↓opK_inC, ↓opK_niC, keepO, lvOf, lvO_int, lvO_bl, lvO_str, lvO_tup, lvO_lst, lvO_non, isTy, isNon, List.set_cons_zero, List.set_cons_succ, List.length_cons, List.length_nil, getE_cons0, getE_consS, Option.isNone_none, Option.isNone_some, Bool.false_eq_true, if_true, if_false, Bool.not_true, Bool.not_false, Nat.zero_add, Nat.reduceAdd, Nat.reduceLT, Nat.reduceSub, true_and, and_true, Nat.min_zero, Nat.zero_min, Nat.reduceBEq, Bool.and_true, Bool.true_and, decide_true, decide_false, outs_z, outs_S, outs_N, outs_0, Int.reduceLT, Int.reduceLE, Nat.reduceLeDiff, List.isEmpty_cons, List.isEmpty_nil, and_self, isLstAt_0, isLstAt_S, isAtomAt_0, isAtomAt_S, pOf_0, pOf_S, cmpLt, cmpLe, cmpGt, cmpGe]
          refine ⟨l, ?_⟩
          have : (grpV false fs).map natD = fs.map fun f => natD (pgV f / 2) := by
            show (fs.map _).map natD = _
            rw [List.map_map]; rfl
          rw [this]
    rintro r ⟨l2, rfl⟩
    refine seq_by (fun r => r = [(some (Ent.mk (bookD b fs d) 0 true)), none, some ⟨.lst ((grpV b fs).map natD), l2 + 1, false⟩, some ⟨.lst [], 9, false⟩, none, none, none]) ?_ ?_
    · simp only [↓exW_skip, ↓exW_seq, ↓exW_setn, ↓exW_setc, ↓exW_setJ, ↓putW_at, ↓putE_L, ↓ixW_0, ↓ixW_1, ↓exW_aug, ↓exW_retv, ↓exW_ex, ↓exW_app, ↓exW_ext, ↓exW_ite, ↓exW_for, ↓exW_whl, ↓exW_ret_op, ↓exW_ret_lit, ↓exW_ret_call, ↓exW_ret_mkt, ↓exW_ret_mkl, ↓exW_ret_ite, ↓exW_ret_and, ↓exW_ret_or, ↓exW_ret_comp, ↓exW_ret_chain, ↓exW_ret_pop, ↓evW_lit, ↓evW_var, ↓evW_nil, ↓evW_cons, ↓evW_op, ↓evW_mkl, ↓evW_mkt, ↓evW_ite, ↓evW_and, ↓evW_or, ↓evW_call, ↓evW_comp, ↓evW_pop, ↓evW_chain, ↓hdQ_1, ↓contF_nx, ↓contF_rt, ↓atE_0, ↓atE_S, ↓borW_nil, ↓borW_vl, ↓borW_vrT, ↓borW_vrF, ↓takW_nil, ↓takW_vl, ↓takW_vr, ↓oneW_vl, ↓oneW_vr, ↓lendW_nil, ↓lendW_vl, ↓lendW_vr, ↓trW_vl, ↓trW_vr, ↓ifB_t, ↓ifB_f, ↓ifB_d, ↓ifB_n, ↓truW_bl, ↓truW_int, ↓truW_lst, ↓truW_tup, ↓truW_non, ↓opK_add, ↓opK_addT, ↓opK_addL, ↓opK_addS, ↓opK_sub, ↓opK_mul, ↓opK_mulT, ↓opK_mulL, ↓opK_fdiv, ↓opK_mod, ↓opK_pow, ↓opK_shl, ↓opK_band, ↓opK_neg, ↓opK_notB, ↓opK_not, ↓opK_lt, ↓opK_le, ↓opK_gt, ↓opK_ge, ↓opK_eq, ↓opK_ne, ↓opK_isN, ↓opK_notN, ↓opK_isB, ↓opK_notB2, ↓opK_lenL, ↓opK_lenT, ↓opK_lenC, ↓opK_lenS, ↓opK_listL, ↓opK_listT, ↓opK_tupL, ↓opK_tupT, ↓opK_int, ↓opK_intB, ↓opK_abs, ↓opK_max2, ↓opK_min2, ↓opK_isT, ↓opK_eqL, ↓opK_neL, ↓opK_eqT, ↓opK_neT, ↓opK_eqS, ↓opK_neS, ↓opK_eqB, ↓opK_neB, ↓opK_sumT, ↓opK_sumL, ↓opK_maxT, ↓opK_maxL, ↓opK_minT, ↓opK_minL, ↓opK_sortT, ↓opK_sortL, ↓opK_sortRT, ↓opK_sortRL, ↓opK_idxL, ↓opK_idxT, ↓opK_idxC, ↓opK_revL, ↓opK_revT, ↓opK_lrg1, ↓opK_lrg2, ↓opK_trg1, ↓opK_trg2, ↓itemW_0, ↓itemW_1, ↓itemW_2, ↓itemW_3, ↓itemsW_L, ↓itemsW_T, ↓itemsW_S, ↓itemsW_r1, ↓itemsW_r2, ↓bindW_nm, ↓bindW_nil, ↓bindW_cons, ↓back_vl, ↓back_vr, ↓back_vrN, ↓back_nil, ↓low_z, ↓low_11, ↓low_1, ↓awayE_z, ↓awayE_1, ↓awayE_2, ↓pairW, ↓intW, ↓exts1, ↓low_2, ↓low_any, ↓low_set, ↓low_len, ↓awayE_s, ↓itemsW_enL, ↓itemsW_enT, ↓itemsW_esL, ↓itemsW_esT, ↓itemsW_zTT, ↓itemsW_zLL, ↓itemsW_zTL, ↓itemsW_zLT, ↓itemsW_zST, ↓itemsW_zSL, ↓itemsW_enS, ↓opK_mulS, ↓opK_imul, ↓opK_idxS, ↓opK_strI, ↓opK_strS, ↓opK_takeS, ↓opK_dropS, ↓opK_initS, ↓opK_inC, ↓opK_niC, keepO, lvOf, lvO_int, lvO_bl, lvO_str, lvO_tup, lvO_lst, lvO_non, isTy, isNon, List.set_cons_zero, List.set_cons_succ, List.length_cons, List.length_nil, getE_cons0, getE_consS, Option.isNone_none, Option.isNone_some, Bool.false_eq_true, if_true, if_false, Bool.not_true, Bool.not_false, Nat.zero_add, Nat.reduceAdd, Nat.reduceLT, Nat.reduceSub, true_and, and_true, Nat.min_zero, Nat.zero_min, Nat.reduceBEq, Bool.and_true, Bool.true_and, decide_true, decide_false, outs_z, outs_S, outs_N, outs_0, Int.reduceLT, Int.reduceLE, Nat.reduceLeDiff, List.isEmpty_cons, List.isEmpty_nil, and_self, isLstAt_0, isLstAt_S, isAtomAt_0, isAtomAt_S, pOf_0, pOf_S, cmpLt, cmpLe, cmpGt, cmpGe]
      rfl
    rintro r rfl
    refine seq_by (fun r => ∃ l x2 x4 x5 x6, r = [(some (Ent.mk (bookD b fs d) 0 true)), none, x2, some ⟨.lst ((depV b fs).map natD), l + 1, false⟩, x4, x5, x6]) ?_ ?_
    · simp only [↓exW_for, ↓exW_skip, ↓exW_seq, ↓exW_setn, ↓exW_setc, ↓exW_setJ, ↓putW_at, ↓putE_L, ↓ixW_0, ↓ixW_1, ↓exW_aug, ↓exW_retv, ↓exW_ex, ↓exW_app, ↓exW_ext, ↓exW_ite, ↓exW_for, ↓exW_whl, ↓exW_ret_op, ↓exW_ret_lit, ↓exW_ret_call, ↓exW_ret_mkt, ↓exW_ret_mkl, ↓exW_ret_ite, ↓exW_ret_and, ↓exW_ret_or, ↓exW_ret_comp, ↓exW_ret_chain, ↓exW_ret_pop, ↓evW_lit, ↓evW_var, ↓evW_nil, ↓evW_cons, ↓evW_op, ↓evW_mkl, ↓evW_mkt, ↓evW_ite, ↓evW_and, ↓evW_or, ↓evW_call, ↓evW_comp, ↓evW_pop, ↓evW_chain, ↓hdQ_1, ↓contF_nx, ↓contF_rt, ↓atE_0, ↓atE_S, ↓borW_nil, ↓borW_vl, ↓borW_vrT, ↓borW_vrF, ↓takW_nil, ↓takW_vl, ↓takW_vr, ↓oneW_vl, ↓oneW_vr, ↓lendW_nil, ↓lendW_vl, ↓lendW_vr, ↓trW_vl, ↓trW_vr, ↓ifB_t, ↓ifB_f, ↓ifB_d, ↓ifB_n, ↓truW_bl, ↓truW_int, ↓truW_lst, ↓truW_tup, ↓truW_non, ↓opK_add, ↓opK_addT, ↓opK_addL, ↓opK_addS, ↓opK_sub, ↓opK_mul, ↓opK_mulT, ↓opK_mulL, ↓opK_fdiv, ↓opK_mod, ↓opK_pow, ↓opK_shl, ↓opK_band, ↓opK_neg, ↓opK_notB, ↓opK_not, ↓opK_lt, ↓opK_le, ↓opK_gt, ↓opK_ge, ↓opK_eq, ↓opK_ne, ↓opK_isN, ↓opK_notN, ↓opK_isB, ↓opK_notB2, ↓opK_lenL, ↓opK_lenT, ↓opK_lenC, ↓opK_lenS, ↓opK_listL, ↓opK_listT, ↓opK_tupL, ↓opK_tupT, ↓opK_int, ↓opK_intB, ↓opK_abs, ↓opK_max2, ↓opK_min2, ↓opK_isT, ↓opK_eqL, ↓opK_neL, ↓opK_eqT, ↓opK_neT, ↓opK_eqS, ↓opK_neS, ↓opK_eqB, ↓opK_neB, ↓opK_sumT, ↓opK_sumL, ↓opK_maxT, ↓opK_maxL, ↓opK_minT, ↓opK_minL, ↓opK_sortT, ↓opK_sortL, ↓opK_sortRT, ↓opK_sortRL, ↓opK_idxL, ↓opK_idxT, ↓opK_idxC, ↓opK_revL, ↓opK_revT, ↓opK_lrg1, ↓opK_lrg2, ↓opK_trg1, ↓opK_trg2, ↓itemW_0, ↓itemW_1, ↓itemW_2, ↓itemW_3, ↓itemsW_L, ↓itemsW_T, ↓itemsW_S, ↓itemsW_r1, ↓itemsW_r2, ↓bindW_nm, ↓bindW_nil, ↓bindW_cons, ↓back_vl, ↓back_vr, ↓back_vrN, ↓back_nil, ↓low_z, ↓low_11, ↓low_1, ↓awayE_z, ↓awayE_1, ↓awayE_2, ↓pairW, ↓intW, ↓exts1, ↓low_2, ↓low_any, ↓low_set, ↓low_len, ↓awayE_s, ↓itemsW_enL, ↓itemsW_enT, ↓itemsW_esL, ↓itemsW_esT, ↓itemsW_zTT, ↓itemsW_zLL, ↓itemsW_zTL, ↓itemsW_zLT, ↓itemsW_zST, ↓itemsW_zSL, ↓itemsW_enS, ↓opK_mulS, ↓opK_imul, ↓opK_idxS, ↓opK_strI, ↓opK_strS, ↓opK_takeS, ↓opK_dropS, ↓opK_initS, ↓opK_inC, ↓opK_niC, keepO, lvOf, lvO_int, lvO_bl, lvO_str, lvO_tup, lvO_lst, lvO_non, isTy, isNon, List.set_cons_zero, List.set_cons_succ, List.length_cons, List.length_nil, getE_cons0, getE_consS, Option.isNone_none, Option.isNone_some, Bool.false_eq_true, if_true, if_false, Bool.not_true, Bool.not_false, Nat.zero_add, Nat.reduceAdd, Nat.reduceLT, Nat.reduceSub, true_and, and_true, Nat.min_zero, Nat.zero_min, Nat.reduceBEq, Bool.and_true, Bool.true_and, decide_true, decide_false, outs_z, outs_S, outs_N, outs_0, Int.reduceLT, Int.reduceLE, Nat.reduceLeDiff, List.isEmpty_cons, List.isEmpty_nil, and_self, isLstAt_0, isLstAt_S, isAtomAt_0, isAtomAt_S, pOf_0, pOf_S, cmpLt, cmpLe, cmpGt, cmpGe]
      refine for_pre (fun (pre : List Nat) r => ∃ l x2 x4 x5 x6, r = [(some (Ent.mk (bookD b fs d) 0 true)), none, x2, some ⟨.lst ((pre.flatMap depsV).map natD), l + 1, false⟩, x4, x5, x6]) natD ⟨8, _, _, _, _, rfl⟩ ?_ (fun r h => h)
      rintro pre m post r ep ⟨l, x2, x4, x5, x6, rfl⟩
      have hlm : (pre.flatMap depsV).length + 2 * m ≤ 64 := by
        unfold depV at hlen
        rw [ep, List.flatMap_append, List.flatMap_cons, List.length_append, List.length_append, deps_eq m, List.length_map, List.length_range] at hlen
        omega
      rw [turn_exW, bindW_nm]
      refine ⟨rfl, ?_⟩
      simp only [List.set_cons_zero, List.set_cons_succ, rng_nat, ↓exW_for, ↓exW_skip, ↓exW_seq, ↓exW_setn, ↓exW_setc, ↓exW_setJ, ↓putW_at, ↓putE_L, ↓ixW_0, ↓ixW_1, ↓exW_aug, ↓exW_retv, ↓exW_ex, ↓exW_app, ↓exW_ext, ↓exW_ite, ↓exW_for, ↓exW_whl, ↓exW_ret_op, ↓exW_ret_lit, ↓exW_ret_call, ↓exW_ret_mkt, ↓exW_ret_mkl, ↓exW_ret_ite, ↓exW_ret_and, ↓exW_ret_or, ↓exW_ret_comp, ↓exW_ret_chain, ↓exW_ret_pop, ↓evW_lit, ↓evW_var, ↓evW_nil, ↓evW_cons, ↓evW_op, ↓evW_mkl, ↓evW_mkt, ↓evW_ite, ↓evW_and, ↓evW_or, ↓evW_call, ↓evW_comp, ↓evW_pop, ↓evW_chain, ↓hdQ_1, ↓contF_nx, ↓contF_rt, ↓atE_0, ↓atE_S, ↓borW_nil, ↓borW_vl, ↓borW_vrT, ↓borW_vrF, ↓takW_nil, ↓takW_vl, ↓takW_vr, ↓oneW_vl, ↓oneW_vr, ↓lendW_nil, ↓lendW_vl, ↓lendW_vr, ↓trW_vl, ↓trW_vr, ↓ifB_t, ↓ifB_f, ↓ifB_d, ↓ifB_n, ↓truW_bl, ↓truW_int, ↓truW_lst, ↓truW_tup, ↓truW_non, ↓opK_add, ↓opK_addT, ↓opK_addL, ↓opK_addS, ↓opK_sub, ↓opK_mul, ↓opK_mulT, ↓opK_mulL, ↓opK_fdiv, ↓opK_mod, ↓opK_pow, ↓opK_shl, ↓opK_band, ↓opK_neg, ↓opK_notB, ↓opK_not, ↓opK_lt, ↓opK_le, ↓opK_gt, ↓opK_ge, ↓opK_eq, ↓opK_ne, ↓opK_isN, ↓opK_notN, ↓opK_isB, ↓opK_notB2, ↓opK_lenL, ↓opK_lenT, ↓opK_lenC, ↓opK_lenS, ↓opK_listL, ↓opK_listT, ↓opK_tupL, ↓opK_tupT, ↓opK_int, ↓opK_intB, ↓opK_abs, ↓opK_max2, ↓opK_min2, ↓opK_isT, ↓opK_eqL, ↓opK_neL, ↓opK_eqT, ↓opK_neT, ↓opK_eqS, ↓opK_neS, ↓opK_eqB, ↓opK_neB, ↓opK_sumT, ↓opK_sumL, ↓opK_maxT, ↓opK_maxL, ↓opK_minT, ↓opK_minL, ↓opK_sortT, ↓opK_sortL, ↓opK_sortRT, ↓opK_sortRL, ↓opK_idxL, ↓opK_idxT, ↓opK_idxC, ↓opK_revL, ↓opK_revT, ↓opK_lrg1, ↓opK_lrg2, ↓opK_trg1, ↓opK_trg2, ↓itemW_0, ↓itemW_1, ↓itemW_2, ↓itemW_3, ↓itemsW_L, ↓itemsW_T, ↓itemsW_S, ↓itemsW_r1, ↓itemsW_r2, ↓bindW_nm, ↓bindW_nil, ↓bindW_cons, ↓back_vl, ↓back_vr, ↓back_vrN, ↓back_nil, ↓low_z, ↓low_11, ↓low_1, ↓awayE_z, ↓awayE_1, ↓awayE_2, ↓pairW, ↓intW, ↓exts1, ↓low_2, ↓low_any, ↓low_set, ↓low_len, ↓awayE_s, ↓itemsW_enL, ↓itemsW_enT, ↓itemsW_esL, ↓itemsW_esT, ↓itemsW_zTT, ↓itemsW_zLL, ↓itemsW_zTL, ↓itemsW_zLT, ↓itemsW_zST, ↓itemsW_zSL, ↓itemsW_enS, ↓opK_mulS, ↓opK_imul, ↓opK_idxS, ↓opK_strI, ↓opK_strS, ↓opK_takeS, ↓opK_dropS, ↓opK_initS, ↓opK_inC, ↓opK_niC, keepO, lvOf, lvO_int, lvO_bl, lvO_str, lvO_tup, lvO_lst, lvO_non, isTy, isNon, List.set_cons_zero, List.set_cons_succ, List.length_cons, List.length_nil, getE_cons0, getE_consS, Option.isNone_none, Option.isNone_some, Bool.false_eq_true, if_true, if_false, Bool.not_true, Bool.not_false, Nat.zero_add, Nat.reduceAdd, Nat.reduceLT, Nat.reduceSub, true_and, and_true, Nat.min_zero, Nat.zero_min, Nat.reduceBEq, Bool.and_true, Bool.true_and, decide_true, decide_false, outs_z, outs_S, outs_N, outs_0, Int.reduceLT, Int.reduceLE, Nat.reduceLeDiff, List.isEmpty_cons, List.isEmpty_nil, and_self, isLstAt_0, isLstAt_S, isAtomAt_0, isAtomAt_S, pOf_0, pOf_S, cmpLt, cmpLe, cmpGt, cmpGe]
      refine ⟨okR_of2 (by omega), ?_⟩
      refine for_pre (fun (pr2 : List Nat) r => ∃ l x2 x5 x6, r = [(some (Ent.mk (bookD b fs d) 0 true)), none, x2, some ⟨.lst ((pre.flatMap depsV ++ pr2.flatMap fun k => [dep m k, dep m k]).map natD), l + 1, false⟩, (some (Ent.mk (natD m) 0 false)), x5, x6]) natD ⟨l, x2, x5, x6, by rw [List.flatMap_nil, List.append_nil]⟩ ?_ ?_
      · rintro pr2 k post2 r ep2 ⟨l, x2, x5, x6, rfl⟩
        have hk : k < m := List.mem_range.mp (by rw [ep2]; simp)
        have hl2 : pr2.length < m := by have := congrArg List.length ep2; simp at this; omega
        have e : (if (m : Int) - 1 - (k : Int) < (k : Int) then (m : Int) - 1 - (k : Int) else (k : Int)) = ((dep m k : Nat) : Int) := by
          unfold dep
          split <;> omega
        have hln2 : (pr2.flatMap fun k => [dep m k, dep m k]).length = 2 * pr2.length := by
          exact two_len _ pr2
        rw [turn_exW, bindW_nm]
        refine ⟨rfl, ?_⟩
        simp only [List.set_cons_zero, List.set_cons_succ, e, ↓low_any1, List.length_map, List.length_append, hln2, ↓exW_skip, ↓exW_seq, ↓exW_setn, ↓exW_setc, ↓exW_setJ, ↓putW_at, ↓putE_L, ↓ixW_0, ↓ixW_1, ↓exW_aug, ↓exW_retv, ↓exW_ex, ↓exW_app, ↓exW_ext, ↓exW_ite, ↓exW_for, ↓exW_whl, ↓exW_ret_op, ↓exW_ret_lit, ↓exW_ret_call, ↓exW_ret_mkt, ↓exW_ret_mkl, ↓exW_ret_ite, ↓exW_ret_and, ↓exW_ret_or, ↓exW_ret_comp, ↓exW_ret_chain, ↓exW_ret_pop, ↓evW_lit, ↓evW_var, ↓evW_nil, ↓evW_cons, ↓evW_op, ↓evW_mkl, ↓evW_mkt, ↓evW_ite, ↓evW_and, ↓evW_or, ↓evW_call, ↓evW_comp, ↓evW_pop, ↓evW_chain, ↓hdQ_1, ↓contF_nx, ↓contF_rt, ↓atE_0, ↓atE_S, ↓borW_nil, ↓borW_vl, ↓borW_vrT, ↓borW_vrF, ↓takW_nil, ↓takW_vl, ↓takW_vr, ↓oneW_vl, ↓oneW_vr, ↓lendW_nil, ↓lendW_vl, ↓lendW_vr, ↓trW_vl, ↓trW_vr, ↓ifB_t, ↓ifB_f, ↓ifB_d, ↓ifB_n, ↓truW_bl, ↓truW_int, ↓truW_lst, ↓truW_tup, ↓truW_non, ↓opK_add, ↓opK_addT, ↓opK_addL, ↓opK_addS, ↓opK_sub, ↓opK_mul, ↓opK_mulT, ↓opK_mulL, ↓opK_fdiv, ↓opK_mod, ↓opK_pow, ↓opK_shl, ↓opK_band, ↓opK_neg, ↓opK_notB, ↓opK_not, ↓opK_lt, ↓opK_le, ↓opK_gt, ↓opK_ge, ↓opK_eq, ↓opK_ne, ↓opK_isN, ↓opK_notN, ↓opK_isB, ↓opK_notB2, ↓opK_lenL, ↓opK_lenT, ↓opK_lenC, ↓opK_lenS, ↓opK_listL, ↓opK_listT, ↓opK_tupL, ↓opK_tupT, ↓opK_int, ↓opK_intB, ↓opK_abs, ↓opK_max2, ↓opK_min2, ↓opK_isT, ↓opK_eqL, ↓opK_neL, ↓opK_eqT, ↓opK_neT, ↓opK_eqS, ↓opK_neS, ↓opK_eqB, ↓opK_neB, ↓opK_sumT, ↓opK_sumL, ↓opK_maxT, ↓opK_maxL, ↓opK_minT, ↓opK_minL, ↓opK_sortT, ↓opK_sortL, ↓opK_sortRT, ↓opK_sortRL, ↓opK_idxL, ↓opK_idxT, ↓opK_idxC, ↓opK_revL, ↓opK_revT, ↓opK_lrg1, ↓opK_lrg2, ↓opK_trg1, ↓opK_trg2, ↓itemW_0, ↓itemW_1, ↓itemW_2, ↓itemW_3, ↓itemsW_L, ↓itemsW_T, ↓itemsW_S, ↓itemsW_r1, ↓itemsW_r2, ↓bindW_nm, ↓bindW_nil, ↓bindW_cons, ↓back_vl, ↓back_vr, ↓back_vrN, ↓back_nil, ↓low_z, ↓low_11, ↓low_1, ↓awayE_z, ↓awayE_1, ↓awayE_2, ↓pairW, ↓intW, ↓exts1, ↓low_2, ↓low_any, ↓low_set, ↓low_len, ↓awayE_s, ↓itemsW_enL, ↓itemsW_enT, ↓itemsW_esL, ↓itemsW_esT, ↓itemsW_zTT, ↓itemsW_zLL, ↓itemsW_zTL, ↓itemsW_zLT, ↓itemsW_zST, ↓itemsW_zSL, ↓itemsW_enS, ↓opK_mulS, ↓opK_imul, ↓opK_idxS, ↓opK_strI, ↓opK_strS, ↓opK_takeS, ↓opK_dropS, ↓opK_initS, ↓opK_inC, ↓opK_niC, keepO, lvOf, lvO_int, lvO_bl, lvO_str, lvO_tup, lvO_lst, lvO_non, isTy, isNon, List.set_cons_zero, List.set_cons_succ, List.length_cons, List.length_nil, getE_cons0, getE_consS, Option.isNone_none, Option.isNone_some, Bool.false_eq_true, if_true, if_false, Bool.not_true, Bool.not_false, Nat.zero_add, Nat.reduceAdd, Nat.reduceLT, Nat.reduceSub, true_and, and_true, Nat.min_zero, Nat.zero_min, Nat.reduceBEq, Bool.and_true, Bool.true_and, decide_true, decide_false, outs_z, outs_S, outs_N, outs_0, Int.reduceLT, Int.reduceLE, Nat.reduceLeDiff, List.isEmpty_cons, List.isEmpty_nil, and_self, isLstAt_0, isLstAt_S, isAtomAt_0, isAtomAt_S, pOf_0, pOf_S, cmpLt, cmpLe, cmpGt, cmpGe]
        refine ⟨rfl, sz_of (by omega), 0, x2, (some (Ent.mk (natD k) 0 false)), (some (Ent.mk (natD (dep m k)) 0 false)), ?_⟩
        rw [List.flatMap_append, List.flatMap_cons, List.flatMap_nil, List.append_nil, ← List.append_assoc, List.map_append (l₂ := [dep m k, dep m k])]
        rfl
      · rintro r ⟨l, x2, x5, x6, rfl⟩
        refine ⟨l, x2, (some (Ent.mk (natD m) 0 false)), x5, x6, ?_⟩
        rw [List.flatMap_append, List.flatMap_cons, List.flatMap_nil, List.append_nil]
        rfl
    rintro r ⟨l, x2, x4, x5, x6, rfl⟩
    simp only [↓exW_skip, ↓exW_seq, ↓exW_setn, ↓exW_setc, ↓exW_setJ, ↓putW_at, ↓putE_L, ↓ixW_0, ↓ixW_1, ↓exW_aug, ↓exW_retv, ↓exW_ex, ↓exW_app, ↓exW_ext, ↓exW_ite, ↓exW_for, ↓exW_whl, ↓exW_ret_op, ↓exW_ret_lit, ↓exW_ret_call, ↓exW_ret_mkt, ↓exW_ret_mkl, ↓exW_ret_ite, ↓exW_ret_and, ↓exW_ret_or, ↓exW_ret_comp, ↓exW_ret_chain, ↓exW_ret_pop, ↓evW_lit, ↓evW_var, ↓evW_nil, ↓evW_cons, ↓evW_op, ↓evW_mkl, ↓evW_mkt, ↓evW_ite, ↓evW_and, ↓evW_or, ↓evW_call, ↓evW_comp, ↓evW_pop, ↓evW_chain, ↓hdQ_1, ↓contF_nx, ↓contF_rt, ↓atE_0, ↓atE_S, ↓borW_nil, ↓borW_vl, ↓borW_vrT, ↓borW_vrF, ↓takW_nil, ↓takW_vl, ↓takW_vr, ↓oneW_vl, ↓oneW_vr, ↓lendW_nil, ↓lendW_vl, ↓lendW_vr, ↓trW_vl, ↓trW_vr, ↓ifB_t, ↓ifB_f, ↓ifB_d, ↓ifB_n, ↓truW_bl, ↓truW_int, ↓truW_lst, ↓truW_tup, ↓truW_non, ↓opK_add, ↓opK_addT, ↓opK_addL, ↓opK_addS, ↓opK_sub, ↓opK_mul, ↓opK_mulT, ↓opK_mulL, ↓opK_fdiv, ↓opK_mod, ↓opK_pow, ↓opK_shl, ↓opK_band, ↓opK_neg, ↓opK_notB, ↓opK_not, ↓opK_lt, ↓opK_le, ↓opK_gt, ↓opK_ge, ↓opK_eq, ↓opK_ne, ↓opK_isN, ↓opK_notN, ↓opK_isB, ↓opK_notB2, ↓opK_lenL, ↓opK_lenT, ↓opK_lenC, ↓opK_lenS, ↓opK_listL, ↓opK_listT, ↓opK_tupL, ↓opK_tupT, ↓opK_int, ↓opK_intB, ↓opK_abs, ↓opK_max2, ↓opK_min2, ↓opK_isT, ↓opK_eqL, ↓opK_neL, ↓opK_eqT, ↓opK_neT, ↓opK_eqS, ↓opK_neS, ↓opK_eqB, ↓opK_neB, ↓opK_sumT, ↓opK_sumL, ↓opK_maxT, ↓opK_maxL, ↓opK_minT, ↓opK_minL, ↓opK_sortT, ↓opK_sortL, ↓opK_sortRT, ↓opK_sortRL, ↓opK_idxL, ↓opK_idxT, ↓opK_idxC, ↓opK_revL, ↓opK_revT, ↓opK_lrg1, ↓opK_lrg2, ↓opK_trg1, ↓opK_trg2, ↓itemW_0, ↓itemW_1, ↓itemW_2, ↓itemW_3, ↓itemsW_L, ↓itemsW_T, ↓itemsW_S, ↓itemsW_r1, ↓itemsW_r2, ↓bindW_nm, ↓bindW_nil, ↓bindW_cons, ↓back_vl, ↓back_vr, ↓back_vrN, ↓back_nil, ↓low_z, ↓low_11, ↓low_1, ↓awayE_z, ↓awayE_1, ↓awayE_2, ↓pairW, ↓intW, ↓exts1, ↓low_2, ↓low_any, ↓low_set, ↓low_len, ↓awayE_s, ↓itemsW_enL, ↓itemsW_enT, ↓itemsW_esL, ↓itemsW_esT, ↓itemsW_zTT, ↓itemsW_zLL, ↓itemsW_zTL, ↓itemsW_zLT, ↓itemsW_zST, ↓itemsW_zSL, ↓itemsW_enS, ↓opK_mulS, ↓opK_imul, ↓opK_idxS, ↓opK_strI, ↓opK_strS, ↓opK_takeS, ↓opK_dropS, ↓opK_initS, ↓opK_inC, ↓opK_niC, keepO, lvOf, lvO_int, lvO_bl, lvO_str, lvO_tup, lvO_lst, lvO_non, isTy, isNon, List.set_cons_zero, List.set_cons_succ, List.length_cons, List.length_nil, getE_cons0, getE_consS, Option.isNone_none, Option.isNone_some, Bool.false_eq_true, if_true, if_false, Bool.not_true, Bool.not_false, Nat.zero_add, Nat.reduceAdd, Nat.reduceLT, Nat.reduceSub, true_and, and_true, Nat.min_zero, Nat.zero_min, Nat.reduceBEq, Bool.and_true, Bool.true_and, decide_true, decide_false, outs_z, outs_S, outs_N, outs_0, Int.reduceLT, Int.reduceLE, Nat.reduceLeDiff, List.isEmpty_cons, List.isEmpty_nil, and_self, isLstAt_0, isLstAt_S, isAtomAt_0, isAtomAt_S, pOf_0, pOf_S, cmpLt, cmpLe, cmpGt, cmpGe]
    exact ⟨l, rfl⟩
  obtain ⟨d', l, outs, h1, L, rfl, rfl, rfl⟩ := goal
  exact ⟨L, h1⟩
theorem law_true (ns : List Int) (h : ns.length ≤ 63) : ∃ l outs, callF T (9 + 1) 17 [(.scr ns, 0)] = .val (.bl true, l, outs) := by
  have goal : callW (callF T (9 + 1)) 17 [(.scr ns, 0)] fun d l outs => d = .bl true := by
    rw [call_in (F := ⟨1, 7, b17⟩) rfl rfl]
    obtain ⟨ds, dl, hds, hd⟩ := digits_ok (n := 7) hdig hcell 50 (by decide) ns
    have hc : ∀ K, callW (callF T 9) 12 [(.scr ns, 0), (.int 0, 0), (.int 50, 0)] K ↔ K (.lst (ds.map .int)) dl [some (.scr ns, 0), some (.int 0, 0), some (.int 50, 0)] := fun K => callW_of hd
    have hb : ∀ at_ m K, 0 < m → (callW (callF T 9) 13 [(Box ds at_, 1), (.int m, 0)] K ↔ K (.int (drawV ds at_ m)) 0 [some (Box ds (at_ + 1), 1), some (.int m, 0)]) := fun at_ m K h => callW_of (draw_ok hdraw ds at_ m h)
    have h5 := fun at_ K => hb at_ 5 K (by decide)
    have e5 := fun at_ => drawV_lt (ds := ds) (at_ := at_) (m := 5) (by decide)
    unfold b17
    refine seq_by (fun r => r = [(some (Ent.mk (.scr ns) 0 true)), (some (Ent.mk (Box ds 0) 1 false)), none, none, none, none, none]) ?_ ?_
    · simp only [env0_1, List.replicate, ↓hc, ↓exW_skip, ↓exW_seq, ↓exW_setn, ↓exW_setc, ↓exW_setJ, ↓putW_at, ↓putE_L, ↓ixW_0, ↓ixW_1, ↓exW_aug, ↓exW_retv, ↓exW_ex, ↓exW_app, ↓exW_ext, ↓exW_ite, ↓exW_for, ↓exW_whl, ↓exW_ret_op, ↓exW_ret_lit, ↓exW_ret_call, ↓exW_ret_mkt, ↓exW_ret_mkl, ↓exW_ret_ite, ↓exW_ret_and, ↓exW_ret_or, ↓exW_ret_comp, ↓exW_ret_chain, ↓exW_ret_pop, ↓evW_lit, ↓evW_var, ↓evW_nil, ↓evW_cons, ↓evW_op, ↓evW_mkl, ↓evW_mkt, ↓evW_ite, ↓evW_and, ↓evW_or, ↓evW_call, ↓evW_comp, ↓evW_pop, ↓evW_chain, ↓hdQ_1, ↓contF_nx, ↓contF_rt, ↓atE_0, ↓atE_S, ↓borW_nil, ↓borW_vl, ↓borW_vrT, ↓borW_vrF, ↓takW_nil, ↓takW_vl, ↓takW_vr, ↓oneW_vl, ↓oneW_vr, ↓lendW_nil, ↓lendW_vl, ↓lendW_vr, ↓trW_vl, ↓trW_vr, ↓ifB_t, ↓ifB_f, ↓ifB_d, ↓ifB_n, ↓truW_bl, ↓truW_int, ↓truW_lst, ↓truW_tup, ↓truW_non, ↓opK_add, ↓opK_addT, ↓opK_addL, ↓opK_addS, ↓opK_sub, ↓opK_mul, ↓opK_mulT, ↓opK_mulL, ↓opK_fdiv, ↓opK_mod, ↓opK_pow, ↓opK_shl, ↓opK_band, ↓opK_neg, ↓opK_notB, ↓opK_not, ↓opK_lt, ↓opK_le, ↓opK_gt, ↓opK_ge, ↓opK_eq, ↓opK_ne, ↓opK_isN, ↓opK_notN, ↓opK_isB, ↓opK_notB2, ↓opK_lenL, ↓opK_lenT, ↓opK_lenC, ↓opK_lenS, ↓opK_listL, ↓opK_listT, ↓opK_tupL, ↓opK_tupT, ↓opK_int, ↓opK_intB, ↓opK_abs, ↓opK_max2, ↓opK_min2, ↓opK_isT, ↓opK_eqL, ↓opK_neL, ↓opK_eqT, ↓opK_neT, ↓opK_eqS, ↓opK_neS, ↓opK_eqB, ↓opK_neB, ↓opK_sumT, ↓opK_sumL, ↓opK_maxT, ↓opK_maxL, ↓opK_minT, ↓opK_minL, ↓opK_sortT, ↓opK_sortL, ↓opK_sortRT, ↓opK_sortRL, ↓opK_idxL, ↓opK_idxT, ↓opK_idxC, ↓opK_revL, ↓opK_revT, ↓opK_lrg1, ↓opK_lrg2, ↓opK_trg1, ↓opK_trg2, ↓itemW_0, ↓itemW_1, ↓itemW_2, ↓itemW_3, ↓itemsW_L, ↓itemsW_T, ↓itemsW_S, ↓itemsW_r1, ↓itemsW_r2, ↓bindW_nm, ↓bindW_nil, ↓bindW_cons, ↓back_vl, ↓back_vr, ↓back_vrN, ↓back_nil, ↓low_z, ↓low_11, ↓low_1, ↓awayE_z, ↓awayE_1, ↓awayE_2, ↓pairW, ↓intW, ↓exts1, ↓low_2, ↓low_any, ↓low_set, ↓low_len, ↓awayE_s, ↓itemsW_enL, ↓itemsW_enT, ↓itemsW_esL, ↓itemsW_esT, ↓itemsW_zTT, ↓itemsW_zLL, ↓itemsW_zTL, ↓itemsW_zLT, ↓itemsW_zST, ↓itemsW_zSL, ↓itemsW_enS, ↓opK_mulS, ↓opK_imul, ↓opK_idxS, ↓opK_strI, ↓opK_strS, ↓opK_takeS, ↓opK_dropS, ↓opK_initS, ↓opK_inC, ↓opK_niC, keepO, lvOf, lvO_int, lvO_bl, lvO_str, lvO_tup, lvO_lst, lvO_non, isTy, isNon, List.set_cons_zero, List.set_cons_succ, List.length_cons, List.length_nil, getE_cons0, getE_consS, Option.isNone_none, Option.isNone_some, Bool.false_eq_true, if_true, if_false, Bool.not_true, Bool.not_false, Nat.zero_add, Nat.reduceAdd, Nat.reduceLT, Nat.reduceSub, true_and, and_true, Nat.min_zero, Nat.zero_min, Nat.reduceBEq, Bool.and_true, Bool.true_and, decide_true, decide_false, outs_z, outs_S, outs_N, outs_0, Int.reduceLT, Int.reduceLE, Nat.reduceLeDiff, List.isEmpty_cons, List.isEmpty_nil, and_self, isLstAt_0, isLstAt_S, isAtomAt_0, isAtomAt_S, pOf_0, pOf_S, cmpLt, cmpLe, cmpGt, cmpGe]
      exact ⟨rfl, rfl⟩
    rintro r rfl
    refine seq_by (fun _ => True) ?_ (fun r _ => by simp only [↓exW_skip, ↓exW_seq, ↓exW_setn, ↓exW_setc, ↓exW_setJ, ↓putW_at, ↓putE_L, ↓ixW_0, ↓ixW_1, ↓exW_aug, ↓exW_retv, ↓exW_ex, ↓exW_app, ↓exW_ext, ↓exW_ite, ↓exW_for, ↓exW_whl, ↓exW_ret_op, ↓exW_ret_lit, ↓exW_ret_call, ↓exW_ret_mkt, ↓exW_ret_mkl, ↓exW_ret_ite, ↓exW_ret_and, ↓exW_ret_or, ↓exW_ret_comp, ↓exW_ret_chain, ↓exW_ret_pop, ↓evW_lit, ↓evW_var, ↓evW_nil, ↓evW_cons, ↓evW_op, ↓evW_mkl, ↓evW_mkt, ↓evW_ite, ↓evW_and, ↓evW_or, ↓evW_call, ↓evW_comp, ↓evW_pop, ↓evW_chain, ↓hdQ_1, ↓contF_nx, ↓contF_rt, ↓atE_0, ↓atE_S, ↓borW_nil, ↓borW_vl, ↓borW_vrT, ↓borW_vrF, ↓takW_nil, ↓takW_vl, ↓takW_vr, ↓oneW_vl, ↓oneW_vr, ↓lendW_nil, ↓lendW_vl, ↓lendW_vr, ↓trW_vl, ↓trW_vr, ↓ifB_t, ↓ifB_f, ↓ifB_d, ↓ifB_n, ↓truW_bl, ↓truW_int, ↓truW_lst, ↓truW_tup, ↓truW_non, ↓opK_add, ↓opK_addT, ↓opK_addL, ↓opK_addS, ↓opK_sub, ↓opK_mul, ↓opK_mulT, ↓opK_mulL, ↓opK_fdiv, ↓opK_mod, ↓opK_pow, ↓opK_shl, ↓opK_band, ↓opK_neg, ↓opK_notB, ↓opK_not, ↓opK_lt, ↓opK_le, ↓opK_gt, ↓opK_ge, ↓opK_eq, ↓opK_ne, ↓opK_isN, ↓opK_notN, ↓opK_isB, ↓opK_notB2, ↓opK_lenL, ↓opK_lenT, ↓opK_lenC, ↓opK_lenS, ↓opK_listL, ↓opK_listT, ↓opK_tupL, ↓opK_tupT, ↓opK_int, ↓opK_intB, ↓opK_abs, ↓opK_max2, ↓opK_min2, ↓opK_isT, ↓opK_eqL, ↓opK_neL, ↓opK_eqT, ↓opK_neT, ↓opK_eqS, ↓opK_neS, ↓opK_eqB, ↓opK_neB, ↓opK_sumT, ↓opK_sumL, ↓opK_maxT, ↓opK_maxL, ↓opK_minT, ↓opK_minL, ↓opK_sortT, ↓opK_sortL, ↓opK_sortRT, ↓opK_sortRL, ↓opK_idxL, ↓opK_idxT, ↓opK_idxC, ↓opK_revL, ↓opK_revT, ↓opK_lrg1, ↓opK_lrg2, ↓opK_trg1, ↓opK_trg2, ↓itemW_0, ↓itemW_1, ↓itemW_2, ↓itemW_3, ↓itemsW_L, ↓itemsW_T, ↓itemsW_S, ↓itemsW_r1, ↓itemsW_r2, ↓bindW_nm, ↓bindW_nil, ↓bindW_cons, ↓back_vl, ↓back_vr, ↓back_vrN, ↓back_nil, ↓low_z, ↓low_11, ↓low_1, ↓awayE_z, ↓awayE_1, ↓awayE_2, ↓pairW, ↓intW, ↓exts1, ↓low_2, ↓low_any, ↓low_set, ↓low_len, ↓awayE_s, ↓itemsW_enL, ↓itemsW_enT, ↓itemsW_esL, ↓itemsW_esT, ↓itemsW_zTT, ↓itemsW_zLL, ↓itemsW_zTL, ↓itemsW_zLT, ↓itemsW_zST, ↓itemsW_zSL, ↓itemsW_enS, ↓opK_mulS, ↓opK_imul, ↓opK_idxS, ↓opK_strI, ↓opK_strS, ↓opK_takeS, ↓opK_dropS, ↓opK_initS, ↓opK_inC, ↓opK_niC, keepO, lvOf, lvO_int, lvO_bl, lvO_str, lvO_tup, lvO_lst, lvO_non, isTy, isNon, List.set_cons_zero, List.set_cons_succ, List.length_cons, List.length_nil, getE_cons0, getE_consS, Option.isNone_none, Option.isNone_some, Bool.false_eq_true, if_true, if_false, Bool.not_true, Bool.not_false, Nat.zero_add, Nat.reduceAdd, Nat.reduceLT, Nat.reduceSub, true_and, and_true, Nat.min_zero, Nat.zero_min, Nat.reduceBEq, Bool.and_true, Bool.true_and, decide_true, decide_false, outs_z, outs_S, outs_N, outs_0, Int.reduceLT, Int.reduceLE, Nat.reduceLeDiff, List.isEmpty_cons, List.isEmpty_nil, and_self, isLstAt_0, isLstAt_S, isAtomAt_0, isAtomAt_S, pOf_0, pOf_S, cmpLt, cmpLe, cmpGt, cmpGe])
    simp only [↓exW_for, ↓exW_skip, ↓exW_seq, ↓exW_setn, ↓exW_setc, ↓exW_setJ, ↓putW_at, ↓putE_L, ↓ixW_0, ↓ixW_1, ↓exW_aug, ↓exW_retv, ↓exW_ex, ↓exW_app, ↓exW_ext, ↓exW_ite, ↓exW_for, ↓exW_whl, ↓exW_ret_op, ↓exW_ret_lit, ↓exW_ret_call, ↓exW_ret_mkt, ↓exW_ret_mkl, ↓exW_ret_ite, ↓exW_ret_and, ↓exW_ret_or, ↓exW_ret_comp, ↓exW_ret_chain, ↓exW_ret_pop, ↓evW_lit, ↓evW_var, ↓evW_nil, ↓evW_cons, ↓evW_op, ↓evW_mkl, ↓evW_mkt, ↓evW_ite, ↓evW_and, ↓evW_or, ↓evW_call, ↓evW_comp, ↓evW_pop, ↓evW_chain, ↓hdQ_1, ↓contF_nx, ↓contF_rt, ↓atE_0, ↓atE_S, ↓borW_nil, ↓borW_vl, ↓borW_vrT, ↓borW_vrF, ↓takW_nil, ↓takW_vl, ↓takW_vr, ↓oneW_vl, ↓oneW_vr, ↓lendW_nil, ↓lendW_vl, ↓lendW_vr, ↓trW_vl, ↓trW_vr, ↓ifB_t, ↓ifB_f, ↓ifB_d, ↓ifB_n, ↓truW_bl, ↓truW_int, ↓truW_lst, ↓truW_tup, ↓truW_non, ↓opK_add, ↓opK_addT, ↓opK_addL, ↓opK_addS, ↓opK_sub, ↓opK_mul, ↓opK_mulT, ↓opK_mulL, ↓opK_fdiv, ↓opK_mod, ↓opK_pow, ↓opK_shl, ↓opK_band, ↓opK_neg, ↓opK_notB, ↓opK_not, ↓opK_lt, ↓opK_le, ↓opK_gt, ↓opK_ge, ↓opK_eq, ↓opK_ne, ↓opK_isN, ↓opK_notN, ↓opK_isB, ↓opK_notB2, ↓opK_lenL, ↓opK_lenT, ↓opK_lenC, ↓opK_lenS, ↓opK_listL, ↓opK_listT, ↓opK_tupL, ↓opK_tupT, ↓opK_int, ↓opK_intB, ↓opK_abs, ↓opK_max2, ↓opK_min2, ↓opK_isT, ↓opK_eqL, ↓opK_neL, ↓opK_eqT, ↓opK_neT, ↓opK_eqS, ↓opK_neS, ↓opK_eqB, ↓opK_neB, ↓opK_sumT, ↓opK_sumL, ↓opK_maxT, ↓opK_maxL, ↓opK_minT, ↓opK_minL, ↓opK_sortT, ↓opK_sortL, ↓opK_sortRT, ↓opK_sortRL, ↓opK_idxL, ↓opK_idxT, ↓opK_idxC, ↓opK_revL, ↓opK_revT, ↓opK_lrg1, ↓opK_lrg2, ↓opK_trg1, ↓opK_trg2, ↓itemW_0, ↓itemW_1, ↓itemW_2, ↓itemW_3, ↓itemsW_L, ↓itemsW_T, ↓itemsW_S, ↓itemsW_r1, ↓itemsW_r2, ↓bindW_nm, ↓bindW_nil, ↓bindW_cons, ↓back_vl, ↓back_vr, ↓back_vrN, ↓back_nil, ↓low_z, ↓low_11, ↓low_1, ↓awayE_z, ↓awayE_1, ↓awayE_2, ↓pairW, ↓intW, ↓exts1, ↓low_2, ↓low_any, ↓low_set, ↓low_len, ↓awayE_s, ↓itemsW_enL, ↓itemsW_enT, ↓itemsW_esL, ↓itemsW_esT, ↓itemsW_zTT, ↓itemsW_zLL, ↓itemsW_zTL, ↓itemsW_zLT, ↓itemsW_zST, ↓itemsW_zSL, ↓itemsW_enS, ↓opK_mulS, ↓opK_imul, ↓opK_idxS, ↓opK_strI, ↓opK_strS, ↓opK_takeS, ↓opK_dropS, ↓opK_initS, ↓opK_inC, ↓opK_niC, keepO, lvOf, lvO_int, lvO_bl, lvO_str, lvO_tup, lvO_lst, lvO_non, isTy, isNon, List.set_cons_zero, List.set_cons_succ, List.length_cons, List.length_nil, getE_cons0, getE_consS, Option.isNone_none, Option.isNone_some, Bool.false_eq_true, if_true, if_false, Bool.not_true, Bool.not_false, Nat.zero_add, Nat.reduceAdd, Nat.reduceLT, Nat.reduceSub, true_and, and_true, Nat.min_zero, Nat.zero_min, Nat.reduceBEq, Bool.and_true, Bool.true_and, decide_true, decide_false, outs_z, outs_S, outs_N, outs_0, Int.reduceLT, Int.reduceLE, Nat.reduceLeDiff, List.isEmpty_cons, List.isEmpty_nil, and_self, isLstAt_0, isLstAt_S, isAtomAt_0, isAtomAt_S, pOf_0, pOf_S, cmpLt, cmpLe, cmpGt, cmpGe]
    refine ⟨rfl, ?_⟩
    refine for_pre (fun (_ : List Int) r => ∃ at_ x2 x3 x4 x5 x6, r = [(some (Ent.mk (.scr ns) 0 true)), (some (Ent.mk (Box ds at_) 1 false)), x2, x3, x4, x5, x6]) D.int ⟨0, none, none, none, none, none, rfl⟩ ?_ (fun r _ => trivial)
    rintro pre lap post r - ⟨at_, x2, x3, x4, x5, x6, rfl⟩
    rw [turn_exW, bindW_nm]
    refine ⟨rfl, ?_⟩
    simp only [List.set_cons_zero, List.set_cons_succ]
    generalize (some (Ent.mk (D.int lap) 0 false) : Option Ent) = y2
    obtain ⟨b, fs0, pg, a1, hbk, hfl, hff, hpg1, hpg2⟩ := lawbook_ok (n := 7) hdraw hlpg hbook ds at_
    have hbk : ∀ K, callW (callF T 9) 15 [(Box ds at_, 1)] K ↔ K (bookD b (fs0.map strC) (natD pg)) 0 [some (Box ds a1, 1)] := fun K => callW_of hbk
    have hok : BookOk (fs0.map strC) := ⟨fun f hf => by
      obtain ⟨cs, hcs, rfl⟩ := List.mem_map.mp hf
      exact (hff cs hcs).1.2, by rw [List.length_map]; omega, by rw [List.length_map]; omega⟩
    have hcg : 1 ≤ cntV (fs0.map strC) := by omega
    generalize fs0.map strC = fs at hbk hok hcg
    generalize natD pg = dp at hbk
    refine seq_by (fun r => r = [(some (Ent.mk (.scr ns) 0 true)), (some (Ent.mk (Box ds a1) 1 false)), y2, (some (Ent.mk (bookD b fs dp) 0 false)), x4, x5, x6]) ?_ ?_
    · simp only [↓hbk, ↓exW_skip, ↓exW_seq, ↓exW_setn, ↓exW_setc, ↓exW_setJ, ↓putW_at, ↓putE_L, ↓ixW_0, ↓ixW_1, ↓exW_aug, ↓exW_retv, ↓exW_ex, ↓exW_app, ↓exW_ext, ↓exW_ite, ↓exW_for, ↓exW_whl, ↓exW_ret_op, ↓exW_ret_lit, ↓exW_ret_call, ↓exW_ret_mkt, ↓exW_ret_mkl, ↓exW_ret_ite, ↓exW_ret_and, ↓exW_ret_or, ↓exW_ret_comp, ↓exW_ret_chain, ↓exW_ret_pop, ↓evW_lit, ↓evW_var, ↓evW_nil, ↓evW_cons, ↓evW_op, ↓evW_mkl, ↓evW_mkt, ↓evW_ite, ↓evW_and, ↓evW_or, ↓evW_call, ↓evW_comp, ↓evW_pop, ↓evW_chain, ↓hdQ_1, ↓contF_nx, ↓contF_rt, ↓atE_0, ↓atE_S, ↓borW_nil, ↓borW_vl, ↓borW_vrT, ↓borW_vrF, ↓takW_nil, ↓takW_vl, ↓takW_vr, ↓oneW_vl, ↓oneW_vr, ↓lendW_nil, ↓lendW_vl, ↓lendW_vr, ↓trW_vl, ↓trW_vr, ↓ifB_t, ↓ifB_f, ↓ifB_d, ↓ifB_n, ↓truW_bl, ↓truW_int, ↓truW_lst, ↓truW_tup, ↓truW_non, ↓opK_add, ↓opK_addT, ↓opK_addL, ↓opK_addS, ↓opK_sub, ↓opK_mul, ↓opK_mulT, ↓opK_mulL, ↓opK_fdiv, ↓opK_mod, ↓opK_pow, ↓opK_shl, ↓opK_band, ↓opK_neg, ↓opK_notB, ↓opK_not, ↓opK_lt, ↓opK_le, ↓opK_gt, ↓opK_ge, ↓opK_eq, ↓opK_ne, ↓opK_isN, ↓opK_notN, ↓opK_isB, ↓opK_notB2, ↓opK_lenL, ↓opK_lenT, ↓opK_lenC, ↓opK_lenS, ↓opK_listL, ↓opK_listT, ↓opK_tupL, ↓opK_tupT, ↓opK_int, ↓opK_intB, ↓opK_abs, ↓opK_max2, ↓opK_min2, ↓opK_isT, ↓opK_eqL, ↓opK_neL, ↓opK_eqT, ↓opK_neT, ↓opK_eqS, ↓opK_neS, ↓opK_eqB, ↓opK_neB, ↓opK_sumT, ↓opK_sumL, ↓opK_maxT, ↓opK_maxL, ↓opK_minT, ↓opK_minL, ↓opK_sortT, ↓opK_sortL, ↓opK_sortRT, ↓opK_sortRL, ↓opK_idxL, ↓opK_idxT, ↓opK_idxC, ↓opK_revL, ↓opK_revT, ↓opK_lrg1, ↓opK_lrg2, ↓opK_trg1, ↓opK_trg2, ↓itemW_0, ↓itemW_1, ↓itemW_2, ↓itemW_3, ↓itemsW_L, ↓itemsW_T, ↓itemsW_S, ↓itemsW_r1, ↓itemsW_r2, ↓bindW_nm, ↓bindW_nil, ↓bindW_cons, ↓back_vl, ↓back_vr, ↓back_vrN, ↓back_nil, ↓low_z, ↓low_11, ↓low_1, ↓awayE_z, ↓awayE_1, ↓awayE_2, ↓pairW, ↓intW, ↓exts1, ↓low_2, ↓low_any, ↓low_set, ↓low_len, ↓awayE_s, ↓itemsW_enL, ↓itemsW_enT, ↓itemsW_esL, ↓itemsW_esT, ↓itemsW_zTT, ↓itemsW_zLL, ↓itemsW_zTL, ↓itemsW_zLT, ↓itemsW_zST, ↓itemsW_zSL, ↓itemsW_enS, ↓opK_mulS, ↓opK_imul, ↓opK_idxS, ↓opK_strI, ↓opK_strS, ↓opK_takeS, ↓opK_dropS, ↓opK_initS, ↓opK_inC, ↓opK_niC, keepO, lvOf, lvO_int, lvO_bl, lvO_str, lvO_tup, lvO_lst, lvO_non, isTy, isNon, List.set_cons_zero, List.set_cons_succ, List.length_cons, List.length_nil, getE_cons0, getE_consS, Option.isNone_none, Option.isNone_some, Bool.false_eq_true, if_true, if_false, Bool.not_true, Bool.not_false, Nat.zero_add, Nat.reduceAdd, Nat.reduceLT, Nat.reduceSub, true_and, and_true, Nat.min_zero, Nat.zero_min, Nat.reduceBEq, Bool.and_true, Bool.true_and, decide_true, decide_false, outs_z, outs_S, outs_N, outs_0, Int.reduceLT, Int.reduceLE, Nat.reduceLeDiff, List.isEmpty_cons, List.isEmpty_nil, and_self, isLstAt_0, isLstAt_S, isAtomAt_0, isAtomAt_S, pOf_0, pOf_S, cmpLt, cmpLe, cmpGt, cmpGe]
    rintro r rfl
    refine seq_by (fun r => ∃ t : Int, (0 ≤ t ∧ t ≤ 120) ∧ r = [(some (Ent.mk (.scr ns) 0 true)), (some (Ent.mk (Box ds (a1 + 1)) 1 false)), y2, (some (Ent.mk (bookD b fs dp) 0 false)), (some (Ent.mk (.int t) 0 false)), x5, x6]) ?_ ?_
    · simp only [↓h5, ↓exW_skip, ↓exW_seq, ↓exW_setn, ↓exW_setc, ↓exW_setJ, ↓putW_at, ↓putE_L, ↓ixW_0, ↓ixW_1, ↓exW_aug, ↓exW_retv, ↓exW_ex, ↓exW_app, ↓exW_ext, ↓exW_ite, ↓exW_for, ↓exW_whl, ↓exW_ret_op, ↓exW_ret_lit, ↓exW_ret_call, ↓exW_ret_mkt, ↓exW_ret_mkl, ↓exW_ret_ite, ↓exW_ret_and, ↓exW_ret_or, ↓exW_ret_comp, ↓exW_ret_chain, ↓exW_ret_pop, ↓evW_lit, ↓evW_var, ↓evW_nil, ↓evW_cons, ↓evW_op, ↓evW_mkl, ↓evW_mkt, ↓evW_ite, ↓evW_and, ↓evW_or, ↓evW_call, ↓evW_comp, ↓evW_pop, ↓evW_chain, ↓hdQ_1, ↓contF_nx, ↓contF_rt, ↓atE_0, ↓atE_S, ↓borW_nil, ↓borW_vl, ↓borW_vrT, ↓borW_vrF, ↓takW_nil, ↓takW_vl, ↓takW_vr, ↓oneW_vl, ↓oneW_vr, ↓lendW_nil, ↓lendW_vl, ↓lendW_vr, ↓trW_vl, ↓trW_vr, ↓ifB_t, ↓ifB_f, ↓ifB_d, ↓ifB_n, ↓truW_bl, ↓truW_int, ↓truW_lst, ↓truW_tup, ↓truW_non, ↓opK_add, ↓opK_addT, ↓opK_addL, ↓opK_addS, ↓opK_sub, ↓opK_mul, ↓opK_mulT, ↓opK_mulL, ↓opK_fdiv, ↓opK_mod, ↓opK_pow, ↓opK_shl, ↓opK_band, ↓opK_neg, ↓opK_notB, ↓opK_not, ↓opK_lt, ↓opK_le, ↓opK_gt, ↓opK_ge, ↓opK_eq, ↓opK_ne, ↓opK_isN, ↓opK_notN, ↓opK_isB, ↓opK_notB2, ↓opK_lenL, ↓opK_lenT, ↓opK_lenC, ↓opK_lenS, ↓opK_listL, ↓opK_listT, ↓opK_tupL, ↓opK_tupT, ↓opK_int, ↓opK_intB, ↓opK_abs, ↓opK_max2, ↓opK_min2, ↓opK_isT, ↓opK_eqL, ↓opK_neL, ↓opK_eqT, ↓opK_neT, ↓opK_eqS, ↓opK_neS, ↓opK_eqB, ↓opK_neB, ↓opK_sumT, ↓opK_sumL, ↓opK_maxT, ↓opK_maxL, ↓opK_minT, ↓opK_minL, ↓opK_sortT, ↓opK_sortL, ↓opK_sortRT, ↓opK_sortRL, ↓opK_idxL, ↓opK_idxT, ↓opK_idxC, ↓opK_revL, ↓opK_revT, ↓opK_lrg1, ↓opK_lrg2, ↓opK_trg1, ↓opK_trg2, ↓itemW_0, ↓itemW_1, ↓itemW_2, ↓itemW_3, ↓itemsW_L, ↓itemsW_T, ↓itemsW_S, ↓itemsW_r1, ↓itemsW_r2, ↓bindW_nm, ↓bindW_nil, ↓bindW_cons, ↓back_vl, ↓back_vr, ↓back_vrN, ↓back_nil, ↓low_z, ↓low_11, ↓low_1, ↓awayE_z, ↓awayE_1, ↓awayE_2, ↓pairW, ↓intW, ↓exts1, ↓low_2, ↓low_any, ↓low_set, ↓low_len, ↓awayE_s, ↓itemsW_enL, ↓itemsW_enT, ↓itemsW_esL, ↓itemsW_esT, ↓itemsW_zTT, ↓itemsW_zLL, ↓itemsW_zTL, ↓itemsW_zLT, ↓itemsW_zST, ↓itemsW_zSL, ↓itemsW_enS, ↓opK_mulS, ↓opK_imul, ↓opK_idxS, ↓opK_strI, ↓opK_strS, ↓opK_takeS, ↓opK_dropS, ↓opK_initS, ↓opK_inC, ↓opK_niC, keepO, lvOf, lvO_int, lvO_bl, lvO_str, lvO_tup, lvO_lst, lvO_non, isTy, isNon, List.set_cons_zero, List.set_cons_succ, List.length_cons, List.length_nil, getE_cons0, getE_consS, Option.isNone_none, Option.isNone_some, Bool.false_eq_true, if_true, if_false, Bool.not_true, Bool.not_false, Nat.zero_add, Nat.reduceAdd, Nat.reduceLT, Nat.reduceSub, true_and, and_true, Nat.min_zero, Nat.zero_min, Nat.reduceBEq, Bool.and_true, Bool.true_and, decide_true, decide_false, outs_z, outs_S, outs_N, outs_0, Int.reduceLT, Int.reduceLE, Nat.reduceLeDiff, List.isEmpty_cons, List.isEmpty_nil, and_self, isLstAt_0, isLstAt_S, isAtomAt_0, isAtomAt_S, pOf_0, pOf_S, cmpLt, cmpLe, cmpGt, cmpGe]
      refine ⟨rfl, item_any (show _ ∧ _ < ((5 : Nat) : Int) from e5 a1) fun d hd => ?_⟩
      simp only [List.mem_cons, List.not_mem_nil, or_false] at hd
      rcases hd with rfl | rfl | rfl | rfl | rfl
      all_goals exact ⟨_, ⟨by decide, by decide⟩, rfl⟩
    rintro r ⟨t, ht, rfl⟩
    obtain ⟨L, hdp⟩ := depths_ok (n := 7) hok b dp
    have hdp : ∀ K, callW (callF T 9) 16 [(bookD b fs dp, 0)] K ↔ K (.lst ((depV b fs).map natD)) (L + 1) [some (bookD b fs dp, 0)] := fun K => callW_of hdp
    refine seq_by (fun r => r = [(some (Ent.mk (.scr ns) 0 true)), (some (Ent.mk (Box ds (a1 + 1)) 1 false)), y2, (some (Ent.mk (bookD b fs dp) 0 false)), (some (Ent.mk (.int t) 0 false)), some ⟨.lst ((depV b fs).map natD), L + 1, false⟩, x6]) ?_ ?_
    · simp only [↓hdp, ↓exW_skip, ↓exW_seq, ↓exW_setn, ↓exW_setc, ↓exW_setJ, ↓putW_at, ↓putE_L, ↓ixW_0, ↓ixW_1, ↓exW_aug, ↓exW_retv, ↓exW_ex, ↓exW_app, ↓exW_ext, ↓exW_ite, ↓exW_for, ↓exW_whl, ↓exW_ret_op, ↓exW_ret_lit, ↓exW_ret_call, ↓exW_ret_mkt, ↓exW_ret_mkl, ↓exW_ret_ite, ↓exW_ret_and, ↓exW_ret_or, ↓exW_ret_comp, ↓exW_ret_chain, ↓exW_ret_pop, ↓evW_lit, ↓evW_var, ↓evW_nil, ↓evW_cons, ↓evW_op, ↓evW_mkl, ↓evW_mkt, ↓evW_ite, ↓evW_and, ↓evW_or, ↓evW_call, ↓evW_comp, ↓evW_pop, ↓evW_chain, ↓hdQ_1, ↓contF_nx, ↓contF_rt, ↓atE_0, ↓atE_S, ↓borW_nil, ↓borW_vl, ↓borW_vrT, ↓borW_vrF, ↓takW_nil, ↓takW_vl, ↓takW_vr, ↓oneW_vl, ↓oneW_vr, ↓lendW_nil, ↓lendW_vl, ↓lendW_vr, ↓trW_vl, ↓trW_vr, ↓ifB_t, ↓ifB_f, ↓ifB_d, ↓ifB_n, ↓truW_bl, ↓truW_int, ↓truW_lst, ↓truW_tup, ↓truW_non, ↓opK_add, ↓opK_addT, ↓opK_addL, ↓opK_addS, ↓opK_sub, ↓opK_mul, ↓opK_mulT, ↓opK_mulL, ↓opK_fdiv, ↓opK_mod, ↓opK_pow, ↓opK_shl, ↓opK_band, ↓opK_neg, ↓opK_notB, ↓opK_not, ↓opK_lt, ↓opK_le, ↓opK_gt, ↓opK_ge, ↓opK_eq, ↓opK_ne, ↓opK_isN, ↓opK_notN, ↓opK_isB, ↓opK_notB2, ↓opK_lenL, ↓opK_lenT, ↓opK_lenC, ↓opK_lenS, ↓opK_listL, ↓opK_listT, ↓opK_tupL, ↓opK_tupT, ↓opK_int, ↓opK_intB, ↓opK_abs, ↓opK_max2, ↓opK_min2, ↓opK_isT, ↓opK_eqL, ↓opK_neL, ↓opK_eqT, ↓opK_neT, ↓opK_eqS, ↓opK_neS, ↓opK_eqB, ↓opK_neB, ↓opK_sumT, ↓opK_sumL, ↓opK_maxT, ↓opK_maxL, ↓opK_minT, ↓opK_minL, ↓opK_sortT, ↓opK_sortL, ↓opK_sortRT, ↓opK_sortRL, ↓opK_idxL, ↓opK_idxT, ↓opK_idxC, ↓opK_revL, ↓opK_revT, ↓opK_lrg1, ↓opK_lrg2, ↓opK_trg1, ↓opK_trg2, ↓itemW_0, ↓itemW_1, ↓itemW_2, ↓itemW_3, ↓itemsW_L, ↓itemsW_T, ↓itemsW_S, ↓itemsW_r1, ↓itemsW_r2, ↓bindW_nm, ↓bindW_nil, ↓bindW_cons, ↓back_vl, ↓back_vr, ↓back_vrN, ↓back_nil, ↓low_z, ↓low_11, ↓low_1, ↓awayE_z, ↓awayE_1, ↓awayE_2, ↓pairW, ↓intW, ↓exts1, ↓low_2, ↓low_any, ↓low_set, ↓low_len, ↓awayE_s, ↓itemsW_enL, ↓itemsW_enT, ↓itemsW_esL, ↓itemsW_esT, ↓itemsW_zTT, ↓itemsW_zLL, ↓itemsW_zTL, ↓itemsW_zLT, ↓itemsW_zST, ↓itemsW_zSL, ↓itemsW_enS, ↓opK_mulS, ↓opK_imul, ↓opK_idxS, ↓opK_strI, ↓opK_strS, ↓opK_takeS, ↓opK_dropS, ↓opK_initS, ↓opK_inC, ↓opK_niC, keepO, lvOf, lvO_int, lvO_bl, lvO_str, lvO_tup, lvO_lst, lvO_non, isTy, isNon, List.set_cons_zero, List.set_cons_succ, List.length_cons, List.length_nil, getE_cons0, getE_consS, Option.isNone_none, Option.isNone_some, Bool.false_eq_true, if_true, if_false, Bool.not_true, Bool.not_false, Nat.zero_add, Nat.reduceAdd, Nat.reduceLT, Nat.reduceSub, true_and, and_true, Nat.min_zero, Nat.zero_min, Nat.reduceBEq, Bool.and_true, Bool.true_and, decide_true, decide_false, outs_z, outs_S, outs_N, outs_0, Int.reduceLT, Int.reduceLE, Nat.reduceLeDiff, List.isEmpty_cons, List.isEmpty_nil, and_self, isLstAt_0, isLstAt_S, isAtomAt_0, isAtomAt_S, pOf_0, pOf_S, cmpLt, cmpLe, cmpGt, cmpGe]
    rintro r rfl
    have hcl := cnt_le hok.1
    have hbd : fs.length * (2 * 2 ^ 3) ≤ 4 * (2 * 2 ^ 3) := Nat.mul_le_mul_right _ hok.2.2
    have hlen : (depV b fs).length = cntV fs := by rw [dep_all]; simp
    have hdle : ∀ x ∈ depV b fs, x ≤ 64 := by
      intro x hx
      rw [dep_all] at hx
      obtain ⟨k, hk, rfl⟩ := List.mem_map.mp hx
      unfold deepV
      split
      · have := dep_le (cntV fs / 2) (k / 2); omega
      · refine Nat.le_trans (dep_le _ _) ?_
        have hm : ((ordG fs).getD k (0, 0)).1 < fs.length := by
          have hl := ordG_len fs
          have hk := List.mem_range.mp hk
          have : (ordG fs).getD k (0, 0) ∈ ordV false fs := by
            rw [List.getD_eq_getElem?_getD, List.getElem?_eq_getElem (by omega)]
            exact List.getElem_mem _
          exact (ord_mem this).1
        have hfm : fs.getD ((ordG fs).getD k (0, 0)).1 ⟨#[]⟩ ∈ fs := by
          generalize ((ordG fs).getD k (0, 0)).1 = i at hm
          rw [List.getD_eq_getElem?_getD, List.getElem?_eq_getElem hm]
          exact List.getElem_mem hm
        have := pg_le (hok.1 _ hfm)
        omega
    have sm : ∀ v : Int, 0 ≤ v ∧ v ≤ 100000 → ∀ K, callW (callF T 9) 11 [(.int v, 0), (.int v, 0)] K ↔ K (.bl true) 0 _ := fun v hv K => callW_of (same_ok hsame (Shw.int (i := v) (by omega)) (by decide) (by decide) 0 0)
    have st : small t = true := small_lit ⟨by omega, by omega⟩
    have hprod : ∀ x : Nat, x ≤ 64 → 0 ≤ t * (x : Int) ∧ t * (x : Int) ≤ 100000 := fun x hx => by
      have h1 := Int.mul_nonneg ht.1 (show (0 : Int) ≤ x by omega)
      have h2 : t * (x : Int) ≤ 120 * 64 := Int.mul_le_mul ht.2 (by omega) (by omega) (by decide)
      omega
    refine seq_by (fun r => ∃ x6 l, r = [(some (Ent.mk (.scr ns) 0 true)), (some (Ent.mk (Box ds (a1 + 1)) 1 false)), y2, (some (Ent.mk (bookD b fs dp) 0 false)), (some (Ent.mk (.int t) 0 false)), some ⟨.lst ((depV b fs).map natD), l, false⟩, x6]) ?_ ?_
    · simp only [List.length_map, hlen, rng_nat, ↓exW_for, ↓exW_skip, ↓exW_seq, ↓exW_setn, ↓exW_setc, ↓exW_setJ, ↓putW_at, ↓putE_L, ↓ixW_0, ↓ixW_1, ↓exW_aug, ↓exW_retv, ↓exW_ex, ↓exW_app, ↓exW_ext, ↓exW_ite, ↓exW_for, ↓exW_whl, ↓exW_ret_op, ↓exW_ret_lit, ↓exW_ret_call, ↓exW_ret_mkt, ↓exW_ret_mkl, ↓exW_ret_ite, ↓exW_ret_and, ↓exW_ret_or, ↓exW_ret_comp, ↓exW_ret_chain, ↓exW_ret_pop, ↓evW_lit, ↓evW_var, ↓evW_nil, ↓evW_cons, ↓evW_op, ↓evW_mkl, ↓evW_mkt, ↓evW_ite, ↓evW_and, ↓evW_or, ↓evW_call, ↓evW_comp, ↓evW_pop, ↓evW_chain, ↓hdQ_1, ↓contF_nx, ↓contF_rt, ↓atE_0, ↓atE_S, ↓borW_nil, ↓borW_vl, ↓borW_vrT, ↓borW_vrF, ↓takW_nil, ↓takW_vl, ↓takW_vr, ↓oneW_vl, ↓oneW_vr, ↓lendW_nil, ↓lendW_vl, ↓lendW_vr, ↓trW_vl, ↓trW_vr, ↓ifB_t, ↓ifB_f, ↓ifB_d, ↓ifB_n, ↓truW_bl, ↓truW_int, ↓truW_lst, ↓truW_tup, ↓truW_non, ↓opK_add, ↓opK_addT, ↓opK_addL, ↓opK_addS, ↓opK_sub, ↓opK_mul, ↓opK_mulT, ↓opK_mulL, ↓opK_fdiv, ↓opK_mod, ↓opK_pow, ↓opK_shl, ↓opK_band, ↓opK_neg, ↓opK_notB, ↓opK_not, ↓opK_lt, ↓opK_le, ↓opK_gt, ↓opK_ge, ↓opK_eq, ↓opK_ne, ↓opK_isN, ↓opK_notN, ↓opK_isB, ↓opK_notB2, ↓opK_lenL, ↓opK_lenT, ↓opK_lenC, ↓opK_lenS, ↓opK_listL, ↓opK_listT, ↓opK_tupL, ↓opK_tupT, ↓opK_int, ↓opK_intB, ↓opK_abs, ↓opK_max2, ↓opK_min2, ↓opK_isT, ↓opK_eqL, ↓opK_neL, ↓opK_eqT, ↓opK_neT, ↓opK_eqS, ↓opK_neS, ↓opK_eqB, ↓opK_neB, ↓opK_sumT, ↓opK_sumL, ↓opK_maxT, ↓opK_maxL, ↓opK_minT, ↓opK_minL, ↓opK_sortT, ↓opK_sortL, ↓opK_sortRT, ↓opK_sortRL, ↓opK_idxL, ↓opK_idxT, ↓opK_idxC, ↓opK_revL, ↓opK_revT, ↓opK_lrg1, ↓opK_lrg2, ↓opK_trg1, ↓opK_trg2, ↓itemW_0, ↓itemW_1, ↓itemW_2, ↓itemW_3, ↓itemsW_L, ↓itemsW_T, ↓itemsW_S, ↓itemsW_r1, ↓itemsW_r2, ↓bindW_nm, ↓bindW_nil, ↓bindW_cons, ↓back_vl, ↓back_vr, ↓back_vrN, ↓back_nil, ↓low_z, ↓low_11, ↓low_1, ↓awayE_z, ↓awayE_1, ↓awayE_2, ↓pairW, ↓intW, ↓exts1, ↓low_2, ↓low_any, ↓low_set, ↓low_len, ↓awayE_s, ↓itemsW_enL, ↓itemsW_enT, ↓itemsW_esL, ↓itemsW_esT, ↓itemsW_zTT, ↓itemsW_zLL, ↓itemsW_zTL, ↓itemsW_zLT, ↓itemsW_zST, ↓itemsW_zSL, ↓itemsW_enS, ↓opK_mulS, ↓opK_imul, ↓opK_idxS, ↓opK_strI, ↓opK_strS, ↓opK_takeS, ↓opK_dropS, ↓opK_initS, ↓opK_inC, ↓opK_niC, keepO, lvOf, lvO_int, lvO_bl, lvO_str, lvO_tup, lvO_lst, lvO_non, isTy, isNon, List.set_cons_zero, List.set_cons_succ, List.length_cons, List.length_nil, getE_cons0, getE_consS, Option.isNone_none, Option.isNone_some, Bool.false_eq_true, if_true, if_false, Bool.not_true, Bool.not_false, Nat.zero_add, Nat.reduceAdd, Nat.reduceLT, Nat.reduceSub, true_and, and_true, Nat.min_zero, Nat.zero_min, Nat.reduceBEq, Bool.and_true, Bool.true_and, decide_true, decide_false, outs_z, outs_S, outs_N, outs_0, Int.reduceLT, Int.reduceLE, Nat.reduceLeDiff, List.isEmpty_cons, List.isEmpty_nil, and_self, isLstAt_0, isLstAt_S, isAtomAt_0, isAtomAt_S, pOf_0, pOf_S, cmpLt, cmpLe, cmpGt, cmpGe]
      refine ⟨okR_of2 (by omega), ?_⟩
      refine for_pre (fun (_ : List Nat) r => ∃ x6 l, r = [(some (Ent.mk (.scr ns) 0 true)), (some (Ent.mk (Box ds (a1 + 1)) 1 false)), y2, (some (Ent.mk (bookD b fs dp) 0 false)), (some (Ent.mk (.int t) 0 false)), some ⟨.lst ((depV b fs).map natD), l, false⟩, x6]) natD ⟨_, _, rfl⟩ ?_ (fun r h => h)
      rintro pre k post r ep ⟨x6, l, rfl⟩
      have hk : k < cntV fs := List.mem_range.mp (by rw [ep]; simp)
      have ek : (k : Int) + 1 = ((1 + k : Nat) : Int) := by omega
      have hcr : ∀ K, callW (callF T 9) 8 [(bookD b fs dp, 0), (natD (1 + k), 0), (.int t, 0)] K ↔ K (.int (t * (deepV b fs k : Nat))) 0 _ := fun K => callW_of (creep_ok (n := 3) hok b dp hk ht)
      have hdm : deepV b fs k ≤ 64 := hdle _ (by rw [dep_all]; exact List.mem_map_of_mem (List.mem_range.mpr hk))
      have hit : ∀ K, itemW ((depV b fs).map natD) (k : Int) K ↔ K (natD (deepV b fs k)) := fun K => itemW_at (by
        rw [dep_all, List.map_map, List.getElem?_map, List.getElem?_range hk]; rfl)
      have sm := sm (t * (deepV b fs k : Nat)) (hprod _ hdm)
      rw [turn_exW, bindW_nm]
      refine ⟨rfl, ?_⟩
      simp only [List.set_cons_zero, List.set_cons_succ, ek, ↓hcr, ↓low_any1, ↓hit, st, ↓sm, Bool.true_or, ↓exW_skip, ↓exW_seq, ↓exW_setn, ↓exW_setc, ↓exW_setJ, ↓putW_at, ↓putE_L, ↓ixW_0, ↓ixW_1, ↓exW_aug, ↓exW_retv, ↓exW_ex, ↓exW_app, ↓exW_ext, ↓exW_ite, ↓exW_for, ↓exW_whl, ↓exW_ret_op, ↓exW_ret_lit, ↓exW_ret_call, ↓exW_ret_mkt, ↓exW_ret_mkl, ↓exW_ret_ite, ↓exW_ret_and, ↓exW_ret_or, ↓exW_ret_comp, ↓exW_ret_chain, ↓exW_ret_pop, ↓evW_lit, ↓evW_var, ↓evW_nil, ↓evW_cons, ↓evW_op, ↓evW_mkl, ↓evW_mkt, ↓evW_ite, ↓evW_and, ↓evW_or, ↓evW_call, ↓evW_comp, ↓evW_pop, ↓evW_chain, ↓hdQ_1, ↓contF_nx, ↓contF_rt, ↓atE_0, ↓atE_S, ↓borW_nil, ↓borW_vl, ↓borW_vrT, ↓borW_vrF, ↓takW_nil, ↓takW_vl, ↓takW_vr, ↓oneW_vl, ↓oneW_vr, ↓lendW_nil, ↓lendW_vl, ↓lendW_vr, ↓trW_vl, ↓trW_vr, ↓ifB_t, ↓ifB_f, ↓ifB_d, ↓ifB_n, ↓truW_bl, ↓truW_int, ↓truW_lst, ↓truW_tup, ↓truW_non, ↓opK_add, ↓opK_addT, ↓opK_addL, ↓opK_addS, ↓opK_sub, ↓opK_mul, ↓opK_mulT, ↓opK_mulL, ↓opK_fdiv, ↓opK_mod, ↓opK_pow, ↓opK_shl, ↓opK_band, ↓opK_neg, ↓opK_notB, ↓opK_not, ↓opK_lt, ↓opK_le, ↓opK_gt, ↓opK_ge, ↓opK_eq, ↓opK_ne, ↓opK_isN, ↓opK_notN, ↓opK_isB, ↓opK_notB2, ↓opK_lenL, ↓opK_lenT, ↓opK_lenC, ↓opK_lenS, ↓opK_listL, ↓opK_listT, ↓opK_tupL, ↓opK_tupT, ↓opK_int, ↓opK_intB, ↓opK_abs, ↓opK_max2, ↓opK_min2, ↓opK_isT, ↓opK_eqL, ↓opK_neL, ↓opK_eqT, ↓opK_neT, ↓opK_eqS, ↓opK_neS, ↓opK_eqB, ↓opK_neB, ↓opK_sumT, ↓opK_sumL, ↓opK_maxT, ↓opK_maxL, ↓opK_minT, ↓opK_minL, ↓opK_sortT, ↓opK_sortL, ↓opK_sortRT, ↓opK_sortRL, ↓opK_idxL, ↓opK_idxT, ↓opK_idxC, ↓opK_revL, ↓opK_revT, ↓opK_lrg1, ↓opK_lrg2, ↓opK_trg1, ↓opK_trg2, ↓itemW_0, ↓itemW_1, ↓itemW_2, ↓itemW_3, ↓itemsW_L, ↓itemsW_T, ↓itemsW_S, ↓itemsW_r1, ↓itemsW_r2, ↓bindW_nm, ↓bindW_nil, ↓bindW_cons, ↓back_vl, ↓back_vr, ↓back_vrN, ↓back_nil, ↓low_z, ↓low_11, ↓low_1, ↓awayE_z, ↓awayE_1, ↓awayE_2, ↓pairW, ↓intW, ↓exts1, ↓low_2, ↓low_any, ↓low_set, ↓low_len, ↓awayE_s, ↓itemsW_enL, ↓itemsW_enT, ↓itemsW_esL, ↓itemsW_esT, ↓itemsW_zTT, ↓itemsW_zLL, ↓itemsW_zTL, ↓itemsW_zLT, ↓itemsW_zST, ↓itemsW_zSL, ↓itemsW_enS, ↓opK_mulS, ↓opK_imul, ↓opK_idxS, ↓opK_strI, ↓opK_strS, ↓opK_takeS, ↓opK_dropS, ↓opK_initS, ↓opK_inC, ↓opK_niC, keepO, lvOf, lvO_int, lvO_bl, lvO_str, lvO_tup, lvO_lst, lvO_non, isTy, isNon, List.set_cons_zero, List.set_cons_succ, List.length_cons, List.length_nil, getE_cons0, getE_consS, Option.isNone_none, Option.isNone_some, Bool.false_eq_true, if_true, if_false, Bool.not_true, Bool.not_false, Nat.zero_add, Nat.reduceAdd, Nat.reduceLT, Nat.reduceSub, true_and, and_true, Nat.min_zero, Nat.zero_min, Nat.reduceBEq, Bool.and_true, Bool.true_and, decide_true, decide_false, outs_z, outs_S, outs_N, outs_0, Int.reduceLT, Int.reduceLE, Nat.reduceLeDiff, List.isEmpty_cons, List.isEmpty_nil, and_self, isLstAt_0, isLstAt_S, isAtomAt_0, isAtomAt_S, pOf_0, pOf_S, cmpLt, cmpLe, cmpGt, cmpGe]
      exact ⟨_, _, rfl⟩
    clear x6
    rintro r ⟨x6, l, rfl⟩
    obtain ⟨x, xs, hx⟩ : ∃ x xs, depV b fs = x :: xs := by
      cases hx : depV b fs with
      | nil => rw [hx] at hlen; simp at hlen; omega
      | cons x xs => exact ⟨x, xs, rfl⟩
    have hw : ∀ K, callW (callF T 9) 9 [(bookD b fs dp, 0), (.int t, 0)] K ↔ K (.int (t * (xs.map fun i : Nat => (i : Int)).foldl max (x : Int))) 0 _ := fun K => callW_of (widest_ok (n := 2) hok b dp hx ht)
    have hmx : ∀ (l : List Nat) (x : Nat), (∀ y ∈ x :: l, y ≤ 64) → ∃ z : Nat, z ≤ 64 ∧ (l.map fun i : Nat => (i : Int)).foldl max (x : Int) = z := by
      intro l
      induction l with
      | nil => intro x hx; exact ⟨x, hx x (by simp), rfl⟩
      | cons y l ih =>
        intro x hx
        obtain ⟨z, h1, h2⟩ := ih (max x y) (fun w hw => by
          rcases List.mem_cons.mp hw with rfl | hw
          · have := hx x (by simp); have := hx y (by simp); omega
          · exact hx w (by simp [hw]))
        refine ⟨z, h1, ?_⟩
        rw [List.map_cons, List.foldl_cons, ← h2]
        congr 1
        omega
    obtain ⟨z, hz, hez⟩ := hmx xs x (by rw [← hx]; exact hdle)
    have hmm : ∀ K, opK .max1 [.lst ((depV b fs).map natD)] K ↔ K (natD z) := fun K => by
      have : (depV b fs).map natD = ((x : Int) :: xs.map fun i : Nat => (i : Int)).map D.int := by
        rw [hx]; simp [List.map_map, Function.comp_def]
      rw [this, opK_maxL, hez]
    rw [hez] at hw
    have sm := sm (t * (z : Int)) (hprod _ hz)
    simp only [↓hw, ↓low_any1, ↓hmm, st, ↓sm, Bool.true_or, ↓exW_skip, ↓exW_seq, ↓exW_setn, ↓exW_setc, ↓exW_setJ, ↓putW_at, ↓putE_L, ↓ixW_0, ↓ixW_1, ↓exW_aug, ↓exW_retv, ↓exW_ex, ↓exW_app, ↓exW_ext, ↓exW_ite, ↓exW_for, ↓exW_whl, ↓exW_ret_op, ↓exW_ret_lit, ↓exW_ret_call, ↓exW_ret_mkt, ↓exW_ret_mkl, ↓exW_ret_ite, ↓exW_ret_and, ↓exW_ret_or, ↓exW_ret_comp, ↓exW_ret_chain, ↓exW_ret_pop, ↓evW_lit, ↓evW_var, ↓evW_nil, ↓evW_cons, ↓evW_op, ↓evW_mkl, ↓evW_mkt, ↓evW_ite, ↓evW_and, ↓evW_or, ↓evW_call, ↓evW_comp, ↓evW_pop, ↓evW_chain, ↓hdQ_1, ↓contF_nx, ↓contF_rt, ↓atE_0, ↓atE_S, ↓borW_nil, ↓borW_vl, ↓borW_vrT, ↓borW_vrF, ↓takW_nil, ↓takW_vl, ↓takW_vr, ↓oneW_vl, ↓oneW_vr, ↓lendW_nil, ↓lendW_vl, ↓lendW_vr, ↓trW_vl, ↓trW_vr, ↓ifB_t, ↓ifB_f, ↓ifB_d, ↓ifB_n, ↓truW_bl, ↓truW_int, ↓truW_lst, ↓truW_tup, ↓truW_non, ↓opK_add, ↓opK_addT, ↓opK_addL, ↓opK_addS, ↓opK_sub, ↓opK_mul, ↓opK_mulT, ↓opK_mulL, ↓opK_fdiv, ↓opK_mod, ↓opK_pow, ↓opK_shl, ↓opK_band, ↓opK_neg, ↓opK_notB, ↓opK_not, ↓opK_lt, ↓opK_le, ↓opK_gt, ↓opK_ge, ↓opK_eq, ↓opK_ne, ↓opK_isN, ↓opK_notN, ↓opK_isB, ↓opK_notB2, ↓opK_lenL, ↓opK_lenT, ↓opK_lenC, ↓opK_lenS, ↓opK_listL, ↓opK_listT, ↓opK_tupL, ↓opK_tupT, ↓opK_int, ↓opK_intB, ↓opK_abs, ↓opK_max2, ↓opK_min2, ↓opK_isT, ↓opK_eqL, ↓opK_neL, ↓opK_eqT, ↓opK_neT, ↓opK_eqS, ↓opK_neS, ↓opK_eqB, ↓opK_neB, ↓opK_sumT, ↓opK_sumL, ↓opK_maxT, ↓opK_maxL, ↓opK_minT, ↓opK_minL, ↓opK_sortT, ↓opK_sortL, ↓opK_sortRT, ↓opK_sortRL, ↓opK_idxL, ↓opK_idxT, ↓opK_idxC, ↓opK_revL, ↓opK_revT, ↓opK_lrg1, ↓opK_lrg2, ↓opK_trg1, ↓opK_trg2, ↓itemW_0, ↓itemW_1, ↓itemW_2, ↓itemW_3, ↓itemsW_L, ↓itemsW_T, ↓itemsW_S, ↓itemsW_r1, ↓itemsW_r2, ↓bindW_nm, ↓bindW_nil, ↓bindW_cons, ↓back_vl, ↓back_vr, ↓back_vrN, ↓back_nil, ↓low_z, ↓low_11, ↓low_1, ↓awayE_z, ↓awayE_1, ↓awayE_2, ↓pairW, ↓intW, ↓exts1, ↓low_2, ↓low_any, ↓low_set, ↓low_len, ↓awayE_s, ↓itemsW_enL, ↓itemsW_enT, ↓itemsW_esL, ↓itemsW_esT, ↓itemsW_zTT, ↓itemsW_zLL, ↓itemsW_zTL, ↓itemsW_zLT, ↓itemsW_zST, ↓itemsW_zSL, ↓itemsW_enS, ↓opK_mulS, ↓opK_imul, ↓opK_idxS, ↓opK_strI, ↓opK_strS, ↓opK_takeS, ↓opK_dropS, ↓opK_initS, ↓opK_inC, ↓opK_niC, keepO, lvOf, lvO_int, lvO_bl, lvO_str, lvO_tup, lvO_lst, lvO_non, isTy, isNon, List.set_cons_zero, List.set_cons_succ, List.length_cons, List.length_nil, getE_cons0, getE_consS, Option.isNone_none, Option.isNone_some, Bool.false_eq_true, if_true, if_false, Bool.not_true, Bool.not_false, Nat.zero_add, Nat.reduceAdd, Nat.reduceLT, Nat.reduceSub, true_and, and_true, Nat.min_zero, Nat.zero_min, Nat.reduceBEq, Bool.and_true, Bool.true_and, decide_true, decide_false, outs_z, outs_S, outs_N, outs_0, Int.reduceLT, Int.reduceLE, Nat.reduceLeDiff, List.isEmpty_cons, List.isEmpty_nil, and_self, isLstAt_0, isLstAt_S, isAtomAt_0, isAtomAt_S, pOf_0, pOf_S, cmpLt, cmpLe, cmpGt, cmpGe]
    exact ⟨_, _, _, _, _, _, rfl⟩
  obtain ⟨d, l, outs, h1, rfl⟩ := goal
  exact ⟨l, outs, h1⟩
end Bk.K08
open PySem PySem.W PyProof.Rows
set_option maxHeartbeats 0 in
theorem PySem.Challenge.cw_gathersheets_k08_creep_exact_holds : PySem.Challenge.rw_gathersheets_k08_creep_exact.Holds := by
  w_on; o_law; k_head; (case hw => w_witness2)
  k_fill
  refine Bk.walk_bk (l := PySem.Challenge.rw_gathersheets_k08_creep_exact) (n := 63) (kd := 9) (FT := Bk.K08.FT) (GC := Bk.K08.GC) (T := Bk.K08.T) (li := 17) rfl (by decide) rfl ⟨rfl, by decide, by decide⟩ (fun w h Y => PySem.W.kIn_of Y) rfl ?F (Bk.nox_all _) (fun F e => by cases e; rfl) Bk.K08.law_true
  case F =>
    intro w mg h KX G
    refine' Bk.K08.tab KX G ?q_a0 ?q_l0 ?q_c0 ?q_k0 ?q_a1 ?q_l1 ?q_c1 ?q_k1 ?q_a2 ?q_l2 ?q_c2 ?q_k2 ?q_a3 ?q_l3 ?q_c3 ?q_k3 ?q_a4 ?q_l4 ?q_c4 ?q_k4 ?q_a5 ?q_l5 ?q_c5 ?q_k5 ?q_a6 ?q_l6 ?q_c6 ?q_k6 ?q_a7 ?q_l7 ?q_c7 ?q_k7 ?q_a8 ?q_l8 ?q_c8 ?q_k8 ?q_a9 ?q_l9 ?q_c9 ?q_k9 ?q_a10 ?q_l10 ?q_c10 ?q_k10 ?q_a11 ?q_l11 ?q_c11 ?q_k11 ?q_a12 ?q_l12 ?q_c12 ?q_k12 ?q_a13 ?q_l13 ?q_c13 ?q_k13 ?q_a14 ?q_l14 ?q_c14 ?q_k14 ?q_a15 ?q_l15 ?q_c15 ?q_k15 ?q_a16 ?q_l16 ?q_c16 ?q_k16 ?q_a17 ?q_l17 ?q_c17 ?q_k17 ?q_z0 ?q_z1 ?q_z2 ?q_z3 ?q_z4 ?q_z5 ?q_z6 ?q_z7 ?q_z8 ?q_z9 ?q_z10 ?q_z11 ?q_z12 ?q_z13 ?q_z14 ?q_z15 ?q_g0
    (case q_a0 => k_is)
    (case q_l0 => k_is)
    (case q_c0 => k_is)
    (case q_k0 => k_is)
    (case q_a1 => k_is)
    (case q_l1 => k_is)
    (case q_c1 => k_is)
    (case q_k1 => k_is)
    (case q_a2 => k_is)
    (case q_l2 => k_is)
    (case q_c2 => k_is)
    (case q_k2 => k_is)
    (case q_a3 => k_is)
    (case q_l3 => k_is)
    (case q_c3 => k_is)
    (case q_k3 => k_is)
    (case q_a4 => k_is)
    (case q_l4 => k_is)
    (case q_c4 => k_is)
    (case q_k4 => k_is)
    (case q_a5 => k_is)
    (case q_l5 => k_is)
    (case q_c5 => k_is)
    (case q_k5 => k_is)
    (case q_a6 => k_is)
    (case q_l6 => k_is)
    (case q_c6 => k_is)
    (case q_k6 => k_is)
    (case q_a7 => k_is)
    (case q_l7 => k_is)
    (case q_c7 => k_is)
    (case q_k7 => k_is)
    (case q_a8 => k_is)
    (case q_l8 => k_is)
    (case q_c8 => k_is)
    (case q_k8 => k_is)
    (case q_a9 => k_is)
    (case q_l9 => k_is)
    (case q_c9 => k_is)
    (case q_k9 => k_is)
    (case q_a10 => k_is)
    (case q_l10 => k_is)
    (case q_c10 => k_is)
    (case q_k10 => k_is)
    (case q_a11 => k_is)
    (case q_l11 => k_is)
    (case q_c11 => k_is)
    (case q_k11 => k_is)
    (case q_a12 => k_is)
    (case q_l12 => k_is)
    (case q_c12 => k_is)
    (case q_k12 => k_is)
    (case q_a13 => k_is)
    (case q_l13 => k_is)
    (case q_c13 => k_is)
    (case q_k13 => k_is)
    (case q_a14 => k_is)
    (case q_l14 => k_is)
    (case q_c14 => k_is)
    (case q_k14 => k_is)
    (case q_a15 => k_is)
    (case q_l15 => k_is)
    (case q_c15 => k_is)
    (case q_k15 => k_is)
    (case q_a16 => k_is)
    (case q_l16 => k_is)
    (case q_c16 => k_is)
    (case q_k16 => k_is)
    (case q_a17 => k_is)
    (case q_l17 => k_is)
    (case q_c17 => k_is)
    (case q_k17 => k_is)
    (case q_z0 => k_is)
    (case q_z1 => k_is)
    (case q_z2 => k_is)
    (case q_z3 => k_is)
    (case q_z4 => k_is)
    (case q_z5 => k_is)
    (case q_z6 => k_is)
    (case q_z7 => k_is)
    (case q_z8 => k_is)
    (case q_z9 => k_is)
    (case q_z10 => k_is)
    (case q_z11 => k_is)
    (case q_z12 => k_is)
    (case q_z13 => k_is)
    (case q_z14 => k_is)
    (case q_z15 => k_is)
    (case q_g0 => k_is)
