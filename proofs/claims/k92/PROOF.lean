import PyProof.Rows.All
import HandS.ForMost
import HandS.ForExc
import HandS.Deep
import HandS.TupAny
import HandS.Zip
import HandS.DictTup
import HandS.SortInts
import HandS.SortRule
import HandS.SortKw
import HandS.TupSets
import HandS.TupLe
import HandS.Wide
import HandS.Conv
import HandS.Style
import HandS.WordsExc
import HandS.CallSlots
import HandS.Lambda
import HandS.ExcIs
import HandS.ExcValue
import HandS.IsInst
import HandS.TupMul
import HandS.SetFor
import HandS.Strs
import KE.KTupSum
import KE.KRevSl
import KE.SortData
import KE.DataMinMax
import PyProof.AutoSeq1
import KE.GoesMore
import HandS.Small
import HandS.Codes
import HandS.EndTab
import PySem.Challenge.RW_boxballs_k92_texts_that_write_none
set_option Elab.async false
set_option linter.all false
set_option maxRecDepth 100000
set_option maxHeartbeats 4000000
set_option Elab.async false
set_option linter.all false
set_option maxRecDepth 100000
set_option maxHeartbeats 4000000
namespace BX
open PySem PySem.Spec PyProof.Rows L2
abbrev D := PyData
abbrev St := L2.St

/-- what is fixed through a law: the tables of code objects with the names of what is made there; the classes of the exceptions -/
class Tbs where
  T : List (Addr × Str)
  cls : Str → Value
variable [Tbs]
/-- an exception's object -/
def ExT (cls : Value) (a : Addr) : HO := .ext fun h => ∃ (oe : Obj) (vs : Array Value), h.get? a = some oe ∧ Zc cls Option.none oe ∧ oe.data = .fields vs
theorem exT_ok {P : Program} {w : World} {H : Hp} {h : Heap} {a : Addr} {cls : Value} {oe : Obj} {vs : Array Value} (e : h.get? a = some oe) (z : Zc cls none oe) (d : oe.data = .fields vs) : ObjOk P w H h a (ExT cls a) :=
  ⟨⟨oe, vs, e, z, d⟩, ⟨oe, e⟩, fun _ _ ⟨o, v, q, r⟩ k => ⟨o, v, k o q, r⟩⟩
def keyD : Key → D
  | .inl i => .int i
  | .inr x => .str x
/-- an exception as data -/
def excD (c : Str) : D := .dict [(.none, .str c)]
/-! ## data in a frozen heap -/
mutual
inductive Rp (F : Hp) : D → V → Prop
  | non : Rp F .none .non
  | bl (b : Bool) : Rp F (.bool b) (.bl b)
  | int (i : Int) : Rp F (.int i) (.int i)
  | str (x : Str) : Rp F (.str x) (.str x)
  | lst {a : Addr} {vs : List V} {ds : List D} : Rd F a (.lst vs) → Rps F ds vs → Rp F (.list ds) (.ref a)
  | tup {a : Addr} {vs : List V} {ds : List D} : F a = some (.tup vs) → Rps F ds vs → Rp F (.tuple ds) (.ref a)
  | dk {a : Addr} {ks : List (Key × V)} {kvs : List (D × D)} : F a = some (.dK ks) → Rpk F kvs ks → Rp F (.dict kvs) (.ref a)
  | exc {a : Addr} {c : Str} : F a = some (ExT (Tbs.cls c) a) → Rp F (.dict [(.none, .str c)]) (.ref a)
inductive Rps (F : Hp) : List D → List V → Prop
  | nil : Rps F [] []
  | cons {d : D} {v : V} {ds : List D} {vs : List V} : Rp F d v → Rps F ds vs → Rps F (d :: ds) (v :: vs)
inductive Rpk (F : Hp) : List (D × D) → List (Key × V) → Prop
  | nil : Rpk F [] []
  | cons {k : Key} {d : D} {v : V} {ds : List (D × D)} {vs : List (Key × V)} : Rp F d v → Rpk F ds vs → Rpk F ((keyD k, d) :: ds) ((k, v) :: vs)
end

theorem Rd.same {F F' : Hp} {a : Addr} {o : HO} (h : Rd F a o) (s : Same F F') : Rd F' a o := by
  rcases h with h | ⟨u, h⟩
  · exact .inl (s _ _ h)
  · exact .inr ⟨u, s _ _ h⟩
mutual
theorem Rp.mono {F F' : Hp} (s : Same F F') : ∀ {d : D} {v : V}, Rp F d v → Rp F' d v
  | _, _, .non => .non
  | _, _, .bl b => .bl b
  | _, _, .int i => .int i
  | _, _, .str x => .str x
  | _, _, .lst h r => .lst (Rd.same h s) (Rps.mono s r)
  | _, _, .tup h r => .tup (s _ _ h) (Rps.mono s r)
  | _, _, .dk h r => .dk (s _ _ h) (Rpk.mono s r)
  | _, _, .exc h => .exc (s _ _ h)
theorem Rps.mono {F F' : Hp} (s : Same F F') : ∀ {ds : List D} {vs : List V}, Rps F ds vs → Rps F' ds vs
  | _, _, .nil => .nil
  | _, _, .cons h r => .cons (Rp.mono s h) (Rps.mono s r)
theorem Rpk.mono {F F' : Hp} (s : Same F F') : ∀ {ds : List (D × D)} {vs : List (Key × V)}, Rpk F ds vs → Rpk F' ds vs
  | _, _, .nil => .nil
  | _, _, .cons h r => .cons (Rp.mono s h) (Rpk.mono s r)
end
theorem canLayAll_cons {d : D} {ds : List D} (h : PyData.canLayAll0 (d :: ds) = true) : d.canLay0 = true ∧ PyData.canLayAll0 ds = true := by
  rw [PyData.canLayAll0, Bool.and_eq_true] at h
  exact h
mutual
theorem Rp.dp {K : PySem.W.Frag} {F : Hp} : ∀ {d : D} {v : V}, Rp F d v → d.canLay0 = true → Dp K F v d
  | _, _, .non, _ => .non
  | _, _, .bl b, _ => .bl b
  | _, _, .int i, _ => .int i
  | _, _, .str x, _ => .str x
  | _, _, .lst h r, c => .lst (.inl h) (Rps.dp r (by rw [PyData.canLay0] at c; exact c))
  | _, _, .tup h r, c => .tup (.inl (.inl h)) (Rps.dp r (by rw [PyData.canLay0] at c; exact c))
  | _, _, .dk _ _, c => by rw [PyData.canLay0] at c; cases c
  | _, _, .exc _, c => by rw [PyData.canLay0] at c; cases c
theorem Rps.dp {K : PySem.W.Frag} {F : Hp} : ∀ {ds : List D} {vs : List V}, Rps F ds vs → PyData.canLayAll0 ds = true → DpAll K F vs ds
  | _, _, .nil, _ => .nil
  | _, _, .cons h r, c => .cons (Rp.dp h (canLayAll_cons c).1) (Rps.dp r (canLayAll_cons c).2)
end
theorem shaped_lay {d : D} (h : SeqAt.shaped d = true) : d.canLay0 = true := by
  unfold SeqAt.shaped at h
  rw [Bool.and_eq_true] at h
  exact h.1
section
variable {F : Hp}
theorem Rps.length : ∀ {ds : List D} {vs : List V}, Rps F ds vs → vs.length = ds.length
  | _, _, .nil => rfl
  | _, _, .cons _ r => by rw [List.length_cons, List.length_cons, r.length]
theorem Rps.get : ∀ {ds : List D} {vs : List V} {i : Nat} {d : D}, Rps F ds vs → ds[i]? = some d → ∃ v, vs[i]? = some v ∧ Rp F d v
  | _, _, _, _, .nil, e => by simp at e
  | _, _, 0, _, .cons h _, e => by simp at e; subst e; exact ⟨_, rfl, h⟩
  | _, _, i + 1, d, .cons _ r, e => by
    obtain ⟨v, h1, h2⟩ := Rps.get (i := i) (d := d) r (by simpa using e)
    exact ⟨v, by simpa using h1, h2⟩
theorem Rps.append : ∀ {ds es : List D} {vs us : List V}, Rps F ds vs → Rps F es us → Rps F (ds ++ es) (vs ++ us)
  | _, _, _, _, .nil, s => s
  | _, _, _, _, .cons h r, s => .cons h (Rps.append r s)
theorem Rps.take : ∀ {ds : List D} {vs : List V} (n : Nat), Rps F ds vs → Rps F (ds.take n) (vs.take n)
  | _, _, 0, _ => .nil
  | _, _, _ + 1, .nil => .nil
  | _, _, n + 1, .cons h r => .cons h (Rps.take n r)
theorem Rps.drop : ∀ {ds : List D} {vs : List V} (n : Nat), Rps F ds vs → Rps F (ds.drop n) (vs.drop n)
  | _, _, 0, r => r
  | _, _, _ + 1, .nil => .nil
  | _, _, n + 1, .cons _ r => Rps.drop n r
theorem Rps.reverse {ds : List D} {vs : List V} (r : Rps F ds vs) : Rps F ds.reverse vs.reverse := by
  induction ds generalizing vs with
  | nil => cases r; exact .nil
  | cons d ds ih =>
    cases r with
    | cons h r =>
      rw [List.reverse_cons, List.reverse_cons]
      exact (ih r).append (.cons h .nil)
theorem Rps.set : ∀ {ds : List D} {vs : List V} {d : D} {v : V} (i : Nat), Rps F ds vs → Rp F d v → Rps F (ds.set i d) (vs.set i v)
  | _, _, _, _, _, .nil, _ => .nil
  | _, _, _, _, 0, .cons _ r, h => .cons h r
  | _, _, _, _, i + 1, .cons g r, h => .cons g (Rps.set i r h)
theorem Rps.dropLast {ds : List D} {vs : List V} (r : Rps F ds vs) : Rps F ds.dropLast vs.dropLast := by
  rw [List.dropLast_eq_take, List.dropLast_eq_take, r.length]
  exact r.take _
theorem Rps.flatRep {ds : List D} {vs : List V} (r : Rps F ds vs) : ∀ n : Nat, Rps F (List.replicate n ds).flatten (List.replicate n vs).flatten
  | 0 => .nil
  | n + 1 => by
    rw [List.replicate_succ, List.replicate_succ, List.flatten_cons, List.flatten_cons]
    exact r.append (r.flatRep n)
theorem Rps.ints : ∀ (ns : List Int), Rps F (ns.map .int) (ns.map V.int)
  | [] => .nil
  | n :: ns => .cons (.int n) (Rps.ints ns)
theorem Rps.ints_eq : ∀ {ns : List Int} {vs : List V}, Rps F (ns.map .int) vs → vs = ns.map V.int
  | [], _, .nil => rfl
  | n :: ns, _, .cons h r => by cases h; rw [Rps.ints_eq r]; rfl
theorem Rps.strs : ∀ (ns : List Str), Rps F (ns.map .str) (ns.map V.str)
  | [] => .nil
  | n :: ns => .cons (.str n) (Rps.strs ns)
theorem Rps.strs_eq : ∀ {ns : List Str} {vs : List V}, Rps F (ns.map .str) vs → vs = ns.map V.str
  | [], _, .nil => rfl
  | n :: ns, _, .cons h r => by cases h; rw [Rps.strs_eq r]; rfl
theorem Rps.bools_eq : ∀ {ns : List Bool} {vs : List V}, Rps F (ns.map .bool) vs → vs = ns.map V.bl
  | [], _, .nil => rfl
  | n :: ns, _, .cons h r => by cases h; rw [Rps.bools_eq r]; rfl
end
theorem Rps.none {F : Hp} {ds : List D} {vs : List V} {i : Nat} (r : Rps F ds vs) (h : ds[i]? = none) : vs[i]? = none := by
  have := r.length
  have := List.getElem?_eq_none_iff.mp h
  exact List.getElem?_eq_none_iff.mpr (by omega)

/-! ## owned objects, slots, environments -/
inductive O where
  | lst (ds : List D)
  | dK (kvs : List (Key × D))
  | dT (kvs : List (List Key × D))
/-- how a slot owns: freely; a parameter by reference (written, not stored anew, not handed on); lent (read alone) -/
inductive OK where | fre | par | len
  deriving DecidableEq
inductive SV where
  | val (d : D)
  | own (k : OK) (o : O)
abbrev Env := List (Option SV)
inductive RV where
  | val (d : D)
  | own (o : O)
  | bor (i : Nat)
inductive R (α : Type) where
  | ok (a : α) (ρ : Env)
  | exc (c : Str) (ρ : Env)
  | bad
def R.bind {α β : Type} (r : R α) (f : α → Env → R β) : R β :=
  match r with
  | .ok a ρ => f a ρ
  | .exc c ρ => .exc c ρ
  | .bad => .bad
@[simp] theorem R.bind_ok {α β : Type} {a : α} {ρ : Env} {f : α → Env → R β} : (R.ok a ρ).bind f = f a ρ := rfl
@[simp] theorem R.bind_exc {α β : Type} {c : Str} {ρ : Env} {f : α → Env → R β} : (R.exc c ρ : R α).bind f = .exc c ρ := rfl
@[simp] theorem R.bind_bad {α β : Type} {f : α → Env → R β} : (R.bad : R α).bind f = .bad := rfl

/-- pairs of a dict, values frozen -/
inductive KR {κ : Type} (F : Hp) : List (κ × D) → List (κ × V) → Prop
  | nil : KR F [] []
  | cons {k : κ} {d : D} {v : V} {ds : List (κ × D)} {vs : List (κ × V)} : Rp F d v → KR F ds vs → KR F ((k, d) :: ds) ((k, v) :: vs)
theorem KR.mono {κ : Type} {F F' : Hp} (s : Same F F') : ∀ {ds : List (κ × D)} {vs : List (κ × V)}, KR F ds vs → KR F' ds vs
  | _, _, .nil => .nil
  | _, _, .cons h r => .cons (h.mono s) (r.mono s)
theorem KR.length {κ : Type} {F : Hp} : ∀ {ds : List (κ × D)} {vs : List (κ × V)}, KR F ds vs → vs.length = ds.length
  | _, _, .nil => rfl
  | _, _, .cons _ r => by rw [List.length_cons, List.length_cons, r.length]
theorem KR.keys {κ : Type} {F : Hp} : ∀ {ds : List (κ × D)} {vs : List (κ × V)}, KR F ds vs → vs.map (·.1) = ds.map (·.1)
  | _, _, .nil => rfl
  | _, _, .cons _ r => by rw [List.map_cons, List.map_cons, r.keys]

def OkO (F H : Hp) (a : Addr) : O → Prop
  | .lst ds => ∃ vs, H a = some (.lst vs) ∧ Rps F ds vs
  | .dK kvs => ∃ ks, H a = some (.dK ks) ∧ KR F kvs ks
  | .dT kvs => ∃ ks, H a = some (.dT ks) ∧ KR F kvs ks
theorem OkO.some {F H : Hp} {a : Addr} {o : O} (h : OkO F H a o) : ∃ u, H a = some u := by
  cases o with
  | lst ds => obtain ⟨vs, e, _⟩ := h; exact ⟨_, e⟩
  | dK ds => obtain ⟨vs, e, _⟩ := h; exact ⟨_, e⟩
  | dT ds => obtain ⟨vs, e, _⟩ := h; exact ⟨_, e⟩
theorem OkO.move {F H F' H' : Hp} {a : Addr} {o : O} (h : OkO F H a o) (s : Same F F') (k : H' a = H a) : OkO F' H' a o := by
  cases o with
  | lst ds => obtain ⟨vs, e, r⟩ := h; exact ⟨vs, by rw [k]; exact e, r.mono s⟩
  | dK ds => obtain ⟨vs, e, r⟩ := h; exact ⟨vs, by rw [k]; exact e, r.mono s⟩
  | dT ds => obtain ⟨vs, e, r⟩ := h; exact ⟨vs, by rw [k]; exact e, r.mono s⟩

/-- all stays but the tables -/
def SameN (H H' : Hp) : Prop := LamX.ExtN H H'
theorem _root_.L2.Same.n {H H' : Hp} (s : Same H H') : SameN H H' := fun b o h _ => s b o h
def Tb (H : Hp) : Prop := LamX.Tabs Tbs.T H
theorem Tb.same {H H' : Hp} (t : Tb H) (s : Same H H') : Tb H' := LamX.Tabs.ext t s
/-- frozen: a part of the whole, without tables -/
structure Sb (F H : Hp) : Prop where
  same : Same F H
  nt : ∀ a ps, F a ≠ some (.tbl ps)
  tab : Tb H
theorem Sb.free {F H : Hp} (s : Sb F H) {l : Addr} (h : H l = none) : F l = none := s.same.free h
theorem Sb.transN {F H H' : Hp} (s : Sb F H) (n : SameN H H') (t : Tb H') : Sb F H' := ⟨fun a o e => n a o (s.same a o e) (fun ps z => s.nt a ps (z ▸ e)), s.nt, t⟩
theorem Sb.trans {F H H' : Hp} (s : Sb F H) (n : Same H H') : Sb F H' := s.transN n.n (s.tab.same n)
theorem Sb.upd {F H : Hp} (s : Sb F H) {a : Addr} {o : HO} (h : H a = some o) (n : ∀ ps, o ≠ .tbl ps) : Sb (upd F a o) H := by
  refine ⟨fun b u e => ?_, fun b ps e => ?_, s.tab⟩
  · by_cases hb : b = a
    · subst hb
      rw [upd_same] at e
      rw [h]; exact e
    · rw [upd_ne hb] at e
      exact s.same _ _ e
  · by_cases hb : b = a
    · subst hb
      rw [upd_same] at e
      exact n ps (Option.some.inj e)
    · rw [upd_ne hb] at e
      exact s.nt _ _ e
/-- what is no table and no code object may change -/
def Plain (o : HO) : Prop := (∀ ps, o ≠ .tbl ps) ∧ ∀ c q, o ≠ LamX.CodeO c q
theorem Tb.upd {H : Hp} (t : Tb H) {a : Addr} {o u : HO} (h : H a = some o) (n : Plain o) : Tb (upd H a u) := fun p hp => by
  obtain ⟨ps, h1, h2, h3⟩ := t p hp
  have n1 : p.1 ≠ a := fun z => n.1 ps (by rw [z, h] at h1; exact Option.some.inj h1)
  refine ⟨ps, by rw [upd_ne n1]; exact h1, h2, fun pos cv hc => ?_⟩
  obtain ⟨c, e1, e2⟩ := h3 pos cv hc
  have n2 : c ≠ a := fun z => n.2 c p.2 (by rw [z, h] at e2; rw [z]; exact Option.some.inj e2)
  exact ⟨c, e1, by rw [upd_ne n2]; exact e2⟩
theorem plain_lst {xs : List V} : Plain (.lst xs) := ⟨(fun ps z => by cases z), (fun c q z => by unfold LamX.CodeO at z; cases z)⟩
theorem plain_dK {xs : List (Key × V)} : Plain (.dK xs) := ⟨(fun ps z => by cases z), (fun c q z => by unfold LamX.CodeO at z; cases z)⟩
theorem plain_dT {xs : List (List Key × V)} : Plain (.dT xs) := ⟨(fun ps z => by cases z), (fun c q z => by unfold LamX.CodeO at z; cases z)⟩
theorem OkO.plain {F H : Hp} {a : Addr} {o : O} (h : OkO F H a o) : ∃ u, H a = Option.some u ∧ Plain u := by
  cases o with
  | lst ds => obtain ⟨vs, e, _⟩ := h; exact ⟨_, e, plain_lst⟩
  | dK ds => obtain ⟨vs, e, _⟩ := h; exact ⟨_, e, plain_dK⟩
  | dT ds => obtain ⟨vs, e, _⟩ := h; exact ⟨_, e, plain_dT⟩

structure SR (F H : Hp) (σ : St) (ρ : Env) : Prop where
  sub : Sb F H
  len : σ.length = ρ.length
  val : ∀ (i : Nat) (d : D), ρ[i]? = some (some (.val d)) → ∃ v, σ[i]? = some (some v) ∧ Rp F d v
  own : ∀ (i : Nat) (k : OK) (o : O), ρ[i]? = some (some (.own k o)) → ∃ a, σ[i]? = some (some (.ref a)) ∧ F a = none ∧ OkO F H a o
  inj : ∀ (i j : Nat) (k l : OK) (o u : O) (a : Addr), ρ[i]? = some (some (.own k o)) → ρ[j]? = some (some (.own l u)) → σ[i]? = some (some (.ref a)) → σ[j]? = some (some (.ref a)) → i = j

/-- addresses that may be written: those of slots that own and are not lent -/
def ownA (σ : St) (ρ : Env) (a : Addr) : Prop := ∃ (i : Nat) (k : OK) (o : O), ρ[i]? = some (some (.own k o)) ∧ k ≠ .len ∧ σ[i]? = some (some (.ref a))

/-- nothing of ours stands at a: nothing is tracked there but a table, perhaps -/
def Fr (H : Hp) (a : Addr) : Prop := ∀ u, H a = some u → ∃ ps, u = .tbl ps
theorem Fr.non {H : Hp} {a : Addr} (h : H a = Option.none) : Fr H a := fun u e => by rw [h] at e; cases e
theorem Fr.no {H : Hp} {a : Addr} {u : HO} (f : Fr H a) (h : H a = some u) (p : Plain u) : False := by
  obtain ⟨ps, z⟩ := f u h
  exact p.1 ps z
theorem Fr.ne {H : Hp} {a : Addr} {u : HO} (f : Fr H a) (h : H a = some u) (p : ∀ ps, u ≠ .tbl ps) : False := by
  obtain ⟨ps, z⟩ := f u h
  exact p ps z
structure Ext (T : Addr → Prop) (F H F' H' : Hp) : Prop where
  f : Same F F'
  keep : ∀ a o, H a = some o → ¬ T a → (∀ ps, o ≠ .tbl ps) → H' a = some o
  priv : ∀ a o, H a = some o → F a = none → ¬ T a → (∀ ps, o ≠ .tbl ps) → F' a = none
  dom : ∀ a o, H a = some o → (∀ ps, o ≠ .tbl ps) → ∃ o', H' a = some o' ∧ ∀ ps, o' ≠ .tbl ps
theorem Ext.refl (T : Addr → Prop) (F H : Hp) : Ext T F H F H := ⟨.refl F, fun _ _ h _ _ => h, fun _ _ _ h _ _ => h, fun _ o h n => ⟨o, h, n⟩⟩
theorem Ext.back {T : Addr → Prop} {F H F' H' : Hp} (e : Ext T F H F' H') {a : Addr} (h : Fr H' a) : Fr H a := fun o q => by
  by_cases z : ∃ ps, o = .tbl ps
  · exact z
  · obtain ⟨o', h1, h2⟩ := e.dom a o q fun ps y => z ⟨ps, y⟩
    exact (h.ne h1 h2).elim
theorem Ext.trans {T T2 : Addr → Prop} {F H F1 H1 F2 H2 : Hp} (e1 : Ext T F H F1 H1) (e2 : Ext T2 F1 H1 F2 H2) (h : ∀ a, T2 a → T a ∨ Fr H a) : Ext T F H F2 H2 := by
  have hn : ∀ a o, H a = some o → ¬ T a → (∀ ps, o ≠ .tbl ps) → ¬ T2 a := fun a o e n nt t => by
    rcases h a t with z | z
    · exact n z
    · exact z.ne e nt
  refine ⟨e1.f.trans e2.f, fun a o e n tn => e2.keep a o (e1.keep a o e n tn) (hn a o e n tn) tn, fun a o e n t tn => ?_, fun a o e tn => ?_⟩
  rotate_left
  · obtain ⟨u, h1, h2⟩ := e1.dom a o e tn
    exact e2.dom a u h1 h2
  obtain ⟨u, h1, h2⟩ := e1.dom a o e tn
  exact e2.priv a u h1 (e1.priv a o e n t tn) (hn a o e t tn) h2
theorem Ext.imp {T T' : Addr → Prop} {F H F' H' : Hp} (e : Ext T F H F' H') (h : ∀ a, T a → T' a ∨ Fr H a) : Ext T' F H F' H' :=
  Ext.trans (.refl T' F H) e h
theorem Ext.keepO {T : Addr → Prop} {F H F' H' : Hp} (e : Ext T F H F' H') {a : Addr} {o : O} (h : OkO F H a o) (n : ¬ T a) : H' a = H a := by
  obtain ⟨u, h1, h2⟩ := h.plain
  rw [h1, e.keep a u h1 n h2.1]
theorem Ext.privO {T : Addr → Prop} {F H F' H' : Hp} (e : Ext T F H F' H') {a : Addr} {o : O} (h : OkO F H a o) (n : ¬ T a) (f : F a = none) : F' a = none := by
  obtain ⟨u, h1, h2⟩ := h.plain
  exact e.priv a u h1 f n h2.1

/-- an expression does not make a slot own, nor lend; what is lent or a parameter stays so -/
structure Mono (ρ ρ' : Env) : Prop where
  back : ∀ (i : Nat) (k : OK) (o' : O), ρ'[i]? = some (some (.own k o')) → ∃ o, ρ[i]? = some (some (.own k o))
  fix : ∀ (i : Nat) (k : OK) (o : O), ρ[i]? = some (some (.own k o)) → k ≠ .fre → ∃ o', ρ'[i]? = some (some (.own k o')) ∧ (k = .len → o' = o)
theorem Mono.refl (ρ : Env) : Mono ρ ρ := ⟨fun _ _ o h => ⟨o, h⟩, fun _ _ o h _ => ⟨o, h, fun _ => rfl⟩⟩
theorem Mono.trans {ρ ρ1 ρ2 : Env} (a : Mono ρ ρ1) (b : Mono ρ1 ρ2) : Mono ρ ρ2 := by
  refine ⟨fun i k o h => ?_, fun i k o h n => ?_⟩
  · obtain ⟨u, h1⟩ := b.back i k o h
    exact a.back i k u h1
  · obtain ⟨o1, h1, e1⟩ := a.fix i k o h n
    obtain ⟨o2, h2, e2⟩ := b.fix i k o1 h1 n
    exact ⟨o2, h2, fun z => (e2 z).trans (e1 z)⟩
theorem Mono.own {ρ ρ' : Env} (m : Mono ρ ρ') {σ : St} {a : Addr} (h : ownA σ ρ' a) : ownA σ ρ a := by
  obtain ⟨i, k, o, h1, h2, h3⟩ := h
  obtain ⟨u, h4⟩ := m.back i k o h1
  exact ⟨i, k, u, h4, h2, h3⟩

/-- what a result stands for; H: the heap ahead -/
def VR (H F' H' : Hp) (σ : St) (v : V) : RV → Prop
  | .val d => Rp F' d v
  | .own o => ∃ a, v = .ref a ∧ Fr H a ∧ F' a = none ∧ OkO F' H' a o
  | .bor i => σ[i]? = some (some v)

structure PostE (F H : Hp) (σ : St) (ρ : Env) (F' H' : Hp) (ρ' : Env) : Prop where
  sr : SR F' H' σ ρ'
  ext : Ext (ownA σ ρ) F H F' H'
  mono : Mono ρ ρ'
theorem PostE.refl {F H : Hp} {σ : St} {ρ : Env} (h : SR F H σ ρ) : PostE F H σ ρ F H ρ := ⟨h, .refl _ _ _, .refl _⟩
theorem PostE.trans {F H F1 H1 F2 H2 : Hp} {σ : St} {ρ ρ1 ρ2 : Env} (a : PostE F H σ ρ F1 H1 ρ1) (b : PostE F1 H1 σ ρ1 F2 H2 ρ2) : PostE F H σ ρ F2 H2 ρ2 :=
  ⟨b.sr, a.ext.trans b.ext fun _ h => .inl (a.mono.own h), a.mono.trans b.mono⟩
/-- a fresh address is no slot's -/
theorem SR.ownSome {F H : Hp} {σ : St} {ρ : Env} (h : SR F H σ ρ) {a : Addr} (o : ownA σ ρ a) : ∃ u, H a = some u := by
  obtain ⟨i, k, o, h1, _, h3⟩ := o
  obtain ⟨b, e, _, x⟩ := h.own i k o h1
  rw [h3] at e
  cases e
  exact x.some
theorem SR.ownPlain {F H : Hp} {σ : St} {ρ : Env} (h : SR F H σ ρ) {a : Addr} (o : ownA σ ρ a) : ∃ u, H a = some u ∧ Plain u := by
  obtain ⟨i, k, o, h1, _, h3⟩ := o
  obtain ⟨b, e, _, x⟩ := h.own i k o h1
  rw [h3] at e
  cases e
  exact x.plain
theorem VR.later {F H F1 H1 F2 H2 : Hp} {σ : St} {ρ ρ1 ρ2 : Env} {v : V} {r : RV} (s : SR F H σ ρ) (a : PostE F H σ ρ F1 H1 ρ1) (b : PostE F1 H1 σ ρ1 F2 H2 ρ2) (h : VR H F1 H1 σ v r) : VR H F2 H2 σ v r := by
  cases r with
  | val d => exact Rp.mono b.ext.f h
  | bor i => exact h
  | own o =>
    obtain ⟨x, e, n, f, k⟩ := h
    have nt : ¬ ownA σ ρ1 x := fun t => by
      obtain ⟨u, z, pl⟩ := s.ownPlain (a.mono.own t)
      exact n.no z pl
    exact ⟨x, e, n, b.ext.privO k nt f, k.move b.ext.f (b.ext.keepO k nt)⟩
end BX

set_option Elab.async false
set_option linter.all false
set_option maxRecDepth 100000
set_option maxHeartbeats 4000000
namespace BX
open PySem PySem.Spec PyProof.Rows L2
variable [Tbs]

/-! ## readings -/
abbrev XW := Str → St → Hp → Prop
def tD (Wx : XW) (ev : Env → R RV) : TE := fun σ H Q => ∃ F ρ, SR F H σ ρ ∧
  match ev ρ with
  | .ok r ρ' => ∀ F' H' v, PostE F H σ ρ F' H' ρ' → VR H F' H' σ v r → Q v H'
  | .exc c ρ' => ∀ F' H', PostE F H σ ρ F' H' ρ' → Wx c σ H'
  | .bad => False
def tTs (Wx : XW) (ev : Env → R Bool) : TT := fun σ H Q => ∃ F ρ, SR F H σ ρ ∧
  match ev ρ with
  | .ok b ρ' => ∀ F' H', PostE F H σ ρ F' H' ρ' → Q b H'
  | .exc c ρ' => ∀ F' H', PostE F H σ ρ F' H' ρ' → Wx c σ H'
  | .bad => False
inductive VRs (H F' H' : Hp) (σ : St) : List V → List RV → Prop
  | nil : VRs H F' H' σ [] []
  | cons {v : V} {r : RV} {vs : List V} {rs : List RV} : VR H F' H' σ v r → VRs H F' H' σ vs rs → VRs H F' H' σ (v :: vs) (r :: rs)
def tAr (Wx : XW) (ev : Env → R (List RV)) : TA := fun σ H Q => ∃ F ρ, SR F H σ ρ ∧
  match ev ρ with
  | .ok rs ρ' => ∀ F' H' vs, PostE F H σ ρ F' H' ρ' → VRs H F' H' σ vs rs → Q vs H'
  | .exc c ρ' => ∀ F' H', PostE F H σ ρ F' H' ρ' → Wx c σ H'
  | .bad => False
theorem PE.imp {X : Cx} {e : Expr} {t t' : TE} (h : PE X e t) (i : ∀ σ H Q, t' σ H Q → t σ H Q) : PE X e t' := ⟨fun pins s σ H Q I q => h.run pins s σ H Q I (i σ H Q q)⟩
theorem PT.imp {X : Cx} {e : Expr} {t t' : TT} (h : PT X e t) (i : ∀ σ H Q, t' σ H Q → t σ H Q) : PT X e t' := ⟨fun pins s σ H Q I q => h.run pins s σ H Q I (i σ H Q q)⟩
theorem PW.imp {X : Cx} {e : Expr} {t t' : TT} (h : PW X e t) (i : ∀ σ H Q, t' σ H Q → t σ H Q) : PW X e t' := ⟨fun wh pins s σ H Q I q => h.run wh pins s σ H Q I (i σ H Q q)⟩
theorem PA.imp {X : Cx} {e : List Expr} {t t' : TA} (h : PA X e t) (i : ∀ σ H Q, t' σ H Q → t σ H Q) : PA X e t' := ⟨fun pos pins s σ H Q I q => h.run pos pins s σ H Q I (i σ H Q q)⟩
theorem PS.imp {X : Cx} {e : Stmt} {t t' : TS} (h : PS X e t) (i : ∀ D σ H, t' D σ H → t D σ H) : PS X e t' := ⟨fun pins s σ H D I q => h.run pins s σ H D I (i D σ H q)⟩
theorem PSs.imp {X : Cx} {e : List Stmt} {t t' : TS} (h : PSs X e t) (i : ∀ D σ H, t' D σ H → t D σ H) : PSs X e t' := ⟨fun pins s σ H D I q => h.run pins s σ H D I (i D σ H q)⟩

theorem VR.from {H H1 F' H' : Hp} {σ : St} {v : V} {r : RV} (b : ∀ a, Fr H1 a → Fr H a) (h : VR H1 F' H' σ v r) : VR H F' H' σ v r := by
  cases r with
  | val d => exact h
  | bor i => exact h
  | own o => obtain ⟨a, e, n, f, k⟩ := h; exact ⟨a, e, b a n, f, k⟩
theorem VRs.from {H H1 F' H' : Hp} {σ : St} (b : ∀ a, Fr H1 a → Fr H a) : ∀ {vs : List V} {rs : List RV}, VRs H1 F' H' σ vs rs → VRs H F' H' σ vs rs
  | _, _, .nil => .nil
  | _, _, .cons h r => .cons (h.from b) (VRs.from b r)

/-! ## what an operation sees -/
inductive Vw where
  | d (d : D)
  | k (kvs : List (Key × D))
  | t (kvs : List (List Key × D))
def O.vw : O → Vw
  | .lst ds => .d (.list ds)
  | .dK kvs => .k kvs
  | .dT kvs => .t kvs
def viewRV (ρ : Env) : RV → Option Vw
  | .val d => some (.d d)
  | .own o => some o.vw
  | .bor i => match ρ[i]? with
    | some (some (.val d)) => some (.d d)
    | some (some (.own _ o)) => some o.vw
    | _ => none
def viewRVs (ρ : Env) : List RV → Option (List Vw)
  | [] => some []
  | r :: rs => match viewRV ρ r, viewRVs ρ rs with
    | some v, some vs => some (v :: vs)
    | _, _ => none
def VwR (F H : Hp) (v : V) : Vw → Prop
  | .d (.list ds) => ∃ a vs, v = .ref a ∧ Rd H a (.lst vs) ∧ Rps F ds vs
  | .d d => Rp F d v
  | .k kvs => ∃ a ks, v = .ref a ∧ H a = some (.dK ks) ∧ KR F kvs ks
  | .t kvs => ∃ a ks, v = .ref a ∧ H a = some (.dT ks) ∧ KR F kvs ks
inductive VwRs (F H : Hp) : List V → List Vw → Prop
  | nil : VwRs F H [] []
  | cons {v : V} {w : Vw} {vs : List V} {ws : List Vw} : VwR F H v w → VwRs F H vs ws → VwRs F H (v :: vs) (w :: ws)
theorem VwR.of {F H : Hp} {v : V} {d : D} (s : Same F H) (h : Rp F d v) : VwR F H v (.d d) := by
  cases h with
  | dk h r => exact .dk h r
  | exc h => exact .exc h
  | lst h r => exact ⟨_, _, rfl, Rd.same h s, r⟩
  | tup h r => exact .tup h r
  | non => exact .non
  | bl b => exact .bl b
  | int i => exact .int i
  | str x => exact .str x
theorem VwR.whole {F H : Hp} {v : V} {d : D} (s : Same F H) (h : VwR F H v (.d d)) : Rp H d v := by
  cases d with
  | list ds => obtain ⟨a, vs, rfl, h, r⟩ := h; exact .lst h (r.mono s)
  | tuple ds => exact Rp.mono s h
  | none => exact Rp.mono s h
  | bool b => exact Rp.mono s h
  | int i => exact Rp.mono s h
  | str x => exact Rp.mono s h
  | dict kvs => exact Rp.mono s h
theorem VwR.ofO {F H : Hp} {a : Addr} {o : O} (h : OkO F H a o) : VwR F H (.ref a) o.vw := by
  cases o with
  | lst ds => obtain ⟨vs, e, r⟩ := h; exact ⟨a, vs, rfl, .inl e, r⟩
  | dK ds => obtain ⟨vs, e, r⟩ := h; exact ⟨a, vs, rfl, e, r⟩
  | dT ds => obtain ⟨vs, e, r⟩ := h; exact ⟨a, vs, rfl, e, r⟩
theorem view_ok {H F' H' : Hp} {σ : St} {ρ' : Env} {v : V} {r : RV} {w : Vw} (s : SR F' H' σ ρ') (h : VR H F' H' σ v r) (e : viewRV ρ' r = some w) : VwR F' H' v w := by
  cases r with
  | val d => cases e; exact .of s.sub.same h
  | own o => obtain ⟨a, rfl, _, _, k⟩ := h; cases e; exact .ofO k
  | bor i =>
    have hs : σ[i]? = some (some v) := h
    cases q : ρ'[i]? with
    | none => simp [viewRV, q] at e
    | some x =>
      cases x with
      | none => simp [viewRV, q] at e
      | some x =>
        cases x with
        | val d =>
          simp [viewRV, q] at e
          subst e
          obtain ⟨u, h1, h2⟩ := s.val i d q
          rw [hs] at h1; cases h1
          exact .of s.sub.same h2
        | own k o =>
          simp [viewRV, q] at e
          subst e
          obtain ⟨a, h1, _, h2⟩ := s.own i k o q
          rw [hs] at h1; cases h1
          exact .ofO h2
theorem views_ok {H F' H' : Hp} {σ : St} {ρ' : Env} (s : SR F' H' σ ρ') : ∀ {vs : List V} {rs : List RV} {ws : List Vw}, VRs H F' H' σ vs rs → viewRVs ρ' rs = some ws → VwRs F' H' vs ws
  | _, _, _, .nil, e => by cases e; exact .nil
  | _, _, _, .cons h r, e => by
    unfold viewRVs at e
    split at e
    · rename_i w ws e1 e2
      cases e
      exact .cons (view_ok s h e1) (views_ok s r e2)
    · cases e

/-! ## a new result -/
def NewR (F H H' : Hp) (v : V) (r : RV) : Prop := Same H H' ∧
  match r with
  | .val d => ∃ F', Same F F' ∧ Sb F' H' ∧ (∀ a o, H a = some o → F a = none → F' a = none) ∧ Rp F' d v
  | .own o => ∃ a, v = .ref a ∧ Fr H a ∧ F a = none ∧ OkO F H' a o
  | .bor _ => False
theorem NewR.old {F H : Hp} {v : V} {d : D} (s : Sb F H) (h : Rp F d v) : NewR F H H v (.val d) := ⟨.refl H, F, .refl F, s, fun _ _ _ h => h, h⟩
theorem same_upd {H : Hp} {p : Addr} {o : HO} (h : H p = none) : Same H (upd H p o) := fun b x e => by
  rw [upd_ne (ne_of_none e h)]
  exact e
theorem same_upd2 {F H : Hp} (s : Same F H) {p : Addr} {o : HO} : Same (upd F p o) (upd H p o) := fun b u e => by
  by_cases hb : b = p
  · subst hb
    rw [upd_same] at e ⊢
    exact e
  · rw [upd_ne hb] at e ⊢
    exact s _ _ e
theorem NewR.tup {F H : Hp} {p : Addr} {vs : List V} {ds : List D} (s : Sb F H) (n : H p = none) (r : Rps F ds vs) : NewR F H (upd H p (.tup vs)) (.ref p) (.val (.tuple ds)) := by
  have nF := s.free n
  exact ⟨same_upd n, upd F p (.tup vs), same_upd nF, (s.trans (same_upd n)).upd upd_same (fun ps z => by cases z), fun a o e h => by rw [upd_ne (ne_of_none e n)]; exact h, .tup upd_same (r.mono (same_upd nF))⟩
theorem NewR.lst {F H : Hp} {p : Addr} {vs : List V} {ds : List D} (s : Sb F H) (n : H p = none) (r : Rps F ds vs) : NewR F H (upd H p (.lst vs)) (.ref p) (.own (.lst ds)) :=
  ⟨same_upd n, p, rfl, .non n, s.free n, vs, upd_same, r⟩
theorem SR.grow {F H F' H' : Hp} {σ : St} {ρ : Env} (s : SR F H σ ρ) (f : Same F F') (g : Sb F' H') (h : Same H H') (p : ∀ a o, H a = some o → F a = none → F' a = none) : SR F' H' σ ρ := by
  refine ⟨g, s.len, fun i d e => ?_, fun i k o e => ?_, s.inj⟩
  · obtain ⟨v, h1, h2⟩ := s.val i d e
    exact ⟨v, h1, h2.mono f⟩
  · obtain ⟨a, h1, h2, h3⟩ := s.own i k o e
    obtain ⟨u, z⟩ := h3.some
    exact ⟨a, h1, p a u z h2, h3.move f (by rw [h a u z, z])⟩
theorem NewR.post {F H H' : Hp} {σ : St} {ρ : Env} {v : V} {r : RV} (s : SR F H σ ρ) (h : NewR F H H' v r) : ∃ F', PostE F H σ ρ F' H' ρ ∧ VR H F' H' σ v r := by
  obtain ⟨hh, h⟩ := h
  cases r with
  | val d =>
    obtain ⟨F', f, g, p, x⟩ := h
    exact ⟨F', ⟨s.grow f g hh p, ⟨f, fun a o e _ _ => hh a o e, fun a o e n _ _ => p a o e n, fun a o e n => ⟨o, hh a o e, n⟩⟩, .refl ρ⟩, x⟩
  | own o =>
    obtain ⟨a, rfl, n, nf, x⟩ := h
    exact ⟨F, ⟨s.grow (.refl F) (s.sub.trans hh) hh fun _ _ _ h => h, ⟨.refl F, fun a o e _ _ => hh a o e, fun a o e n _ _ => n, fun a o e n => ⟨o, hh a o e, n⟩⟩, .refl ρ⟩, a, rfl, n, nf, x⟩
  | bor i => exact h.elim

/-! ## operations on values -/
def ap1 (b : Vw → Option RV) (u : RV) (ρ : Env) : R RV := match viewRV ρ u with
  | some x => match b x with
    | some r => .ok r ρ
    | none => .bad
  | _ => .bad
def ap2 (b : Vw → Vw → Option RV) (u w : RV) (ρ : Env) : R RV := match viewRV ρ u, viewRV ρ w with
  | some x, some y => match b x y with
    | some r => .ok r ρ
    | none => .bad
  | _, _ => .bad
def apN (b : List Vw → Option RV) (us : List RV) (ρ : Env) : R RV := match viewRVs ρ us with
  | some x => match b x with
    | some r => .ok r ρ
    | none => .bad
  | _ => .bad
def Ok1 (b : Vw → Option RV) (r : V → Hp → VK → Prop) : Prop := ∀ F H x vx res (Q : VK), Sb F H → VwR F H x vx → b vx = some res → (∀ v H', NewR F H H' v res → Q v H') → r x H Q
def Ok2 (b : Vw → Vw → Option RV) (r : R2) : Prop := ∀ F H x y vx vy res (Q : VK), Sb F H → VwR F H x vx → VwR F H y vy → b vx vy = some res → (∀ v H', NewR F H H' v res → Q v H') → r x y H Q
def OkN (b : List Vw → Option RV) (r : List V → Hp → VK → Prop) : Prop := ∀ F H xs ws res (Q : VK), Sb F H → VwRs F H xs ws → b ws = some res → (∀ v H', NewR F H H' v res → Q v H') → r xs H Q

section
variable {Wx : XW} {f g : Env → R RV} {fs : Env → R (List RV)} {σ : St} {H : Hp} {Q : VK}
/-- the end of an operation over one value -/
theorem fin1 {b : Vw → Option RV} {r : V → Hp → VK → Prop} (ok : Ok1 b r) (h : tD Wx (fun ρ => (f ρ).bind fun u ρ1 => ap1 b u ρ1) σ H Q) : tD Wx f σ H fun x H1 => r x H1 Q := by
  obtain ⟨F, ρ, s, h⟩ := h
  refine ⟨F, ρ, s, ?_⟩
  cases hf : f ρ with
  | bad => simp only [hf, R.bind_bad] at h
  | exc c ρ1 => simp only [hf, R.bind_exc] at h; exact h
  | ok u ρ1 =>
    simp only [hf, R.bind_ok] at h
    intro F1 H1 x p1 v1
    cases hw : viewRV ρ1 u with
    | none => simp only [ap1, hw] at h
    | some w =>
      cases hr : b w with
      | none => simp only [ap1, hw, hr] at h
      | some res =>
        simp only [ap1, hw, hr] at h
        refine ok F1 H1 x w res Q p1.sr.sub (view_ok p1.sr v1 hw) hr fun v H2 n => ?_
        obtain ⟨F2, p2, r2⟩ := n.post p1.sr
        exact h F2 H2 v (p1.trans p2) (r2.from fun a z => p1.ext.back z)
theorem fin2 {b : Vw → Vw → Option RV} {r : R2} (ok : Ok2 b r) (h : tD Wx (fun ρ => (f ρ).bind fun u ρ1 => (g ρ1).bind fun w ρ2 => ap2 b u w ρ2) σ H Q) : tD Wx f σ H fun x H1 => tD Wx g σ H1 fun y H2 => r x y H2 Q := by
  obtain ⟨F, ρ, s, h⟩ := h
  refine ⟨F, ρ, s, ?_⟩
  cases hf : f ρ with
  | bad => simp only [hf, R.bind_bad] at h
  | exc c ρ1 => simp only [hf, R.bind_exc] at h; exact h
  | ok u ρ1 =>
    simp only [hf, R.bind_ok] at h
    intro F1 H1 x p1 v1
    refine ⟨F1, ρ1, p1.sr, ?_⟩
    cases hg : g ρ1 with
    | bad => simp only [hg, R.bind_bad] at h
    | exc c ρ2 => simp only [hg, R.bind_exc] at h; exact fun F2 H2 p2 => h F2 H2 (p1.trans p2)
    | ok w ρ2 =>
      simp only [hg, R.bind_ok] at h
      intro F2 H2 y p2 v2
      cases hx : viewRV ρ2 u with
      | none => simp only [ap2, hx] at h
      | some vx =>
        cases hy : viewRV ρ2 w with
        | none => simp only [ap2, hx, hy] at h
        | some vy =>
          cases hr : b vx vy with
          | none => simp only [ap2, hx, hy, hr] at h
          | some res =>
            simp only [ap2, hx, hy, hr] at h
            refine ok F2 H2 x y vx vy res Q p2.sr.sub (view_ok p2.sr (v1.later s p1 p2) hx) (view_ok p2.sr v2 hy) hr fun v H3 n => ?_
            obtain ⟨F3, p3, r3⟩ := n.post p2.sr
            exact h F3 H3 v (p1.trans (p2.trans p3)) (r3.from fun a z => p1.ext.back (p2.ext.back z))
theorem finN {b : List Vw → Option RV} {r : List V → Hp → VK → Prop} (ok : OkN b r) (h : tD Wx (fun ρ => (fs ρ).bind fun u ρ1 => apN b u ρ1) σ H Q) : tAr Wx fs σ H fun xs H1 => r xs H1 Q := by
  obtain ⟨F, ρ, s, h⟩ := h
  refine ⟨F, ρ, s, ?_⟩
  cases hf : fs ρ with
  | bad => simp only [hf, R.bind_bad] at h
  | exc c ρ1 => simp only [hf, R.bind_exc] at h; exact h
  | ok u ρ1 =>
    simp only [hf, R.bind_ok] at h
    intro F1 H1 x p1 v1
    cases hw : viewRVs ρ1 u with
    | none => simp only [apN, hw] at h
    | some w =>
      cases hr : b w with
      | none => simp only [apN, hw, hr] at h
      | some res =>
        simp only [apN, hw, hr] at h
        refine ok F1 H1 x w res Q p1.sr.sub (views_ok p1.sr v1 hw) hr fun v H2 n => ?_
        obtain ⟨F2, p2, r2⟩ := n.post p1.sr
        exact h F2 H2 v (p1.trans p2) (r2.from fun a z => p1.ext.back z)
end

section
variable {X : Cx} {Wx : XW} {a b e : Expr} {es : List Expr} {f g : Env → R RV} {fs : Env → R (List RV)} {pos : Pos}
theorem DE_bin {op : Operator} {bo : Vw → Vw → Option RV} {r : R2} (ho : OpR X (binaryOp op) r) (ok : Ok2 bo r) (ha : PE X a (tD Wx f)) (hb : PE X b (tD Wx g)) : PE X (.BinOp a op b pos) (tD Wx fun ρ => (f ρ).bind fun u ρ1 => (g ρ1).bind fun w ρ2 => ap2 bo u w ρ2) :=
  PE.imp (pe_op ho ha hb) fun σ H Q h => fin2 ok h
theorem DE_cmp {op : CmpOp} {bo : Vw → Vw → Option RV} {r : R2} (ho : OpR X (compareOp op) r) (ok : Ok2 bo r) (ha : PE X a (tD Wx f)) (hb : PE X b (tD Wx g)) (hm : behindInMarks op b = false) : PE X (.Compare a [op] [b] pos) (tD Wx fun ρ => (f ρ).bind fun u ρ1 => (g ρ1).bind fun w ρ2 => ap2 bo u w ρ2) :=
  PE.imp (pe_cmpR ho ha hb hm) fun σ H Q h => fin2 ok h
theorem DE_un {op : UnaryOp} {bo : Vw → Option RV} {r : V → Hp → VK → Prop} (ho : UnR X (unaryOp op) r) (ok : Ok1 bo r) (ha : PE X a (tD Wx f)) : PE X (.UnaryOp op a pos) (tD Wx fun ρ => (f ρ).bind fun u ρ1 => ap1 bo u ρ1) :=
  PE.imp (pe_un ho ha) fun σ H Q h => fin1 ok h
theorem DE_ix {bo : Vw → Vw → Option RV} {r : R2} (hr : IxR X r) (ok : Ok2 bo r) (ha : PE X a (tD Wx f)) (hb : PE X b (tD Wx g)) (hs : PlainIx b) : PE X (.Subscript a b pos) (tD Wx fun ρ => (f ρ).bind fun u ρ1 => (g ρ1).bind fun w ρ2 => ap2 bo u w ρ2) :=
  PE.imp (pe_ix hr ha hb hs) fun σ H Q h => fin2 ok h
end
end BX

set_option Elab.async false
set_option linter.all false
set_option maxRecDepth 100000
set_option maxHeartbeats 4000000
namespace BX
open PySem PySem.Spec PyProof.Rows L2
variable [Tbs]

/-! ## lists of one kind -/
def asInts : List D → Option (List Int)
  | [] => some []
  | .int i :: ds => (asInts ds).map (i :: ·)
  | _ => none
def asStrs : List D → Option (List Str)
  | [] => some []
  | .str i :: ds => (asStrs ds).map (i :: ·)
  | _ => none
def asBools : List D → Option (List Bool)
  | [] => some []
  | .bool i :: ds => (asBools ds).map (i :: ·)
  | _ => none
theorem asInts_map (ns : List Int) : asInts (ns.map .int) = some ns := by
  induction ns with
  | nil => rfl
  | cons n ns ih => simp only [List.map_cons, asInts, ih, Option.map_some]
theorem asStrs_map (ns : List Str) : asStrs (ns.map .str) = some ns := by
  induction ns with
  | nil => rfl
  | cons n ns ih => simp only [List.map_cons, asStrs, ih, Option.map_some]
theorem asBools_map (ns : List Bool) : asBools (ns.map .bool) = some ns := by
  induction ns with
  | nil => rfl
  | cons n ns ih => simp only [List.map_cons, asBools, ih, Option.map_some]
theorem asInts_ok : ∀ {ds : List D} {ns : List Int}, asInts ds = some ns → ds = ns.map .int
  | [], ns, h => by simp only [asInts, Option.some.injEq] at h; subst h; rfl
  | .int i :: ds, ns, h => by
    simp only [asInts, Option.map_eq_some_iff] at h
    obtain ⟨ms, h1, rfl⟩ := h
    rw [asInts_ok h1]; rfl
  | .none :: _, _, h | .bool _ :: _, _, h | .str _ :: _, _, h | .list _ :: _, _, h | .tuple _ :: _, _, h | .dict _ :: _, _, h => by simp only [asInts, reduceCtorEq] at h
theorem asStrs_ok : ∀ {ds : List D} {ns : List Str}, asStrs ds = some ns → ds = ns.map .str
  | [], ns, h => by simp only [asStrs, Option.some.injEq] at h; subst h; rfl
  | .str i :: ds, ns, h => by
    simp only [asStrs, Option.map_eq_some_iff] at h
    obtain ⟨ms, h1, rfl⟩ := h
    rw [asStrs_ok h1]; rfl
  | .none :: _, _, h | .bool _ :: _, _, h | .int _ :: _, _, h | .list _ :: _, _, h | .tuple _ :: _, _, h | .dict _ :: _, _, h => by simp only [asStrs, reduceCtorEq] at h
theorem asBools_ok : ∀ {ds : List D} {ns : List Bool}, asBools ds = some ns → ds = ns.map .bool
  | [], ns, h => by simp only [asBools, Option.some.injEq] at h; subst h; rfl
  | .bool i :: ds, ns, h => by
    simp only [asBools, Option.map_eq_some_iff] at h
    obtain ⟨ms, h1, rfl⟩ := h
    rw [asBools_ok h1]; rfl
  | .none :: _, _, h | .str _ :: _, _, h | .int _ :: _, _, h | .list _ :: _, _, h | .tuple _ :: _, _, h | .dict _ :: _, _, h => by simp only [asBools, reduceCtorEq] at h

/-! ## keys -/
def toKey : D → Option Key
  | .int i => some (.inl i)
  | .str x => some (.inr x)
  | _ => none
def toKeys : List D → Option (List Key)
  | [] => some []
  | d :: ds => match toKey d, toKeys ds with
    | some k, some ks => some (k :: ks)
    | _, _ => none
def lk {κ : Type} [DecidableEq κ] (kvs : List (κ × D)) (k : κ) : Option D := (kvs.find? fun kv => decide (kv.1 = k)).map (·.2)
def pt {κ : Type} [DecidableEq κ] (kvs : List (κ × D)) (k : κ) (v : D) : List (κ × D) :=
  if (kvs.any fun kv => decide (kv.1 = k)) = true then kvs.map (fun kv => if kv.1 = k then (kv.1, v) else kv) else kvs ++ [(k, v)]
def dr {κ : Type} [DecidableEq κ] (kvs : List (κ × D)) (k : κ) : List (κ × D) := kvs.filter fun kv => decide (kv.1 ≠ k)
section
variable {F H : Hp}
theorem toKey_ok {d : D} {k : Key} {v : V} (h : toKey d = some k) (r : Rp F d v) : v = kV k := by
  cases r with
  | int i => cases h; rfl
  | str x => cases h; rfl
  | _ => cases h
theorem toKeys_ok : ∀ {ds : List D} {ks : List Key} {vs : List V}, toKeys ds = some ks → Rps F ds vs → vs = ks.map kV
  | [], _, _, h, .nil => by cases h; rfl
  | d :: ds, ks, _, h, .cons g r => by
    unfold toKeys at h
    split at h
    · rename_i k ks' h1 h2
      cases h
      rw [toKey_ok h1 g, toKeys_ok h2 r]; rfl
    · cases h
end
theorem lk_cons {κ : Type} [DecidableEq κ] (j k : κ) (d : D) (r : List (κ × D)) : lk ((j, d) :: r) k = if j = k then some d else lk r k := by
  unfold lk
  rw [List.find?_cons]
  by_cases h : j = k
  · simp [h]
  · simp [h]
theorem valV_cons {κ : Type} [DecidableEq κ] (j k : κ) (d : V) (r : List (κ × V)) : valV ((j, d) :: r) k = if j = k then some d else valV r k := by
  unfold valV
  rw [List.find?_cons]
  by_cases h : j = k
  · simp [h]
  · simp [h]
theorem KR.lk {κ : Type} [DecidableEq κ] {F : Hp} (k : κ) : ∀ {ds : List (κ × D)} {vs : List (κ × V)}, KR F ds vs → (∀ d, BX.lk ds k = some d → ∃ v, valV vs k = some v ∧ Rp F d v) ∧ (BX.lk ds k = none → valV vs k = none)
  | _, _, .nil => ⟨fun d h => by simp [BX.lk] at h, fun _ => rfl⟩
  | _, _, .cons (k := j) h r => by
    obtain ⟨h1, h2⟩ := KR.lk k r
    rw [lk_cons, valV_cons]
    by_cases e : j = k
    · rw [if_pos e, if_pos e]
      exact ⟨fun d z => by cases z; exact ⟨_, rfl, h⟩, fun z => by cases z⟩
    · rw [if_neg e, if_neg e]
      exact ⟨h1, h2⟩
theorem valV_isSome {κ : Type} [DecidableEq κ] {F : Hp} {k : κ} {ds : List (κ × D)} {vs : List (κ × V)} (r : KR F ds vs) : (valV vs k).isSome = (lk ds k).isSome := by
  obtain ⟨h1, h2⟩ := r.lk k
  cases e : lk ds k with
  | none => rw [h2 e]; rfl
  | some d => obtain ⟨v, z, _⟩ := h1 d e; rw [z]; rfl
theorem KR.any {κ : Type} {F : Hp} (p : κ → Bool) : ∀ {ds : List (κ × D)} {vs : List (κ × V)}, KR F ds vs → (vs.any fun kv => p kv.1) = ds.any fun kv => p kv.1
  | _, _, .nil => rfl
  | _, _, .cons h r => by rw [List.any_cons, List.any_cons, KR.any p r]
theorem KR.append {κ : Type} {F : Hp} : ∀ {ds es : List (κ × D)} {vs us : List (κ × V)}, KR F ds vs → KR F es us → KR F (ds ++ es) (vs ++ us)
  | _, _, _, _, .nil, s => s
  | _, _, _, _, .cons h r, s => .cons h (KR.append r s)
theorem KR.pt {κ : Type} [DecidableEq κ] {F : Hp} {k : κ} {d : D} {v : V} {ds : List (κ × D)} {vs : List (κ × V)} (r : KR F ds vs) (h : Rp F d v) : KR F (pt ds k d) (putK vs k v) := by
  unfold BX.pt putK
  rw [r.any fun j => decide (j = k)]
  split
  · rename_i hn
    clear hn
    induction r with
    | nil => exact .nil
    | cons g r ih =>
      rw [List.map_cons, List.map_cons]
      split
      · exact .cons h ih
      · exact .cons g ih
  · exact r.append (.cons h .nil)
theorem KR.dr {κ : Type} [DecidableEq κ] {F : Hp} {k : κ} {ds : List (κ × D)} {vs : List (κ × V)} (r : KR F ds vs) : KR F (dr ds k) (dropK vs k) := by
  unfold BX.dr dropK
  induction r with
  | nil => exact .nil
  | cons g r ih =>
    rw [List.filter_cons, List.filter_cons]
    split
    · exact .cons g ih
    · exact ih

/-! ## rules joined -/
section
variable {X : Cx}
theorem OpR.or {f : Value → Value → Sem Value} {r r' : R2} (h : OpR X f r) (h' : OpR X f r') : OpR X f (fun x y H Q => r x y H Q ∨ r' x y H Q) := by
  intro pins s σ H x y v u Q I rx ry q
  rcases q with q | q
  · exact h pins s σ H x y v u Q I rx ry q
  · exact h' pins s σ H x y v u Q I rx ry q
theorem CallR.or {f : Value} {r r' : List V → Hp → VK → Prop} (h : CallR X f r) (h' : CallR X f r') : CallR X f (fun xs H Q => r xs H Q ∨ r' xs H Q) := by
  intro pins s σ H xs us Q I rs q
  rcases q with q | q
  · exact h pins s σ H xs us Q I rs q
  · exact h' pins s σ H xs us Q I rs q
/-- list + list, read -/
def rCatL : R2 := fun x y H Q => ∃ l b xs zs, x = .ref l ∧ y = .ref b ∧ Rd H l (.lst xs) ∧ Rd H b (.lst zs) ∧ xs.length + zs.length ≤ sizeLine ∧ ∀ p, H p = none → Q (.ref p) (upd H p (.lst (xs ++ zs)))
theorem op_catL : OpR X (binaryOp .Add) rCatL := by
  intro pins s σ H x y v u Q I rx ry h
  obtain ⟨l, b, xs, zs, rfl, rfl, hH, hB, hz, q⟩ := h
  cases rx
  cases ry
  obtain ⟨z, its, n, r, e⟩ := hH.ok I.hok
  obtain ⟨z2, its2, n2, r2, e2⟩ := hB.ok I.hok
  have hl := r.length
  have hl2 := r2.length
  refine PySem.P.add_list e e2 ?_ (by rw [List.size_toArray, List.size_toArray]; omega)
  have ea : its.toArray ++ its2.toArray = (its ++ its2).toArray := by simp
  rw [ea]
  exact ⟨.ref _, _, I.lnew (t' := s.toks) (r.append r2) (by rw [List.length_append]; omega), rfl, q _ I.fresh⟩

/-! ## + - * // % ** -/
def bAdd : Vw → Vw → Option RV
  | .d (.int i), .d (.int j) => some (.val (.int (i + j)))
  | .d (.str a), .d (.str b) => if a.length + b.length ≤ sizeLine then some (.val (.str (a ++ b))) else none
  | .d (.tuple a), .d (.tuple b) => if a.length + b.length ≤ sizeLine then some (.val (.tuple (a ++ b))) else none
  | .d (.list a), .d (.list b) => if a.length + b.length ≤ sizeLine then some (.own (.lst (a ++ b))) else none
  | _, _ => none
abbrev rAddAll (K : PySem.W.Frag) : R2 := fun x y H Q => rI0 (fun i j => .int (i + j)) x y H Q ∨ (∃ i j, x = .str i ∧ y = .str j ∧ i.length + j.length ≤ sizeLine ∧ Q (.str (i ++ j)) H) ∨ rCatA K x y H Q ∨ rCatL x y H Q
theorem op_addAll : OpR X (binaryOp .Add) (rAddAll X.K) := OpR.or op_add (OpR.or op_add_str (OpR.or op_catA op_catL))
theorem ok_add : Ok2 bAdd (rAddAll X.K) := by
  intro F H x y vx vy res Q s hx hy h q
  unfold bAdd at h
  split at h
  · cases h; cases hx; cases hy
    exact .inl ⟨_, _, rfl, rfl, q _ _ (.old s (.int _))⟩
  · split at h
    · rename_i hz
      cases h; cases hx; cases hy
      exact .inr (.inl ⟨_, _, rfl, rfl, hz, q _ _ (.old s (.str _))⟩)
    · cases h
  · split at h
    · rename_i hz
      cases h; cases hx; cases hy
      rename_i h1 r1 _ _ h2 r2
      have e1 := r1.length
      have e2 := r2.length
      refine .inr (.inr (.inl ⟨_, _, _, _, rfl, rfl, .inl (.inl (s.same _ _ h1)), .inl (.inl (s.same _ _ h2)), by omega, fun z => ?_, fun n z => ?_, fun n n2 p np => ?_⟩))
      · subst z
        cases r1
        exact q _ _ (.old s (.tup h2 r2))
      · subst z
        cases r2
        rw [List.append_nil] at q
        exact q _ _ (.old s (.tup h1 r1))
      · exact q _ _ (.tup s np (r1.append r2))
    · cases h
  · split at h
    · rename_i hz
      cases h
      obtain ⟨a, vs, rfl, h1, r1⟩ := hx
      obtain ⟨b, us, rfl, h2, r2⟩ := hy
      have e1 := r1.length
      have e2 := r2.length
      exact .inr (.inr (.inr ⟨_, _, _, _, rfl, rfl, h1, h2, by omega, fun p np => q _ _ (.lst s np (r1.append r2))⟩))
    · cases h
  · cases h
def bSub : Vw → Vw → Option RV
  | .d (.int i), .d (.int j) => some (.val (.int (i - j)))
  | _, _ => none
theorem ok_sub : Ok2 bSub (rI0 fun i j => .int (i - j)) := by
  intro F H x y vx vy res Q s hx hy h q
  unfold bSub at h
  split at h
  · cases h; cases hx; cases hy
    exact ⟨_, _, rfl, rfl, q _ _ (.old s (.int _))⟩
  · cases h
def bMul : Vw → Vw → Option RV
  | .d (.int i), .d (.int j) => if (-(2 ^ 64) < i ∧ i < 2 ^ 64) ∨ (-(2 ^ 64) < j ∧ j < 2 ^ 64) then some (.val (.int (i * j))) else none
  | .d (.tuple a), .d (.int k) => if 2 ≤ k ∧ k ≤ 1000 ∧ 1 ≤ a.length ∧ a.length ≤ 1000 then some (.val (.tuple (List.replicate k.toNat a).flatten)) else none
  | _, _ => none
abbrev rMulA (K : PySem.W.Frag) : R2 := fun x y H Q => rI CMul (fun i j => .int (i * j)) x y H Q ∨ rRepT K x y H Q
theorem op_mulA : OpR X (binaryOp .Mult) (rMulA X.K) := OpR.or op_mul op_repT
theorem ok_mul : Ok2 bMul (rMulA X.K) := by
  intro F H x y vx vy res Q s hx hy h q
  unfold bMul at h
  split at h
  · split at h
    · rename_i hc
      cases h; cases hx; cases hy
      exact .inl ⟨_, _, rfl, rfl, hc, q _ _ (.old s (.int _))⟩
    · cases h
  · split at h
    · rename_i hc
      cases h; cases hx; cases hy
      rename_i h1 r1
      have e1 := r1.length
      refine .inr ⟨_, _, _, rfl, rfl, .inl (.inl (s.same _ _ h1)), fun z => ?_, hc.1, hc.2.1, by omega, fun p np => q _ _ (.tup s np (r1.flatRep _))⟩
      subst z
      simp at e1
      omega
    · cases h
  · cases h
def bDiv : Vw → Vw → Option RV
  | .d (.int i), .d (.int j) => if 0 < j ∧ j < 1073741824 then some (.val (.int (i / j))) else none
  | _, _ => none
theorem ok_div : Ok2 bDiv (rI CDiv fun i j => .int (i / j)) := by
  intro F H x y vx vy res Q s hx hy h q
  unfold bDiv at h
  split at h
  · split at h
    · rename_i hc
      cases h; cases hx; cases hy
      exact ⟨_, _, rfl, rfl, hc, q _ _ (.old s (.int _))⟩
    · cases h
  · cases h
def bMod : Vw → Vw → Option RV
  | .d (.int i), .d (.int j) => if 0 < j then some (.val (.int (i % j))) else none
  | _, _ => none
theorem ok_mod : Ok2 bMod (rI (fun _ j => 0 < j) fun i j => .int (i % j)) := by
  intro F H x y vx vy res Q s hx hy h q
  unfold bMod at h
  split at h
  · split at h
    · rename_i hc
      cases h; cases hx; cases hy
      exact ⟨_, _, rfl, rfl, hc, q _ _ (.old s (.int _))⟩
    · cases h
  · cases h
def bPow : Vw → Vw → Option RV
  | .d (.int i), .d (.int j) => if 0 ≤ j ∧ j ≤ 1000000 ∧ i.natAbs < 2 ^ 64 then some (.val (.int (i ^ j.toNat))) else none
  | _, _ => none
theorem ok_pow : Ok2 bPow (rI CPow fun i j => .int (i ^ j.toNat)) := by
  intro F H x y vx vy res Q s hx hy h q
  unfold bPow at h
  split at h
  · split at h
    · rename_i hc
      cases h; cases hx; cases hy
      exact ⟨_, _, rfl, rfl, hc, q _ _ (.old s (.int _))⟩
    · cases h
  · cases h
def bNeg : Vw → Option RV
  | .d (.int i) => some (.val (.int (-i)))
  | _ => none
theorem ok_neg : Ok1 bNeg (rU fun i => .int (-i)) := by
  intro F H x vx res Q s hx h q
  unfold bNeg at h
  split at h
  · cases h; cases hx
    exact ⟨_, rfl, q _ _ (.old s (.int _))⟩
  · cases h

/-! ## comparisons -/
def bEq : Vw → Vw → Option RV
  | .d a, .d b => if SeqAt.shaped a = true ∧ SeqAt.shaped b = true then some (.val (.bool (PyData.eqv a b))) else none
  | _, _ => none
theorem ok_eq : Ok2 bEq (rEqD X.K) := by
  intro F H x y vx vy res Q s hx hy h q
  unfold bEq at h
  split at h
  · split at h
    · rename_i hc
      cases h
      exact ⟨_, _, (hx.whole s.same).dp (shaped_lay hc.1), (hy.whole s.same).dp (shaped_lay hc.2), hc.1, hc.2, q _ _ (.old s (.bl _))⟩
    · cases h
  · cases h
def bNe : Vw → Vw → Option RV
  | .d a, .d b => if SeqAt.shaped a = true ∧ SeqAt.shaped b = true then some (.val (.bool (!PyData.eqv a b))) else none
  | _, _ => none
theorem ok_ne : Ok2 bNe (rNeD X.K) := by
  intro F H x y vx vy res Q s hx hy h q
  unfold bNe at h
  split at h
  · split at h
    · rename_i hc
      cases h
      exact ⟨_, _, (hx.whole s.same).dp (shaped_lay hc.1), (hy.whole s.same).dp (shaped_lay hc.2), hc.1, hc.2, q _ _ (.old s (.bl _))⟩
    · cases h
  · cases h
def bCmp (p : Int → Int → Bool) : Vw → Vw → Option RV
  | .d (.int i), .d (.int j) => some (.val (.bool (p i j)))
  | _, _ => none
theorem ok_cmp {p : Int → Int → Bool} : Ok2 (bCmp p) (rI0 fun i j => .bl (p i j)) := by
  intro F H x y vx vy res Q s hx hy h q
  unfold bCmp at h
  split at h
  · cases h; cases hx; cases hy
    exact ⟨_, _, rfl, rfl, q _ _ (.old s (.bl _))⟩
  · cases h
def flat : D → Bool
  | .none | .bool _ | .int _ | .str _ => true
  | _ => false
theorem flat_V {F : Hp} {d : D} {v : V} (h : Rp F d v) (f : flat d = true) : flatV v = true := by
  cases h <;> first | rfl | cases f
theorem flat_all {F : Hp} : ∀ {ds : List D} {vs : List V}, Rps F ds vs → ds.all flat = true → vs.all flatV = true
  | _, _, .nil, _ => rfl
  | _, _, .cons h r, f => by
    rw [List.all_cons, Bool.and_eq_true] at f ⊢
    exact ⟨flat_V h f.1, flat_all r f.2⟩
theorem flat_eq {F : Hp} {d e : D} {v u : V} (h : Rp F d v) (k : Rp F e u) (f : flat d = true) (g : flat e = true) : eqV v u = PyData.eqv d e := by
  cases h <;> (try cases f) <;> cases k <;> (try cases g) <;> first | rfl | simp [eqV, PyData.eqv]
theorem flat_in {F : Hp} {e : D} {u : V} (k : Rp F e u) (g : flat e = true) : ∀ {ds : List D} {vs : List V}, Rps F ds vs → ds.all flat = true → inV u vs = ds.any fun z => PyData.eqv z e
  | _, _, .nil, _ => rfl
  | _, _, .cons h r, f => by
    rw [List.all_cons, Bool.and_eq_true] at f
    have ih := flat_in k g r f.2
    unfold inV at ih ⊢
    rw [List.any_cons, List.any_cons, flat_eq h k f.1 g, ih]
theorem str_one {a : Str} {c : Nat} (h : a.cps.toList = [c]) : a = ⟨#[c]⟩ := by
  obtain ⟨⟨l⟩⟩ := a
  have h : l = [c] := h
  rw [h]
/-- x in y -/
def isIn : Vw → Vw → Option Bool
  | .d a, .d (.list ds) => if SeqAt.shaped a = true ∧ SeqAt.shaped (.list ds) = true then some (ds.any fun z => PyData.eqv z a) else none
  | .d a, .d (.tuple ds) => if flat a = true ∧ ds.all flat = true then some (ds.any fun z => PyData.eqv z a) else none
  | .d (.str a), .d (.str b) => match a.cps.toList with
    | [c] => some (decide (c ∈ b.cps.toList))
    | _ => none
  | .d a, .k kvs => match toKey a with
    | some k => some (lk kvs k).isSome
    | none => none
  | .d (.tuple a), .t kvs => match toKeys a with
    | some k => some (lk kvs k).isSome
    | none => none
  | _, _ => none
def bIn (neg : Bool) (x y : Vw) : Option RV := (isIn x y).map fun b => .val (.bool (if neg then !b else b))
def rInDict (neg : Bool) : R2 := fun y x H Q => ∃ a o, x = .ref a ∧ DGet H a y o ∧ Q (.bl (if neg then !o.isSome else o.isSome)) H
theorem op_inDict (hu : X.A.units + 1 < cLine) : OpR X (compareOp .In) (rInDict false) := by
  intro pins s σ H x y v u Q I rx ry h
  obtain ⟨a, o, rfl, g, q⟩ := h
  cases ry
  exact d_in hu I g rx fun s3 I3 => ⟨.bl o.isSome, H, I3, rfl, q⟩
theorem op_notInDict (hu : X.A.units + 1 < cLine) : OpR X (compareOp .NotIn) (rInDict true) := by
  intro pins s σ H x y v u Q I rx ry h
  obtain ⟨a, o, rfl, g, q⟩ := h
  cases ry
  exact d_notIn hu I g rx fun s3 I3 => ⟨.bl (!o.isSome), H, I3, rfl, q⟩
abbrev rInAll (K : PySem.W.Frag) (neg : Bool) : R2 := fun x y H Q => (∃ d ds, Dp K H x d ∧ Dp K H y (.list ds) ∧ SeqAt.shaped d = true ∧ SeqAt.shaped (.list ds) = true ∧ Q (.bl (if neg then !(ds.any fun z => PyData.eqv z d) else ds.any fun z => PyData.eqv z d)) H) ∨ rIn K neg x y H Q ∨
  (∃ (c : Nat) (z : Str), x = .str ⟨#[c]⟩ ∧ y = .str z ∧ Q (.bl (if neg then !decide (c ∈ z.cps.toList) else decide (c ∈ z.cps.toList))) H) ∨ rInDict neg x y H Q
theorem op_inAll (hu : X.A.units + 65 < cLine) : OpR X (compareOp .In) (rInAll X.K false) :=
  OpR.or (op_inD hu) (OpR.or op_in_seq (OpR.or op_in_sign (op_inDict (by omega))))
theorem op_notInAll (hu : X.A.units + 65 < cLine) : OpR X (compareOp .NotIn) (rInAll X.K true) :=
  OpR.or (op_notInD hu) (OpR.or op_notIn_seq (OpR.or op_notIn_sign (op_notInDict (by omega))))
theorem ok_in {neg : Bool} : Ok2 (bIn neg) (rInAll X.K neg) := by
  intro F H x y vx vy res Q s hx hy h q
  unfold bIn at h
  obtain ⟨b, hb, rfl⟩ := Option.map_eq_some_iff.mp h
  have q := q (.bl (if neg then !b else b)) H (.old s (.bl _))
  unfold isIn at hb
  split at hb
  · split at hb
    · rename_i hc
      cases hb
      exact .inl ⟨_, _, (hx.whole s.same).dp (shaped_lay hc.1), (hy.whole s.same).dp (shaped_lay hc.2), hc.1, hc.2, q⟩
    · cases hb
  · rename_i a ds _
    split at hb
    · rename_i hc
      cases hb
      refine .inr (.inl ?_)
      cases hy with
      | tup hy r =>
        have hx := hx.whole s.same
        have r := r.mono s.same
        refine ⟨_, _, rfl, .inr (.inl (.inl (s.same _ _ hy))), flat_V hx hc.1, flat_all r hc.2, ?_⟩
        rw [flat_in hx hc.1 r hc.2]
        exact q
    · cases hb
  · split at hb
    · rename_i c hc
      cases hb
      cases hx
      cases hy
      exact .inr (.inr (.inl ⟨c, _, congrArg V.str (str_one hc), rfl, q⟩))
    · cases hb
  · split at hb
    · rename_i k hk
      cases hb
      obtain ⟨a, ks, rfl, e, r⟩ := hy
      refine .inr (.inr (.inr ⟨a, _, rfl, .inl ⟨_, k, .inl e, toKey_ok hk (hx.whole s.same), rfl⟩, ?_⟩))
      rw [valV_isSome r]
      exact q
    · cases hb
  · split at hb
    · rename_i k hk
      cases hb
      obtain ⟨a, ks, rfl, e, r⟩ := hy
      cases hx with
      | tup hx rx =>
        have ek := toKeys_ok hk rx
        subst ek
        refine .inr (.inr (.inr ⟨a, _, rfl, .inr ⟨_, k, _, .inl e, rfl, s.same _ _ hx, rfl⟩, ?_⟩))
        rw [valV_isSome r]
        exact q
    · cases hb
  · cases hb
/-- is, is not: None, truths -/
def isIs : Vw → Vw → Option Bool
  | .d .none, .d .none => some true
  | .d _, .d .none => some false
  | .d (.bool a), .d (.bool b) => some (decide (a = b))
  | _, _ => none
def bIs (neg : Bool) (x y : Vw) : Option RV := (isIs x y).map fun b => .val (.bool (if neg then !b else b))
abbrev rIsAll (neg : Bool) : R2 := fun x y H Q => (y = .non ∧ Q (.bl (if neg then !decide (x = .non) else decide (x = .non))) H) ∨ ∃ a b, x = .bl a ∧ y = .bl b ∧ Q (.bl (if neg then !decide (a = b) else decide (a = b))) H
theorem op_isAll : OpR X (compareOp .Is) (rIsAll false) := OpR.or op_isN op_is_bl
theorem op_isnAll : OpR X (compareOp .IsNot) (rIsAll true) := OpR.or op_notN op_isnot_bl
theorem ok_is {neg : Bool} : Ok2 (bIs neg) (rIsAll neg) := by
  intro F H x y vx vy res Q s hx hy h q
  unfold bIs at h
  obtain ⟨b, hb, rfl⟩ := Option.map_eq_some_iff.mp h
  have q := q (.bl (if neg then !b else b)) H (.old s (.bl _))
  unfold isIs at hb
  split at hb
  · cases hb; cases hx; cases hy
    exact .inl ⟨rfl, q⟩
  · rename_i hn
    cases hb; cases hy
    refine .inl ⟨rfl, ?_⟩
    have e : decide (x = V.non) = false := decide_eq_false fun z => by
      subst z
      have w := hx.whole s.same
      cases w
      exact hn rfl
    rw [e]
    exact q
  · cases hb; cases hx; cases hy
    exact .inr ⟨_, _, rfl, rfl, q⟩
  · cases hb
end
end BX

set_option Elab.async false
set_option linter.all false
set_option maxRecDepth 100000
set_option maxHeartbeats 4000000
namespace BX
open PySem PySem.Spec PyProof.Rows L2 HT
variable [Tbs]

/-! ## x[::-1] -/
section
variable {prog : Program} {w : World} {A : Around} {E : Value → Shared → Prop} {s : Shared}
theorem revApplied {sl : Addr} {n : Nat} {t : Tok} {Q : Int × Int × Nat → Shared → Prop} (hs : s.heap.IsSliceOf sl .none .none (.int (-1) t))
    (h : Q ((n : Int) - 1, -1, n) s) : wpAny (model prog w) A (Builtin.Slice.sliceApplied (.ref sl) (pure (n : Int))) Q E s := by
  obtain ⟨os, hos, hcs, hds⟩ := id hs
  unfold Builtin.Slice.sliceApplied Builtin.Slice.sliceFields
  refine wpAny_bind (wpAny_bind (wpAny_field hos hds (x := .none) rfl (wpAny_bind (wpAny_field hos hds (x := .none) rfl (wpAny_bind (wpAny_field hos hds (x := .int (-1) t) rfl (wpAny_pure ?_)))))))
  refine wpAny_bind (slicePart_ (.int (-1) t) ?_)
  show wpAny _ _ (if ((-1 : Int) == 0) = true then _ else _) _ _ s
  rw [if_neg (by decide)]
  refine wpAny_bind (slicePart_none (wpAny_bind (slicePart_none (wpAny_bind (wpAny_pure ?_)))))
  show wpAny _ _ (match Builtin.Slice.sliceAdjust none none (-1) (n : Int) with | (lo, hi) => pure (lo, (-1 : Int), Builtin.Slice.slicePlaces lo hi (-1))) _ _ s
  have e1 : Builtin.Slice.sliceAdjust none none (-1) (n : Int) = ((n : Int) - 1, -1) := by
    unfold Builtin.Slice.sliceAdjust
    simp
  rw [e1]
  have e2 : Builtin.Slice.slicePlaces ((n : Int) - 1) (-1) (-1) = n := by
    unfold Builtin.Slice.slicePlaces
    by_cases h : (n : Int) - 1 > -1
    · simp [h]
    · have : n = 0 := by omega
      subst this
      simp
  show wpAny _ _ (pure ((n : Int) - 1, (-1 : Int), Builtin.Slice.slicePlaces ((n : Int) - 1) (-1) (-1))) _ _ s
  rw [e2]
  exact wpAny_pure h
theorem rev_pick (xs : Array Value) : ((List.range xs.size).filterMap fun (m : Nat) => xs[(((xs.size : Int) - 1) + (m : Int) * (-1)).toNat]?).toArray = xs.toList.reverse.toArray := by
  congr 1
  have e : (List.range xs.size).map (fun (m : Nat) => (((xs.size : Int) - 1) + (m : Int) * (-1)).toNat) = (List.range xs.size).reverse := by
    rw [← PySem.W.krv_range]
    apply List.map_congr_left
    intro k hk
    have := List.mem_range.mp hk
    omega
  have e2 : (fun (m : Nat) => xs[(((xs.size : Int) - 1) + (m : Int) * (-1)).toNat]?) = (fun i => xs[i]?) ∘ fun (m : Nat) => (((xs.size : Int) - 1) + (m : Int) * (-1)).toNat := rfl
  rw [e2, ← List.filterMap_map, e, List.filterMap_reverse, PySem.W.krv_all]
theorem getItem_tuple_rev {t sl : Addr} {items : Array Value} {tk : Tok} {Q : Value → Shared → Prop} (ht : IsTup s.heap t items) (hs : s.heap.IsSliceOf sl .none .none (.int (-1) tk))
    (h : Q (.ref s.heap.objs.size) { s with heap := s.heap.push { cls := .type "tuple", data := .seq items.toList.reverse.toArray } })
    (hsz : items.size ≤ sizeLine) : wpAny (model prog w) A (getItem (.ref t) (.ref sl)) Q E s := by
  have htake : sizeOk (.seq items.toList.reverse.toArray) := by
    show items.toList.reverse.toArray.size ≤ sizeLine
    rw [List.size_toArray, List.length_reverse, Array.length_toList]
    exact hsz
  obtain ⟨os, hos, hcs, hds⟩ := id hs
  have hTs : s.TypeIs (.ref sl) "slice" := ⟨os, hos, hcs⟩
  unfold getItem
  try with_reducible refine wpAny_holding ?_
  first | refine wpAny_bind (wpAny_pure ?_) | skip
  refine wpAny_bind (wpAny_sequenceKey ht.typeIs (by decide) ?_)
  refine wpAny_bind (wpAny_callSpecial?_slot (name := Str.ofString "__getitem__") ht.typeIs PyProof.Rows.slot_tuple_getitem
    (wpAny_call_entry PyProof.Rows.slot_tuple_getitem ht.typeIs entry_tuple_getitem ?_ (args_tuple_getitem _ _)))
  show wpAny _ _ (Builtin.Tuple.tupleItemsOf (.ref t) >>= _) _ _ s
  refine wpAny_bind (tupleItemsOf_ ht ?_)
  refine wpAny_bind (wpAny_typeOf hTs ?_)
  rw [if_pos (by decide)]
  refine wpAny_bind (revApplied hs ?_)
  have hno : ¬ ((((items.size : Int) - 1 == 0 && (-1 : Int) == 1 && items.size == items.size)) = true) := by
    intro q
    rw [Bool.and_eq_true, Bool.and_eq_true] at q
    exact absurd q.1.2 (by decide)
  show wpAny _ _ (if (((items.size : Int) - 1 == 0 && (-1 : Int) == 1 && items.size == items.size)) = true then _ else _) _ _ s
  rw [if_neg hno, rev_pick]
  first
    | exact wpAny_bind (m := Builtin.Tuple.tupleExact _) (wpAny_newObj_type (wpAny_pure ⟨_, rfl, wpAny_pure h⟩) htake)
    | exact wpAny_bind (m := Builtin.Tuple.tupleExact _) (wpAny_newObj_type (wpAny_bind (wpAny_pure (wpAny_pure ⟨_, rfl, wpAny_pure h⟩))) htake)
    | exact wpAny_bind (wpAny_bind (m := Builtin.Tuple.tupleExact _) (wpAny_newObj_type (wpAny_pure (wpAny_pure ⟨_, rfl, wpAny_pure h⟩)) htake))
    | exact wpAny_bind (wpAny_bind (m := Builtin.Tuple.tupleExact _) (wpAny_newObj_type (wpAny_pure ⟨_, rfl, wpAny_pure h⟩) htake))
end
theorem Vals_reverse : ∀ {xs : List V} {us : List Value}, Vals xs us → Vals xs.reverse us.reverse
  | _, _, .nil => .nil
  | _, _, .cons h r => by
    rw [List.reverse_cons, List.reverse_cons]
    exact (Vals_reverse r).append (.cons h .nil)
def rRev : V → Hp → VK → Prop := fun x H Q => (∃ a xs, x = .ref a ∧ H a = some (.tup xs) ∧ ∀ p, H p = none → Q (.ref p) (upd H p (.tup xs.reverse))) ∨ ∃ a xs, x = .ref a ∧ Rd H a (.lst xs) ∧ ∀ p, H p = none → Q (.ref p) (upd H p (.lst xs.reverse))
section
variable {X : Cx} {e : Expr} {te : TE} {pos p1 p2 p3 : Pos} {k : Nat}
theorem pe_rev (he : PE X e te) : PE X (.Subscript e (.Slice none none (some (.UnaryOp .USub (.Constant (.int 1) k p1) p2)) p3) pos) (fun σ H Q => te σ H fun x H1 => rRev x H1 Q) := by
  refine ⟨fun pins s σ H Q I h => ?_⟩
  refine Subscript_ (thn (he.run pins s σ H _ I h) fun v s1 ⟨x, H1, I1, r1, q1⟩ => ?_)
  refine wpAny_Slice ?_
  rw [evalPart_none, evalPart_some]
  refine wpAny_pure (wpAny_pure ?_)
  have hneg : PE X (.UnaryOp .USub (.Constant (.int 1) k p1) p2) (tUn (rU fun i => .int (-i)) (tC (.int 1))) := pe_un un_neg pe_int
  refine thn (hneg.run pins s1 σ H1 (fun y H2 => y = .int (-1) ∧ rRev x H2 Q) I1 ⟨1, rfl, rfl, q1⟩) fun vk s3 ⟨y, H3, I3, ry, ey, q3⟩ => ?_
  subst ey
  obtain ⟨tk, rfl⟩ := ry
  have I4 : Inv X pins σ H3 { s3 with heap := s3.heap.push { cls := .type "slice", data := .fields #[.none, .none, .int (-1) tk] } } := I3.kept (t' := s3.toks) fun b ob q => Heap.get?_push_of_some _ q
  have hsl : Heap.IsSliceOf (s3.heap.push { cls := .type "slice", data := .fields #[.none, .none, .int (-1) tk] }) s3.heap.objs.size .none .none (.int (-1) tk) := Heap.IsSliceOf.new ..
  show wpAny (model X.prog X.w) X.A (subscriptTail e (.Slice none none (some (.UnaryOp .USub (.Constant (.int 1) k p1) p2)) p3) v (.ref s3.heap.objs.size)) (EP X pins σ Q) X.xe { s3 with heap := s3.heap.push { cls := .type "slice", data := .fields #[.none, .none, .int (-1) tk] } }
  rcases q3 with ⟨a, xs, rfl, ha, q⟩ | ⟨a, xs, rfl, ha, q⟩
  · cases r1
    obtain ⟨its, r, ht, hz⟩ := I4.tuple (.inl (.inl ha))
    have hl := r.length
    refine tail_any (ops := [.ref a, .ref s3.heap.objs.size]) ht.typeIs PyProof.Rows.slot_tuple_getitem.lookup (getItem_tuple_rev ht hsl ?_ (by rw [List.size_toArray]; omega)) (by with_unfolding_all rfl)
    have I5 := I4.laid (a := (s3.heap.push { cls := .type "slice", data := .fields #[.none, .none, .int (-1) tk] }).objs.size) (o := .tup xs.reverse) (t' := s3.toks) (h' := (s3.heap.push { cls := .type "slice", data := .fields #[.none, .none, .int (-1) tk] }).push { cls := .type "tuple", data := .seq its.reverse.toArray }) (fun b u e => Heap.get?_push_of_some _ e) (Nat.le_refl _)
      ⟨by rw [List.length_reverse]; exact hz, its.reverse, Vals_reverse r, ⟨_, Heap.get?_push_size _ rfl, rfl, _, rfl⟩⟩
    exact ⟨.ref _, _, I5, rfl, q _ (I4.hok.fresh (Nat.le_refl _))⟩
  · cases r1
    obtain ⟨z, its, n, r, e⟩ := ha.ok I4.hok
    have hl := r.length
    obtain ⟨its', r', pl, hz⟩ := I4.list (.inl ha)
    have hl' := r'.length
    refine tail_any (ops := [.ref a, .ref s3.heap.objs.size]) pl.isList.typeIs slot_list_getitem.lookup (wpAny_getItem_list_slice pl.isList hsl .none .none (.int (-1) tk) (by decide) ?_ (by rw [List.size_toArray]; omega)) (by with_unfolding_all rfl)
    rw [PySem.W.krv_pick]
    have I5 := I4.laid (a := (s3.heap.push { cls := .type "slice", data := .fields #[.none, .none, .int (-1) tk] }).objs.size) (o := .lst xs.reverse) (t' := s3.toks) (h' := (s3.heap.push { cls := .type "slice", data := .fields #[.none, .none, .int (-1) tk] }).push { cls := .type "list", data := .seq its'.reverse.toArray }) (fun b u e => Heap.get?_push_of_some _ e) (Nat.le_refl _)
      ⟨by rw [List.length_reverse]; exact hz, its'.reverse, 0, Vals_reverse r', Heap.get?_push_size _ rfl⟩
    exact ⟨.ref _, _, I5, rfl, q _ (I4.hok.fresh (Nat.le_refl _))⟩
end
def bRev : Vw → Option RV
  | .d (.tuple ds) => some (.val (.tuple ds.reverse))
  | .d (.list ds) => some (.own (.lst ds.reverse))
  | _ => none
theorem ok_rev : Ok1 bRev rRev := by
  intro F H x vx res Q s hx h q
  unfold bRev at h
  split at h
  · cases h
    cases hx with
    | tup hx r => exact .inl ⟨_, _, rfl, s.same _ _ hx, fun p np => q _ _ (.tup s np r.reverse)⟩
  · cases h
    obtain ⟨a, vs, rfl, h1, r⟩ := hx
    exact .inr ⟨_, _, rfl, h1, fun p np => q _ _ (.lst s np r.reverse)⟩
  · cases h

/-! ## x[i] -/
section
variable {X : Cx}
/-- d[y] of a dict, by values -/
theorem ix_dict (hu : X.A.units + 1 < cLine) : IxR X (fun x y H Q => ∃ a v, x = .ref a ∧ DGet H a y (some v) ∧ Q v H) := by
  intro value slice pins s σ H x y v u Q I rx ry h hs
  obtain ⟨a, z, rfl, g, q⟩ := h
  obtain rfl : v = Value.ref a := rx
  have hT := dict_typeIs I g
  unfold subscriptTail
  refine wpAny_bind ?_
  rw [getitemInPython_of_ne hT.not_modules]
  refine wpAny_bind (wpAny_specialOf hT PySem.F.slot_dict_getitem.lookup ?_)
  have fin : wpAny (model X.prog X.w) X.A (subscripted slice false (.ref a) u) (fun r s₃ => wpAny (model X.prog X.w) X.A (letTemporaryGo value (.ref a) r >>= fun _ => pure r) (EP X pins σ Q) X.xe s₃) X.xe s := by
    rw [hs]
    exact wpAny_operating (d_getItem hu I g ry fun w' s3 I3 rw' => wpAny_bind (wpAny_letTemporaryGo (wpAny_pure ⟨z, H, I3, rw', q⟩)))
  first
    | exact wpAny_pure (wpAny_bind fin)
    | exact wpAny_bind (wpAny_pure (wpAny_bind fin))
    | exact wpAny_bind fin
def bIx : Vw → Vw → Option RV
  | .d (.list ds), .d (.int i) => (atI ds i).map .val
  | .d (.tuple ds), .d (.int i) => (atI ds i).map .val
  | .d (.str z), .d (.int i) => if z.length ≤ sizeLine then (atI z.cps.toList i).map fun c => .val (.str ⟨#[c]⟩) else none
  | .k kvs, .d a => match toKey a with
    | some k => (lk kvs k).map .val
    | none => none
  | .t kvs, .d (.tuple a) => match toKeys a with
    | some k => (lk kvs k).map .val
    | none => none
  | _, _ => none
abbrev rIxAll (K : PySem.W.Frag) : R2 := fun x y H Q => rIx K x y H Q ∨ ∃ a v, x = .ref a ∧ DGet H a y (some v) ∧ Q v H
theorem ix_all (hu : X.A.units + 1 < cLine) : IxR X (rIxAll X.K) := ix_seq.or (ix_dict hu)
theorem atI_ok {F : Hp} {ds : List D} {vs : List V} {i : Int} {d : D} (r : Rps F ds vs) (h : atI ds i = some d) : ∃ v, atI vs i = some v ∧ Rp F d v := by
  unfold atI at h ⊢
  rw [r.length]
  obtain ⟨j, h1, h2⟩ := Option.bind_eq_some_iff.mp h
  obtain ⟨v, h3, h4⟩ := r.get h2
  exact ⟨v, by rw [h1]; exact h3, h4⟩
theorem ok_ix : Ok2 bIx (rIxAll X.K) := by
  intro F H x y vx vy res Q s hx hy h q
  unfold bIx at h
  split at h
  · obtain ⟨d, h1, rfl⟩ := Option.map_eq_some_iff.mp h
    obtain ⟨a, vs, rfl, h2, r⟩ := hx
    cases hy
    obtain ⟨v, h3, h4⟩ := atI_ok r h1
    exact .inl (.inl ⟨_, _, _, _, rfl, rfl, .inl h2, h3, q _ _ (.old s h4)⟩)
  · obtain ⟨d, h1, rfl⟩ := Option.map_eq_some_iff.mp h
    cases hx with
    | tup hx r =>
      cases hy
      obtain ⟨v, h3, h4⟩ := atI_ok r h1
      exact .inl (.inr (.inl ⟨_, _, _, _, rfl, rfl, .inl (.inl (s.same _ _ hx)), h3, q _ _ (.old s h4)⟩))
  · split at h
    · rename_i hz
      obtain ⟨c, h1, rfl⟩ := Option.map_eq_some_iff.mp h
      cases hx
      cases hy
      exact .inl (.inr (.inr ⟨_, _, _, rfl, rfl, hz, h1, q _ _ (.old s (.str _))⟩))
    · cases h
  · split at h
    · rename_i k hk
      obtain ⟨d, h1, rfl⟩ := Option.map_eq_some_iff.mp h
      obtain ⟨a, ks, rfl, e, r⟩ := hx
      obtain ⟨v, h3, h4⟩ := (r.lk k).1 d h1
      exact .inr ⟨a, v, rfl, .inl ⟨_, k, .inl e, toKey_ok hk (hy.whole s.same), h3.symm⟩, q _ _ (.old s h4)⟩
    · cases h
  · split at h
    · rename_i k hk
      obtain ⟨d, h1, rfl⟩ := Option.map_eq_some_iff.mp h
      obtain ⟨a, ks, rfl, e, r⟩ := hx
      obtain ⟨v, h3, h4⟩ := (r.lk k).1 d h1
      cases hy with
      | tup hy ry =>
        have ek := toKeys_ok hk ry
        subst ek
        exact .inr ⟨a, v, rfl, .inr ⟨_, k, _, .inl e, rfl, s.same _ _ hy, h3.symm⟩, q _ _ (.old s h4)⟩
    · cases h
  · cases h

/-! ## x[lo:hi] -/
def cutD (xs : List D) (lo hi : Option Int) : List D := (xs.drop (HT.sIx xs.length 0 lo)).take (HT.sIx xs.length xs.length hi - HT.sIx xs.length 0 lo)
theorem cut_ok {F : Hp} {ds : List D} {vs : List V} (r : Rps F ds vs) (lo hi : Option Int) : Rps F (cutD ds lo hi) (cutV vs lo hi) := by
  unfold cutD cutV
  rw [r.length]
  exact (r.drop _).take _
theorem sIx_zero {n : Nat} {lo : Option Int} (h : n = 0) : HT.sIx n 0 lo = 0 := by
  subst h
  cases lo with
  | none => rfl
  | some v => show (if v < 0 then _ else _) = _; split <;> omega
theorem cut_whole {ds : List D} {lo hi : Option Int} (h : HT.sIx ds.length 0 lo = 0 ∧ HT.sIx ds.length ds.length hi = ds.length) : cutD ds lo hi = ds := by
  unfold cutD
  rw [h.1, h.2]
  simp
def bSl (x : Vw) (lo hi : Option Int) : Option RV := match x with
  | .d (.list ds) => some (.own (.lst (cutD ds lo hi)))
  | .d (.tuple ds) => some (.val (.tuple (cutD ds lo hi)))
  | .d (.str z) => if z.length ≤ sizeLine then some (.val (.str (L2.cutS z lo hi))) else none
  | _ => none
abbrev rSlAll (K : PySem.W.Frag) : V → Option Int → Option Int → Hp → VK → Prop := fun x lo hi H Q => rSlL K x lo hi H Q ∨ rSlA K x lo hi H Q ∨ rSlS x lo hi H Q
theorem sl_all : SlR X (rSlAll X.K) := SlR.or sl_list (SlR.or sl_tupA sl_str)
theorem ok_sl {F H : Hp} {x : V} {vx : Vw} {lo hi : Option Int} {res : RV} {Q : VK} (s : Sb F H) (hx : VwR F H x vx) (h : bSl vx lo hi = some res) (q : ∀ v H', NewR F H H' v res → Q v H') : rSlAll X.K x lo hi H Q := by
  unfold bSl at h
  split at h
  · cases h
    obtain ⟨a, vs, rfl, h2, r⟩ := hx
    exact .inl ⟨a, vs, rfl, .inl h2, fun p np => q _ _ (.lst s np (cut_ok r lo hi))⟩
  · cases h
    cases hx with
    | tup hx r =>
      have hl := r.length
      refine .inr (.inl ⟨_, _, rfl, .inl (.inl (s.same _ _ hx)), fun hw => ?_, fun _ p np => q _ _ (.tup s np (cut_ok r lo hi))⟩)
      rw [hl] at hw
      rw [cut_whole hw] at q
      exact q _ _ (.old s (.tup hx r))
  · split at h
    · rename_i hz
      cases h
      cases hx
      exact .inr (.inr ⟨_, rfl, hz, q _ _ (.old s (.str _))⟩)
    · cases h
  · cases h
/-- a slice's part -/
def apPart (f : Option (Env → R RV)) (ρ : Env) : R (Option Int) := match f with
  | none => .ok none ρ
  | some f => (f ρ).bind fun u ρ1 => match u with
    | .val (.int i) => .ok (some i) ρ1
    | _ => .bad
def tPO (Wx : XW) (ev : Env → R (Option Int)) : TO := fun σ H Q => ∃ F ρ, SR F H σ ρ ∧
  match ev ρ with
  | .ok o ρ' => ∀ F' H', PostE F H σ ρ F' H' ρ' → Q o H'
  | .exc c ρ' => ∀ F' H', PostE F H σ ρ F' H' ρ' → Wx c σ H'
  | .bad => False
theorem DO_none {Wx : XW} : PO X none (tPO Wx (apPart none)) := ⟨fun pins s σ H Q I ⟨F, ρ, sr, h⟩ => po_none.run pins s σ H Q I (h F H (.refl sr))⟩
theorem DO_some {Wx : XW} {e : Expr} {f : Env → R RV} (he : PE X e (tD Wx f)) : PO X (some e) (tPO Wx (apPart (some f))) := by
  refine ⟨fun pins s σ H Q I h => (po_some he).run pins s σ H Q I ?_⟩
  obtain ⟨F, ρ, sr, h⟩ := h
  refine ⟨F, ρ, sr, ?_⟩
  cases hf : f ρ with
  | bad => simp only [apPart, hf, R.bind_bad] at h
  | exc c ρ1 => simp only [apPart, hf, R.bind_exc] at h; exact h
  | ok u ρ1 =>
    simp only [apPart, hf, R.bind_ok] at h
    intro F1 H1 x p1 v1
    cases u with
    | own o => exact h.elim
    | bor i => exact h.elim
    | val d =>
      cases d with
      | int i =>
        have v1 : Rp F1 (.int i) x := v1
        cases v1
        exact ⟨i, rfl, h F1 H1 p1⟩
      | _ => exact h.elim
theorem DE_sl {Wx : XW} {e : Expr} {lo hi : Option Expr} {f : Env → R RV} {gl gh : Env → R (Option Int)} {p2 pos : Pos} (he : PE X e (tD Wx f)) (hl : PO X lo (tPO Wx gl)) (hh : PO X hi (tPO Wx gh)) :
    PE X (.Subscript e (.Slice lo hi none p2) pos) (tD Wx fun ρ => (f ρ).bind fun u ρ1 => (gl ρ1).bind fun a ρ2 => (gh ρ2).bind fun b ρ3 => ap1 (fun x => bSl x a b) u ρ3) := by
  refine PE.imp (pe_slice sl_all he hl hh) fun σ H Q h => ?_
  obtain ⟨F, ρ, s, h⟩ := h
  refine ⟨F, ρ, s, ?_⟩
  cases hf : f ρ with
  | bad => simp only [hf, R.bind_bad] at h
  | exc c ρ1 => simp only [hf, R.bind_exc] at h; exact h
  | ok u ρ1 =>
    simp only [hf, R.bind_ok] at h
    intro F1 H1 x p1 v1
    refine ⟨F1, ρ1, p1.sr, ?_⟩
    cases hg : gl ρ1 with
    | bad => simp only [hg, R.bind_bad] at h
    | exc c ρ2 => simp only [hg, R.bind_exc] at h; exact fun F2 H2 p2 => h F2 H2 (p1.trans p2)
    | ok a ρ2 =>
      simp only [hg, R.bind_ok] at h
      intro F2 H2 p2
      refine ⟨F2, ρ2, p2.sr, ?_⟩
      cases hk : gh ρ2 with
      | bad => simp only [hk, R.bind_bad] at h
      | exc c ρ3 => simp only [hk, R.bind_exc] at h; exact fun F3 H3 p3 => h F3 H3 (p1.trans (p2.trans p3))
      | ok b ρ3 =>
        simp only [hk, R.bind_ok] at h
        intro F3 H3 p3
        have p23 := p2.trans p3
        have v3 := v1.later s p1 p23
        cases hw : viewRV ρ3 u with
        | none => simp only [ap1, hw] at h
        | some w =>
          cases hr : bSl w a b with
          | none => simp only [ap1, hw, hr] at h
          | some res =>
            simp only [ap1, hw, hr] at h
            refine ok_sl p3.sr.sub (view_ok p3.sr v3 hw) hr fun v H4 n => ?_
            obtain ⟨F4, p4, r4⟩ := n.post p3.sr
            exact h F4 H4 v (p1.trans (p23.trans p4)) (r4.from fun z e => p1.ext.back (p23.ext.back e))
end
end BX

set_option Elab.async false
set_option linter.all false
set_option maxRecDepth 100000
set_option maxHeartbeats 4000000
/-! ### sorted lists of alike things -/
namespace BX
open PySem PySem.Spec PyProof.Rows L2
variable [Tbs]
/-- every thing a tuple with something in it, any two alike, not deep; or one thing at most -/
def srtB (ds : List D) : Bool := (ds.all fun d => ds.all fun e => PySem.W.alike d e) && ((ds.all fun d => decide (d.depth ≤ 50)) && (decide (ds.length ≤ sizeLine) && ((ds.all fun d => match d with | .tuple (_ :: _) => true | _ => false) || (decide (ds.length ≤ 1) && ds.all fun d => match d with | .tuple _ => true | _ => false))))
def sortD (ds : List D) : List D := ds.mergeSort (PySem.W.dataLe false id)
section
variable {P : Program} {w : World} {H : Hp} {h : Heap}
mutual
theorem rp_reads (ok : HOk P w H h) : ∀ {d : D} {v : V} {u : Value}, Rp H d v → RelV v u → PySem.W.alike d d = true → ∃ as, Reads h u d as
  | _, _, _, .non, r, _ => by
    cases r
    exact ⟨_, .none⟩
  | _, _, _, .bl b, r, _ => by
    cases r
    exact ⟨_, .bool b⟩
  | _, _, _, .int i, r, _ => by
    obtain ⟨t, rfl⟩ := r
    exact ⟨_, .int i t⟩
  | _, _, _, .str x, r, _ => by
    obtain ⟨t, rfl⟩ := r
    exact ⟨_, .str x t⟩
  | _, _, _, .lst g rs, r, al => by
    cases r
    obtain ⟨_, its, n, rv, e⟩ := Rd.ok g ok
    obtain ⟨as, q⟩ := rps_reads ok rs rv (by simpa [PySem.W.alike] using al)
    exact ⟨_, .list e rfl rfl (by simpa using q)⟩
  | _, _, _, .tup g rs, r, al => by
    cases r
    obtain ⟨_, its, rv, ob, e, c, n, dd⟩ := ok _ _ g
    obtain ⟨as, q⟩ := rps_reads ok rs rv (by simpa [PySem.W.alike] using al)
    exact ⟨_, .tuple e c dd (by simpa using q)⟩
  | _, _, _, .dk _ _, _, al => by simp [PySem.W.alike] at al
  | _, _, _, .exc _, _, al => by simp [PySem.W.alike] at al
theorem rps_reads (ok : HOk P w H h) : ∀ {ds : List D} {vs : List V} {us : List Value}, Rps H ds vs → Vals vs us → PySem.W.alikeAll ds ds = true → ∃ as, ReadsAll h us ds as
  | _, _, _, .nil, r, _ => by
    cases r
    exact ⟨_, .nil⟩
  | _, _, _, .cons g gs, r, al => by
    cases r with
    | cons r1 r2 =>
      rw [PySem.W.alikeAll, Bool.and_eq_true] at al
      obtain ⟨as, q1⟩ := rp_reads ok g r1 al.1
      obtain ⟨bs, q2⟩ := rps_reads ok gs r2 al.2
      exact ⟨_, .cons q1 q2⟩
end
end
def rSortedG (K : PySem.W.Frag) : List V → Hp → VK → Prop := fun xs H Q => ∃ (F : Hp) (a : Addr) (vs : List V) (ds : List D), xs = [V.ref a] ∧ SqL K H a vs ∧ Same F H ∧ Rps F ds vs ∧ srtB ds = true ∧
  ∀ ys p, Rps F (sortD ds) ys → H p = none → Q (.ref p) (upd H p (.lst ys))
theorem rps_zip : ∀ {H : Hp} {ds : List D} {vs : List V}, Rps H ds vs → ∀ b ∈ vs.zip ds, Rp H b.2 b.1
  | _, _, _, .nil, b, hb => by cases hb
  | _, _, _, .cons g gs, b, hb => by
    rw [List.zip_cons_cons] at hb
    rcases List.mem_cons.mp hb with rfl | hb
    · exact g
    · exact rps_zip gs b hb
theorem rps_of {H : Hp} : ∀ (bs : List (V × D)), (∀ b ∈ bs, Rp H b.2 b.1) → Rps H (bs.map (·.2)) (bs.map (·.1))
  | [], _ => .nil
  | b :: bs, h => .cons (h b (List.mem_cons_self ..)) (rps_of bs fun c hc => h c (List.mem_cons_of_mem _ hc))
theorem each_zip : ∀ {vs : List V} {us : List Value} {ds : List D}, Vals vs us → vs.length = ds.length → PySem.W.EachIs (fun (u : Value) (b : V × D) => RelV b.1 u) us (vs.zip ds)
  | _, _, [], .nil, _ => .nil
  | _, _, d :: ds, .nil, h => by cases h
  | _, _, [], .cons _ _, h => by cases h
  | _, _, d :: ds, .cons r rs, h => .cons r (each_zip rs (by simpa using h))
theorem each_reads {P : Program} {w : World} {H : Hp} {h : Heap} (ok : HOk P w H h) : ∀ {us : List Value} {bs : List (V × D)}, PySem.W.EachIs (fun (u : Value) (b : V × D) => RelV b.1 u) us bs → (∀ b ∈ bs, Rp H b.2 b.1 ∧ PySem.W.alike b.2 b.2 = true) → PySem.W.EachIs (fun (u : Value) (b : V × D) => ∃ as, Reads h u b.2 as) us bs
  | _, _, .nil, _ => .nil
  | _, _, .cons r rs, hb => by
    have h1 := hb _ (List.mem_cons_self ..)
    exact .cons (rp_reads ok h1.1 r h1.2) (each_reads ok rs fun c hc => hb c (List.mem_cons_of_mem _ hc))
theorem vals_of_each : ∀ {us : List Value} {bs : List (V × D)}, PySem.W.EachIs (fun (u : Value) (b : V × D) => RelV b.1 u) us bs → Vals (bs.map (·.1)) us
  | _, _, .nil => .nil
  | _, _, .cons r rs => .cons r (vals_of_each rs)
theorem zip_snd : ∀ {vs : List V} {ds : List D}, vs.length = ds.length → (vs.zip ds).map (·.2) = ds
  | [], [], _ => rfl
  | v :: vs, d :: ds, h => by
    rw [List.zip_cons_cons, List.map_cons, zip_snd (by simpa using h)]
section
variable {X : Cx}
theorem cr_sortedG (hu : X.A.units + 65 < cLine) : CallR X (.builtin "sorted") (rSortedG X.K) := by
  intro pins s σ H xs us Q I r h
  obtain ⟨F, a, vs, ds, rfl, hs, hF, hrF, hb, q⟩ := h
  have hr := hrF.mono hF
  obtain ⟨its, rv, hl, hz⟩ := I.list hs
  obtain ⟨u, rfl, ru⟩ := vals1 r
  obtain rfl : u = Value.ref a := ru
  have hlen := hr.length
  unfold srtB at hb
  rw [Bool.and_eq_true, Bool.and_eq_true, Bool.and_eq_true] at hb
  obtain ⟨hal, hdep, hsz, hso⟩ := hb
  have hal : ∀ d ∈ ds, ∀ e ∈ ds, PySem.W.alike d e = true := fun d hd e he => List.all_eq_true.mp (List.all_eq_true.mp hal d hd) e he
  have hdep : ∀ d ∈ ds, d.depth ≤ 50 := fun d hd => of_decide_eq_true (List.all_eq_true.mp hdep d hd)
  have hsz : ds.length ≤ sizeLine := of_decide_eq_true hsz
  obtain ⟨bs, hbs⟩ : ∃ bs, bs = vs.zip ds := ⟨_, rfl⟩
  have e2 : bs.map (·.2) = ds := by rw [hbs]; exact zip_snd hlen
  have hrpF : ∀ b ∈ bs, Rp F b.2 b.1 := by rw [hbs]; exact rps_zip hrF
  have hrp : ∀ b ∈ bs, Rp H b.2 b.1 := fun b hb => (hrpF b hb).mono hF
  have hbd : ∀ b ∈ bs, b.2 ∈ ds := fun b hb => by rw [← e2]; exact List.mem_map.mpr ⟨b, hb, rfl⟩
  have hE := each_zip (ds := ds) rv hlen
  rw [← hbs] at hE
  have hbl : bs.length = ds.length := by rw [← e2, List.length_map]
  have hal' : PySem.W.AllAlike (bs.map (·.2)) := by
    rw [e2]
    exact hal
  have hER := each_reads I.hok hE fun b hb => ⟨hrp b hb, hal _ (hbd b hb) _ (hbd b hb)⟩
  have fin : ∀ out, PySem.W.EachIs (fun (u : Value) (b : V × D) => RelV b.1 u) out (bs.mergeSort (PySem.W.dataLe false (·.2))) → EP X pins σ Q (.ref (s.heap.objs.size + 1)) { s with heap := PyProof.Rows.sortedAll s.heap its out.toArray } := by
    intro out eo
    obtain ⟨cs, hcs⟩ : ∃ cs, cs = bs.mergeSort (PySem.W.dataLe false (·.2)) := ⟨_, rfl⟩
    rw [← hcs] at eo
    have hp : cs.Perm bs := by rw [hcs]; exact List.mergeSort_perm _ _
    have hsd : cs.map (·.2) = sortD ds := by
      rw [hcs, ← e2]
      unfold sortD
      exact List.map_mergeSort fun _ _ _ _ => rfl
    have hr2 : Rps F (sortD ds) (cs.map (·.1)) := by
      rw [← hsd]
      exact rps_of cs fun b hb => hrpF b (hp.mem_iff.mp hb)
    obtain ⟨ep, he'⟩ := PyProof.Rows.sortedAll_at s.heap its out.toArray
    have hln : (cs.map (·.1)).length ≤ sizeLine := by
      rw [List.length_map, hp.length_eq, hbl]
      exact hsz
    exact ⟨.ref _, upd H (s.heap.objs.size + 1) (.lst (cs.map (·.1))), I.laid (t' := s.toks) (fun _ _ => PyProof.Rows.sortedAll_old) (Nat.le_succ _) ⟨hln, out, ep, vals_of_each eo, he'⟩, rfl, q _ _ hr2 (I.hok.fresh (Nat.le_succ _))⟩
  rw [Bool.or_eq_true] at hso
  rcases hso with ht | h1
  · refine PySem.W.sorted_data (β := V × D) (enc := (·.2)) (R := fun u b => RelV b.1 u) hl.isList hE hER hal' ?_ (by rw [hbl]; exact hsz) (fun b hb => ?_) fun out _ eo => fin out eo
    · rw [e2]
      refine .inl fun d hd => ?_
      have := List.all_eq_true.mp ht d hd
      cases d with
      | tuple es =>
        cases es with
        | nil => cases this
        | cons x r => exact ⟨x, r, rfl⟩
      | _ => cases this
    · have := hdep _ (hbd b hb)
      omega
  · rw [Bool.and_eq_true] at h1
    have hone : ds.length ≤ 1 := of_decide_eq_true h1.1
    have htup : ∀ d ∈ ds, d ≠ .none := fun d hd e => by
      have := List.all_eq_true.mp h1.2 d hd
      rw [e] at this
      cases this
    have er' : PySem.W.EachIs (fun (u : Value) (b : V × D) => ∃ as, Reads (PySem.W.sortingHeap (PySem.W.copyHeap s.heap its) (s.heap.objs.size + 1) its) u b.2 as) its bs := hER.mono fun _ _ ⟨as, rd⟩ => ⟨as, PyProof.Rows.Reads.keeps (fun _ _ => PySem.W.sorting_copy_old) rd⟩
    have hil : its.length = bs.length := hE.length
    refine PySem.W.sorted_vals (κ := PySem.W.dataKind (PySem.W.sortingHeap (PySem.W.copyHeap s.heap its) (s.heap.objs.size + 1) its) (bs.map (·.2))) hl.isList ⟨fun v hv => ?_, general', fun E x y ka kb Qb ha hb hq => ?_, fun h2 => ?_⟩ (by rw [hil, hbl]; exact hsz) (fin _ (PySem.W.sortVals_data false hE er' hal'))
    · obtain ⟨b, hb, as, rd⟩ := er'.left v hv
      exact ⟨_, PySem.W.dataKind_some hal' (List.mem_map.mpr ⟨b, hb, rfl⟩) rd⟩
    · obtain ⟨d, as, hd, ra, rfl⟩ := PySem.W.dataKind_inv ha
      obtain ⟨d', as', hd', rb, rfl⟩ := PySem.W.dataKind_inv hb
      rw [e2] at hd hd'
      have hdp := hdep d hd
      show wpAny _ _ (oneLt' false x y) _ _ _
      exact PySem.W.oneLt_alike (f := false) (fun h => (by cases h)) ra rb (hal d hd d' hd') (htup d hd) (by
        show X.A.units + 2 + min d.depth d'.depth < cLine
        omega) hq
    · omega
end
end BX

set_option Elab.async false
set_option linter.all false
set_option maxRecDepth 100000
set_option maxHeartbeats 4000000
namespace PyProof.Rows
open PySem PySem.Spec
section
variable {prog : Program} {w : World} {A : Around} {E : Value → Shared → Prop} {s : Shared}
theorem bx_collect_tuple {l : Addr} {vs : List Value} {Q : List Value → Shared → Prop} (hl : s.heap.IsTuple l vs.toArray)
    (h : Q vs { s with heap := (s.heap.push (seqObj "list" #[] 0)).update s.heap.objs.size (Obj.mapSeq (· ++ vs.toArray)) }) (hsz : vs.length ≤ sizeLine) :
    wpAny (model prog w) A (collect (.ref l)) Q E s := by
  obtain ⟨o, ho, hc, n, hd⟩ := id hl
  unfold collect
  refine wpAny_bind (wpAny_runValue (codeAny_builtin entry_proto_collect' ?_))
  show wpAny _ _ (do again (.builtin "list.__iadd__" ⟨[← newList [], .ref l], []⟩)) _ _ s
  refine wpAny_bind (wpAny_newList (wpAny_pure ⟨Code.quiet_builtin _ (by decide +kernel), codeAny_builtin entry_list_iadd' ?_⟩))
  show wpAny _ _ (Builtin.List.listExtendWith (.ref s.heap.objs.size) (.ref l) (.ref s.heap.objs.size)) _ _ { s with heap := s.heap.push (seqObj "list" #[] 0) }
  unfold Builtin.List.listExtendWith
  have ho' : (s.heap.push (seqObj "list" #[] 0)).get? l = some o := Heap.get?_push_of_some _ ho
  refine wpAny_bind (wpAny_typeOf (T := "tuple") ⟨o, ho', hc⟩ ?_)
  have ht : (Value.type "tuple" == Value.type "tuple") = true := by rfl
  rw [if_pos (by rw [ht]; simp)]
  refine wpAny_bind (listItems_at ho' hd ?_)
  refine wpAny_bind (listItems_at (xs := #[]) (n := 0) (Heap.get?_push_size _ rfl) rfl ?_)
  rw [if_neg (by simp)]
  refine wpAny_bind (listUpdate_at (xs := #[]) (n := 0) (Heap.get?_push_size _ rfl) rfl ?_ (Nat.zero_le _) (by show (#[] ++ vs.toArray).size ≤ sizeLine + 1; simp only [Array.size_append, List.size_toArray, List.length_nil]; omega))
  refine wpAny_pure ?_
  show wpAny (model prog w) A (do
      let o ← load s.heap.objs.size
      match o.data with
      | .seq xs _ => pure xs.toList
      | _ => unsupported "internal:collect") Q E { s with heap := (s.heap.push (seqObj "list" #[] 0)).update s.heap.objs.size (Obj.mapSeq (· ++ vs.toArray)) }
  refine wpAny_bind (wpAny_load (get?_update_seq (Heap.get?_push_size _ rfl) _) ?_)
  show wpAny _ _ (pure ((#[] : Array Value) ++ vs.toArray).toList) Q E _
  rw [show ((#[] : Array Value) ++ vs.toArray).toList = vs by simp]
  exact wpAny_pure h
end
end PyProof.Rows
namespace SrtO
open PySem PySem.Spec PyProof.Rows
section
variable {prog : Program} {w : World} {A : Around} {E : Value → Shared → Prop} {s : Shared}
theorem bx_sorted_ordT {l : Addr} {vs : List Value} {ltv : Value → Value → Bool} {Q : Value → Shared → Prop} (O : Swo ltv) (hl : s.heap.IsTuple l vs.toArray) (hz : vs.length ≤ sizeLine)
    (hS : 2 ≤ vs.length → ∀ (h₁ : Heap) (a : Addr), h₁.get? a = some (seqObj "list" vs.toArray 0) → (∀ b o, s.heap.get? b = some o → b ≠ a ∧ h₁.get? b = some o) → SortableO prog w A.in1.in1 { s with heap := h₁ } a vs ltv)
    (h : ∀ out : List Value, Srtd ltv out → Stb ltv out vs → Q (.ref (s.heap.objs.size + 1)) { s with heap := sortedAll s.heap vs out.toArray }) :
    wpAny (model prog w) A (call (.builtin "sorted") [.ref l]) Q E s := by
  refine Calls.call_function_entry kind_sorted plain_sorted entry_sorted (args_sorted1 _) ?_
  unfold Builtin.«sorted»
  refine wpAny_bind (m := checkCount "sorted" 1 1 _) (wpAny_pure ?_)
  refine wpAny_bind (bx_collect_tuple hl ?_ hz)
  refine wpAny_bind (wpAny_newList ?_ hz)
  have hsz : ((s.heap.push (seqObj "list" #[] 0)).update s.heap.objs.size (Obj.mapSeq (· ++ vs.toArray))).objs.size = s.heap.objs.size + 1 := by
    rw [Heap.size_update, size_push']
  have hoL : (((s.heap.push (seqObj "list" #[] 0)).update s.heap.objs.size (Obj.mapSeq (· ++ vs.toArray))).push (seqObj "list" vs.toArray 0)).get? (s.heap.objs.size + 1) = some (seqObj "list" vs.toArray 0) := by
    rw [← hsz]; exact Heap.get?_push_size _ rfl
  have keep : ∀ b o, s.heap.get? b = some o → b ≠ s.heap.objs.size + 1 ∧ (((s.heap.push (seqObj "list" #[] 0)).update s.heap.objs.size (Obj.mapSeq (· ++ vs.toArray))).push (seqObj "list" vs.toArray 0)).get? b = some o := fun b o q => by
    have hlt : b < s.heap.objs.size := Heap.lt_size q
    refine ⟨Nat.ne_of_lt (Nat.lt_succ_of_lt hlt), Heap.get?_push_of_some _ ?_⟩
    rw [Heap.get?_update_ne _ _ _ _ (Nat.ne_of_lt hlt)]
    exact Heap.get?_push_of_some _ q
  show wpAny _ _ _ _ _ { s with heap := ((s.heap.push (seqObj "list" #[] 0)).update s.heap.objs.size (Obj.mapSeq (· ++ vs.toArray))).push (seqObj "list" vs.toArray 0) }
  rw [hsz]
  refine wpAny_bind (wpAny_holding (wpAny_call_entry slot_list_sort ⟨_, hoL, rfl⟩ entry_list_sort (list_sort_ord O hoL hz (fun h2 => hS h2 _ _ hoL keep) fun out hs hb => ⟨_, rfl, ?_⟩) (args_list_sort _)))
  exact wpAny_pure ⟨_, rfl, h out hs hb⟩
end
end SrtO
namespace BX
open PySem PySem.Spec PyProof.Rows L2
variable [Tbs]

/-! ## sorting -/
section
variable {α : Type}
def ins (le : α → α → Bool) (a : α) : List α → List α
  | [] => [a]
  | b :: r => if le a b = true then a :: b :: r else b :: ins le a r
def isort (le : α → α → Bool) : List α → List α
  | [] => []
  | a :: r => ins le a (isort le r)
theorem ins_perm (le : α → α → Bool) (a : α) : ∀ l : List α, (ins le a l).Perm (a :: l)
  | [] => .refl _
  | b :: r => by
    unfold ins
    split
    · exact .refl _
    · exact ((ins_perm le a r).cons b).trans (.swap a b r)
theorem isort_perm (le : α → α → Bool) : ∀ l : List α, (isort le l).Perm l
  | [] => .refl _
  | a :: r => (ins_perm le a _).trans ((isort_perm le r).cons a)
theorem ins_sorted {le : α → α → Bool} (tot : ∀ a b, le a b = true ∨ le b a = true) (tr : ∀ a b c, le a b = true → le b c = true → le a c = true) (a : α) :
    ∀ l : List α, l.Pairwise (fun x y => le x y = true) → (ins le a l).Pairwise (fun x y => le x y = true)
  | [], _ => List.pairwise_singleton _ _
  | b :: r, h => by
    unfold ins
    have h' := List.pairwise_cons.mp h
    split
    · rename_i hab
      refine List.pairwise_cons.mpr ⟨fun x hx => ?_, h⟩
      rcases List.mem_cons.mp hx with rfl | hx
      · exact hab
      · exact tr _ _ _ hab (h'.1 x hx)
    · rename_i hab
      refine List.pairwise_cons.mpr ⟨fun x hx => ?_, ins_sorted tot tr a r h'.2⟩
      rcases List.mem_cons.mp ((ins_perm le a r).mem_iff.mp hx) with rfl | hx
      · exact (tot x b).resolve_left hab
      · exact h'.1 x hx
theorem isort_sorted {le : α → α → Bool} (tot : ∀ a b, le a b = true ∨ le b a = true) (tr : ∀ a b c, le a b = true → le b c = true → le a c = true) :
    ∀ l : List α, (isort le l).Pairwise (fun x y => le x y = true)
  | [] => .nil
  | a :: r => ins_sorted tot tr a _ (isort_sorted tot tr r)
end
def leI (a b : Int) : Bool := decide (a ≤ b)
def sortI (l : List Int) : List Int := isort leI l
theorem sortI_perm (l : List Int) : (sortI l).Perm l := isort_perm _ l
theorem sortI_sorted (l : List Int) : (sortI l).Pairwise (· ≤ ·) := by
  have h := isort_sorted (le := leI) (fun a b => by unfold leI; simp only [decide_eq_true_eq]; omega) (fun a b c => by unfold leI; simp only [decide_eq_true_eq]; omega) l
  exact h.imp fun h => of_decide_eq_true h
theorem sortI_eq {l m : List Int} (p : m.Perm l) (s : m.Pairwise (· ≤ ·)) : m = sortI l :=
  List.Perm.eq_of_pairwise (le := fun a b => a ≤ b) (fun a b _ _ h1 h2 => by omega) s (sortI_sorted l) (p.trans (sortI_perm l).symm)
def leP (a b : Int × Int) : Bool := decide (a.1 < b.1 ∨ (a.1 = b.1 ∧ a.2 ≤ b.2))
def sortP (l : List (Int × Int)) : List (Int × Int) := isort leP l
theorem sortP_perm (l : List (Int × Int)) : (sortP l).Perm l := isort_perm _ l
theorem sortP_sorted (l : List (Int × Int)) : (sortP l).Pairwise (fun a b => leP a b = true) :=
  isort_sorted (fun a b => by unfold leP; simp only [decide_eq_true_eq]; omega) (fun a b c => by unfold leP; simp only [decide_eq_true_eq]; omega) l
theorem sortP_eq {l m : List (Int × Int)} (p : m.Perm l) (s : m.Pairwise (fun a b => leP a b = true)) : m = sortP l :=
  List.Perm.eq_of_pairwise (le := fun a b => leP a b = true) (fun a b _ _ h1 h2 => by
    unfold leP at h1 h2
    simp only [decide_eq_true_eq] at h1 h2
    exact Prod.ext (by omega) (by omega)) s (sortP_sorted l) (p.trans (sortP_perm l).symm)
def asPairs : List D → Option (List (Int × Int))
  | [] => some []
  | .tuple [.int i, .int j] :: ds => (asPairs ds).map ((i, j) :: ·)
  | _ => none
def pairD (p : Int × Int) : D := .tuple [.int p.1, .int p.2]
theorem asPairs_map (ns : List (Int × Int)) : asPairs (ns.map pairD) = some ns := by
  induction ns with
  | nil => rfl
  | cons n ns ih => simp only [List.map_cons, pairD, asPairs]; rw [ih]; rfl
theorem asPairs_ok : ∀ {ds : List D} {ns : List (Int × Int)}, asPairs ds = some ns → ds = ns.map pairD
  | [], ns, h => by simp only [asPairs, Option.some.injEq] at h; subst h; rfl
  | d :: ds, ns, h => by
    unfold asPairs at h
    split at h
    · rename_i e; cases e
    · rename_i i j ds' e
      cases e
      obtain ⟨ms, h1, rfl⟩ := Option.map_eq_some_iff.mp h
      rw [asPairs_ok h1]; rfl
    · cases h
/-- the pairs that stand behind the values -/
def keyOf (H : Hp) (v : V) : Int × Int := match v with
  | .ref a => match H a with
    | some (.tup [.int i, .int j]) => (i, j)
    | _ => (0, 0)
  | _ => (0, 0)
theorem pair_V {F : Hp} {p : Int × Int} {v : V} (h : Rp F (pairD p) v) : ∃ a, v = .ref a ∧ F a = some (.tup [.int p.1, .int p.2]) := by
  cases h with
  | tup h r =>
    cases r with
    | cons h1 r =>
      cases r with
      | cons h2 r =>
        cases r
        cases h1; cases h2
        exact ⟨_, rfl, h⟩
theorem pairs_V {F H : Hp} (s : Same F H) : ∀ {ps : List (Int × Int)} {vs : List V}, Rps F (ps.map pairD) vs → vs.map (keyOf H) = ps ∧ ∀ v ∈ vs, ∃ a, v = .ref a ∧ F a = some (.tup [.int (keyOf H v).1, .int (keyOf H v).2])
  | [], _, .nil => ⟨rfl, fun v hv => by cases hv⟩
  | p :: ps, _, .cons h r => by
    obtain ⟨h1, h2⟩ := pairs_V s r
    obtain ⟨a, rfl, e⟩ := pair_V h
    have ek : keyOf H (.ref a) = p := by
      unfold keyOf
      simp only [s _ _ e]
    refine ⟨by rw [List.map_cons, ek, h1], fun v hv => ?_⟩
    rcases List.mem_cons.mp hv with rfl | hv
    · exact ⟨a, rfl, by rw [ek]; exact e⟩
    · exact h2 v hv
theorem Rps.of_mem {F : Hp} (k : V → Int × Int) : ∀ {vs : List V}, (∀ v ∈ vs, ∃ a, v = .ref a ∧ F a = some (.tup [.int (k v).1, .int (k v).2])) → Rps F ((vs.map k).map pairD) vs
  | [], _ => .nil
  | v :: vs, h => by
    obtain ⟨a, rfl, e⟩ := h v List.mem_cons_self
    exact .cons (.tup e (.cons (.int _) (.cons (.int _) .nil))) (Rps.of_mem k fun u hu => h u (List.mem_cons_of_mem _ hu))

/-! ## builtins -/
inductive BI where | len | max | min | abs | int | str | tuple | list | sorted | all | any | sum | dict
def maxL : List Int → Int
  | [] => 0
  | [a] => a
  | a :: r => let m := maxL r; if m < a then a else m
def minL : List Int → Int
  | [] => 0
  | [a] => a
  | a :: r => let m := minL r; if a < m then a else m
theorem maxL_spec : ∀ {l : List Int}, l ≠ [] → maxL l ∈ l ∧ ∀ y ∈ l, y ≤ maxL l
  | [a], _ => ⟨List.mem_singleton.mpr rfl, fun y hy => by rw [List.mem_singleton.mp hy]; exact Int.le_refl _⟩
  | a :: b :: r, _ => by
    obtain ⟨h1, h2⟩ := maxL_spec (l := b :: r) (List.cons_ne_nil _ _)
    show (if maxL (b :: r) < a then a else maxL (b :: r)) ∈ _ ∧ ∀ y ∈ _, y ≤ (if maxL (b :: r) < a then a else maxL (b :: r))
    split
    · refine ⟨List.mem_cons_self, fun y hy => ?_⟩
      rcases List.mem_cons.mp hy with rfl | hy
      · exact Int.le_refl _
      · have := h2 y hy; omega
    · refine ⟨List.mem_cons_of_mem _ h1, fun y hy => ?_⟩
      rcases List.mem_cons.mp hy with rfl | hy
      · omega
      · exact h2 y hy
theorem minL_spec : ∀ {l : List Int}, l ≠ [] → minL l ∈ l ∧ ∀ y ∈ l, minL l ≤ y
  | [a], _ => ⟨List.mem_singleton.mpr rfl, fun y hy => by rw [List.mem_singleton.mp hy]; exact Int.le_refl _⟩
  | a :: b :: r, _ => by
    obtain ⟨h1, h2⟩ := minL_spec (l := b :: r) (List.cons_ne_nil _ _)
    show (if a < minL (b :: r) then a else minL (b :: r)) ∈ _ ∧ ∀ y ∈ _, (if a < minL (b :: r) then a else minL (b :: r)) ≤ y
    split
    · refine ⟨List.mem_cons_self, fun y hy => ?_⟩
      rcases List.mem_cons.mp hy with rfl | hy
      · exact Int.le_refl _
      · have := h2 y hy; omega
    · refine ⟨List.mem_cons_of_mem _ h1, fun y hy => ?_⟩
      rcases List.mem_cons.mp hy with rfl | hy
      · omega
      · exact h2 y hy
def vInt (i : Int) : Option RV := some (.val (.int i))
def bLen : List Vw → Option RV
  | [.d (.list ds)] => vInt ds.length
  | [.d (.tuple ds)] => vInt ds.length
  | [.d (.str z)] => if z.length ≤ sizeLine then vInt z.length else none
  | _ => none
def bMax : List Vw → Option RV
  | [.d (.int i), .d (.int j)] => vInt (if j > i then j else i)
  | [.d (.list ds)] => match asInts ds with
    | some ns => if ns = [] then none else vInt (maxL ns)
    | none => none
  | [.d (.tuple ds)] => match asInts ds with
    | some ns => if ns = [] then none else vInt (maxL ns)
    | none => none
  | _ => none
def bMin : List Vw → Option RV
  | [.d (.int i), .d (.int j)] => vInt (if j < i then j else i)
  | [.d (.list ds)] => match asInts ds with
    | some ns => if ns = [] then none else vInt (minL ns)
    | none => none
  | _ => none
def bAbs : List Vw → Option RV
  | [.d (.int i)] => vInt (if i < 0 then -i else i)
  | _ => none
def bInt : List Vw → Option RV
  | [.d (.int i)] => vInt i
  | [.d (.bool b)] => vInt (if b then 1 else 0)
  | [.d (.str z)] => if z.length ≤ 640 then (PySem.intText? z).map fun n => .val (.int n) else none
  | _ => none
def bStr : List Vw → Option RV
  | [.d (.int i)] => if i.natAbs.log2 < 1920 then some (.val (.str (toString i))) else none
  | _ => none
def bTuple : List Vw → Option RV
  | [.d (.list ds)] => some (.val (.tuple ds))
  | [.d (.tuple ds)] => some (.val (.tuple ds))
  | _ => none
def bList : List Vw → Option RV
  | [.d (.list ds)] => some (.own (.lst ds))
  | [.d (.tuple ds)] => some (.own (.lst ds))
  | _ => none
def intKeys : List Key → Option (List Int)
  | [] => some []
  | .inl i :: ks => (intKeys ks).map (i :: ·)
  | _ => none
theorem intKeys_ok : ∀ {ks : List Key} {ns : List Int}, intKeys ks = some ns → ks = ns.map Sum.inl
  | [], ns, h => by cases h; rfl
  | .inl i :: ks, ns, h => by
    unfold intKeys at h
    obtain ⟨ms, e, rfl⟩ := Option.map_eq_some_iff.mp h
    rw [intKeys_ok e]; rfl
  | .inr _ :: ks, ns, h => by cases h
theorem intKeys_map (ns : List Int) : intKeys (ns.map Sum.inl) = some ns := by
  induction ns with
  | nil => rfl
  | cons n ns ih => rw [List.map_cons]; unfold intKeys; rw [ih]; rfl
def bSorted : List Vw → Option RV
  | [.d (.list ds)] => match asInts ds with
    | some ns => some (.own (.lst ((sortI ns).map .int)))
    | none => match asPairs ds with
      | some ps => some (.own (.lst ((sortP ps).map pairD)))
      | none => if srtB ds = true then some (.own (.lst (sortD ds))) else none
  | [.d (.tuple ds)] => match asInts ds with
    | some ns => some (.own (.lst ((sortI ns).map .int)))
    | none => none
  | [.k kvs] => match intKeys (kvs.map (·.1)) with
    | some ks => if ks.length < 64 then some (.own (.lst ((sortI ks).map .int))) else none
    | none => none
  | _ => none
def bAll : List Vw → Option RV
  | [.d (.list ds)] => (asBools ds).map fun bs => .val (.bool (bs.all id))
  | _ => none
def bAny : List Vw → Option RV
  | [.d (.list ds)] => (asBools ds).map fun bs => .val (.bool (bs.any id))
  | _ => none
def bSum : List Vw → Option RV
  | [.d (.list ds)] => (asInts ds).map fun ns => .val (.int ns.sum)
  | [.d (.tuple ds)] => (asInts ds).map fun ns => .val (.int ns.sum)
  | _ => none
section
variable {X : Cx}
abbrev rLen1 (K : PySem.W.Frag) : List V → Hp → VK → Prop := fun xs H Q => ∃ x n, xs = [x] ∧ LenV K x H n ∧ Q (.int n) H
theorem ok_len : OkN bLen (rLen1 X.K) := by
  intro F H xs ws res Q s hx h q
  unfold bLen at h
  split at h
  · cases h
    cases hx with
    | cons h1 r =>
      cases r
      obtain ⟨a, vs, rfl, h2, r⟩ := h1
      refine ⟨_, _, rfl, .inl ⟨vs, .inl h2, rfl⟩, ?_⟩
      rw [r.length]
      exact q _ _ (.old s (.int _))
  · cases h
    cases hx with
    | cons h1 r =>
      cases r
      cases h1 with
      | tup h2 r =>
        refine ⟨_, _, rfl, .inr ⟨_, .inl (.inl (s.same _ _ h2)), rfl⟩, ?_⟩
        rw [r.length]
        exact q _ _ (.old s (.int _))
  · split at h
    · rename_i hz
      cases h
      cases hx with
      | cons h1 r =>
        cases r
        cases h1
        exact ⟨_, _, rfl, ⟨hz, rfl⟩, q _ _ (.old s (.int _))⟩
    · cases h
  · cases h
theorem reads_ints {h : Heap} : ∀ {ns : List Int} {us : List Value}, Vals (ns.map V.int) us → ∃ as, ReadsAll h us (ns.map PyData.int) as
  | [], _, r => by
    cases r
    exact ⟨_, .nil⟩
  | n :: ns, _, r => by
    cases r with
    | cons r1 r2 =>
      obtain ⟨t, rfl⟩ := r1
      obtain ⟨as, q⟩ := reads_ints r2
      exact ⟨_, .cons (.int n t) q⟩
theorem fold_max : ∀ (ms : List Int) (n : Int), ms.foldl max n ∈ n :: ms ∧ ∀ y ∈ n :: ms, y ≤ ms.foldl max n
  | [], n => ⟨List.mem_cons_self .., fun y hy => by
    rw [List.mem_singleton.mp hy]
    exact Int.le_refl _⟩
  | m :: ms, n => by
    have ih := fold_max ms (max n m)
    rw [List.foldl_cons]
    refine ⟨?_, fun y hy => ?_⟩
    · rcases List.mem_cons.mp ih.1 with e | e
      · rw [e]
        by_cases hc : n ≤ m
        · rw [Int.max_eq_right hc]
          simp
        · rw [Int.max_eq_left (by omega)]
          simp
      · exact List.mem_cons_of_mem _ (List.mem_cons_of_mem _ e)
    · have h0 := ih.2 (max n m) (List.mem_cons_self ..)
      rcases List.mem_cons.mp hy with rfl | hy
      · omega
      · rcases List.mem_cons.mp hy with rfl | hy
        · omega
        · exact ih.2 y (List.mem_cons_of_mem _ hy)
def rMaxT (K : PySem.W.Frag) : List V → Hp → VK → Prop := fun vs H Q => ∃ (a : Addr) (ns : List Int), vs = [V.ref a] ∧ SqT K H a (ns.map V.int) ∧ ns ≠ [] ∧ Q (.int (maxL ns)) H
theorem cr_maxT (hc : X.calm = true) (hu : X.A.units + 65 < cLine) : CallR X (.builtin "max") (rMaxT X.K) := by
  intro pins s σ H vs us Q I r h
  obtain ⟨a, ns, rfl, hs, hn, q⟩ := h
  obtain ⟨its, rv, hl, _⟩ := I.tuple hs
  rw [Vals.ref1 r]
  cases ns with
  | nil => exact absurd rfl hn
  | cons n ms =>
    obtain ⟨as, hr⟩ := reads_ints (h := s.heap) rv
    have hd : PyData.depthAll ((n :: ms).map PyData.int) = 0 := PySem.W.depth_ints _
    refine PySem.W.max_tuple_data (x := .int n) (xs := ms.map .int) (I.ok.hd hc) hl (by simpa using hr) ⟨fun x hx y hy => ?_, fun x hx => ?_⟩ (by
      have : PyData.depthAll (PyData.int n :: ms.map .int) = 0 := hd
      rw [this]
      omega) fun i v h' tk bs _ rd hk => ?_
    · have hx : x ∈ (n :: ms).map PyData.int := hx
      have hy : y ∈ (n :: ms).map PyData.int := hy
      obtain ⟨_, _, rfl⟩ := List.mem_map.mp hx
      obtain ⟨_, _, rfl⟩ := List.mem_map.mp hy
      rfl
    · have hx : x ∈ (n :: ms).map PyData.int := hx
      obtain ⟨_, _, rfl⟩ := List.mem_map.mp hx
      exact fun e => by cases e
    · rw [PySem.W.maxD_ints] at rd
      have e : ms.foldl max n = maxL (n :: ms) := by
        have a1 := fold_max ms n
        have a2 := maxL_spec (l := n :: ms) (by simp)
        exact Int.le_antisymm (a2.2 _ a1.1) (a1.2 _ a2.1)
      rw [e] at rd
      cases rd with
      | int _ t => exact ⟨.int _, H, I.kept hk, ⟨t, rfl⟩, q⟩
abbrev rMaxA (K : PySem.W.Frag) : List V → Hp → VK → Prop := fun xs H Q => (∃ i j, xs = [.int i, .int j] ∧ Q (.int (if j > i then j else i)) H) ∨ (rMax K xs H Q ∨ rMaxT K xs H Q)
abbrev rMinA (K : PySem.W.Frag) : List V → Hp → VK → Prop := fun xs H Q => (∃ i j, xs = [.int i, .int j] ∧ Q (.int (if j < i then j else i)) H) ∨ rMin K xs H Q
theorem ok_max : OkN bMax (rMaxA X.K) := by
  intro F H xs ws res Q s hx h q
  unfold bMax at h
  split at h
  · cases h
    cases hx with
    | cons h1 r =>
      cases r with
      | cons h2 r =>
        cases r; cases h1; cases h2
        exact .inl ⟨_, _, rfl, q _ _ (.old s (.int _))⟩
  · split at h
    · rename_i ns e
      split at h
      · cases h
      · rename_i hn
        cases h
        have e := asInts_ok e
        subst e
        cases hx with
        | cons h1 r =>
          cases r
          obtain ⟨a, vs, rfl, h2, r⟩ := h1
          have ev := r.ints_eq
          subst ev
          refine .inr (.inl ⟨a, ns, rfl, .inl h2, List.length_pos_iff.mpr hn, fun m hm hy => ?_⟩)
          have sp := maxL_spec hn
          have em : m = maxL ns := Int.le_antisymm (sp.2 m hm) (hy _ sp.1)
          rw [em]
          exact q _ _ (.old s (.int _))
    · cases h
  · split at h
    · rename_i ns e
      split at h
      · cases h
      · rename_i hn
        cases h
        have e := asInts_ok e
        subst e
        cases hx with
        | cons h1 r =>
          cases r
          cases h1 with
          | tup h2 r =>
            have ev := r.ints_eq
            subst ev
            exact .inr (.inr ⟨_, ns, rfl, .inl (.inl (s.same _ _ h2)), hn, q _ _ (.old s (.int _))⟩)
    · cases h
  · cases h
theorem ok_min : OkN bMin (rMinA X.K) := by
  intro F H xs ws res Q s hx h q
  unfold bMin at h
  split at h
  · cases h
    cases hx with
    | cons h1 r =>
      cases r with
      | cons h2 r =>
        cases r; cases h1; cases h2
        exact .inl ⟨_, _, rfl, q _ _ (.old s (.int _))⟩
  · split at h
    · rename_i ns e
      split at h
      · cases h
      · rename_i hn
        cases h
        have e := asInts_ok e
        subst e
        cases hx with
        | cons h1 r =>
          cases r
          obtain ⟨a, vs, rfl, h2, r⟩ := h1
          have ev := r.ints_eq
          subst ev
          refine .inr ⟨a, ns, rfl, .inl h2, List.length_pos_iff.mpr hn, fun m hm hy => ?_⟩
          have sp := minL_spec hn
          have em : m = minL ns := Int.le_antisymm (hy _ sp.1) (sp.2 m hm)
          rw [em]
          exact q _ _ (.old s (.int _))
    · cases h
  · cases h
theorem ok_abs : OkN bAbs (fun xs H Q => ∃ i, xs = [.int i] ∧ Q (.int (if i < 0 then -i else i)) H) := by
  intro F H xs ws res Q s hx h q
  unfold bAbs at h
  split at h
  · cases h
    cases hx with
    | cons h1 r =>
      cases r; cases h1
      exact ⟨_, rfl, q _ _ (.old s (.int _))⟩
  · cases h
abbrev rIntA : List V → Hp → VK → Prop := fun xs H Q => ((∃ i, xs = [.int i] ∧ Q (.int i) H) ∨ ∃ k, xs = [.bl k] ∧ Q (.int (if k then 1 else 0)) H) ∨ ∃ a n, xs = [.str a] ∧ PySem.intText? a = some n ∧ a.length ≤ 640 ∧ Q (.int n) H
theorem ok_int : OkN bInt rIntA := by
  intro F H xs ws res Q s hx h q
  unfold bInt at h
  split at h
  · cases h
    cases hx with
    | cons h1 r =>
      cases r; cases h1
      exact .inl (.inl ⟨_, rfl, q _ _ (.old s (.int _))⟩)
  · cases h
    cases hx with
    | cons h1 r =>
      cases r; cases h1
      exact .inl (.inr ⟨_, rfl, q _ _ (.old s (.int _))⟩)
  · split at h
    · rename_i hz
      obtain ⟨n, e, rfl⟩ := Option.map_eq_some_iff.mp h
      cases hx with
      | cons h1 r =>
        cases r; cases h1
        exact .inr ⟨_, n, rfl, e, hz, q _ _ (.old s (.int _))⟩
    · cases h
  · cases h
theorem ok_str : OkN bStr (fun xs H Q => ∃ i, xs = [.int i] ∧ i.natAbs.log2 < 1920 ∧ Q (.str (toString i)) H) := by
  intro F H xs ws res Q s hx h q
  unfold bStr at h
  split at h
  · split at h
    · rename_i hz
      cases h
      cases hx with
      | cons h1 r =>
        cases r; cases h1
        exact ⟨_, rfl, hz, q _ _ (.old s (.str _))⟩
    · cases h
  · cases h
abbrev rTupA (K : PySem.W.Frag) : List V → Hp → VK → Prop := fun xs H Q => ∃ p ys, xs = [.ref p] ∧ ((SqL K H p ys ∧ ∀ l, H l = none → Q (.ref l) (upd H l (.tup ys))) ∨ (SqT K H p ys ∧ Q (.ref p) H))
theorem ok_tuple : OkN bTuple (rTupA X.K) := by
  intro F H xs ws res Q s hx h q
  unfold bTuple at h
  split at h
  · cases h
    cases hx with
    | cons h1 r =>
      cases r
      obtain ⟨a, vs, rfl, h2, r⟩ := h1
      exact ⟨a, vs, rfl, .inl ⟨.inl h2, fun l nl => q _ _ (.tup s nl r)⟩⟩
  · cases h
    cases hx with
    | cons h1 r =>
      cases r
      cases h1 with
      | tup h2 r => exact ⟨_, _, rfl, .inr ⟨.inl (.inl (s.same _ _ h2)), q _ _ (.old s (.tup h2 r))⟩⟩
  · cases h
abbrev rLstA (K : PySem.W.Frag) : List V → Hp → VK → Prop := fun xs H Q => ∃ p ys, xs = [.ref p] ∧ (SqL K H p ys ∨ SqT K H p ys) ∧ ∀ l, H l = none → Q (.ref l) (upd H l (.lst ys))
theorem ok_list : OkN bList (rLstA X.K) := by
  intro F H xs ws res Q s hx h q
  unfold bList at h
  split at h
  · cases h
    cases hx with
    | cons h1 r =>
      cases r
      obtain ⟨a, vs, rfl, h2, r⟩ := h1
      exact ⟨a, vs, rfl, .inl (.inl h2), fun l nl => q _ _ (.lst s nl r)⟩
  · cases h
    cases hx with
    | cons h1 r =>
      cases r
      cases h1 with
      | tup h2 r => exact ⟨_, _, rfl, .inr (.inl (.inl (s.same _ _ h2))), fun l nl => q _ _ (.lst s nl r)⟩
  · cases h
def rSortedIT (K : PySem.W.Frag) : List V → Hp → VK → Prop := fun vs H Q => ∃ (a : Addr) (ns : List Int), vs = [V.ref a] ∧ SqT K H a (ns.map V.int) ∧
  ∀ (ns' : List Int) (p : Addr), ns'.Perm ns → ns'.Pairwise (· ≤ ·) → H p = none → Q (.ref p) (upd H p (.lst (ns'.map V.int)))
theorem cr_sortedIT : CallR X (.builtin "sorted") (rSortedIT X.K) := by
  intro pins s σ H vs us Q I r h
  obtain ⟨a, ns, rfl, hs, q⟩ := h
  obtain ⟨its, rv, hl, hz⟩ := I.tuple hs
  rw [Vals.ref1 r]
  have hi := rv.ints
  refine SrtO.bx_sorted_ordT SrtO.swo_int hl (by rw [← rv.length]; exact hz) (fun h2 h₁ a' _ _ => SrtO.ints_sortable hi h2) fun out h1 h2 => ?_
  obtain ⟨k1, k2, k3⟩ := SrtO.ints_out hi h1 h2
  obtain ⟨ep, he'⟩ := PyProof.Rows.sortedAll_at s.heap its out.toArray
  have hlen : ((out.map SrtO.iv).map V.int).length ≤ sizeLine := by
    rw [List.length_map, k2.length_eq]
    rw [List.length_map] at hz
    exact hz
  exact ⟨.ref _, upd H (s.heap.objs.size + 1) (.lst ((out.map SrtO.iv).map V.int)), I.laid (t' := s.toks) (fun _ _ => PyProof.Rows.sortedAll_old) (Nat.le_succ _) ⟨hlen, out, ep, vals_of_ints k1, he'⟩, rfl, q _ _ k2 k3 (I.hok.fresh (Nat.le_succ _))⟩
abbrev rSrtL (K : PySem.W.Frag) : List V → Hp → VK → Prop := fun xs H Q => (rSortedI K xs H Q ∨ rSortedPO K xs H Q) ∨ ∃ (a : Addr) (kvs : List (Key × V)) (ks : List Int), xs = [.ref a] ∧ Rd H a (.dK kvs) ∧ kvs.map (·.1) = ks.map Sum.inl ∧ ks.length < 64 ∧
    ∀ (ys : List Int) (p : Addr), ys.Perm ks → ys.Pairwise (· ≤ ·) → H p = none → Q (.ref p) (upd H p (.lst (ys.map V.int)))
abbrev rSrt (K : PySem.W.Frag) : List V → Hp → VK → Prop := fun xs H Q => (rSrtL K xs H Q ∨ rSortedIT K xs H Q) ∨ rSortedG K xs H Q
theorem cr_srt (hc : X.calm = true) (hu : X.A.units + 65 < cLine) : CallR X (.builtin "sorted") (rSrt X.K) := CallR.or (CallR.or (CallR.or (CallR.or cr_sortedI cr_sortedPO) (call_sortedDI hc)) cr_sortedIT) (cr_sortedG hu)
theorem ok_sorted : OkN bSorted (rSrt X.K) := by
  intro F H xs ws res Q s hx h q
  unfold bSorted at h
  split at h
  · cases hx with
    | cons h1 r =>
      cases r
      obtain ⟨a, vs, rfl, h2, r⟩ := h1
      split at h
      · rename_i ns e
        cases h
        have e := asInts_ok e
        subst e
        have ev := r.ints_eq
        subst ev
        refine .inl (.inl (.inl (.inl ⟨a, ns, rfl, .inl h2, fun ns' p pm so np => ?_⟩)))
        rw [sortI_eq pm so]
        exact q _ _ (.lst s np (.ints _))
      · split at h
        · rename_i ps e
          cases h
          have e := asPairs_ok e
          subst e
          obtain ⟨k1, k2⟩ := pairs_V s.same r
          refine .inl (.inl (.inl (.inr ⟨a, vs, keyOf H, rfl, .inl h2, fun x hx => ?_, fun ys p so st np => ?_⟩)))
          · obtain ⟨b, rfl, e⟩ := k2 x hx
            exact ⟨b, rfl, s.same _ _ e⟩
          · refine q _ _ (.lst s np ?_)
            have pm := st.perm
            have e3 : ys.map (keyOf H) = sortP ps := by
              refine sortP_eq ?_ ?_
              · rw [← k1]
                exact pm.map _
              · refine List.pairwise_map.mpr (so.imp fun {x y} hxy => ?_)
                unfold leP
                simp only [decide_eq_true_eq]
                have hxy : SrtO.lexB (keyOf H y) (keyOf H x) = false := hxy
                have h2 : ¬ (SrtO.lexB (keyOf H y) (keyOf H x) = true) := by rw [hxy]; exact Bool.false_ne_true
                rw [SrtO.lexB_iff] at h2
                omega
            rw [← e3]
            exact Rps.of_mem _ fun v hv => k2 v (pm.mem_iff.mp hv)
        · split at h
          · rename_i hsb
            cases h
            exact .inr ⟨F, a, vs, _, rfl, .inl h2, s.same, r, hsb, fun ys p rp np => q _ _ (.lst s np rp)⟩
          · cases h
  · split at h
    · rename_i ns e
      cases h
      have e := asInts_ok e
      subst e
      cases hx with
      | cons h1 r =>
        cases r
        cases h1 with
        | tup h2 r =>
          have ev := r.ints_eq
          subst ev
          refine .inl (.inr ⟨_, ns, rfl, .inl (.inl (s.same _ _ h2)), fun ns' p pm so np => ?_⟩)
          rw [sortI_eq pm so]
          exact q _ _ (.lst s np (.ints _))
    · cases h
  · rename_i kvs
    split at h
    · rename_i ks e
      split at h
      · rename_i hl
        cases h
        cases hx with
        | cons h1 r =>
          cases r
          obtain ⟨a, us, rfl, h2, r⟩ := h1
          refine .inl (.inl (.inr ⟨a, us, ks, rfl, .inl h2, ?_, hl, fun ys p pm so np => ?_⟩))
          · rw [r.keys]
            exact intKeys_ok e
          · rw [sortI_eq pm so]
            exact q _ _ (.lst s np (.ints _))
      · cases h
    · cases h
  · cases h
theorem ok_all : OkN bAll (rAll X.K) := by
  intro F H xs ws res Q s hx h q
  unfold bAll at h
  split at h
  · obtain ⟨bs, e, rfl⟩ := Option.map_eq_some_iff.mp h
    have e := asBools_ok e
    subst e
    cases hx with
    | cons h1 r =>
      cases r
      obtain ⟨a, vs, rfl, h2, r⟩ := h1
      have ev := r.bools_eq
      subst ev
      exact ⟨a, bs, rfl, .inl h2, q _ _ (.old s (.bl _))⟩
  · cases h
theorem ok_any : OkN bAny (rAny X.K) := by
  intro F H xs ws res Q s hx h q
  unfold bAny at h
  split at h
  · obtain ⟨bs, e, rfl⟩ := Option.map_eq_some_iff.mp h
    have e := asBools_ok e
    subst e
    cases hx with
    | cons h1 r =>
      cases r
      obtain ⟨a, vs, rfl, h2, r⟩ := h1
      have ev := r.bools_eq
      subst ev
      exact ⟨a, bs, rfl, .inl h2, q _ _ (.old s (.bl _))⟩
  · cases h
def rSumT (K : PySem.W.Frag) : List V → Hp → VK → Prop := fun vs H Q => ∃ (a : Addr) (ns : List Int), vs = [V.ref a] ∧ SqT K H a (ns.map V.int) ∧ Q (.int ns.sum) H
theorem cr_sumT (hc : X.calm = true) : CallR X (.builtin "sum") (rSumT X.K) := by
  intro pins s σ H vs us Q I r h
  obtain ⟨a, ns, rfl, hs, q⟩ := h
  obtain ⟨its, rv, hl, _⟩ := I.tuple hs
  rw [Vals.ref1 r]
  have hi := rv.ints
  obtain ⟨xs, e⟩ := hi.allInts.items
  have hn : numsOf (intItems xs).toList = ns := by rw [← e]; exact hi.numsOf
  rw [nums_intItems] at hn
  rw [e] at hl
  refine PySem.W.ktm_sumG (I.ok.hd hc) hl fun h' tk t' hk => ?_
  have := (⟨.int _, H, I.kept hk, ⟨_, rfl⟩, q⟩ : EP X pins σ Q (.int ns.sum t') { s with heap := h', toks := tk })
  rw [preSum_eq, List.take_of_length_le (by simp), hn]; exact this
abbrev rSumA (K : PySem.W.Frag) : List V → Hp → VK → Prop := fun xs H Q => rSum K xs H Q ∨ rSumT K xs H Q
theorem ok_sum : OkN bSum (rSumA X.K) := by
  intro F H xs ws res Q s hx h q
  unfold bSum at h
  split at h
  rotate_left
  · obtain ⟨bs, e, rfl⟩ := Option.map_eq_some_iff.mp h
    have e := asInts_ok e
    subst e
    cases hx with
    | cons h1 r =>
      cases r
      cases h1 with
      | tup h2 r =>
        have ev := r.ints_eq
        subst ev
        exact .inr ⟨_, bs, rfl, .inl (.inl (s.same _ _ h2)), q _ _ (.old s (.int _))⟩
  · cases h
  · obtain ⟨bs, e, rfl⟩ := Option.map_eq_some_iff.mp h
    have e := asInts_ok e
    subst e
    cases hx with
    | cons h1 r =>
      cases r
      obtain ⟨a, vs, rfl, h2, r⟩ := h1
      have ev := r.ints_eq
      subst ev
      exact .inl ⟨a, bs, rfl, .inl h2, q _ _ (.old s (.int _))⟩
/-- dict(list of pairs) -/
def toPairsK : List D → Option (List (Key × D))
  | [] => some []
  | .tuple [k, d] :: ds => match toKey k, toPairsK ds with
    | some k, some r => some ((k, d) :: r)
    | _, _ => none
  | _ => none
def mergeD (kvs more : List (Key × D)) : List (Key × D) := more.foldl (fun acc kv => pt acc kv.1 kv.2) kvs
theorem KR.merge {F : Hp} {more : List (Key × D)} {us : List (Key × V)} (m : KR F more us) : ∀ {ds : List (Key × D)} {vs : List (Key × V)}, KR F ds vs → KR F (mergeD ds more) (mergeK vs us) := by
  induction m with
  | nil => exact fun r => r
  | cons h z ih => exact fun r => ih (r.pt h)
theorem pairsK_ok {F H : Hp} {K : PySem.W.Frag} (s : Same F H) : ∀ {ds : List D} {vs : List V} {kvs : List (Key × D)}, Rps F ds vs → toPairsK ds = some kvs →
    ∃ (ps : List Addr) (us : List (Key × V)), vs = ps.map V.ref ∧ KR F kvs us ∧ Paired (fun p kv => SqT K H p [kV kv.1, kv.2]) ps us
  | [], _, kvs, .nil, h => by cases h; exact ⟨[], [], rfl, .nil, .nil⟩
  | d :: ds, _, kvs, .cons g r, h => by
    unfold toPairsK at h
    split at h
    · rename_i e; cases e
    · rename_i k d' ds' e
      cases e
      split at h
      · rename_i k' r' e1 e2
        cases h
        obtain ⟨ps, us, h1, h2, h3⟩ := pairsK_ok (K := K) s r e2
        cases g with
        | tup g r =>
          cases r with
          | cons g1 r =>
            cases r with
            | cons g2 r =>
              cases r
              have ek := toKey_ok e1 g1
              subst ek h1
              exact ⟨_ :: ps, _ :: us, rfl, .cons g2 h2, .cons (.inl (.inl (s _ _ g))) h3⟩
      · cases h
    · cases h
def bDict : List Vw → Option RV
  | [.d (.list ds)] => (toPairsK ds).map fun kvs => .own (.dK (mergeD [] kvs))
  | _ => none
abbrev rDictA (K : PySem.W.Frag) : List V → Hp → VK → Prop := fun xs H Q => ∃ (a : Addr) (ps : List Addr) (kvs : List (Key × V)), xs = [.ref a] ∧ SqL K H a (ps.map V.ref) ∧ Paired (fun p kv => SqT K H p [kV kv.1, kv.2]) ps kvs ∧
    ∀ p, H p = none → Q (.ref p) (upd H p (.dK (mergeK [] kvs)))
theorem ok_dict : OkN bDict (rDictA X.K) := by
  intro F H xs ws res Q s hx h q
  unfold bDict at h
  split at h
  · obtain ⟨kvs, e, rfl⟩ := Option.map_eq_some_iff.mp h
    cases hx with
    | cons h1 r =>
      cases r
      obtain ⟨a, vs, rfl, h2, r⟩ := h1
      obtain ⟨ps, us, rfl, h3, h4⟩ := pairsK_ok (K := X.K) s.same r e
      exact ⟨a, ps, us, rfl, .inl h2, h4, fun p np => q _ _ ⟨same_upd np, p, rfl, .non np, s.free np, _, upd_same, h3.merge .nil⟩⟩
  · cases h
end
def bi : BI → List Vw → Option RV
  | .len => bLen | .max => bMax | .min => bMin | .abs => bAbs | .int => bInt | .str => bStr | .tuple => bTuple | .list => bList | .sorted => bSorted | .all => bAll | .any => bAny | .sum => bSum | .dict => bDict
def BI.name : BI → String
  | .len => "len" | .max => "max" | .min => "min" | .abs => "abs" | .int => "int" | .str => "str" | .tuple => "tuple" | .list => "list" | .sorted => "sorted" | .all => "all" | .any => "any" | .sum => "sum" | .dict => "dict"
def BI.value : BI → Value
  | .len => .builtin "len" | .max => .builtin "max" | .min => .builtin "min" | .abs => .builtin "abs" | .int => .type "int" | .str => .type "str" | .tuple => .type "tuple" | .list => .type "list" | .sorted => .builtin "sorted" | .all => .builtin "all" | .any => .builtin "any" | .sum => .builtin "sum" | .dict => .type "dict"
theorem bi_ok {X : Cx} (hc : X.calm = true) (hu : X.A.units + 65 < cLine) (f : BI) : ∃ r, CallR X f.value r ∧ OkN (bi f) r := by
  cases f with
  | len => exact ⟨_, call_len, ok_len⟩
  | max => exact ⟨_, CallR.or (call_max2 hc) (CallR.or (cr_max hc) (cr_maxT hc hu)), ok_max⟩
  | min => exact ⟨_, CallR.or (call_min2 hc) (cr_min hc), ok_min⟩
  | abs => exact ⟨_, call_abs, ok_abs⟩
  | int => exact ⟨_, CallR.or call_int1 call_int_str, ok_int⟩
  | str => exact ⟨_, call_str_int, ok_str⟩
  | tuple => exact ⟨_, call_tuple_of, ok_tuple⟩
  | list => exact ⟨_, call_list_of, ok_list⟩
  | sorted => exact ⟨_, cr_srt hc hu, ok_sorted⟩
  | all => exact ⟨_, cr_all hc, ok_all⟩
  | any => exact ⟨_, cr_any hc, ok_any⟩
  | sum => exact ⟨_, CallR.or (cr_sum hc) (cr_sumT hc), ok_sum⟩
  | dict => exact ⟨_, call_dictP hc, ok_dict⟩
end BX

set_option Elab.async false
set_option linter.all false
set_option maxRecDepth 100000
set_option maxHeartbeats 4000000
namespace BX
open PySem PySem.Spec PyProof.Rows L2
variable [Tbs]

/-! ## calls of the text's own defs -/
inductive Arg where
  | val (d : D)
  | own (o : O)
inductive RF where
  | ok (r : RV) (fin : Option O)
  | exc (c : Str) (fin : Option O)
  | bad
/-- the first argument by reference or not; what it does -/
structure Fn where
  ref : Bool
  run : List Arg → RF
/-- the value arguments: d's; a first one that is owned -/
inductive ArgsR (F H : Hp) : List V → List Arg → Prop
  | vals {vs : List V} {ds : List D} : Rps F ds vs → ArgsR F H vs (ds.map .val)
  | own {a : Addr} {o : O} {vs : List V} {ds : List D} : F a = none → OkO F H a o → Rps F ds vs → ArgsR F H (.ref a :: vs) (.own o :: ds.map .val)
def argA (vs : List V) (as : List Arg) (a : Addr) : Prop := ∃ o r u, as = .own o :: r ∧ vs = .ref a :: u
def FinR (F' H' : Hp) (vs : List V) (as : List Arg) (fin : Option O) : Prop := ∀ a, argA vs as a → ∃ o, fin = some o ∧ F' a = none ∧ OkO F' H' a o
def spF (n : Nat) (cls : Str → Value) (fn : List Arg → RF) : Sp := fun vs H Q E => vs.length = n ∧ ∃ F as, Sb F H ∧ ArgsR F H vs as ∧
  match fn as with
  | .ok r fin => ∀ F' H' v, Sb F' H' → Ext (argA vs as) F H F' H' → FinR F' H' vs as fin → VR H F' H' [] v r → Q v H'
  | .exc c fin => ∀ F' H', Sb F' H' → Ext (argA vs as) F H F' H' → FinR F' H' vs as fin → E (cls c) none H'
  | .bad => False

/-- an owned object as data -/
def O.fz : O → Option D
  | .lst l => some (.list l)
  | .dK kvs => some (.dict (kvs.map fun kv => (keyD kv.1, kv.2)))
  | .dT _ => none
/-- value arguments out of results; temporaries and, where allowed, slots are frozen -/
def valArgs (any : Bool) : List RV → Env → Option (List D × Env)
  | [], ρ => some ([], ρ)
  | .val d :: rs, ρ => match valArgs any rs ρ with
    | some (ds, ρ') => some (d :: ds, ρ')
    | none => none
  | .own o :: rs, ρ => match o.fz, valArgs any rs ρ with
    | some d, some (ds, ρ') => some (d :: ds, ρ')
    | _, _ => none
  | .bor i :: rs, ρ => match ρ[i]? with
    | some (some (.val d)) => match valArgs any rs ρ with
      | some (ds, ρ') => some (d :: ds, ρ')
      | none => none
    | some (some (.own k o)) => if (any || decide (k = .fre)) = true then
        match o.fz with
        | some d => match valArgs any rs (ρ.set i (some (.val d))) with
          | some (ds, ρ') => some (d :: ds, ρ')
          | none => none
        | none => none
      else none
    | _ => none
def scal : D → Bool
  | .none | .bool _ | .int _ | .str _ => true
  | _ => false
def callS (fn : Fn) (rs : List RV) (ρ : Env) : Option (R RV) :=
  if fn.ref = true then none else
  match valArgs true rs ρ with
  | some (ds, _) => match fn.run (ds.map .val) with
    | .ok (.val d) _ => if scal d = true then some (.ok (.val d) ρ) else none
    | .exc c _ => some (.exc c ρ)
    | _ => none
  | none => none
def valsD : List RV → Option (List D)
  | [] => some []
  | .val d :: rs => match valsD rs with
    | some ds => some (d :: ds)
    | none => none
  | _ => none
def callG (fn : Fn) (rs : List RV) (ρ : Env) : R RV :=
  if fn.ref = true then
    match rs with
    | .bor i :: rs => match ρ[i]? with
      | some (some (.own k o)) => if k = .len then .bad else
        match valArgs false rs (ρ.set i none) with
        | some (ds, ρ1) => match fn.run (.own o :: ds.map .val) with
          | .ok (.bor _) _ => .bad
          | .ok r (some o') => .ok r (ρ1.set i (some (.own k o')))
          | .exc c (some o') => .exc c (ρ1.set i (some (.own k o')))
          | .exc c none => .exc c ρ1
          | _ => .bad
        | none => .bad
      | _ => .bad
    | .own o :: rs => match valsD rs with
      | some ds => match fn.run (.own o :: ds.map .val) with
        | .ok (.bor _) _ => .bad
        | .ok r _ => .ok r ρ
        | .exc c _ => .exc c ρ
        | .bad => .bad
      | none => .bad
    | _ => .bad
  else
    match valArgs false rs ρ with
    | some (ds, ρ1) => match fn.run (ds.map .val) with
      | .ok (.bor _) _ => .bad
      | .ok r _ => .ok r ρ1
      | .exc c _ => .exc c ρ1
      | .bad => .bad
    | none => .bad
def callEv (fn : Fn) (rs : List RV) (ρ : Env) : R RV := match callS fn rs ρ with
  | some r => r
  | none => callG fn rs ρ

/-- a slot of the environment told otherwise -/
theorem SR.drop {F H : Hp} {σ : St} {ρ : Env} (s : SR F H σ ρ) (i : Nat) : SR F H σ (ρ.set i none) := by
  have sub : ∀ (j : Nat) (v : SV), (ρ.set i none)[j]? = some (some v) → ρ[j]? = some (some v) := fun j v e => by
    rw [List.getElem?_set] at e
    split at e
    · split at e <;> cases e
    · exact e
  exact ⟨s.sub, by rw [List.length_set]; exact s.len, fun j d e => s.val j d (sub j _ e), fun j k o e => s.own j k o (sub j _ e), fun j l k k2 o u a e1 e2 => s.inj j l k k2 o u a (sub j _ e1) (sub l _ e2)⟩
/-- frozen: an object that is no other slot's becomes known -/
theorem rpk_of {F : Hp} : ∀ {kvs : List (Key × D)} {ks : List (Key × V)}, KR F kvs ks → Rpk F (kvs.map fun kv => (keyD kv.1, kv.2)) ks
  | _, _, .nil => .nil
  | _, _, .cons h r => .cons h (rpk_of r)
theorem OkO.fz {F H : Hp} {a : Addr} {o : O} {d : D} (h : OkO F H a o) (e : o.fz = Option.some d) (nF : F a = none) : ∃ u, H a = Option.some u ∧ (∀ ps, u ≠ .tbl ps) ∧ Rp (upd F a u) d (.ref a) := by
  cases o with
  | lst l =>
    cases e
    obtain ⟨vs, h1, h2⟩ := h
    exact ⟨_, h1, plain_lst.1, .lst (.inl upd_same) (h2.mono (same_upd nF))⟩
  | dK kvs =>
    cases e
    obtain ⟨vs, h1, h2⟩ := h
    exact ⟨_, h1, plain_dK.1, .dk upd_same ((rpk_of h2).mono (same_upd nF))⟩
  | dT _ => cases e
theorem SR.freeze {F H : Hp} {σ : St} {ρ : Env} (s : SR F H σ ρ) {a : Addr} {u : HO} (h : H a = some u) (nt : ∀ ps, u ≠ .tbl ps) (nF : F a = none) (no : ∀ (j : Nat) (k : OK) (o : O), ρ[j]? = some (some (.own k o)) → σ[j]? ≠ some (some (.ref a))) : SR (upd F a u) H σ ρ := by
  have sm := same_upd (o := u) nF
  refine ⟨s.sub.upd h nt, s.len, fun j d e => ?_, fun j k o e => ?_, s.inj⟩
  · obtain ⟨v, h1, h2⟩ := s.val j d e
    exact ⟨v, h1, h2.mono sm⟩
  · obtain ⟨b, h1, h2, h3⟩ := s.own j k o e
    refine ⟨b, h1, ?_, h3.move sm rfl⟩
    rw [upd_ne (fun z => no j k o e (by rw [← z]; exact h1))]
    exact h2
theorem SR.setVal {F H : Hp} {σ : St} {ρ : Env} (s : SR F H σ ρ) {i : Nat} {d : D} {v : V} (e : σ[i]? = some (some v)) (r : Rp F d v) : SR F H σ (ρ.set i (some (.val d))) := by
  have s' := s.drop i
  have sub : ∀ (j : Nat) (k : OK) (o : O), (ρ.set i (some (.val d)))[j]? = some (some (.own k o)) → (ρ.set i none)[j]? = some (some (.own k o)) := fun j k o e => by
    rw [List.getElem?_set] at e ⊢
    split at e
    · split at e <;> cases e
    · rename_i h
      rw [if_neg h]
      exact e
  refine ⟨s.sub, by rw [List.length_set]; exact s.len, fun j d' e' => ?_, fun j k o e => s'.own j k o (sub j k o e), fun j l k k2 o u a e1 e2 => s'.inj j l k k2 o u a (sub _ _ _ e1) (sub _ _ _ e2)⟩
  rw [List.getElem?_set] at e'
  split at e'
  · rename_i h
    split at e'
    · cases e'
      subst h
      exact ⟨v, e, r⟩
    · cases e'
  · exact s.val j d' e'

/-- what stands in slots, owned or lent -/
def ownAll (σ : St) (ρ : Env) (a : Addr) : Prop := ∃ (i : Nat) (k : OK) (o : O), ρ[i]? = some (some (.own k o)) ∧ σ[i]? = some (some (.ref a))
theorem SR.allSome {F H : Hp} {σ : St} {ρ : Env} (h : SR F H σ ρ) {a : Addr} (o : ownAll σ ρ a) : (∃ u, H a = some u) ∧ F a = none := by
  obtain ⟨i, k, o, h1, h3⟩ := o
  obtain ⟨b, e, f, x⟩ := h.own i k o h1
  rw [h3] at e
  cases e
  exact ⟨x.some, f⟩
theorem SR.allPlain {F H : Hp} {σ : St} {ρ : Env} (h : SR F H σ ρ) {a : Addr} (o : ownAll σ ρ a) : (∃ u, H a = some u ∧ Plain u) ∧ F a = none := by
  obtain ⟨i, k, o, h1, h3⟩ := o
  obtain ⟨b, e, f, x⟩ := h.own i k o h1
  rw [h3] at e
  cases e
  exact ⟨x.plain, f⟩
/-- what may be frozen -/
def frz (any : Bool) (σ : St) (ρ : Env) (a : Addr) : Prop := ∃ (i : Nat) (k : OK) (o : O), ρ[i]? = some (some (.own k o)) ∧ σ[i]? = some (some (.ref a)) ∧ (any = true ∨ k = .fre)
/-- slots that own may have come to be frozen -/
structure Fz (any : Bool) (ρ ρ1 : Env) : Prop where
  len : ρ1.length = ρ.length
  at_ : ∀ (i : Nat), ρ1[i]? = ρ[i]? ∨ ∃ (k : OK) (l : O), ρ[i]? = some (some (.own k l)) ∧ (∃ d, ρ1[i]? = some (some (.val d))) ∧ (any = true ∨ k = .fre)
theorem Fz.refl (any : Bool) (ρ : Env) : Fz any ρ ρ := ⟨rfl, fun _ => .inl rfl⟩
theorem Fz.mono {ρ ρ1 : Env} (f : Fz false ρ ρ1) : Mono ρ ρ1 := by
  refine ⟨fun i k o' e => ?_, fun i k o e n => ?_⟩
  · rcases f.at_ i with z | ⟨k2, l, h1, ⟨_, h2⟩, _⟩
    · exact ⟨o', by rw [← z]; exact e⟩
    · rw [h2] at e; cases e
  · rcases f.at_ i with z | ⟨k2, l, h1, h2, h3⟩
    · exact ⟨o, by rw [z]; exact e, fun _ => rfl⟩
    · rw [e] at h1
      cases h1
      rcases h3 with z | z
      · cases z
      · exact absurd z n
structure VA (any : Bool) (H0 F H : Hp) (σ : St) (ρ : Env) (vs : List V) (ds : List D) (F1 : Hp) (ρ1 : Env) : Prop where
  sr : SR F1 H σ ρ1
  f : Same F F1
  new : ∀ a u, F1 a = some u → F a = none → Fr H0 a ∨ frz any σ ρ a
  rps : Rps F1 ds vs
  fz : Fz any ρ ρ1
theorem Fz.ownAll {any : Bool} {σ : St} {ρ ρ1 : Env} (f : Fz any ρ ρ1) {a : Addr} (h : BX.ownAll σ ρ1 a) : BX.ownAll σ ρ a := by
  obtain ⟨i, k, o, h1, h2⟩ := h
  rcases f.at_ i with z | ⟨k2, l, h3, ⟨_, h4⟩, _⟩
  · exact ⟨i, k, o, by rw [← z]; exact h1, h2⟩
  · rw [h4] at h1; cases h1
theorem Fz.frz {any : Bool} {σ : St} {ρ ρ1 : Env} (f : Fz any ρ ρ1) {a : Addr} (h : BX.frz any σ ρ1 a) : BX.frz any σ ρ a := by
  obtain ⟨i, k, o, h1, h2, h3⟩ := h
  rcases f.at_ i with z | ⟨k2, l, h4, ⟨_, h5⟩, _⟩
  · exact ⟨i, k, o, by rw [← z]; exact h1, h2, h3⟩
  · rw [h5] at h1; cases h1
theorem Fz.trans {any : Bool} {ρ ρ1 ρ2 : Env} (a : Fz any ρ ρ1) (b : Fz any ρ1 ρ2) : Fz any ρ ρ2 := by
  refine ⟨b.len.trans a.len, fun i => ?_⟩
  rcases b.at_ i with z | ⟨k, l, h1, h2, h3⟩
  · rcases a.at_ i with y | ⟨k, l, h1, h2, h3⟩
    · exact .inl (z.trans y)
    · exact .inr ⟨k, l, h1, by rw [z]; exact h2, h3⟩
  · rcases a.at_ i with y | ⟨k', l', h1', ⟨_, h2'⟩, h3'⟩
    · exact .inr ⟨k, l, by rw [← y]; exact h1, h2, h3⟩
    · rw [h2'] at h1; cases h1
/-- results as they come to be arguments -/
def VWk (H0 F H : Hp) (σ : St) (v : V) : RV → Prop
  | .val d => Rp F d v
  | .own o => ∃ a, v = .ref a ∧ Fr H0 a ∧ OkO F H a o
  | .bor i => σ[i]? = some (some v)
inductive VWks (H0 F H : Hp) (σ : St) : List V → List RV → Prop
  | nil : VWks H0 F H σ [] []
  | cons {v : V} {r : RV} {vs : List V} {rs : List RV} : VWk H0 F H σ v r → VWks H0 F H σ vs rs → VWks H0 F H σ (v :: vs) (r :: rs)
theorem VWk.mono {H0 F F' H : Hp} {σ : St} {v : V} {r : RV} (s : Same F F') (h : VWk H0 F H σ v r) : VWk H0 F' H σ v r := by
  cases r with
  | val d => exact Rp.mono s h
  | bor i => exact h
  | own o => obtain ⟨a, h1, h2, h3⟩ := h; exact ⟨a, h1, h2, h3.move s rfl⟩
theorem VWks.mono {H0 F F' H : Hp} {σ : St} (s : Same F F') : ∀ {vs : List V} {rs : List RV}, VWks H0 F H σ vs rs → VWks H0 F' H σ vs rs
  | _, _, .nil => .nil
  | _, _, .cons h r => .cons (h.mono s) (VWks.mono s r)
theorem VRs.weak {H0 F H : Hp} {σ : St} : ∀ {vs : List V} {rs : List RV}, VRs H0 F H σ vs rs → VWks H0 F H σ vs rs
  | _, _, .nil => .nil
  | _, _, .cons (r := r) h q => .cons (by
      cases r with
      | val d => exact h
      | bor i => exact h
      | own o => obtain ⟨a, h1, h2, _, h3⟩ := h; exact ⟨a, h1, h2, h3⟩) (VRs.weak q)
theorem valArgs_ok {any : Bool} {H0 H : Hp} {σ : St} : ∀ (rs : List RV) {F : Hp} {ρ : Env} {vs : List V} {ds : List D} {ρ1 : Env}, SR F H σ ρ → (∀ a, ownAll σ ρ a → ∃ u, H0 a = some u ∧ Plain u) → VWks H0 F H σ vs rs →
    valArgs any rs ρ = some (ds, ρ1) → ∃ F1, VA any H0 F H σ ρ vs ds F1 ρ1 := by
  intro rs
  induction rs with
  | nil =>
    intro F ρ vs ds ρ1 s _ r h
    cases r
    simp only [valArgs, Option.some.injEq, Prod.mk.injEq] at h
    obtain ⟨rfl, rfl⟩ := h
    exact ⟨F, s, .refl F, fun a u e n => (by rw [n] at e; cases e), .nil, .refl _ _⟩
  | cons r rs ih =>
    intro F ρ vs ds ρ1 s hA hr h
    cases hr with
    | @cons v _ vs _ hv hr =>
      have step : ∀ {F' : Hp} {ρ' : Env} {d : D} {ds' : List D}, SR F' H σ ρ' → Same F F' → (∀ a u, F' a = some u → F a = none → Fr H0 a ∨ frz any σ ρ a) → Fz any ρ ρ' → Rp F' d v → valArgs any rs ρ' = some (ds', ρ1) → ds = d :: ds' → ∃ F1, VA any H0 F H σ ρ (v :: vs) ds F1 ρ1 := by
        intro F' ρ' d ds' s' f' n' z' rd h' e
        obtain ⟨F1, va⟩ := ih s' (fun a q => hA a (z'.ownAll q)) (hr.mono f') h'
        subst e
        refine ⟨F1, va.sr, f'.trans va.f, fun a u e n => ?_, .cons (rd.mono va.f) va.rps, z'.trans va.fz⟩
        cases q : F' a with
        | none =>
          rcases va.new a u e q with z | z
          · exact .inl z
          · exact .inr (z'.frz z)
        | some u' => exact n' a u' q n
      cases r with
      | val d =>
        simp only [valArgs] at h
        split at h
        · rename_i ds' ρ' e
          simp only [Option.some.injEq, Prod.mk.injEq] at h
          obtain ⟨rfl, rfl⟩ := h
          exact step s (.refl F) (fun a u e n => by rw [n] at e; cases e) (.refl _ _) hv e rfl
        · cases h
      | own o =>
        simp only [valArgs] at h
        split at h
        · rename_i d ds' ρ' ed e
          simp only [Option.some.injEq, Prod.mk.injEq] at h
          obtain ⟨rfl, rfl⟩ := h
          obtain ⟨a, rfl, n0, ok⟩ := hv
          cases q : F a with
          | some u =>
            have h1 := s.sub.same _ _ q
            have rd : Rp F d (.ref a) := by
              cases o with
              | lst l =>
                cases ed
                obtain ⟨us, h2, h3⟩ := ok
                rw [h1] at h2
                cases h2
                exact .lst (.inl q) h3
              | dK l =>
                cases ed
                obtain ⟨us, h2, h3⟩ := ok
                rw [h1] at h2
                cases h2
                exact .dk q (rpk_of h3)
              | dT _ => cases ed
            exact step s (.refl F) (fun a u e n => by rw [n] at e; cases e) (.refl _ _) rd e rfl
          | none =>
            obtain ⟨u, h1, h2, h3⟩ := ok.fz ed q
            have sm := same_upd (o := u) q
            refine step (F' := upd F a u) (s.freeze h1 h2 q fun j k o e z => ?_) sm (fun b u e n => ?_) (.refl _ _) h3 e rfl
            · obtain ⟨u, y, pl⟩ := hA a ⟨j, k, o, e, z⟩
              exact n0.no y pl
            · by_cases hb : b = a
              · subst hb; exact .inl n0
              · rw [upd_ne hb, n] at e; cases e
        · cases h
      | bor i =>
        have hv : σ[i]? = some (some v) := hv
        simp only [valArgs] at h
        split at h
        · rename_i d q
          split at h
          · rename_i ds' ρ' e
            simp only [Option.some.injEq, Prod.mk.injEq] at h
            obtain ⟨rfl, rfl⟩ := h
            obtain ⟨u, h1, h2⟩ := s.val i d q
            rw [hv] at h1; cases h1
            exact step s (.refl F) (fun a u e n => by rw [n] at e; cases e) (.refl _ _) h2 e rfl
          · cases h
        · rename_i k l q
          split at h
          · rename_i hk
            split at h
            · rename_i d ed
              split at h
              · rename_i ds' ρ' e
                simp only [Option.some.injEq, Prod.mk.injEq] at h
                obtain ⟨rfl, rfl⟩ := h
                obtain ⟨a, h1, h2, ok⟩ := s.own i k _ q
                rw [hv] at h1; cases h1
                obtain ⟨u, h3, nt, rd⟩ := ok.fz ed h2
                have sm := same_upd (o := u) h2
                have il : i < ρ.length := (List.getElem?_eq_some_iff.mp q).1
                have s1 : SR (upd F a u) H σ (ρ.set i none) := (s.drop i).freeze h3 nt h2 fun j k' o e z => by
                  rw [List.getElem?_set] at e
                  split at e
                  · first
                      | cases e
                      | (split at e <;> cases e)
                  · rename_i ne
                    exact ne (s.inj i j k k' _ o a q e hv z)
                have s2 := s1.setVal (i := i) hv rd
                rw [List.set_set] at s2
                refine step s2 sm (fun b u e n => ?_) ⟨List.length_set, fun j => ?_⟩ rd e rfl
                · by_cases hb : b = a
                  · subst hb; exact .inr ⟨i, k, _, q, hv, by simpa using hk⟩
                  · rw [upd_ne hb, n] at e; cases e
                · by_cases ej : i = j
                  · subst ej
                    refine .inr ⟨k, l, q, ⟨d, by rw [List.getElem?_set_self il]⟩, ?_⟩
                    simpa using hk
                  · exact .inl (List.getElem?_set_ne ej)
              · cases h
            · cases h
          · cases h
        · cases h
/-! ## the call -/
theorem VWks.length {H0 F H : Hp} {σ : St} : ∀ {vs : List V} {rs : List RV}, VWks H0 F H σ vs rs → vs.length = rs.length
  | _, _, .nil => rfl
  | _, _, .cons _ r => by rw [List.length_cons, List.length_cons, r.length]
theorem no_own {ds : List D} {vs : List V} {a : Addr} : ¬ argA vs (ds.map Arg.val) a := by
  rintro ⟨o, r, u, h, _⟩
  cases ds with
  | nil => cases h
  | cons d ds => cases h
/-- a heap that grew, the slots' objects as they were -/
theorem SR.step {F H F' H' : Hp} {σ : St} {ρ : Env} (s : SR F H σ ρ) (f : Same F F') (g : Sb F' H') (k : ∀ a, ownAll σ ρ a → H' a = H a ∧ F' a = none) : SR F' H' σ ρ := by
  refine ⟨g, s.len, fun i d e => ?_, fun i k' o e => ?_, s.inj⟩
  · obtain ⟨v, h1, h2⟩ := s.val i d e
    exact ⟨v, h1, h2.mono f⟩
  · obtain ⟨a, h1, h2, h3⟩ := s.own i k' o e
    obtain ⟨e1, e2⟩ := k a ⟨i, k', o, e, h1⟩
    exact ⟨a, h1, e2, h3.move f e1⟩
theorem SR.setOwn {F H : Hp} {σ : St} {ρ : Env} (s : SR F H σ ρ) {i : Nat} {k : OK} {o : O} {a : Addr} (e : σ[i]? = some (some (.ref a))) (n : F a = none) (ok : OkO F H a o) (no : ¬ ownAll σ ρ a) : SR F H σ (ρ.set i (some (.own k o))) := by
  have sub : ∀ (j : Nat) (v : SV), (ρ.set i (some (.own k o)))[j]? = some (some v) → (j = i ∧ v = .own k o) ∨ (j ≠ i ∧ ρ[j]? = some (some v)) := fun j v h => by
    rw [List.getElem?_set] at h
    split at h
    · rename_i hi
      split at h
      · cases h; exact .inl ⟨hi.symm, rfl⟩
      · cases h
    · rename_i hi
      exact .inr ⟨fun z => hi z.symm, h⟩
  refine ⟨s.sub, by rw [List.length_set]; exact s.len, fun j d h => ?_, fun j k' o' h => ?_, fun j l k1 k2 o1 o2 b h1 h2 h3 h4 => ?_⟩
  · rcases sub j _ h with ⟨_, z⟩ | ⟨_, z⟩
    · cases z
    · exact s.val j d z
  · rcases sub j _ h with ⟨rfl, z⟩ | ⟨_, z⟩
    · cases z; exact ⟨a, e, n, ok⟩
    · exact s.own j k' o' z
  · rcases sub j _ h1 with ⟨rfl, z⟩ | ⟨_, z⟩
    · rcases sub l _ h2 with ⟨rfl, y⟩ | ⟨_, y⟩
      · rfl
      · rw [e] at h3; cases h3
        exact absurd ⟨l, k2, o2, y, h4⟩ no
    · rcases sub l _ h2 with ⟨rfl, y⟩ | ⟨_, y⟩
      · rw [e] at h4; cases h4
        exact absurd ⟨j, k1, o1, z, h3⟩ no
      · exact s.inj j l k1 k2 o1 o2 b z y h3 h4
theorem VA.ext {H0 F H F1 : Hp} {σ : St} {ρ ρ1 : Env} {vs : List V} {ds : List D} (va : VA false H0 F H σ ρ vs ds F1 ρ1) : Ext (fun a => ownA σ ρ a ∨ Fr H0 a) F H F1 H := by
  refine ⟨va.f, fun a o e _ _ => e, fun a o e n t _ => ?_, fun a o e n => ⟨o, e, n⟩⟩
  cases q : F1 a with
  | none => rfl
  | some u =>
    rcases va.new a u q n with z | ⟨i, k, o, h1, h2, h3⟩
    · exact absurd (.inr z) t
    · refine absurd (.inl ⟨i, k, o, h1, ?_, h2⟩) t
      rcases h3 with y | y
      · cases y
      · rw [y]; decide
theorem scal_any {F F' : Hp} {d : D} {v : V} (h : scal d = true) (r : Rp F d v) : Rp F' d v := by
  cases r with
  | non => exact .non
  | bl b => exact .bl b
  | int i => exact .int i
  | str x => exact .str x
  | lst _ _ => cases h
  | tup _ _ => cases h
  | dk _ _ => cases h
  | exc _ => cases h
theorem VR.nil {H F' H' : Hp} {σ : St} {v : V} {r : RV} (h : VR H F' H' [] v r) : VR H F' H' σ v r ∧ ∀ i, r ≠ .bor i := by
  cases r with
  | val d => exact ⟨h, fun i z => by cases z⟩
  | own o => exact ⟨h, fun i z => by cases z⟩
  | bor i => simp [VR] at h
theorem valsD_ok {H F H1 : Hp} {σ : St} : ∀ (rs : List RV) {vs : List V} {ds : List D}, VRs H F H1 σ vs rs → valsD rs = some ds → Rps F ds vs
  | [], vs, ds, v, e => by cases v; cases e; exact .nil
  | .val d :: rs, vs, ds, v, e => by
    cases v with
    | cons h v =>
      unfold valsD at e
      cases q : valsD rs with
      | none => rw [q] at e; cases e
      | some es => rw [q] at e; cases e; exact .cons h (valsD_ok rs v q)
  | .own _ :: rs, vs, ds, v, e => by cases e
  | .bor _ :: rs, vs, ds, v, e => by cases e
def wOf (cls : Str → Value) (Wx : XW) : WX := fun c d σ H => ∃ x, c = cls x ∧ d = none ∧ Wx x σ H
section
variable {Wx : XW} {fn : Fn} {n : Nat} {cls : Str → Value} {fs : Env → R (List RV)} {σ : St} {H : Hp} {Q : VK}
theorem call_ok (hl : ∀ ρ rs ρ', fs ρ = .ok rs ρ' → rs.length = n) (h : tD Wx (fun ρ => (fs ρ).bind fun rs ρ1 => callEv fn rs ρ1) σ H Q) :
    tCallSD (spF n cls fn.run) [] (WE (wOf cls Wx)) (tAr Wx fs) σ H Q := by
  obtain ⟨F, ρ, s, h⟩ := h
  refine ⟨F, ρ, s, ?_⟩
  cases hf : fs ρ with
  | bad => simp only [hf, R.bind_bad] at h
  | exc c ρ1 => simp only [hf, R.bind_exc] at h; exact h
  | ok rs ρ1 =>
    simp only [hf, R.bind_ok] at h
    intro F1 H1 vs p1 v1
    have wk := v1.weak
    have hA : ∀ a, ownAll σ ρ1 a → ∃ u, H a = some u ∧ Plain u := fun a ⟨i, k, o, e1, e2⟩ => by
      obtain ⟨o', e3⟩ := p1.mono.back i k o e1
      exact (s.allPlain ⟨i, k, o', e3, e2⟩).1
    show spF n cls fn.run (vs ++ []) H1 Q (WE (wOf cls Wx) σ)
    rw [List.append_nil]
    refine ⟨by rw [wk.length]; exact hl _ _ _ hf, ?_⟩
    -- the scalar way
    have hS : ∀ ds ρ', valArgs true rs ρ1 = some (ds, ρ') → ∃ F2, Sb F2 H1 ∧ Same F1 F2 ∧ ArgsR F2 H1 vs (ds.map .val) := fun ds ρ' e => by
      obtain ⟨F2, va⟩ := valArgs_ok rs p1.sr hA wk e
      exact ⟨F2, va.sr.sub, va.f, .vals va.rps⟩
    have back : ∀ {F' H' : Hp} {ds : List D} {F2 : Hp}, Ext (argA vs (ds.map Arg.val)) F2 H1 F' H' → Sb F' H' → PostE F1 H1 σ ρ1 F1 H' ρ1 := fun {F' H' ds F2} e g => by
      have hk : SameN H1 H' := fun a o z n => e.keep a o z no_own n
      refine ⟨p1.sr.step (.refl F1) (p1.sr.sub.transN hk g.tab) fun a oa => ?_, ⟨.refl F1, fun a o z _ n => hk a o z n, fun a o z n _ _ => n, fun a o z => e.dom a o z⟩, .refl ρ1⟩
      obtain ⟨⟨u, z, pl⟩, nf⟩ := p1.sr.allPlain oa
      exact ⟨by rw [hk a u z pl.1, z], nf⟩
    cases hc : callS fn rs ρ1 with
    | some r =>
      simp only [callEv, hc] at h
      unfold callS at hc
      split at hc
      · cases hc
      · split at hc
        · rename_i ds ρ' ea
          obtain ⟨F2, g2, f2, ar⟩ := hS ds ρ' ea
          refine ⟨F2, _, g2, ar, ?_⟩
          split at hc
          · rename_i d fin er
            rw [er]
            split at hc
            · rename_i hs
              cases hc
              intro F' H' v g e _ r
              exact h F1 H' v (p1.trans (back e g)) (scal_any hs r)
            · cases hc
          · rename_i c fin er
            rw [er]
            cases hc
            intro F' H' g e _
            exact ⟨c, rfl, rfl, h F1 H' (p1.trans (back e g))⟩
          · cases hc
        · cases hc
    | none =>
      simp only [callEv, hc] at h
      unfold callG at h
      by_cases hr : fn.ref = true
      · rw [if_pos hr] at h
        cases rs with
        | nil => exact h.elim
        | cons r0 rs =>
          cases r0 with
          | val d => exact h.elim
          | own o =>
            simp only at h
            cases hva : valsD rs with
            | none => simp only [hva] at h
            | some ds =>
              simp only [hva] at h
              cases v1 with
              | @cons v0 _ vs' _ hv0 v1 =>
              obtain ⟨a, rfl, hn, nf, oka⟩ := hv0
              have rps := valsD_ok rs v1 hva
              refine ⟨F1, _, p1.sr.sub, .own nf oka rps, ?_⟩
              have onlyA : ∀ b, argA (.ref a :: vs') (.own o :: ds.map Arg.val) b → b = a := fun b ⟨o', r', u', _, e⟩ => by cases e; rfl
              have nob : ∀ b, ownAll σ ρ1 b → b ≠ a := fun b ob z => by
                obtain ⟨u, z', pl⟩ := hA b ob
                rw [z] at z'
                exact hn.no z' pl
              have fin : ∀ {F' H' : Hp}, Sb F' H' → Ext (argA (.ref a :: vs') (.own o :: ds.map Arg.val)) F1 H1 F' H' → PostE F H σ ρ F' H' ρ1 := fun {F' H'} g e => by
                refine ⟨p1.sr.step e.f g fun b ob => ?_, p1.ext.trans e fun b q => .inr (by rw [onlyA b q]; exact hn), p1.mono⟩
                obtain ⟨⟨u, z, pl⟩, nf⟩ := p1.sr.allPlain ob
                have nb : ¬ argA (.ref a :: vs') (.own o :: ds.map Arg.val) b := fun q => nob b ob (onlyA b q)
                exact ⟨by rw [e.keep b u z nb pl.1, z], e.priv b u z nf nb pl.1⟩
              cases er : fn.run (.own o :: ds.map .val) with
              | bad => simp only [er] at h
              | exc c f =>
                simp only [er] at h
                intro F' H' g e _
                exact ⟨c, rfl, rfl, h F' H' (fin g e)⟩
              | ok r f =>
                have h' : ∀ F' H' v, PostE F H σ ρ F' H' ρ1 → VR H F' H' σ v r → Q v H' := by
                  cases r with
                  | bor j => simp only [er] at h
                  | val d => simp only [er] at h; exact h
                  | own o3 => simp only [er] at h; exact h
                intro F' H' v g e _ vr
                exact h' F' H' v (fin g e) (vr.nil.1.from fun a z => p1.ext.back z)
          | bor i =>
            cases hi : ρ1[i]? with
            | none => simp only [hi] at h
            | some sv =>
              cases sv with
              | none => simp only [hi] at h
              | some sv =>
                cases sv with
                | val d => simp only [hi] at h
                | own k o =>
                  simp only [hi] at h
                  by_cases hk : k = .len
                  · rw [if_pos hk] at h; exact h.elim
                  · rw [if_neg hk] at h
                    cases wk with
                    | @cons v0 _ vs' _ hv0 wk =>
                    have hv0 : σ[i]? = some (some v0) := hv0
                    obtain ⟨a, ea, nf, oka⟩ := p1.sr.own i k o hi
                    rw [hv0] at ea; cases ea
                    have il : i < ρ1.length := (List.getElem?_eq_some_iff.mp hi).1
                    have apart : ∀ j k' o', (ρ1.set i none)[j]? = some (some (.own k' o')) → j ≠ i ∧ ρ1[j]? = some (some (.own k' o')) := fun j k' o' e => by
                      by_cases ej : i = j
                      · subst ej; rw [List.getElem?_set_self il] at e; cases e
                      · rw [List.getElem?_set_ne ej] at e; exact ⟨fun z => ej z.symm, e⟩
                    have noa : ¬ ownAll σ (ρ1.set i none) a := fun ⟨j, k', o', e1, e2⟩ => by
                      obtain ⟨n1, n2⟩ := apart j k' o' e1
                      exact n1 (p1.sr.inj j i k' k o' o a n2 hi e2 hv0)
                    cases hva : valArgs false rs (ρ1.set i none) with
                    | none => simp only [hva] at h
                    | some pr =>
                      obtain ⟨ds, ρ2⟩ := pr
                      simp only [hva] at h
                      obtain ⟨F2, va⟩ := valArgs_ok (H0 := H) rs (p1.sr.drop i) (fun b ob => by
                        obtain ⟨j, k', o', e1, e2⟩ := ob
                        exact hA b ⟨j, k', o', (apart j k' o' e1).2, e2⟩) wk hva
                      have nf2 : F2 a = none := by
                        cases q : F2 a with
                        | none => rfl
                        | some u =>
                          rcases va.new a u q nf with z | ⟨j, k', o', e1, e2, _⟩
                          · obtain ⟨u', y, pl⟩ := hA a ⟨i, k, o, hi, hv0⟩
                            exact (z.no y pl).elim
                          · exact absurd ⟨j, k', o', e1, e2⟩ noa
                      refine ⟨F2, _, va.sr.sub, .own nf2 (oka.move va.f rfl) va.rps, ?_⟩
                      have aA : argA (.ref a :: vs') (.own o :: ds.map Arg.val) a := ⟨o, _, _, rfl, rfl⟩
                      have onlyA : ∀ b, argA (.ref a :: vs') (.own o :: ds.map Arg.val) b → b = a := fun b ⟨o', r', u', _, e⟩ => by cases e; rfl
                      have n2 : ρ2[i]? = some none := by
                        rcases va.fz.at_ i with z | ⟨k', l, e1, _, _⟩
                        · rw [z, List.getElem?_set_self il]
                        · rw [List.getElem?_set_self il] at e1; cases e1
                      have fin : ∀ {F' H' : Hp} {o' : O}, Sb F' H' → Ext (argA (.ref a :: vs') (.own o :: ds.map Arg.val)) F2 H1 F' H' → F' a = none → OkO F' H' a o' → PostE F H σ ρ F' H' (ρ2.set i (some (.own k o'))) := fun {F' H' o'} g e nf' ok' => by
                        have nob : ∀ b, ownAll σ ρ2 b → b ≠ a := fun b ob z => noa (by rw [← z]; exact va.fz.ownAll ob)
                        have sr2 : SR F' H' σ ρ2 := va.sr.step e.f g fun b ob => by
                          obtain ⟨⟨u, z, pl⟩, nf⟩ := va.sr.allPlain ob
                          have nb : ¬ argA (.ref a :: vs') (.own o :: ds.map Arg.val) b := fun q => nob b ob (onlyA b q)
                          exact ⟨by rw [e.keep b u z nb pl.1, z], e.priv b u z nf nb pl.1⟩
                        refine ⟨sr2.setOwn hv0 nf' ok' fun ob => nob a ob rfl, ?_, ?_⟩
                        · refine (p1.ext.trans va.ext fun b ob => ?_).trans e fun b q => .inl ?_
                          · rcases ob with ⟨j, k', o', e1, e2, e3⟩ | ob
                            · exact .inl (p1.mono.own ⟨j, k', o', (apart j k' o' e1).2, e2, e3⟩)
                            · exact .inr ob
                          · rw [onlyA b q]
                            exact p1.mono.own ⟨i, k, o, hi, hk, hv0⟩
                        · refine p1.mono.trans ?_
                          have il2 : i < ρ2.length := (List.getElem?_eq_some_iff.mp n2).1
                          have m := va.fz.mono
                          refine ⟨fun j k' o'' e => ?_, fun j k' o'' e ne => ?_⟩
                          · by_cases ej : i = j
                            · subst ej
                              rw [List.getElem?_set_self il2] at e
                              cases e
                              exact ⟨o, hi⟩
                            · rw [List.getElem?_set_ne ej] at e
                              obtain ⟨o3, e3⟩ := m.back j k' o'' e
                              exact ⟨o3, (apart j k' o3 e3).2⟩
                          · by_cases ej : i = j
                            · subst ej
                              rw [hi] at e
                              cases e
                              exact ⟨o', List.getElem?_set_self il2, fun z => absurd z hk⟩
                            · obtain ⟨o3, e3, e4⟩ := m.fix j k' o'' (by rw [List.getElem?_set_ne ej]; exact e) ne
                              exact ⟨o3, by rw [List.getElem?_set_ne ej]; exact e3, e4⟩
                      cases er : fn.run (.own o :: ds.map .val) with
                      | bad => simp only [er] at h
                      | exc c f =>
                        cases f with
                        | none =>
                          intro F' H' g e fr
                          obtain ⟨o2, e2, _, _⟩ := fr a aA
                          cases e2
                        | some o' =>
                          simp only [er] at h
                          intro F' H' g e fr
                          obtain ⟨o2, e2, f2, k2⟩ := fr a aA
                          cases e2
                          exact ⟨c, rfl, rfl, h F' H' (fin g e f2 k2)⟩
                      | ok r f =>
                        cases f with
                        | none => cases r <;> simp only [er] at h
                        | some o' =>
                          have h' : ∀ F' H' v, PostE F H σ ρ F' H' (ρ2.set i (some (.own k o'))) → VR H F' H' σ v r → Q v H' := by
                            cases r with
                            | bor j => simp only [er] at h
                            | val d => simp only [er] at h; exact h
                            | own o3 => simp only [er] at h; exact h
                          intro F' H' v g e fr vr
                          obtain ⟨o2, e2, f2, k2⟩ := fr a aA
                          cases e2
                          exact h' F' H' v (fin g e f2 k2) (vr.nil.1.from fun a z => p1.ext.back z)
      · rw [if_neg hr] at h
        cases hva : valArgs false rs ρ1 with
        | none => simp only [hva] at h
        | some pr =>
          obtain ⟨ds, ρ2⟩ := pr
          simp only [hva] at h
          obtain ⟨F2, va⟩ := valArgs_ok (H0 := H) rs p1.sr hA wk hva
          refine ⟨F2, _, va.sr.sub, .vals va.rps, ?_⟩
          have fin : ∀ {F' H' : Hp}, Sb F' H' → Ext (argA vs (ds.map Arg.val)) F2 H1 F' H' → PostE F H σ ρ F' H' ρ2 := fun {F' H'} g e => by
            refine ⟨va.sr.step e.f g fun b ob => ?_, (p1.ext.trans va.ext fun b ob => ?_).trans e fun b q => absurd q no_own, p1.mono.trans va.fz.mono⟩
            · obtain ⟨⟨u, z, pl⟩, nf⟩ := va.sr.allPlain ob
              exact ⟨by rw [e.keep b u z no_own pl.1, z], e.priv b u z nf no_own pl.1⟩
            · rcases ob with ob | ob
              · exact .inl (p1.mono.own ob)
              · exact .inr ob
          cases er : fn.run (ds.map .val) with
          | bad => simp only [er] at h
          | exc c f =>
            simp only [er] at h
            intro F' H' g e _
            exact ⟨c, rfl, rfl, h F' H' (fin g e)⟩
          | ok r f =>
            have h' : ∀ F' H' v, PostE F H σ ρ F' H' ρ2 → VR H F' H' σ v r → Q v H' := by
              cases r with
              | bor j => simp only [er] at h
              | val d => simp only [er] at h; exact h
              | own o3 => simp only [er] at h; exact h
            intro F' H' v g e _ vr
            exact h' F' H' v (fin g e) (vr.nil.1.from fun a z => p1.ext.back z)
end
end BX

set_option Elab.async false
set_option linter.all false
set_option maxRecDepth 100000
set_option maxHeartbeats 4000000
namespace PySem.AutoSeq1
open PySem PySem.Spec
theorem bx_extend_tuple (l : Addr) (items : Array Value) (n : Nat) (b : Addr) (items2 : Array Value) (n2 : Nat) (dd : Option Addr) (sl : Array (Option Value)) (hs0 : ¬(!items.isEmpty && Builtin.List.listTooLong (items.size + items2.size)) = true) (hs1 : items.size ≤ sizeLine) (hs2 : items.size + items2.size ≤ sizeLine + 1) :
    Meets (Builtin.«list.extend» ⟨[.ref l, .ref b], []⟩) (fun _ R s => s.heap.get? l = some { cls := .type "list", dict := none, data := .seq items n, slots := #[] } ∧ s.heap.get? b = some { cls := .type "tuple", dict := dd, data := .seq items2 n2, slots := sl } ∧ R (.ok (.ret Value.none)) { s with heap := s.heap.update l (Obj.mapSeq fun x => x ++ items2), toks := s.toks }) :=
  .of_wp fun prog w A R s h => by
    obtain ⟨hp, g, d, tk, os⟩ := s; obtain ⟨hl, hb, h⟩ := h; have f1 := idx_int; have f2 := sub_tuple_tuple; have f3 := sub_list_list; have f4 := sub_tuple_list; have f5 := sub_list_tuple;
    have hz' : (items ++ items2).size ≤ sizeLine + 1 := by rw [Array.size_append]; exact hs2
    wp_walk using (wpAny_updateSeq hl rfl (hz := hs1) (_hz' := hz')), wpAny_loadPart' hl, wpAny_loadPart' hb; exact ⟨_, rfl, h⟩
end PySem.AutoSeq1
namespace BX
open PySem PySem.Spec PyProof.Rows L2
variable [Tbs]

/-! ## methods that change their receiver -/
inductive MU where | append | extend | pop | dpop | lpop
  deriving DecidableEq
def muAppend : O → List D → Option (D × O)
  | .lst ds, [d] => if ds.length < sizeLine then some (.none, .lst (ds ++ [d])) else none
  | _, _ => none
def muExtend : O → List D → Option (D × O)
  | .lst ds, [.list es] => if ds.length + es.length ≤ sizeLine then some (.none, .lst (ds ++ es)) else none
  | .lst ds, [.tuple es] => if ds.length + es.length ≤ sizeLine then some (.none, .lst (ds ++ es)) else none
  | _, _ => none
def muPop : O → List D → Option (D × O)
  | .lst ds, [] => match ds[ds.length - 1]? with
    | some d => some (d, .lst ds.dropLast)
    | none => none
  | _, _ => none
def muDpop : O → List D → Option (D × O)
  | .dK kvs, [k] => match toKey k with
    | some k => match lk kvs k with
      | some d => some (d, .dK (dr kvs k))
      | none => none
    | none => none
  | _, _ => none
def muLpop : O → List D → Option (D × O)
  | .lst ds, [.int i] => if 0 ≤ i ∧ i < 1073741824 then match ds[i.toNat]? with
    | some d => some (d, .lst (ds.eraseIdx i.toNat))
    | none => none else none
  | _, _ => none
def muF : MU → O → List D → Option (D × O)
  | .append => muAppend
  | .extend => muExtend
  | .pop => muPop
  | .dpop => muDpop
  | .lpop => muLpop
def MuOk (m : MU) (r : V → List V → Hp → VK → Prop) : Prop := ∀ F H a o vs ds d o' (Q : VK), OkO F H a o → Same F H → F a = none → Rps F ds vs → muF m o ds = some (d, o') → (∀ v u, Rp F d v → OkO F (upd H a u) a o' → Q v (upd H a u)) → r (.ref a) vs H Q
section
variable {X : Cx}
abbrev rExtA (K : PySem.W.Frag) : V → List V → Hp → VK → Prop := fun x vs H Q => ∃ l b xs zs, x = .ref l ∧ vs = [.ref b] ∧ H l = some (.lst xs) ∧ (Rd H b (.lst zs) ∨ H b = some (.tup zs)) ∧ xs.length + zs.length ≤ sizeLine ∧ Q .non (upd H l (.lst (xs ++ zs)))
theorem mt_extA : MtM X "list.extend" (rExtA X.K) := by
  intro pins s σ H x vs v us Q I rx rv h
  obtain ⟨l, b, xs, zs, rfl, rfl, hH, hB, hz, q⟩ := h
  cases rx
  obtain ⟨u, rfl, ru⟩ := rv.one
  cases ru
  obtain ⟨z, its, n, r, hl, e⟩ := I.lstM hH
  rcases hB with hB | hB
  · obtain ⟨z2, its2, n2, r2, e2⟩ := hB.ok I.hok
    have hl2 := r2.length
    have hsz : its.toArray.size + its2.toArray.size ≤ sizeLine := by rw [List.size_toArray, List.size_toArray]; omega
    have hlong : ¬ (!its.toArray.isEmpty && Builtin.List.listTooLong (its.toArray.size + its2.toArray.size)) = true := by
      rw [notLongL hsz, Bool.and_false]
      exact Bool.false_ne_true
    refine call_meets F.slot_list_extend ⟨_, e, rfl⟩ F.entry_list_extend (F.args_list_extend_2 _ _)
      (AutoSeq1.list_extend_list_list_0 l its.toArray n b its2.toArray n2 hlong (by rw [List.size_toArray]; omega) (by omega)) ⟨e, e2, ?_⟩
    refine ⟨.non, _, I.lset (its' := its ++ its2) hH e (by simp) (r.append r2) ?_, rfl, q⟩
    rw [List.length_append]
    omega
  · obtain ⟨its2, r2, ⟨⟨oc, od, dt, sl⟩, e2, hc, n2, hd⟩, z2⟩ := I.tuple (.inl (.inl hB))
    simp only at hc hd
    subst hc hd
    have hl2 := r2.length
    have hsz : its.toArray.size + its2.toArray.size ≤ sizeLine := by rw [List.size_toArray, List.size_toArray]; omega
    have hlong : ¬ (!its.toArray.isEmpty && Builtin.List.listTooLong (its.toArray.size + its2.toArray.size)) = true := by
      rw [notLongL hsz, Bool.and_false]
      exact Bool.false_ne_true
    refine call_meets F.slot_list_extend ⟨_, e, rfl⟩ F.entry_list_extend (F.args_list_extend_2 _ _)
      (AutoSeq1.bx_extend_tuple l its.toArray n b its2.toArray n2 od sl hlong (by rw [List.size_toArray]; omega) (by omega)) ⟨e, e2, ?_⟩
    refine ⟨.non, _, I.lset (its' := its ++ its2) hH e (by simp) (r.append r2) ?_, rfl, q⟩
    rw [List.length_append]
    omega
theorem mu_append : MuOk .append rAppend := by
  intro F H a o vs ds d o' Q ok s nf r h q
  have h : muAppend o ds = some (d, o') := h
  unfold muAppend at h
  split at h <;> try cases h
  split at h <;> try cases h
  rename_i hz
  obtain ⟨us, e, ru⟩ := ok
  cases r with
  | cons h1 r =>
    cases r
    exact ⟨a, us, _, rfl, rfl, e, by rw [ru.length]; exact hz, q _ _ .non ⟨_, upd_same, ru.append (.cons h1 .nil)⟩⟩
theorem mu_extend : MuOk .extend (rExtA X.K) := by
  intro F H a o vs ds d o' Q ok s nf r h q
  have h : muExtend o ds = some (d, o') := h
  unfold muExtend at h
  split at h <;> try cases h
  · split at h <;> try cases h
    rename_i hz
    obtain ⟨us, e, ru⟩ := ok
    cases r with
    | cons h1 r =>
      cases r
      cases h1 with
      | lst h1 r1 => exact ⟨a, _, us, _, rfl, rfl, e, .inl (Rd.same h1 s), by rw [ru.length, r1.length]; exact hz, q _ _ .non ⟨_, upd_same, ru.append r1⟩⟩
  · split at h <;> try cases h
    rename_i hz
    obtain ⟨us, e, ru⟩ := ok
    cases r with
    | cons h1 r =>
      cases r
      cases h1 with
      | tup h1 r1 => exact ⟨a, _, us, _, rfl, rfl, e, .inr (s _ _ h1), by rw [ru.length, r1.length]; exact hz, q _ _ .non ⟨_, upd_same, ru.append r1⟩⟩
theorem mu_pop : MuOk .pop rPop := by
  intro F H a o vs ds d o' Q ok s nf r h q
  have h : muPop o ds = some (d, o') := h
  unfold muPop at h
  split at h <;> try cases h
  split at h <;> try cases h
  rename_i hg
  obtain ⟨us, e, ru⟩ := ok
  cases r
  obtain ⟨v, h1, h2⟩ := ru.get hg
  exact ⟨a, us, v, rfl, rfl, e, by rw [ru.length]; exact h1, q _ _ h2 ⟨_, upd_same, ru.dropLast⟩⟩
theorem Rps.eraseIdx : ∀ {F : Hp} {ds : List D} {vs : List V} (i : Nat), Rps F ds vs → Rps F (ds.eraseIdx i) (vs.eraseIdx i)
  | _, _, _, _, .nil => .nil
  | _, _, _, 0, .cons _ r => r
  | _, _, _, i + 1, .cons h r => .cons h (Rps.eraseIdx i r)
theorem mu_lpop : MuOk .lpop rPopAt := by
  intro F H a o vs ds d o' Q ok s nf r h q
  have h : muLpop o ds = some (d, o') := h
  unfold muLpop at h
  split at h <;> try cases h
  split at h <;> try cases h
  rename_i i _h hi
  split at h <;> try cases h
  rename_i hg
  obtain ⟨us, e, ru⟩ := ok
  cases r with
  | cons h1 r =>
    cases r
    cases h1
    obtain ⟨v, h3, h4⟩ := ru.get hg
    have hlt : i.toNat < us.length := (List.getElem?_eq_some_iff.mp h3).1
    refine ⟨a, us, i, i.toNat, v, rfl, rfl, e, by omega, by omega, ?_, h3, q _ _ h4 ⟨_, upd_same, ru.eraseIdx _⟩⟩
    unfold seqIndex?
    have h0 : ¬ i < 0 := by omega
    have h5 : (0 : Int) ≤ i := hi.1
    have h6 : i < (us.length : Int) := by omega
    simp only [if_neg h0, decide_eq_true h5, decide_eq_true h6]
    rfl
def rDPop : V → List V → Hp → VK → Prop := fun x vs H Q => ∃ a kvs k v, x = .ref a ∧ vs = [kV k] ∧ H a = some (.dK kvs) ∧ valV kvs k = some v ∧ Q v (upd H a (.dK (dropK kvs k)))
theorem mt_dpop : MtR X "dict.pop" rDPop := by
  intro pins s σ H x vs v us Q I rx rv h
  obtain ⟨a, kvs, k, z, rfl, rfl, e, l, q⟩ := h
  cases rx
  obtain ⟨u, rfl, ru⟩ := rv.one
  exact d_pop I e ru l (.inl rfl) fun w' s3 I3 rw' => ⟨z, _, I3, rw', q⟩
theorem mu_dpop : MuOk .dpop rDPop := by
  intro F H a o vs ds d o' Q ok s nf r h q
  have h : muDpop o ds = some (d, o') := h
  unfold muDpop at h
  split at h <;> try cases h
  split at h <;> try cases h
  rename_i k hk
  split at h <;> try cases h
  rename_i hg
  obtain ⟨us, e, ru⟩ := ok
  cases r with
  | cons h1 r =>
    cases r
    obtain ⟨v, h3, h4⟩ := (ru.lk k).1 _ hg
    have ek := toKey_ok hk h1
    subst ek
    exact ⟨a, us, k, v, rfl, rfl, e, h3, q _ _ h4 ⟨_, upd_same, ru.dr⟩⟩
end
def MU.ty : MU → String
  | .append => "list" | .extend => "list" | .pop => "list" | .dpop => "dict" | .lpop => "list"
def MU.isD : MU → Bool
  | .dpop => true
  | _ => false
def muApp (m : MU) (j : Nat) (rs : List RV) (ρ : Env) : R RV := match ρ[j]? with
  | some (some (.own k o)) => if k = .len then .bad else
    match valArgs false rs (ρ.set j none) with
    | some (ds, ρ1) => match muF m o ds with
      | some (d, o') => .ok (.val d) (ρ1.set j (some (.own k o')))
      | none => .bad
    | none => .bad
  | _ => .bad
/-- whether the receiver is of the method's type -/
def recvOk (ρ : Env) (j : Nat) (m : MU) : Bool := match ρ[j]? with
  | some (some (.own _ (.lst _))) => !m.isD
  | some (some (.own _ (.dK _))) => m.isD
  | _ => false
def muEv (m : MU) (f : Env → R RV) (fs : Env → R (List RV)) (ρ : Env) : R RV := (f ρ).bind fun u ρ1 => match u with
  | .bor j => if recvOk ρ1 j m = true then (fs ρ1).bind fun rs ρ2 => muApp m j rs ρ2 else .bad
  | _ => .bad
theorem SR.setAt {F H : Hp} {σ : St} {ρ : Env} (s : SR F H σ ρ) {i : Nat} {a : Addr} {u w : HO} (na : F a = none) (ha : H a = some w) (pl : Plain w) (no : ¬ ownAll σ ρ a) : SR F (upd H a u) σ ρ := by
  refine ⟨⟨fun b o e => ?_, s.sub.nt, s.sub.tab.upd ha pl⟩, s.len, s.val, fun j k o e => ?_, s.inj⟩
  · rw [upd_ne (fun z => by rw [z, na] at e; cases e)]
    exact s.sub.same _ _ e
  · obtain ⟨b, h1, h2, h3⟩ := s.own j k o e
    exact ⟨b, h1, h2, h3.move (.refl F) (upd_ne fun z => no (by rw [← z]; exact ⟨j, k, o, e, h1⟩))⟩
section
variable {X : Cx} {Wx : XW} {f : Env → R RV} {fs : Env → R (List RV)} {σ : St} {H : Hp} {Q : VK} {m : MU} {r : V → List V → Hp → VK → Prop}
theorem mu_fin {K : PySem.W.Frag} (ok : MuOk m r) (h : tD Wx (muEv m f fs) σ H Q) : tBM K m.ty r (tD Wx f) (tAr Wx fs) σ H Q := by
  obtain ⟨F, ρ, s, h⟩ := h
  refine ⟨F, ρ, s, ?_⟩
  unfold muEv at h
  cases hf : f ρ with
  | bad => simp only [hf, R.bind_bad] at h
  | exc c ρ1 => simp only [hf, R.bind_exc] at h; exact h
  | ok u ρ1 =>
    simp only [hf, R.bind_ok] at h
    intro F1 H1 x p1 v1
    cases u with
    | val d => exact h.elim
    | own o => exact h.elim
    | bor j =>
      by_cases hro : recvOk ρ1 j m = true
      · simp only [if_pos hro] at h
        have v1 : σ[j]? = some (some x) := v1
        refine ⟨?_, F1, ρ1, p1.sr, ?_⟩
        · unfold recvOk at hro
          split at hro
          · rename_i k l e
            obtain ⟨a, e1, _, vs, e2, _⟩ := p1.sr.own j _ _ e
            rw [v1] at e1; cases e1
            cases m <;> first | exact .inl ⟨rfl, vs, .inl (.inl e2)⟩ | cases hro
          · rename_i k l e
            obtain ⟨a, e1, _, vs, e2, _⟩ := p1.sr.own j _ _ e
            rw [v1] at e1; cases e1
            cases m <;> first | exact .inr (.inr (.inl ⟨rfl, .inl ⟨vs, e2⟩⟩)) | cases hro
          · cases hro
        · cases hg : fs ρ1 with
          | bad => simp only [hg, R.bind_bad] at h
          | exc c ρ2 => simp only [hg, R.bind_exc] at h; exact fun F2 H2 p2 => h F2 H2 (p1.trans p2)
          | ok rs ρ2 =>
            simp only [hg, R.bind_ok] at h
            intro F2 H2 vs p2 v2
            unfold muApp at h
            cases hi : ρ2[j]? with
            | none => simp only [hi] at h
            | some sv =>
              cases sv with
              | none => simp only [hi] at h
              | some sv =>
                cases sv with
                | val d => simp only [hi] at h
                | own k o =>
                  simp only [hi] at h
                  by_cases hk : k = .len
                  · rw [if_pos hk] at h; exact h.elim
                  · rw [if_neg hk] at h
                    obtain ⟨a, ea, nf, oka⟩ := p2.sr.own j k o hi
                    rw [v1] at ea; cases ea
                    have il : j < ρ2.length := (List.getElem?_eq_some_iff.mp hi).1
                    have apart : ∀ j' k' o', (ρ2.set j none)[j']? = some (some (.own k' o')) → j' ≠ j ∧ ρ2[j']? = some (some (.own k' o')) := fun j' k' o' e => by
                      by_cases ej : j = j'
                      · subst ej; rw [List.getElem?_set_self il] at e; cases e
                      · rw [List.getElem?_set_ne ej] at e; exact ⟨fun z => ej z.symm, e⟩
                    have noa : ¬ ownAll σ (ρ2.set j none) a := fun ⟨j', k', o', e1, e2⟩ => by
                      obtain ⟨n1, n2⟩ := apart j' k' o' e1
                      exact n1 (p2.sr.inj j' j k' k o' o a n2 hi e2 v1)
                    have hA : ∀ a, ownAll σ ρ2 a → ∃ u, H1 a = some u ∧ Plain u := fun a ⟨i, k, o, e1, e2⟩ => by
                      obtain ⟨o', e3⟩ := p2.mono.back i k o e1
                      exact (p1.sr.allPlain ⟨i, k, o', e3, e2⟩).1
                    cases hva : valArgs false rs (ρ2.set j none) with
                    | none => simp only [hva] at h
                    | some pr =>
                      obtain ⟨ds, ρ3⟩ := pr
                      simp only [hva] at h
                      obtain ⟨F3, va⟩ := valArgs_ok (H0 := H1) rs (p2.sr.drop j) (fun b ob => by
                        obtain ⟨j', k', o', e1, e2⟩ := ob
                        exact hA b ⟨j', k', o', (apart j' k' o' e1).2, e2⟩) v2.weak hva
                      have nf3 : F3 a = none := by
                        cases q : F3 a with
                        | none => rfl
                        | some u =>
                          rcases va.new a u q nf with z | ⟨j', k', o', e1, e2, _⟩
                          · obtain ⟨u', y, pl⟩ := hA a ⟨j, k, o, hi, v1⟩
                            exact (z.no y pl).elim
                          · exact absurd ⟨j', k', o', e1, e2⟩ noa
                      cases hm : muF m o ds with
                      | none => simp only [hm] at h
                      | some pr =>
                        obtain ⟨d, o'⟩ := pr
                        simp only [hm] at h
                        have n3 : ρ3[j]? = some none := by
                          rcases va.fz.at_ j with z | ⟨k', l, e1, _, _⟩
                          · rw [z, List.getElem?_set_self il]
                          · rw [List.getElem?_set_self il] at e1; cases e1
                        refine ok F3 H2 a o vs ds d o' Q (oka.move va.f rfl) va.sr.sub.same nf3 va.rps hm fun v u rv ok' => ?_
                        have aT : ownA σ ρ a := p1.mono.own (p2.mono.own ⟨j, k, o, hi, hk, v1⟩)
                        have noa3 : ¬ ownAll σ ρ3 a := fun ob => noa (va.fz.ownAll ob)
                        obtain ⟨w0, hw0, pl0⟩ := oka.plain
                        refine h F3 (upd H2 a u) v ⟨(va.sr.setAt (i := j) nf3 hw0 pl0 noa3).setOwn v1 nf3 ok' noa3, ?_, ?_⟩ rv
                        · refine (p1.ext.trans (p2.ext.trans va.ext fun b ob => ?_) fun b ob => .inl (p1.mono.own ob)).trans (T2 := fun b => b = a) ⟨.refl _, fun b o e n _ => ?_, fun b o e n _ _ => n, fun b o e tn => ?_⟩ fun b q => .inl (by rw [q]; exact aT)
                          · rcases ob with ⟨j', k', o', e1, e2, e3⟩ | ob
                            · exact .inl (p2.mono.own ⟨j', k', o', (apart j' k' o' e1).2, e2, e3⟩)
                            · exact .inr ob
                          · rw [upd_ne n]; exact e
                          · by_cases hb : b = a
                            · subst hb
                              obtain ⟨w1, hw1, pl1⟩ := ok'.plain
                              rw [upd_same] at hw1
                              cases hw1
                              exact ⟨_, upd_same, pl1.1⟩
                            · exact ⟨o, by rw [upd_ne hb]; exact e, tn⟩
                        · refine (p1.mono.trans p2.mono).trans ?_
                          have il3 : j < ρ3.length := (List.getElem?_eq_some_iff.mp n3).1
                          have mm := va.fz.mono
                          refine ⟨fun j' k' o'' e => ?_, fun j' k' o'' e ne => ?_⟩
                          · by_cases ej : j = j'
                            · subst ej
                              rw [List.getElem?_set_self il3] at e
                              cases e
                              exact ⟨o, hi⟩
                            · rw [List.getElem?_set_ne ej] at e
                              obtain ⟨o3, e3⟩ := mm.back j' k' o'' e
                              exact ⟨o3, (apart j' k' o3 e3).2⟩
                          · by_cases ej : j = j'
                            · subst ej
                              rw [hi] at e
                              cases e
                              exact ⟨o', List.getElem?_set_self il3, fun z => absurd z hk⟩
                            · obtain ⟨o3, e3, e4⟩ := mm.fix j' k' o'' (by rw [List.getElem?_set_ne ej]; exact e) ne
                              exact ⟨o3, by rw [List.getElem?_set_ne ej]; exact e3, e4⟩
      · simp only [if_neg hro] at h
end
end BX

set_option Elab.async false
set_option linter.all false
set_option maxRecDepth 100000
set_option maxHeartbeats 4000000
namespace BX
open PySem PySem.Spec PyProof.Rows L2
variable [Tbs]

/-! ## names, constants -/
def evVar (i : Nat) (ρ : Env) : R RV := match ρ[i]? with
  | some (some (.val d)) => .ok (.val d) ρ
  | some (some (.own _ _)) => .ok (.bor i) ρ
  | _ => .bad
def evC (d : D) (ρ : Env) : R RV := .ok (.val d) ρ
theorem DE_var {X : Cx} {Wx : XW} {i : Nat} {x : Str} {pos : Pos} (hN : X.N[i]? = some x) (hv : Vis X.env.scope x) (hd : (x == ("__debug__" : Str)) = false) (hcd : (x == ("__classdict__" : Str)) = false) : PE X (.Name x pos) (tD Wx (evVar i)) := by
  refine PE.imp (pe_var hN hv hd hcd) fun σ H Q h => ?_
  obtain ⟨F, ρ, s, h⟩ := h
  unfold evVar at h
  cases hi : ρ[i]? with
  | none => simp only [hi] at h
  | some sv =>
    cases sv with
    | none => simp only [hi] at h
    | some sv =>
      cases sv with
      | val d =>
        simp only [hi] at h
        obtain ⟨v, h1, h2⟩ := s.val i d hi
        exact ⟨v, h1, h F H v (.refl s) h2⟩
      | own k o =>
        simp only [hi] at h
        obtain ⟨a, h1, _, _⟩ := s.own i k o hi
        exact ⟨_, h1, h F H _ (.refl s) h1⟩
/-- a scalar as a value -/
def scV : D → Option V
  | .none => some .non
  | .bool b => some (.bl b)
  | .int i => some (.int i)
  | .str x => some (.str x)
  | _ => none
theorem scV_rp {F : Hp} {d : D} {v : V} (h : scV d = some v) : Rp F d v := by
  cases d <;> cases h <;> constructor
theorem DE_C {X : Cx} {Wx : XW} {e : Expr} {v : V} {d : D} (h : PE X e (tC v)) (hd : scV d = some v) : PE X e (tD Wx (evC d)) := by
  refine PE.imp h fun σ H Q h => ?_
  obtain ⟨F, ρ, s, h⟩ := h
  exact h F H v (.refl s) (scV_rp hd)

/-! ## argument lists -/
def evNil (ρ : Env) : R (List RV) := .ok [] ρ
def evCons (f : Env → R RV) (fs : Env → R (List RV)) (ρ : Env) : R (List RV) := (f ρ).bind fun u ρ1 => (fs ρ1).bind fun us ρ2 => .ok (u :: us) ρ2
theorem DA_nil {X : Cx} {Wx : XW} : PA X [] (tAr Wx evNil) := PA.imp pa_nil fun σ H Q ⟨F, ρ, s, h⟩ => h F H [] (.refl s) .nil
theorem DA_cons {X : Cx} {Wx : XW} {e : Expr} {es : List Expr} {f : Env → R RV} {fs : Env → R (List RV)} (he : PE X e (tD Wx f)) (hes : PA X es (tAr Wx fs)) (hs : starEach (e :: es) X.env = (false, eval e X.env) :: starEach es X.env) : PA X (e :: es) (tAr Wx (evCons f fs)) := by
  refine PA.imp (pa_cons he hes hs) fun σ H Q h => ?_
  obtain ⟨F, ρ, s, h⟩ := h
  refine ⟨F, ρ, s, ?_⟩
  unfold evCons at h
  cases hf : f ρ with
  | bad => simp only [hf, R.bind_bad] at h
  | exc c ρ1 => simp only [hf, R.bind_exc] at h; exact h
  | ok u ρ1 =>
    simp only [hf, R.bind_ok] at h
    intro F1 H1 x p1 v1
    refine ⟨F1, ρ1, p1.sr, ?_⟩
    cases hg : fs ρ1 with
    | bad => simp only [hg, R.bind_bad] at h
    | exc c ρ2 => simp only [hg, R.bind_exc] at h; exact fun F2 H2 p2 => h F2 H2 (p1.trans p2)
    | ok us ρ2 =>
      simp only [hg, R.bind_ok] at h
      intro F2 H2 vs p2 v2
      exact h F2 H2 (x :: vs) (p1.trans p2) (.cons (v1.later s p1 p2) (v2.from fun a z => p1.ext.back z))

/-! ## displays -/
def evTup (fs : Env → R (List RV)) (ρ : Env) : R RV := (fs ρ).bind fun rs ρ1 => match valArgs false rs ρ1 with
  | some (ds, ρ2) => if ds.length ≤ sizeLine then .ok (.val (.tuple ds)) ρ2 else .bad
  | none => .bad
def evLst (fs : Env → R (List RV)) (ρ : Env) : R RV := (fs ρ).bind fun rs ρ1 => match valArgs false rs ρ1 with
  | some (ds, ρ2) => if ds.length ≤ sizeLine then .ok (.own (.lst ds)) ρ2 else .bad
  | none => .bad
/-- arguments frozen -/
theorem froz {H F H1 : Hp} {F1 : Hp} {σ : St} {ρ ρ1 ρ2 : Env} {vs : List V} {rs : List RV} {ds : List D} (s : SR F H σ ρ) (p1 : PostE F H σ ρ F1 H1 ρ1) (v1 : VRs H F1 H1 σ vs rs) (hva : valArgs false rs ρ1 = some (ds, ρ2)) :
    ∃ F2, PostE F H σ ρ F2 H1 ρ2 ∧ Rps F2 ds vs := by
  have hA : ∀ a, ownAll σ ρ1 a → ∃ u, H a = some u ∧ Plain u := fun a ⟨i, k, o, e1, e2⟩ => by
    obtain ⟨o', e3⟩ := p1.mono.back i k o e1
    exact (s.allPlain ⟨i, k, o', e3, e2⟩).1
  obtain ⟨F2, va⟩ := valArgs_ok (H0 := H) rs p1.sr hA v1.weak hva
  refine ⟨F2, ⟨va.sr, p1.ext.trans va.ext fun b ob => ?_, p1.mono.trans va.fz.mono⟩, va.rps⟩
  rcases ob with ob | ob
  · exact .inl (p1.mono.own ob)
  · exact .inr ob
theorem PostE.new {F H F1 H1 H2 : Hp} {σ : St} {ρ ρ1 : Env} {v : V} {r : RV} (p : PostE F H σ ρ F1 H1 ρ1) (n : NewR F1 H1 H2 v r) : ∃ F2, PostE F H σ ρ F2 H2 ρ1 ∧ VR H F2 H2 σ v r := by
  obtain ⟨F2, p2, r2⟩ := n.post p.sr
  exact ⟨F2, p.trans p2, r2.from fun a z => p.ext.back z⟩
section
variable {X : Cx} {Wx : XW} {es : List Expr} {fs : Env → R (List RV)} {pos : Pos}
theorem DE_tup {k : Nat} (h : PA X es (tAr Wx fs)) : PE X (.Tuple es k pos) (tD Wx (evTup fs)) := by
  refine PE.imp (pe_tup h) fun σ H Q h => ?_
  obtain ⟨F, ρ, s, h⟩ := h
  refine ⟨F, ρ, s, ?_⟩
  unfold evTup at h
  cases hf : fs ρ with
  | bad => simp only [hf, R.bind_bad] at h
  | exc c ρ1 => simp only [hf, R.bind_exc] at h; exact h
  | ok rs ρ1 =>
    simp only [hf, R.bind_ok] at h
    intro F1 H1 vs p1 v1
    cases hva : valArgs false rs ρ1 with
    | none => simp only [hva] at h
    | some pr =>
      obtain ⟨ds, ρ2⟩ := pr
      simp only [hva] at h
      obtain ⟨F2, p2, r2⟩ := froz s p1 v1 hva
      by_cases hz : ds.length ≤ sizeLine
      · simp only [if_pos hz] at h
        refine ⟨by rw [r2.length]; exact hz, fun p np => ?_⟩
        obtain ⟨F3, p3, r3⟩ := p2.new (.tup p2.sr.sub np r2)
        exact h F3 _ _ p3 r3
      · simp only [if_neg hz] at h
theorem DE_lst (h : PA X es (tAr Wx fs)) : PE X (.List es pos) (tD Wx (evLst fs)) := by
  refine PE.imp (pe_lst h) fun σ H Q h => ?_
  obtain ⟨F, ρ, s, h⟩ := h
  refine ⟨F, ρ, s, ?_⟩
  unfold evLst at h
  cases hf : fs ρ with
  | bad => simp only [hf, R.bind_bad] at h
  | exc c ρ1 => simp only [hf, R.bind_exc] at h; exact h
  | ok rs ρ1 =>
    simp only [hf, R.bind_ok] at h
    intro F1 H1 vs p1 v1
    cases hva : valArgs false rs ρ1 with
    | none => simp only [hva] at h
    | some pr =>
      obtain ⟨ds, ρ2⟩ := pr
      simp only [hva] at h
      obtain ⟨F2, p2, r2⟩ := froz s p1 v1 hva
      by_cases hz : ds.length ≤ sizeLine
      · simp only [if_pos hz] at h
        refine ⟨by rw [r2.length]; exact hz, fun p np => ?_⟩
        obtain ⟨F3, p3, r3⟩ := p2.new (.lst p2.sr.sub np r2)
        exact h F3 _ _ p3 r3
      · simp only [if_neg hz] at h
def evDict (t : Bool) (ρ : Env) : R RV := .ok (.own (if t then .dT [] else .dK [])) ρ
theorem DE_dict {t : Bool} : PE X (.Dict [] [] pos) (tD Wx (evDict t)) := by
  cases t with
  | false =>
    refine PE.imp pe_dnewK fun σ H Q h p np => ?_
    obtain ⟨F, ρ, s, h⟩ := h
    obtain ⟨F2, p2, r2⟩ := (PostE.refl s).new (v := .ref p) (r := .own (.dK [])) (H2 := upd H p (.dK [])) ⟨same_upd np, p, rfl, .non np, s.sub.free np, [], upd_same, .nil⟩
    exact h F2 _ _ p2 r2
  | true =>
    refine PE.imp pe_dnewT fun σ H Q h p np => ?_
    obtain ⟨F, ρ, s, h⟩ := h
    obtain ⟨F2, p2, r2⟩ := (PostE.refl s).new (v := .ref p) (r := .own (.dT [])) (H2 := upd H p (.dT [])) ⟨same_upd np, p, rfl, .non np, s.sub.free np, [], upd_same, .nil⟩
    exact h F2 _ _ p2 r2
end

/-! ## truths -/
def evT (f : Env → R RV) (ρ : Env) : R Bool := (f ρ).bind fun u ρ1 => match u with
  | .val (.bool b) => .ok b ρ1
  | _ => .bad
def ofB (t : Env → R Bool) (ρ : Env) : R RV := (t ρ).bind fun b ρ1 => .ok (.val (.bool b)) ρ1
def evAnd (f g : Env → R RV) (ρ : Env) : R RV := (evT f ρ).bind fun b ρ1 => if b = true then g ρ1 else .ok (.val (.bool false)) ρ1
def evOr (f g : Env → R RV) (ρ : Env) : R RV := (evT f ρ).bind fun b ρ1 => if b = true then .ok (.val (.bool true)) ρ1 else g ρ1
def evNot (f : Env → R RV) (ρ : Env) : R RV := (evT f ρ).bind fun b ρ1 => .ok (.val (.bool (!b))) ρ1
def evIte (c : Env → R RV) (f g : Env → R RV) (ρ : Env) : R RV := (evT c ρ).bind fun b ρ1 => if b = true then f ρ1 else g ρ1
section
variable {X : Cx} {Wx : XW} {σ : St} {H : Hp} {f g c : Env → R RV}
theorem tD_bool {Q : Bool → Hp → Prop} (h : tTs Wx (evT f) σ H Q) : tD Wx f σ H fun x H1 => ∃ b, x = .bl b ∧ Q b H1 := by
  obtain ⟨F, ρ, s, h⟩ := h
  refine ⟨F, ρ, s, ?_⟩
  unfold evT at h
  cases hf : f ρ with
  | bad => simp only [hf, R.bind_bad] at h
  | exc c ρ1 => simp only [hf, R.bind_exc] at h; exact h
  | ok u ρ1 =>
    simp only [hf, R.bind_ok] at h
    intro F1 H1 x p1 v1
    cases u with
    | own o => exact h.elim
    | bor i => exact h.elim
    | val d =>
      cases d with
      | bool b =>
        have v1 : Rp F1 (.bool b) x := v1
        cases v1
        exact ⟨b, rfl, h F1 H1 p1⟩
      | _ => exact h.elim
/-- behind a truth -/
theorem tT_bind {α : Type} {k : Bool → Env → R α} {ρ : Env} {F : Hp} {Post : Hp → Hp → Env → α → Prop} {XP : Str → Hp → Prop} (s : SR F H σ ρ) (t : Env → R Bool)
    (h : match (t ρ).bind k with
      | .ok r ρ' => ∀ F' H', PostE F H σ ρ F' H' ρ' → Post F' H' ρ' r
      | .exc c ρ' => ∀ F' H', PostE F H σ ρ F' H' ρ' → XP c H'
      | .bad => False) :
    match t ρ with
      | .ok b ρ1 => ∀ F1 H1, PostE F H σ ρ F1 H1 ρ1 → (match k b ρ1 with
        | .ok r ρ' => ∀ F' H', PostE F1 H1 σ ρ1 F' H' ρ' → Post F' H' ρ' r
        | .exc c ρ' => ∀ F' H', PostE F1 H1 σ ρ1 F' H' ρ' → XP c H'
        | .bad => False)
      | .exc c ρ' => ∀ F' H', PostE F H σ ρ F' H' ρ' → XP c H'
      | .bad => False := by
  cases ht : t ρ with
  | bad => simp only [ht, R.bind_bad] at h
  | exc c ρ1 => simp only [ht, R.bind_exc] at h; exact h
  | ok b ρ1 =>
    simp only [ht, R.bind_ok] at h
    intro F1 H1 p1
    cases hk : k b ρ1 with
    | bad => simp only [hk] at h
    | exc c ρ2 => simp only [hk] at h; exact fun F2 H2 p2 => h F2 H2 (p1.trans p2)
    | ok r ρ2 => simp only [hk] at h; exact fun F2 H2 p2 => h F2 H2 (p1.trans p2)
theorem ite_D {Q : VK} (h : tD Wx (evIte c f g) σ H Q) : tTs Wx (evT c) σ H fun b H1 => if b = true then tD Wx f σ H1 Q else tD Wx g σ H1 Q := by
  obtain ⟨F, ρ, s, h⟩ := h
  refine ⟨F, ρ, s, ?_⟩
  unfold evIte at h
  cases ht : evT c ρ with
  | bad => simp only [ht, R.bind_bad] at h
  | exc c ρ1 => simp only [ht, R.bind_exc] at h; exact h
  | ok b ρ1 =>
    simp only [ht, R.bind_ok] at h
    intro F1 H1 p1
    have go : ∀ f : Env → R RV, (match f ρ1 with
        | .ok r ρ' => ∀ F' H' v, PostE F H σ ρ F' H' ρ' → VR H F' H' σ v r → Q v H'
        | .exc c ρ' => ∀ F' H', PostE F H σ ρ F' H' ρ' → Wx c σ H'
        | .bad => False) → tD Wx f σ H1 Q := fun f h => by
      refine ⟨F1, ρ1, p1.sr, ?_⟩
      cases hf : f ρ1 with
      | bad => simp only [hf] at h
      | exc c ρ2 => simp only [hf] at h; exact fun F2 H2 p2 => h F2 H2 (p1.trans p2)
      | ok r ρ2 => simp only [hf] at h; exact fun F2 H2 v p2 v2 => h F2 H2 v (p1.trans p2) (v2.from fun a z => p1.ext.back z)
    cases b with
    | true => exact go f h
    | false => exact go g h
theorem DE_ite {e a b : Expr} {pos : Pos} (hc : PT X e (tTs Wx (evT c))) (ha : PE X a (tD Wx f)) (hb : PE X b (tD Wx g)) : PE X (.IfExp e a b pos) (tD Wx (evIte c f g)) :=
  PE.imp (pe_ifExp hc ha hb) fun σ H Q h => ite_D h
/-- a test of a value -/
theorem DT_val {e : Expr} (h : PE X e (tD Wx f)) (he : ∀ whole, isTrue e X.env whole = (do let v ← whole; standAt e.pos; holding [v] (truthy v))) : PT X e (tTs Wx (evT f)) :=
  PT.imp (pt_val h he) fun σ H Q h => tD_bool h
theorem DE_and {a b : Expr} {rest : List Expr} {pos : Pos} (ha : PE X a (tD Wx f)) (hb : PE X (.BoolOp .And (b :: rest) pos) (tD Wx g)) : PE X (.BoolOp .And (a :: b :: rest) pos) (tD Wx (evAnd f g)) := by
  refine PE.imp (pe_and ha hb) fun σ H Q h => ?_
  have h' : tTs Wx (evT f) σ H fun b H1 => if b = true then tD Wx g σ H1 Q else tD Wx (evC (.bool false)) σ H1 Q := ite_D (c := f) (f := g) (g := evC (.bool false)) h
  obtain ⟨F, ρ, s, h⟩ := tD_bool h'
  refine ⟨F, ρ, s, ?_⟩
  cases hf : f ρ with
  | bad => simp only [hf] at h
  | exc c ρ1 => simp only [hf] at h; exact h
  | ok u ρ1 =>
    simp only [hf] at h
    intro F1 H1 x p1 v1
    obtain ⟨b, e, q⟩ := h F1 H1 x p1 v1
    refine ⟨b, e, ?_⟩
    cases b with
    | true => exact q
    | false =>
      obtain ⟨F2, ρ2, s2, q⟩ := q
      exact q F2 H1 _ (.refl s2) (.bl false)
theorem DE_or {a b : Expr} {rest : List Expr} {pos : Pos} (ha : PE X a (tD Wx f)) (hb : PE X (.BoolOp .Or (b :: rest) pos) (tD Wx g)) : PE X (.BoolOp .Or (a :: b :: rest) pos) (tD Wx (evOr f g)) := by
  refine PE.imp (pe_or ha hb) fun σ H Q h => ?_
  have h' : tTs Wx (evT f) σ H fun b H1 => if b = true then tD Wx (evC (.bool true)) σ H1 Q else tD Wx g σ H1 Q := ite_D (c := f) (f := evC (.bool true)) (g := g) h
  obtain ⟨F, ρ, s, h⟩ := tD_bool h'
  refine ⟨F, ρ, s, ?_⟩
  cases hf : f ρ with
  | bad => simp only [hf] at h
  | exc c ρ1 => simp only [hf] at h; exact h
  | ok u ρ1 =>
    simp only [hf] at h
    intro F1 H1 x p1 v1
    obtain ⟨b, e, q⟩ := h F1 H1 x p1 v1
    refine ⟨b, e, ?_⟩
    cases b with
    | false => exact q
    | true =>
      obtain ⟨F2, ρ2, s2, q⟩ := q
      exact q F2 H1 _ (.refl s2) (.bl true)
theorem tTs_imp {t : Env → R Bool} {Q Q' : Bool → Hp → Prop} (h : tTs Wx t σ H Q) (i : ∀ b H, Q b H → Q' b H) : tTs Wx t σ H Q' := by
  obtain ⟨F, ρ, s, h⟩ := h
  refine ⟨F, ρ, s, ?_⟩
  cases hf : t ρ with
  | bad => simp only [hf] at h
  | exc c ρ1 => simp only [hf] at h; exact h
  | ok u ρ1 => simp only [hf] at h; exact fun F1 H1 p1 => i _ _ (h F1 H1 p1)
/-- a test of a truth made of two -/
theorem iteT {Q : Bool → Hp → Prop} (h : tTs Wx (evT (evIte c f g)) σ H Q) : tTs Wx (evT c) σ H fun b H1 => if b = true then tTs Wx (evT f) σ H1 Q else tTs Wx (evT g) σ H1 Q := by
  obtain ⟨F, ρ, s, h⟩ := h
  refine ⟨F, ρ, s, ?_⟩
  unfold evT evIte at h
  cases ht : evT c ρ with
  | bad => simp only [ht, R.bind_bad] at h
  | exc c ρ1 => simp only [ht, R.bind_exc] at h; exact h
  | ok b ρ1 =>
    simp only [ht, R.bind_ok] at h
    intro F1 H1 p1
    have go : ∀ f : Env → R RV, (match evT f ρ1 with
        | .ok r ρ' => ∀ F' H', PostE F H σ ρ F' H' ρ' → Q r H'
        | .exc c ρ' => ∀ F' H', PostE F H σ ρ F' H' ρ' → Wx c σ H'
        | .bad => False) → tTs Wx (evT f) σ H1 Q := fun f h => by
      refine ⟨F1, ρ1, p1.sr, ?_⟩
      cases hf : evT f ρ1 with
      | bad => simp only [hf] at h
      | exc c ρ2 => simp only [hf] at h; exact fun F2 H2 p2 => h F2 H2 (p1.trans p2)
      | ok r ρ2 => simp only [hf] at h; exact fun F2 H2 p2 => h F2 H2 (p1.trans p2)
    cases b with
    | true => exact go f h
    | false => exact go g h
theorem DT_ite {e a b : Expr} {pos : Pos} (hc : PT X e (tTs Wx (evT c))) (ha : PT X a (tTs Wx (evT f))) (hb : PT X b (tTs Wx (evT g))) : PT X (.IfExp e a b pos) (tTs Wx (evT (evIte c f g))) := by
  refine ⟨fun pins s σ H Q I h => ?_⟩
  have h := iteT h
  rw [show isTrue (.IfExp e a b pos) X.env (eval (.IfExp e a b pos) X.env) = (do if ← isTrue e X.env (eval e X.env) then isTrue a X.env (eval a X.env) else isTrue b X.env (eval b X.env)) from rfl]
  refine wpAny_bind (thn (hc.run pins s σ H _ I h) fun d s1 ⟨H1, I1, q1⟩ => ?_)
  cases d with
  | true => exact ha.run pins s1 σ H1 Q I1 q1
  | false => exact hb.run pins s1 σ H1 Q I1 q1
theorem evC_true {σ : St} {H : Hp} {Q : Bool → Hp → Prop} {b : Bool} (h : tTs Wx (evT (evC (.bool b))) σ H Q) : Q b H := by
  obtain ⟨F, ρ, s, h⟩ := h
  exact h F H (.refl s)
theorem DW_and1 {a : Expr} {pos : Pos} (ha : PT X a (tTs Wx (evT f))) : PW X (.BoolOp .And [a] pos) (tTs Wx (evT f)) := pw_and1 ha
theorem DW_or1 {a : Expr} {pos : Pos} (ha : PT X a (tTs Wx (evT f))) : PW X (.BoolOp .Or [a] pos) (tTs Wx (evT f)) := pw_or1 ha
theorem DW_and {a b : Expr} {rest : List Expr} {pos : Pos} (ha : PT X a (tTs Wx (evT f))) (hb : PW X (.BoolOp .And (b :: rest) pos) (tTs Wx (evT g))) : PW X (.BoolOp .And (a :: b :: rest) pos) (tTs Wx (evT (evAnd f g))) := by
  refine PW.imp (pw_and ha hb) fun σ H Q h => ?_
  have h := iteT (c := f) (f := g) (g := evC (.bool false)) h
  refine tTs_imp h fun b H1 q => ?_
  cases b with
  | true => exact q
  | false => exact evC_true (Wx := Wx) q
theorem DW_or {a b : Expr} {rest : List Expr} {pos : Pos} (ha : PT X a (tTs Wx (evT f))) (hb : PW X (.BoolOp .Or (b :: rest) pos) (tTs Wx (evT g))) : PW X (.BoolOp .Or (a :: b :: rest) pos) (tTs Wx (evT (evOr f g))) := by
  refine PW.imp (pw_or ha hb) fun σ H Q h => ?_
  have h := iteT (c := f) (f := evC (.bool true)) (g := g) h
  refine tTs_imp h fun b H1 q => ?_
  cases b with
  | false => exact q
  | true => exact evC_true (Wx := Wx) q
theorem not_T {Q : Bool → Hp → Prop} (h : tTs Wx (evT (evNot f)) σ H Q) : tTs Wx (evT f) σ H fun b H1 => Q (!b) H1 := by
  obtain ⟨F, ρ, s, h⟩ := h
  refine ⟨F, ρ, s, ?_⟩
  unfold evNot at h
  cases hf : evT f ρ with
  | bad => rw [show evT (fun ρ => (evT f ρ).bind fun b ρ1 => .ok (.val (.bool (!b))) ρ1) ρ = .bad by simp only [evT] at hf ⊢; rw [hf]; rfl] at h; exact h
  | exc c ρ1 => rw [show evT (fun ρ => (evT f ρ).bind fun b ρ1 => .ok (.val (.bool (!b))) ρ1) ρ = .exc c ρ1 by simp only [evT] at hf ⊢; rw [hf]; rfl] at h; exact h
  | ok b ρ1 => rw [show evT (fun ρ => (evT f ρ).bind fun b ρ1 => .ok (.val (.bool (!b))) ρ1) ρ = .ok (!b) ρ1 by simp only [evT] at hf ⊢; rw [hf]; rfl] at h; exact h
theorem DT_not {a : Expr} {pos : Pos} (ha : PT X a (tTs Wx (evT f))) : PT X (.UnaryOp .Not a pos) (tTs Wx (evT (evNot f))) :=
  PT.imp (pt_not ha) fun σ H Q h => not_T h
theorem DE_not {a : Expr} {pos : Pos} (ha : PE X a (tD Wx f)) : PE X (.UnaryOp .Not a pos) (tD Wx (evNot f)) := by
  refine PE.imp (pe_not ha) fun σ H Q h => ?_
  have h' : tTs Wx (evT f) σ H fun b H1 => Q (.bl (!b)) H1 := by
    obtain ⟨F, ρ, s, h⟩ := h
    refine ⟨F, ρ, s, ?_⟩
    unfold evNot at h
    cases hf : evT f ρ with
    | bad => simp only [hf, R.bind_bad] at h
    | exc c ρ1 => simp only [hf, R.bind_exc] at h; exact h
    | ok b ρ1 => simp only [hf, R.bind_ok] at h; exact fun F1 H1 p1 => h F1 H1 _ p1 (.bl _)
  exact tD_bool h'
end
end BX

set_option Elab.async false
set_option linter.all false
set_option maxRecDepth 100000
set_option maxHeartbeats 4000000
/-! ### enumerate of a tuple -/
namespace PySem
open Sem (wp)
theorem bx_enum_new {v : Value} {ob : Obj} {Hs : Heap → Prop} (B : Begins v ob Hs) :
    Meets (Builtin.«enumerate.__new__» ⟨[.type "enumerate", v], []⟩) (fun _ W st => Hs st.heap ∧
      W (.ok (.ret (.ref (st.heap.push ob).objs.size))) { st with heap := (st.heap.push ob).push { cls := .type "enumerate", data := .fields #[.none, .bool false, .ref st.heap.objs.size, rawInt 0, .none, .none] } }) :=
  .of_wp fun prog w A W st h => by
    obtain ⟨hp, g, d, tk, os⟩ := st
    obtain ⟨hv, h⟩ := h
    have hsub := sub_enumerate
    have it0 : ∀ {A' : Around} {E : Value → Shared → Prop} {Q : Value → Shared → Prop}, Q (.ref hp.objs.size) ⟨hp.push ob, g, d, tk, os⟩ → wpAny (model prog w) A' (pyIter v) Q E ⟨hp, g, d, tk, os⟩ :=
      fun z => B.iter prog w _ _ ⟨hp, g, d, tk, os⟩ _ hv z
    wp_walk using it0
    refine wpAny_stack_any fun y => wpAny_pure ?_
    split
    · rename_i c _ _ _ _ _
      cases (c == Value.type "enumerate")
      · wp_walk using it0
        exact ⟨_, rfl, h⟩
      · wp_walk using it0
        exact ⟨_, rfl, h⟩
    · wp_walk using it0
      exact ⟨_, rfl, h⟩
section
variable {prog : Program} {w : World} {A : Around} {E : Value → Shared → Prop} {st : Shared}
theorem bx_enum_call {v : Value} {ob : Obj} {Hs : Heap → Prop} {Q : Value → Shared → Prop} (B : Begins v ob Hs) (hv : Hs st.heap)
    (h : ∀ g, IsEnum g (st.heap.objs.size + 1) st.heap.objs.size 0 .none → g.get? st.heap.objs.size = some ob →
      (∀ b o, st.heap.get? b = some o → g.get? b = some o) → Q (.ref (st.heap.objs.size + 1)) { st with heap := g }) :
    wpAny (model prog w) A (call (.type "enumerate") [v]) Q E st := by
  refine callType_new F.called_enumerate (by decide) (F.typeCall_enumerate_1 _) (F.newCall_enumerate_1 _) (fun x => F.args_object_init_2 x _) F.entry_enumerate_new (bx_enum_new B) ⟨hv, ?_⟩
  have hz : (st.heap.push ob).objs.size = st.heap.objs.size + 1 := Heap.size_push ..
  show _ ∧ _
  rw [hz]
  have he := Heap.get?_push_size (st.heap.push ob) (o := { cls := .type "enumerate", data := .fields #[.none, .bool false, .ref st.heap.objs.size, rawInt 0, .none, .none] }) rfl
  rw [hz] at he
  exact ⟨⟨_, he, rfl⟩, h _ he (Heap.get?_push_of_some _ (Heap.get?_push_size _ B.free)) fun b o x => Heap.get?_push_of_some _ (Heap.get?_push_of_some _ x)⟩
end
end PySem
namespace L2
open PySem PySem.Spec PyProof.Rows
/-- the tuple at a, each thing in a new pair with its number -/
def IteT (K : PySem.W.Frag) (a : Addr) : It :=
  ⟨fun n G => ∃ (zs : List V) (z : V), SqT K G a zs ∧ zs[n]? = some z, fun n G v G2 => ∃ T z, v = .ref T ∧ G T = none ∧ G2 = upd G T (.tup [.int (n : Nat), z]) ∧ ∀ zs, SqT K G a zs → zs[n]? = some z,
    fun n G => ∃ zs : List V, SqT K G a zs ∧ zs.length ≤ n⟩
theorem turn_enumT {P : Program} {w : World} {K : PySem.W.Frag} {elts : List Expr} {kk : Nat} {tpos : Pos} {a c t : Addr} (hct : c ≠ t) (hca : c ≠ a) (hat : a ≠ t) :
    Turn P w K (.Tuple elts kk tpos) (IteT K a) [c, t] c (fun n g => (∃ old, IsEnum g c t ((n : Nat) : Int) old) ∧ g.IsTupleIter t a n) where
  mem := by simp
  obj := fun n g st b hb => by
    obtain ⟨⟨old, he⟩, o, ho, _, hd⟩ := st
    have hb2 : b = c ∨ b = t := by simpa using hb
    rcases hb2 with rfl | rfl
    · exact ⟨_, he, fun v q => nomatch q⟩
    · exact ⟨o, ho, fun v q => by rw [hd] at q; cases q⟩
  keep := fun n g g2 st k => by
    obtain ⟨⟨old, he⟩, hi⟩ := st
    exact ⟨⟨old, k c (by simp) _ he⟩, hi.at fun o q => k t (by simp) o q⟩
  item := by
    intro X hP hw hK hc n pins s σ G E I hf st hg
    subst hP hw hK
    obtain ⟨⟨old, he⟩, hi⟩ := st
    obtain ⟨zs, z, hq, hz⟩ := hg
    obtain ⟨its, rv, p, _⟩ := I.tuple hq
    obtain ⟨u, hu, ru⟩ := rv.get hz
    have hcl : c < s.heap.objs.size := Heap.lt_size he
    have htl : t < s.heap.objs.size := by
      obtain ⟨_, q, _⟩ := hi
      exact Heap.lt_size q
    have hn : n < its.toArray.size := by
      have := (List.getElem?_eq_some_iff.mp hu).1
      simpa using this
    refine wpAny_pyNext_enum_itemD (Draws.tuple (A := X.A.in1) (show X.A.in1.handled = none from I.ok.hd hc) t a hat its.toArray) he ⟨hi, p⟩ hn hct (by simp [hct, hca]) fun x g tk hx ho hst hT hsz hk => ?_
    have hxu : x = u := by
      have e : its.toArray[n]? = some x := hx
      rw [List.getElem?_toArray, hu] at e
      exact (Option.some.inj e).symm
    subst hxu
    refine ⟨_, rfl, wpAny_letOwnedTupleGo_enum (s := { s with heap := g, toks := tk + 1 }) ho fun g2 he2 sb => ?_⟩
    have hT2 : g2.get? s.heap.objs.size = some { cls := .type "tuple", data := .seq #[.int n tk, x] } := (sb.2 _ (Nat.ne_of_gt hcl)).trans hT
    have hnew : ObjOk X.prog X.w (upd G s.heap.objs.size (.tup [.int (n : Nat), z])) g2 s.heap.objs.size (.tup [.int (n : Nat), z]) :=
      ⟨by show 2 ≤ sizeLine; decide, [.int n tk, x], .cons ⟨_, rfl⟩ (.cons ru .nil), ⟨_, hT2, rfl, _, rfl⟩⟩
    have I2 : Inv X pins σ (upd G s.heap.objs.size (.tup [.int (n : Nat), z])) { s with heap := g2, toks := tk + 1 } :=
      I.turnedNew (t' := tk + 1) (ch := [c, t]) (fun b o hb q => (sb.2 b (fun y => hb (by simp [y]))).trans (hk b o (fun y => hb (by simp [y])) (fun y => hb (by simp [y])) q)) hf (Nat.le_refl _) hnew
    refine ⟨.ref s.heap.objs.size, _, I2, rfl, ⟨_, z, rfl, I.hok.fresh (Nat.le_refl _), rfl, fun ys hy => by rw [I.tuple_inj hy hq]; exact hz⟩, ⟨⟨x, ?_⟩, hst.1.at fun o q => (sb.2 t (Ne.symm hct)).trans q⟩, fun b hb => ?_⟩
    · rw [show ((n + 1 : Nat) : Int) = (n : Int) + 1 by omega]
      exact he2
    · have hb2 : b = c ∨ b = t := by simpa using hb
      have hlt : b < s.heap.objs.size := by
        rcases hb2 with rfl | rfl
        · exact hcl
        · exact htl
      rw [upd_ne (Nat.ne_of_lt hlt)]
      exact (hf b hb).1
  done := by
    intro X hP hw hK hc n pins s σ G E I hf st hg
    subst hP hw hK
    obtain ⟨⟨old, he⟩, hi⟩ := st
    obtain ⟨zs, hq, hz⟩ := hg
    obtain ⟨its, rv, p, _⟩ := I.tuple hq
    have hl := rv.length
    have hnone : its.toArray[n]? = none := by simp; omega
    have D : Draws X.prog X.w X.A.in1 t [t, a] n (fun _ _ => False) (fun j g => j = n ∧ g.IsTupleIter t a n ∧ g.IsTuple a its.toArray) :=
      { live := fun _ _ y => let ⟨o, ho, _⟩ := y.2.1; ⟨o, ho⟩
        frame := fun _ _ _ y k => ⟨y.1, y.2.1.at fun o q => k t (by simp) o q, y.2.2.at fun o q => k a (by simp) o q⟩
        item := fun j _ _ _ hj y _ => absurd y.1 (by omega)
        done := fun _ _ _ y hE => wpAny_nextOf_tuple_end (show X.A.in1.handled = none from I.ok.hd hc) y.2.1 y.2.2 hnone hE }
    refine wpAny_pyNext_enum_endD D he ⟨rfl, hi, p⟩ fun g hk => ⟨rfl, ?_⟩
    exact I.turnedL (t' := s.toks) (ch := [c, t]) (fun b o hb q => hk b o (fun y => hb (by simp [y])) q) hf
  self := fun A n s Q E st h => let ⟨⟨_, he⟩, _⟩ := st; wpAny_pyIter_enum he h
def iEnumT (K : PySem.W.Frag) (ta : TA) : TI := fun σ G R => ta σ G fun vs G1 => ∃ a zs, vs = [.ref a] ∧ SqT K G1 a zs ∧ R (IteT K a) G1
theorem pi_enumT {X : Cx} {e : Expr} {ta : TA} {p pos tpos : Pos} {elts : List Expr} {kk : Nat} (hg : Gl X "enumerate") (hm : X.mg "enumerate" = none) (ha : PA X [e] ta) (hs : starEach [e] X.env = [(false, eval e X.env)]) :
    PI X (.Tuple elts kk tpos) (.Call (.Name "enumerate" p) [e] [] pos) (iEnumT X.K ta) := by
  refine ⟨fun pins s σ G R I h => ?_⟩
  refine Call_ (ld_blt I hg hm boot_enumerate (PyProof.Rows.callWith_type1 (thn (ha.run pos pins s σ G _ I h) fun us s1 ⟨vs, G1, I1, r1, q1⟩ => ?_) hs rfl))
  obtain ⟨a, zs, ez, hq, q⟩ := q1
  subst ez
  obtain ⟨u, rfl, ru⟩ := vals1 r1
  cases ru
  obtain ⟨its, rv, p2, _⟩ := I1.tuple hq
  have hal : a < s1.heap.objs.size := by
    obtain ⟨_, z, _⟩ := p2
    exact Heap.lt_size z
  refine bx_enum_call (begins_tuple a its.toArray) p2 fun g he hit hk => wpAny_pyIter_enum he ?_
  have I2 : Inv X pins σ G1 { s1 with heap := g } := I1.kept (t' := s1.toks) hk
  refine ⟨s1.heap.objs.size + 1, [s1.heap.objs.size + 1, s1.heap.objs.size], _, _, G1, rfl, I2, turn_enumT (a := a) (c := s1.heap.objs.size + 1) (t := s1.heap.objs.size) (Nat.succ_ne_self _) (Nat.ne_of_gt (Nat.lt_succ_of_lt hal)) (Nat.ne_of_lt hal), ⟨⟨.none, he⟩, _, hit, rfl, rfl⟩, fun b hb => ?_, q⟩
  have hb2 : b = s1.heap.objs.size + 1 ∨ b = s1.heap.objs.size := by simpa using hb
  have hle : s1.heap.objs.size ≤ b := by
    rcases hb2 with rfl | rfl
    · exact Nat.le_succ _
    · exact Nat.le_refl _
  exact I1.fpOk hle (I1.hok.fresh hle)
/-- the text x, each sign in a new pair with its number -/
def IteS (x : Str) : It :=
  ⟨fun n _ => n < x.cps.size, fun n G v G2 => ∃ T c, v = .ref T ∧ G T = none ∧ x.cps[n]? = some c ∧ G2 = upd G T (.tup [.int (n : Nat), .str ⟨#[c]⟩]), fun n _ => x.cps.size ≤ n⟩
theorem turn_enumS {P : Program} {w : World} {K : PySem.W.Frag} {elts : List Expr} {kk : Nat} {tpos : Pos} {c t : Addr} {x : Str} {tk0 : Tok} (hct : c ≠ t) :
    Turn P w K (.Tuple elts kk tpos) (IteS x) [c, t] c (fun n g => n ≤ x.cps.size ∧ (∃ old, IsEnum g c t ((n : Nat) : Int) old) ∧ g.IsStrIter t (strIterType x) x tk0 n) where
  mem := by simp
  obj := fun n g st b hb => by
    obtain ⟨_, ⟨old, he⟩, o, ho, _, hd⟩ := st
    have hb2 : b = c ∨ b = t := by simpa using hb
    rcases hb2 with rfl | rfl
    · exact ⟨_, he, fun v q => nomatch q⟩
    · exact ⟨o, ho, fun v q => by rw [hd] at q; cases q⟩
  keep := fun n g g2 st k => by
    obtain ⟨hn, ⟨old, he⟩, o, ho, r⟩ := st
    exact ⟨hn, ⟨old, k c (by simp) _ he⟩, o, k t (by simp) o ho, r⟩
  item := by
    intro X hP hw hK hc n pins s σ G E I hf st hg
    subst hP hw hK
    obtain ⟨hn0, ⟨old, he⟩, hi⟩ := st
    have hcl : c < s.heap.objs.size := Heap.lt_size he
    have htl : t < s.heap.objs.size := by
      obtain ⟨_, q, _⟩ := hi
      exact Heap.lt_size q
    have hn : n < x.cps.size := hg
    refine wpAny_pyNext_enum_itemD (Draws.text (A := X.A.in1) (show X.A.in1.handled = none from I.ok.hd hc) t x tk0) he hi hn hct (by simp [hct]) fun y g tk hy ho hst hT hsz hk => ?_
    obtain ⟨cp, u, hcp, rfl⟩ := hy
    refine ⟨_, rfl, wpAny_letOwnedTupleGo_enum (s := { s with heap := g, toks := tk + 1 }) ho fun g2 he2 sb => ?_⟩
    have hT2 : g2.get? s.heap.objs.size = some { cls := .type "tuple", data := .seq #[.int n tk, .str ⟨#[cp]⟩ u] } := (sb.2 _ (Nat.ne_of_gt hcl)).trans hT
    have hnew : ObjOk X.prog X.w (upd G s.heap.objs.size (.tup [.int (n : Nat), .str ⟨#[cp]⟩])) g2 s.heap.objs.size (.tup [.int (n : Nat), .str ⟨#[cp]⟩]) :=
      ⟨by show 2 ≤ sizeLine; decide, [.int n tk, .str ⟨#[cp]⟩ u], .cons ⟨_, rfl⟩ (.cons ⟨_, rfl⟩ .nil), ⟨_, hT2, rfl, _, rfl⟩⟩
    have I2 : Inv X pins σ (upd G s.heap.objs.size (.tup [.int (n : Nat), .str ⟨#[cp]⟩])) { s with heap := g2, toks := tk + 1 } :=
      I.turnedNew (t' := tk + 1) (ch := [c, t]) (fun b o hb q => (sb.2 b (fun y => hb (by simp [y]))).trans (hk b o (fun y => hb (by simp [y])) (fun y => hb (by simp [y])) q)) hf (Nat.le_refl _) hnew
    refine ⟨.ref s.heap.objs.size, _, I2, rfl, ⟨_, cp, rfl, I.hok.fresh (Nat.le_refl _), hcp, rfl⟩, ⟨hn, ⟨_, (show ((n + 1 : Nat) : Int) = (n : Int) + 1 by omega) ▸ he2⟩, ?_⟩, fun b hb => ?_⟩
    · obtain ⟨o2, ho2, r2⟩ := hst
      exact ⟨o2, (sb.2 t (Ne.symm hct)).trans ho2, r2⟩
    · have hb2 : b = c ∨ b = t := by simpa using hb
      have hlt : b < s.heap.objs.size := by
        rcases hb2 with rfl | rfl
        · exact hcl
        · exact htl
      rw [upd_ne (Nat.ne_of_lt hlt)]
      exact (hf b hb).1
  done := by
    intro X hP hw hK hc n pins s σ G E I hf st hg
    subst hP hw hK
    obtain ⟨hn0, ⟨old, he⟩, hi⟩ := st
    have hn : x.cps.size ≤ n := hg
    have en : n = x.cps.size := Nat.le_antisymm hn0 hn
    subst en
    refine wpAny_pyNext_enum_endD (Draws.text (A := X.A.in1) (show X.A.in1.handled = none from I.ok.hd hc) t x tk0) he hi fun g hk => ⟨rfl, ?_⟩
    exact I.turnedL (t' := s.toks) (ch := [c, t]) (fun b o hb q => hk b o (fun y => hb (by simp [y])) q) hf
  self := fun A n s Q E st h => let ⟨_, ⟨_, he⟩, _⟩ := st; wpAny_pyIter_enum he h
def iEnumS (ta : TA) : TI := fun σ G R => ta σ G fun vs G1 => ∃ x, vs = [.str x] ∧ R (IteS x) G1
theorem pi_enumS {X : Cx} {e : Expr} {ta : TA} {p pos tpos : Pos} {elts : List Expr} {kk : Nat} (hg : Gl X "enumerate") (hm : X.mg "enumerate" = none) (ha : PA X [e] ta) (hs : starEach [e] X.env = [(false, eval e X.env)]) :
    PI X (.Tuple elts kk tpos) (.Call (.Name "enumerate" p) [e] [] pos) (iEnumS ta) := by
  refine ⟨fun pins s σ G R I h => ?_⟩
  refine Call_ (ld_blt I hg hm boot_enumerate (PyProof.Rows.callWith_type1 (thn (ha.run pos pins s σ G _ I h) fun us s1 ⟨vs, G1, I1, r1, q1⟩ => ?_) hs rfl))
  obtain ⟨x, ez, q⟩ := q1
  subst ez
  obtain ⟨u, rfl, ru⟩ := vals1 r1
  obtain ⟨tk0, rfl⟩ := ru
  refine bx_enum_call (begins_text x tk0) True.intro fun g he hit hk => wpAny_pyIter_enum he ?_
  have I2 : Inv X pins σ G1 { s1 with heap := g } := I1.kept (t' := s1.toks) hk
  refine ⟨s1.heap.objs.size + 1, [s1.heap.objs.size + 1, s1.heap.objs.size], _, _, G1, rfl, I2, turn_enumS (c := s1.heap.objs.size + 1) (t := s1.heap.objs.size) (x := x) (tk0 := tk0) (Nat.succ_ne_self _), ⟨Nat.zero_le _, ⟨.none, he⟩, _, hit, rfl, rfl⟩, fun b hb => ?_, q⟩
  have hb2 : b = s1.heap.objs.size + 1 ∨ b = s1.heap.objs.size := by simpa using hb
  have hle : s1.heap.objs.size ≤ b := by
    rcases hb2 with rfl | rfl
    · exact Nat.le_succ _
    · exact Nat.le_refl _
  exact I1.fpOk hle (I1.hok.fresh hle)
theorem PI.or {X : Cx} {tg iter : Expr} {t1 t2 : TI} (p1 : PI X tg iter t1) (p2 : PI X tg iter t2) : PI X tg iter (fun σ G R => t1 σ G R ∨ t2 σ G R) :=
  ⟨fun pins s σ G R I h => h.elim (p1.run pins s σ G R I) (p2.run pins s σ G R I)⟩
end L2

set_option Elab.async false
set_option linter.all false
set_option maxRecDepth 100000
set_option maxHeartbeats 4000000
namespace BX
open PySem PySem.Spec PyProof.Rows L2 RZ
variable [Tbs]

/-! ## what is walked -/
def IterOk (F : Hp) (J : It) (items : List D) : Prop := ∀ (i : Nat) (F' H' : Hp), Same F F' → Sb F' H' →
  (∀ d, items[i]? = some d → J.go i H' ∧ ∀ x H'', J.yld i H' x H'' → NewR F' H' H'' x (.val d)) ∧ (items[i]? = none → J.stop i H')
def tIt (Wx : XW) (ev : Env → R (List D)) : TI := fun σ H Q => ∃ F ρ, SR F H σ ρ ∧
  match ev ρ with
  | .ok ds ρ' => ∀ F' H' J, PostE F H σ ρ F' H' ρ' → IterOk F' J ds → Q J H'
  | .exc c ρ' => ∀ F' H', PostE F H σ ρ F' H' ρ' → Wx c σ H'
  | .bad => False
theorem PI.imp {X : Cx} {tg e : Expr} {t t' : TI} (h : PI X tg e t) (i : ∀ σ H Q, t' σ H Q → t σ H Q) : PI X tg e t' := ⟨fun pins s σ H Q I q => h.run pins s σ H Q I (i σ H Q q)⟩
theorem PI.or {X : Cx} {tg e : Expr} {t t' : TI} (h : PI X tg e t) (h' : PI X tg e t') : PI X tg e (fun σ H Q => t σ H Q ∨ t' σ H Q) := ⟨fun pins s σ H Q I q => by
  rcases q with q | q
  · exact h.run pins s σ H Q I q
  · exact h'.run pins s σ H Q I q⟩
/-- by a value: a list, a tuple, a text -/
theorem pi_val {X : Cx} {tg l : Expr} {tl : TE} (hl : PE X l tl) : PI X tg l (fun σ H Q => tl σ H fun x H1 => (∃ a, x = .ref a ∧ (∃ xs, SqL X.K H1 a xs) ∧ Q (Itl X.K a) H1) ∨ (∃ a, x = .ref a ∧ (∃ xs, SqT X.K H1 a xs) ∧ Q (Itt X.K a) H1) ∨ ∃ z, x = .str z ∧ Q (Its z) H1) := by
  refine ⟨fun pins s σ H R I h => ?_⟩
  refine thn (hl.run pins s σ H _ I h) fun v s1 ⟨x, H1, I1, r1, q1⟩ => ?_
  rcases q1 with ⟨a, e, ⟨xs, hq⟩, q⟩ | ⟨a, e, ⟨xs, hq⟩, q⟩ | ⟨z, e, q⟩
  · subst e
    cases r1
    obtain ⟨its, rv, p, hz⟩ := I1.list hq
    refine wpAny_pyIter_list p.isList ?_
    refine ⟨s1.heap.objs.size, [s1.heap.objs.size], _, _, H1, rfl, I1.kept (t' := s1.toks) fun b o e => Heap.get?_push_of_some _ e, turn_list a _, ⟨_, Heap.get?_push_size _ rfl, rfl, rfl⟩, fun b hb => ?_, q⟩
    have e : b = s1.heap.objs.size := by simpa using hb
    subst e
    exact I1.fpOk (Nat.le_refl _) (I1.hok.fresh (Nat.le_refl _))
  · subst e
    cases r1
    obtain ⟨its, rv, p, hz⟩ := I1.tuple hq
    refine wpAny_pyIter_tuple (show s1.heap.IsTuple a its.toArray from p) ?_
    refine ⟨s1.heap.objs.size, [s1.heap.objs.size], _, _, H1, rfl, I1.kept (t' := s1.toks) fun b o e => Heap.get?_push_of_some _ e, turn_tuple a _, ⟨_, Heap.get?_push_size _ rfl, rfl, rfl⟩, fun b hb => ?_, q⟩
    have e : b = s1.heap.objs.size := by simpa using hb
    subst e
    exact I1.fpOk (Nat.le_refl _) (I1.hok.fresh (Nat.le_refl _))
  · subst e
    obtain ⟨t, rfl⟩ := r1
    cases ha : z.cps.all (· < 128)
    · exact wpAny_pyIter_wide ha (pi_one (tk := s1.toks) I1 _ (turn_str _ z t "str_iterator" (.inr rfl)) ⟨_, Heap.get?_push_size _ rfl, rfl, rfl⟩ q)
    · exact wpAny_pyIter_ascii ha (pi_one (tk := s1.toks) I1 _ (turn_str _ z t "str_ascii_iterator" (.inl rfl)) ⟨_, Heap.get?_push_size _ rfl, rfl, rfl⟩ q)
def signs (z : Str) : List D := z.cps.toList.map fun c => .str ⟨#[c]⟩
def evSeq (f : Env → R RV) (ρ : Env) : R (List D) := (f ρ).bind fun u ρ1 => match valArgs false [u] ρ1 with
  | some ([.list ds], ρ2) => .ok ds ρ2
  | some ([.tuple ds], ρ2) => .ok ds ρ2
  | some ([.str z], ρ2) => .ok (signs z) ρ2
  | _ => .bad
theorem io_list {F : Hp} {K : PySem.W.Frag} {a : Addr} {vs : List V} {ds : List D} (h : Rd F a (.lst vs)) (r : Rps F ds vs) : IterOk F (Itl K a) ds := by
  intro i F' H' s1 s2
  have hq : SqL K H' a vs := .inl (Rd.same h (s1.trans s2.same))
  refine ⟨fun d e => ?_, fun e => ⟨vs, hq, by have := List.getElem?_eq_none_iff.mp e; rw [r.length]; exact this⟩⟩
  obtain ⟨v, h1, h2⟩ := r.get e
  refine ⟨⟨vs, v, hq, h1⟩, fun x H'' y => ?_⟩
  obtain ⟨rfl, y⟩ := y
  have := y vs hq
  rw [h1] at this; cases this
  exact .old s2 (h2.mono s1)
theorem io_tup {F : Hp} {K : PySem.W.Frag} {a : Addr} {vs : List V} {ds : List D} (h : F a = some (.tup vs)) (r : Rps F ds vs) : IterOk F (Itt K a) ds := by
  intro i F' H' s1 s2
  have hq : SqT K H' a vs := .inl (.inl (s2.same _ _ (s1 _ _ h)))
  refine ⟨fun d e => ?_, fun e => ⟨vs, hq, by have := List.getElem?_eq_none_iff.mp e; rw [r.length]; exact this⟩⟩
  obtain ⟨v, h1, h2⟩ := r.get e
  refine ⟨⟨vs, v, hq, h1⟩, fun x H'' y => ?_⟩
  obtain ⟨rfl, y⟩ := y
  have := y vs hq
  rw [h1] at this; cases this
  exact .old s2 (h2.mono s1)
theorem io_str {F : Hp} {z : Str} : IterOk F (Its z) (signs z) := by
  intro i F' H' s1 s2
  unfold signs
  rw [List.getElem?_map]
  refine ⟨fun d e => ?_, fun e => ?_⟩
  · obtain ⟨c, h1, rfl⟩ := Option.map_eq_some_iff.mp e
    have h1' : z.cps[i]? = some c := by simpa using h1
    refine ⟨(Array.getElem?_eq_some_iff.mp h1').1, fun x H'' y => ?_⟩
    obtain ⟨rfl, c', h2, rfl⟩ := y
    rw [h1'] at h2; cases h2
    exact .old s2 (.str _)
  · have := Option.map_eq_none_iff.mp e
    show z.cps.size ≤ i
    have := List.getElem?_eq_none_iff.mp this
    simpa using this
section
variable {X : Cx} {Wx : XW} {tg e : Expr} {f g : Env → R RV}
theorem froz1 {H F H1 : Hp} {F1 : Hp} {σ : St} {ρ ρ1 ρ2 : Env} {v : V} {r : RV} {ds : List D} (s : SR F H σ ρ) (p1 : PostE F H σ ρ F1 H1 ρ1) (v1 : VR H F1 H1 σ v r) (hva : valArgs false [r] ρ1 = some (ds, ρ2)) :
    ∃ F2 d, ds = [d] ∧ PostE F H σ ρ F2 H1 ρ2 ∧ Rp F2 d v := by
  obtain ⟨F2, p2, r2⟩ := froz s p1 (.cons v1 .nil) hva
  cases r2 with
  | cons h r2 => cases r2; exact ⟨F2, _, rfl, p2, h⟩
theorem DI_seq (he : PE X e (tD Wx f)) : PI X tg e (tIt Wx (evSeq f)) := by
  refine PI.imp (pi_val he) fun σ H Q h => ?_
  obtain ⟨F, ρ, s, h⟩ := h
  refine ⟨F, ρ, s, ?_⟩
  unfold evSeq at h
  cases hf : f ρ with
  | bad => simp only [hf, R.bind_bad] at h
  | exc c ρ1 => simp only [hf, R.bind_exc] at h; exact h
  | ok u ρ1 =>
    simp only [hf, R.bind_ok] at h
    intro F1 H1 x p1 v1
    cases hva : valArgs false [u] ρ1 with
    | none => simp only [hva] at h
    | some pr =>
      obtain ⟨ds, ρ2⟩ := pr
      obtain ⟨F2, d, rfl, p2, r2⟩ := froz1 s p1 v1 hva
      simp only [hva] at h
      cases r2 with
      | lst h1 r => exact .inl ⟨_, rfl, ⟨_, .inl (Rd.same h1 p2.sr.sub.same)⟩, h F2 H1 _ p2 (io_list h1 r)⟩
      | tup h1 r => exact .inr (.inl ⟨_, rfl, ⟨_, .inl (.inl (p2.sr.sub.same _ _ h1))⟩, h F2 H1 _ p2 (io_tup h1 r)⟩)
      | str z => exact .inr (.inr ⟨z, rfl, h F2 H1 _ p2 io_str⟩)
      | _ => exact h.elim
/-- range -/
def rangeL (lo hi : Int) : List Int := (List.range (hi - lo).toNat).map fun (i : Nat) => lo + i
def rngOk (i : Int) : Bool := decide (-(2 ^ 62) ≤ i ∧ i < 2 ^ 62)
def rngOf : List RV → Option (List Int)
  | [.val (.int j)] => if rngOk j = true then some (rangeL 0 j) else none
  | [.val (.int i), .val (.int j)] => if rngOk i = true ∧ rngOk j = true then some (rangeL i j) else none
  | _ => none
def evRng (fs : Env → R (List RV)) (ρ : Env) : R (List D) := (fs ρ).bind fun rs ρ1 => match rngOf rs with
  | some ns => .ok (ns.map .int) ρ1
  | none => .bad
theorem rangeL_get (lo hi : Int) (i : Nat) : (rangeL lo hi)[i]? = if i < (hi - lo).toNat then some (lo + i) else none := by
  unfold rangeL
  rw [List.getElem?_map]
  split
  · rename_i h
    rw [List.getElem?_range h]; rfl
  · rename_i h
    rw [List.getElem?_eq_none (by rw [List.length_range]; omega)]; rfl
theorem io_rng {F : Hp} {lo hi : Int} : IterOk F (Itr lo (hi - lo).toNat) ((rangeL lo hi).map .int) := by
  intro i F' H' s1 s2
  rw [List.getElem?_map, rangeL_get]
  by_cases h : i < (hi - lo).toNat
  · rw [if_pos h]
    refine ⟨fun d e => ?_, fun e => by cases e⟩
    cases e
    refine ⟨h, fun x H'' y => ?_⟩
    obtain ⟨rfl, rfl⟩ := y
    exact .old s2 (.int _)
  · rw [if_neg h]
    refine ⟨fun d e => (by cases e), fun e => ?_⟩
    show (hi - lo).toNat ≤ i
    omega
theorem DI_rng1 {a : Expr} {fs : Env → R (List RV)} {p pos : Pos} (hg : Gl X "range") (hm : X.mg "range" = none) (ha : PA X [a] (tAr Wx fs)) (hs : starEach [a] X.env = [(false, eval a X.env)]) (hl : ∀ ρ rs ρ', fs ρ = .ok rs ρ' → rs.length = 1) :
    PI X tg (.Call (.Name "range" p) [a] [] pos) (tIt Wx (evRng fs)) := by
  refine PI.imp (pi_range1 hg hm ha hs) fun σ H Q h => ?_
  obtain ⟨F, ρ, s, h⟩ := h
  refine ⟨F, ρ, s, ?_⟩
  unfold evRng at h
  cases hf : fs ρ with
  | bad => simp only [hf, R.bind_bad] at h
  | exc c ρ1 => simp only [hf, R.bind_exc] at h; exact h
  | ok rs ρ1 =>
    simp only [hf, R.bind_ok] at h
    intro F1 H1 vs p1 v1
    have hl := hl _ _ _ hf
    cases hr : rngOf rs with
    | none => simp only [hr] at h
    | some ns =>
      simp only [hr] at h
      unfold rngOf at hr
      split at hr
      · split at hr
        · rename_i j hj
          cases hr
          cases v1 with
          | cons v1 r =>
            cases r
            have v1 : Rp F1 (.int j) _ := v1
            cases v1
            have hj : -(2 ^ 62) ≤ j ∧ j < 2 ^ 62 := of_decide_eq_true hj
            refine ⟨j, rfl, hj.1, hj.2, h F1 H1 _ p1 ?_⟩
            have := io_rng (F := F1) (lo := 0) (hi := j)
            simpa using this
        · cases hr
      · cases hl
      · cases hr
theorem DI_rng2 {a b : Expr} {fs : Env → R (List RV)} {p pos : Pos} (hg : Gl X "range") (hm : X.mg "range" = none) (ha : PA X [a, b] (tAr Wx fs)) (hs : starEach [a, b] X.env = [(false, eval a X.env), (false, eval b X.env)]) (hs2 : starEach [b] X.env = [(false, eval b X.env)]) (hl : ∀ ρ rs ρ', fs ρ = .ok rs ρ' → rs.length = 2) :
    PI X tg (.Call (.Name "range" p) [a, b] [] pos) (tIt Wx (evRng fs)) := by
  refine PI.imp (pi_range2 hg hm ha hs hs2) fun σ H Q h => ?_
  obtain ⟨F, ρ, s, h⟩ := h
  refine ⟨F, ρ, s, ?_⟩
  unfold evRng at h
  cases hf : fs ρ with
  | bad => simp only [hf, R.bind_bad] at h
  | exc c ρ1 => simp only [hf, R.bind_exc] at h; exact h
  | ok rs ρ1 =>
    simp only [hf, R.bind_ok] at h
    intro F1 H1 vs p1 v1
    have hl := hl _ _ _ hf
    cases hr : rngOf rs with
    | none => simp only [hr] at h
    | some ns =>
      simp only [hr] at h
      unfold rngOf at hr
      split at hr
      · cases hl
      · split at hr
        · rename_i i j hij
          cases hr
          cases v1 with
          | cons v1 r =>
            cases r with
            | cons v2 r =>
              cases r
              have v1 : Rp F1 (.int i) _ := v1
              have v2 : Rp F1 (.int j) _ := v2
              cases v1; cases v2
              have hi : -(2 ^ 62) ≤ i ∧ i < 2 ^ 62 := of_decide_eq_true hij.1
              have hj : -(2 ^ 62) ≤ j ∧ j < 2 ^ 62 := of_decide_eq_true hij.2
              exact ⟨i, j, rfl, ⟨hi.1, hi.2, hj.1, hj.2⟩, h F1 H1 _ p1 io_rng⟩
        · cases hr
      · cases hr
/-- zip of two lists, of two tuples -/
def zipD (a b : List D) : List D := List.zipWith (fun x y => .tuple [x, y]) a b
def zipOf : List D → Option (List D)
  | [.list a, .list b] => some (zipD a b)
  | [.tuple a, .tuple b] => some (zipD a b)
  | _ => none
def evOf (p : List D → Option (List D)) (fs : Env → R (List RV)) (ρ : Env) : R (List D) := (fs ρ).bind fun rs ρ1 => match valArgs false rs ρ1 with
  | some (ds, ρ2) => match p ds with
    | some l => .ok l ρ2
    | none => .bad
  | none => .bad
theorem NewR.tup2 {F H : Hp} {T : Addr} {x y : V} {d e : D} (s : Sb F H) (n : H T = none) (hx : Rp F d x) (hy : Rp F e y) : NewR F H (upd H T (.tup [x, y])) (.ref T) (.val (.tuple [d, e])) := .tup s n (.cons hx (.cons hy .nil))
theorem zip_get (a b : List D) (i : Nat) : (zipD a b)[i]? = match a[i]?, b[i]? with
    | some x, some y => some (.tuple [x, y])
    | _, _ => none := by
  unfold zipD
  rw [List.getElem?_zipWith]
  cases a[i]? <;> cases b[i]? <;> rfl
theorem io_zipL {F : Hp} {K : PySem.W.Frag} {a b : Addr} {vs us : List V} {ds es : List D} (h : Rd F a (.lst vs)) (r : Rps F ds vs) (h2 : Rd F b (.lst us)) (r2 : Rps F es us) : IterOk F (Itz K a b) (zipD ds es) := by
  intro i F' H' s1 s2
  have hq : SqL K H' a vs := .inl (Rd.same h (s1.trans s2.same))
  have hq2 : SqL K H' b us := .inl (Rd.same h2 (s1.trans s2.same))
  rw [zip_get]
  refine ⟨fun d e => ?_, fun e => ⟨vs, us, hq, hq2, ?_⟩⟩
  · split at e
    · rename_i x y e1 e2
      cases e
      obtain ⟨v, g1, g2⟩ := r.get e1
      obtain ⟨u, k1, k2⟩ := r2.get e2
      refine ⟨⟨vs, us, v, u, hq, hq2, g1, k1⟩, fun x H'' y => ?_⟩
      obtain ⟨T, x', y', rfl, nT, rfl, f1, f2⟩ := y
      have e3 := f1 vs hq
      have e4 := f2 us hq2
      rw [g1] at e3; rw [k1] at e4
      cases e3; cases e4
      exact .tup2 s2 nT (g2.mono s1) (k2.mono s1)
    · cases e
  · rw [r.length, r2.length]
    cases e1 : ds[i]? with
    | none => exact .inl (List.getElem?_eq_none_iff.mp e1)
    | some x =>
      cases e2 : es[i]? with
      | none => exact .inr (List.getElem?_eq_none_iff.mp e2)
      | some y => simp only [e1, e2] at e; cases e
theorem io_zipT {F : Hp} {K : PySem.W.Frag} {a b : Addr} {vs us : List V} {ds es : List D} (h : F a = some (.tup vs)) (r : Rps F ds vs) (h2 : F b = some (.tup us)) (r2 : Rps F es us) : IterOk F (ItzT K a b) (zipD ds es) := by
  intro i F' H' s1 s2
  have hq : SqT K H' a vs := .inl (.inl (s2.same _ _ (s1 _ _ h)))
  have hq2 : SqT K H' b us := .inl (.inl (s2.same _ _ (s1 _ _ h2)))
  rw [zip_get]
  refine ⟨fun d e => ?_, fun e => ⟨vs, us, hq, hq2, ?_⟩⟩
  · split at e
    · rename_i x y e1 e2
      cases e
      obtain ⟨v, g1, g2⟩ := r.get e1
      obtain ⟨u, k1, k2⟩ := r2.get e2
      refine ⟨⟨vs, us, v, u, hq, hq2, g1, k1⟩, fun x H'' y => ?_⟩
      obtain ⟨T, x', y', rfl, nT, rfl, f1, f2⟩ := y
      have e3 := f1 vs hq
      have e4 := f2 us hq2
      rw [g1] at e3; rw [k1] at e4
      cases e3; cases e4
      exact .tup2 s2 nT (g2.mono s1) (k2.mono s1)
    · cases e
  · rw [r.length, r2.length]
    cases e1 : ds[i]? with
    | none => exact .inl (List.getElem?_eq_none_iff.mp e1)
    | some x =>
      cases e2 : es[i]? with
      | none => exact .inr (List.getElem?_eq_none_iff.mp e2)
      | some y => simp only [e1, e2] at e; cases e
theorem DI_zip {a b : Expr} {fs : Env → R (List RV)} {p pos tpos : Pos} {elts : List Expr} {kk : Nat} (hg : Gl X "zip") (hm : X.mg "zip" = none) (ha : PA X [a, b] (tAr Wx fs)) (hs : starEach [a, b] X.env = (false, eval a X.env) :: starEach [b] X.env) (hpl : (backTo pos (starEach [b] X.env)).any (·.1) = false) :
    PI X (.Tuple elts kk tpos) (.Call (.Name "zip" p) [a, b] [] pos) (tIt Wx (evOf zipOf fs)) := by
  refine PI.imp (pi_zipA hg hm ha hs hpl) fun σ H Q h => ?_
  obtain ⟨F, ρ, s, h⟩ := h
  refine ⟨F, ρ, s, ?_⟩
  unfold evOf at h
  cases hf : fs ρ with
  | bad => simp only [hf, R.bind_bad] at h
  | exc c ρ1 => simp only [hf, R.bind_exc] at h; exact h
  | ok rs ρ1 =>
    simp only [hf, R.bind_ok] at h
    intro F1 H1 vs p1 v1
    cases hva : valArgs false rs ρ1 with
    | none => simp only [hva] at h
    | some pr =>
      obtain ⟨ds, ρ2⟩ := pr
      obtain ⟨F2, p2, r2⟩ := froz s p1 v1 hva
      simp only [hva] at h
      cases hz : zipOf ds with
      | none => simp only [hz] at h
      | some l =>
      simp only [hz] at h
      unfold zipOf at hz
      split at hz
      · cases hz
        cases r2 with
        | cons h1 r2 =>
          cases r2 with
          | cons h2 r2 =>
            cases r2
            cases h1 with
            | lst g1 k1 =>
              cases h2 with
              | lst g2 k2 => exact ⟨_, _, _, _, rfl, .inl ⟨.inl (Rd.same g1 p2.sr.sub.same), .inl (Rd.same g2 p2.sr.sub.same), h F2 H1 _ p2 (io_zipL g1 k1 g2 k2)⟩⟩
      · cases hz
        cases r2 with
        | cons h1 r2 =>
          cases r2 with
          | cons h2 r2 =>
            cases r2
            cases h1 with
            | tup g1 k1 =>
              cases h2 with
              | tup g2 k2 => exact ⟨_, _, _, _, rfl, .inr ⟨.inl (.inl (p2.sr.sub.same _ _ g1)), .inl (.inl (p2.sr.sub.same _ _ g2)), h F2 H1 _ p2 (io_zipT g1 k1 g2 k2)⟩⟩
      · cases hz
/-- enumerate of a list -/
def enumD (a : List D) : List D := a.mapIdx fun i d => .tuple [.int i, d]
def enumOf : List D → Option (List D)
  | [.list a] => some (enumD a)
  | [.tuple a] => some (enumD a)
  | [.str z] => some (enumD (signs z))
  | _ => none
theorem io_enum {F : Hp} {K : PySem.W.Frag} {a : Addr} {vs : List V} {ds : List D} (h : Rd F a (.lst vs)) (r : Rps F ds vs) : IterOk F (Ite K a) (enumD ds) := by
  intro i F' H' s1 s2
  have hq : SqL K H' a vs := .inl (Rd.same h (s1.trans s2.same))
  unfold enumD
  rw [List.getElem?_mapIdx]
  refine ⟨fun d e => ?_, fun e => ⟨vs, hq, ?_⟩⟩
  · obtain ⟨d', e1, rfl⟩ := Option.map_eq_some_iff.mp e
    obtain ⟨v, g1, g2⟩ := r.get e1
    refine ⟨⟨vs, v, hq, g1⟩, fun x H'' y => ?_⟩
    obtain ⟨T, x', rfl, nT, rfl, f1⟩ := y
    have e3 := f1 vs hq
    rw [g1] at e3
    cases e3
    exact .tup2 s2 nT (.int _) (g2.mono s1)
  · rw [r.length]
    exact List.getElem?_eq_none_iff.mp (Option.map_eq_none_iff.mp e)
theorem io_enumT {F : Hp} {K : PySem.W.Frag} {a : Addr} {vs : List V} {ds : List D} (h : F a = some (.tup vs)) (r : Rps F ds vs) : IterOk F (IteT K a) (enumD ds) := by
  intro i F' H' s1 s2
  have hq : SqT K H' a vs := .inl (.inl (s2.same _ _ (s1 _ _ h)))
  unfold enumD
  rw [List.getElem?_mapIdx]
  refine ⟨fun d e => ?_, fun e => ⟨vs, hq, ?_⟩⟩
  · obtain ⟨d', e1, rfl⟩ := Option.map_eq_some_iff.mp e
    obtain ⟨v, g1, g2⟩ := r.get e1
    refine ⟨⟨vs, v, hq, g1⟩, fun x H'' y => ?_⟩
    obtain ⟨T, x', rfl, nT, rfl, f1⟩ := y
    have e3 := f1 vs hq
    rw [g1] at e3
    cases e3
    exact .tup2 s2 nT (.int _) (g2.mono s1)
  · rw [r.length]
    exact List.getElem?_eq_none_iff.mp (Option.map_eq_none_iff.mp e)
theorem io_enumS {F : Hp} {z : Str} : IterOk F (IteS z) (enumD (signs z)) := by
  intro i F' H' s1 s2
  unfold enumD signs
  rw [List.getElem?_mapIdx, List.getElem?_map]
  refine ⟨fun d e => ?_, fun e => ?_⟩
  · obtain ⟨d', e1, rfl⟩ := Option.map_eq_some_iff.mp e
    obtain ⟨c, h1, rfl⟩ := Option.map_eq_some_iff.mp e1
    have h1' : z.cps[i]? = some c := by simpa using h1
    refine ⟨(Array.getElem?_eq_some_iff.mp h1').1, fun x H'' y => ?_⟩
    obtain ⟨T, c', rfl, nT, h2, rfl⟩ := y
    rw [h1'] at h2
    cases h2
    exact .tup2 s2 nT (.int _) (.str _)
  · have h0 := Option.map_eq_none_iff.mp (Option.map_eq_none_iff.mp e)
    show z.cps.size ≤ i
    have := List.getElem?_eq_none_iff.mp h0
    simpa using this
theorem DI_enum {a : Expr} {fs : Env → R (List RV)} {p pos tpos : Pos} {elts : List Expr} {kk : Nat} (hg : Gl X "enumerate") (hm : X.mg "enumerate" = none) (ha : PA X [a] (tAr Wx fs)) (hs : starEach [a] X.env = [(false, eval a X.env)]) :
    PI X (.Tuple elts kk tpos) (.Call (.Name "enumerate" p) [a] [] pos) (tIt Wx (evOf enumOf fs)) := by
  refine PI.imp (PI.or (pi_enum hg hm ha hs) (PI.or (pi_enumT hg hm ha hs) (pi_enumS hg hm ha hs))) fun σ H Q h => ?_
  obtain ⟨F, ρ, s, h⟩ := h
  unfold evOf at h
  cases hf : fs ρ with
  | bad => simp only [hf, R.bind_bad] at h
  | exc c ρ1 => simp only [hf, R.bind_exc] at h; exact .inl ⟨F, ρ, s, by simp only [hf]; exact h⟩
  | ok rs ρ1 =>
    simp only [hf, R.bind_ok] at h
    cases hva : valArgs false rs ρ1 with
    | none => simp only [hva] at h
    | some pr =>
      obtain ⟨ds, ρ2⟩ := pr
      simp only [hva] at h
      cases hz : enumOf ds with
      | none => simp only [hz] at h
      | some l =>
        simp only [hz] at h
        unfold enumOf at hz
        split at hz
        · cases hz
          refine .inl ⟨F, ρ, s, ?_⟩
          simp only [hf]
          intro F1 H1 vs p1 v1
          obtain ⟨F2, p2, r2⟩ := froz s p1 v1 hva
          cases r2 with
          | cons h1 r2 =>
            cases r2
            cases h1 with
            | lst g1 k1 => exact ⟨_, _, rfl, .inl (Rd.same g1 p2.sr.sub.same), h F2 H1 _ p2 (io_enum g1 k1)⟩
        · cases hz
          refine .inr (.inl ⟨F, ρ, s, ?_⟩)
          simp only [hf]
          intro F1 H1 vs p1 v1
          obtain ⟨F2, p2, r2⟩ := froz s p1 v1 hva
          cases r2 with
          | cons h1 r2 =>
            cases r2
            cases h1 with
            | tup g1 k1 => exact ⟨_, _, rfl, .inl (.inl (p2.sr.sub.same _ _ g1)), h F2 H1 _ p2 (io_enumT g1 k1)⟩
        · cases hz
          refine .inr (.inr ⟨F, ρ, s, ?_⟩)
          simp only [hf]
          intro F1 H1 vs p1 v1
          obtain ⟨F2, p2, r2⟩ := froz s p1 v1 hva
          cases r2 with
          | cons h1 r2 =>
            cases r2
            cases h1 with
            | str z => exact ⟨_, rfl, h F2 H1 _ p2 io_enumS⟩
        · cases hz
end
end BX

set_option Elab.async false
set_option linter.all false
set_option maxRecDepth 100000
set_option maxHeartbeats 4000000
namespace BX
open PySem PySem.Spec PyProof.Rows L2 RZ
variable [Tbs]

/-! ## statements' ends -/
def ownK (k : OK) (σ : St) (ρ : Env) (a : Addr) : Prop := ∃ (i : Nat) (o : O), ρ[i]? = some (some (.own k o)) ∧ σ[i]? = some (some (.ref a))
structure PostS (F H : Hp) (σ : St) (ρ : Env) (F' H' : Hp) (σ' : St) (ρ' : Env) : Prop where
  sr : SR F' H' σ' ρ'
  ext : Ext (ownA σ ρ) F H F' H'
  back : ∀ (i : Nat) (k : OK) (o' : O), ρ'[i]? = some (some (.own k o')) → k ≠ .fre → ∃ o, ρ[i]? = some (some (.own k o)) ∧ σ'[i]? = σ[i]?
  fix : ∀ (i : Nat) (k : OK) (o : O), ρ[i]? = some (some (.own k o)) → k ≠ .fre → ∃ o', ρ'[i]? = some (some (.own k o')) ∧ (k = .len → o' = o) ∧ σ'[i]? = σ[i]?
  newF : ∀ a, ownK .fre σ' ρ' a → ownK .fre σ ρ a ∨ Fr H a
theorem PostE.s {F H F' H' : Hp} {σ : St} {ρ ρ' : Env} (p : PostE F H σ ρ F' H' ρ') : PostS F H σ ρ F' H' σ ρ' :=
  ⟨p.sr, p.ext, fun i k o' h _ => by obtain ⟨o, e⟩ := p.mono.back i k o' h; exact ⟨o, e, rfl⟩,
    fun i k o h n => by obtain ⟨o', e, z⟩ := p.mono.fix i k o h n; exact ⟨o', e, z, rfl⟩,
    fun a ⟨i, o, h1, h2⟩ => by obtain ⟨o', e⟩ := p.mono.back i _ o h1; exact .inl ⟨i, o', e, h2⟩⟩
theorem PostS.refl {F H : Hp} {σ : St} {ρ : Env} (s : SR F H σ ρ) : PostS F H σ ρ F H σ ρ := (PostE.refl s).s
theorem PostS.own {F H F' H' : Hp} {σ σ' : St} {ρ ρ' : Env} (p : PostS F H σ ρ F' H' σ' ρ') {a : Addr} (h : ownA σ' ρ' a) : ownA σ ρ a ∨ Fr H a := by
  obtain ⟨i, k, o, h1, h2, h3⟩ := h
  by_cases hk : k = .fre
  · subst hk
    rcases p.newF a ⟨i, o, h1, h3⟩ with ⟨j, u, e1, e2⟩ | z
    · exact .inl ⟨j, _, u, e1, by decide, e2⟩
    · exact .inr z
  · obtain ⟨u, e1, e2⟩ := p.back i k o h1 hk
    exact .inl ⟨i, k, u, e1, h2, by rw [← e2]; exact h3⟩
theorem PostS.trans {F H F1 H1 F2 H2 : Hp} {σ σ1 σ2 : St} {ρ ρ1 ρ2 : Env} (a : PostS F H σ ρ F1 H1 σ1 ρ1) (b : PostS F1 H1 σ1 ρ1 F2 H2 σ2 ρ2) : PostS F H σ ρ F2 H2 σ2 ρ2 := by
  refine ⟨b.sr, a.ext.trans b.ext fun x h => a.own h, fun i k o' h n => ?_, fun i k o h n => ?_, fun x h => ?_⟩
  · obtain ⟨o, e1, e2⟩ := b.back i k o' h n
    obtain ⟨u, e3, e4⟩ := a.back i k o e1 n
    exact ⟨u, e3, e2.trans e4⟩
  · obtain ⟨o1, e1, e2, e3⟩ := a.fix i k o h n
    obtain ⟨o2, e4, e5, e6⟩ := b.fix i k o1 e1 n
    exact ⟨o2, e4, fun z => (e5 z).trans (e2 z), e6.trans e3⟩
  · rcases b.newF x h with z | z
    · exact a.newF x z
    · exact .inr (a.ext.back z)

/-! ## stores -/
def setS (i : Nat) (v : SV) (ρ : Env) : Option Env := match ρ[i]? with
  | some (some (.own k _)) => if k = .fre then some (ρ.set i (some v)) else none
  | some _ => some (ρ.set i (some v))
  | none => none
theorem setS_ok {i : Nat} {v : SV} {ρ ρ' : Env} (h : setS i v ρ = some ρ') : ρ' = ρ.set i (some v) ∧ i < ρ.length ∧ ∀ k o, ρ[i]? = some (some (.own k o)) → k = .fre := by
  unfold setS at h
  split at h
  · rename_i k o e
    split at h
    · rename_i hk
      cases h
      exact ⟨rfl, (List.getElem?_eq_some_iff.mp e).1, fun k' o' e' => by rw [e] at e'; cases e'; exact hk⟩
    · cases h
  · rename_i x e n
    cases h
    exact ⟨rfl, (List.getElem?_eq_some_iff.mp n).1, fun k' o' e' => by rw [n] at e'; cases e'; exact absurd rfl (e k' o')⟩
  · cases h
theorem SR.store {F H : Hp} {σ : St} {ρ ρ' : Env} {i : Nat} {d : D} {v : V} (s : SR F H σ ρ) (h : setS i (.val d) ρ = some ρ') (r : Rp F d v) : PostS F H σ ρ F H (σ.set i (some v)) ρ' := by
  obtain ⟨rfl, il, hf⟩ := setS_ok h
  have il' : i < σ.length := by rw [s.len]; exact il
  have sub : ∀ (j : Nat) (k : OK) (o : O), (ρ.set i (some (.val d)))[j]? = some (some (.own k o)) → j ≠ i ∧ ρ[j]? = some (some (.own k o)) ∧ (σ.set i (some v))[j]? = σ[j]? := fun j k o e => by
    by_cases ej : i = j
    · subst ej; rw [List.getElem?_set_self il] at e; cases e
    · rw [List.getElem?_set_ne ej] at e; exact ⟨fun z => ej z.symm, e, List.getElem?_set_ne ej⟩
  refine ⟨⟨s.sub, by rw [List.length_set, List.length_set]; exact s.len, fun j d' e => ?_, fun j k o e => ?_, fun j l k k2 o u a e1 e2 e3 e4 => ?_⟩, .refl _ _ _, fun j k o' e n => ?_, fun j k o e n => ?_, fun a ⟨j, o, e1, e2⟩ => ?_⟩
  · by_cases ej : i = j
    · subst ej
      rw [List.getElem?_set_self il] at e
      cases e
      exact ⟨v, List.getElem?_set_self il', r⟩
    · rw [List.getElem?_set_ne ej] at e ⊢
      exact s.val j d' e
  · obtain ⟨_, e1, e2⟩ := sub j k o e
    rw [e2]
    exact s.own j k o e1
  · obtain ⟨_, f1, f2⟩ := sub _ _ _ e1
    obtain ⟨_, g1, g2⟩ := sub _ _ _ e2
    rw [f2] at e3; rw [g2] at e4
    exact s.inj j l k k2 o u a f1 g1 e3 e4
  · obtain ⟨_, e1, e2⟩ := sub j k o' e
    exact ⟨o', e1, e2⟩
  · have ne : i ≠ j := fun z => by subst z; exact n (hf k o e)
    exact ⟨o, by rw [List.getElem?_set_ne ne]; exact e, fun _ => rfl, List.getElem?_set_ne ne⟩
  · obtain ⟨_, f1, f2⟩ := sub j _ o e1
    rw [f2] at e2
    exact .inl ⟨j, o, f1, e2⟩

/-! ## a list unpacked -/
section
variable {prog : Program} {w : World} {A : Around} {E : Value → Shared → Prop} {s : Shared}
theorem isList_extBut {h h' : Heap} {l n : Addr} {its : Array Value} (hl : h.IsList l its) (he : Heap.ExtBut n h h') (hn : l ≠ n) : h'.IsList l its := by
  obtain ⟨o, ho, hc, c, hd⟩ := hl
  exact ⟨o, he l o hn ho, hc, c, hd⟩
theorem draw_list {it t : Addr} {items : Array Value} (hne : t ≠ it) : ∀ (n i : Nat) (s : Shared) (Q : List Value → Shared → Prop), s.heap.IsListIter it t i → s.heap.IsList t items → i + n ≤ items.size →
    (∀ h', h'.IsListIter it t (i + n) → Heap.SameBut it s.heap h' → Q ((items.toList.drop i).take n) { s with heap := h' }) → wpAny (model prog w) A (draw (.ref it) n) Q E s
  | 0, i, s, Q, hit, _, _, hQ => by
    show wpAny _ _ (pure []) Q E s
    exact wpAny_pure (by simpa using hQ s.heap hit (Heap.SameBut.refl ..))
  | n + 1, i, s, Q, hit, ht, hle, hQ => by
    have hlt : i < items.size := by omega
    show wpAny _ _ (pyNext (.ref it) >>= _) Q E s
    refine wpAny_bind (wpAny_pyNext_list_item hit ht (x := items[i]) (by simp [hlt]) fun h₁ hit₁ hs₁ => ?_)
    refine wpAny_bind (wpAny_holding (draw_list hne n (i + 1) _ _ hit₁ (isList_extBut ht hs₁.extBut hne) (by omega) fun h₂ hit₂ hs₂ => wpAny_pure ?_))
    have hd : items.toList.drop i = items[i] :: items.toList.drop (i + 1) := by simp [List.drop_eq_getElem_cons, hlt]
    have := hQ h₂ (by rw [show i + (n + 1) = i + 1 + n by omega]; exact hit₂) (hs₁.trans hs₂)
    rw [hd, List.take_succ_cons] at this
    exact this
theorem unpackItems_list {t : Addr} {items : Array Value} {Q : List Value → Shared → Prop} (hh : A.handled = none) (ht : s.heap.IsList t items)
    (hQ : ∀ h', Heap.ExtBut s.heap.objs.size s.heap h' → Q items.toList { s with heap := h' }) : wpAny (model prog w) A (unpackItems (.ref t) items.size none) Q E s := by
  have hlt : t ≠ s.heap.objs.size := by obtain ⟨o, ho, _⟩ := ht; exact Nat.ne_of_lt (Heap.lt_size ho)
  unfold unpackItems
  refine wpAny_bind ?_
  · unfold notIterableAtAll
    refine wpAny_bind (wpAny_specialOf ht.typeIs slot_list_iter.lookup ?_)
    refine wpAny_pure ?_
    simp only [Bool.false_eq_true, if_false]
    have hp : ∀ o : Obj, (s.heap.push o).IsList t items := fun o => by
      obtain ⟨o', ho, hc, c, hd⟩ := ht
      exact ⟨o', Heap.get?_push_of_some _ ho, hc, c, hd⟩
    refine wpAny_bind (wpAny_holding (wpAny_pyIter_list ht ?_))
    refine wpAny_bind (wpAny_holding (draw_list hlt items.size 0 _ _ ⟨_, Heap.get?_push_size _ rfl, rfl, rfl⟩ (hp _) (by omega) fun h₁ hit₁ hs₁ => ?_))
    have hall : List.take items.size (List.drop 0 items.toList) = items.toList := by
      rw [List.drop_zero]; exact List.take_of_length_le (by simp)
    rw [hall]
    rw [if_neg (by simp)]
    have ht₁ : h₁.IsList t items := isList_extBut (hp _) hs₁.extBut hlt
    refine wpAny_bind (wpAny_holding (wpAny_pyNext_list_end hh hit₁ ht₁ (by simp) fun h₂ he₂ => ?_))
    simp only [Option.isSome_none, Bool.false_eq_true, if_false]
    refine wpAny_pure (hQ h₂ fun b o hb e => he₂ b o hb (hs₁.extBut b o hb (Heap.get?_push_of_some _ e)))
theorem assign_Tuple_list {env : PySem.Env} {elts : List Expr} {x1} {pos : Pos} {t : Addr} {items : Array Value} {Q : Unit → Shared → Prop} (hh : A.handled = none) (ht : s.heap.IsList t items)
    (hn : (assignEach elts env).length = items.size) (hstar : (assignEach elts env).findIdx? (·.1) = none)
    (h : ∀ h', Heap.ExtBut s.heap.objs.size s.heap h' → wpAny (model prog w) A (assignInOrder ((assignEach elts env).map (·.2)) items.toList) Q E { s with heap := h' }) :
    wpAny (model prog w) A (assign (.Tuple elts x1 pos) env (.ref t)) Q E s := by
  rw [assign_Tuple]
  refine wpAny_bind (wpAny_standAt ?_)
  unfold unpack
  rw [hn, hstar]
  exact wpAny_bind (wpAny_holding (unpackItems_list hh ht h))
end
/-- (a, b, ..) = a tuple or a list of that length -/
def gUn (K : PySem.W.Frag) (n : Nat) (t : TGs) : TG := fun v σ H Q => gTup K n t v σ H Q ∨ ∃ a xs, v = .ref a ∧ SqL K H a xs ∧ xs.length = n ∧ t xs σ H Q
theorem pg_un {X : Cx} {pos : Pos} {es : List Expr} {k : Nat} {t : TGs} {n : Nat} (hc : X.calm = true) (h : PGs X es t)
    (hn : (assignEach es X.env).length = n := by rfl) (hst : (assignEach es X.env).findIdx? (·.1) = none := by rfl) : PG X (.Tuple es k pos) (gUn X.K n t) := by
  refine ⟨fun pins s σ H v u Q I r hw => ?_⟩
  rcases hw with hw | hw
  · exact (pg_tup hc h hn hst).run pins s σ H v u Q I r hw
  · obtain ⟨a, xs, e1, hq, hl, hw⟩ := hw
    subst e1
    cases r
    obtain ⟨its, rv, ht, hz⟩ := I.list hq
    refine assign_Tuple_list (I.ok.hd hc) ht.isList (by simp [hn, ← hl, rv.length]) hst fun h' hx => ?_
    have I1 : Inv X pins σ H { s with heap := h' } := I.kept (t' := s.toks) fun b o e => hx b o (Nat.ne_of_lt (Heap.lt_size e)) e
    exact h.run pins _ σ H xs _ Q I1 (by simpa using rv) hw

/-! ## targets -/
inductive CT where
  | nm (i : Nat)
  | tp (is : List Nat)
def CT.slots : CT → List Nat
  | .nm i => [i]
  | .tp is => is
def setTs : List Nat → List D → Env → Option Env
  | [], [], ρ => some ρ
  | i :: is, d :: ds, ρ => match setS i (.val d) ρ with
    | some ρ1 => setTs is ds ρ1
    | none => none
  | _, _, _ => none
def setT : CT → D → Env → Option Env
  | .nm i, d, ρ => setS i (.val d) ρ
  | .tp is, .tuple ds, ρ => setTs is ds ρ
  | .tp is, .list ds, ρ => setTs is ds ρ
  | _, _, _ => none
def gTs : List Nat → TGs
  | [] => gNil
  | i :: is => gCons (gName i) (gTs is)
def gOf (K : PySem.W.Frag) : CT → TG
  | .nm i => gName i
  | .tp is => gUn K is.length (gTs is)
/-- slots outside are as they were -/
def Out (vs : List Nat) (σ σ' : St) : Prop := σ'.length = σ.length ∧ ∀ i, i ∉ vs → σ'[i]? = σ[i]?
theorem setTs_ok {F H : Hp} : ∀ {is : List Nat} {ds : List D} {vs : List V} {σ : St} {ρ ρ' : Env} {Q : St → Hp → Prop}, SR F H σ ρ → setTs is ds ρ = some ρ' → Rps F ds vs →
    (∀ σ', PostS F H σ ρ F H σ' ρ' → Out is σ σ' → Q σ' H) → gTs is vs σ H Q
  | [], [], _, σ, ρ, ρ', Q, s, h, .nil, q => by
    cases h
    exact ⟨rfl, q σ (.refl s) ⟨rfl, fun _ _ => rfl⟩⟩
  | i :: is, d :: ds, _, σ, ρ, ρ', Q, s, h, .cons r rs, q => by
    unfold setTs at h
    split at h
    · rename_i ρ1 e
      have p := s.store e r
      refine ⟨_, _, rfl, setTs_ok p.sr h rs fun σ' p' o => q σ' (p.trans p') ⟨by rw [o.1, List.length_set], fun j hj => ?_⟩⟩
      rw [List.mem_cons, not_or] at hj
      rw [o.2 j hj.2, List.getElem?_set_ne (fun z => hj.1 z.symm)]
    · cases h
  | [], _ :: _, _, _, _, _, _, _, h, _, _ => by cases h
  | _ :: _, [], _, _, _, _, _, _, h, _, _ => by cases h
theorem setTs_len : ∀ {is : List Nat} {ds : List D} {ρ ρ' : Env}, setTs is ds ρ = some ρ' → ds.length = is.length
  | [], [], _, _, _ => rfl
  | i :: is, d :: ds, ρ, ρ', h => by
    unfold setTs at h
    split at h
    · rw [List.length_cons, List.length_cons, setTs_len h]
    · cases h
  | [], _ :: _, _, _, h => by cases h
  | _ :: _, [], _, _, h => by cases h
theorem setT_ok {K : PySem.W.Frag} {F H : Hp} {ct : CT} {d : D} {v : V} {σ : St} {ρ ρ' : Env} {Q : St → Hp → Prop} (s : SR F H σ ρ) (h : setT ct d ρ = some ρ') (r : Rp F d v)
    (q : ∀ σ', PostS F H σ ρ F H σ' ρ' → Out ct.slots σ σ' → Q σ' H) : gOf K ct v σ H Q := by
  cases ct with
  | nm i =>
    refine q _ (s.store h r) ⟨List.length_set, fun j hj => List.getElem?_set_ne fun z => hj ?_⟩
    rw [z]; exact List.mem_singleton.mpr rfl
  | tp is =>
    cases r with
    | tup h1 rs =>
      have hl := setTs_len h
      exact .inl ⟨_, _, rfl, .inl (.inl (s.sub.same _ _ h1)), by rw [rs.length]; exact hl, setTs_ok s h rs q⟩
    | lst h1 rs =>
      have hl := setTs_len h
      exact .inr ⟨_, _, rfl, .inl (Rd.same h1 s.sub.same), by rw [rs.length]; exact hl, setTs_ok s h rs q⟩
    | _ => cases h

/-! ## comprehensions -/
def wipeE (own : List Nat) (ρ : Env) : Env := own.foldl (fun ρ i => ρ.set i none) ρ
def restE (own : List Nat) (ρ1 ρ : Env) : Env := own.foldl (fun ρ i => ρ.set i (ρ1[i]?.getD none)) ρ
def ownFree (own : List Nat) (ρ : Env) : Bool := own.all fun i => match ρ[i]? with
  | some (some (.own _ _)) => false
  | _ => true
theorem wipeE_get {own : List Nat} : ∀ {ρ : Env} (i : Nat), (wipeE own ρ)[i]? = if i ∈ own then ρ[i]?.map (fun _ => none) else ρ[i]? := by
  induction own with
  | nil => intro ρ i; simp [wipeE]
  | cons j own ih =>
    intro ρ i
    have e : wipeE (j :: own) ρ = wipeE own (ρ.set j none) := rfl
    rw [e, ih, List.getElem?_set]
    by_cases h1 : i ∈ own
    · rw [if_pos h1, if_pos (List.mem_cons_of_mem _ h1)]
      split
      · rename_i hj
        subst hj
        split
        · rename_i hl; simp [List.getElem?_eq_getElem hl]
        · rename_i hl; rw [List.getElem?_eq_none (by omega)]
      · rfl
    · rw [if_neg h1]
      by_cases hj : j = i
      · subst hj
        rw [if_pos rfl, if_pos List.mem_cons_self]
        split
        · rename_i hl; simp [List.getElem?_eq_getElem hl]
        · rename_i hl; rw [List.getElem?_eq_none (by omega)]; rfl
      · rw [if_neg hj, if_neg]
        intro z
        rcases List.mem_cons.mp z with z | z
        · exact hj z.symm
        · exact h1 z
theorem wipeE_len {own : List Nat} : ∀ {ρ : Env}, (wipeE own ρ).length = ρ.length := by
  induction own with
  | nil => intro ρ; rfl
  | cons j own ih => intro ρ; exact (ih (ρ := ρ.set j none)).trans List.length_set
theorem restE_get {own : List Nat} {ρ1 : Env} : ∀ {ρ : Env} (i : Nat), ρ.length = ρ1.length → (restE own ρ1 ρ)[i]? = if i ∈ own then ρ1[i]? else ρ[i]? := by
  induction own with
  | nil => intro ρ i _; simp [restE]
  | cons j own ih =>
    intro ρ i hl
    have e : restE (j :: own) ρ1 ρ = restE own ρ1 (ρ.set j (ρ1[j]?.getD none)) := rfl
    rw [e, ih i (by rw [List.length_set]; exact hl), List.getElem?_set]
    by_cases h1 : i ∈ own
    · rw [if_pos h1, if_pos (List.mem_cons_of_mem _ h1)]
    · rw [if_neg h1]
      by_cases hj : j = i
      · subst hj
        rw [if_pos rfl, if_pos List.mem_cons_self]
        split
        · rename_i hl2
          rw [List.getElem?_eq_getElem (by omega)]; rfl
        · rename_i hl2; rw [List.getElem?_eq_none (by omega)]
      · rw [if_neg hj, if_neg]
        intro z
        rcases List.mem_cons.mp z with z | z
        · exact hj z.symm
        · exact h1 z
theorem restE_len {own : List Nat} {ρ1 : Env} : ∀ {ρ : Env}, (restE own ρ1 ρ).length = ρ.length := by
  induction own with
  | nil => intro ρ; rfl
  | cons j own ih => intro ρ; exact (ih (ρ := ρ.set j _)).trans List.length_set
theorem wipe_get {vs : List Nat} : ∀ {σ : St} (i : Nat), (wipe σ vs)[i]? = if i ∈ vs then σ[i]?.map (fun _ => none) else σ[i]? := by
  induction vs with
  | nil => intro σ i; simp [wipe]
  | cons j vs ih =>
    intro σ i
    have e : wipe σ (j :: vs) = (wipe σ vs).set j none := rfl
    rw [e, List.getElem?_set]
    by_cases hj : j = i
    · subst hj
      rw [if_pos rfl, if_pos List.mem_cons_self, wipe_length]
      split
      · rename_i hl; simp [List.getElem?_eq_getElem hl]
      · rename_i hl; rw [List.getElem?_eq_none (by omega)]; rfl
    · rw [if_neg hj, ih]
      by_cases h1 : i ∈ vs
      · rw [if_pos h1, if_pos (List.mem_cons_of_mem _ h1)]
      · rw [if_neg h1, if_neg]
        intro z
        rcases List.mem_cons.mp z with z | z
        · exact hj z.symm
        · exact h1 z
theorem wipe_out2 {vs : List Nat} {σ σ' : St} (o : Out vs σ σ') : wipe σ' vs = wipe σ vs := by
  apply List.ext_getElem?
  intro i
  rw [wipe_get, wipe_get]
  by_cases h : i ∈ vs
  · rw [if_pos h, if_pos h]
    by_cases hl : i < σ.length
    · have hl' : i < σ'.length := by rw [o.1]; exact hl
      rw [List.getElem?_eq_getElem hl, List.getElem?_eq_getElem hl']; rfl
    · rw [List.getElem?_eq_none (l := σ') (by rw [o.1]; omega), List.getElem?_eq_none (l := σ) (by omega)]
  · rw [if_neg h, if_neg h, o.2 i h]
theorem wipe_idem {vs : List Nat} {σ : St} : Out vs σ (wipe σ vs) := ⟨wipe_length σ vs, fun i h => by rw [wipe_get, if_neg h]⟩
/-- slots of the block forgotten -/
theorem SR.wipe {F H : Hp} {σ σ' : St} {ρ : Env} {own : List Nat} (s : SR F H σ ρ) (o : Out own σ σ') : SR F H σ' (wipeE own ρ) := by
  have sub : ∀ (j : Nat) (v : SV), (wipeE own ρ)[j]? = some (some v) → ρ[j]? = some (some v) ∧ σ'[j]? = σ[j]? := fun j v e => by
    rw [wipeE_get] at e
    split at e
    · obtain ⟨_, _, z⟩ := Option.map_eq_some_iff.mp e; cases z
    · rename_i h
      exact ⟨e, o.2 j h⟩
  refine ⟨s.sub, by rw [wipeE_len, o.1]; exact s.len, fun j d e => ?_, fun j k u e => ?_, fun j l k k2 u w a e1 e2 e3 e4 => ?_⟩
  · obtain ⟨e1, e2⟩ := sub j _ e; rw [e2]; exact s.val j d e1
  · obtain ⟨e1, e2⟩ := sub j _ e; rw [e2]; exact s.own j k u e1
  · obtain ⟨f1, f2⟩ := sub j _ e1
    obtain ⟨g1, g2⟩ := sub l _ e2
    rw [f2] at e3; rw [g2] at e4
    exact s.inj j l k k2 u w a f1 g1 e3 e4
/-- an exception is not served -/
def R.noX {α : Type} : R α → R α
  | .ok a ρ => .ok a ρ
  | _ => .bad
@[simp] theorem R.noX_ok {α : Type} {a : α} {ρ : Env} : (R.ok a ρ).noX = .ok a ρ := rfl
def evYes (ρ : Env) : R Bool := .ok true ρ
def lcTurn (tg : CT) (c : Env → R Bool) (f : Env → R RV) (own : List Nat) (x : D) (ρ : Env) : R (Option D) := match setT tg x ρ with
  | none => .bad
  | some ρ1 => (c ρ1).bind fun b ρ2 => if b = true then (f ρ2).bind fun u ρ3 => match valArgs false [u] ρ3 with
      | some (ds, ρ4) => .ok ds.head? (wipeE own ρ4)
      | none => .bad
    else .ok none (wipeE own ρ2)
def lcLoop (turn : D → Env → R (Option D)) : List D → Env → R (List D)
  | [], ρ => .ok [] ρ
  | x :: xs, ρ => (turn x ρ).bind fun o ρ1 => (lcLoop turn xs ρ1).bind fun ds ρ2 => .ok (o.toList ++ ds) ρ2
def evLc (it : Env → R (List D)) (tg : CT) (c : Env → R Bool) (f : Env → R RV) (own : List Nat) (ρ : Env) : R RV := (it ρ).bind fun xs ρ1 =>
  if ownFree own ρ1 = true ∧ xs.length ≤ sizeLine then (lcLoop (lcTurn tg c f own) xs (wipeE own ρ1)).noX.bind fun ds ρ2 => .ok (.own (.lst ds)) (restE own ρ1 ρ2) else .bad
abbrev NoX : XW := fun _ _ _ => False
theorem Mono.len {F H F' H' : Hp} {σ : St} {ρ ρ' : Env} (p : PostE F H σ ρ F' H' ρ') (s : SR F H σ ρ) : ρ'.length = ρ.length := by rw [← p.sr.len, s.len]
theorem setTs_own {is : List Nat} : ∀ {ds : List D} {ρ ρ' : Env}, setTs is ds ρ = some ρ' → ∀ (j : Nat) (k : OK) (o : O), ρ'[j]? = some (some (.own k o)) → ρ[j]? = some (some (.own k o)) := by
  induction is with
  | nil =>
    intro ds ρ ρ' h j k o e
    cases ds with
    | nil => cases h; exact e
    | cons _ _ => cases h
  | cons i is ih =>
    intro ds ρ ρ' h j k o e
    cases ds with
    | nil => cases h
    | cons d ds =>
      unfold setTs at h
      split at h
      · rename_i ρ1 h1
        have e1 := ih h j k o e
        obtain ⟨rfl, il, _⟩ := setS_ok h1
        by_cases ej : i = j
        · subst ej; rw [List.getElem?_set_self il] at e1; cases e1
        · rw [List.getElem?_set_ne ej] at e1; exact e1
      · cases h
theorem setT_own {ct : CT} {d : D} {ρ ρ' : Env} (h : setT ct d ρ = some ρ') (j : Nat) (k : OK) (o : O) (e : ρ'[j]? = some (some (.own k o))) : ρ[j]? = some (some (.own k o)) := by
  cases ct with
  | nm i =>
    obtain ⟨rfl, il, _⟩ := setS_ok h
    by_cases ej : i = j
    · subst ej; rw [List.getElem?_set_self il] at e; cases e
    · rw [List.getElem?_set_ne ej] at e; exact e
  | tp is =>
    cases d <;> first | exact setTs_own h j k o e | cases h
theorem setTs_keep {is : List Nat} : ∀ {ds : List D} {ρ ρ' : Env}, setTs is ds ρ = some ρ' → ∀ (j : Nat), j ∉ is → ρ'[j]? = ρ[j]? := by
  induction is with
  | nil =>
    intro ds ρ ρ' h j _
    cases ds with
    | nil => cases h; rfl
    | cons _ _ => cases h
  | cons i is ih =>
    intro ds ρ ρ' h j hj
    rw [List.mem_cons, not_or] at hj
    cases ds with
    | nil => cases h
    | cons d ds =>
      unfold setTs at h
      split at h
      · rename_i ρ1 h1
        obtain ⟨rfl, il, _⟩ := setS_ok h1
        rw [ih h j hj.2, List.getElem?_set_ne (fun z => hj.1 z.symm)]
      · cases h
theorem setT_keep {ct : CT} {d : D} {ρ ρ' : Env} (h : setT ct d ρ = some ρ') (j : Nat) (hj : j ∉ ct.slots) : ρ'[j]? = ρ[j]? := by
  cases ct with
  | nm i =>
    obtain ⟨rfl, il, _⟩ := setS_ok h
    exact List.getElem?_set_ne fun z => hj (by rw [z]; exact List.mem_singleton.mpr rfl)
  | tp is =>
    cases d <;> first | exact setTs_keep h j hj | cases h
section
variable {X : Cx} {Wx : XW} {it : Env → R (List D)} {tg : CT} {c : Env → R Bool} {f : Env → R RV} {own : List Nat}
/-- a turn: what it does to the state of the walk -/
theorem turn_post {F H F1 H1 F2 H2 : Hp} {σw σ2 : St} {ρ ρ1 ρ2 : Env} (hs : ∀ i ∈ tg.slots, i ∈ own) (own0 : ∀ i ∈ own, ∀ k o, ρ[i]? ≠ some (some (.own k o))) (s : SR F H σw ρ) {x : D} (ht : setT tg x ρ = some ρ1) (sw : wipe σw own = σw)
    (p0 : PostE F H σw ρ F1 H1 ρ) (p1 : PostS F1 H1 σw ρ F1 H1 σ2 ρ1) (o : Out tg.slots σw σ2) (p2 : PostE F1 H1 σ2 ρ1 F2 H2 ρ2) :
    PostE F H σw ρ F2 H2 (wipeE own ρ2) := by
  have ob : Out own σ2 σw := ⟨o.1.symm, fun i hi => (o.2 i fun z => hi (hs i z)).symm⟩
  have back : ∀ (j : Nat) (k : OK) (u : O), (wipeE own ρ2)[j]? = some (some (.own k u)) → j ∉ own ∧ ∃ u', ρ[j]? = some (some (.own k u')) := fun j k u e => by
    rw [wipeE_get] at e
    split at e
    · obtain ⟨_, _, z⟩ := Option.map_eq_some_iff.mp e; cases z
    · rename_i h
      obtain ⟨u1, e1⟩ := p2.mono.back j k u e
      exact ⟨h, u1, setT_own ht j k u1 e1⟩
  refine ⟨p2.sr.wipe ob, p0.ext.trans p2.ext fun a oa => .inl ?_, ⟨fun j k u e => (back j k u e).2, fun j k u e n => ?_⟩⟩
  · obtain ⟨j, k, u, e1, e2, e3⟩ := oa
    have e4 := setT_own ht j k u e1
    have hj : j ∉ own := fun z => own0 j z k u e4
    exact ⟨j, k, u, e4, e2, by rw [ob.2 j hj]; exact e3⟩
  · have hj : j ∉ own := fun z => own0 j z k u e
    have e1 : ρ1[j]? = some (some (.own k u)) := by rw [setT_keep ht j fun z => hj (hs j z)]; exact e
    obtain ⟨u', e2, e3⟩ := p2.mono.fix j k u e1 n
    exact ⟨u', by rw [wipeE_get, if_neg hj]; exact e2, e3⟩
theorem lc_ok {K : PySem.W.Frag} {σ : St} {H : Hp} {Q : VK} {tt : TT} (hs : ∀ i ∈ tg.slots, i ∈ own) (hc : ∀ σ H Q, tTs NoX c σ H Q → tt σ H Q) (h : tD Wx (evLc it tg c f own) σ H Q) :
    tLc (tIt Wx it) (gOf K tg) tt (tD NoX f) own σ H Q := by
  obtain ⟨F, ρ, s, h⟩ := h
  refine ⟨F, ρ, s, ?_⟩
  unfold evLc at h
  cases hf : it ρ with
  | bad => simp only [hf, R.bind_bad] at h
  | exc c ρ1 => simp only [hf, R.bind_exc] at h; exact h
  | ok xs ρ1 =>
    simp only [hf, R.bind_ok] at h
    intro F1 H1 J p1 io D nD
    by_cases hok : ownFree own ρ1 = true ∧ xs.length ≤ sizeLine
    · simp only [if_pos hok] at h
      obtain ⟨hfree, hsz⟩ := hok
      have own1 : ∀ i ∈ own, ∀ k o, ρ1[i]? ≠ some (some (.own k o)) := fun i hi k o e => by
        have := List.all_eq_true.mp hfree i hi
        simp [e] at this
      have hW : SR F1 H1 (wipe σ own) (wipeE own ρ1) := p1.sr.wipe wipe_idem
      have hidem : wipe (wipe σ own) own = wipe σ own := wipe_out2 wipe_idem
      obtain ⟨ds, ρE, hloop⟩ : ∃ ds ρE, lcLoop (lcTurn tg c f own) xs (wipeE own ρ1) = .ok ds ρE := by
        cases hl : lcLoop (lcTurn tg c f own) xs (wipeE own ρ1) with
        | ok ds ρE => exact ⟨ds, ρE, rfl⟩
        | exc c ρE => simp only [hl, R.noX, R.bind_bad] at h
        | bad => simp only [hl, R.noX, R.bind_bad] at h
      simp only [hloop, R.noX_ok, R.bind_ok] at h
      refine ⟨fun i m Hc => ∃ (Fc : Hp) (ρc : Env) (acc : List PyData) (accV : List V) (rest : List PyData), m = xs.length - i ∧ i ≤ xs.length ∧ PostE F1 H1 (wipe σ own) (wipeE own ρ1) Fc Hc ρc ∧ (∀ i ∈ own, ∀ k o, ρc[i]? ≠ some (some (.own k o))) ∧
        Hc D = some (.lst accV) ∧ Fc D = none ∧ Rps Fc acc accV ∧ lcLoop (lcTurn tg c f own) (xs.drop i) ρc = .ok rest ρE ∧ acc ++ rest = ds ∧ acc.length ≤ i, ⟨xs.length, ?_⟩, ?_⟩
      · obtain ⟨F2, q2, D', e, _, nf, vs, e2, r2⟩ := (NewR.lst (F := F1) hW.sub nD (Rps.nil)).post hW
        cases e
        have e3 : vs = [] := by cases r2; rfl
        subst e3
        refine ⟨F2, _, [], [], ds, rfl, Nat.zero_le _, q2, fun i hi k o e => ?_, e2, nf, .nil, hloop, rfl, Nat.zero_le _⟩
        rw [wipeE_get, if_pos hi] at e
        obtain ⟨_, _, z⟩ := Option.map_eq_some_iff.mp e; cases z
      · rintro i m Hc ⟨Fc, ρc, acc, accV, rest, rfl, hi, pc, ownc, eD, nfD, rA, hrest, happ, hacc⟩
        obtain ⟨io1, io2⟩ := io i Fc Hc pc.ext.f pc.sr.sub
        by_cases hlt : i < xs.length
        · have hx : xs[i]? = some xs[i] := List.getElem?_eq_getElem hlt
          obtain ⟨hgo, hyld⟩ := io1 _ hx
          rw [List.drop_eq_getElem_cons hlt] at hrest
          unfold lcLoop at hrest
          cases hturn : lcTurn tg c f own xs[i] ρc with
          | bad => simp only [hturn, R.bind_bad] at hrest; cases hrest
          | exc c ρ2 => simp only [hturn, R.bind_exc] at hrest; cases hrest
          | ok od ρ2 =>
            simp only [hturn, R.bind_ok] at hrest
            cases hl2 : lcLoop (lcTurn tg c f own) (xs.drop (i + 1)) ρ2 with
            | bad => simp only [hl2, R.bind_bad] at hrest; cases hrest
            | exc c ρ3 => simp only [hl2, R.bind_exc] at hrest; cases hrest
            | ok ds2 ρ3 =>
              simp only [hl2, R.bind_ok] at hrest
              cases hrest
              refine .inr ⟨hgo, fun Hn => ∃ (Fc : Hp) (acc : List PyData) (accV : List V), PostE F1 H1 (wipe σ own) (wipeE own ρ1) Fc Hn ρ2 ∧ (∀ i ∈ own, ∀ k o, ρ2[i]? ≠ some (some (.own k o))) ∧ Hn D = some (.lst accV) ∧ Fc D = none ∧ Rps Fc acc accV ∧ acc ++ ds2 = ds ∧ acc.length ≤ i + 1,
                fun H' hn => ?_, fun xv H' hy => ?_⟩
              · obtain ⟨Fn, an, avn, pn, on, en, nn, rn, apn, ln⟩ := hn
                exact ⟨xs.length - (i + 1), by omega, Fn, ρ2, an, avn, ds2, rfl, hlt, pn, on, en, nn, rn, hl2, apn, ln⟩
              · obtain ⟨F', p', rx⟩ := (hyld xv H' hy).post pc.sr
                have rx : Rp F' xs[i] xv := rx
                have hD1 : H' D = some (.lst accV) ∧ F' D = none := by
                  have nT : ¬ ownA (wipe σ own) ρc D := fun t => by
                    obtain ⟨u, z⟩ := hW.ownSome (pc.mono.own t)
                    rw [nD] at z; cases z
                  exact ⟨p'.ext.keep _ _ eD nT plain_lst.1, p'.ext.priv _ _ eD nfD nT plain_lst.1⟩
                unfold lcTurn at hturn
                cases hset : setT tg xs[i] ρc with
                | none => simp only [hset] at hturn; cases hturn
                | some ρs =>
                  simp only [hset] at hturn
                  refine setT_ok p'.sr hset rx fun σ2 ps os => ?_
                  have os' : Out own (wipe σ own) σ2 := ⟨os.1, fun j hj => os.2 j fun z => hj (hs j z)⟩
                  refine ⟨by rw [wipe_out2 os', hidem], hc _ _ _ ⟨F', ρs, ps.sr, ?_⟩⟩
                  have nT2 : ¬ ownA σ2 ρs D := fun t => by
                    obtain ⟨j, k, u, e1, e2, e3⟩ := t
                    have e4 := setT_own hset j k u e1
                    have hj : j ∉ own := fun z => ownc j z k u e4
                    rw [os'.2 j hj] at e3
                    obtain ⟨u', z⟩ := hW.ownSome (pc.mono.own ⟨j, k, u, e4, e2, e3⟩)
                    rw [nD] at z; cases z
                  cases hcv : c ρs with
                  | bad => simp only [hcv, R.bind_bad] at hturn; cases hturn
                  | exc cc ρ4 => simp only [hcv, R.bind_exc] at hturn; cases hturn
                  | ok b ρ4 =>
                    simp only [hcv, R.bind_ok] at hturn
                    intro F4 H4 p4
                    have eD4 := p4.ext.keep _ _ hD1.1 nT2 plain_lst.1
                    have nD4 := p4.ext.priv _ _ hD1.1 hD1.2 nT2 plain_lst.1
                    cases b with
                    | false =>
                      simp only [Bool.false_eq_true, if_false] at hturn ⊢
                      cases hturn
                      have pt := turn_post hs ownc pc.sr hset hidem p' ps os p4
                      refine ⟨F4, acc, accV, pc.trans pt, fun j hj k o e => ?_, eD4, nD4, (rA.mono p'.ext.f).mono p4.ext.f, happ, by omega⟩
                      rw [wipeE_get, if_pos hj] at e
                      obtain ⟨_, _, z⟩ := Option.map_eq_some_iff.mp e; cases z
                    | true =>
                      simp only [if_true] at hturn ⊢
                      refine ⟨F4, ρ4, p4.sr, ?_⟩
                      cases hfv : f ρ4 with
                      | bad => simp only [hfv, R.bind_bad] at hturn; cases hturn
                      | exc cc ρ5 => simp only [hfv, R.bind_exc] at hturn; cases hturn
                      | ok u ρ5 =>
                        simp only [hfv, R.bind_ok] at hturn
                        intro F5 H5 y p5 v5
                        cases hva : valArgs false [u] ρ5 with
                        | none => simp only [hva] at hturn; cases hturn
                        | some pr =>
                          obtain ⟨dl, ρ6⟩ := pr
                          simp only [hva] at hturn
                          have nT4 : ¬ ownA σ2 ρ4 D := fun t => nT2 (p4.mono.own t)
                          obtain ⟨F6, dd, rfl, p6, r6⟩ := froz1 p4.sr p5 v5 hva
                          cases hturn
                          have eD6 := p6.ext.keep _ _ eD4 nT4 plain_lst.1
                          have nD6 := p6.ext.priv _ _ eD4 nD4 nT4 plain_lst.1
                          have rA6 := ((rA.mono p'.ext.f).mono p4.ext.f).mono p6.ext.f
                          refine ⟨accV, eD6, by rw [rA.length]; omega, ?_⟩
                          have pt := turn_post hs ownc pc.sr hset hidem p' ps os (p4.trans p6)
                          have pall := pc.trans pt
                          have nallD : ¬ ownAll (wipe σ own) (wipeE own ρ6) D := fun ⟨j, k, u, e1, e2⟩ => by
                            obtain ⟨u', e3⟩ := pall.mono.back j k u e1
                            obtain ⟨⟨w, z⟩, _⟩ := hW.allSome ⟨j, k, u', e3, e2⟩
                            rw [nD] at z; cases z
                          refine ⟨F6, acc ++ [dd], accV ++ [y], ⟨pall.sr.setAt (i := 0) nD6 eD6 plain_lst nallD, pall.ext.trans (T2 := fun b => b = D) ⟨.refl _, fun b o e n _ => by rw [upd_ne n]; exact e, fun b o e n _ _ => n, fun b o e tn => ?_⟩ fun b q => .inr (by rw [q]; exact .non nD), pall.mono⟩, fun j hj k o e => ?_, upd_same, nD6, rA6.append (.cons r6 .nil), by rw [← happ]; simp, by rw [List.length_append]; simp; omega⟩
                          · by_cases hb : b = D
                            · subst hb; exact ⟨_, upd_same, plain_lst.1⟩
                            · exact ⟨o, by rw [upd_ne hb]; exact e, tn⟩
                          · rw [wipeE_get, if_pos hj] at e
                            obtain ⟨_, _, z⟩ := Option.map_eq_some_iff.mp e; cases z
        · have hn : xs[i]? = none := List.getElem?_eq_none (by omega)
          rw [List.drop_eq_nil_of_le (by omega)] at hrest
          cases hrest
          rw [List.append_nil] at happ
          subst happ
          refine .inl ⟨io2 hn, ?_⟩
          have lenc : ρE.length = ρ1.length := by rw [Mono.len pc hW, wipeE_len]
          have gets : ∀ j, (restE own ρ1 ρE)[j]? = if j ∈ own then ρ1[j]? else ρE[j]? := fun j => restE_get j lenc
          have srF : SR Fc Hc σ (restE own ρ1 ρE) := by
            have sub : ∀ (j : Nat) (k : OK) (o : O), (restE own ρ1 ρE)[j]? = some (some (.own k o)) → ρE[j]? = some (some (.own k o)) ∧ (wipe σ own)[j]? = σ[j]? := fun j k o e => by
              rw [gets] at e
              split at e
              · rename_i hj; exact absurd e (own1 j hj k o)
              · rename_i hj; exact ⟨e, by rw [wipe_get, if_neg hj]⟩
            refine ⟨pc.sr.sub, by rw [restE_len, lenc]; exact p1.sr.len, fun j d e => ?_, fun j k o e => ?_, fun j l k k2 o u w e1 e2 e3 e4 => ?_⟩
            · rw [gets] at e
              split at e
              · obtain ⟨v, h1, h2⟩ := p1.sr.val j d e
                exact ⟨v, h1, h2.mono pc.ext.f⟩
              · rename_i hj
                obtain ⟨v, h1, h2⟩ := pc.sr.val j d e
                rw [wipe_get, if_neg hj] at h1
                exact ⟨v, h1, h2⟩
            · obtain ⟨e1, e2⟩ := sub j k o e
              rw [← e2]
              exact pc.sr.own j k o e1
            · obtain ⟨f1, f2⟩ := sub _ _ _ e1
              obtain ⟨g1, g2⟩ := sub _ _ _ e2
              rw [← f2] at e3; rw [← g2] at e4
              exact pc.sr.inj j l k k2 o u w f1 g1 e3 e4
          have ownW : ∀ b, ownA (wipe σ own) (wipeE own ρ1) b → ownA σ ρ1 b := fun b ⟨j, k, o, e1, e2, e3⟩ => by
            rw [wipeE_get] at e1
            split at e1
            · obtain ⟨_, _, z⟩ := Option.map_eq_some_iff.mp e1; cases z
            · rename_i hj
              rw [wipe_get, if_neg hj] at e3
              exact ⟨j, k, o, e1, e2, e3⟩
          refine h Fc Hc (.ref D) (p1.trans ⟨srF, pc.ext.imp fun b ob => .inl (ownW b ob), ⟨fun j k o' e => ?_, fun j k o e n => ?_⟩⟩) ⟨D, rfl, p1.ext.back (.non nD), nfD, accV, eD, rA⟩
          · rw [gets] at e
            split at e
            · rename_i hj; exact absurd e (own1 j hj k o')
            · rename_i hj
              obtain ⟨u, e1⟩ := pc.mono.back j k o' e
              rw [wipeE_get, if_neg hj] at e1
              exact ⟨u, e1⟩
          · have hj : j ∉ own := fun z => own1 j z k o e
            obtain ⟨o', e1, e2⟩ := pc.mono.fix j k o (by rw [wipeE_get, if_neg hj]; exact e) n
            exact ⟨o', by rw [gets, if_neg hj]; exact e1, e2⟩
    · simp only [if_neg hok] at h
end
end BX

set_option Elab.async false
set_option linter.all false
set_option maxRecDepth 100000
set_option maxHeartbeats 4000000
namespace BX
open PySem PySem.Spec PyProof.Rows L2 RZ
variable [Tbs]

inductive Fl where
  | next | brk | cont
  | ret (r : RV)
def RetR (H : Hp) (σ : St) (ρ : Env) (F' H' : Hp) (v : V) : RV → Prop
  | .val d => Rp F' d v
  | .own o => ∃ a, v = .ref a ∧ F' a = none ∧ OkO F' H' a o ∧ (Fr H a ∨ ownK .fre σ ρ a)
  | .bor _ => False
def tSt (Wx : XW) (ev : Env → R Fl) : TS := fun Dn σ H => ∃ F ρ, SR F H σ ρ ∧
  match ev ρ with
  | .ok .next ρ' => ∀ F' H' σ', PostS F H σ ρ F' H' σ' ρ' → Dn.nx σ' H'
  | .ok .brk ρ' => ∀ F' H' σ', PostS F H σ ρ F' H' σ' ρ' → Dn.bk σ' H'
  | .ok .cont ρ' => ∀ F' H' σ', PostS F H σ ρ F' H' σ' ρ' → Dn.ct σ' H'
  | .ok (.ret r) ρ' => ∀ F' H' σ' v, PostS F H σ ρ F' H' σ' ρ' → RetR H σ ρ F' H' v r → Dn.rt v H'
  | .exc c ρ' => ∀ F' H' σ', PostS F H σ ρ F' H' σ' ρ' → Wx c σ' H'
  | .bad => False
/-- what is wanted of a way's end -/
def EndS (Wx : XW) (Dn : Ends) (F H : Hp) (σ : St) (ρ : Env) (r : R Fl) : Prop := match r with
  | .ok .next ρ' => ∀ F' H' σ', PostS F H σ ρ F' H' σ' ρ' → Dn.nx σ' H'
  | .ok .brk ρ' => ∀ F' H' σ', PostS F H σ ρ F' H' σ' ρ' → Dn.bk σ' H'
  | .ok .cont ρ' => ∀ F' H' σ', PostS F H σ ρ F' H' σ' ρ' → Dn.ct σ' H'
  | .ok (.ret r) ρ' => ∀ F' H' σ' v, PostS F H σ ρ F' H' σ' ρ' → RetR H σ ρ F' H' v r → Dn.rt v H'
  | .exc c ρ' => ∀ F' H' σ', PostS F H σ ρ F' H' σ' ρ' → Wx c σ' H'
  | .bad => False
theorem RetR.from {F H F1 H1 F' H' : Hp} {σ σ1 : St} {ρ ρ1 : Env} {v : V} {r : RV} (p : PostS F H σ ρ F1 H1 σ1 ρ1) (h : RetR H1 σ1 ρ1 F' H' v r) : RetR H σ ρ F' H' v r := by
  cases r with
  | val d => exact h
  | bor i => exact h
  | own o =>
    obtain ⟨a, e, n, k, z⟩ := h
    refine ⟨a, e, n, k, ?_⟩
    rcases z with z | z
    · exact .inl (p.ext.back z)
    · rcases p.newF a z with y | y
      · exact .inr y
      · exact .inl y
theorem EndS.after {Wx : XW} {Dn : Ends} {F H F1 H1 : Hp} {σ σ1 : St} {ρ ρ1 : Env} {r : R Fl} (p : PostS F H σ ρ F1 H1 σ1 ρ1) (h : EndS Wx Dn F H σ ρ r) : EndS Wx Dn F1 H1 σ1 ρ1 r := by
  cases r with
  | bad => exact h
  | exc c ρ2 => exact fun F' H' σ' p' => h F' H' σ' (p.trans p')
  | ok f ρ2 =>
    cases f with
    | next => exact fun F' H' σ' p' => h F' H' σ' (p.trans p')
    | brk => exact fun F' H' σ' p' => h F' H' σ' (p.trans p')
    | cont => exact fun F' H' σ' p' => h F' H' σ' (p.trans p')
    | ret r => exact fun F' H' σ' v p' k => h F' H' σ' v (p.trans p') (k.from p)
theorem tSt_of {Wx : XW} {Dn : Ends} {F H : Hp} {σ : St} {ρ : Env} {ev : Env → R Fl} (s : SR F H σ ρ) (h : EndS Wx Dn F H σ ρ (ev ρ)) : tSt Wx ev Dn σ H := ⟨F, ρ, s, h⟩
theorem tSt_to {Wx : XW} {Dn : Ends} {H : Hp} {σ : St} {ev : Env → R Fl} (h : tSt Wx ev Dn σ H) : ∃ F ρ, SR F H σ ρ ∧ EndS Wx Dn F H σ ρ (ev ρ) := h
/-- behind an expression -/
theorem tD_st {Wx : XW} {Dn : Ends} {H : Hp} {σ : St} {F : Hp} {ρ : Env} {f : Env → R RV} {k : RV → Env → R Fl} {Q : VK} (s : SR F H σ ρ) (h : EndS Wx Dn F H σ ρ ((f ρ).bind k))
    (q : ∀ F1 H1 v u ρ1, PostE F H σ ρ F1 H1 ρ1 → VR H F1 H1 σ v u → EndS Wx Dn F H σ ρ (k u ρ1) → Q v H1) : tD Wx f σ H Q := by
  refine ⟨F, ρ, s, ?_⟩
  cases hf : f ρ with
  | bad => simp only [hf, R.bind_bad] at h; exact h
  | exc c ρ1 => simp only [hf, R.bind_exc] at h; exact fun F1 H1 p1 => h F1 H1 σ p1.s
  | ok u ρ1 => simp only [hf, R.bind_ok] at h; exact fun F1 H1 v p1 v1 => q F1 H1 v u ρ1 p1 v1 h
theorem tT_st {Wx : XW} {Dn : Ends} {H : Hp} {σ : St} {F : Hp} {ρ : Env} {f : Env → R Bool} {k : Bool → Env → R Fl} {Q : Bool → Hp → Prop} (s : SR F H σ ρ) (h : EndS Wx Dn F H σ ρ ((f ρ).bind k))
    (q : ∀ F1 H1 u ρ1, PostE F H σ ρ F1 H1 ρ1 → EndS Wx Dn F H σ ρ (k u ρ1) → Q u H1) : tTs Wx f σ H Q := by
  refine ⟨F, ρ, s, ?_⟩
  cases hf : f ρ with
  | bad => simp only [hf, R.bind_bad] at h; exact h
  | exc c ρ1 => simp only [hf, R.bind_exc] at h; exact fun F1 H1 p1 => h F1 H1 σ p1.s
  | ok u ρ1 => simp only [hf, R.bind_ok] at h; exact fun F1 H1 p1 => q F1 H1 u ρ1 p1 h

theorem tD_st' {Wx : XW} {Dn : Ends} {H : Hp} {σ : St} {F F1 H1 : Hp} {ρ ρ1 : Env} {f : Env → R RV} {k : RV → Env → R Fl} {Q : VK} (p : PostE F H σ ρ F1 H1 ρ1) (h : EndS Wx Dn F H σ ρ ((f ρ1).bind k))
    (q : ∀ F2 H2 v u ρ2, PostE F1 H1 σ ρ1 F2 H2 ρ2 → VR H1 F2 H2 σ v u → EndS Wx Dn F H σ ρ (k u ρ2) → Q v H2) : tD Wx f σ H1 Q := by
  refine ⟨F1, ρ1, p.sr, ?_⟩
  cases hf : f ρ1 with
  | bad => simp only [hf, R.bind_bad] at h; exact h
  | exc c ρ2 => simp only [hf, R.bind_exc] at h; exact fun F2 H2 p2 => h F2 H2 σ (p.trans p2).s
  | ok u ρ2 => simp only [hf, R.bind_ok] at h; exact fun F2 H2 v p2 v2 => q F2 H2 v u ρ2 p2 v2 h

/-! ## small statements -/
def exNext (ρ : Env) : R Fl := .ok .next ρ
def exBrk (ρ : Env) : R Fl := .ok .brk ρ
def exCont (ρ : Env) : R Fl := .ok .cont ρ
def exSeq (a b : Env → R Fl) (ρ : Env) : R Fl := match a ρ with
  | .ok .next ρ1 => b ρ1
  | r => r
def stAsg (i : Nat) (u : RV) (ρ : Env) : R Fl := match u with
  | .val d => match setS i (.val d) ρ with
    | some ρ' => .ok .next ρ'
    | none => .bad
  | .own o => match setS i (.own .fre o) ρ with
    | some ρ' => .ok .next ρ'
    | none => .bad
  | .bor j => match ρ[j]? with
    | some (some (.own k o)) => if k = .fre ∧ i ≠ j then
        match setS i (.own .fre o) (ρ.set j none) with
        | some ρ' => .ok .next ρ'
        | none => .bad
      else .bad
    | _ => .bad
def exAsg (i : Nat) (f : Env → R RV) (ρ : Env) : R Fl := (f ρ).bind (stAsg i)
def exDrop (f : Env → R RV) (ρ : Env) : R Fl := (f ρ).bind fun _ ρ1 => .ok .next ρ1
def stRet (u : RV) (ρ : Env) : R Fl := match u with
  | .val d => .ok (.ret (.val d)) ρ
  | .own o => .ok (.ret (.own o)) ρ
  | .bor j => match ρ[j]? with
    | some (some (.own k o)) => if k = .fre then .ok (.ret (.own o)) (ρ.set j none) else .bad
    | _ => .bad
def exRet (f : Env → R RV) (ρ : Env) : R Fl := (f ρ).bind stRet
def exRetN (ρ : Env) : R Fl := .ok (.ret (.val .none)) ρ
def exIte (c : Env → R RV) (a b : Env → R Fl) (ρ : Env) : R Fl := (evT c ρ).bind fun t ρ1 => if t = true then a ρ1 else b ρ1
def exAsgT (is : List Nat) (f : Env → R RV) (ρ : Env) : R Fl := (f ρ).bind fun u ρ1 => match valArgs false [u] ρ1 with
  | some (ds, ρ2) => match setT (.tp is) (ds.headD .none) ρ2 with
    | some ρ3 => .ok .next ρ3
    | none => .bad
  | none => .bad
def exPar (is : List Nat) (fs : Env → R (List RV)) (ρ : Env) : R Fl := (fs ρ).bind fun rs ρ1 => match valArgs false rs ρ1 with
  | some (ds, ρ2) => match setTs is ds ρ2 with
    | some ρ3 => .ok .next ρ3
    | none => .bad
  | none => .bad
/-- a store of a fresh object -/
theorem SR.storeOwn {F H : Hp} {σ : St} {ρ ρ' : Env} {i : Nat} {o : O} {a : Addr} (s : SR F H σ ρ) (h : setS i (.own .fre o) ρ = some ρ') (nf : F a = none) (ok : OkO F H a o) (no : ¬ ownAll σ ρ a) : SR F H (σ.set i (some (.ref a))) ρ' ∧
    (∀ (j : Nat) (k : OK) (u : O), ρ'[j]? = some (some (.own k u)) → (j = i ∧ k = .fre) ∨ (j ≠ i ∧ ρ[j]? = some (some (.own k u)))) := by
  obtain ⟨rfl, il, hf⟩ := setS_ok h
  have il' : i < σ.length := by rw [s.len]; exact il
  have sub : ∀ (j : Nat) (v : SV), (ρ.set i (some (.own .fre o)))[j]? = some (some v) → (j = i ∧ v = .own .fre o) ∨ (j ≠ i ∧ ρ[j]? = some (some v) ∧ (σ.set i (some (.ref a)))[j]? = σ[j]?) := fun j v e => by
    by_cases ej : i = j
    · subst ej; rw [List.getElem?_set_self il] at e; cases e; exact .inl ⟨rfl, rfl⟩
    · rw [List.getElem?_set_ne ej] at e; exact .inr ⟨fun z => ej z.symm, e, List.getElem?_set_ne ej⟩
  refine ⟨⟨s.sub, by rw [List.length_set, List.length_set]; exact s.len, fun j d' e => ?_, fun j k o' e => ?_, fun j l k k2 u w b e1 e2 e3 e4 => ?_⟩, fun j k u e => ?_⟩
  · rcases sub j _ e with ⟨_, z⟩ | ⟨_, e1, e2⟩
    · cases z
    · rw [e2]; exact s.val j d' e1
  · rcases sub j _ e with ⟨rfl, z⟩ | ⟨_, e1, e2⟩
    · cases z
      exact ⟨a, List.getElem?_set_self il', nf, ok⟩
    · rw [e2]; exact s.own j k o' e1
  · rcases sub j _ e1 with ⟨rfl, z⟩ | ⟨_, f1, f2⟩
    · rcases sub l _ e2 with ⟨rfl, y⟩ | ⟨_, g1, g2⟩
      · rfl
      · rw [List.getElem?_set_self il'] at e3
        cases e3
        rw [g2] at e4
        exact absurd ⟨l, k2, w, g1, e4⟩ no
    · rcases sub l _ e2 with ⟨rfl, y⟩ | ⟨_, g1, g2⟩
      · rw [List.getElem?_set_self il'] at e4
        cases e4
        rw [f2] at e3
        exact absurd ⟨j, k, u, f1, e3⟩ no
      · rw [f2] at e3; rw [g2] at e4
        exact s.inj j l k k2 u w b f1 g1 e3 e4
  · rcases sub j _ e with ⟨e1, z⟩ | ⟨e1, e2, _⟩
    · cases z; exact .inl ⟨e1, rfl⟩
    · exact .inr ⟨e1, e2⟩
theorem PostS.ofStore {F H F1 H1 : Hp} {σ : St} {ρ ρ1 ρ2 : Env} {i : Nat} {o : O} {a : Addr} (p : PostE F H σ ρ F1 H1 ρ1) (h : setS i (.own .fre o) ρ1 = some ρ2) (nf : F1 a = none) (ok : OkO F1 H1 a o) (no : ¬ ownAll σ ρ1 a)
    (fr : Fr H a ∨ ownK .fre σ ρ a) : PostS F H σ ρ F1 H1 (σ.set i (some (.ref a))) ρ2 := by
  obtain ⟨s2, sub⟩ := p.sr.storeOwn h nf ok no
  obtain ⟨rfl, il, hf⟩ := setS_ok h
  refine ⟨s2, p.ext, fun j k o' e n => ?_, fun j k u e n => ?_, fun b ⟨j, u, e1, e2⟩ => ?_⟩
  · rcases sub j k o' e with ⟨_, z⟩ | ⟨ne, e1⟩
    · exact absurd z n
    · obtain ⟨u, e2⟩ := p.mono.back j k o' e1
      exact ⟨u, e2, List.getElem?_set_ne fun z => ne z.symm⟩
  · obtain ⟨o', e1, e2⟩ := p.mono.fix j k u e n
    have ne : i ≠ j := fun z => by subst z; exact n (hf k o' e1)
    exact ⟨o', by rw [List.getElem?_set_ne ne]; exact e1, e2, List.getElem?_set_ne ne⟩
  · rcases sub j _ u e1 with ⟨rfl, _⟩ | ⟨ne, e3⟩
    · have il' : j < σ.length := by rw [p.sr.len]; exact il
      rw [List.getElem?_set_self il'] at e2
      cases e2
      exact fr.symm
    · rw [List.getElem?_set_ne (fun z => ne z.symm)] at e2
      obtain ⟨u', e4⟩ := p.mono.back j _ u e3
      exact .inl ⟨j, u', e4, e2⟩
theorem drop_all {σ : St} {ρ : Env} {j : Nat} {a : Addr} (h : ownAll σ (ρ.set j none) a) : ∃ i k o, i ≠ j ∧ ρ[i]? = some (some (.own k o)) ∧ σ[i]? = some (some (.ref a)) := by
  obtain ⟨i, k, o, e1, e2⟩ := h
  by_cases ej : j = i
  · subst ej
    rw [List.getElem?_set] at e1
    split at e1
    · split at e1 <;> cases e1
    · rename_i n; exact absurd rfl n
  · rw [List.getElem?_set_ne ej] at e1
    exact ⟨i, k, o, fun z => ej z.symm, e1, e2⟩
/-- a slot given up -/
theorem PostE.drop {F H F1 H1 : Hp} {σ : St} {ρ ρ1 : Env} (p : PostE F H σ ρ F1 H1 ρ1) {j : Nat} {o : O} (h : ρ1[j]? = some (some (.own .fre o))) : PostE F H σ ρ F1 H1 (ρ1.set j none) := by
  refine ⟨p.sr.drop j, p.ext, ⟨fun i k o' e => ?_, fun i k u e n => ?_⟩⟩
  · by_cases ej : j = i
    · subst ej
      rw [List.getElem?_set] at e
      split at e
      · split at e <;> cases e
      · rename_i n; exact absurd rfl n
    · rw [List.getElem?_set_ne ej] at e
      exact p.mono.back i k o' e
  · obtain ⟨o', e1, e2⟩ := p.mono.fix i k u e n
    have ne : j ≠ i := fun z => by
      subst z
      rw [h] at e1
      cases e1
      exact n rfl
    exact ⟨o', by rw [List.getElem?_set_ne ne]; exact e1, e2⟩
section
variable {X : Cx} {Wx : XW} {e : Expr} {f : Env → R RV} {fs : Env → R (List RV)} {a b : Env → R Fl} {pos : Pos}
theorem asg_ok {i : Nat} {Dn : Ends} {σ : St} {H : Hp} (h : tSt Wx (exAsg i f) Dn σ H) : tAsg (tD Wx f) (gName i) Dn σ H := by
  obtain ⟨F, ρ, s, h⟩ := tSt_to h
  refine tD_st s h fun F1 H1 v u ρ1 p1 v1 h => ?_
  show Dn.nx (σ.set i (some v)) H1
  unfold stAsg at h
  cases u with
  | val d =>
    cases hs : setS i (.val d) ρ1 with
    | none => simp only [hs] at h; exact h.elim
    | some ρ2 => simp only [hs] at h; exact h F1 H1 _ (p1.s.trans (p1.sr.store hs v1))
  | own o =>
    obtain ⟨x, rfl, nH, nF, ok⟩ := v1
    cases hs : setS i (.own .fre o) ρ1 with
    | none => simp only [hs] at h; exact h.elim
    | some ρ2 =>
      simp only [hs] at h
      refine h F1 H1 _ (.ofStore p1 hs nF ok (fun ⟨j, k, u, e1, e2⟩ => ?_) (.inl nH))
      obtain ⟨u', e3⟩ := p1.mono.back j k u e1
      obtain ⟨⟨w, z, pl⟩, _⟩ := s.allPlain ⟨j, k, u', e3, e2⟩
      exact nH.no z pl
  | bor j =>
    have v1 : σ[j]? = some (some v) := v1
    cases hj : ρ1[j]? with
    | none => simp only [hj] at h; exact h.elim
    | some sv =>
      cases sv with
      | none => simp only [hj] at h; exact h.elim
      | some sv =>
        cases sv with
        | val d => simp only [hj] at h; exact h.elim
        | own k o =>
          simp only [hj] at h
          by_cases hk : k = .fre ∧ i ≠ j
          · rw [if_pos hk] at h
            obtain ⟨rfl, ne⟩ := hk
            obtain ⟨x, e1, nF, ok⟩ := p1.sr.own j _ o hj
            rw [v1] at e1; cases e1
            cases hs : setS i (.own .fre o) (ρ1.set j none) with
            | none => simp only [hs] at h; exact h.elim
            | some ρ2 =>
              simp only [hs] at h
              refine h F1 H1 _ (.ofStore (p1.drop hj) hs nF ok (fun oa => ?_) ?_)
              · obtain ⟨l, k, u, n, e2, e3⟩ := drop_all oa
                exact n (p1.sr.inj l j k .fre u o x e2 hj e3 v1)
              · obtain ⟨u', e3⟩ := p1.mono.back j _ o hj
                exact .inr ⟨j, u', e3, v1⟩
          · rw [if_neg hk] at h; exact h.elim
theorem DS_asg {i : Nat} {x : Str} {pos' : Pos} (hN : X.N.Nodup) (hi : X.N[i]? = some x) (hx : Loc X.env.scope x) (he : PE X e (tD Wx f)) (hs : swapsWith e (some (.Name x pos')) pos.line X.env = pure false) (hf : X.fn x = true ∨ X.env.scope.names.lookup x = some .local) :
    PS X (.Assign [.Name x pos'] e pos) (tSt Wx (exAsg i f)) := PS.imp (ps_set hN hi hx he hs hf) fun Dn σ H h => asg_ok h
theorem DS_drop (he : PE X e (tD Wx f)) (hs : swapsWith e none pos.line X.env = pure false) : PS X (.Expr e pos) (tSt Wx (exDrop f)) := by
  refine PS.imp (ps_expr he hs) fun Dn σ H h => ?_
  obtain ⟨F, ρ, s, h⟩ := tSt_to h
  exact tD_st s h fun F1 H1 v u ρ1 p1 v1 h => h F1 H1 σ p1.s
theorem DS_ret (he : PE X e (tD Wx f)) : PS X (.Return (some e) pos) (tSt Wx (exRet f)) := by
  refine PS.imp (ps_ret he) fun Dn σ H h => ?_
  obtain ⟨F, ρ, s, h⟩ := tSt_to h
  refine tD_st s h fun F1 H1 v u ρ1 p1 v1 h => ?_
  unfold stRet at h
  cases u with
  | val d => exact h F1 H1 σ v p1.s v1
  | own o => obtain ⟨x, rfl, nH, nF, ok⟩ := v1; exact h F1 H1 σ _ p1.s ⟨x, rfl, nF, ok, .inl nH⟩
  | bor j =>
    have v1 : σ[j]? = some (some v) := v1
    cases hj : ρ1[j]? with
    | none => simp only [hj] at h; exact h.elim
    | some sv =>
      cases sv with
      | none => simp only [hj] at h; exact h.elim
      | some sv =>
        cases sv with
        | val d => simp only [hj] at h; exact h.elim
        | own k o =>
          simp only [hj] at h
          by_cases hk : k = .fre
          · rw [if_pos hk] at h
            subst hk
            obtain ⟨x, e1, nF, ok⟩ := p1.sr.own j _ o hj
            rw [v1] at e1; cases e1
            obtain ⟨u', e3⟩ := p1.mono.back j _ o hj
            exact h F1 H1 σ _ (p1.drop hj).s ⟨x, rfl, nF, ok, .inr ⟨j, u', e3, v1⟩⟩
          · rw [if_neg hk] at h; exact h.elim
theorem DS_retN : PS X (.Return none pos) (tSt Wx exRetN) := PS.imp ps_retN fun Dn σ H h => by
  obtain ⟨F, ρ, s, h⟩ := tSt_to h
  exact h F H σ _ (.refl s) .non
theorem DS_pass : PS X (.Pass pos) (tSt Wx exNext) := PS.imp ps_pass fun Dn σ H h => by
  obtain ⟨F, ρ, s, h⟩ := tSt_to h
  exact h F H σ (.refl s)
theorem DS_brk : PS X (.Break pos) (tSt Wx exBrk) := PS.imp ps_break fun Dn σ H h => by
  obtain ⟨F, ρ, s, h⟩ := tSt_to h
  exact h F H σ (.refl s)
theorem DS_cont : PS X (.Continue pos) (tSt Wx exCont) := PS.imp ps_continue fun Dn σ H h => by
  obtain ⟨F, ρ, s, h⟩ := tSt_to h
  exact h F H σ (.refl s)
theorem DSs_nil : PSs X [] (tSt Wx exNext) := PSs.imp pss_nil fun Dn σ H h => by
  obtain ⟨F, ρ, s, h⟩ := tSt_to h
  exact h F H σ (.refl s)
theorem DSs_cons {st : Stmt} {rest : List Stmt} (h1 : PS X st (tSt Wx a)) (h2 : PSs X rest (tSt Wx b)) : PSs X (st :: rest) (tSt Wx (exSeq a b)) := by
  refine PSs.imp (pss_cons h1 h2) fun Dn σ H h => ?_
  obtain ⟨F, ρ, s, h⟩ := tSt_to h
  refine ⟨F, ρ, s, ?_⟩
  unfold exSeq at h
  cases ha : a ρ with
  | bad => simp only [ha] at h; exact h
  | exc c ρ1 => simp only [ha] at h; exact h
  | ok fl ρ1 =>
    cases fl with
    | next => simp only [ha] at h; exact fun F1 H1 σ1 p1 => tSt_of p1.sr (h.after p1)
    | brk => simp only [ha] at h; exact h
    | cont => simp only [ha] at h; exact h
    | ret r => simp only [ha] at h; exact h
theorem DS_ite {c : Env → R RV} {as bs : List Stmt} (hc : PT X e (tTs Wx (evT c))) (h1 : PSs X as (tSt Wx a)) (h2 : PSs X bs (tSt Wx b)) : PS X (.If e as bs pos) (tSt Wx (exIte c a b)) := by
  refine PS.imp (ps_if hc h1 h2) fun Dn σ H h => ?_
  obtain ⟨F, ρ, s, h⟩ := tSt_to h
  refine tT_st s h fun F1 H1 t ρ1 p1 h => ?_
  cases t with
  | true => exact tSt_of p1.sr (h.after p1.s)
  | false => exact tSt_of p1.sr (h.after p1.s)

/-! ## loops -/
def forLoop (tg : CT) (body : Env → R Fl) : List D → Env → R Fl
  | [], ρ => .ok .next ρ
  | x :: xs, ρ => match setT tg x ρ with
    | none => .bad
    | some ρ1 => match body ρ1 with
      | .ok .next ρ2 => forLoop tg body xs ρ2
      | .ok .cont ρ2 => forLoop tg body xs ρ2
      | .ok .brk ρ2 => .ok .next ρ2
      | r => r
def exFor (tg : CT) (it : Env → R (List D)) (body : Env → R Fl) (ρ : Env) : R Fl := (it ρ).bind fun xs ρ1 => forLoop tg body xs ρ1
theorem for_ok {K : PySem.W.Frag} {tg : CT} {it : Env → R (List D)} {Dn : Ends} {σ : St} {H : Hp} (h : tSt Wx (exFor tg it a) Dn σ H) : tFor (tIt Wx it) (gOf K tg) (tSt Wx a) Dn σ H := by
  obtain ⟨F, ρ, s, h⟩ := tSt_to h
  refine ⟨F, ρ, s, ?_⟩
  unfold exFor at h
  cases hf : it ρ with
  | bad => simp only [hf, R.bind_bad] at h; exact h
  | exc c ρ1 => simp only [hf, R.bind_exc] at h; exact fun F1 H1 p1 => h F1 H1 σ p1.s
  | ok xs ρ1 =>
    simp only [hf, R.bind_ok] at h
    intro F1 H1 J p1 io
    generalize hR : forLoop tg a xs ρ1 = R0 at h
    refine ⟨fun i m σc Hc => ∃ Fc ρc, m = xs.length - i ∧ i ≤ xs.length ∧ PostS F H σ ρ Fc Hc σc ρc ∧ Same F1 Fc ∧ forLoop tg a (xs.drop i) ρc = R0, ⟨xs.length, F1, ρ1, rfl, Nat.zero_le _, p1.s, .refl F1, hR⟩, ?_⟩
    rintro i m σc Hc ⟨Fc, ρc, rfl, hi, pc, sf, eq⟩
    obtain ⟨io1, io2⟩ := io i Fc Hc sf pc.sr.sub
    by_cases hlt : i < xs.length
    · have hx : xs[i]? = some xs[i] := List.getElem?_eq_getElem hlt
      obtain ⟨hgo, hyld⟩ := io1 _ hx
      refine .inr ⟨hgo, fun σn Hn => ∃ Fn ρn, PostS F H σ ρ Fn Hn σn ρn ∧ Same F1 Fn ∧ forLoop tg a (xs.drop (i + 1)) ρn = R0, fun σ' H' ⟨Fn, ρn, pn, sn, en⟩ => ⟨xs.length - (i + 1), by omega, Fn, ρn, rfl, hlt, pn, sn, en⟩, fun xv H' hy => ?_⟩
      obtain ⟨F', p', rx⟩ := (hyld xv H' hy).post pc.sr
      have rx : Rp F' xs[i] xv := rx
      rw [List.drop_eq_getElem_cons hlt] at eq
      unfold forLoop at eq
      rw [← eq] at h
      cases hset : setT tg xs[i] ρc with
      | none => simp only [hset] at h; exact h.elim
      | some ρs =>
        simp only [hset] at h eq
        refine setT_ok p'.sr hset rx fun σ2 ps _ => ?_
        have p2 := (pc.trans p'.s).trans ps
        have s2 : Same F1 F' := sf.trans p'.ext.f
        refine ⟨F', ρs, ps.sr, ?_⟩
        cases hb : a ρs with
        | bad => simp only [hb] at h; exact h
        | exc c ρ4 => simp only [hb] at h; exact fun F4 H4 σ4 p4 => h F4 H4 σ4 (p2.trans p4)
        | ok fl ρ4 =>
          cases fl with
          | next => simp only [hb] at eq; exact fun F4 H4 σ4 p4 => ⟨F4, ρ4, p2.trans p4, s2.trans p4.ext.f, eq⟩
          | cont => simp only [hb] at eq; exact fun F4 H4 σ4 p4 => ⟨F4, ρ4, p2.trans p4, s2.trans p4.ext.f, eq⟩
          | brk => simp only [hb] at h; exact fun F4 H4 σ4 p4 => h F4 H4 σ4 (p2.trans p4)
          | ret r => simp only [hb] at h; exact fun F4 H4 σ4 v p4 k => h F4 H4 σ4 v (p2.trans p4) (k.from p2)
    · have hn : xs[i]? = none := List.getElem?_eq_none (by omega)
      rw [List.drop_eq_nil_of_le (by omega)] at eq
      rw [← eq] at h
      exact .inl ⟨io2 hn, h Fc Hc σc pc⟩
theorem DS_for {tg : CT} {te iter : Expr} {it : Env → R (List D)} {body : List Stmt} (hp : PassesOwn (model X.prog X.w) X.A X.env X.xe) (hc : X.calm = true) (hi : PI X te iter (tIt Wx it)) (hg : PG X te (gOf X.K tg)) (hb : PSs X body (tSt Wx a))
    (hs : ∀ x, foldedSetIterable iter X.env x = pure x) : PS X (.For te iter body [] pos) (tSt Wx (exFor tg it a)) :=
  PS.imp (ps_for hp hc hi hg hb hs) fun Dn σ H h => for_ok h
def whileL (c : Env → R RV) (body : Env → R Fl) : Nat → Env → R Fl
  | 0, _ => .bad
  | n + 1, ρ => (evT c ρ).bind fun t ρ1 => if t = true then match body ρ1 with
      | .ok .next ρ2 => whileL c body n ρ2
      | .ok .cont ρ2 => whileL c body n ρ2
      | .ok .brk ρ2 => .ok .next ρ2
      | r => r
    else .ok .next ρ1
theorem while_ok {c : Env → R RV} {n : Nat} {Dn : Ends} {σ : St} {H : Hp} (h : tSt Wx (whileL c a n) Dn σ H) : tWhile (tTs Wx (evT c)) (tSt Wx a) Dn σ H := by
  obtain ⟨F, ρ, s, h⟩ := tSt_to h
  refine ⟨fun m σc Hc => ∃ Fc ρc, PostS F H σ ρ Fc Hc σc ρc ∧ whileL c a m ρc = whileL c a n ρ, ⟨n, F, ρ, .refl s, rfl⟩, ?_⟩
  rintro m σc Hc ⟨Fc, ρc, pc, eq⟩
  rw [← eq] at h
  cases m with
  | zero => exact h.elim
  | succ m =>
    generalize whileL c a n ρ = R0 at eq
    refine ⟨Fc, ρc, pc.sr, ?_⟩
    unfold whileL at h eq
    cases ht : evT c ρc with
    | bad => simp only [ht, R.bind_bad] at h; exact h
    | exc x ρ1 => simp only [ht, R.bind_exc] at h; exact fun F1 H1 p1 => h F1 H1 σc (pc.trans p1.s)
    | ok t ρ1 =>
      simp only [ht, R.bind_ok] at h eq
      intro F1 H1 p1
      have p2 := pc.trans p1.s
      cases t with
      | false =>
        simp only [Bool.false_eq_true, if_false] at h ⊢
        exact h F1 H1 σc p2
      | true =>
        simp only [if_true] at h eq ⊢
        refine ⟨fun σn Hn => ∃ Fn ρn, PostS F H σ ρ Fn Hn σn ρn ∧ whileL c a m ρn = R0, fun σ' H' ⟨Fn, ρn, pn, en⟩ => ⟨m, Nat.lt_succ_self m, Fn, ρn, pn, en⟩, F1, ρ1, p1.sr, ?_⟩
        cases hb : a ρ1 with
        | bad => simp only [hb] at h; exact h
        | exc x ρ4 => simp only [hb] at h; exact fun F4 H4 σ4 p4 => h F4 H4 σ4 (p2.trans p4)
        | ok fl ρ4 =>
          cases fl with
          | next => simp only [hb] at eq; exact fun F4 H4 σ4 p4 => ⟨F4, ρ4, p2.trans p4, eq⟩
          | cont => simp only [hb] at eq; exact fun F4 H4 σ4 p4 => ⟨F4, ρ4, p2.trans p4, eq⟩
          | brk => simp only [hb] at h; exact fun F4 H4 σ4 p4 => h F4 H4 σ4 (p2.trans p4)
          | ret r => simp only [hb] at h; exact fun F4 H4 σ4 v p4 k => h F4 H4 σ4 v (p2.trans p4) (k.from p2)
theorem DS_while {c : Env → R RV} {n : Nat} {body : List Stmt} (hp : PassesOwn (model X.prog X.w) X.A X.env X.xe) (hc : PT X e (tTs Wx (evT c))) (hb : PSs X body (tSt Wx a)) : PS X (.While e body [] pos) (tSt Wx (whileL c a n)) :=
  PS.imp (ps_while hp hc hb) fun Dn σ H h => while_ok h

/-! ## unpacking -/
theorem asgT_ok {K : PySem.W.Frag} {is : List Nat} {Dn : Ends} {σ : St} {H : Hp} (h : tSt Wx (exAsgT is f) Dn σ H) : tAsg (tD Wx f) (gOf K (.tp is)) Dn σ H := by
  obtain ⟨F, ρ, s, h⟩ := tSt_to h
  refine tD_st s h fun F1 H1 v u ρ1 p1 v1 h => ?_
  cases hva : valArgs false [u] ρ1 with
  | none => simp only [hva] at h; exact h.elim
  | some pr =>
    obtain ⟨ds, ρ2⟩ := pr
    simp only [hva] at h
    obtain ⟨F2, d, rfl, p2, r2⟩ := froz1 s p1 v1 hva
    simp only [List.headD_cons] at h
    cases hs : setT (.tp is) d ρ2 with
    | none => simp only [hs] at h; exact h.elim
    | some ρ3 =>
      simp only [hs] at h
      exact setT_ok p2.sr hs r2 fun σ' p3 _ => h F2 H1 σ' (p2.s.trans p3)
theorem DS_asgT {is : List Nat} {tg : Expr} (he : PE X e (tD Wx f)) (hg : PG X tg (gOf X.K (.tp is))) (hs : swapsWithSole [tg] e pos.line X.env = pure false) (hw : swappedStores [tg] e X.env = pure none) (h1 : (assignEach [tg] X.env).map (·.2) = [assign tg X.env]) :
    PS X (.Assign [tg] e pos) (tSt Wx (exAsgT is f)) := PS.imp (ps_asg he hg hs hw h1) fun Dn σ H h => asgT_ok h
/-- the stores of a, b = x, y -/
theorem par_ok {is : List Nat} {Dn : Ends} {σ : St} {H : Hp} (h : tSt Wx (exPar is fs) Dn σ H) : tAr Wx fs σ H fun vs H1 => gTs is vs σ H1 Dn.nx := by
  obtain ⟨F, ρ, s, h⟩ := tSt_to h
  refine ⟨F, ρ, s, ?_⟩
  unfold exPar at h
  cases hf : fs ρ with
  | bad => simp only [hf, R.bind_bad] at h; exact h
  | exc c ρ1 => simp only [hf, R.bind_exc] at h; exact fun F1 H1 p1 => h F1 H1 σ p1.s
  | ok rs ρ1 =>
    simp only [hf, R.bind_ok] at h
    intro F1 H1 vs p1 v1
    cases hva : valArgs false rs ρ1 with
    | none => simp only [hva] at h; exact h.elim
    | some pr =>
      obtain ⟨ds, ρ2⟩ := pr
      simp only [hva] at h
      obtain ⟨F2, p2, r2⟩ := froz s p1 v1 hva
      cases hs : setTs is ds ρ2 with
      | none => simp only [hs] at h; exact h.elim
      | some ρ3 =>
        simp only [hs] at h
        exact setTs_ok p2.sr hs r2 fun σ' p3 _ => h F2 H1 σ' (p2.s.trans p3)
theorem DS_par2 {i j : Nat} {x y : Str} {e1 e2 : Expr} {px py pt : Pos} {kt k2 pt2} (hc : X.calm = true) (hN : X.N.Nodup) (hi : X.N[i]? = some x) (hj : X.N[j]? = some y) (hij : i ≠ j)
    (hx : X.env.scope.names.lookup x = some .local) (hy : X.env.scope.names.lookup y = some .local) (ha : PA X [e1, e2] (tAr Wx fs))
    (hw : swappedStores [.Tuple [.Name x px, .Name y py] kt pt] (.Tuple [e1, e2] k2 pt2) X.env = pure (some [x, y]))
    (hs : swapsWithSole [.Tuple [.Name x px, .Name y py] kt pt] (.Tuple [e1, e2] k2 pt2) pos.line X.env = pure false) :
    PS X (.Assign [.Tuple [.Name x px, .Name y py] kt pt] (.Tuple [e1, e2] k2 pt2) pos) (tSt Wx (exPar [i, j] fs)) := by
  refine PS.imp (ps_par hc hN hi hj hij hx hy ha hw hs) fun Dn σ H h => ?_
  have h := par_ok h
  obtain ⟨F, ρ, s, h⟩ := h
  refine ⟨F, ρ, s, ?_⟩
  cases hf : fs ρ with
  | bad => simp only [hf] at h
  | exc c ρ1 => simp only [hf] at h; exact h
  | ok rs ρ1 =>
    simp only [hf] at h
    intro F1 H1 vs p1 v1
    obtain ⟨v, r, e1, w, r2, e2, e3, q⟩ := h F1 H1 vs p1 v1
    subst e1 e2 e3
    exact ⟨v, w, rfl, q⟩
/-! ## name[i] = v -/
def setL (ds : List D) (i d : D) : Option O := match i with
  | .int k => (ixN ds.length k).map fun j => .lst (ds.set j d)
  | _ => none
def setKd (kvs : List (Key × D)) (i d : D) : Option O := match toKey i with
  | some k => if kvs.length < sizeLine then some (.dK (pt kvs k d)) else none
  | none => none
def setTd (kvs : List (List Key × D)) (i d : D) : Option O := match i with
  | .tuple is => match toKeys is with
    | some k => if kvs.length < sizeLine then some (.dT (pt kvs k d)) else none
    | none => none
  | _ => none
def setO : O → D → D → Option O
  | .lst ds => setL ds
  | .dK kvs => setKd kvs
  | .dT kvs => setTd kvs
def exSetIx (o : Nat) (ix f : Env → R RV) (ρ : Env) : R Fl := (f ρ).bind fun u ρ1 => (evVar o ρ1).bind fun w ρ2 => (ix ρ2).bind fun i ρ3 => match w with
  | .bor j => match ρ3[j]? with
    | some (some (.own k ob)) => if k = .len then .bad else
      match valArgs false [u, i] (ρ3.set j none) with
      | some (ds, ρ4) => match setO ob (ds.getD 1 .none) (ds.getD 0 .none) with
        | some ob' => .ok .next (ρ4.set j (some (.own k ob')))
        | none => .bad
      | none => .bad
    | _ => .bad
  | _ => .bad
abbrev rSetAll : TSet := fun o i v H Q => rSetL o i v H Q ∨ rSetD o i v H Q
theorem set_all (hu : X.A.units + 1 < cLine) : PSet X rSetAll := by
  intro pins s σ H o i v ov iv u Q I ro ri rv h
  rcases h with h | h
  · exact set_list pins s σ H o i v ov iv u Q I ro ri rv h
  · exact set_dict hu pins s σ H o i v ov iv u Q I ro ri rv h
theorem setO_ok {F H : Hp} {a : Addr} {ob ob' : O} {i d : D} {iv v : V} {Q : Hp → Prop} (s : Same F H) (ok : OkO F H a ob) (ri : Rp F i iv) (rv : Rp F d v) (h : setO ob i d = some ob') (q : ∀ u, OkO F (upd H a u) a ob' → Q (upd H a u)) : rSetAll (.ref a) iv v H Q := by
  cases ob with
  | lst ds =>
    have h : setL ds i d = some ob' := h
    unfold setL at h
    split at h <;> try cases h
    obtain ⟨j, h1, rfl⟩ := Option.map_eq_some_iff.mp h
    obtain ⟨us, e, ru⟩ := ok
    cases ri
    exact .inl ⟨a, us, _, j, rfl, rfl, e, by rw [ru.length]; exact h1, q _ ⟨_, upd_same, ru.set j rv⟩⟩
  | dK kvs =>
    have h : setKd kvs i d = some ob' := h
    unfold setKd at h
    split at h <;> try cases h
    rename_i k hk
    split at h <;> try cases h
    rename_i hz
    obtain ⟨us, e, ru⟩ := ok
    have ek := toKey_ok hk ri
    subst ek
    exact .inr ⟨a, _, rfl, .k e (by rw [ru.length]; exact hz), q _ ⟨_, upd_same, ru.pt rv⟩⟩
  | dT kvs =>
    have h : setTd kvs i d = some ob' := h
    unfold setTd at h
    split at h <;> try cases h
    split at h <;> try cases h
    rename_i k hk
    split at h <;> try cases h
    rename_i hz
    obtain ⟨us, e, ru⟩ := ok
    cases ri with
    | tup hi ri =>
      have ek := toKeys_ok hk ri
      subst ek
      exact .inr ⟨a, _, rfl, .t e (s _ _ hi) (by rw [ru.length]; exact hz), q _ ⟨_, upd_same, ru.pt rv⟩⟩
/-- o[i] = v, the rest of the way -/
theorem setIx_ok {o : Nat} {ix : Env → R RV} {Dn : Ends} {σ : St} {H : Hp} (h : tSt Wx (exSetIx o ix f) Dn σ H) : tAsg (tD Wx f) (gSub (tD Wx (evVar o)) (tD Wx ix) rSetAll) Dn σ H := by
  obtain ⟨F, ρ, s, h⟩ := tSt_to h
  refine tD_st s h fun F1 H1 v u ρ1 p1 v1 h => ?_
  refine tD_st' p1 h fun F2 H2 w uw ρ2 p2 v2 h => ?_
  refine tD_st' (p1.trans p2) h fun F3 H3 iv ui ρ3 p3 v3 h => ?_
  have v1' := v1.later s p1 (p2.trans p3)
  cases uw with
  | val d => exact h.elim
  | own ob => exact h.elim
  | bor j =>
    have v2 : σ[j]? = some (some w) := v2
    cases hi : ρ3[j]? with
    | none => simp only [hi] at h; exact h.elim
    | some sv =>
      cases sv with
      | none => simp only [hi] at h; exact h.elim
      | some sv =>
        cases sv with
        | val d => simp only [hi] at h; exact h.elim
        | own k ob =>
          simp only [hi] at h
          by_cases hk : k = .len
          · rw [if_pos hk] at h; exact h.elim
          · rw [if_neg hk] at h
            obtain ⟨a, ea, nf, oka⟩ := p3.sr.own j k ob hi
            rw [v2] at ea; cases ea
            have p13 := p1.trans (p2.trans p3)
            have il : j < ρ3.length := (List.getElem?_eq_some_iff.mp hi).1
            have apart : ∀ j' k' o', (ρ3.set j none)[j']? = some (some (.own k' o')) → j' ≠ j ∧ ρ3[j']? = some (some (.own k' o')) := fun j' k' o' e => by
              by_cases ej : j = j'
              · subst ej; rw [List.getElem?_set_self il] at e; cases e
              · rw [List.getElem?_set_ne ej] at e; exact ⟨fun z => ej z.symm, e⟩
            have noa : ¬ ownAll σ (ρ3.set j none) a := fun ⟨j', k', o', e1, e2⟩ => by
              obtain ⟨n1, n2⟩ := apart j' k' o' e1
              exact n1 (p3.sr.inj j' j k' k o' ob a n2 hi e2 v2)
            have hA : ∀ a, ownAll σ ρ3 a → ∃ u, H a = some u ∧ Plain u := fun a ⟨i, k, o, e1, e2⟩ => by
              obtain ⟨o', e3⟩ := p13.mono.back i k o e1
              exact (s.allPlain ⟨i, k, o', e3, e2⟩).1
            have back12 : ∀ a, Fr H2 a → Fr H a := fun a z => p1.ext.back (p2.ext.back z)
            have wk : VWks H F3 H3 σ [v, iv] [u, ui] := (VRs.cons v1' (.cons (v3.from back12) .nil)).weak
            cases hva : valArgs false [u, ui] (ρ3.set j none) with
            | none => simp only [hva] at h; exact h.elim
            | some pr =>
              obtain ⟨ds, ρ4⟩ := pr
              simp only [hva] at h
              obtain ⟨F4, va⟩ := valArgs_ok (H0 := H) _ (p3.sr.drop j) (fun b ob => by
                obtain ⟨j', k', o', e1, e2⟩ := ob
                exact hA b ⟨j', k', o', (apart j' k' o' e1).2, e2⟩) wk hva
              have nf4 : F4 a = none := by
                cases q : F4 a with
                | none => rfl
                | some u =>
                  rcases va.new a u q nf with z | ⟨j', k', o', e1, e2, _⟩
                  · obtain ⟨u', y, pl⟩ := hA a ⟨j, k, ob, hi, v2⟩
                    exact (z.no y pl).elim
                  · exact absurd ⟨j', k', o', e1, e2⟩ noa
              have rps := va.rps
              cases rps with
              | @cons d0 _ dr _ r0 rps =>
              cases rps with
              | @cons d1 _ dr2 _ r1 rps =>
              cases rps
              simp only [List.getD_cons_succ, List.getD_cons_zero] at h
              cases hm : setO ob d1 d0 with
              | none => simp only [hm] at h; exact h.elim
              | some ob' =>
                simp only [hm] at h
                have n4 : ρ4[j]? = some none := by
                  rcases va.fz.at_ j with z | ⟨k', l, e1, _, _⟩
                  · rw [z, List.getElem?_set_self il]
                  · rw [List.getElem?_set_self il] at e1; cases e1
                obtain ⟨w0, hw0, pl0⟩ := oka.plain
                refine setO_ok va.sr.sub.same (oka.move va.f rfl) r1 r0 hm fun un ok' => ?_
                have noa4 : ¬ ownAll σ ρ4 a := fun oa => noa (va.fz.ownAll oa)
                have aT : ownA σ ρ2 a := by
                  obtain ⟨o2, e2⟩ := p3.mono.back j k ob hi
                  exact ⟨j, k, o2, e2, hk, v2⟩
                have fin : PostE F H σ ρ F4 (upd H3 a un) (ρ4.set j (some (.own k ob'))) := by
                  refine ⟨(va.sr.setAt (i := j) nf4 hw0 pl0 noa4).setOwn v2 nf4 ok' noa4, ?_, ?_⟩
                  · refine (p13.ext.trans va.ext fun b ob => ?_).trans (T2 := fun b => b = a) ⟨.refl _, fun b o e n _ => by rw [upd_ne n]; exact e, fun b o e n _ _ => n, fun b o e tn => ?_⟩ fun b q => .inl (by rw [q]; exact p1.mono.own (p2.mono.own aT))
                    · rcases ob with ⟨j', k', o', e1, e2, e3⟩ | ob
                      · exact .inl (p13.mono.own ⟨j', k', o', (apart j' k' o' e1).2, e2, e3⟩)
                      · exact .inr ob
                    · by_cases hb : b = a
                      · subst hb
                        obtain ⟨w1, hw1, pl1⟩ := ok'.plain
                        rw [upd_same] at hw1
                        cases hw1
                        exact ⟨_, upd_same, pl1.1⟩
                      · exact ⟨o, by rw [upd_ne hb]; exact e, tn⟩
                  · refine p13.mono.trans ?_
                    have il4 : j < ρ4.length := (List.getElem?_eq_some_iff.mp n4).1
                    have mm := va.fz.mono
                    refine ⟨fun j' k' o'' e => ?_, fun j' k' o'' e ne => ?_⟩
                    · by_cases ej : j = j'
                      · subst ej
                        rw [List.getElem?_set_self il4] at e
                        cases e
                        exact ⟨ob, hi⟩
                      · rw [List.getElem?_set_ne ej] at e
                        obtain ⟨o3, e3⟩ := mm.back j' k' o'' e
                        exact ⟨o3, (apart j' k' o3 e3).2⟩
                    · by_cases ej : j = j'
                      · subst ej
                        rw [hi] at e
                        cases e
                        exact ⟨ob', List.getElem?_set_self il4, fun z => absurd z hk⟩
                      · obtain ⟨o3, e3, e4⟩ := mm.fix j' k' o'' (by rw [List.getElem?_set_ne ej]; exact e) ne
                        exact ⟨o3, by rw [List.getElem?_set_ne ej]; exact e3, e4⟩
                exact h F4 _ σ fin.s
theorem DS_setIx {o : Nat} {x : Str} {px pos' : Pos} {i : Expr} {ix : Env → R RV} (hu : X.A.units + 1 < cLine) (he : PE X e (tD Wx f)) (ho : PE X (.Name x px) (tD Wx (evVar o))) (hi : PE X i (tD Wx ix))
    (ha : ∀ v, assign (.Subscript (.Name x px) i pos') X.env v = (do
      let ov ← holding [v] (eval (.Name x px) X.env)
      let iv ← holding [v, ov] (eval i X.env)
      standAt pos'
      holding [v, ov, iv] (setItem ov iv v)
      release [v, ov, iv] [])) (hs : swapsWithSole [.Subscript (.Name x px) i pos'] e pos.line X.env = pure false) (hw : swappedStores [.Subscript (.Name x px) i pos'] e X.env = pure none) (h1 : (assignEach [.Subscript (.Name x px) i pos'] X.env).map (·.2) = [assign (.Subscript (.Name x px) i pos') X.env]) :
    PS X (.Assign [.Subscript (.Name x px) i pos'] e pos) (tSt Wx (exSetIx o ix f)) :=
  PS.imp (ps_asg he (pg_sub ho hi (set_all hu) ha) hs hw h1) fun Dn σ H h => setIx_ok h
end
end BX

set_option Elab.async false
set_option linter.all false
set_option maxRecDepth 100000
set_option maxHeartbeats 4000000
namespace BX
open PySem PySem.Spec PyProof.Rows L2 RZ
variable [Tbs]

/-! ## a op b op c -/
def evChain (b1 b2 : Vw → Vw → Option RV) (f g h : Env → R RV) (ρ : Env) : R RV := (f ρ).bind fun u ρ1 => (g ρ1).bind fun w ρ2 => (ap2 b1 u w ρ2).bind fun k ρ3 => match k with
  | .val (.bool true) => (h ρ3).bind fun z ρ4 => ap2 b2 w z ρ4
  | .val (.bool false) => .ok (.val (.bool false)) ρ3
  | _ => .bad
theorem ap2_ok {b : Vw → Vw → Option RV} {r : R2} (ok : Ok2 b r) {F H : Hp} {σ : St} {ρ : Env} {x y : V} {u w k : RV} {ρ' : Env} {H0 : Hp} {Q : VK} (s : SR F H σ ρ) (hx : VR H0 F H σ x u) (hy : VR H0 F H σ y w) (e : ap2 b u w ρ = .ok k ρ')
    (q : ∀ F' H' v, PostE F H σ ρ F' H' ρ' → VR H F' H' σ v k → Q v H') : r x y H Q := by
  unfold ap2 at e
  cases h1 : viewRV ρ u with
  | none => simp only [h1] at e; cases e
  | some vx =>
    cases h2 : viewRV ρ w with
    | none => simp only [h1, h2] at e; cases e
    | some vy =>
      cases hr : b vx vy with
      | none => simp only [h1, h2, hr] at e; cases e
      | some res =>
        simp only [h1, h2, hr] at e
        cases e
        refine ok F H x y vx vy k Q s.sub (view_ok s hx h1) (view_ok s hy h2) hr fun v H' n => ?_
        obtain ⟨F2, p2, r2⟩ := n.post s
        exact q F2 H' v p2 r2
theorem ap2_exc {b : Vw → Vw → Option RV} {u w : RV} {ρ ρ' : Env} {c : Str} (e : ap2 b u w ρ = .exc c ρ') : False := by
  unfold ap2 at e
  cases h1 : viewRV ρ u with
  | none => simp only [h1] at e; cases e
  | some vx =>
    cases h2 : viewRV ρ w with
    | none => simp only [h1, h2] at e; cases e
    | some vy =>
      cases hr : b vx vy <;> (simp only [h1, h2, hr] at e; cases e)
section
variable {X : Cx} {Wx : XW} {f g h : Env → R RV} {fs : Env → R (List RV)} {pos : Pos}
theorem chain_ok {b1 b2 : Vw → Vw → Option RV} {r1 r2 : R2} (ok1 : Ok2 b1 r1) (ok2 : Ok2 b2 r2) {σ : St} {H : Hp} {Q : VK} (hh : tD Wx (evChain b1 b2 f g h) σ H Q) : tChain r1 r2 (tD Wx f) (tD Wx g) (tD Wx h) σ H Q := by
  obtain ⟨F, ρ, s, hh⟩ := hh
  refine ⟨F, ρ, s, ?_⟩
  unfold evChain at hh
  cases hf : f ρ with
  | bad => simp only [hf, R.bind_bad] at hh
  | exc c ρ1 => simp only [hf, R.bind_exc] at hh; exact hh
  | ok u ρ1 =>
    simp only [hf, R.bind_ok] at hh
    intro F1 H1 x p1 v1
    refine ⟨F1, ρ1, p1.sr, ?_⟩
    cases hg : g ρ1 with
    | bad => simp only [hg, R.bind_bad] at hh
    | exc c ρ2 => simp only [hg, R.bind_exc] at hh; exact fun F2 H2 p2 => hh F2 H2 (p1.trans p2)
    | ok w ρ2 =>
      simp only [hg, R.bind_ok] at hh
      intro F2 H2 y p2 v2
      have v1' := v1.later s p1 p2
      have v2' := v2.from fun a z => p1.ext.back z
      cases ha : ap2 b1 u w ρ2 with
      | bad => simp only [ha, R.bind_bad] at hh
      | exc c ρ3 => exact (ap2_exc ha).elim
      | ok k ρ3 =>
        simp only [ha, R.bind_ok] at hh
        refine ap2_ok ok1 p2.sr v1' v2' ha fun F3 H3 z p3 v3 => ?_
        cases k with
        | own o => exact hh.elim
        | bor i => exact hh.elim
        | val d =>
          cases d with
          | bool b =>
            have v3 : Rp F3 (.bool b) z := v3
            cases v3
            refine ⟨b, rfl, ?_⟩
            have p13 := p1.trans (p2.trans p3)
            cases b with
            | false =>
              simp only [Bool.false_eq_true, if_false]
              exact hh F3 H3 _ p13 (.bl false)
            | true =>
              simp only [if_true]
              refine ⟨F3, ρ3, p3.sr, ?_⟩
              cases hk : h ρ3 with
              | bad => simp only [hk, R.bind_bad] at hh
              | exc c ρ4 => simp only [hk, R.bind_exc] at hh; exact fun F4 H4 p4 => hh F4 H4 (p13.trans p4)
              | ok z ρ4 =>
                simp only [hk, R.bind_ok] at hh
                intro F4 H4 zv p4 v4
                have p14 := p13.trans p4
                cases hb : ap2 b2 w z ρ4 with
                | bad => simp only [hb] at hh
                | exc c ρ5 => exact (ap2_exc hb).elim
                | ok k2 ρ5 =>
                  simp only [hb] at hh
                  have v2'' : VR H1 F4 H4 σ y w := v2.later p1.sr p2 (p3.trans p4)
                  refine ap2_ok (H0 := H1) ok2 p4.sr v2'' (v4.from fun a z => p2.ext.back (p3.ext.back z)) hb fun F5 H5 vv p5 v5 => ?_
                  exact hh F5 H5 vv (p14.trans p5) (v5.from fun a z => p14.ext.back z)
          | _ => exact hh.elim
theorem DE_chain {a b c : Expr} {op op' : CmpOp} {b1 b2 : Vw → Vw → Option RV} {r1 r2 : R2} (ho : OpR X (compareOp op) r1) (ho' : OpR X (compareOp op') r2) (ok1 : Ok2 b1 r1) (ok2 : Ok2 b2 r2) (ha : PE X a (tD Wx f)) (hb : PE X b (tD Wx g)) (hc : PE X c (tD Wx h))
    (hm : lastMarks [op, op'] [b, c] = false) : PE X (.Compare a [op, op'] [b, c] pos) (tD Wx (evChain b1 b2 f g h)) := PE.imp (pe_chain ho ho' ha hb hc hm) fun σ H Q q => chain_ok ok1 ok2 q
theorem DT_chain {a b c : Expr} {op op' : CmpOp} {b1 b2 : Vw → Vw → Option RV} {r1 r2 : R2} (ho : OpR X (compareOp op) r1) (ho' : OpR X (compareOp op') r2) (ok1 : Ok2 b1 r1) (ok2 : Ok2 b2 r2) (ha : PE X a (tD Wx f)) (hb : PE X b (tD Wx g)) (hc : PE X c (tD Wx h))
    (hm : lastMarks [op, op'] [b, c] = false) : PT X (.Compare a [op, op'] [b, c] pos) (tTs Wx (evT (evChain b1 b2 f g h))) := PT.imp (pt_chain ho ho' ha hb hc hm) fun σ H Q q => chain_ok ok1 ok2 (tD_bool q)
theorem DT_cmp {a b : Expr} {op : CmpOp} {bo : Vw → Vw → Option RV} {r : R2} (ho : OpR X (compareOp op) r) (ok : Ok2 bo r) (ha : PE X a (tD Wx f)) (hb : PE X b (tD Wx g)) (hm : behindInMarks op b = false) :
    PT X (.Compare a [op] [b] pos) (tTs Wx (evT fun ρ => (f ρ).bind fun u ρ1 => (g ρ1).bind fun w ρ2 => ap2 bo u w ρ2)) :=
  PT.imp (pt_cmpR ho ha hb hm) fun σ H Q q => fin2 ok (tD_bool q)

/-! ## isinstance -/
inductive TY where | int | bool | str | list | tuple | dict
  deriving DecidableEq
def TY.name : TY → String
  | .int => "int" | .bool => "bool" | .str => "str" | .list => "list" | .tuple => "tuple" | .dict => "dict"
def vwIs : Vw → TY → Bool
  | .d (.int _), .int => true
  | .d (.bool _), .int => true
  | .d (.bool _), .bool => true
  | .d (.str _), .str => true
  | .d (.list _), .list => true
  | .d (.tuple _), .tuple => true
  | .k _, .dict => true
  | .t _, .dict => true
  | .d (.dict _), .dict => true
  | _, _ => false
/-- no exception -/
def noExc : Vw → Bool
  | .d (.dict [(.none, _)]) => false
  | _ => true
def vwTy : Vw → String
  | .d .none => "NoneType"
  | .d (.bool _) => "bool"
  | .d (.int _) => "int"
  | .d (.str _) => "str"
  | .d (.list _) => "list"
  | .d (.tuple _) => "tuple"
  | .d (.dict _) => "dict"
  | .k _ => "dict"
  | .t _ => "dict"
theorem vw_ty {K : PySem.W.Frag} {F H : Hp} {v : V} {w : Vw} (s : Same F H) (h : VwR F H v w) (ne : noExc w = true) : TyOf K H v (.type (vwTy w)) := by
  cases w with
  | d d =>
    cases d with
    | none => cases h; exact .non
    | bool b => cases h; exact .bl b
    | int i => cases h; exact .int i
    | str x => cases h; exact .str x
    | list ds =>
      obtain ⟨a, vs, rfl, h, _⟩ := h
      rcases h with h | ⟨o, h⟩
      · exact .lst h
      · exact .frz h
    | tuple ds => cases h with
      | tup h r => exact .tup (s _ _ h)
    | dict kvs => cases h with
      | dk h r => exact .dK (s _ _ h)
      | exc h => cases ne
  | k kvs => obtain ⟨a, ks, rfl, e, _⟩ := h; exact .dK e
  | t kvs => obtain ⟨a, ks, rfl, e, _⟩ := h; exact .dT e
theorem kt_none (t : TY) : kitB "NoneType" t.name = some (vwIs (.d .none) t) := by cases t <;> decide +kernel
theorem kt_bool (t : TY) : kitB "bool" t.name = some (vwIs (.d (.bool true)) t) := by cases t <;> decide +kernel
theorem kt_int (t : TY) : kitB "int" t.name = some (vwIs (.d (.int 0)) t) := by cases t <;> decide +kernel
theorem kt_str (t : TY) : kitB "str" t.name = some (vwIs (.d (.str "")) t) := by cases t <;> decide +kernel
theorem kt_list (t : TY) : kitB "list" t.name = some (vwIs (.d (.list [])) t) := by cases t <;> decide +kernel
theorem kt_tuple (t : TY) : kitB "tuple" t.name = some (vwIs (.d (.tuple [])) t) := by cases t <;> decide +kernel
theorem kt_k (t : TY) : kitB "dict" t.name = some (vwIs (.k []) t) := by cases t <;> decide +kernel
theorem kt_t (t : TY) : kitB "dict" t.name = some (vwIs (.t []) t) := by cases t <;> decide +kernel
theorem vw_kit (w : Vw) (t : TY) : kitB (vwTy w) t.name = some (vwIs w t) := by
  cases w with
  | d d =>
    cases d with
    | dict kvs => cases t <;> exact kt_k _
    | none => cases t <;> exact kt_none _
    | bool b => cases t <;> exact kt_bool _
    | int i => cases t <;> exact kt_int _
    | str x => cases t <;> exact kt_str _
    | list ds => cases t <;> exact kt_list _
    | tuple ds => cases t <;> exact kt_tuple _
  | k kvs => cases t <;> exact kt_k _
  | t kvs => cases t <;> exact kt_t _
def bIsin (ts : List TY) (w : Vw) : Option RV := if noExc w = true then some (.val (.bool (ts.any fun t => vwIs w t))) else none
theorem boot_ty (t : TY) : bootBuiltins (Str.ofString t.name) = some (.type t.name) := by cases t <;> decide +kernel
theorem ty_nn (t : TY) : (Str.ofString t.name) ≠ ("__name__" : Str) ∧ ((Str.ofString t.name) == ("__debug__" : Str)) = false := by cases t <;> decide
theorem pe_ty {t : TY} {p : Pos} (hg : Gl X (Str.ofString t.name)) (hm : X.mg (Str.ofString t.name) = none) : PE X (.Name (Str.ofString t.name) p) (tC (.ty t.name)) :=
  pe_bltn hg hm (boot_ty t) rfl (ty_nn t).1 (ty_nn t).2
theorem boot_isinst : bootBuiltins "isinstance" = some (.builtin "isinstance") := by decide +kernel
theorem DE_isin1 {e : Expr} {t : TY} {p p1 pos : Pos} (hg : Gl X "isinstance") (hm : X.mg "isinstance" = none) (he : PE X e (tD Wx f)) (gt : Gl X (Str.ofString t.name)) (mt : X.mg (Str.ofString t.name) = none)
    (hs : starEach (e :: [.Name (Str.ofString t.name) p1]) X.env = (false, eval e X.env) :: starEach [.Name (Str.ofString t.name) p1] X.env) :
    PE X (.Call (.Name "isinstance" p) [e, .Name (Str.ofString t.name) p1] [] pos) (tD Wx fun ρ => (f ρ).bind fun u ρ1 => ap1 (bIsin [t]) u ρ1) := by
  refine PE.imp (pe_callB call_isi hg hm boot_isinst (pa_cons he (pa_cons (pe_ty gt mt) pa_nil rfl) hs) (by decide) (by decide) hs rfl) fun σ H Q h => ?_
  have h := fin1 (r := fun x H Q => ∃ w : Vw, TyOf X.K H x (.type (vwTy w)) ∧ Q (.bl (vwIs w t)) H) (fun F H x vx res Q s hx hb q => by
    unfold bIsin at hb
    split at hb
    · rename_i ne
      cases hb
      refine ⟨vx, vw_ty s.same hx ne, ?_⟩
      have := q _ _ (.old s (.bl _))
      simpa using this
    · cases hb) h
  obtain ⟨F, ρ, s, h⟩ := h
  refine ⟨F, ρ, s, ?_⟩
  cases hf : f ρ with
  | bad => simp only [hf] at h
  | exc c ρ1 => simp only [hf] at h; exact h
  | ok u ρ1 =>
    simp only [hf] at h
    intro F1 H1 x p1 v1
    obtain ⟨w, h1, q⟩ := h F1 H1 x p1 v1
    exact ⟨x, .ty t.name, _, _, vwIs w t, rfl, .ty _, .base h1, kit_ty (vw_kit w t), q⟩
theorem DE_isin2 {e : Expr} {t t2 : TY} {p p1 p2 p3 pos : Pos} {kk : Nat} (hg : Gl X "isinstance") (hm : X.mg "isinstance" = none) (he : PE X e (tD Wx f)) (gt : Gl X (Str.ofString t.name)) (mt : X.mg (Str.ofString t.name) = none) (gt2 : Gl X (Str.ofString t2.name)) (mt2 : X.mg (Str.ofString t2.name) = none)
    (hs : starEach (e :: [.Tuple [.Name (Str.ofString t.name) p1, .Name (Str.ofString t2.name) p2] kk p3]) X.env = (false, eval e X.env) :: starEach [.Tuple [.Name (Str.ofString t.name) p1, .Name (Str.ofString t2.name) p2] kk p3] X.env) :
    PE X (.Call (.Name "isinstance" p) [e, .Tuple [.Name (Str.ofString t.name) p1, .Name (Str.ofString t2.name) p2] kk p3] [] pos) (tD Wx fun ρ => (f ρ).bind fun u ρ1 => ap1 (bIsin [t, t2]) u ρ1) := by
  have ht : PE X (.Tuple [.Name (Str.ofString t.name) p1, .Name (Str.ofString t2.name) p2] kk p3) (tTup (tCons (tC (.ty t.name)) (tCons (tC (.ty t2.name)) tNil))) := pe_tup (pa_cons (pe_ty gt mt) (pa_cons (pe_ty gt2 mt2) pa_nil rfl) rfl)
  refine PE.imp (pe_callB call_isiT hg hm boot_isinst (pa_cons he (pa_cons ht pa_nil rfl) hs) (by decide) (by decide) hs rfl) fun σ H Q h => ?_
  have h := fin1 (r := fun x H Q => ∃ w : Vw, TyOf X.K H x (.type (vwTy w)) ∧ ∀ tp, H tp = none → TyOf X.K (upd H tp (.tup [.ty t.name, .ty t2.name])) x (.type (vwTy w)) ∧ Q (.bl (vwIs w t || vwIs w t2)) (upd H tp (.tup [.ty t.name, .ty t2.name]))) (fun F H x vx res Q s hx hb q => by
    have ne : noExc vx = true := by
      unfold bIsin at hb
      split at hb
      · assumption
      · cases hb
    have hb : some (RV.val (.bool ([t, t2].any fun t => vwIs vx t))) = some res := by
      unfold bIsin at hb
      rw [if_pos ne] at hb
      exact hb
    cases hb
    refine ⟨vx, vw_ty s.same hx ne, fun tp ntp => ⟨?_, ?_⟩⟩
    · have s2 : Same F (upd H tp (.tup [.ty t.name, .ty t2.name])) := s.same.trans (same_upd ntp)
      refine vw_ty s2 ?_ ne
      cases vx with
      | d d =>
        cases d with
        | list ds => obtain ⟨a, vs, e, h1, h2⟩ := hx; exact ⟨a, vs, e, Rd.same h1 (same_upd ntp), h2⟩
        | _ => exact hx
      | k kvs => obtain ⟨a, ks, e1, e2, e3⟩ := hx; exact ⟨a, ks, e1, same_upd ntp _ _ e2, e3⟩
      | t kvs => obtain ⟨a, ks, e1, e2, e3⟩ := hx; exact ⟨a, ks, e1, same_upd ntp _ _ e2, e3⟩
    · have := q (.bl (vwIs vx t || vwIs vx t2)) (upd H tp (.tup [.ty t.name, .ty t2.name])) ⟨same_upd ntp, F, .refl F, s.trans (same_upd ntp), fun _ _ _ h => h, by simpa using Rp.bl _⟩
      exact this) h
  obtain ⟨F, ρ, s, h⟩ := h
  refine ⟨F, ρ, s, ?_⟩
  cases hf : f ρ with
  | bad => simp only [hf] at h
  | exc c ρ1 => simp only [hf] at h; exact h
  | ok u ρ1 =>
    simp only [hf] at h
    intro F1 H1 x p1 v1
    obtain ⟨w, h1, q⟩ := h F1 H1 x p1 v1
    refine ⟨by show 2 ≤ sizeLine; decide, fun tp ntp => ?_⟩
    obtain ⟨h2, q⟩ := q tp ntp
    refine ⟨x, tp, _, _, [.type t.name, .type t2.name], vwIs w t || vwIs w t2, rfl, upd_same, .cons (.ty _) (.cons (.ty _) .nil), .base h2, ?_, q⟩
    refine kitAny_cons (kit_ty (vw_kit w t)) (fun e => ?_) (fun e => by rw [e]; rfl)
    refine kitAny_cons (kit_ty (vw_kit w t2)) (fun e2 => ?_) (fun e2 => by rw [e2, Bool.or_true])
    rw [e, e2]
    exact kitAny_nil

/-! ## builtins by name -/
theorem bi_boot (b : BI) : bootBuiltins (Str.ofString b.name) = some b.value := by cases b <;> decide +kernel
theorem bi_nn (b : BI) : (Str.ofString b.name) ≠ ("__name__" : Str) ∧ ((Str.ofString b.name) == ("__debug__" : Str)) = false := by cases b <;> decide
theorem DE_bi {b : BI} {e : Expr} {es : List Expr} {p : Pos} (hc : X.calm = true) (hu : X.A.units + 65 < cLine) (hg : Gl X (Str.ofString b.name)) (hm : X.mg (Str.ofString b.name) = none) (ha : PA X (e :: es) (tAr Wx fs)) (hs : starEach (e :: es) X.env = (false, eval e X.env) :: starEach es X.env)
    (hpl : (backTo pos (starEach es X.env)).any (·.1) = false) : PE X (.Call (.Name (Str.ofString b.name) p) (e :: es) [] pos) (tD Wx fun ρ => (fs ρ).bind fun us ρ1 => apN (bi b) us ρ1) := by
  obtain ⟨r, h1, h2⟩ := bi_ok (X := X) hc hu b
  have hv := bi_boot b
  have nn := bi_nn b
  have go : PE X (.Call (.Name (Str.ofString b.name) p) (e :: es) [] pos) (tCB r (tAr Wx fs)) := by
    cases b <;> first
      | exact pe_callB h1 hg hm hv ha nn.1 nn.2 hs hpl
      | exact pe_callTy h1 hg hm hv ha nn.1 nn.2 hs hpl
  exact PE.imp go fun σ H Q h => finN h2 h

/-! ## list(range(..)), tuple(range(..)) -/
theorem rgV_rep {F : Hp} (a b : Int) : Rps F ((rangeL a b).map .int) (rgV a b) := by
  unfold rangeL rgV
  rw [List.map_map]
  generalize List.range (b - a).toNat = l
  induction l with
  | nil => exact .nil
  | cons i l ih => exact .cons (.int _) ih
def rgOk (a b : Int) : Bool := decide (-(2 ^ 62) ≤ a ∧ a < 2 ^ 62 ∧ -(2 ^ 62) ≤ b ∧ b < 2 ^ 62 ∧ (b - a).toNat ≤ 2 ^ 24)
def bRng (t : Bool) (a b : Int) : Option RV := if rgOk a b = true then some (if t then .val (.tuple ((rangeL a b).map .int)) else .own (.lst ((rangeL a b).map .int))) else none
def bRng1 (t : Bool) : Vw → Option RV
  | .d (.int b) => bRng t 0 b
  | _ => none
def bRng2 (t : Bool) : Vw → Vw → Option RV
  | .d (.int a), .d (.int b) => bRng t a b
  | _, _ => none
theorem rng_new {F H : Hp} {t : Bool} {a b : Int} {res : RV} {Q : VK} (s : Sb F H) (h : bRng t a b = some res) (q : ∀ v H', NewR F H H' v res → Q v H') : RgOk a b ∧ ∀ p, H p = none → Q (.ref p) (upd H p (if t then .tup (rgV a b) else .lst (rgV a b))) := by
  unfold bRng at h
  split at h
  · rename_i hr
    cases h
    have hr' : -(2 ^ 62) ≤ a ∧ a < 2 ^ 62 ∧ -(2 ^ 62) ≤ b ∧ b < 2 ^ 62 ∧ (b - a).toNat ≤ 2 ^ 24 := of_decide_eq_true hr
    refine ⟨hr', fun p np => ?_⟩
    cases t with
    | true => exact q _ _ (.tup s np (rgV_rep a b))
    | false => exact q _ _ (.lst s np (rgV_rep a b))
  · cases h
theorem DE_rng1 {a : Expr} {t : Bool} {p p1 pos1 : Pos} (hc : X.calm = true) (hg : Gl X (Str.ofString (if t then "tuple" else "list"))) (hm : X.mg (Str.ofString (if t then "tuple" else "list")) = none) (gr : Gl X "range") (mr : X.mg "range" = none) (ha : PE X a (tD Wx f))
    (na : starEach [a] X.env = (false, eval a X.env) :: starEach [] X.env) :
    PE X (.Call (.Name (Str.ofString (if t then "tuple" else "list")) p) [.Call (.Name "range" p1) [a] [] pos1] [] pos) (tD Wx fun ρ => (f ρ).bind fun u ρ1 => ap1 (bRng1 t) u ρ1) := by
  have hr := prg_1 (pos := pos1) gr mr ha na (p := p1)
  have ok : Ok1 (bRng1 t) (fun x H Q => ∃ j, x = .int j ∧ RgOk 0 j ∧ ∀ p, H p = none → Q (.ref p) (upd H p (if t then .tup (rgV 0 j) else .lst (rgV 0 j)))) := by
    intro F H x vx res Q s hx hb q
    unfold bRng1 at hb
    split at hb
    · cases hx
      exact ⟨_, rfl, rng_new s hb q⟩
    · cases hb
  have conv : ∀ σ H Q, tD Wx (fun ρ => (f ρ).bind fun u ρ1 => ap1 (bRng1 t) u ρ1) σ H Q → tRg1 (tD Wx f) σ H fun a b H1 => RgOk a b ∧ ∀ p, H1 p = none → Q (.ref p) (upd H1 p (if t then .tup (rgV a b) else .lst (rgV a b))) := fun σ H Q h => fin1 ok h
  cases t with
  | true => exact PE.imp (pe_tupRg hc hg hm hr rfl) fun σ H Q h => conv σ H Q h
  | false => exact PE.imp (pe_listRg hc hg hm hr rfl) fun σ H Q h => conv σ H Q h
/-! ## sorted(set(tuple of ints)) -/
def uniq : List Int → List Int
  | [] => []
  | a :: l => if a ∈ l then uniq l else a :: uniq l
theorem mem_uniq {x : Int} : ∀ {l : List Int}, x ∈ uniq l ↔ x ∈ l
  | [] => Iff.rfl
  | a :: l => by
    unfold uniq
    split
    · rename_i h
      rw [mem_uniq, List.mem_cons]
      exact ⟨.inr, fun z => z.elim (fun e => by rw [e]; exact h) id⟩
    · rw [List.mem_cons, List.mem_cons, mem_uniq]
theorem nodup_uniq : ∀ l : List Int, (uniq l).Nodup
  | [] => .nil
  | a :: l => by
    unfold uniq
    split
    · exact nodup_uniq l
    · rename_i h
      exact List.nodup_cons.mpr ⟨fun z => h (mem_uniq.mp z), nodup_uniq l⟩
def sortU (l : List Int) : List Int := sortI (uniq l)
theorem sortU_eq {l m : List Int} (s : m.Pairwise (· < ·)) (e : ∀ k, k ∈ m ↔ k ∈ l) : m = sortU l := by
  refine sortI_eq ?_ (s.imp fun h => Int.le_of_lt h)
  have nd : m.Nodup := s.imp fun h => Int.ne_of_lt h
  exact (List.perm_ext_iff_of_nodup nd (nodup_uniq l)).2 fun k => (e k).trans mem_uniq.symm
def bSsort : Vw → Option RV
  | .d (.tuple ds) => match asInts ds with
    | some ns => if ns.length < 60 then some (.own (.lst ((sortU ns).map .int))) else none
    | none => none
  | _ => none
def rSetT (w : World) (K : PySem.W.Frag) : List V → Hp → VK → Prop := fun vs H Q => ∃ (a : Addr) (ns : List Int), vs = [V.ref a] ∧ SqT K H a (ns.map V.int) ∧ ns.length < 60 ∧
  ∀ p c, c ≤ ns.length → H p = none → Q (.ref p) (upd H p (SetO w p (fun j => decide (j ∈ ns)) c))
theorem cr_setT {X : Cx} (hc : X.calm = true) : CallR X (.type "set") (rSetT X.w X.K) := by
  intro pins s σ H vs us Q I r h
  obtain ⟨a, ns, rfl, hs, hn, q⟩ := h
  obtain ⟨its, rv, hl, _⟩ := I.tuple hs
  rw [Vals.ref1 r]
  refine call_set_tupI ns (I.ok.hd hc) hl (by simpa using rv.ints) (by unfold scanBound; omega) fun h' tk c R hcl hk => ?_
  exact ⟨.ref _, upd H s.heap.objs.size (SetO X.w s.heap.objs.size (fun j => decide (j ∈ ns)) c), I.laid (t' := tk) hk (Nat.le_refl _) (setO_new R), rfl, q _ c hcl (I.hok.fresh (Nat.le_refl _))⟩
theorem DE_ssort {a : Expr} {f : Env → R RV} {p p1 pos1 pos : Pos} (hc : X.calm = true) (hg : Gl X "sorted") (hm : X.mg "sorted" = none) (gs : Gl X "set") (ms : X.mg "set" = none) (ha : PE X a (tD Wx f))
    (na : starEach [a] X.env = (false, eval a X.env) :: starEach [] X.env) :
    PE X (.Call (.Name "sorted" p) [.Call (.Name "set" p1) [a] [] pos1] [] pos) (tD Wx fun ρ => (f ρ).bind fun u ρ1 => ap1 bSsort u ρ1) := by
  have inner : PE X (.Call (.Name "set" p1) [a] [] pos1) (tCB (rSetT X.w X.K) (tCons (tD Wx f) tNil)) := pe_callTy (cr_setT hc) gs ms (by decide +kernel) (pa_cons ha pa_nil na) (by decide) (by decide) na rfl
  have outer : PE X (.Call (.Name "sorted" p) [.Call (.Name "set" p1) [a] [] pos1] [] pos) (tCB (rSortedSet X.w) (tCons (tCB (rSetT X.w X.K) (tCons (tD Wx f) tNil)) tNil)) := pe_callB (cr_sortedSet hc) hg hm (by decide +kernel) (pa_cons inner pa_nil rfl) (by decide) (by decide) rfl rfl
  refine PE.imp outer fun σ H Q h => ?_
  have ok : Ok1 bSsort (fun x H Q => rSetT X.w X.K [x] H fun y H1 => rSortedSet X.w [y] H1 Q) := by
    intro F H x vx res Q s hx hb q
    unfold bSsort at hb
    split at hb
    · split at hb
      · rename_i ns e
        split at hb
        · rename_i hl
          cases hb
          have e := asInts_ok e
          subst e
          cases hx with
          | tup h2 r =>
            have ev := r.ints_eq
            subst ev
            refine ⟨_, ns, rfl, .inl (.inl (s.same _ _ h2)), hl, fun p c hcl np => ⟨p, fun j => decide (j ∈ ns), c, rfl, upd_same, by omega, fun ns' p2 st me len np2 => q _ _ ?_⟩⟩
            have hne : p2 ≠ p := fun z => by rw [z, upd_same] at np2; cases np2
            have nh : H p2 = none := by rw [upd_ne hne] at np2; exact np2
            rw [← sortU_eq (l := ns) st fun k => by rw [me k]; exact decide_eq_true_iff]
            exact ⟨(same_upd np).trans (same_upd np2), p2, rfl, .non nh, s.free nh, _, upd_same, .ints _⟩
        · cases hb
      · cases hb
    · cases hb
  exact fin1 ok h
theorem DE_rng2 {a b : Expr} {t : Bool} {p p1 pos1 : Pos} (hc : X.calm = true) (hg : Gl X (Str.ofString (if t then "tuple" else "list"))) (hm : X.mg (Str.ofString (if t then "tuple" else "list")) = none) (gr : Gl X "range") (mr : X.mg "range" = none) (ha : PE X a (tD Wx f)) (hb : PE X b (tD Wx g))
    (na : starEach [a, b] X.env = (false, eval a X.env) :: starEach [b] X.env) (nb : starEach [b] X.env = (false, eval b X.env) :: starEach [] X.env) (hp : (backTo pos1 (starEach [b] X.env)).any (·.1) = false) :
    PE X (.Call (.Name (Str.ofString (if t then "tuple" else "list")) p) [.Call (.Name "range" p1) [a, b] [] pos1] [] pos) (tD Wx fun ρ => (f ρ).bind fun u ρ1 => (g ρ1).bind fun w ρ2 => ap2 (bRng2 t) u w ρ2) := by
  have hr := prg_2 (pos := pos1) gr mr ha hb na nb hp (p := p1)
  have ok : Ok2 (bRng2 t) (fun x y H Q => ∃ i j, x = .int i ∧ y = .int j ∧ RgOk i j ∧ ∀ p, H p = none → Q (.ref p) (upd H p (if t then .tup (rgV i j) else .lst (rgV i j)))) := by
    intro F H x y vx vy res Q s hx hy hb q
    unfold bRng2 at hb
    split at hb
    · cases hx; cases hy
      exact ⟨_, _, rfl, rfl, rng_new s hb q⟩
    · cases hb
  have conv : ∀ σ H Q, tD Wx (fun ρ => (f ρ).bind fun u ρ1 => (g ρ1).bind fun w ρ2 => ap2 (bRng2 t) u w ρ2) σ H Q → tRg2 (tD Wx f) (tD Wx g) σ H fun a b H1 => RgOk a b ∧ ∀ p, H1 p = none → Q (.ref p) (upd H1 p (if t then .tup (rgV a b) else .lst (rgV a b))) := fun σ H Q h => fin2 ok h
  cases t with
  | true => exact PE.imp (pe_tupRg hc hg hm hr rfl) fun σ H Q h => conv σ H Q h
  | false => exact PE.imp (pe_listRg hc hg hm hr rfl) fun σ H Q h => conv σ H Q h
end
end BX

set_option Elab.async false
set_option linter.all false
set_option maxRecDepth 100000
set_option maxHeartbeats 4000000
namespace BX
open PySem PySem.Spec PyProof.Rows L2 RZ
variable [Tbs]

/-! ## methods that leave their receiver -/
inductive MT where | get | index | count | join | split | partition
  deriving DecidableEq
def MT.ty : MT → String
  | .get => "dict" | .index => "list" | .count => "list" | .join => "str" | .split => "str" | .partition => "str"
def mtGet (w : Vw) (ws : List Vw) : Option RV := match w with
  | .k kvs => match ws with
    | [.d a, .d b] => if scal b = true then match toKey a with
      | some k => some (.val ((lk kvs k).getD b))
      | none => none else none
    | _ => none
  | .t kvs => match ws with
    | [.d (.tuple a), .d b] => if scal b = true then match toKeys a with
      | some k => some (.val ((lk kvs k).getD b))
      | none => none else none
    | _ => none
  | _ => none
def mtIndex (w : Vw) (ws : List Vw) : Option RV := match w with
  | .d (.list ds) => match ws with
    | [.d a] => if SeqAt.shaped (.list ds) = true ∧ SeqAt.shaped a = true then (ds.findIdx? fun z => PyData.eqv z a).map fun (i : Nat) => .val (.int (i : Int)) else none
    | _ => none
  | _ => none
def mtCount (w : Vw) (ws : List Vw) : Option RV := match w with
  | .d (.list ds) => match ws with
    | [.d (.int a)] => (asInts ds).map fun ns => .val (.int (ns.count a : Nat))
    | _ => none
  | _ => none
def mtJoin (w : Vw) (ws : List Vw) : Option RV := match w with
  | .d (.str a) => match ws with
    | [.d (.list ds)] => match asStrs ds with
      | some ys => if (ys.map (·.length)).sum + ys.length * a.length ≤ 16777216 then some (.val (.str (Txt.join a ys))) else none
      | none => none
    | _ => none
  | _ => none
def mtSplit (w : Vw) (ws : List Vw) : Option RV := match w with
  | .d (.str a) => match ws with
    | [.d (.str b)] => if (b.length == 0) = false ∧ a.length + 2 ≤ sizeLine then some (.own (.lst ((Txt.split a b).map .str))) else none
    | _ => none
  | _ => none
def mtPart (w : Vw) (ws : List Vw) : Option RV := match w with
  | .d (.str a) => match ws with
    | [.d (.str b)] => if (b.length == 0) = false ∧ a.length ≤ sizeLine then some (.val (.tuple [.str (Txt.partition a b).1, .str (Txt.partition a b).2.1, .str (Txt.partition a b).2.2])) else none
    | _ => none
  | _ => none
def mtF : MT → Vw → List Vw → Option RV
  | .get => mtGet | .index => mtIndex | .count => mtCount | .join => mtJoin | .split => mtSplit | .partition => mtPart
def OkM (b : Vw → List Vw → Option RV) (r : V → List V → Hp → VK → Prop) : Prop := ∀ F H x w vs ws res (Q : VK), Sb F H → VwR F H x w → VwRs F H vs ws → b w ws = some res → (∀ v H', NewR F H H' v res → Q v H') → r x vs H Q
section
variable {X : Cx}
def rGet2 : V → List V → Hp → VK → Prop := fun x vs H Q => ∃ a y z o, x = .ref a ∧ vs = [y, z] ∧ DGet H a y o ∧ Q (o.getD z) H
theorem mt_get2 (hu : X.A.units + 1 < cLine) : MtR X "dict.get" rGet2 := by
  intro pins s σ H x xs v us Q I rx rv h
  obtain ⟨a, y, z, o, rfl, rfl, g, q⟩ := h
  cases rx
  obtain ⟨u1, u2, rfl, r1, r2⟩ := rv.two
  exact d_get2 hu I g r1 r2 fun w' s4 I4 rw' => ⟨_, H, I4, rw', q⟩
theorem getD_rp {κ : Type} [DecidableEq κ] {F : Hp} {k : κ} {ds : List (κ × D)} {vs : List (κ × V)} {b : D} {z : V} (r : KR F ds vs) (hb : Rp F b z) : Rp F ((lk ds k).getD b) ((valV vs k).getD z) := by
  obtain ⟨h1, h2⟩ := r.lk k
  cases e : lk ds k with
  | none => rw [h2 e]; exact hb
  | some d => obtain ⟨v, e2, r2⟩ := h1 d e; rw [e2]; exact r2
theorem ok_get : OkM mtGet rGet2 := by
  intro F H x w vs ws res Q s hx hv h q
  unfold mtGet at h
  split at h
  · split at h <;> try cases h
    split at h <;> try cases h
    rename_i hsc
    split at h <;> try cases h
    rename_i k hk
    obtain ⟨a, ks, rfl, e, r⟩ := hx
    cases hv with
    | cons h1 hv =>
      cases hv with
      | cons h2 hv =>
        cases hv
        have r2 := scal_any (F' := F) hsc (h2.whole s.same)
        exact ⟨a, _, _, _, rfl, rfl, .inl ⟨_, k, .inl e, toKey_ok hk (h1.whole s.same), rfl⟩, q _ _ (.old s (getD_rp r r2))⟩
  · split at h <;> try cases h
    split at h <;> try cases h
    rename_i hsc
    split at h <;> try cases h
    rename_i k hk
    obtain ⟨a, ks, rfl, e, r⟩ := hx
    cases hv with
    | cons h1 hv =>
      cases hv with
      | cons h2 hv =>
        cases hv
        have r2 := scal_any (F' := F) hsc (h2.whole s.same)
        cases h1 with
        | tup h1 r1 =>
          have ek := toKeys_ok hk r1
          subst ek
          exact ⟨a, _, _, _, rfl, rfl, .inr ⟨_, k, _, .inl e, rfl, s.same _ _ h1, rfl⟩, q _ _ (.old s (getD_rp r r2))⟩
  · cases h
theorem ok_index : OkM mtIndex (rIndexD X.K) := by
  intro F H x w vs ws res Q s hx hv h q
  unfold mtIndex at h
  split at h <;> try cases h
  split at h <;> try cases h
  split at h <;> try cases h
  rename_i hc
  obtain ⟨i, e, rfl⟩ := Option.map_eq_some_iff.mp h
  cases hv with
  | cons h1 hv =>
    cases hv
    obtain ⟨hlt, h3, h4⟩ := List.findIdx?_eq_some_iff_getElem.mp e
    have hx' := hx.whole s.same
    obtain ⟨a, us, rfl, _⟩ := hx
    refine ⟨a, _, _, _, i, _, rfl, rfl, hx'.dp (shaped_lay hc.1), (h1.whole s.same).dp (shaped_lay hc.2), hc.1, hc.2, List.getElem?_eq_getElem hlt, h3, fun m z' hm e' => ?_, q _ _ (.old s (.int _))⟩
    have hml : m < _ := Nat.lt_trans hm hlt
    rw [List.getElem?_eq_getElem hml] at e'
    cases e'
    simpa using h4 m hm
theorem ok_count : OkM mtCount (rCntI X.K) := by
  intro F H x w vs ws res Q s hx hv h q
  unfold mtCount at h
  split at h <;> try cases h
  split at h <;> try cases h
  obtain ⟨ns, e, rfl⟩ := Option.map_eq_some_iff.mp h
  have e := asInts_ok e
  subst e
  obtain ⟨a, us, rfl, h2, r⟩ := hx
  have ev := r.ints_eq
  subst ev
  cases hv with
  | cons h1 hv =>
    cases hv
    cases h1
    exact ⟨a, ns, _, rfl, rfl, .inl h2, q _ _ (.old s (.int _))⟩
abbrev rJoin (K : PySem.W.Frag) : V → List V → Hp → VK → Prop := fun x xs H Q => ∃ a p, ∃ ys : List Str, x = .str a ∧ xs = [.ref p] ∧ (SqL K H p (ys.map V.str) ∨ SqT K H p (ys.map V.str)) ∧
    (ys.map (·.length)).sum + ys.length * a.length ≤ 16777216 ∧ Q (.str (Txt.join a ys)) H
theorem ok_join : OkM mtJoin (rJoin X.K) := by
  intro F H x w vs ws res Q s hx hv h q
  unfold mtJoin at h
  split at h <;> try cases h
  split at h <;> try cases h
  split at h <;> try cases h
  rename_i ys e
  split at h <;> try cases h
  rename_i hz
  have e := asStrs_ok e
  subst e
  cases hx
  cases hv with
  | cons h1 hv =>
    cases hv
    obtain ⟨a, us, rfl, h2, r⟩ := h1
    have ev := r.strs_eq
    subst ev
    exact ⟨_, a, ys, rfl, rfl, .inl (.inl h2), hz, q _ _ (.old s (.str _))⟩
theorem ok_split : OkM mtSplit (fun x xs H Q => ∃ a b, x = .str a ∧ xs = [.str b] ∧ (b.length == 0) = false ∧ a.length + 2 ≤ sizeLine ∧ rNewStrs (Txt.split a b) H Q) := by
  intro F H x w vs ws res Q s hx hv h q
  unfold mtSplit at h
  split at h <;> try cases h
  split at h <;> try cases h
  split at h <;> try cases h
  rename_i hz
  cases hx
  cases hv with
  | cons h1 hv =>
    cases hv
    cases h1
    exact ⟨_, _, rfl, rfl, hz.1, hz.2, fun p np => q _ _ (.lst s np (.strs _))⟩
theorem ok_part : OkM mtPart (fun x xs H Q => ∃ a b, x = .str a ∧ xs = [.str b] ∧ (b.length == 0) = false ∧ a.length ≤ sizeLine ∧
    ∀ p, H p = none → Q (.ref p) (upd H p (.tup [.str (Txt.partition a b).1, .str (Txt.partition a b).2.1, .str (Txt.partition a b).2.2]))) := by
  intro F H x w vs ws res Q s hx hv h q
  unfold mtPart at h
  split at h <;> try cases h
  split at h <;> try cases h
  split at h <;> try cases h
  rename_i hz
  cases hx
  cases hv with
  | cons h1 hv =>
    cases hv
    cases h1
    exact ⟨_, _, rfl, rfl, hz.1, hz.2, fun p np => q _ _ (.tup s np (.cons (.str _) (.cons (.str _) (.cons (.str _) .nil))))⟩
end
def mtTyOk (m : MT) (w : Vw) : Bool := match m.ty, w with
  | "dict", .k _ => true
  | "dict", .t _ => true
  | "list", .d (.list _) => true
  | "str", .d (.str _) => true
  | _, _ => false
def apM (m : MT) (u : RV) (rs : List RV) (ρ : Env) : R RV := match viewRV ρ u, viewRVs ρ rs with
  | some w, some ws => match mtF m w ws with
    | some r => .ok r ρ
    | none => .bad
  | _, _ => .bad
def tyOkR (m : MT) (u : RV) (ρ : Env) : Bool := match viewRV ρ u with
  | some w => mtTyOk m w
  | none => false
def evMt (m : MT) (f : Env → R RV) (fs : Env → R (List RV)) (ρ : Env) : R RV := (f ρ).bind fun u ρ1 => if tyOkR m u ρ1 = true then (fs ρ1).bind fun rs ρ2 => apM m u rs ρ2 else .bad
theorem mtTy_ok {m : MT} {K : PySem.W.Frag} {F H : Hp} {x : V} {w : Vw} (h : mtTyOk m w = true) (hx : VwR F H x w) : tyV K m.ty x H := by
  cases m <;> cases w <;> (try (rename_i d; cases d)) <;> first
    | exact absurd (show false = true from h) Bool.false_ne_true
    | (obtain ⟨a, vs, rfl, h1, _⟩ := hx; exact .inl ⟨rfl, vs, .inl h1⟩)
    | (cases hx; rfl)
    | (obtain ⟨a, ks, rfl, e, _⟩ := hx; exact .inr (.inr (.inl ⟨rfl, .inl ⟨ks, e⟩⟩)))
    | (obtain ⟨a, ks, rfl, e, _⟩ := hx; exact .inr (.inr (.inl ⟨rfl, .inr ⟨ks, e⟩⟩)))
theorem mt_fin {Wx : XW} {m : MT} {f : Env → R RV} {fs : Env → R (List RV)} {K : PySem.W.Frag} {r : V → List V → Hp → VK → Prop} (ok : OkM (mtF m) r) {σ : St} {H : Hp} {Q : VK} (h : tD Wx (evMt m f fs) σ H Q) : tBM K m.ty r (tD Wx f) (tAr Wx fs) σ H Q := by
  obtain ⟨F, ρ, s, h⟩ := h
  refine ⟨F, ρ, s, ?_⟩
  unfold evMt at h
  cases hf : f ρ with
  | bad => simp only [hf, R.bind_bad] at h
  | exc c ρ1 => simp only [hf, R.bind_exc] at h; exact h
  | ok u ρ1 =>
    simp only [hf, R.bind_ok] at h
    intro F1 H1 x p1 v1
    by_cases ht : tyOkR m u ρ1 = true
    · simp only [if_pos ht] at h
      unfold tyOkR at ht
      cases hw0 : viewRV ρ1 u with
      | none => simp only [hw0] at ht; cases ht
      | some w0 =>
        simp only [hw0] at ht
        refine ⟨mtTy_ok ht (view_ok p1.sr v1 hw0), F1, ρ1, p1.sr, ?_⟩
        cases hg : fs ρ1 with
        | bad => simp only [hg, R.bind_bad] at h
        | exc c ρ2 => simp only [hg, R.bind_exc] at h; exact fun F2 H2 p2 => h F2 H2 (p1.trans p2)
        | ok rs ρ2 =>
          simp only [hg, R.bind_ok] at h
          intro F2 H2 vs p2 v2
          unfold apM at h
          cases hw : viewRV ρ2 u with
          | none => simp only [hw] at h
          | some w =>
            cases hws : viewRVs ρ2 rs with
            | none => simp only [hw, hws] at h
            | some ws =>
              cases hr : mtF m w ws with
              | none => simp only [hw, hws, hr] at h
              | some res =>
                simp only [hw, hws, hr] at h
                refine ok F2 H2 x w vs ws res Q p2.sr.sub (view_ok p2.sr (v1.later s p1 p2) hw) (views_ok p2.sr v2 hws) hr fun v H3 n => ?_
                obtain ⟨F3, p3, r3⟩ := n.post p2.sr
                exact h F3 H3 v (p1.trans (p2.trans p3)) (r3.from fun a z => p1.ext.back (p2.ext.back z))
    · simp only [if_neg ht] at h
/-- what a method call asks of its arguments' syntax -/
structure MSyn (X : Cx) (o : Expr) (name : Str) (apos : Pos) (e : Expr) (es : List Expr) (cpos : Pos) : Prop where
  base : attributeBase o name X.env (eval o X.env) = eval o X.env
  few : ((backTo cpos (starEach (e :: es) X.env)).all (fun x => !x.1) && (backToKw cpos (keywordEach [] X.env)).all (fun x => x.1.isSome)
      && decide ((e :: es).length + ([] : List Keyword).length + (if ([] : List Keyword).isEmpty then 0 else 1) < 30)) = true
  line : (apos.endLine == cpos.line) = true
  star : starEach (e :: es) X.env = (false, eval e X.env) :: starEach es X.env
  plain : (backTo cpos (starEach es X.env)).any (·.1) = false
section
variable {X : Cx} {Wx : XW} {o e : Expr} {es : List Expr} {f : Env → R RV} {fs : Env → R (List RV)} {apos cpos : Pos}
def MT.nm : MT → String
  | .get => "get" | .index => "index" | .count => "count" | .join => "join" | .split => "split" | .partition => "partition"
theorem DE_mt {m : MT} (hu : X.A.units + 65 < cLine) (ho : PE X o (tD Wx f)) (ha : PA X (e :: es) (tAr Wx fs)) (S : MSyn X o (Str.ofString m.nm) apos e es cpos) : PE X (.Call (.Attribute o (Str.ofString m.nm) apos) (e :: es) [] cpos) (tD Wx (evMt m f fs)) := by
  cases m with
  | get => exact PE.imp (pe_bm PySem.F.plainAttrs_dict PySem.F.slot_dict_get PySem.F.type_dict_get (mt_get2 (by omega)) ho ha S.base S.few S.line S.star S.plain) fun σ H Q h => mt_fin (m := .get) ok_get h
  | index => exact PE.imp (pe_bm PySem.F.plainAttrs_list PySem.F.slot_list_index PySem.F.type_list_index (mt_indexD hu) ho ha S.base S.few S.line S.star S.plain) fun σ H Q h => mt_fin (m := .index) ok_index h
  | count => exact PE.imp (pe_bm PySem.F.plainAttrs_list PySem.F.slot_list_count PySem.F.type_list_count mt_lcount ho ha S.base S.few S.line S.star S.plain) fun σ H Q h => mt_fin (m := .count) ok_count h
  | join => exact PE.imp (pe_bm PySem.F.plainAttrs_str PySem.F.slot_str_join PySem.F.type_str_join mt_join ho ha S.base S.few S.line S.star S.plain) fun σ H Q h => mt_fin (m := .join) ok_join h
  | split => exact PE.imp (pe_bm PySem.F.plainAttrs_str PySem.F.slot_str_split PySem.F.type_str_split mt_split ho ha S.base S.few S.line S.star S.plain) fun σ H Q h => mt_fin (m := .split) ok_split h
  | partition => exact PE.imp (pe_bm PySem.F.plainAttrs_str PySem.F.slot_str_partition PySem.F.type_str_partition mt_partition ho ha S.base S.few S.line S.star S.plain) fun σ H Q h => mt_fin (m := .partition) ok_part h
theorem DE_mu {m : MU} {nm : String} (hn : nm = (match m with | .append => "append" | .extend => "extend" | _ => "pop")) (hm : m ≠ .pop) (ho : PE X o (tD Wx f)) (ha : PA X (e :: es) (tAr Wx fs)) (S : MSyn X o (Str.ofString nm) apos e es cpos) :
    PE X (.Call (.Attribute o (Str.ofString nm) apos) (e :: es) [] cpos) (tD Wx (muEv m f fs)) := by
  subst hn
  cases m with
  | append => exact PE.imp (pe_bm PySem.F.plainAttrs_list PySem.F.slot_list_append PySem.F.type_list_append mt_append ho ha S.base S.few S.line S.star S.plain) fun σ H Q h => mu_fin (m := .append) mu_append h
  | extend => exact PE.imp (pe_bm PySem.F.plainAttrs_list PySem.F.slot_list_extend PySem.F.type_list_extend mt_extA ho ha S.base S.few S.line S.star S.plain) fun σ H Q h => mu_fin (m := .extend) mu_extend h
  | pop => exact absurd rfl hm
  | lpop => exact PE.imp (pe_bm PySem.F.plainAttrs_list PySem.F.slot_list_pop PySem.F.type_list_pop mt_popAt ho ha S.base S.few S.line S.star S.plain) fun σ H Q h => mu_fin (m := .lpop) mu_lpop h
  | dpop => exact PE.imp (pe_bm PySem.F.plainAttrs_dict PySem.F.slot_dict_pop PySem.F.type_dict_pop mt_dpop ho ha S.base S.few S.line S.star S.plain) fun σ H Q h => mu_fin (m := .dpop) mu_dpop h
theorem DE_pop (ho : PE X o (tD Wx f)) (hb : attributeBase o "pop" X.env (eval o X.env) = eval o X.env) (hl : (apos.endLine == cpos.line) = true) : PE X (.Call (.Attribute o "pop" apos) [] [] cpos) (tD Wx (muEv .pop f evNil)) := by
  refine PE.imp (pe_bm0 PySem.F.plainAttrs_list PySem.F.slot_list_pop PySem.F.type_list_pop mt_pop ho hb hl) fun σ H Q h => ?_
  have h := mu_fin (K := X.K) (m := .pop) mu_pop h
  obtain ⟨F, ρ, s, h⟩ := h
  refine ⟨F, ρ, s, ?_⟩
  cases hf : f ρ with
  | bad => simp only [hf] at h
  | exc c ρ1 => simp only [hf] at h; exact h
  | ok u ρ1 =>
    simp only [hf] at h
    intro F1 H1 x p1 v1
    obtain ⟨ty, F2, ρ2, s2, q⟩ := h F1 H1 x p1 v1
    exact ⟨ty, q F2 H1 [] (.refl s2) .nil⟩
end
end BX

set_option Elab.async false
set_option linter.all false
set_option maxRecDepth 100000
set_option maxHeartbeats 4000000
namespace BX
open PySem PySem.Spec PyProof.Rows L2 RZ
variable [Tbs]

/-! ## isinstance of an exception's object -/
/-- what the class of an exception answers of another class -/
def IsaK (K : PySem.W.Frag) (mg : Str → Option Value) (c y : Str) (b : Bool) : Prop := ∃ (D : Addr) (cv : Value), Tbs.cls c = .ref D ∧ ExcC K D ∧ (y == ("__debug__" : Str)) = false ∧ (mg y = some cv ∨ (mg y = none ∧ bootBuiltins y = some cv ∧ y ≠ "__name__")) ∧ ((∃ C, cv = .ref C) ∨ ∃ n, cv = .type n) ∧ PySem.W.kitOne K (.ref D) cv = some b
abbrev Isa (X : Cx) (c y : Str) (b : Bool) : Prop := IsaK X.K X.mg c y b
def rIsX (K : PySem.W.Frag) (cv : Value) : List V → Hp → VK → Prop := fun xs H Q => ∃ (a D : Addr) (v : V) (b : Bool), xs = [.ref a, v] ∧ (∀ u, RelV v u → u = cv) ∧ H a = some (ExT (.ref D) a) ∧ ExcC K D ∧ PySem.W.kitOne K (.ref D) cv = some b ∧ Q (.bl b) H
theorem call_isX {X : Cx} {cv : Value} : CallR X (.builtin "isinstance") (rIsX X.K cv) := by
  intro pins s σ H xs us Q I r h
  obtain ⟨a, D, v, b, rfl, hcv, ha, C, e, q⟩ := h
  cases r with
  | cons r1 r =>
    cases r with
    | cons r2 r =>
      cases r
      cases r1
      have ec := hcv _ r2
      subst ec
      obtain ⟨⟨oe, vs, h1, h2, h3⟩, _, _⟩ := I.hok a _ ha
      have J : PySem.W.InstAt s.heap a oe D none := by
        obtain ⟨oc, od, oda, osl⟩ := oe
        obtain ⟨z1, z2⟩ := h2
        dsimp only at z1 z2 h3
        subst z1 z2 h3
        exact ⟨h1, rfl, rfl, trivial⟩
      exact PySem.W.kia_one (PySem.W.handS_kitx_exc C.hg C.hk C.hs C.hd C.ha C.hn C.ht C.hm) I.kIn J e (fun z => nomatch z) fun t => ⟨.bl b, H, I.kept (t' := t) fun _ _ z => z, rfl, q⟩
theorem Rp.excI {F : Hp} {c : Str} {x : V} (h : Rp F (.dict [(.none, .str c)]) x) : ∃ a, x = .ref a ∧ F a = some (ExT (Tbs.cls c) a) := by
  generalize hd : PyData.dict [(.none, .str c)] = d at h
  cases h with
  | @dk a ks kvs z r =>
    cases r with
    | nil => cases hd
    | @cons k _ _ _ _ _ _ =>
      cases k with
      | inl i => cases hd
      | inr y => cases hd
  | @exc a c' z => cases hd; exact ⟨a, rfl, z⟩
  | _ => cases hd
def bIsE (tab : List (Str × Bool)) : Vw → Option RV
  | .d (.dict [(.none, .str c)]) => (tab.lookup c).map fun b => .val (.bool b)
  | _ => none
section
variable {X : Cx} {Wx : XW} {f : Env → R RV}
theorem pe_cls {y : Str} {p : Pos} {cv : Value} (hg : Gl X y) (hd : (y == ("__debug__" : Str)) = false) (hm : X.mg y = some cv ∨ (X.mg y = none ∧ bootBuiltins y = some cv ∧ y ≠ "__name__")) (hr : (∃ C, cv = .ref C) ∨ ∃ n, cv = .type n) :
    ∃ v : V, (∀ u, RelV v u → u = cv) ∧ PE X (.Name y p) (tC v) := by
  have key : ∃ v : V, RelV v cv ∧ ∀ u, RelV v u → u = cv := by
    rcases hr with ⟨C, rfl⟩ | ⟨n, rfl⟩
    · exact ⟨.ref C, rfl, fun u h => h⟩
    · exact ⟨.ty n, rfl, fun u h => h⟩
  obtain ⟨v, k1, k2⟩ := key
  rcases hm with hm | ⟨hm, hb, hn⟩
  · exact ⟨v, k2, pe_glob hg hm k1 hd⟩
  · exact ⟨v, k2, pe_bltn hg hm hb k1 hn hd⟩
theorem DE_isE {e : Expr} {y : Str} {p p1 pos : Pos} {tab : List (Str × Bool)} (hg : Gl X "isinstance") (hm : X.mg "isinstance" = none) (he : PE X e (tD Wx f)) (gy : Gl X y) (hne : ∃ c b, tab.lookup c = some b) (hy : ∀ c b, tab.lookup c = some b → Isa X c y b)
    (hs : starEach (e :: [.Name y p1]) X.env = (false, eval e X.env) :: starEach [.Name y p1] X.env) :
    PE X (.Call (.Name "isinstance" p) [e, .Name y p1] [] pos) (tD Wx fun ρ => (f ρ).bind fun u ρ1 => ap1 (bIsE tab) u ρ1) := by
  obtain ⟨c0, b0, h0⟩ := hne
  obtain ⟨D0, cv, _, _, hd, hmy, hr, _⟩ := hy c0 b0 h0
  obtain ⟨v, hv, pv⟩ := pe_cls (p := p1) gy hd hmy hr
  have same : ∀ c b, tab.lookup c = some b → ∃ D, Tbs.cls c = .ref D ∧ ExcC X.K D ∧ PySem.W.kitOne X.K (.ref D) cv = some b := fun c b h => by
    obtain ⟨D, cv', e1, e2, _, e3, _, e4⟩ := hy c b h
    have : cv' = cv := by
      rcases e3 with e3 | ⟨e3, e5, _⟩
      · rcases hmy with z | ⟨z, _, _⟩
        · rw [z] at e3; exact (Option.some.inj e3).symm
        · rw [z] at e3; cases e3
      · rcases hmy with z | ⟨_, z, _⟩
        · rw [z] at e3; cases e3
        · rw [z] at e5; exact (Option.some.inj e5).symm
    subst this
    exact ⟨D, e1, e2, e4⟩
  refine PE.imp (pe_callB (call_isX (cv := cv)) hg hm boot_isinst (pa_cons he (pa_cons pv pa_nil rfl) hs) (by decide) (by decide) hs rfl) fun σ H Q h => ?_
  have h := fin1 (r := fun x H Q => ∃ (a D : Addr) (b : Bool), x = .ref a ∧ H a = some (ExT (.ref D) a) ∧ ExcC X.K D ∧ PySem.W.kitOne X.K (.ref D) cv = some b ∧ Q (.bl b) H) (fun F H x vx res Q s hx hb q => by
    unfold bIsE at hb
    split at hb
    · rename_i c
      obtain ⟨b, e1, rfl⟩ := Option.map_eq_some_iff.mp hb
      obtain ⟨D, d1, d2, d3⟩ := same c b e1
      have hx : Rp F (.dict [(.none, .str c)]) x := hx
      obtain ⟨a, rfl, z⟩ := hx.excI
      exact ⟨_, D, b, rfl, by rw [← d1]; exact s.same _ _ z, d2, d3, q _ _ (.old s (.bl _))⟩
    · cases hb) h
  obtain ⟨F, ρ, s, h⟩ := h
  refine ⟨F, ρ, s, ?_⟩
  cases hf : f ρ with
  | bad => simp only [hf] at h
  | exc c ρ1 => simp only [hf] at h; exact h
  | ok u ρ1 =>
    simp only [hf] at h
    intro F1 H1 x p1 v1
    obtain ⟨a, D, b, rfl, d1, d2, d3, q⟩ := h F1 H1 x p1 v1
    exact ⟨a, D, v, b, rfl, hv, d1, d2, d3, q⟩
end
end BX

set_option Elab.async false
set_option linter.all false
set_option maxRecDepth 100000
set_option maxHeartbeats 4000000
namespace BX
open PySem PySem.Spec PyProof.Rows L2 RZ
variable [Tbs]

/-! ## try .. except X as n: its exception is known behind the suite -/
section
variable {X : Cx} {pins pn' : List (Addr × Obj)} {σ : St} {H : Hp} {s : Shared}
theorem track {a : Addr} {oe : Obj} {vs : Array Value} {cls : Value} (S : Inv (X.suite a ((a, oe) :: (X.pn ++ pins))) pn' σ H s) (ok : X.Ok) (nb : ∀ o, X.s_0.heap.get? a = some o → X.H_0 a ≠ none) (np : ∀ p ∈ X.pn ++ pins, p.1 ≠ a)
    (nL : a ≠ X.env.locals) (hz : Zc cls none oe) (hd : oe.data = .fields vs) : Inv X pins σ (upd H a (ExT cls a)) s := by
  obtain ⟨ha, na, _, _, _⟩ := S.pin (a, oe) (List.mem_append_left _ List.mem_cons_self)
  have ha : s.heap.get? a = some oe := ha
  have na : H a = none := na
  have at_ : ∀ {b : Addr} {u : HO}, H b = some u → upd H a (ExT cls a) b = some u := fun {b u} e => (upd_ne (ne_of_none e na)).trans e
  have un := S.base
  refine ⟨ok, S.os, S.bare, ⟨un.keep, un.slot, fun b o e n q => ?_, un.there, fun b xs e => at_ (un.tups b xs e), fun b o u e => at_ (un.frzs b o u e), fun b ps e => ?_⟩, S.loc, S.cell, ?_, fun x c e => ?_, fun p hp => ?_, ?_, S.len⟩
  · have hb : b ≠ a := fun z => by subst z; exact nb o e n
    exact (upd_ne hb).trans (un.free b o e n q)
  · obtain ⟨more, z⟩ := un.tbls b ps e
    exact ⟨more, at_ z⟩
  · exact (upd_ne (Ne.symm nL)).trans S.free
  · have hc : c ≠ a := fun z => by
      obtain ⟨v, o, h1, h2⟩ := S.cell x c e
      rw [z, ha] at h1
      cases h1
      rw [hd] at h2
      cases h2
    exact (upd_ne hc).trans (S.freeC x c e)
  · obtain ⟨h1, h2, h3, h4, h5⟩ := S.pin p (List.mem_append_left _ (List.mem_cons_of_mem _ hp))
    exact ⟨h1, (upd_ne (np p hp)).trans h2, h3, h4, h5⟩
  · exact S.hok.laidN (fun _ _ z => z) na (exT_ok ha hz hd)
end
/-- what 'except x as n: suite' wishes of an exception of the body; behind the suite it is known -/
def wKeep (K : PySem.W.Frag) (c : Value) (i n : Nat) (ts : Addr → TS) (Dn : Ends) : WX := fun cls d σ H =>
  PySem.W.exmOne K cls c = some true ∧ d = none ∧ (σ.length = n → ∀ a, H a = none →
    ts a { nx := fun σ' H' => Dn.nx (σ'.set i none) (upd H' a (ExT cls a)), rt := fun _ _ => False, bk := fun _ _ => False, ct := fun _ _ => False } (σ.set i (some (.ref a))) H)
theorem ps_try_keep {X : Cx} {x n : Str} {c : Value} {i : Nat} {body suite : List Stmt} {b₀ : Stmt} {np pos pos' : Pos} {tb : WX → TS} {ts : Addr → TS} (hs : X.stack = X.env :: X.outer) (hf : X.env.frame = some X.env.locals) (hN : X.N.Nodup) (hi : X.N[i]? = some n) (hln : X.env.kindOf n = some .local) (hc : Names X x c) (hx0 : X.ex = [])
    (hb : ∀ (W : WX) (pn : List (Addr × Obj)) (xe : Value → Shared → Prop), Takes (X.tr pn xe) W → PassesOwn (model X.prog X.w) X.A X.env xe → PSs (X.tr pn xe) body (tb W))
    (hsu : ∀ (a : Addr) (oe : Obj) (pn : List (Addr × Obj)), PSs (X.suite a ((a, oe) :: pn)) (b₀ :: suite) (ts a)) :
    PS X (.Try body [.ExceptHandler (some (.Name x np)) (some n) (b₀ :: suite) pos'] [] [] pos) (fun Dn σ H => tb (wKeep X.K c i X.N.length ts Dn) Dn σ H) := by
  refine ⟨fun pins s σ H Dn I h => wpAny_Try_except ?_⟩
  have ok := I.ok
  have hfr : X.A.frames = some (X.env :: X.outer) := ok.frames.trans (congrArg some hs)
  refine wpAny_mono ((hb (wKeep X.K c i X.N.length ts Dn) (X.pn ++ pins) (fun e s₁ => wpAny (model X.prog X.w) X.A (noteFrame e X.env) (fun _ s₂ => wpAny (model X.prog X.w) X.A (setFlight e none) (fun _ s₃ =>
      wpAny (model X.prog X.w) X.A (handleBy e X.env [.ExceptHandler (some (.Name x np)) (some n) (b₀ :: suite) pos']) (SP X pins Dn) X.xe s₃) X.xe s₂) X.xe s₁) (fun u s' xx => ?_) PassesOwn.looking).run [] s σ H Dn (I.toTry _) h) (fun f s1 hsp => ?_) (fun e s1 he => he)
  rotate_left
  · cases f with
    | next => obtain ⟨σ', H', J', q⟩ := hsp; exact wpAny_execs_nil ⟨σ', H', J'.ofTry ok, q⟩
    | brk => obtain ⟨σ', H', J', q⟩ := hsp; exact ⟨σ', H', J'.ofTry ok, q⟩
    | cont => obtain ⟨σ', H', J', q⟩ := hsp; exact ⟨σ', H', J'.ofTry ok, q⟩
    | ret u => obtain ⟨v, σ', H', J', r, q⟩ := hsp; exact ⟨v, σ', H', J'.ofTry ok, r, q⟩
  obtain ⟨a, B, sI, pins', σ', H', cls, d, rfl, J', nb, up, sky, na, os, ag, hx, rfl, hyes⟩ := xx
  have J : Inv X pins σ' H' sI := J'.ofTry ok
  have Ba : B.get? a = none := by
    rcases sky with z | z | z
    · exact z.2.1
    · exact z.2.1
    · exact z.2.1
  have noFrs : ∀ b, b ∉ X.fs → b ≠ X.env.locals → b ∉ frs X.stack := fun b h1 h2 z => by
    rw [hs] at z
    have e : frs (X.env :: X.outer) = X.env.locals :: X.fs := by
      unfold frs
      rw [List.filterMap_cons, hf]
      rfl
    rw [e] at z
    rcases List.mem_cons.mp z with z | z
    · exact h2 z
    · exact h1 z
  have sky' : Sky B (X.env :: X.outer) a (Zc cls none) X.env.locals s'.heap := hs ▸ sky
  show wpAny (model X.prog X.w) X.A (noteFrame (.ref a) X.env) _ _ _
  refine Sky.land Zc.steady hfr hf sky' fun h3 fl3 up3 => ?_
  have J3 : Inv X pins σ' H' { s' with heap := h3 } := J.landed nb fl3.1 (up.trans up3) os ag
  obtain ⟨oe3, vs3, he3, hz3, hd3⟩ := fl3.there
  have aFr : ∀ {h : Heap} {o : Obj} {vs : Array Value}, h.FunFrames B (X.env :: X.outer) → h.get? a = some o → o.data = .fields vs → a ∉ frs (X.env :: X.outer) := fun {h o vs} ff e dd hm => by
    obtain ⟨_, o', e', hnf⟩ := ff.mem hm
    rw [e] at e'
    cases e'
    exact hnf _ dd
  have nfr := aFr fl3.2.2.1 he3 hd3
  have nL : a ≠ X.env.locals := fun z => nfr (List.mem_filterMap.mpr ⟨X.env, List.mem_cons_self, by rw [hf, z]⟩)
  have nF : a ∉ X.fs := fun hm => by
    obtain ⟨e, he, q⟩ := List.mem_filterMap.mp hm
    exact nfr (List.mem_filterMap.mpr ⟨e, List.mem_cons_of_mem _ he, q⟩)
  have nb0 : ∀ o, X.s_0.heap.get? a = some o → X.H_0 a ≠ none := fun o e z => by
    have q := nb a o (J.base.keep a o e z nF (by rw [hx0]; exact fun y => nomatch y)) (noFrs a nF nL)
    rw [Ba] at q
    cases q
  have np0 : ∀ p ∈ X.pn ++ pins, p.1 ≠ a := fun p hp z => by
    obtain ⟨h1, _, h3, h4, _⟩ := J.pin p hp
    have q := nb p.1 p.2 h1 (noFrs p.1 h4 h3)
    rw [z, Ba] at q
    cases q
  have S3 := J3.suite he3 hd3 na nL nF
  refine wpAny_handleBy_cons (codeAny_handlers_test ?_) (by intro q; cases q)
  have LT : PySem.W.Looks (model X.prog X.w) h3 (typeOf (.ref a)) cls := fun A Q E s k q => wpAny_typeOf_ref (k _ _ he3) (by rw [hz3.1]; exact q)
  have test : ∀ {Q : Value → Shared → Prop} {E : Value → Shared → Prop}, Q c { s' with heap := h3 } → wpAny (model X.prog X.w) (X.A.mark (some (.ref a))) (eval (.Name x np) X.env) Q E { s' with heap := h3 } := fun {Q E} q => by
    obtain ⟨hg, hdbg, hm | ⟨hm, hv, hnn⟩⟩ := hc
    · exact ld_glob (X := X.suite a ((a, oe3) :: (X.pn ++ pins))) S3 hg hm q hdbg
    · exact ld_blt (X := X.suite a ((a, oe3) :: (X.pn ++ pins))) S3 hg hm hv q hnn hdbg
  refine test ((PySem.W.exm_one (M := model X.prog X.w) (J3.kIn) LT hx).here (codeAny_handlers_suite_as ?_))
  refine HandSPX.lands_againZ fl3 fun h4 fl4 up4 => ?_
  have J4 : Inv X pins σ' H' { s' with heap := h4 } := J.landed nb fl4.1 ((up.trans up3).trans up4) os ag
  obtain ⟨oe4, vs4, he4, hz4, hd4⟩ := fl4.there
  refine store_ok (X := X.suite a ((a, oe4) :: (X.pn ++ pins))) (v := .ref a) (J4.suite he4 hd4 na nL nF) hN hi (.inl hln) rfl (fun s5 S5 => ?_) (.inr hln)
  refine wpAny_mono ((hsu a oe4 (X.pn ++ pins)).run [] s5 _ H' _ S5 (hyes J.len a na)) (fun f s6 hsp => ?_) (fun _ _ z => False.elim z)
  cases f with
  | next =>
    obtain ⟨σ6, H6, S6, q6⟩ := hsp
    exact gone_ok (track S6 ok nb0 np0 nL hz4 hd4) hN hi hln fun s7 J7 => ⟨_, _, J7, q6⟩
  | brk => obtain ⟨σ6, H6, S6, q6⟩ := hsp; exact False.elim q6
  | cont => obtain ⟨σ6, H6, S6, q6⟩ := hsp; exact False.elim q6
  | ret u => obtain ⟨v6, σ6, H6, S6, r6, q6⟩ := hsp; exact False.elim q6
end BX

set_option Elab.async false
set_option linter.all false
set_option maxRecDepth 100000
set_option maxHeartbeats 4000000
namespace BX
open PySem PySem.Spec PyProof.Rows L2 RZ
variable [Tbs]

/-! ## f(lambda: body), f a def that calls what it got within a try -/
def rfEnd (r : RF) (ρ : Env) : R RV := match r with
  | .ok (.val d) _ => if scal d = true then .ok (.val d) ρ else .bad
  | _ => .bad
def evRef (xs : List Str) (run : List Arg → RF) (f : Env → R RV) (ρ : Env) : R RV := match f ρ with
  | .ok _ ρ1 => rfEnd (run [.val .none]) ρ1
  | .exc c ρ1 => if c ∈ xs then rfEnd (run [.val (excD c)]) ρ1 else .bad
  | .bad => .bad
/-- the end of such a def: a plain value; only what is new is added -/
def TEnd (r : RF) (H : Hp) (Q : VK) : Prop := Tb H ∧ ∃ d fin, r = .ok (.val d) fin ∧ scal d = true ∧ ∀ H' F v, SameN H H' → Tb H' → Rp F d v → Q v H'
def TTr (xs : List Str) (run : List Arg → RF) : (XK → Hp → VK → Prop) → Hp → VK → Prop := fun tl H Q =>
  tl (fun cls d H' => ∃ c ∈ xs, cls = Tbs.cls c ∧ d = none ∧ TEnd (run [.val (excD c)]) H' Q) H fun _ H' => TEnd (run [.val .none]) H' Q
theorem SR.grown {F H H' : Hp} {σ : St} {ρ : Env} (s : SR F H σ ρ) (n : SameN H H') (t : Tb H') : SR F H' σ ρ :=
  s.step (.refl F) (s.sub.transN n t) fun a oa => by
    obtain ⟨⟨u, z, pl⟩, nf⟩ := s.allPlain oa
    exact ⟨by rw [n a u z pl.1, z], nf⟩
theorem PostE.grown {F H H' : Hp} {σ : St} {ρ : Env} (s : SR F H σ ρ) (n : SameN H H') (t : Tb H') : PostE F H σ ρ F H' ρ :=
  ⟨s.grown n t, ⟨.refl F, fun a o e _ tn => n a o e tn, fun a o e f _ _ => f, fun a o e tn => ⟨o, n a o e tn, tn⟩⟩, .refl ρ⟩
theorem ref_ok {Wx : XW} {xs : List Str} {run : List Arg → RF} {f : Env → R RV} {σ : St} {H : Hp} {Q : VK} (h : tD Wx (evRef xs run f) σ H Q) :
    LamX.tLam Tbs.T (TTr xs run) (fun E => tD (fun c σ' H' => E (Tbs.cls c) none H') f) σ H Q := by
  obtain ⟨F, ρ, s, h⟩ := h
  refine ⟨s.sub.tab, fun H1 eN T1 => ?_⟩
  have p0 : PostE F H σ ρ F H1 ρ := PostE.grown s eN T1
  refine ⟨F, ρ, p0.sr, ?_⟩
  unfold evRef at h
  have fin : ∀ {F' H' : Hp} {ρ1 : Env} {r : RF}, PostE F H1 σ ρ F' H' ρ1 → (match rfEnd r ρ1 with
      | .ok r ρ' => ∀ F' H' v, PostE F H σ ρ F' H' ρ' → VR H F' H' σ v r → Q v H'
      | .exc c ρ' => ∀ F' H', PostE F H σ ρ F' H' ρ' → Wx c σ H'
      | .bad => False) → TEnd r H' Q := fun {F' H' ρ1 r} p h => by
    refine ⟨p.sr.sub.tab, ?_⟩
    unfold rfEnd at h
    split at h
    · rename_i r' ρ' e
      split at e
      · rename_i d fin'
        split at e
        · rename_i hs
          cases e
          refine ⟨d, fin', rfl, hs, fun H2 F2 v n t r => h F' H2 v ((p0.trans p).trans (PostE.grown p.sr n t)) ?_⟩
          exact scal_any hs r
        · cases e
      · cases e
    · rename_i e
      split at e
      · split at e <;> cases e
      · cases e
    · exact h.elim
  cases hf : f ρ with
  | bad => simp only [hf] at h
  | ok u ρ1 =>
    simp only [hf] at h
    intro F' H' v p _
    exact fin p h
  | exc c ρ1 =>
    simp only [hf] at h
    intro F' H' p
    by_cases hc : c ∈ xs
    · simp only [if_pos hc] at h
      exact ⟨c, hc, rfl, rfl, fin p h⟩
    · simp only [if_neg hc] at h
end BX

set_option Elab.async false
set_option linter.all false
set_option maxRecDepth 100000
set_option maxHeartbeats 4000000
namespace BX
open PySem PySem.Spec PyProof.Rows L2 RZ
variable [Tbs]

/-! ## the small language -/
def boF : Operator → Vw → Vw → Option RV
  | .Add => bAdd | .Sub => bSub | .Mult => bMul | .FloorDiv => bDiv | .Mod => bMod | .Pow => bPow
  | _ => fun _ _ => none
def coF : CmpOp → Vw → Vw → Option RV
  | .Eq => bEq | .NotEq => bNe
  | .Lt => bCmp fun i j => decide (i < j) | .LtE => bCmp fun i j => decide (i ≤ j) | .Gt => bCmp fun i j => decide (j < i) | .GtE => bCmp fun i j => decide (j ≤ i)
  | .In => bIn false | .NotIn => bIn true | .Is => bIs false | .IsNot => bIs true
theorem bo_none {X : Cx} (op : Operator) : ∃ r, OpR X (binaryOp op) r ∧ Ok2 (fun _ _ => none) r :=
  ⟨fun _ _ _ _ => False, fun _ _ _ _ _ _ _ _ _ _ _ _ h => h.elim, fun _ _ _ _ _ _ _ _ _ _ _ h _ => by cases h⟩
theorem bo_ok {X : Cx} : (op : Operator) → ∃ r, OpR X (binaryOp op) r ∧ Ok2 (boF op) r
  | .Add => ⟨_, op_addAll, ok_add⟩
  | .Sub => ⟨_, op_sub, ok_sub⟩
  | .Mult => ⟨_, op_mulA, ok_mul⟩
  | .FloorDiv => ⟨_, op_fdiv, ok_div⟩
  | .Mod => ⟨_, op_mod, ok_mod⟩
  | .Pow => ⟨_, op_pow, ok_pow⟩
  | .MatMult => bo_none _
  | .Div => bo_none _
  | .LShift => bo_none _
  | .RShift => bo_none _
  | .BitOr => bo_none _
  | .BitXor => bo_none _
  | .BitAnd => bo_none _
theorem co_ok {X : Cx} (hu : X.A.units + 65 < cLine) : (op : CmpOp) → ∃ r, OpR X (compareOp op) r ∧ Ok2 (coF op) r
  | .Eq => ⟨_, op_eqD (by omega), ok_eq⟩
  | .NotEq => ⟨_, op_neD (by omega), ok_ne⟩
  | .Lt => ⟨_, op_lt, ok_cmp⟩
  | .LtE => ⟨_, op_le, ok_cmp⟩
  | .Gt => ⟨_, op_gt, ok_cmp⟩
  | .GtE => ⟨_, op_ge, ok_cmp⟩
  | .In => ⟨_, op_inAll hu, ok_in⟩
  | .NotIn => ⟨_, op_notInAll hu, ok_in⟩
  | .Is => ⟨_, op_isAll, ok_is⟩
  | .IsNot => ⟨_, op_isnAll, ok_is⟩
inductive CE where
  | var (i : Nat) | cst (d : D)
  | bin (op : Operator) (a b : CE) | cmp (op : CmpOp) (a b : CE) | chain (op op' : CmpOp) (a b c : CE)
  | and (a b : CE) | or (a b : CE) | not (a : CE) | neg (a : CE) | ite (c a b : CE)
  | tup (es : CE) | lst (es : CE) | dict (t : Bool)
  | ix (a b : CE) | rev (a : CE) | sl (a lo hi : CE)
  | bi (b : BI) (es : CE) | call (k : Nat) (es : CE) | mu (m : MU) (o es : CE) | mt (m : MT) (o es : CE)
  | isin (e : CE) (ts : List TY) | rng1 (t : Bool) (a : CE) | rng2 (t : Bool) (a b : CE)
  | lc (elt : CE) (tg : CT) (it c : CE) (own : List Nat)
  | no | some (a : CE) | nil | cons (a b : CE)
  | iseq (a : CE) | irng (es : CE) | izip (es : CE) | ienum (es : CE)
  | ssort (a : CE)
  | isE (e : CE) (tab : List (Str × Bool)) | rfc (k : Nat) (xs : List Str) (b : CE)
mutual
def ev (Φ : List Fn) : CE → Env → R RV
  | .var i => evVar i
  | .cst d => evC d
  | .bin op a b => fun ρ => (ev Φ a ρ).bind fun u ρ1 => (ev Φ b ρ1).bind fun w ρ2 => ap2 (boF op) u w ρ2
  | .cmp op a b => fun ρ => (ev Φ a ρ).bind fun u ρ1 => (ev Φ b ρ1).bind fun w ρ2 => ap2 (coF op) u w ρ2
  | .chain op op' a b c => evChain (coF op) (coF op') (ev Φ a) (ev Φ b) (ev Φ c)
  | .and a b => evAnd (ev Φ a) (ev Φ b)
  | .or a b => evOr (ev Φ a) (ev Φ b)
  | .not a => evNot (ev Φ a)
  | .neg a => fun ρ => (ev Φ a ρ).bind fun u ρ1 => ap1 bNeg u ρ1
  | .ite c a b => evIte (ev Φ c) (ev Φ a) (ev Φ b)
  | .tup es => evTup (evs Φ es)
  | .lst es => evLst (evs Φ es)
  | .dict t => evDict t
  | .ix a b => fun ρ => (ev Φ a ρ).bind fun u ρ1 => (ev Φ b ρ1).bind fun w ρ2 => ap2 bIx u w ρ2
  | .rev a => fun ρ => (ev Φ a ρ).bind fun u ρ1 => ap1 bRev u ρ1
  | .sl a lo hi => fun ρ => (ev Φ a ρ).bind fun u ρ1 => (evP Φ lo ρ1).bind fun l ρ2 => (evP Φ hi ρ2).bind fun h ρ3 => ap1 (fun x => bSl x l h) u ρ3
  | .bi b es => fun ρ => (evs Φ es ρ).bind fun us ρ1 => apN (bi b) us ρ1
  | .call k es => fun ρ => match Φ[k]? with
    | some fn => (evs Φ es ρ).bind fun rs ρ1 => callEv fn rs ρ1
    | none => .bad
  | .mu m o es => muEv m (ev Φ o) (evs Φ es)
  | .mt m o es => evMt m (ev Φ o) (evs Φ es)
  | .isin e ts => fun ρ => (ev Φ e ρ).bind fun u ρ1 => ap1 (bIsin ts) u ρ1
  | .rng1 t a => fun ρ => (ev Φ a ρ).bind fun u ρ1 => ap1 (bRng1 t) u ρ1
  | .ssort a => fun ρ => (ev Φ a ρ).bind fun u ρ1 => ap1 bSsort u ρ1
  | .rng2 t a b => fun ρ => (ev Φ a ρ).bind fun u ρ1 => (ev Φ b ρ1).bind fun w ρ2 => ap2 (bRng2 t) u w ρ2
  | .lc elt tg it c own => evLc (evI Φ it) tg (evB Φ c) (ev Φ elt) own
  | .isE e tab => fun ρ => (ev Φ e ρ).bind fun u ρ1 => ap1 (bIsE tab) u ρ1
  | .rfc k xs b => fun ρ => match Φ[k]? with
    | some fn => evRef xs fn.run (ev Φ b) ρ
    | none => .bad
  | _ => fun _ => .bad
def evs (Φ : List Fn) : CE → Env → R (List RV)
  | .nil => evNil
  | .cons a b => evCons (ev Φ a) (evs Φ b)
  | _ => fun _ => .bad
def evI (Φ : List Fn) : CE → Env → R (List D)
  | .iseq a => evSeq (ev Φ a)
  | .irng es => evRng (evs Φ es)
  | .izip es => evOf zipOf (evs Φ es)
  | .ienum es => evOf enumOf (evs Φ es)
  | _ => fun _ => .bad
def evP (Φ : List Fn) : CE → Env → R (Option Int)
  | .no => apPart none
  | .some a => apPart (some (ev Φ a))
  | _ => fun _ => .bad
def evB (Φ : List Fn) : CE → Env → R Bool
  | .no => evYes
  | .some a => evT (ev Φ a)
  | _ => fun _ => .bad
end
inductive CS where
  | asg (i : Nat) (e : CE) | asgT (is : List Nat) (e : CE) | par (is : List Nat) (es : CE) | setIx (o : Nat) (ix e : CE)
  | drop (e : CE) | ret (e : CE) | retN | nop | brk | cont
  | ite (c : CE) (a b : CS) | wh (c : CE) (b : CS) | for (tg : CT) (it : CE) (b : CS) | raise (c : Str) | seq (a b : CS)
def exec (Φ : List Fn) (wf : Nat) : CS → Env → R Fl
  | .asg i e => exAsg i (ev Φ e)
  | .asgT is e => exAsgT is (ev Φ e)
  | .par is es => exPar is (evs Φ es)
  | .setIx o ix e => exSetIx o (ev Φ ix) (ev Φ e)
  | .drop e => exDrop (ev Φ e)
  | .ret e => exRet (ev Φ e)
  | .retN => exRetN
  | .nop => exNext
  | .brk => exBrk
  | .cont => exCont
  | .ite c a b => exIte (ev Φ c) (exec Φ wf a) (exec Φ wf b)
  | .wh c b => whileL (ev Φ c) (exec Φ wf b) wf
  | .for tg it b => exFor tg (evI Φ it) (exec Φ wf b)
  | .raise c => fun ρ => .exc c ρ
  | .seq a b => exSeq (exec Φ wf a) (exec Φ wf b)

/-! ## from the model's syntax -/
structure CG where
  N : List Str
  fns : List (Str × Nat)
  cst : List (Str × D)
  dT : Bool
  excs : List Str
  lv : Nat
  isa : List ((Str × Str) × Bool)
  tks : List (Str × Nat)
  lam : Bool
/-- the levels that a body asks -/
def CG.rm (G : CG) : Nat := G.lv + if G.lam = true then 2 else 0
/-- where no lambda is made -/
def CG.off (G : CG) : CG := { G with lam := false }
def isaTab (G : CG) (y : Str) : List (Str × Bool) := G.isa.filterMap fun p => if p.1.2 = y then some (p.1.1, p.2) else none
def visB (sc : Scope) (x : Str) : Bool := match sc.names.lookup x with
  | some .local => true
  | some .cell => true
  | some .free => true
  | _ => false
def glB (sc : Scope) (x : Str) : Bool := match sc.names.lookup x with
  | some .globalImplicit => true
  | _ => false
def nmOk (x : Str) : Bool := !(x == ("__debug__" : Str)) && !(x == ("__classdict__" : Str))
def allBI : List BI := [.len, .max, .min, .abs, .int, .str, .tuple, .list, .sorted, .all, .any, .sum, .dict]
def biOf (x : Str) : Option BI := allBI.find? fun b => Str.ofString b.name == x
def allTY : List TY := [.int, .bool, .str, .list, .tuple, .dict]
def tyOfN (x : Str) : Option TY := allTY.find? fun b => Str.ofString b.name == x
def allMT : List MT := [.get, .index, .count, .join, .split, .partition]
def mtOf (x : Str) : Option MT := allMT.find? fun b => Str.ofString b.nm == x
def blts : List Str := ["len", "max", "min", "abs", "int", "str", "tuple", "list", "sorted", "all", "any", "sum", "dict", "bool", "isinstance", "range", "zip", "enumerate", "set"]
def storeB (sc : Scope) (fnB : Str → Bool) (x : Str) : Bool := match sc.names.lookup x with
  | some .local => true
  | some .cell => fnB x
  | _ => false
def compTs (G : CG) (sc : Scope) (fnB : Str → Bool) : List Expr → Option (List Nat)
  | [] => some []
  | .Name x _ :: es => if storeB sc fnB x = true then match G.N.idxOf? x, compTs G sc fnB es with
    | some i, some is => some (i :: is)
    | _, _ => none else none
  | _ => none
def compT (G : CG) (sc : Scope) (fnB : Str → Bool) : Expr → Option CT
  | .Name x _ => if storeB sc fnB x = true then (G.N.idxOf? x).map .nm else none
  | .Tuple es _ _ => (compTs G sc fnB es).map .tp
  | _ => none
def conC : Const → Option D
  | .none => some .none
  | .bool b => some (.bool b)
  | .int i => some (.int i)
  | .str x => some (.str x)
  | _ => none
def isTup : Expr → Bool
  | .Tuple .. => true
  | _ => false
def subOk : Expr → Bool
  | .Slice _ _ none _ => false
  | _ => true
def ownOf (G : CG) (scope : Scope) : List (Str × Nat) := scope.names.filterMap fun (n, k) => if k == .local || k == .cell then (G.N.idxOf? n).map fun i => (n, i) else none
def isComp : Expr → Bool
  | .ListComp .. | .SetComp .. | .DictComp .. => true
  | _ => false
def setE : Expr → Bool
  | .Set .. => true
  | _ => false
def starE : Expr → Bool
  | .Starred .. => true
  | _ => false
def recsOf (r : Expr → Option CE) : List Expr → Option CE
  | [] => some .nil
  | e :: es => match r e, recsOf r es with
    | some a, some b => some (.cons a b)
    | _, _ => none
def cPart (r : Expr → Option CE) : Option Expr → Option CE
  | none => some .no
  | some e => (r e).map CE.some
def cAnd (r : Expr → Option CE) : List Expr → Option CE
  | [] => none
  | [a] => r a
  | a :: b :: l => match r a, cAnd r (b :: l) with
    | some x, some y => some (.and x y)
    | _, _ => none
def cOr (r : Expr → Option CE) : List Expr → Option CE
  | [] => none
  | [a] => r a
  | a :: b :: l => match r a, cOr r (b :: l) with
    | some x, some y => some (.or x y)
    | _, _ => none
def isRev : Expr → Bool
  | .Slice none none (some (.UnaryOp .USub (.Constant (.int 1) _ _) _)) _ => true
  | _ => false
def cSl (r : Expr → Option CE) (a : Expr) : Expr → Option CE
  | .Slice lo hi none _ => match r a, cPart r lo, cPart r hi with
    | some a, some lo, some hi => some (.sl a lo hi)
    | _, _, _ => none
  | b => match r a, r b with
    | some a, some b => some (.ix a b)
    | _, _ => none
def cSub (r : Expr → Option CE) (a b : Expr) : Option CE := if isRev b = true then (r a).map .rev else cSl r a b
def cIsin (G : CG) (sc : Scope) (r : Expr → Option CE) : List Expr → Option CE
  | [e, .Name t _] => match tyOfN t, r e with
    | some ty, some e => if glB sc t = true then some (.isin e [ty]) else none
    | none, some e => if glB sc t = true ∧ (isaTab G t).isEmpty = false then some (.isE e (isaTab G t)) else none
    | _, _ => none
  | [e, .Tuple [.Name t _, .Name t2 _] _ _] => match tyOfN t, tyOfN t2, r e with
    | some ty, some ty2, some e => if glB sc t = true ∧ glB sc t2 = true then some (.isin e [ty, ty2]) else none
    | _, _, _ => none
  | _ => none
def cBi (r : Expr → Option CE) (x : Str) (args : List Expr) : Option CE := match args with
  | [] => none
  | _ => match biOf x, recsOf r args with
    | some b, some es => some (.bi b es)
    | _, _ => none
/-- list(range ..), tuple(range ..) -/
def cRng (sc : Scope) (r : Expr → Option CE) (t : Bool) : List Expr → Option CE
  | [.Call (.Name q _) [a] [] _] => if q = ("range" : Str) ∧ glB sc q = true then (r a).map (.rng1 t) else none
  | [.Call (.Name q _) [a, b] [] _] => if q = ("range" : Str) ∧ glB sc q = true then match r a, r b with
    | some a, some b => some (.rng2 t a b)
    | _, _ => none else none
  | _ => none
/-- sorted(set(..)) -/
def cSset (sc : Scope) (r : Expr → Option CE) : List Expr → Option CE
  | [.Call (.Name q _) [a] [] _] => if q = ("set" : Str) ∧ glB sc q = true then (r a).map .ssort else none
  | _ => none
def isSetCall : List Expr → Bool
  | [.Call (.Name q _) _ [] _] => q == ("set" : Str)
  | _ => false
def isRangeCall : List Expr → Bool
  | [.Call (.Name q _) _ [] _] => q == ("range" : Str)
  | _ => false
def cCall (G : CG) (sc : Scope) (r : Expr → Option CE) (x : Str) (args : List Expr) : Option CE :=
  if glB sc x = false then none else
  if x = ("isinstance" : Str) then cIsin G sc r args else
  if x = ("" : Str) then none else
  match G.fns.findIdx? fun p => p.1 == x with
  | some k => (match args with
    | [] => none
    | _ => if (G.fns[k]?.map (·.2)) = some args.length then (recsOf r args).map (.call k) else none)
  | none => if isSetCall args = true then (if x = ("sorted" : Str) then cSset sc r args else none) else if isRangeCall args = true then (if x = ("list" : Str) then cRng sc r false args else if x = ("tuple" : Str) then cRng sc r true args else none) else cBi r x args
def noCall : Expr → Bool
  | .Call .. => false
  | _ => true
/-- the lists out of which a place is taken: x.pop(i) -/
def lPops : List Str := ["_law_rest", "_law_boxes"]
def isLpop : Expr → Bool
  | .Name x _ => lPops.contains x
  | _ => false
def cMeth (r : Expr → Option CE) (o : Expr) (m : Str) (args : List Expr) : Option CE := match r o with
  | none => none
  | some ro => match args with
    | [] => if m = ("pop" : Str) then some (.mu .pop ro .nil) else if m = ("items" : Str) then some .nil else none
    | _ => match recsOf r args with
      | none => none
      | some es => if m = ("append" : Str) then some (.mu .append ro es) else if m = ("extend" : Str) then some (.mu .extend ro es) else if m = ("pop" : Str) then (if isLpop o = true then some (.mu .lpop ro es) else some (.mu .dpop ro es)) else (mtOf m).map fun mt => .mt mt ro es
def cIter2 (sc : Scope) (r : Expr → Option CE) (tg : Expr) (x : Str) (args : List Expr) (whole : Expr) : Option CE :=
  if glB sc x = false then none else
  if x = ("range" : Str) then (match args with
    | [_] => (recsOf r args).map .irng
    | [_, _] => (recsOf r args).map .irng
    | _ => none)
  else if x = ("zip" : Str) then (match args with
    | [_, _] => if isTup tg = true then (recsOf r args).map .izip else none
    | _ => none)
  else if x = ("enumerate" : Str) then (match args with
    | [_] => if isTup tg = true then (recsOf r args).map .ienum else none
    | _ => none)
  else (r whole).map .iseq
def cIter (sc : Scope) (r : Expr → Option CE) (tg : Expr) (e : Expr) : Option CE := match e with
  | .Call (.Name x _) args [] _ => cIter2 sc r tg x args e
  | _ => (r e).map .iseq
def cIfs (r : Expr → Option CE) : List Expr → Option CE
  | [] => some .no
  | [c] => (r c).map CE.some
  | _ => none
def cLc (G : CG) (sc : Scope) (r : Scope → Expr → Option CE) (elt : Expr) (gens : List Comprehension) (scope : Scope) : Option CE := match gens with
  | [⟨tg, iter, ifs, 0⟩] => if blkC G.N sc scope (ownOf G scope) = true ∧ setE iter = false then
      match compT G (relS scope sc) (fun x => scope.names.lookup x == some NameKind.cell) tg, cIter sc (r sc) tg iter, cIfs (r (relS scope sc)) ifs, r (relS scope sc) elt with
      | some ct, some it, some c, some f => if (ct.slots.all fun i => ((ownOf G scope).map (·.2)).contains i) = true then some (.lc f ct it c ((ownOf G scope).map (·.2))) else none
      | _, _, _, _ => none
    else none
  | _ => none
/-- f(lambda: body) -/
def cLam (G : CG) (sc : Scope) (r : Scope → Expr → Option CE) (x : Str) (body : Expr) (scope : Scope) : Option CE :=
  if glB sc x = true ∧ G.lam = true ∧ 4 ≤ G.lv ∧ LamX.lamSB sc scope = true then match G.tks.lookup x, r scope body with
    | some k, some b => some (.rfc k G.excs b)
    | _, _ => none else none
def cCallL (G : CG) (sc : Scope) (r : Expr → Option CE) (r' : Scope → Expr → Option CE) (x : Str) : List Expr → Option CE
  | [.Lambda ⟨[], [], none, [], [], none, []⟩ body scope _] => cLam G sc r' x body scope
  | args => cCall G sc r x args
def compE : Nat → CG → Scope → Expr → Option CE
  | 0, _, _, _ => none
  | n + 1, G, sc, e => match e with
    | .Name x _ => if nmOk x = true then (if visB sc x = true then (G.N.idxOf? x).map .var else if glB sc x = true then (G.cst.lookup x).map .cst else none) else none
    | .Constant c _ _ => (conC c).map .cst
    | .BinOp a op b _ => match compE n G sc a, compE n G sc b with
      | some a, some b => some (.bin op a b)
      | _, _ => none
    | .UnaryOp op a _ => (match op with
      | .USub => (compE n G sc a).map .neg
      | .Not => (compE n G sc a).map .not
      | _ => none)
    | .BoolOp op es _ => (match op with
      | .And => cAnd (compE n G sc) es
      | .Or => cOr (compE n G sc) es)
    | .IfExp c a b _ => match compE n G sc c, compE n G sc a, compE n G sc b with
      | some c, some a, some b => some (.ite c a b)
      | _, _, _ => none
    | .Compare a ops bs _ => (match ops, bs with
      | [op], [b] => if setE b = true then none else match compE n G sc a, compE n G sc b with
        | some a, some b => some (.cmp op a b)
        | _, _ => none
      | [op, op'], [b, c] => if setE c = true then none else match compE n G sc a, compE n G sc b, compE n G sc c with
        | some a, some b, some c => some (.chain op op' a b c)
        | _, _, _ => none
      | _, _ => none)
    | .Tuple es _ _ => (recsOf (compE n G sc) es).map .tup
    | .List es _ => (recsOf (compE n G sc) es).map .lst
    | .Dict ks vs _ => (match ks, vs with
      | [], [] => some (.dict G.dT)
      | _, _ => none)
    | .Subscript a b _ => cSub (compE n G sc) a b
    | .Call f args kws cpos => (match f, kws with
      | .Name x _, [] => cCallL G sc (compE n G sc) (compE n G.off) x args
      | .Attribute o m apos, [] => if (apos.endLine == cpos.line) = true ∧ noCall o = true ∧ args.length < 20 then cMeth (compE n G sc) o m args else none
      | _, _ => none)
    | .ListComp elt gens scope _ => cLc G.off sc (compE n G.off) elt gens scope
    | _ => none
end BX

set_option Elab.async false
set_option linter.all false
set_option maxRecDepth 100000
set_option maxHeartbeats 4000000
namespace BX
open PySem PySem.Spec PyProof.Rows L2 RZ
variable [Tbs]

def clsOf (mg : Str → Option Value) (c : Str) : Value := (mg c).getD .none
def ExcOk (X : Cx) (x : Str) : Prop := nmOk x = true ∧ ∃ (C : Addr) (B newId initId : String) (bmB : List Value), ExcBaseFacts B newId initId bmB ∧ PySem.W.excIn X.K C bmB newId = true ∧ X.mg x = some (.ref C) ∧ PySem.W.keepIn X.K (.ref C) = true ∧ Raises X (.ref C)
/-- the maker's code object bears a table -/
def LamOk (X : Cx) : Prop := ∃ c P, X.env.code = .ref c ∧ LamX.TabB X.base X.mg c P ∧ (P, X.env.qual ++ "<lambda>") ∈ Tbs.T ∧ ∀ p ∈ Tbs.T, p.1 = P → p.2 = X.env.qual ++ "<lambda>"
/-- a def that calls what it got -/
def TkOk (P : Program) (w : World) (K : PySem.W.Frag) (mg : Str → Option Value) (base : Heap) (xs : List Str) (x : Str) (run : List Arg → RF) : Prop :=
  nmOk x = true ∧ ∃ (g : Addr) (pg : Arguments) (bg : List Stmt) (sg : Scope) (dV kV doc pm cdv ct oc : Value) (an od : Option Addr) (osl : Array (Option Value)) (Ng : List Str) (a : Str),
    mg x = some (.ref g) ∧ PySem.W.keepIn K (.ref g) = true ∧ K.lookup g = some ⟨oc, od, .func (PySem.W.fnOf x x pg bg sg dV kV doc pm an cdv ct), osl⟩ ∧ PySem.W.codeIn K cdv x = true ∧
    L2.Binds K (PySem.W.fnOf x x pg bg sg dV kV doc pm an cdv ct) [a] [] ∧ FnScope Ng [a] sg ∧ Ng[0]? = some a ∧ Vis sg a ∧ nmOk a = true ∧
    ∀ X : Cx, X.prog = P → X.w = w → X.K = K → X.mg = mg → X.base = base → Room 4 X.A → ∀ q, LamX.GivesTo X Ng x sg g cdv bg a q (TTr xs run)
structure XOk (G : CG) (Φ : List Fn) (X : Cx) (sc : Scope) (fnB : Str → Bool) (Wx : XW) : Prop where
  hN : X.N = G.N
  nd : X.N.Nodup
  esc : X.env.scope = sc
  kind : sc.kind = .function
  calm : X.calm = true
  room : Room G.rm X.A
  fnb : X.fn = fnB
  bl : ∀ x ∈ blts, X.mg x = none
  cst : ∀ x d, G.cst.lookup x = some d → ∃ u v, X.mg x = some u ∧ RelV v u ∧ scV d = some v
  fns : ∀ (j : Nat) (x : Str) (a : Nat), G.fns[j]? = some (x, a) → x ≠ "" → nmOk x = true ∧ ∃ (f : Addr) (fd : FuncData) (ps : List Str) (fn : Fn), Φ[j]? = some fn ∧ X.mg x = some (.ref f) ∧ PySem.W.keepIn X.K (.ref f) = true ∧ Binds X.K fd ps [] ∧ FnOk X.prog X.w X.K X.mg X.base (L2.CX X.prog X.w) G.lv f fd ps (spF a (clsOf X.mg) fn.run)
  exc : ∀ x ∈ G.excs, ExcOk X x
  tk : Takes X (wOf (clsOf X.mg) Wx)
  cls : Tbs.cls = clsOf X.mg
  isa : ∀ c y b, ((c, y), b) ∈ G.isa → Isa X c y b
  lam : G.lam = true → LamOk X
  tks : ∀ x k, G.tks.lookup x = some k → ∃ fn, Φ[k]? = some fn ∧ TkOk X.prog X.w X.K X.mg X.base G.excs x fn.run

/-! ## the syntax's side conditions -/
theorem compE_star {G : CG} {n : Nat} {sc : Scope} {e : Expr} {c : CE} (h : compE n G sc e = some c) : starE e = false := by
  cases n with
  | zero => cases h
  | succ n => cases e <;> first | rfl | cases h
theorem star_cons {e : Expr} (h : starE e = false) (es : List Expr) (env : PySem.Env) : starEach (e :: es) env = (false, eval e env) :: starEach es env := by
  cases e <;> first | rfl | cases h
theorem recs_plain {r : Expr → Option CE} (hr : ∀ e c, r e = some c → starE e = false) : ∀ {es : List Expr} {c : CE} (env : PySem.Env), recsOf r es = some c → (starEach es env).any (·.1) = false ∧ (starEach es env).all (fun x => !x.1) = true
  | [], _, _, _ => ⟨rfl, rfl⟩
  | e :: es, c, env, h => by
    unfold recsOf at h
    split at h
    · rename_i a b h1 h2
      obtain ⟨g1, g2⟩ := recs_plain hr env h2
      rw [star_cons (hr e a h1)]
      exact ⟨by rw [List.any_cons, g1]; rfl, by rw [List.all_cons, g2]; rfl⟩
    · cases h
theorem backTo_any (pos : Pos) (l : List (Bool × Sem Value)) : (backTo pos l).any (·.1) = l.any (·.1) := by
  unfold backTo
  rw [List.any_map]
  rfl
theorem backTo_all (pos : Pos) (l : List (Bool × Sem Value)) : (backTo pos l).all (fun x => !x.1) = l.all (fun x => !x.1) := by
  unfold backTo
  rw [List.all_map]
  rfl
theorem recs_cons {r : Expr → Option CE} {e : Expr} {es : List Expr} {c : CE} (h : recsOf r (e :: es) = some c) : ∃ a b, r e = some a ∧ recsOf r es = some b ∧ c = .cons a b := by
  unfold recsOf at h
  split at h
  · rename_i a b h1 h2; cases h; exact ⟨a, b, h1, h2, rfl⟩
  · cases h
theorem recs_len {Φ : List Fn} {r : Expr → Option CE} : ∀ {es : List Expr} {c : CE}, recsOf r es = some c → ∀ ρ rs ρ', evs Φ c ρ = .ok rs ρ' → rs.length = es.length
  | [], c, h, ρ, rs, ρ', e => by
    cases h
    have e : evNil ρ = .ok rs ρ' := e
    cases e; rfl
  | a :: es, c, h, ρ, rs, ρ', e => by
    obtain ⟨x, y, _, h2, rfl⟩ := recs_cons h
    have e : evCons (ev Φ x) (evs Φ y) ρ = .ok rs ρ' := e
    unfold evCons at e
    cases hf : ev Φ x ρ with
    | bad => simp only [hf, R.bind_bad] at e; cases e
    | exc c ρ1 => simp only [hf, R.bind_exc] at e; cases e
    | ok u ρ1 =>
      simp only [hf, R.bind_ok] at e
      cases hg : evs Φ y ρ1 with
      | bad => simp only [hg, R.bind_bad] at e; cases e
      | exc c ρ2 => simp only [hg, R.bind_exc] at e; cases e
      | ok us ρ2 =>
        simp only [hg, R.bind_ok] at e
        cases e
        rw [List.length_cons, List.length_cons, recs_len h2 ρ1 us ρ' hg]
theorem idx_get {N : List Str} {x : Str} {i : Nat} (h : N.idxOf? x = some i) : N[i]? = some x := by
  obtain ⟨hl, he, _⟩ := List.findIdx?_eq_some_iff_getElem.mp h
  rw [List.getElem?_eq_getElem hl]
  exact congrArg some (eq_of_beq he)
theorem nm_ok {x : Str} (h : nmOk x = true) : (x == ("__debug__" : Str)) = false ∧ (x == ("__classdict__" : Str)) = false := by
  unfold nmOk at h
  rw [Bool.and_eq_true] at h
  exact ⟨by simpa using h.1, by simpa using h.2⟩
section
variable {G : CG} {Φ : List Fn} {X : Cx} {sc : Scope} {fnB : Str → Bool} {Wx : XW}
theorem XOk.vis (o : XOk G Φ X sc fnB Wx) {x : Str} (h : visB sc x = true) : Vis X.env.scope x := by
  rw [o.esc]
  unfold visB at h
  split at h
  · rename_i e; exact .inl e
  · rename_i e; exact .inr (.inl e)
  · rename_i e; exact .inr (.inr e)
  · cases h
theorem XOk.gl (o : XOk G Φ X sc fnB Wx) {x : Str} (h : glB sc x = true) : Gl X x := by
  show X.env.scope.names.lookup x = some .globalImplicit
  rw [o.esc]
  unfold glB at h
  split at h
  · rename_i e; exact e
  · cases h
theorem XOk.u65 (o : XOk G Φ X sc fnB Wx) : X.A.units + 65 < cLine := by have := o.room.un; omega
theorem XOk.off (o : XOk G Φ X sc fnB Wx) : XOk G.off Φ X sc fnB Wx :=
  ⟨o.hN, o.nd, o.esc, o.kind, o.calm, o.room.mono (Nat.le_add_right _ _), o.fnb, o.bl, o.cst, o.fns, o.exc, o.tk, o.cls, o.isa, (fun h => nomatch h), o.tks⟩
theorem biOf_name {x : Str} {b : BI} (h : biOf x = some b) : x = Str.ofString b.name := by
  have := List.find?_some h
  exact (eq_of_beq this).symm
theorem tyOf_name {x : Str} {b : TY} (h : tyOfN x = some b) : x = Str.ofString b.name := by
  have := List.find?_some h
  exact (eq_of_beq this).symm
theorem mtOf_name {x : Str} {b : MT} (h : mtOf x = some b) : x = Str.ofString b.nm := by
  have := List.find?_some h
  exact (eq_of_beq this).symm
theorem XOk.bi (o : XOk G Φ X sc fnB Wx) (b : BI) : X.mg (Str.ofString b.name) = none := o.bl _ (by cases b <;> decide)
theorem XOk.ty (o : XOk G Φ X sc fnB Wx) (b : TY) : X.mg (Str.ofString b.name) = none := o.bl _ (by cases b <;> decide)
/-- an expression's two readings -/
def Both (X : Cx) (Wx : XW) (e : Expr) (f : BX.Env → R RV) : Prop := PE X e (tD Wx f) ∧ PT X e (tTs Wx (evT f))
theorem Both.val {e : Expr} {f : BX.Env → R RV} (h : PE X e (tD Wx f)) (he : ∀ whole, isTrue e X.env whole = (do let v ← whole; standAt e.pos; holding [v] (truthy v))) : Both X Wx e f := ⟨h, DT_val h he⟩
/-- the induction's word -/
def IH (G : CG) (Φ : List Fn) (r : Scope → Expr → Option CE) : Prop := ∀ X sc fnB Wx e c, XOk G Φ X sc fnB Wx → r sc e = some c → Both X Wx e (ev Φ c)
variable {r : Scope → Expr → Option CE}
theorem recs_ok (ih : IH G Φ r) (hs : ∀ e c, r sc e = some c → starE e = false) (o : XOk G Φ X sc fnB Wx) : ∀ {es : List Expr} {c : CE}, recsOf (r sc) es = some c → PA X es (tAr Wx (evs Φ c))
  | [], c, h => by cases h; exact DA_nil
  | e :: es, c, h => by
    obtain ⟨a, b, h1, h2, rfl⟩ := recs_cons h
    exact DA_cons (ih X sc fnB Wx e a o h1).1 (recs_ok ih hs o h2) (star_cons (hs e a h1) es X.env)
theorem and_ok (ih : IH G Φ r) (o : XOk G Φ X sc fnB Wx) : ∀ {es : List Expr} {c : CE} (pos : Pos), cAnd (r sc) es = some c → PE X (.BoolOp .And es pos) (tD Wx (ev Φ c)) ∧ PW X (.BoolOp .And es pos) (tTs Wx (evT (ev Φ c)))
  | [], c, _, h => by cases h
  | [a], c, pos, h => by
    have b := ih X sc fnB Wx a c o h
    exact ⟨pe_one b.1, DW_and1 b.2⟩
  | a :: b :: l, c, pos, h => by
    unfold cAnd at h
    split at h
    · rename_i x y h1 h2
      cases h
      have ba := ih X sc fnB Wx a x o h1
      have bb := and_ok ih o pos h2
      exact ⟨DE_and ba.1 bb.1, DW_and ba.2 bb.2⟩
    · cases h
theorem or_ok (ih : IH G Φ r) (o : XOk G Φ X sc fnB Wx) : ∀ {es : List Expr} {c : CE} (pos : Pos), cOr (r sc) es = some c → PE X (.BoolOp .Or es pos) (tD Wx (ev Φ c)) ∧ PW X (.BoolOp .Or es pos) (tTs Wx (evT (ev Φ c)))
  | [], c, _, h => by cases h
  | [a], c, pos, h => by
    have b := ih X sc fnB Wx a c o h
    exact ⟨pe_one b.1, DW_or1 b.2⟩
  | a :: b :: l, c, pos, h => by
    unfold cOr at h
    split at h
    · rename_i x y h1 h2
      cases h
      have ba := ih X sc fnB Wx a x o h1
      have bb := or_ok ih o pos h2
      exact ⟨DE_or ba.1 bb.1, DW_or ba.2 bb.2⟩
    · cases h
theorem isRev_ok {b : Expr} (h : isRev b = true) : ∃ k p1 p2 p3, b = .Slice none none (some (.UnaryOp .USub (.Constant (.int 1) k p1) p2)) p3 := by
  unfold isRev at h
  split at h
  · exact ⟨_, _, _, _, rfl⟩
  · cases h
theorem plain_ix {b : Expr} (h : ∀ lo hi p, b ≠ .Slice lo hi none p) : PlainIx b := by
  intro o i
  cases b <;> first
    | rfl
    | (rename_i lo hi st p; cases st with
        | none => exact absurd rfl (h lo hi p)
        | some _ => rfl)
theorem part_ok (ih : IH G Φ r) (o : XOk G Φ X sc fnB Wx) {e : Option Expr} {c : CE} (h : cPart (r sc) e = some c) : PO X e (tPO Wx (evP Φ c)) := by
  cases e with
  | none => cases h; exact DO_none
  | some e =>
    obtain ⟨a, h1, rfl⟩ := Option.map_eq_some_iff.mp h
    exact DO_some (ih X sc fnB Wx e a o h1).1
theorem sub_ok (ih : IH G Φ r) (o : XOk G Φ X sc fnB Wx) {a b : Expr} {c : CE} {pos : Pos} (h : cSub (r sc) a b = some c) : Both X Wx (.Subscript a b pos) (ev Φ c) := by
  unfold cSub at h
  split at h
  · rename_i hr
    obtain ⟨k, p1, p2, p3, rfl⟩ := isRev_ok hr
    obtain ⟨x, h1, rfl⟩ := Option.map_eq_some_iff.mp h
    exact .val (PE.imp (pe_rev (ih X sc fnB Wx a x o h1).1) fun σ H Q q => fin1 ok_rev q) fun _ => rfl
  · unfold cSl at h
    split at h
    · split at h
      · rename_i x lo hi h1 h2 h3
        cases h
        exact .val (DE_sl (ih X sc fnB Wx a x o h1).1 (part_ok ih o h2) (part_ok ih o h3)) fun _ => rfl
      · cases h
    · rename_i hn
      split at h
      · rename_i x y h1 h2
        cases h
        refine .val (DE_ix (ix_all (by have := o.u65; omega)) ok_ix (ih X sc fnB Wx a x o h1).1 (ih X sc fnB Wx b y o h2).1 (plain_ix fun lo hi p e => hn lo hi p e)) fun _ => rfl
      · cases h
theorem isin_ok (ih : IH G Φ r) (hs : ∀ e c, r sc e = some c → starE e = false) (o : XOk G Φ X sc fnB Wx) {args : List Expr} {c : CE} {p pos : Pos} (hg : glB sc ("isinstance" : Str) = true) (h : cIsin G sc (r sc) args = some c) : Both X Wx (.Call (.Name "isinstance" p) args [] pos) (ev Φ c) := by
  have hm : X.mg "isinstance" = none := o.bl _ (by decide)
  unfold cIsin at h
  split at h
  · split at h
    · rename_i ty x h1 h2
      split at h
      · rename_i hgt
        cases h
        have e := tyOf_name h1
        subst e
        exact .val (DE_isin1 (o.gl hg) hm (ih X sc fnB Wx _ x o h2).1 (o.gl hgt) (o.ty ty) (star_cons (hs _ x h2) _ _)) fun _ => rfl
      · cases h
    · rename_i t _ _ _ x h1 h2
      split at h
      · rename_i hgt
        cases h
        have key : ∀ c b, (isaTab G t).lookup c = some b → Isa X c t b := fun c b e => by
          have m := PySem.mem_of_lookup e
          unfold isaTab at m
          obtain ⟨⟨⟨c', y'⟩, b'⟩, h3, h4⟩ := List.mem_filterMap.mp m
          split at h4
          · rename_i hy
            cases h4
            have hy : y' = t := hy
            subst hy
            exact o.isa _ _ _ h3
          · cases h4
        have ne : ∃ c b, (isaTab G t).lookup c = some b := by
          cases z : isaTab G t with
          | nil => rw [z] at hgt; exact absurd hgt.2 (by simp)
          | cons p l => exact ⟨p.1, p.2, by rw [List.lookup_cons, beq_self_eq_true]⟩
        exact .val (DE_isE (o.gl hg) hm (ih X sc fnB Wx _ x o h2).1 (o.gl hgt.1) ne key (star_cons (hs _ x h2) _ _)) fun _ => rfl
      · cases h
    · cases h
  · split at h
    · rename_i ty ty2 x h1 h1' h2
      split at h
      · rename_i hgt
        cases h
        have e := tyOf_name h1
        subst e
        have e := tyOf_name h1'
        subst e
        exact .val (DE_isin2 (o.gl hg) hm (ih X sc fnB Wx _ x o h2).1 (o.gl hgt.1) (o.ty ty) (o.gl hgt.2) (o.ty ty2) (star_cons (hs _ x h2) _ _)) fun _ => rfl
      · cases h
    · cases h
  · cases h
theorem bi_call (ih : IH G Φ r) (hs : ∀ e c, r sc e = some c → starE e = false) (o : XOk G Φ X sc fnB Wx) {x : Str} {args : List Expr} {c : CE} {p pos : Pos} (hg : glB sc x = true) (h : cBi (r sc) x args = some c) : Both X Wx (.Call (.Name x p) args [] pos) (ev Φ c) := by
  unfold cBi at h
  split at h
  · cases h
  · rename_i hne
    split at h
    · rename_i b es h1 h2
      cases h
      have e := biOf_name h1
      subst e
      cases args with
      | nil => exact absurd rfl hne
      | cons a as =>
        obtain ⟨x, y, g1, g2, rfl⟩ := recs_cons h2
        refine .val (DE_bi o.calm o.u65 (o.gl hg) (o.bi b) (recs_ok ih hs o h2) (star_cons (hs a x g1) as X.env) ?_) fun _ => rfl
        rw [backTo_any]
        exact (recs_plain hs X.env g2).1
    · cases h
theorem rng_call (ih : IH G Φ r) (hs : ∀ e c, r sc e = some c → starE e = false) (o : XOk G Φ X sc fnB Wx) {t : Bool} {args : List Expr} {c : CE} {p pos : Pos} (hg : glB sc (Str.ofString (if t then "tuple" else "list")) = true) (h : cRng sc (r sc) t args = some c) : Both X Wx (.Call (.Name (Str.ofString (if t then "tuple" else "list")) p) args [] pos) (ev Φ c) := by
  have hm : X.mg (Str.ofString (if t then "tuple" else "list")) = none := by cases t <;> exact o.bl _ (by decide)
  have mr : X.mg "range" = none := o.bl _ (by decide)
  unfold cRng at h
  split at h
  · split at h
    · rename_i hq
      obtain ⟨rfl, hgr⟩ := hq
      obtain ⟨x, h1, rfl⟩ := Option.map_eq_some_iff.mp h
      exact .val (DE_rng1 o.calm (o.gl hg) hm (o.gl hgr) mr (ih X sc fnB Wx _ x o h1).1 (star_cons (hs _ x h1) _ _)) fun _ => rfl
    · cases h
  · split at h
    · rename_i hq
      obtain ⟨rfl, hgr⟩ := hq
      split at h
      · rename_i x y h1 h2
        cases h
        refine .val (DE_rng2 o.calm (o.gl hg) hm (o.gl hgr) mr (ih X sc fnB Wx _ x o h1).1 (ih X sc fnB Wx _ y o h2).1 (star_cons (hs _ x h1) _ _) (star_cons (hs _ y h2) _ _) ?_) fun _ => rfl
        rw [star_cons (hs _ y h2)]
        rfl
      · cases h
    · cases h
  · cases h
theorem sset_call (ih : IH G Φ r) (hs : ∀ e c, r sc e = some c → starE e = false) (o : XOk G Φ X sc fnB Wx) {args : List Expr} {c : CE} {p pos : Pos} (hg : glB sc "sorted" = true) (h : cSset sc (r sc) args = some c) : Both X Wx (.Call (.Name "sorted" p) args [] pos) (ev Φ c) := by
  have hm : X.mg "sorted" = none := o.bl _ (by decide)
  have mr : X.mg "set" = none := o.bl _ (by decide)
  unfold cSset at h
  split at h
  · split at h
    · rename_i hq
      obtain ⟨rfl, hgr⟩ := hq
      obtain ⟨x, h1, rfl⟩ := Option.map_eq_some_iff.mp h
      exact .val (DE_ssort o.calm (o.gl hg) hm (o.gl hgr) mr (ih X sc fnB Wx _ x o h1).1 (star_cons (hs _ x h1) _ _)) fun _ => rfl
    · cases h
  · cases h
theorem call_ok' (ih : IH G Φ r) (hs : ∀ e c, r sc e = some c → starE e = false) (o : XOk G Φ X sc fnB Wx) {x : Str} {args : List Expr} {c : CE} {p pos : Pos} (h : cCall G sc (r sc) x args = some c) : Both X Wx (.Call (.Name x p) args [] pos) (ev Φ c) := by
  unfold cCall at h
  split at h
  · cases h
  · rename_i hg
    have hg : glB sc x = true := by simpa using hg
    split at h
    · rename_i hx
      subst hx
      exact isin_ok ih hs o hg h
    split at h
    · cases h
    · rename_i hx0
      split at h
      · rename_i k hk
        cases args with
        | nil => cases h
        | cons a as =>
          simp only at h
          split at h
          · rename_i hl
            obtain ⟨es, h1, rfl⟩ := Option.map_eq_some_iff.mp h
            obtain ⟨q, hq, hq2⟩ := Option.map_eq_some_iff.mp hl
            obtain ⟨hkl, hke, _⟩ := List.findIdx?_eq_some_iff_getElem.mp hk
            rw [List.getElem?_eq_getElem hkl] at hq
            cases hq
            have ex : G.fns[k].1 = x := eq_of_beq hke
            obtain ⟨hnm, f, fd, ps, fn, e1, e2, e3, e4, e5⟩ := o.fns k G.fns[k].1 G.fns[k].2 (List.getElem?_eq_getElem hkl) (by rw [ex]; exact hx0)
            rw [ex] at e2 hnm
            obtain ⟨a', b', g1, g2, rfl⟩ := recs_cons h1
            refine .val (PE.imp (pe_callSD e5 (o.room.mono (Nat.le_add_right _ _)) (o.gl hg) e2 e3 e4 .nil (fun σ => passAt o.tk σ) (recs_ok ih hs o h1) (nm_ok hnm).1 (star_cons (hs a a' g1) as X.env) ?_) fun σ H Q q => ?_) fun _ => rfl
            · rw [backTo_any]
              exact (recs_plain hs X.env g2).1
            · refine call_ok (fn := fn) (fun ρ rs ρ' e => ?_) ?_
              · rw [recs_len h1 ρ rs ρ' e]
                exact hq2.symm
              · have ee : ev Φ (.call k (.cons a' b')) = fun ρ => (evs Φ (.cons a' b') ρ).bind fun rs ρ1 => callEv fn rs ρ1 := by
                  funext ρ
                  show (match Φ[k]? with
                    | some fn => (evs Φ (.cons a' b') ρ).bind fun rs ρ1 => callEv fn rs ρ1
                    | none => .bad) = _
                  rw [e1]
                rw [ee] at q
                exact q
          · cases h
      · split at h
        · split at h
          · rename_i hx
            subst hx
            exact sset_call ih hs o hg h
          · cases h
        split at h
        · split at h
          · rename_i hx
            subst hx
            exact rng_call (t := false) ih hs o hg h
          · split at h
            · rename_i hx
              subst hx
              exact rng_call (t := true) ih hs o hg h
            · cases h
        · exact bi_call ih hs o hg h
theorem base_ok {o : Expr} (h : noCall o = true) (nm : Str) (env : PySem.Env) (whole : Sem Value) : attributeBase o nm env whole = whole := by
  cases o <;> first | rfl | cases h
theorem msyn_ok (hs : ∀ e c, r sc e = some c → starE e = false) {oo a : Expr} {as : List Expr} {m : Str} {apos cpos : Pos} {es : CE} (hc : noCall oo = true) (hl : (apos.endLine == cpos.line) = true) (hz : (a :: as).length < 20) (h : recsOf (r sc) (a :: as) = some es) : MSyn X oo m apos a as cpos := by
  obtain ⟨a', b', g1, g2, rfl⟩ := recs_cons h
  refine ⟨base_ok hc _ _ _, ?_, hl, star_cons (hs a a' g1) as X.env, ?_⟩
  · rw [backTo_all, (recs_plain hs X.env h).2]
    show (true && true && decide ((a :: as).length + 0 + 0 < 30)) = true
    rw [decide_eq_true (by omega)]
    rfl
  · rw [backTo_any]
    exact (recs_plain hs X.env g2).1
/-- what is not covered: no promise -/
theorem pe_bad {e : Expr} : PE X e (tD Wx fun _ => .bad) := ⟨fun _ _ _ _ _ _ h => by
  obtain ⟨_, _, _, h⟩ := h
  exact h.elim⟩
theorem meth_ok (ih : IH G Φ r) (hs : ∀ e c, r sc e = some c → starE e = false) (o : XOk G Φ X sc fnB Wx) {oo : Expr} {m : Str} {args : List Expr} {c : CE} {apos pos : Pos} (hc : noCall oo = true) (hl : (apos.endLine == pos.line) = true) (hz : args.length < 20) (h : cMeth (r sc) oo m args = some c) :
    Both X Wx (.Call (.Attribute oo m apos) args [] pos) (ev Φ c) := by
  unfold cMeth at h
  cases hro : r sc oo with
  | none => simp only [hro] at h; cases h
  | some ro =>
    simp only [hro] at h
    have bo := ih X sc fnB Wx oo ro o hro
    cases args with
    | nil =>
      simp only at h
      split at h
      · rename_i hm
        subst hm
        cases h
        exact .val (DE_pop bo.1 (base_ok hc _ _ _) hl) fun _ => rfl
      · split at h
        · cases h
          exact .val pe_bad fun _ => rfl
        · cases h
    | cons a as =>
      simp only at h
      cases hes : recsOf (r sc) (a :: as) with
      | none => simp only [hes] at h; cases h
      | some es =>
        simp only [hes] at h
        have S : MSyn X oo m apos a as pos := msyn_ok hs hc hl hz hes
        have pa := recs_ok ih hs o hes
        split at h
        · rename_i hm; subst hm; cases h
          exact .val (DE_mu (m := .append) rfl (by decide) bo.1 pa S) fun _ => rfl
        · split at h
          · rename_i hm; subst hm; cases h
            exact .val (DE_mu (m := .extend) rfl (by decide) bo.1 pa S) fun _ => rfl
          · split at h
            · rename_i hm; subst hm
              split at h
              · cases h
                exact .val (DE_mu (m := .lpop) rfl (by decide) bo.1 pa S) fun _ => rfl
              · cases h
                exact .val (DE_mu (m := .dpop) rfl (by decide) bo.1 pa S) fun _ => rfl
            · obtain ⟨mt, h1, rfl⟩ := Option.map_eq_some_iff.mp h
              have e := mtOf_name h1
              subst e
              exact .val (DE_mt (m := mt) o.u65 bo.1 pa S) fun _ => rfl
end
end BX

set_option Elab.async false
set_option linter.all false
set_option maxRecDepth 100000
set_option maxHeartbeats 4000000
namespace BX
open PySem PySem.Spec PyProof.Rows L2 RZ
variable [Tbs]

section
variable {G : CG} {Φ : List Fn} {X : Cx} {sc : Scope} {fnB : Str → Bool} {Wx : XW} {r : Scope → Expr → Option CE}
theorem XOk.loc (o : XOk G Φ X sc fnB Wx) {x : Str} (h : storeB sc fnB x = true) : Loc X.env.scope x ∧ (X.fn x = true ∨ X.env.scope.names.lookup x = some .local) := by
  rw [o.esc, o.fnb]
  unfold storeB at h
  split at h
  · rename_i e; exact ⟨.inl e, .inr e⟩
  · rename_i e; exact ⟨.inr e, .inl h⟩
  · cases h
theorem ts_ok (o : XOk G Φ X sc fnB Wx) : ∀ {es : List Expr} {is : List Nat}, compTs G sc fnB es = some is → PGs X es (gTs is) ∧ (assignEach es X.env).length = is.length ∧ (assignEach es X.env).findIdx? (·.1) = none
  | [], is, h => by cases h; exact ⟨pgs_nil, rfl, rfl⟩
  | e :: es, is, h => by
    cases e <;> try cases h
    rename_i x p
    unfold compTs at h
    split at h
    · rename_i hst
      split at h
      · rename_i i is' h1 h2
        cases h
        obtain ⟨g1, g2, g3⟩ := ts_ok o h2
        obtain ⟨l1, l2⟩ := o.loc hst
        refine ⟨pgs_cons (pg_name o.nd (by rw [o.hN]; exact idx_get h1) l1 l2) g1 rfl, ?_, ?_⟩
        · show ((false, assign (.Name x p) X.env) :: assignEach es X.env).length = _
          rw [List.length_cons, g2]; rfl
        · show List.findIdx? (·.1) ((false, assign (.Name x p) X.env) :: assignEach es X.env) = none
          rw [List.findIdx?_cons, g3]; rfl
      · cases h
    · cases h
theorem t_ok (o : XOk G Φ X sc fnB Wx) {e : Expr} {ct : CT} (h : compT G sc fnB e = some ct) : PG X e (gOf X.K ct) := by
  cases e <;> try cases h
  · rename_i x p
    have h : (if storeB sc fnB x = true then (G.N.idxOf? x).map CT.nm else none) = some ct := h
    split at h
    · rename_i hst
      obtain ⟨i, h1, rfl⟩ := Option.map_eq_some_iff.mp h
      obtain ⟨l1, l2⟩ := o.loc hst
      exact pg_name o.nd (by rw [o.hN]; exact idx_get h1) l1 l2
    · cases h
  · rename_i es k p
    obtain ⟨is, h1, rfl⟩ := Option.map_eq_some_iff.mp h
    obtain ⟨g1, g2, g3⟩ := ts_ok o h1
    exact pg_un o.calm g1 g2 g3
theorem isTup_ok {tg : Expr} (h : isTup tg = true) : ∃ es k p, tg = .Tuple es k p := by
  cases tg <;> first | exact ⟨_, _, _, rfl⟩ | cases h
theorem iter_ok (ih : IH G Φ r) (hs : ∀ e c, r sc e = some c → starE e = false) (o : XOk G Φ X sc fnB Wx) {tg e : Expr} {c : CE} (h : cIter sc (r sc) tg e = some c) : PI X tg e (tIt Wx (evI Φ c)) := by
  have seq : ∀ {e : Expr} {c : CE}, (r sc e).map CE.iseq = some c → PI X tg e (tIt Wx (evI Φ c)) := fun {e c} h => by
    obtain ⟨a, h1, rfl⟩ := Option.map_eq_some_iff.mp h
    exact DI_seq (ih X sc fnB Wx e a o h1).1
  unfold cIter at h
  split at h
  · rename_i x p args q
    unfold cIter2 at h
    split at h
    · cases h
    · rename_i hg
      have hg : glB sc x = true := by simpa using hg
      split at h
      · rename_i hx
        subst hx
        have mr : X.mg "range" = none := o.bl _ (by decide)
        split at h
        · rename_i a
          obtain ⟨es, h1, rfl⟩ := Option.map_eq_some_iff.mp h
          obtain ⟨a', b', g1, g2, rfl⟩ := recs_cons h1
          exact DI_rng1 (o.gl hg) mr (recs_ok ih hs o h1) (star_cons (hs _ _ g1) _ _) fun ρ rs ρ' e => recs_len h1 ρ rs ρ' e
        · rename_i a b
          obtain ⟨es, h1, rfl⟩ := Option.map_eq_some_iff.mp h
          obtain ⟨a', b', g1, g2, rfl⟩ := recs_cons h1
          obtain ⟨a2, b2, k1, k2, rfl⟩ := recs_cons g2
          refine DI_rng2 (o.gl hg) mr (recs_ok ih hs o h1) ?_ (star_cons (hs _ _ k1) _ _) fun ρ rs ρ' e => recs_len h1 ρ rs ρ' e
          rw [star_cons (hs _ _ g1), star_cons (hs _ _ k1)]
          rfl
        · cases h
      · split at h
        · rename_i hx
          subst hx
          have mr : X.mg "zip" = none := o.bl _ (by decide)
          split at h
          · rename_i a b
            split at h
            · rename_i ht
              obtain ⟨tes, k, tp, rfl⟩ := isTup_ok ht
              obtain ⟨es, h1, rfl⟩ := Option.map_eq_some_iff.mp h
              obtain ⟨a', b', g1, g2, rfl⟩ := recs_cons h1
              refine DI_zip (o.gl hg) mr (recs_ok ih hs o h1) (star_cons (hs _ _ g1) _ _) ?_
              rw [backTo_any]
              exact (recs_plain hs X.env g2).1
            · cases h
          · cases h
        · split at h
          · rename_i hx
            subst hx
            have mr : X.mg "enumerate" = none := o.bl _ (by decide)
            split at h
            · rename_i a
              split at h
              · rename_i ht
                obtain ⟨tes, k, tp, rfl⟩ := isTup_ok ht
                obtain ⟨es, h1, rfl⟩ := Option.map_eq_some_iff.mp h
                obtain ⟨a', b', g1, g2, rfl⟩ := recs_cons h1
                exact DI_enum (o.gl hg) mr (recs_ok ih hs o h1) (star_cons (hs _ _ g1) _ _)
              · cases h
            · cases h
          · exact seq h
  · exact seq h
/-- within a comprehension's block -/
theorem XOk.blk (o : XOk G Φ X sc fnB Wx) (hl : G.lam = false) {scope : Scope} (hk : scope.kind = .function) (s : Shared) (H : Hp) (C : Addr) (cl : List (Str × Addr)) (fp : List Addr) :
    XOk G Φ (X.blk s H scope (compEnvC scope cl C X.env) fp) (relS scope sc) (fun x => scope.names.lookup x == some NameKind.cell) NoX := by
  refine ⟨o.hN, o.nd, ?_, hk, o.calm, o.room, rfl, o.bl, o.cst, o.fns, o.exc, ?_, o.cls, o.isa, (fun h => absurd h (by rw [hl]; decide)), o.tks⟩
  · show relabel scope X.env = relS scope sc
    rw [← o.esc]
    rfl
  · intro u s' x
    obtain ⟨_, _, _, _, _, _, _, _, _, _, _, _, _, _, _, _, _, _, _, z⟩ := x
    exact z.elim
theorem setE_ok {e : Expr} (h : setE e = false) (env : PySem.Env) (x : Value) : foldedSetIterable e env x = pure x := by
  cases e <;> first | rfl | cases h
/-- a comprehension's parts -/
structure LcP (G : CG) (Φ : List Fn) (X : Cx) (sc : Scope) (Wx : XW) (elt tg iter : Expr) (ifs : List Expr) (scope : Scope) (c : CE) : Prop where
  ex : ∃ f ct it cc own, c = .lc f ct it cc (own.map (·.2)) ∧ BlkOk X.N X.env.scope scope own ∧ PI X tg iter (tIt Wx (evI Φ it)) ∧ (∀ i ∈ ct.slots, i ∈ own.map (·.2)) ∧
    (∀ (s : Shared) (H : Hp) (C : Addr) (cl : List (Str × Addr)) (fp : List Addr), PG (X.blk s H scope (compEnvC scope cl C X.env) fp) tg (gOf X.K ct)) ∧
    (∃ tt, (∀ (s : Shared) (H : Hp) (C : Addr) (cl : List (Str × Addr)) (fp : List Addr), PTs (X.blk s H scope (compEnvC scope cl C X.env) fp) ifs tt) ∧ ∀ σ H Q, tTs NoX (evB Φ cc) σ H Q → tt σ H Q) ∧
    (∀ (s : Shared) (H : Hp) (C : Addr) (cl : List (Str × Addr)) (fp : List Addr), PE (X.blk s H scope (compEnvC scope cl C X.env) fp) elt (tD NoX (ev Φ f))) ∧ setE iter = false
theorem lc_parts (hl : G.lam = false) (ih : IH G Φ r) (hs : ∀ e c, r sc e = some c → starE e = false) (o : XOk G Φ X sc fnB Wx) {elt : Expr} {gens : List Comprehension} {scope : Scope} {c : CE} (h : cLc G sc r elt gens scope = some c) :
    ∃ tg iter ifs, gens = [⟨tg, iter, ifs, 0⟩] ∧ LcP G Φ X sc Wx elt tg iter ifs scope c := by
  unfold cLc at h
  split at h
  · rename_i tg iter ifs
    refine ⟨tg, iter, ifs, rfl, ?_⟩
    split at h
    · rename_i hb
      obtain ⟨hblk, hset⟩ := hb
      have blk : BlkOk X.N X.env.scope scope (ownOf G scope) := by rw [o.hN, o.esc]; exact blkOk_by hblk
      split at h
      · rename_i ct it cc f h1 h2 h3 h4
        split at h
        · rename_i hsl
          cases h
          refine ⟨f, ct, it, cc, ownOf G scope, rfl, blk, iter_ok ih hs o h2, fun i hi => ?_, fun s H C cl fp => t_ok (o.blk hl blk.kind s H C cl fp) h1, ?_, fun s H C cl fp => (ih _ _ _ _ elt f (o.blk hl blk.kind s H C cl fp) h4).1, hset⟩
          · have := List.all_eq_true.mp hsl i hi
            simpa using this
          · cases ifs with
            | nil =>
              cases h3
              exact ⟨tYes, fun s H C cl fp => pts_nil, fun σ H Q ⟨F, ρ, s, q⟩ => q F H (.refl s)⟩
            | cons e es =>
              cases es with
              | cons _ _ => cases h3
              | nil =>
                obtain ⟨a, g1, rfl⟩ := Option.map_eq_some_iff.mp h3
                exact ⟨_, fun s H C cl fp => pts_one (ih _ _ _ _ e a (o.blk hl blk.kind s H C cl fp) g1).2, fun σ H Q q => q⟩
        · cases h
      · cases h
    · cases h
  · cases h
theorem lc_both (hl : G.lam = false) (ih : IH G Φ r) (hs : ∀ e c, r sc e = some c → starE e = false) (o : XOk G Φ X sc fnB Wx) {elt : Expr} {gens : List Comprehension} {scope : Scope} {c : CE} {pos : Pos} (h : cLc G sc r elt gens scope = some c) : Both X Wx (.ListComp elt gens scope pos) (ev Φ c) := by
  obtain ⟨tg, iter, ifs, rfl, ⟨f, ct, it, cc, own, rfl, blk, pi, hsl, hg, ⟨tt, ht, hc⟩, he, hset⟩⟩ := lc_parts hl ih hs o h
  refine .val (PE.imp (pe_lc o.calm o.nd pi blk hg ht he fun x => setE_ok hset X.env x) fun σ H Q q => ?_) fun _ => rfl
  exact lc_ok (K := X.K) hsl hc q
end
section
variable {G : CG} {Φ : List Fn} {X : Cx} {sc : Scope} {fnB : Str → Bool} {Wx : XW}
/-- within a lambda's body -/
theorem XOk.inLam (o : XOk G Φ X sc fnB Wx) {A : Around} {outer : List PySem.Env} {s : Shared} {H : Hp} {E : XK} {scope : Scope} {f c' : Addr} (L : LamX.LamS X.env.scope scope) (hr : Room G.lv (A.deeper (LamX.lamEnv X scope s.heap.objs.size f c'))) :
    XOk G.off Φ (LamX.lamCx X A outer s H E scope f c') scope (fun _ => false) (fun c _ H' => E (Tbs.cls c) none H') := by
  refine ⟨o.hN, o.nd, rfl, L.kind, rfl, hr, rfl, o.bl, o.cst, o.fns, o.exc, ?_, o.cls, o.isa, (fun h => nomatch h), o.tks⟩
  refine Takes.imp (takes_of (E₁ := fun e' s'' => L2.CX X.prog X.w outer H s E e' s'') rfl rfl rfl rfl) fun c d σ H' z => ?_
  obtain ⟨y, rfl, rfl, z⟩ := z
  rw [o.cls] at z
  exact z
theorem lam_ok {n : Nat} (ih : IH G.off Φ (compE n G.off)) (o : XOk G Φ X sc fnB Wx) {x : Str} {body : Expr} {scope : Scope} {c : CE} {p lpos pos : Pos} (h : cLam G sc (compE n G.off) x body scope = some c) :
    Both X Wx (.Call (.Name x p) [.Lambda ⟨[], [], none, [], [], none, []⟩ body scope lpos] [] pos) (ev Φ c) := by
  unfold cLam at h
  split at h
  · rename_i hc
    obtain ⟨hg, hl, h4, hL⟩ := hc
    split at h
    · rename_i k b h1 h2
      cases h
      obtain ⟨fn, e1, hnm, g, pg, bg, sg, dV, kV, doc, pm, cdv, ct, oc, an, od, osl, Ng, a, k1, k2, k3, k4, k5, k6, k7, k8, k9, k10⟩ := o.tks x k h1
      obtain ⟨cc, P, l1, l2, l3, l4⟩ := o.lam hl
      have L : LamX.LamS X.env.scope scope := by rw [o.esc]; exact LamX.lamS_by hL
      have hrm : G.rm = G.lv + 2 := by unfold CG.rm; rw [if_pos hl]
      have room := o.room
      rw [hrm] at room
      have ee : ev Φ (.rfc k G.excs b) = evRef G.excs fn.run (ev Φ b) := by
        funext ρ
        show (match Φ[k]? with
          | some fn => evRef G.excs fn.run (ev Φ b) ρ
          | none => .bad) = _
        rw [e1]
      rw [ee]
      refine .val (PE.imp (LamX.pe_lamcall (T := Tbs.T) (TT := TTr G.excs fn.run) (t := fun E => tD (fun c _ H' => E (Tbs.cls c) none H') (ev Φ b)) (o.gl hg) k1 k2 k3 k4 k5 k6 k7 k8
        (k10 X rfl rfl rfl rfl rfl (room.mono (by omega)) _) l2 l1 l3 l4 room L rfl (fun _ _ _ _ _ => rfl) (fun A outer s H E f c' hr => (ih _ _ _ _ body b (o.inLam L hr) h2).1) (nm_ok hnm).1 (nm_ok k9).1 (nm_ok k9).2) fun σ H Q q => ref_ok q) fun _ => rfl
    · cases h
  · cases h
end
section
variable {Φ : List Fn}
theorem con_ok {X : Cx} {Wx : XW} {c : Const} {d : D} {k : Nat} {p : Pos} (h : conC c = some d) : PE X (.Constant c k p) (tD Wx (evC d)) := by
  cases c <;> cases h
  · exact DE_C pe_non rfl
  · exact DE_C pe_bl rfl
  · exact DE_C pe_int rfl
  · exact DE_C pe_str rfl
/-- THE RULE for expressions -/
theorem compE_ok : ∀ (n : Nat) {G : CG}, IH G Φ (compE n G)
  | 0, G => fun X sc fnB Wx e c o h => by cases h
  | n + 1, G => fun X sc fnB Wx e c o h => by
    have ih := compE_ok n (G := G)
    have ih' := compE_ok n (G := G.off)
    have hs : ∀ sc e c, compE n G sc e = some c → starE e = false := fun sc e c => compE_star
    have hs' : ∀ sc e c, compE n G.off sc e = some c → starE e = false := fun sc e c => compE_star
    cases e <;> try cases h
    case BoolOp op es p =>
      cases op with
      | And => have b := and_ok ih o p h; exact ⟨b.1, b.2.pt⟩
      | Or => have b := or_ok ih o p h; exact ⟨b.1, b.2.pt⟩
    case BinOp a op b p =>
      have h : (match compE n G sc a, compE n G sc b with
        | some a, some b => some (.bin op a b)
        | _, _ => none) = some c := h
      split at h
      · rename_i x y h1 h2
        cases h
        obtain ⟨r, g1, g2⟩ := bo_ok (X := X) op
        exact .val (DE_bin g1 g2 (ih X sc fnB Wx a x o h1).1 (ih X sc fnB Wx b y o h2).1) fun _ => rfl
      · cases h
    case UnaryOp op a p =>
      cases op <;> try cases h
      · obtain ⟨x, h1, rfl⟩ := Option.map_eq_some_iff.mp h
        have b := ih X sc fnB Wx a x o h1
        exact ⟨DE_not b.1, DT_not b.2⟩
      · obtain ⟨x, h1, rfl⟩ := Option.map_eq_some_iff.mp h
        exact .val (DE_un un_neg ok_neg (ih X sc fnB Wx a x o h1).1) fun _ => rfl
    case IfExp cc a b p =>
      have h : (match compE n G sc cc, compE n G sc a, compE n G sc b with
        | some c, some a, some b => some (.ite c a b)
        | _, _, _ => none) = some c := h
      split at h
      · rename_i x y z h1 h2 h3
        cases h
        have b1 := ih X sc fnB Wx _ x o h1
        have b2 := ih X sc fnB Wx _ y o h2
        have b3 := ih X sc fnB Wx _ z o h3
        exact ⟨DE_ite b1.2 b2.1 b3.1, DT_ite b1.2 b2.2 b3.2⟩
      · cases h
    case Dict ks vs p =>
      cases ks <;> try cases h
      cases vs <;> try cases h
      exact .val DE_dict fun _ => rfl
    case ListComp elt gens scope p => exact lc_both (G := G.off) rfl ih' (hs' sc) o.off h
    case Compare a ops bs p =>
      have hm1 : ∀ (op : CmpOp) (b : Expr), setE b = false → behindInMarks op b = false := fun op b hb => by cases b <;> first | rfl | cases hb
      cases ops <;> try cases h
      rename_i op ops
      cases ops with
      | nil =>
        cases bs <;> try cases h
        rename_i b bs
        cases bs <;> try cases h
        have h : (if setE b = true then none else match compE n G sc a, compE n G sc b with
          | some a, some b => some (.cmp op a b)
          | _, _ => none) = some c := h
        split at h
        · cases h
        · rename_i hb
          split at h
          · rename_i x y h1 h2
            cases h
            obtain ⟨r, g1, g2⟩ := co_ok (X := X) o.u65 op
            have b1 := ih X sc fnB Wx a x o h1
            have b2 := ih X sc fnB Wx b y o h2
            have hm := hm1 op b (by simpa using hb)
            exact ⟨DE_cmp g1 g2 b1.1 b2.1 hm, DT_cmp g1 g2 b1.1 b2.1 hm⟩
          · cases h
      | cons op' ops =>
        cases ops <;> try cases h
        cases bs <;> try cases h
        rename_i b bs
        cases bs <;> try cases h
        rename_i c3 bs
        cases bs <;> try cases h
        have h : (if setE c3 = true then none else match compE n G sc a, compE n G sc b, compE n G sc c3 with
          | some a, some b, some c => some (.chain op op' a b c)
          | _, _, _ => none) = some c := h
        split at h
        · cases h
        · rename_i hb
          split at h
          · rename_i x y z h1 h2 h3
            cases h
            obtain ⟨r, g1, g2⟩ := co_ok (X := X) o.u65 op
            obtain ⟨r', g1', g2'⟩ := co_ok (X := X) o.u65 op'
            have b1 := ih X sc fnB Wx a x o h1
            have b2 := ih X sc fnB Wx b y o h2
            have b3 := ih X sc fnB Wx c3 z o h3
            have hm : lastMarks [op, op'] [b, c3] = false := hm1 op' c3 (by simpa using hb)
            exact ⟨DE_chain g1 g1' g2 g2' b1.1 b2.1 b3.1 hm, DT_chain g1 g1' g2 g2' b1.1 b2.1 b3.1 hm⟩
          · cases h
    case Call f args kws p =>
      cases f <;> try cases h
      · rename_i oo m apos
        cases kws <;> try cases h
        have h : (if (apos.endLine == p.line) = true ∧ noCall oo = true ∧ args.length < 20 then cMeth (compE n G sc) oo m args else none) = some c := h
        split at h
        · rename_i hc
          exact meth_ok ih (hs sc) o hc.2.1 hc.1 hc.2.2 h
        · cases h
      · rename_i x p'
        cases kws <;> try cases h
        have h : cCallL G sc (compE n G sc) (compE n G.off) x args = some c := h
        unfold cCallL at h
        split at h
        · exact lam_ok ih' o h
        · exact call_ok' ih (hs sc) o h
    case Constant cc k p =>
      obtain ⟨d, h1, rfl⟩ := Option.map_eq_some_iff.mp h
      exact .val (con_ok h1) fun _ => rfl
    case Subscript a b p => exact sub_ok ih o h
    case Name x p =>
      have h : (if nmOk x = true then (if visB sc x = true then (G.N.idxOf? x).map CE.var else if glB sc x = true then (G.cst.lookup x).map CE.cst else none) else none) = some c := h
      split at h
      · rename_i hnm
        split at h
        · rename_i hv
          obtain ⟨i, h1, rfl⟩ := Option.map_eq_some_iff.mp h
          exact .val (DE_var (by rw [o.hN]; exact idx_get h1) (o.vis hv) (nm_ok hnm).1 (nm_ok hnm).2) fun _ => rfl
        · split at h
          · rename_i hg
            obtain ⟨d, h1, rfl⟩ := Option.map_eq_some_iff.mp h
            obtain ⟨u, v, e1, e2, e3⟩ := o.cst x d h1
            exact .val (DE_C (pe_glob (o.gl hg) e1 e2 (nm_ok hnm).1) e3) fun _ => rfl
          · cases h
      · cases h
    case List es p =>
      obtain ⟨cc, h1, rfl⟩ := Option.map_eq_some_iff.mp h
      exact .val (DE_lst (recs_ok ih (hs sc) o h1)) fun _ => rfl
    case Tuple es k p =>
      obtain ⟨cc, h1, rfl⟩ := Option.map_eq_some_iff.mp h
      exact .val (DE_tup (recs_ok ih (hs sc) o h1)) fun _ => rfl
end
end BX

set_option Elab.async false
set_option linter.all false
set_option maxRecDepth 100000
set_option maxHeartbeats 4000000
namespace BX
open PySem PySem.Spec PyProof.Rows L2 RZ
variable [Tbs]

/-! ## statements from the model's syntax -/
def swB (sc : Scope) (e : Expr) (t : Str) (tline : Nat) : Bool := match e with
  | .ListComp _ _ s p => sc.names.lookup t == some .local && tline == p.line && !(s.names.any fun (n, k) => n == t && (k == .local || k == .cell))
  | .SetComp _ _ s p => sc.names.lookup t == some .local && tline == p.line && !(s.names.any fun (n, k) => n == t && (k == .local || k == .cell))
  | .DictComp _ _ _ s p => sc.names.lookup t == some .local && tline == p.line && !(s.names.any fun (n, k) => n == t && (k == .local || k == .cell))
  | _ => false
theorem block_fn {env : PySem.Env} (h : env.scope.kind = .function) : env.blockKind = .function := by unfold Env.blockKind; rw [h]; rfl
theorem sw_eq {env : PySem.Env} {sc : Scope} (hk : env.scope.kind = .function) (hsc : env.scope = sc) (e : Expr) (t : Str) (p : Pos) (l : Nat) : swapsWith e (some (.Name t p)) l env = pure (swB sc e t p.line) := by
  have hb := block_fn hk
  subst hsc
  cases e <;> first
    | rfl
    | (unfold swapsWith swB
       simp only [hb, Env.kindOf, beq_self_eq_true, Bool.true_and, Expr.pos])
def swNames (sc : Scope) (ts : List Expr) : List Str :=
  let line := (ts.head?.map (·.pos.line)).getD 0
  ts.filterMap fun
    | .Name id pos => if sc.names.lookup id == some .local && pos.line == line then some id else none
    | _ => none
def swpF (sc : Scope) (ts vs : List Expr) : Option (Option (List Str)) :=
  if (!(ts.length == 2 || ts.length == 3) || vs.length != ts.length) = true then some none
  else if (vs.any fun | .Starred .. => true | _ => false) = true then some none
  else if ((swNames sc ts).length != ts.length || (swNames sc ts).eraseDups.length != (swNames sc ts).length) = true then some none
  else if vs.all (foldedForSure 8) = true then some none
  else if vs.all (constantsAlone 8) = true then none
  else some (some (swNames sc ts))
theorem swp_eq {env : PySem.Env} {sc : Scope} (hk : env.scope.kind = .function) (hsc : env.scope = sc) {ts vs : List Expr} {k k2 : Nat} {p p2 : Pos} {r : Option (List Str)} (h : swpF sc ts vs = some r) :
    swappedStores [.Tuple ts k p] (.Tuple vs k2 p2) env = pure r := by
  have hb := block_fn hk
  subst hsc
  unfold swpF swNames at h
  unfold swappedStores
  simp only [hb, bne_self_eq_false, Bool.or_false]
  split at h
  · rename_i h1
    cases h
    rw [if_pos h1]
  · rename_i h1
    rw [if_neg h1]
    split at h
    · rename_i h2
      cases h
      refine Eq.trans (if_pos h2) ?_
      rfl
    · rename_i h2
      refine Eq.trans (if_neg h2) ?_
      split at h
      · rename_i h3
        cases h
        refine Eq.trans (if_pos h3) ?_
        rfl
      · rename_i h3
        refine Eq.trans (if_neg h3) ?_
        split at h
        · rename_i h4
          cases h
          refine Eq.trans (if_pos h4) ?_
          rfl
        · rename_i h4
          refine Eq.trans (if_neg h4) ?_
          split at h
          · cases h
          · rename_i h5
            refine Eq.trans (if_neg h5) ?_
            cases h
            rfl
def allTru (_ : Unit) : Bool := true
def compSsq (r : Stmt → Option CS) : List Stmt → Option CS
  | [] => some .nop
  | s :: ss => match r s, compSsq r ss with
    | some a, some b => some (.seq a b)
    | _, _ => none
def cAsgT (G : CG) (sc : Scope) (fnB : Str → Bool) (F : Nat) (ts : List Expr) (e : Expr) : Option CS := match compTs G sc fnB ts with
  | none => none
  | some is => match e with
    | .Tuple vs _ _ => (match swpF sc ts vs with
      | some none => (compE F G sc e).map (.asgT is)
      | some (some _) => (match ts, vs with
        | [.Name x _, .Name y _], [_, _] => if (sc.names.lookup x == some .local && sc.names.lookup y == some .local && !(x == y)) = true ∧ swpF sc ts vs = some (some [x, y]) then (recsOf (compE F G sc) vs).map (.par is) else none
        | _, _ => none)
      | none => none)
    | _ => (compE F G sc e).map (.asgT is)
def isSet3 : Expr → Bool
  | .SetComp .. => true
  | .DictComp .. => true
  | _ => false
def compS (G : CG) (sc : Scope) (fnB : Str → Bool) (F : Nat) : Nat → Stmt → Option CS
  | 0, _ => none
  | n + 1, st => match st with
    | .Assign tgs e _ => (match tgs with
      | [.Name x _] => if storeB sc fnB x = true then match G.N.idxOf? x, compE F G sc e with
        | some i, some c => some (.asg i c)
        | _, _ => none else none
      | [.Tuple ts _ _] => cAsgT G sc fnB F ts e
      | [.Subscript (.Name x _) i _] => if nmOk x = true ∧ visB sc x = true ∧ subOk i = true ∧ isComp e = false then match G.N.idxOf? x, compE F G sc i, compE F G sc e with
        | some o, some ix, some c => some (.setIx o ix c)
        | _, _, _ => none else none
      | _ => none)
    | .Expr e _ => if isComp e = true then none else (compE F G sc e).map .drop
    | .Return e _ => (match e with
      | none => some .retN
      | some e => (compE F G sc e).map .ret)
    | .Pass _ => some .nop
    | .Break _ => some .brk
    | .Continue _ => some .cont
    | .If c a b _ => match compE F G sc c, compSsq (compS G sc fnB F n) a, compSsq (compS G sc fnB F n) b with
      | some c, some a, some b => some (.ite c a b)
      | _, _, _ => none
    | .While c b els _ => (match els with
      | [] => match compE F G sc c, compSsq (compS G sc fnB F n) b with
        | some c, some b => some (.wh c b)
        | _, _ => none
      | _ => none)
    | .For tg iter b els _ => (match els with
      | [] => if setE iter = true then none else match compT G sc fnB tg, cIter sc (compE F G sc) tg iter, compSsq (compS G sc fnB F n) b with
        | some t, some i, some b => some (.for t i b)
        | _, _, _ => none
      | _ => none)
    | .Raise e cause _ => (match e, cause with
      | some (.Call (.Name x _) [.Constant (.str _) _ _] [] _), none => if glB sc x = true ∧ x ∈ G.excs then some (.raise x) else none
      | _, _ => none)
    | _ => none
section
variable {G : CG} {Φ : List Fn} {X : Cx} {sc : Scope} {fnB : Str → Bool} {Wx : XW} {F wf : Nat}
theorem XOk.fk (o : XOk G Φ X sc fnB Wx) : X.env.scope.kind = .function := by rw [o.esc]; exact o.kind
theorem asg_both (o : XOk G Φ X sc fnB Wx) {x : Str} {p' pos : Pos} {e : Expr} {i : Nat} {c : CE} (hst : storeB sc fnB x = true) (hi : G.N.idxOf? x = some i) (he : compE F G sc e = some c) : PS X (.Assign [.Name x p'] e pos) (tSt Wx (exAsg i (ev Φ c))) := by
  obtain ⟨l1, l2⟩ := o.loc hst
  have gi : X.N[i]? = some x := by rw [o.hN]; exact idx_get hi
  have sw := sw_eq o.fk o.esc e x p' pos.line
  by_cases hsw : swB sc e x p'.line = true
  · rw [hsw] at sw
    have hloc : ∀ (s : Scope) (p : Pos), (sc.names.lookup x == some NameKind.local && p'.line == p.line && !(s.names.any fun (n, k) => n == x && (k == .local || k == .cell))) = true → X.env.scope.names.lookup x = some .local := fun s p h => by
      rw [Bool.and_eq_true, Bool.and_eq_true] at h
      rw [o.esc]
      exact eq_of_beq h.1.1
    cases F with
    | zero => cases he
    | succ F =>
    cases e <;> try cases hsw
    · rename_i elt gens scope p
      have he : cLc G.off sc (compE F G.off) elt gens scope = some c := he
      obtain ⟨tg, iter, ifs, rfl, ⟨f, ct, it, cc, own, rfl, blk, pi, hsl, hg, ⟨tt, ht, hc⟩, hel, hset⟩⟩ := lc_parts (G := G.off) (Φ := Φ) (Wx := Wx) rfl (compE_ok F) (fun e c => compE_star) o.off he
      exact PS.imp (ps_setLc o.calm o.nd gi (hloc scope p hsw) sw pi blk hg ht hel fun x => setE_ok hset X.env x) fun D σ H q => lc_ok (K := X.K) hsl hc (asg_ok q)
    · cases he
    · cases he
  · rw [show swB sc e x p'.line = false by simpa using hsw] at sw
    exact DS_asg o.nd gi l1 (compE_ok F X sc fnB Wx e c o he).1 sw l2
theorem notup_sw {e : Expr} (h : ∀ vs k p, e ≠ .Tuple vs k p) {ts : List Expr} {k : Nat} {p : Pos} {env : PySem.Env} : swappedStores [.Tuple ts k p] e env = pure none := by
  cases e <;> first
    | rfl
    | exact absurd rfl (h _ _ _)
theorem sole_tup {e : Expr} {ts : List Expr} {k l : Nat} {p : Pos} {env : PySem.Env} : swapsWithSole [.Tuple ts k p] e l env = pure false := by cases e <;> rfl
theorem sole_sub {e : Expr} {a b : Expr} {l : Nat} {p : Pos} {env : PySem.Env} : swapsWithSole [.Subscript a b p] e l env = pure false := by cases e <;> rfl
theorem asgT_both (o : XOk G Φ X sc fnB Wx) {ts : List Expr} {e : Expr} {c : CS} {k : Nat} {pt pos : Pos} (h : cAsgT G sc fnB F ts e = some c) : PS X (.Assign [.Tuple ts k pt] e pos) (tSt Wx (exec Φ wf c)) := by
  unfold cAsgT at h
  split at h
  · cases h
  · rename_i is h1
    obtain ⟨g1, g2, g3⟩ := ts_ok o h1
    have hg : PG X (.Tuple ts k pt) (gOf X.K (.tp is)) := pg_un o.calm g1 g2 g3
    split at h
    · rename_i vs k2 p2
      split at h
      · rename_i hsw
        obtain ⟨a, h2, rfl⟩ := Option.map_eq_some_iff.mp h
        exact DS_asgT (compE_ok F X sc fnB Wx _ a o h2).1 hg sole_tup (swp_eq o.fk o.esc hsw) rfl
      · rename_i nn hsw
        split at h
        · rename_i x px y py v1 v2
          split at h
          · rename_i hc
            obtain ⟨hc, hsw2⟩ := hc
            rw [Bool.and_eq_true, Bool.and_eq_true] at hc
            obtain ⟨⟨hx, hy⟩, hxy⟩ := hc
            obtain ⟨es, h2, rfl⟩ := Option.map_eq_some_iff.mp h
            have hs : ∀ e c, compE F G sc e = some c → starE e = false := fun e c => compE_star
            have pa := recs_ok (compE_ok F) hs o h2 (Φ := Φ)
            unfold compTs at h1
            split at h1
            · split at h1
              · rename_i i is' e1 e2
                cases h1
                unfold compTs at e2
                split at e2
                · split at e2
                  · rename_i j is2 e3 e4
                    cases e2
                    cases e4
                    have gi : X.N[i]? = some x := by rw [o.hN]; exact idx_get e1
                    have gj : X.N[j]? = some y := by rw [o.hN]; exact idx_get e3
                    have hij : i ≠ j := fun z => by
                      subst z
                      rw [gi] at gj
                      cases gj
                      simp at hxy
                    exact DS_par2 o.calm o.nd gi gj hij (by rw [o.esc]; exact eq_of_beq hx) (by rw [o.esc]; exact eq_of_beq hy) pa (swp_eq o.fk o.esc hsw2) sole_tup
                  · cases e2
                · cases e2
              · cases h1
            · cases h1
          · cases h
        · cases h
      · cases h
    · rename_i hn
      obtain ⟨a, h2, rfl⟩ := Option.map_eq_some_iff.mp h
      exact DS_asgT (compE_ok F X sc fnB Wx _ a o h2).1 hg sole_tup (notup_sw fun vs k p e => hn vs k p e) rfl
theorem sub_assign {x : Str} {px p : Pos} {i : Expr} {env : PySem.Env} (h : subOk i = true) (v : Value) : assign (.Subscript (.Name x px) i p) env v = (do
      let ov ← holding [v] (eval (.Name x px) env)
      let iv ← holding [v, ov] (eval i env)
      standAt p
      holding [v, ov, iv] (setItem ov iv v)
      release [v, ov, iv] []) := by
  cases i <;> first
    | rfl
    | (rename_i lo hi st p; cases st <;> first | rfl | cases h)
theorem expr_sw {e : Expr} (h : isComp e = false) (l : Nat) (env : PySem.Env) : swapsWith e none l env = pure false := by
  cases e <;> first | rfl | cases h
theorem raise_ok (o : XOk G Φ X sc fnB Wx) {x m : Str} {j : Nat} {p p2 p3 pos : Pos} (hg : glB sc x = true) (hx : x ∈ G.excs) : PS X (.Raise (some (.Call (.Name x p) [.Constant (.str m) j p2] [] p3)) none pos) (tSt Wx fun ρ => .exc x ρ) := by
  obtain ⟨hnm, C, B, newId, initId, bmB, F, q, gC, kC, r⟩ := o.exc x hx
  refine PS.imp (ps_raise o.calm o.tk (pmk_own F q gC kC r (o.gl hg) (nm_ok hnm).1)) fun D σ H h => ?_
  obtain ⟨F', ρ, s, h⟩ := tSt_to h
  refine ⟨x, ?_, rfl, h F' H σ (.refl s)⟩
  show _ = (X.mg x).getD .none
  rw [gC]; rfl
/-- THE RULE for statements -/
theorem compS_ok (po : ∀ Wx, XOk G Φ X sc fnB Wx → PassesOwn (model X.prog X.w) X.A X.env X.xe) (o : XOk G Φ X sc fnB Wx) : ∀ (n : Nat) (st : Stmt) (c : CS), compS G sc fnB F n st = some c → PS X st (tSt Wx (exec Φ wf c))
  | 0, st, c, h => by cases h
  | n + 1, st, c, h => by
    have seq : ∀ {ss : List Stmt} {c : CS}, compSsq (compS G sc fnB F n) ss = some c → PSs X ss (tSt Wx (exec Φ wf c)) := fun {ss} => by
      induction ss with
      | nil => intro c h; cases h; exact DSs_nil
      | cons s ss ih =>
        intro c h
        unfold compSsq at h
        split at h
        · rename_i a b h1 h2
          cases h
          exact DSs_cons (compS_ok po o n s a h1) (ih h2)
        · cases h
    have hs : ∀ e c, compE F G sc e = some c → starE e = false := fun e c => compE_star
    cases st <;> try cases h
    case Return e p =>
      cases e with
      | none => cases h; exact DS_retN
      | some e =>
        obtain ⟨a, h1, rfl⟩ := Option.map_eq_some_iff.mp h
        exact DS_ret (compE_ok F X sc fnB Wx e a o h1).1
    case Assign tgs e p =>
      cases tgs <;> try cases h
      rename_i t tgs
      cases tgs with
      | cons t2 tl =>
        have z : compS G sc fnB F (n + 1) (.Assign (t :: t2 :: tl) e p) = none := by
          cases t <;> first
            | rfl
            | (rename_i a _ _; cases a <;> rfl)
        rw [z] at h; cases h
      | nil =>
      cases t <;> try cases h
      case Name x p' =>
        have h : (if storeB sc fnB x = true then match G.N.idxOf? x, compE F G sc e with
          | some i, some c => some (.asg i c)
          | _, _ => none else none) = some c := h
        split at h
        · rename_i hst
          split at h
          · rename_i i a h1 h2
            cases h
            exact asg_both o hst h1 h2
          · cases h
        · cases h
      case Tuple ts k pt => exact asgT_both o h
      case Subscript a i p2 =>
        cases a <;> try cases h
        rename_i x px
        have h : (if nmOk x = true ∧ visB sc x = true ∧ subOk i = true ∧ isComp e = false then match G.N.idxOf? x, compE F G sc i, compE F G sc e with
          | some o, some ix, some c => some (.setIx o ix c)
          | _, _, _ => none else none) = some c := h
        split at h
        · rename_i hc
          obtain ⟨hnm, hv, hsub, hic⟩ := hc
          split at h
          · rename_i oo ix cc h1 h2 h3
            cases h
            exact DS_setIx (by have := o.u65; omega) (compE_ok F X sc fnB Wx _ cc o h3).1 (DE_var (by rw [o.hN]; exact idx_get h1) (o.vis hv) (nm_ok hnm).1 (nm_ok hnm).2) (compE_ok F X sc fnB Wx _ ix o h2).1 (fun v => sub_assign hsub v) sole_sub (by cases e <;> rfl) rfl
          · cases h
        · cases h
    case For tg iter b els p =>
      cases els <;> try cases h
      have h : (if setE iter = true then none else match compT G sc fnB tg, cIter sc (compE F G sc) tg iter, compSsq (compS G sc fnB F n) b with
        | some t, some i, some b => some (.for t i b)
        | _, _, _ => none) = some c := h
      split at h
      · cases h
      · rename_i hset
        split at h
        · rename_i t i b' h1 h2 h3
          cases h
          exact DS_for (po Wx o) o.calm (iter_ok (compE_ok F) hs o h2) (t_ok o h1) (seq h3) fun x => setE_ok (by simpa using hset) X.env x
        · cases h
    case While cnd b els p =>
      cases els <;> try cases h
      have h : (match compE F G sc cnd, compSsq (compS G sc fnB F n) b with
        | some c, some b => some (.wh c b)
        | _, _ => none) = some c := h
      split at h
      · rename_i c' b' h1 h2
        cases h
        exact DS_while (po Wx o) (compE_ok F X sc fnB Wx _ c' o h1).2 (seq h2)
      · cases h
    case If cnd a b p =>
      have h : (match compE F G sc cnd, compSsq (compS G sc fnB F n) a, compSsq (compS G sc fnB F n) b with
        | some c, some a, some b => some (.ite c a b)
        | _, _, _ => none) = some c := h
      split at h
      · rename_i c' a' b' h1 h2 h3
        cases h
        exact DS_ite (compE_ok F X sc fnB Wx _ c' o h1).2 (seq h2) (seq h3)
      · cases h
    case Raise e cause p =>
      cases e <;> try cases h
      rename_i e
      cases e <;> try cases h
      rename_i f args kws p3
      cases f <;> try cases h
      rename_i x px
      cases args <;> try cases h
      rename_i a as
      cases a <;> try cases h
      rename_i cv kk p2
      cases cv <;> try cases h
      rename_i m
      cases as <;> try cases h
      cases kws <;> try cases h
      cases cause <;> try cases h
      have h : (if glB sc x = true ∧ x ∈ G.excs then some (CS.raise x) else none) = some c := h
      split at h
      · rename_i hc
        cases h
        exact raise_ok o hc.1 hc.2
      · cases h
    case Expr e p =>
      have h : (if isComp e = true then none else (compE F G sc e).map CS.drop) = some c := h
      split at h
      · cases h
      · rename_i hic
        obtain ⟨a, h1, rfl⟩ := Option.map_eq_some_iff.mp h
        exact DS_drop (compE_ok F X sc fnB Wx e a o h1).1 (expr_sw (by simpa using hic) _ _)
    case Pass p => exact DS_pass
    case Break p => exact DS_brk
    case Continue p => exact DS_cont
end
end BX

set_option Elab.async false
set_option linter.all false
set_option maxRecDepth 100000
set_option maxHeartbeats 4000000
namespace BX
open PySem PySem.Spec PyProof.Rows L2 RZ
variable [Tbs]

/-! ## defs -/
def argS : Arg → Option SV
  | .val d => some (.val d)
  | .own o => some (.own .par o)
def startE (nN : Nat) (as : List Arg) : Env := as.map argS ++ List.replicate (nN - as.length) none
def finO (as : List Arg) (ρ : Env) : Option O := match as with
  | .own _ :: _ => match (ρ[0]? : Option (Option SV)) with
    | some (some (SV.own _ o)) => some o
    | _ => none
  | _ => none
def runFn (Φ : List Fn) (wf : Nat) (c : CS) (nN : Nat) (as : List Arg) : RF := match exec Φ wf c (startE nN as) with
  | .ok .next ρ' => .ok (.val .none) (finO as ρ')
  | .ok (.ret r) ρ' => .ok r (finO as ρ')
  | .exc x ρ' => .exc x (finO as ρ')
  | _ => .bad
structure Glob (P : Program) (w : World) (K : PySem.W.Frag) (mg : Str → Option Value) (base : Heap) (G : CG) (Φ : List Fn) : Prop where
  bl : ∀ x ∈ blts, mg x = none
  cst : ∀ x d, G.cst.lookup x = some d → ∃ u v, mg x = some u ∧ RelV v u ∧ scV d = some v
  fns : ∀ (j : Nat) (x : Str) (a : Nat), G.fns[j]? = some (x, a) → x ≠ "" → nmOk x = true ∧ ∃ (f : Addr) (fd : FuncData) (ps : List Str) (fn : Fn), Φ[j]? = some fn ∧ mg x = some (.ref f) ∧ PySem.W.keepIn K (.ref f) = true ∧ Binds K fd ps [] ∧ FnOk P w K mg base (L2.CX P w) G.lv f fd ps (spF a (clsOf mg) fn.run)
  exc : ∀ x ∈ G.excs, nmOk x = true ∧ ∃ (C : Addr) (B newId initId : String) (bmB : List Value), ExcBaseFacts B newId initId bmB ∧ PySem.W.excIn K C bmB newId = true ∧ mg x = some (.ref C) ∧ PySem.W.keepIn K (.ref C) = true ∧
    PySem.W.subIn K (.ref C) (.type "BaseException") = some true ∧ PySem.W.typeIn K (.ref C) = some (.type "type")
  cls : Tbs.cls = clsOf mg
  isa : ∀ c y b, ((c, y), b) ∈ G.isa → IsaK K mg c y b
  tks : ∀ x k, G.tks.lookup x = some k → ∃ fn, Φ[k]? = some fn ∧ TkOk P w K mg base G.excs x fn.run
theorem start_get {N : List Str} {vs : List V} {i : Nat} (h : vs.length ≤ N.length) : (L2.start N vs)[i]? = if i < vs.length then (vs[i]?).map some else if i < N.length then some none else none := by
  unfold L2.start
  rw [List.getElem?_append, List.length_map]
  split
  · rw [List.getElem?_map]
  · rw [List.getElem?_replicate]
    split
    · rw [if_pos (by omega)]
    · rw [if_neg (by omega)]
theorem startE_get {nN : Nat} {as : List Arg} {i : Nat} (h : as.length ≤ nN) : (startE nN as)[i]? = if i < as.length then (as[i]?).map argS else if i < nN then some none else none := by
  unfold startE
  rw [List.getElem?_append, List.length_map]
  split
  · rw [List.getElem?_map]
  · rw [List.getElem?_replicate]
    split
    · rw [if_pos (by omega)]
    · rw [if_neg (by omega)]
theorem ArgsR.length {F H : Hp} {vs : List V} {as : List Arg} (h : ArgsR F H vs as) : as.length = vs.length := by
  cases h with
  | vals r => rw [List.length_map, r.length]
  | own _ _ r => rw [List.length_cons, List.length_cons, List.length_map, r.length]
theorem args_val {F H : Hp} {vs : List V} {as : List Arg} (h : ArgsR F H vs as) {i : Nat} {d : D} (e : as[i]? = some (.val d)) : ∃ v, vs[i]? = some v ∧ Rp F d v := by
  cases h with
  | @vals _ ds r =>
    rw [List.getElem?_map] at e
    obtain ⟨d', e1, e2⟩ := Option.map_eq_some_iff.mp e
    cases e2
    exact r.get e1
  | @own a o us ds _ _ r =>
    cases i with
    | zero => cases e
    | succ i =>
      rw [List.getElem?_cons_succ, List.getElem?_map] at e
      obtain ⟨d', e1, e2⟩ := Option.map_eq_some_iff.mp e
      cases e2
      exact r.get e1
theorem args_own {F H : Hp} {vs : List V} {as : List Arg} (h : ArgsR F H vs as) {i : Nat} {o : O} (e : as[i]? = some (.own o)) : i = 0 ∧ ∃ a, vs[0]? = some (.ref a) ∧ F a = none ∧ OkO F H a o ∧ argA vs as a := by
  cases h with
  | vals r =>
    rw [List.getElem?_map] at e
    obtain ⟨d', e1, e2⟩ := Option.map_eq_some_iff.mp e
    cases e2
  | @own a o' us ds n k r =>
    cases i with
    | zero => cases e; exact ⟨rfl, a, rfl, n, k, o, _, _, rfl, rfl⟩
    | succ i =>
      rw [List.getElem?_cons_succ, List.getElem?_map] at e
      obtain ⟨d', e1, e2⟩ := Option.map_eq_some_iff.mp e
      cases e2
/-- the entry -/
theorem start_sr {F H : Hp} {vs : List V} {as : List Arg} {N : List Str} (s : Sb F H) (h : ArgsR F H vs as) (hl : vs.length ≤ N.length) : SR F H (L2.start N vs) (startE N.length as) ∧
    (∀ (i : Nat) (k : OK) (o : O), (startE N.length as)[i]? = some (some (.own k o)) → i = 0 ∧ k = .par ∧ ∃ a, (L2.start N vs)[0]? = some (some (.ref a)) ∧ argA vs as a) := by
  have hla := h.length
  have own : ∀ (i : Nat) (k : OK) (o : O), (startE N.length as)[i]? = some (some (.own k o)) → k = .par ∧ as[i]? = some (.own o) := fun i k o e => by
    rw [startE_get (by omega)] at e
    split at e
    · obtain ⟨x, e1, e2⟩ := Option.map_eq_some_iff.mp e
      cases x with
      | val d => cases e2
      | own o' => cases e2; exact ⟨rfl, e1⟩
    · split at e <;> cases e
  have atv : ∀ (i : Nat) (v : V), vs[i]? = some v → (L2.start N vs)[i]? = some (some v) := fun i v e => by
    rw [start_get hl, if_pos (List.getElem?_eq_some_iff.mp e).1, e]; rfl
  refine ⟨⟨s, ?_, fun i d e => ?_, fun i k o e => ?_, fun i j k l o u a e1 e2 _ _ => ?_⟩, fun i k o e => ?_⟩
  · unfold L2.start startE
    rw [List.length_append, List.length_append, List.length_map, List.length_map, List.length_replicate, List.length_replicate]
    omega
  · rw [startE_get (by omega)] at e
    split at e
    · obtain ⟨x, e1, e2⟩ := Option.map_eq_some_iff.mp e
      cases x with
      | own o => cases e2
      | val d' =>
        cases e2
        obtain ⟨v, h1, h2⟩ := args_val h e1
        exact ⟨v, atv i v h1, h2⟩
    · split at e <;> cases e
  · obtain ⟨_, e1⟩ := own i k o e
    obtain ⟨rfl, a, h1, h2, h3, _⟩ := args_own h e1
    exact ⟨a, atv 0 _ h1, h2, h3⟩
  · obtain ⟨_, e3⟩ := own i k o e1
    obtain ⟨_, e4⟩ := own j l u e2
    rw [(args_own h e3).1, (args_own h e4).1]
  · obtain ⟨e0, e1⟩ := own i k o e
    obtain ⟨rfl, a, h1, h2, h3, h4⟩ := args_own h e1
    exact ⟨rfl, e0, a, atv 0 _ h1, h4⟩
section
variable {P : Program} {w : World} {K : PySem.W.Frag} {mg : Str → Option Value} {base : Heap} {G : CG} {Φ : List Fn}
/-- what a def of which lambdas come must say -/
def LamD (base : Heap) (mg : Str → Option Value) (qual : Str) (cdv : Value) : Prop := ∃ c P, cdv = .ref c ∧ LamX.TabB base mg c P ∧ (P, qual ++ ".<locals>." ++ "<lambda>") ∈ Tbs.T ∧ ∀ p ∈ Tbs.T, p.1 = P → p.2 = qual ++ ".<locals>." ++ "<lambda>"
theorem fn_ruleL {x qual : Str} {st : Stmt} {f : Addr} {ps : List Str} {cs : CS} {Fu n wf : Nat} {oc : Value} {od an : Option Addr} {kV doc pm cdv ct : Value} {osl : Array (Option Value)} (lk : K.lookup f = some ⟨oc, od, .func (PySem.W.fnOf x qual (defArgs st) (defBody st) (defScope st) .none kV doc pm an cdv ct), osl⟩) (hcd : PySem.W.codeIn K cdv qual = true)
    (S : FnScope G.N ps (defScope st)) (gl : Glob P w K mg base G Φ) (hlam : G.lam = true → LamD base mg qual cdv)
    (hc : compSsq (compS G (defScope st) (fun _ => true) Fu n) (defBody st) = some cs) : FnOk P w K mg base (L2.CX P w) (G.rm + 1) f (PySem.W.fnOf x qual (defArgs st) (defBody st) (defScope st) .none kV doc pm an cdv ct) ps (spF ps.length (clsOf mg) (runFn Φ wf cs G.N.length)) := by
  refine fn_of lk hcd S (fun vs H Q E h => h.1) fun A outer s H vs Q E hr h => ?_
  obtain ⟨hl, F, as, sF, ar, h⟩ := h
  have hpl : ps.length ≤ G.N.length := by have := congrArg List.length S.pre; rw [List.length_take] at this; omega
  obtain ⟨sr, own0⟩ := start_sr (N := G.N) sF ar (by omega)
  generalize hX : cxOf (L2.CX P w) P w K mg base G.N qual (defScope st) f cdv A outer s H E = X
  have o : XOk G Φ X (defScope st) (fun _ => true) (fun c σ H' => E (clsOf mg c) none H') := by
    subst hX
    refine ⟨rfl, S.nd, rfl, S.kind, rfl, hr, rfl, gl.bl, gl.cst, gl.fns, fun x hx => ?_, ?_, gl.cls, gl.isa, fun h => ?_, gl.tks⟩
    · obtain ⟨h1, C, B, newId, initId, bmB, h2, h3, h4, h5, h6, h7⟩ := gl.exc x hx
      exact ⟨h1, C, B, newId, initId, bmB, h2, h3, h4, h5, raises_own h6 h7⟩
    · refine Takes.imp (takes_of (E₁ := fun e' s'' => L2.CX P w outer H s E e' s'') rfl rfl rfl rfl) fun c d σ H' z => ?_
      obtain ⟨y, rfl, rfl, z⟩ := z
      exact z
    · obtain ⟨c, PP, e1, e2, e3, e4⟩ := hlam h
      exact ⟨c, PP, e1, e2, e3, e4⟩
  have po : ∀ Wx, XOk G Φ X (defScope st) (fun _ => true) Wx → PassesOwn (model X.prog X.w) X.A X.env X.xe := fun _ _ => by
    subst hX
    exact passes_of rfl
  have seq : ∀ {ss : List Stmt} {c : CS}, compSsq (compS G (defScope st) (fun _ => true) Fu n) ss = some c → PSs X ss (tSt (fun c σ H' => E (clsOf mg c) none H') (exec Φ wf c)) := fun {ss} => by
    induction ss with
    | nil => intro c h; cases h; exact DSs_nil
    | cons s ss ih =>
      intro c h
      unfold compSsq at h
      split at h
      · rename_i a b h1 h2
        cases h
        exact DSs_cons (compS_ok po o n s a h1) (ih h2)
      · cases h
  refine ⟨_, seq hc, tSt_of sr ?_⟩
  have hT : ∀ a, ownA (L2.start G.N vs) (startE G.N.length as) a → argA vs as a := fun a ⟨i, k, u, e1, e2, e3⟩ => by
    obtain ⟨rfl, _, b, e4, e5⟩ := own0 i k u e1
    rw [e3] at e4; cases e4
    exact e5
  have fin : ∀ {F' H' : Hp} {σ' : St} {ρ' : BX.Env}, PostS F H (L2.start G.N vs) (startE G.N.length as) F' H' σ' ρ' → Sb F' H' ∧ Ext (argA vs as) F H F' H' ∧ FinR F' H' vs as (finO as ρ') := fun {F' H' σ' ρ'} p => by
    refine ⟨p.sr.sub, p.ext.imp fun a h => .inl (hT a h), fun a ha => ?_⟩
    obtain ⟨u, rr, uu, rfl, rfl⟩ := ha
    have e0 : (startE G.N.length (.own u :: rr))[0]? = some (some (.own .par u)) := by
      rw [startE_get (by rw [ar.length]; omega), if_pos (by simp)]; rfl
    obtain ⟨o', e1, _, e2⟩ := p.fix 0 .par u e0 (by decide)
    obtain ⟨b, e3, e4, e5⟩ := p.sr.own 0 .par o' e1
    obtain ⟨_, _, b2, e6, u2, r2, w2, e7, e8⟩ := own0 0 .par u e0
    cases e8
    rw [e2, e6] at e3
    cases e3
    refine ⟨o', ?_, e4, e5⟩
    show (match ρ'[0]? with
      | some (some (SV.own _ o)) => some o
      | _ => none) = some o'
    rw [e1]
  unfold runFn at h
  cases hx : exec Φ wf cs (startE G.N.length as) with
  | bad => simp only [hx] at h
  | exc c ρ' =>
    simp only [hx] at h
    intro F' H' σ' p
    obtain ⟨h1, h2, h3⟩ := fin p
    exact h F' H' h1 h2 h3
  | ok fl ρ' =>
    cases fl with
    | brk => simp only [hx] at h
    | cont => simp only [hx] at h
    | next =>
      simp only [hx] at h
      intro F' H' σ' p
      obtain ⟨h1, h2, h3⟩ := fin p
      exact h F' H' .non h1 h2 h3 .non
    | ret r =>
      simp only [hx] at h
      intro F' H' σ' v p k
      obtain ⟨h1, h2, h3⟩ := fin p
      refine h F' H' v h1 h2 h3 ?_
      cases r with
      | val d => exact k
      | bor i => exact k.elim
      | own ob =>
        obtain ⟨a, e, n, ok, z⟩ := k
        refine ⟨a, e, ?_, n, ok⟩
        rcases z with z | ⟨i, u, e1, _⟩
        · exact z
        · obtain ⟨_, e2, _⟩ := own0 i .fre u e1
          cases e2
theorem fn_rule {x qual : Str} {st : Stmt} {f : Addr} {fd : FuncData} {ps : List Str} {cs : CS} {Fu n wf : Nat} (Fn : Fun K x qual st f fd) (S : FnScope G.N ps (defScope st)) (gl : Glob P w K mg base G Φ) (hl : G.lam = false)
    (hc : compSsq (compS G (defScope st) (fun _ => true) Fu n) (defBody st) = some cs) : FnOk P w K mg base (L2.CX P w) (G.lv + 1) f fd ps (spF ps.length (clsOf mg) (runFn Φ wf cs G.N.length)) := by
  obtain ⟨oc, od, kV, doc, pm, an, cdv, ct, osl, rfl, lk, hcd⟩ := Fn.ex
  have hr : G.rm = G.lv := by unfold CG.rm; rw [hl]; rfl
  rw [← hr]
  exact fn_ruleL lk hcd S gl (fun h => by rw [hl] at h; cases h) hc
/-- a def's promise by a function that tells no more -/
def Le (f g : List Arg → RF) : Prop := ∀ as, f as = .bad ∨ g as = f as
theorem spF_le {n : Nat} {cls : Str → Value} {f g : List Arg → RF} (h : Le f g) : ∀ vs H Q E, spF n cls f vs H Q E → spF n cls g vs H Q E := fun vs H Q E ⟨hl, F, as, s, ar, q⟩ => by
  refine ⟨hl, F, as, s, ar, ?_⟩
  rcases h as with z | z
  · rw [z] at q; exact q.elim
  · rw [z]; exact q
theorem fn_le {f : Addr} {fd : FuncData} {ps : List Str} {k n : Nat} {cls : Str → Value} {g h : List Arg → RF} (F : FnOk P w K mg base (L2.CX P w) k f fd ps (spF n cls g)) (l : Le h g) : FnOk P w K mg base (L2.CX P w) k f fd ps (spF n cls h) :=
  F.imp (spF_le l)
end
end BX

set_option Elab.async false
set_option linter.all false
set_option maxRecDepth 100000
set_option maxHeartbeats 4000000
namespace BX
open PySem PySem.Spec PyProof.Rows L2 RZ
variable [Tbs]

/-! ## the end of a law -/
/-- fuel of the whiles -/
def wfN : Nat := 10 ^ 30
section
variable {P : Program} {w : World} {K : PySem.W.Frag} {mg : Str → Option Value} {base : Heap}
theorem Glob.as {G G' : CG} {Φ : List Fn} (gl : Glob P w K mg base G Φ) (h1 : G'.fns = G.fns) (h2 : G'.cst = G.cst) (h3 : G'.excs = G.excs) (h5 : G'.isa = G.isa) (h6 : G'.tks = G.tks) (h4 : G.lv ≤ G'.lv) : Glob P w K mg base G' Φ := by
  refine ⟨gl.bl, fun y d e => gl.cst y d (by rw [← h2]; exact e), fun j y b e ne => ?_, fun y e => gl.exc y (by rw [← h3]; exact e), gl.cls, fun c y b e => gl.isa c y b (by rw [← h5]; exact e), fun y k e => by rw [h3]; exact gl.tks y k (by rw [← h6]; exact e)⟩
  rw [h1] at e
  obtain ⟨n1, f', fd', ps', fn', e1, e2, e3, e4, e5⟩ := gl.fns j y b e ne
  exact ⟨n1, f', fd', ps', fn', e1, e2, e3, e4, e5.mono h4⟩
theorem Glob.push {G G' : CG} {Φ Φ' : List Fn} {fn : Fn} {x : Str} {a : Nat} {st : Stmt} {f : Addr} {fd : FuncData} {ps : List Str} (gl : Glob P w K mg base G Φ) (hΦ : Φ' = Φ ++ [fn]) (h1 : G'.fns = G.fns ++ [(x, a)]) (h2 : G'.cst = G.cst) (h3 : G'.excs = G.excs) (h5 : G'.isa = G.isa) (h6 : G'.tks = G.tks) (h4 : G.lv ≤ G'.lv)
    (hl : Φ.length = G.fns.length) (hn : nmOk x = true) (F : Fun K x x st f fd) (hm : mg x = some (.ref f)) (hb : Binds K fd ps []) (ok : FnOk P w K mg base (L2.CX P w) G'.lv f fd ps (spF a (clsOf mg) fn.run)) : Glob P w K mg base G' Φ' := by
  refine ⟨gl.bl, fun y d e => gl.cst y d (by rw [← h2]; exact e), fun j y b e ne => ?_, fun y e => gl.exc y (by rw [← h3]; exact e), gl.cls, fun c y b e => gl.isa c y b (by rw [← h5]; exact e), fun y k e => ?_⟩
  · rw [hΦ]
    rw [h1, List.getElem?_append] at e
    split at e
    · rename_i hj
      obtain ⟨n1, f', fd', ps', fn', e1, e2, e3, e4, e5⟩ := gl.fns j y b e ne
      exact ⟨n1, f', fd', ps', fn', by rw [List.getElem?_append_left (by omega)]; exact e1, e2, e3, e4, e5.mono h4⟩
    · rename_i hj
      have hj2 : j - G.fns.length = 0 := by
        have := (List.getElem?_eq_some_iff.mp e).1
        rw [List.length_singleton] at this
        omega
      rw [hj2] at e
      cases e
      refine ⟨hn, f, fd, ps, fn, ?_, hm, F.kp, hb, ok⟩
      rw [List.getElem?_append_right (by omega), show j - Φ.length = 0 by omega]
      rfl
  · rw [h3, hΦ]
    obtain ⟨fn', e1, e2⟩ := gl.tks y k (by rw [← h6]; exact e)
    exact ⟨fn', by rw [List.getElem?_append_left (List.getElem?_eq_some_iff.mp e1).1]; exact e1, e2⟩
theorem Glob.pushTk {G G' : CG} {Φ Φ' : List Fn} {fn : Fn} {x : Str} (gl : Glob P w K mg base G Φ) (hΦ : Φ' = Φ ++ [fn]) (h1 : G'.fns = G.fns ++ [(("" : Str), 0)]) (h2 : G'.cst = G.cst) (h3 : G'.excs = G.excs) (h5 : G'.isa = G.isa) (h6 : G'.tks = (x, Φ.length) :: G.tks) (h4 : G.lv ≤ G'.lv)
    (hl : Φ.length = G.fns.length) (ok : TkOk P w K mg base G.excs x fn.run) : Glob P w K mg base G' Φ' := by
  refine ⟨gl.bl, fun y d e => gl.cst y d (by rw [← h2]; exact e), fun j y b e ne => ?_, fun y e => gl.exc y (by rw [← h3]; exact e), gl.cls, fun c y b e => gl.isa c y b (by rw [← h5]; exact e), fun y k e => ?_⟩
  · rw [hΦ]
    rw [h1, List.getElem?_append] at e
    split at e
    · rename_i hj
      obtain ⟨n1, f', fd', ps', fn', e1, e2, e3, e4, e5⟩ := gl.fns j y b e ne
      exact ⟨n1, f', fd', ps', fn', by rw [List.getElem?_append_left (by omega)]; exact e1, e2, e3, e4, e5.mono h4⟩
    · rename_i hj
      have hj2 : j - G.fns.length = 0 := by
        have := (List.getElem?_eq_some_iff.mp e).1
        rw [List.length_singleton] at this
        omega
      rw [hj2] at e
      cases e
      exact absurd rfl ne
  · rw [h3, hΦ]
    rw [h6, List.lookup_cons] at e
    split at e
    · rename_i hy
      cases e
      have hy := eq_of_beq hy
      subst hy
      exact ⟨fn, by simp, ok⟩
    · obtain ⟨fn', e1, e2⟩ := gl.tks y k e
      exact ⟨fn', by rw [List.getElem?_append_left (List.getElem?_eq_some_iff.mp e1).1]; exact e1, e2⟩
theorem fn_bad {f : Addr} {fd : FuncData} {ps : List Str} {k n : Nat} {cls : Str → Value} : FnOk P w K mg base (L2.CX P w) k f fd ps (spF n cls fun _ => .bad) :=
  ⟨fun vs H Q E h => h.2.elim fun F h => h.elim fun as h => h.2.2.elim, fun A outer s H args us vs Q E _ _ _ _ h => h.2.elim fun F h => h.elim fun as h => h.2.2.elim⟩
def noLst (p : Addr × Obj) : Bool := match p.2.cls with
  | .type t => t != "list"
  | _ => true
theorem sql_rd {H : Hp} {a : Addr} {xs : List V} (nl : K.all noLst = true) (h : SqL K H a xs) : Rd H a (.lst xs) := by
  rcases h with h | ⟨o, its, n, e, ec, _⟩
  · exact h
  · exfalso
    have key : ∀ (l : PySem.W.Frag), l.all noLst = true → l.lookup a = some o → False := fun l => by
      induction l with
      | nil => intro _ z; cases z
      | cons p l ih =>
        intro z1 z2
        obtain ⟨b, u⟩ := p
        rw [List.all_cons, Bool.and_eq_true] at z1
        rw [List.lookup_cons] at z2
        split at z2
        · cases z2
          have z3 := z1.1
          unfold noLst at z3
          simp only [ec] at z3
          exact absurd z3 (by decide)
        · exact ih z1.2 z2
    exact key K nl e
/-- the heap without its tables -/
def noT (H : Hp) : Hp := fun a => match H a with
  | some (.tbl _) => none
  | o => o
theorem noT_get {H : Hp} {a : Addr} {o : HO} (h : H a = some o) (n : ∀ ps, o ≠ .tbl ps) : noT H a = some o := by
  unfold noT
  rw [h]
  cases o <;> first | rfl | exact absurd rfl (n _)
theorem noT_of {H : Hp} {a : Addr} {o : HO} (h : noT H a = some o) : H a = some o ∧ ∀ ps, o ≠ .tbl ps := by
  unfold noT at h
  split at h
  · cases h
  · rename_i n
    exact ⟨h, fun ps z => n ps (by rw [h, z])⟩
theorem noT_sb {H : Hp} (t : Tb H) : Sb (noT H) H := ⟨fun a o h => (noT_of h).1, fun a ps h => (noT_of h).2 ps rfl, t⟩
def spL (K : PySem.W.Frag) : Sp := fun vs H Q _ => ∃ (a : Addr) (ns : List Int), vs = [.ref a] ∧ SqL K H a (ns.map V.int) ∧ ns.length ≤ 63 ∧ Tb H ∧ ∀ H', Q (.bl true) H'
theorem rps_ints {F : Hp} : ∀ (ns : List Int), Rps F (ns.map PyData.int) (ns.map V.int)
  | [] => .nil
  | n :: ns => .cons (.int n) (rps_ints ns)
theorem law_sp {cls : Str → Value} {run : List Arg → RF} (nl : K.all noLst = true) (h : ∀ ns : List Int, ns.length ≤ 63 → run [.val (.list (ns.map .int))] = .ok (.val (.bool true)) none) : ∀ vs H Q E, spL K vs H Q E → spF 1 cls run vs H Q E := fun vs H Q E ⟨a, ns, e, hS, hl, tb, q⟩ => by
  subst e
  have hR : Rd (noT H) a (.lst (ns.map V.int)) := by
    rcases sql_rd nl hS with h | ⟨u, h⟩
    · exact .inl (noT_get h fun ps z => nomatch z)
    · exact .inr ⟨u, noT_get h fun ps z => nomatch z⟩
  refine ⟨rfl, noT H, [.val (.list (ns.map .int))], noT_sb tb, ArgsR.vals (ds := [.list (ns.map .int)]) (.cons (.lst hR (rps_ints ns)) .nil), ?_⟩
  rw [h ns hl]
  intro F' H' v _ _ _ r
  cases r
  exact q H'
end
omit [Tbs] in
theorem cx_no {P : Program} {w : World} {outer : List PySem.Env} {H : Hp} {s : Shared} {e : Value} {s' : Shared} (h : L2.CX P w outer H s (fun _ _ _ => False) e s') : False := by
  obtain ⟨_, _, _, _, _, _, _, _, _, _, _, _, z⟩ := h
  exact z
namespace PureT
/-- for the plain proofs, where it says nothing -/
scoped instance tbs0 : Tbs := ⟨[], fun _ => .none⟩
end PureT
end BX

set_option Elab.async false
set_option linter.all false
set_option maxRecDepth 100000
set_option maxHeartbeats 4000000
namespace BX
open PySem PySem.Spec PyProof.Rows L2 RZ
variable [Tbs]

/-! ## a def that calls what it got within a try, keeps the error and looks at it -/
/-- behind the try: slot j holds None or the error -/
def runTk (Φ : List Fn) (wf : Nat) (c : CS) (j nN : Nat) : List Arg → RF
  | [.val d] => match exec Φ wf c ((List.replicate nN none).set j (some (.val d))) with
    | .ok .next _ => .ok (.val .none) none
    | .ok (.ret r) _ => .ok r none
    | _ => .bad
  | _ => .bad
/-- error = None; try: call() / except B as e: error = e; rest -/
structure TkSyn (G : CG) (sg : Scope) (bg : List Stmt) (a err e cb : Str) (j i : Nat) (rest : List Stmt) : Prop where
  syn : ∃ (p0 p1 p2 p3 p4 p5 p6 p7 p8 p9 q1 q2 q3 q4 q5 : Pos) (k0 : Nat), bg = .Assign [.Name err p0] (.Constant .none k0 p1) p2 ::
    .Try [.Expr (.Call (.Name a p3) [] [] p4) p5] [.ExceptHandler (some (.Name cb p6)) (some e) [.Assign [.Name err p7] (.Name e p8) p9] q1] [] [] q2 :: rest
  hj : G.N[j]? = some err
  hi : G.N[i]? = some e
  h0 : j ≠ 0 ∧ i ≠ 0 ∧ i ≠ j
  le : sg.names.lookup err = some .local
  li : sg.names.lookup e = some .local
  gb : sg.names.lookup cb = some .globalImplicit
  ne : nmOk e = true ∧ nmOk cb = true
theorem tk_tail {Φ : List Fn} {wf j nN : Nat} {c : CS} {d : D} {v : V} {F H H0 : Hp} {σ : St} {Q : VK} (e : TEnd (runTk Φ wf c j nN [.val d]) H0 Q) (s : Sb F H) (n0 : SameN H0 H) (hl : σ.length = nN) (hj : j < nN) (hv : σ[j]? = some (some v)) (r : Rp F d v) :
    tSt NoX (exec Φ wf c) { nx := fun _ H' => Q .non H', rt := Q } σ H := by
  obtain ⟨_, d2, fin, e, sc, k⟩ := e
  have sr : SR F H σ ((List.replicate nN none).set j (some (.val d))) := by
    have get : ∀ (i : Nat) (x : SV), ((List.replicate nN none : Env).set j (some (.val d)))[i]? = some (some x) → i = j ∧ x = .val d := fun i x z => by
      by_cases hij : j = i
      · subst hij
        rw [List.getElem?_set_self (by simpa using hj)] at z
        cases z
        exact ⟨rfl, rfl⟩
      · rw [List.getElem?_set_ne hij, List.getElem?_replicate] at z
        split at z <;> cases z
    refine ⟨s, by simp [hl], fun i d' z => ?_, fun i k' o z => ?_, fun i l k1 k2 o u a z1 => ?_⟩
    · obtain ⟨z1, z2⟩ := get i _ z
      cases z2
      rw [z1]
      exact ⟨v, hv, r⟩
    · exact nomatch (get i _ z).2
    · exact nomatch (get i _ z1).2
  have noOwn : ∀ a, ¬ ownA σ ((List.replicate nN none : Env).set j (some (.val d))) a := fun a ⟨i, k', o, z, _⟩ => by
    obtain ⟨b, h1, _⟩ := sr.own i k' o z
    by_cases hij : j = i
    · subst hij
      rw [List.getElem?_set_self (by simpa using hj)] at z
      cases z
    · rw [List.getElem?_set_ne hij, List.getElem?_replicate] at z
      split at z <;> cases z
  refine ⟨F, _, sr, ?_⟩
  unfold runTk at e
  cases hx : exec Φ wf c ((List.replicate nN none).set j (some (.val d))) with
  | bad => simp only [hx] at e; cases e
  | exc c' ρ' => simp only [hx] at e; cases e
  | ok fl ρ' =>
    have gr : ∀ {F' H' : Hp} {σ' : St}, PostS F H σ ((List.replicate nN none).set j (some (.val d))) F' H' σ' ρ' → SameN H0 H' ∧ Tb H' := fun {F' H' σ'} p =>
      ⟨fun b u z nt => p.ext.keep b u (n0 b u z nt) (noOwn b) nt, p.sr.sub.tab⟩
    cases fl with
    | brk => simp only [hx] at e; cases e
    | cont => simp only [hx] at e; cases e
    | next =>
      simp only [hx] at e
      cases e
      intro F' H' σ' p
      obtain ⟨g1, g2⟩ := gr p
      exact k H' F' .non g1 g2 .non
    | ret r' =>
      simp only [hx] at e
      cases e
      intro F' H' σ' v' p rr
      obtain ⟨g1, g2⟩ := gr p
      exact k H' F' v' g1 g2 rr
section
variable {P : Program} {w : World} {K : PySem.W.Frag} {mg : Str → Option Value} {base : Heap} {G : CG} {Φ : List Fn}
theorem giv_ok {x : Str} {g : Addr} {sg : Scope} {cdg : Value} {bg rest : List Stmt} {a err e cb : Str} {j i wf Fu n : Nat} {c : CS} {CB : Addr} (S : FnScope G.N [a] sg) (gl : Glob P w K mg base G Φ) (hl : G.lam = false) (h4 : G.lv ≤ 3) (T : TkSyn G sg bg a err e cb j i rest)
    (hcb : mg cb = some (.ref CB)) (cat : ∀ x ∈ G.excs, PySem.W.exmOne K (Tbs.cls x) (.ref CB) = some true) (hc : compSsq (compS G sg (fun _ => true) Fu n) rest = some c)
    (X : Cx) (x1 : X.prog = P) (x2 : X.w = w) (x3 : X.K = K) (x4 : X.mg = mg) (x5 : X.base = base) (hr : Room 4 X.A) (q : Str) : LamX.GivesTo X G.N x sg g cdg bg a q (TTr G.excs (runTk Φ wf c j G.N.length)) := by
  intro f c' s H Q tl act hcd h
  generalize hZ : (cxOf C8.CX0 X.prog X.w X.K X.mg X.base G.N x sg g cdg X.A X.stack s H C8.E0) = Z at act ⊢
  have zenv : Z.env = envOfC x sg s.heap.objs.size g cdg := by subst hZ; rfl
  have zsc : Z.env.scope = sg := by rw [zenv]; rfl
  have o : XOk G Φ Z.nox sg (fun _ => true) NoX := by
    subst hZ
    subst x1 x2 x3 x4 x5
    refine ⟨rfl, S.nd, rfl, S.kind, rfl, ?_, rfl, gl.bl, gl.cst, gl.fns, fun x hx => ?_, ?_, gl.cls, gl.isa, fun h => (by rw [hl] at h; cases h), gl.tks⟩
    · refine (hr.mono (j := G.rm + 1) ?_).deeper _
      unfold CG.rm
      rw [hl]
      show G.lv + 0 + 1 ≤ 4
      omega
    · obtain ⟨h1, C, B, newId, initId, bmB, h2, h3, h4, h5, h6, h7⟩ := gl.exc x hx
      exact ⟨h1, C, B, newId, initId, bmB, h2, h3, h4, h5, raises_own h6 h7⟩
    · refine Takes.imp LamX.takes0 fun c d σ H' z => ?_
      obtain ⟨_, _, _, z⟩ := z
      exact z
  have po : ∀ Wx, XOk G Φ Z.nox sg (fun _ => true) Wx → PassesOwn (model Z.nox.prog Z.nox.w) Z.nox.A Z.nox.env Z.nox.xe := fun _ _ => PassesOwn.never
  have seq : ∀ {ss : List Stmt} {c : CS}, compSsq (compS G sg (fun _ => true) Fu n) ss = some c → PSs Z.nox ss (tSt NoX (exec Φ wf c)) := fun {ss} => by
    induction ss with
    | nil => intro c h; cases h; exact DSs_nil
    | cons s ss ih =>
      intro c h
      unfold compSsq at h
      split at h
      · rename_i a b h1 h2
        cases h
        exact DSs_cons (compS_ok po o n s a h1) (ih h2)
      · cases h
  obtain ⟨p0, p1, p2, p3, p4, p5, p6, p7, p8, p9, q1, q2, q3, q4, q5, k0, rfl⟩ := T.syn
  have zN : Z.nox.N = G.N := by subst hZ; rfl
  have le : Z.nox.env.scope.names.lookup err = some .local := by show Z.env.scope.names.lookup err = _; rw [zsc]; exact T.le
  have li : Z.nox.env.scope.names.lookup e = some .local := by show Z.env.scope.names.lookup e = _; rw [zsc]; exact T.li
  have gj : Z.nox.N[j]? = some err := by rw [zN]; exact T.hj
  have gi : Z.nox.N[i]? = some e := by rw [zN]; exact T.hi
  have nd : Z.nox.N.Nodup := o.nd
  have s1 : PS Z.nox (.Assign [.Name err p0] (.Constant .none k0 p1) p2) (tAsg (tC .non) (gName j)) := ps_set nd gj (.inl le) pe_non rfl (.inr le)
  have s2 : PS Z.nox (.Try [.Expr (.Call (.Name a p3) [] [] p4) p5] [.ExceptHandler (some (.Name cb p6)) (some e) [.Assign [.Name err p7] (.Name e p8) p9] q1] [] [] q2) (fun D σ H =>
      (fun (W : WX) (D : Ends) (σ : St) (H : Hp) => ∃ (E : XK) (Q' : VK), (∀ cls d σ' H', E cls d H' → W cls d σ' H') ∧ (∀ v H', Q' v H' → D.nx σ H') ∧ σ[0]? = some (some (.ref f)) ∧ H c' = some (LamX.CodeO c' q) ∧ tl E H Q')
        (wKeep Z.nox.K (.ref CB) i Z.nox.N.length (fun _ => tAsg (tVar i) (gName j)) D) D σ H) := by
    refine ps_try_keep (X := Z.nox) (tb := fun W D σ H => ∃ (E : XK) (Q' : VK), (∀ cls d σ' H', E cls d H' → W cls d σ' H') ∧ (∀ v H', Q' v H' → D.nx σ H') ∧ σ[0]? = some (some (.ref f)) ∧ H c' = some (LamX.CodeO c' q) ∧ tl E H Q') (ts := fun _ => tAsg (tVar i) (gName j)) ?_ ?_ nd gi li ⟨?_, (nm_ok T.ne.2).1, .inl ?_⟩ ?_ (fun W pn xe tk _ => ?_) (fun a0 oe pn => ?_)
    · subst hZ; rfl
    · subst hZ; rfl
    · show Z.env.scope.names.lookup cb = _
      rw [zsc]; exact T.gb
    · subst hZ; show X.mg cb = _; rw [x4]; exact hcb
    · subst hZ; rfl
    · refine ⟨fun pins s' σ H' D I h' => ?_⟩
      obtain ⟨E, Q', hW, hQ, h1, h2, h3⟩ := h'
      have hp := act W pn xe E p3 p4 tk hW
      have hp2 : PE (Z.nox.tr pn xe) (.Call (.Name a p3) [] [] p4) (fun σ H Q => ∃ Q', (∀ v H', Q' v H' → Q v H') ∧ σ[0]? = some (some (.ref f)) ∧ H c' = some (LamX.CodeO c' q) ∧ tl E H Q') :=
        ⟨fun pins s σ H Q I ⟨Q', hq, h'⟩ => wpAny_mono (hp.run pins s σ H Q' I h') (fun u s1 ⟨v, H1, I1, r1, q1⟩ => ⟨v, H1, I1, r1, hq _ _ q1⟩) fun _ _ x => x⟩
      exact (pss_one (ps_expr (pos := p5) hp2 rfl)).run pins s' σ H' D I ⟨Q', hQ, h1, h2, h3⟩
    · exact pss_one (ps_set (X := Z.nox.suite a0 ((a0, oe) :: pn)) nd gj (.inl le) (pe_var gi (.inl li) (nm_ok T.ne.1).1 (nm_ok T.ne.1).2) rfl (.inr le))
  refine ⟨_, pss_cons s1 (pss_cons s2 (seq hc)), ?_⟩
  have jl : j < G.N.length := (List.getElem?_eq_some_iff.mp T.hj).1
  have il : i < G.N.length := (List.getElem?_eq_some_iff.mp T.hi).1
  have l0 : (L2.start G.N [V.ref f]).length = G.N.length := by
    unfold L2.start
    simp
    omega
  have s0 : (L2.start G.N [V.ref f])[0]? = some (some (.ref f)) := rfl
  obtain ⟨hj0, hi0, hij⟩ := T.h0
  refine ⟨fun cls d H' => ∃ c' ∈ G.excs, cls = Tbs.cls c' ∧ d = none ∧ TEnd (runTk Φ wf c j G.N.length [.val (excD c')]) H' Q, fun _ H' => TEnd (runTk Φ wf c j G.N.length [.val .none]) H' Q, ?_, ?_, ?_, hcd, h⟩
  · rintro cls d σ' H' ⟨x', hx', rfl, rfl, te⟩
    have zK : Z.nox.K = K := by subst hZ; exact x3
    refine ⟨by rw [zK]; exact cat x' hx', rfl, fun hlen a0 ha0 => ?_⟩
    rw [zN] at hlen
    refine ⟨.ref a0, by rw [List.getElem?_set_self (by omega)], ?_⟩
    have sm := same_upd (o := ExT (Tbs.cls x') a0) ha0
    refine tk_tail (v := .ref a0) (F := fun b => if b = a0 then some (ExT (Tbs.cls x') a0) else none) te ⟨fun b u z => ?_, fun b ps z => ?_, te.1.same sm⟩ sm.n (by simp [hlen]) jl ?_ ?_
    · split at z
      · rename_i hb; subst hb; rw [upd_same]; exact z
      · cases z
    · split at z
      · cases z
      · cases z
    · rw [List.getElem?_set_ne hij, List.getElem?_set_self (by rw [List.length_set]; omega)]
    · exact .exc (if_pos rfl)
  · intro v H' te
    exact tk_tail (v := .non) (F := fun _ => none) te ⟨fun b u z => (nomatch z), fun b ps z => (nomatch z), te.1⟩ (fun b u z _ => z) (by rw [List.length_set]; exact l0) jl (List.getElem?_set_self (by omega)) .non
  · show ((L2.start G.N [V.ref f]).set j (some V.non))[0]? = _
    rw [List.getElem?_set_ne hj0]
    exact s0
end
end BX

set_option Elab.async false
set_option linter.all false
set_option maxRecDepth 100000
set_option maxHeartbeats 4000000
namespace BX
open PySem PySem.Spec PyProof.Rows L2 RZ PureT

/-! ## plain proofs over the small language -/
def R.wp {α : Type} (r : R α) (Q : α → Env → Prop) : Prop := match r with
  | .ok a ρ => Q a ρ
  | _ => False
section
variable {α β : Type} {r : R α} {f : α → Env → R β} {Q : α → Env → Prop} {ρ : Env}
theorem wp_ok {a : α} : (R.ok a ρ).wp Q = Q a ρ := rfl
theorem wp_bad : (R.bad : R α).wp Q = False := rfl
theorem wp_exc {c : Str} : (R.exc c ρ : R α).wp Q = False := rfl
theorem wp_bind {Q : β → Env → Prop} : (r.bind f).wp Q = r.wp fun a ρ => (f a ρ).wp Q := by cases r <;> rfl
theorem wp_if {c : Prop} [Decidable c] {a b : R α} : (if c then a else b).wp Q = ((c → a.wp Q) ∧ (¬ c → b.wp Q)) := by
  split
  · rename_i h; exact propext ⟨fun q => ⟨fun _ => q, fun n => absurd h n⟩, fun q => q.1 h⟩
  · rename_i h; exact propext ⟨fun q => ⟨fun n => absurd n h, fun _ => q⟩, fun q => q.2 h⟩
theorem R.wp.mono {Q' : α → Env → Prop} (h : r.wp Q) (i : ∀ a ρ, Q a ρ → Q' a ρ) : r.wp Q' := by
  cases r with
  | ok a ρ => exact i a ρ h
  | exc _ _ => exact h
  | bad => exact h
theorem R.wp.eq (h : r.wp Q) : ∃ a ρ, r = .ok a ρ ∧ Q a ρ := by
  cases r with
  | ok a ρ => exact ⟨a, ρ, rfl, h⟩
  | exc _ _ => exact h.elim
  | bad => exact h.elim
end
def flK (b : Env → R Fl) (Q : Fl → Env → Prop) (fl : Fl) (ρ : Env) : Prop := match fl with
  | .next => (b ρ).wp Q
  | fl => Q fl ρ
section
variable {a b : Env → R Fl} {c : Env → R RV} {ρ : Env} {Q : Fl → Env → Prop}
theorem wp_seq : (exSeq a b ρ).wp Q = (a ρ).wp (flK b Q) := by
  unfold exSeq
  cases a ρ with
  | ok fl ρ1 => cases fl <;> rfl
  | exc _ _ => rfl
  | bad => rfl
theorem flK_next : flK b Q .next ρ = (b ρ).wp Q := rfl
theorem flK_ret {r : RV} : flK b Q (.ret r) ρ = Q (.ret r) ρ := rfl
theorem flK_brk : flK b Q .brk ρ = Q .brk ρ := rfl
theorem flK_cont : flK b Q .cont ρ = Q .cont ρ := rfl
def tK (Q : Bool → Env → Prop) (u : RV) (ρ : Env) : Prop := match u with
  | .val (.bool t) => Q t ρ
  | _ => False
theorem wp_evT {Q : Bool → Env → Prop} : (evT c ρ).wp Q = (c ρ).wp (tK Q) := by
  unfold evT
  rw [wp_bind]
  congr 1
  funext u ρ1
  unfold tK
  split <;> simp_all [R.wp]
theorem tK_b {Q : Bool → Env → Prop} {t : Bool} : tK Q (.val (.bool t)) ρ = Q t ρ := rfl
theorem wp_ite : (exIte c a b ρ).wp Q = (c ρ).wp (tK fun t ρ1 => (t = true → (a ρ1).wp Q) ∧ (t = false → (b ρ1).wp Q)) := by
  unfold exIte
  rw [wp_bind, wp_evT]
  congr 2
  funext t ρ1
  rw [wp_if]
  cases t <;> simp
theorem wp_and {f g : Env → R RV} {Q : RV → Env → Prop} : (evAnd f g ρ).wp Q = (f ρ).wp (tK fun t ρ1 => (t = true → (g ρ1).wp Q) ∧ (t = false → Q (.val (.bool false)) ρ1)) := by
  unfold evAnd
  rw [wp_bind, wp_evT]
  congr 2
  funext t ρ1
  rw [wp_if]
  cases t <;> simp [R.wp]
theorem wp_or {f g : Env → R RV} {Q : RV → Env → Prop} : (evOr f g ρ).wp Q = (f ρ).wp (tK fun t ρ1 => (t = true → Q (.val (.bool true)) ρ1) ∧ (t = false → (g ρ1).wp Q)) := by
  unfold evOr
  rw [wp_bind, wp_evT]
  congr 2
  funext t ρ1
  rw [wp_if]
  cases t <;> simp [R.wp]
theorem wp_not {f : Env → R RV} {Q : RV → Env → Prop} : (evNot f ρ).wp Q = (f ρ).wp (tK fun t ρ1 => Q (.val (.bool (!t))) ρ1) := by
  unfold evNot
  rw [wp_bind, wp_evT]
  rfl
theorem wp_cond {f g : Env → R RV} {Q : RV → Env → Prop} : (evIte c f g ρ).wp Q = (c ρ).wp (tK fun t ρ1 => (t = true → (f ρ1).wp Q) ∧ (t = false → (g ρ1).wp Q)) := by
  unfold evIte
  rw [wp_bind, wp_evT]
  congr 2
  funext t ρ1
  rw [wp_if]
  cases t <;> simp
/-- one turn's end in a loop -/
def lpK (I : Env → Prop) (Q : Fl → Env → Prop) (fl : Fl) (ρ : Env) : Prop := match fl with
  | .next => I ρ
  | .cont => I ρ
  | .brk => Q .next ρ
  | .ret r => Q (.ret r) ρ
theorem lpK_next {I : Env → Prop} : lpK I Q .next ρ = I ρ := rfl
theorem lpK_cont {I : Env → Prop} : lpK I Q .cont ρ = I ρ := rfl
theorem lpK_brk {I : Env → Prop} : lpK I Q .brk ρ = Q .next ρ := rfl
theorem lpK_ret {I : Env → Prop} {r : RV} : lpK I Q (.ret r) ρ = Q (.ret r) ρ := rfl
def stK (tg : CT) (x : D) (b : Env → R Fl) (I : Env → Prop) (Q : Fl → Env → Prop) (ρ : Env) : Prop := match setT tg x ρ with
  | some ρ1 => (b ρ1).wp (lpK I Q)
  | none => False
/-- a for by its invariant over what is left -/
theorem wp_for {tg : CT} (I : List D → Env → Prop) {xs : List D} (h0 : I xs ρ) (step : ∀ x xs ρ, I (x :: xs) ρ → stK tg x b (I xs) Q ρ) (hend : ∀ ρ, I [] ρ → Q .next ρ) : (forLoop tg b xs ρ).wp Q := by
  induction xs generalizing ρ with
  | nil => exact hend ρ h0
  | cons x xs ih =>
    have s := step x xs ρ h0
    unfold stK at s
    unfold forLoop
    cases e : setT tg x ρ with
    | none => rw [e] at s; exact s.elim
    | some ρ1 =>
      rw [e] at s
      simp only at s ⊢
      cases eb : b ρ1 with
      | bad => rw [eb] at s; exact s.elim
      | exc _ _ => rw [eb] at s; exact s.elim
      | ok fl ρ2 =>
        rw [eb] at s
        cases fl with
        | next => exact ih s
        | cont => exact ih s
        | brk => exact s
        | ret r => exact s
/-- a while by its invariant and measure -/
theorem wp_while (I : Nat → Env → Prop) {m n : Nat} (h0 : I m ρ) (hn : m < n) (step : ∀ m ρ, I m ρ → (c ρ).wp (tK fun t ρ1 => (t = true → (b ρ1).wp (lpK (fun ρ2 => ∃ k, k < m ∧ I k ρ2) Q)) ∧ (t = false → Q .next ρ1))) : (whileL c b n ρ).wp Q := by
  induction n generalizing m ρ with
  | zero => omega
  | succ n ih =>
    have s := step m ρ h0
    unfold whileL
    rw [wp_bind, wp_evT]
    refine s.mono fun u ρ1 h => ?_
    have key : ∀ t : Bool, ((t = true → (b ρ1).wp (lpK (fun ρ2 => ∃ k, k < m ∧ I k ρ2) Q)) ∧ (t = false → Q .next ρ1)) → (if t = true then (match b ρ1 with
        | .ok .next ρ2 => whileL c b n ρ2
        | .ok .cont ρ2 => whileL c b n ρ2
        | .ok .brk ρ2 => .ok .next ρ2
        | r => r) else .ok .next ρ1 : R Fl).wp Q := fun t h => by
      rw [wp_if]
      refine ⟨fun ht => ?_, fun ht => h.2 (by simpa using ht)⟩
      have h1 := h.1 ht
      cases eb : b ρ1 with
      | bad => rw [eb] at h1; exact h1.elim
      | exc _ _ => rw [eb] at h1; exact h1.elim
      | ok fl ρ2 =>
        rw [eb] at h1
        cases fl with
        | next => obtain ⟨k, hk, i⟩ := h1; exact ih i (by omega)
        | cont => obtain ⟨k, hk, i⟩ := h1; exact ih i (by omega)
        | brk => exact h1
        | ret r => exact h1
    cases u with
    | own o => exact h
    | bor i => exact h
    | val d =>
      cases d with
      | bool t => exact key t h
      | _ => exact h
end
/-- a def's end -/
def RF.wp (f : RF) (Q : RV → Option O → Prop) : Prop := match f with
  | .ok r fin => Q r fin
  | _ => False
def rnK (as : List Arg) (Q : RV → Option O → Prop) (fl : Fl) (ρ : Env) : Prop := match fl with
  | .next => Q (.val .none) (finO as ρ)
  | .ret r => Q r (finO as ρ)
  | _ => False
theorem rnK_next {as : List Arg} {Q : RV → Option O → Prop} {ρ : Env} : rnK as Q .next ρ = Q (.val .none) (finO as ρ) := rfl
theorem rnK_ret {as : List Arg} {Q : RV → Option O → Prop} {ρ : Env} {r : RV} : rnK as Q (.ret r) ρ = Q r (finO as ρ) := rfl
theorem wp_run {Φ : List Fn} {wf : Nat} {c : CS} {n : Nat} {as : List Arg} {Q : RV → Option O → Prop} (h : (exec Φ wf c (startE n as)).wp (rnK as Q)) : (runFn Φ wf c n as).wp Q := by
  unfold runFn
  cases e : exec Φ wf c (startE n as) with
  | bad => rw [e] at h; exact h.elim
  | exc _ _ => rw [e] at h; exact h.elim
  | ok fl ρ =>
    rw [e] at h
    cases fl with
    | next => exact h
    | ret r => exact h
    | brk => exact h.elim
    | cont => exact h.elim
theorem RF.wp.eq {f : RF} {r : RV} {fin : Option O} (h : f.wp fun r' fin' => r' = r ∧ fin' = fin) : f = .ok r fin := by
  cases f with
  | ok a b => obtain ⟨h1, h2⟩ := h; rw [h1, h2]
  | exc _ _ => exact h.elim
  | bad => exact h.elim
theorem RF.wp.ex {f : RF} {Q : RV → Option O → Prop} (h : f.wp Q) : ∃ r fin, f = .ok r fin ∧ Q r fin := by
  cases f with
  | ok a b => exact ⟨a, b, rfl, h⟩
  | exc _ _ => exact h.elim
  | bad => exact h.elim
end BX

set_option Elab.async false
set_option linter.all false
set_option maxRecDepth 100000
set_option maxHeartbeats 4000000
namespace BX
open PySem PySem.Spec PyProof.Rows L2 RZ PureT

section
variable {ρ : Env} {Q : RV → Env → Prop}
theorem wp_ap1 {b : Vw → Option RV} {u : RV} : (ap1 b u ρ).wp Q = ∃ x r, viewRV ρ u = some x ∧ b x = some r ∧ Q r ρ := by
  unfold ap1
  cases viewRV ρ u with
  | none => simp [R.wp]
  | some x => cases h : b x <;> simp [R.wp, h]
theorem wp_ap2 {b : Vw → Vw → Option RV} {u w : RV} : (ap2 b u w ρ).wp Q = ∃ x y r, viewRV ρ u = some x ∧ viewRV ρ w = some y ∧ b x y = some r ∧ Q r ρ := by
  unfold ap2
  cases viewRV ρ u with
  | none => simp [R.wp]
  | some x =>
    cases viewRV ρ w with
    | none => simp [R.wp]
    | some y => cases h : b x y <;> simp [R.wp, h]
theorem wp_apN {b : List Vw → Option RV} {us : List RV} : (apN b us ρ).wp Q = ∃ x r, viewRVs ρ us = some x ∧ b x = some r ∧ Q r ρ := by
  unfold apN
  cases viewRVs ρ us with
  | none => simp [R.wp]
  | some x => cases h : b x <;> simp [R.wp, h]
theorem ex2 {α β : Type} {a : α} {b : β} {P : α → β → Prop} : (∃ x y, some (a, b) = some (x, y) ∧ P x y) = P a b :=
  propext ⟨fun ⟨x, y, e, h⟩ => by cases e; exact h, fun h => ⟨a, b, rfl, h⟩⟩
theorem ex2n {α β : Type} {P : α → β → Prop} : (∃ x y, (none : Option (α × β)) = some (x, y) ∧ P x y) = False :=
  eq_false fun ⟨_, _, e, _⟩ => nomatch e
theorem wp_tup {fs : Env → R (List RV)} : (evTup fs ρ).wp Q = (fs ρ).wp fun rs ρ1 => ∃ ds ρ2, valArgs false rs ρ1 = some (ds, ρ2) ∧ ds.length ≤ sizeLine ∧ Q (.val (.tuple ds)) ρ2 := by
  unfold evTup
  rw [wp_bind]
  congr 1
  funext rs ρ1
  cases valArgs false rs ρ1 with
  | none => rw [ex2n]; rfl
  | some p =>
    obtain ⟨ds, ρ2⟩ := p
    rw [ex2]
    by_cases h : ds.length ≤ sizeLine <;> simp [h, R.wp]
theorem wp_lst {fs : Env → R (List RV)} : (evLst fs ρ).wp Q = (fs ρ).wp fun rs ρ1 => ∃ ds ρ2, valArgs false rs ρ1 = some (ds, ρ2) ∧ ds.length ≤ sizeLine ∧ Q (.own (.lst ds)) ρ2 := by
  unfold evLst
  rw [wp_bind]
  congr 1
  funext rs ρ1
  cases valArgs false rs ρ1 with
  | none => rw [ex2n]; rfl
  | some p =>
    obtain ⟨ds, ρ2⟩ := p
    rw [ex2]
    by_cases h : ds.length ≤ sizeLine <;> simp [h, R.wp]
theorem stRet_val {d : D} : stRet (.val d) ρ = .ok (.ret (.val d)) ρ := rfl
theorem stRet_own {o : O} : stRet (.own o) ρ = .ok (.ret (.own o)) ρ := rfl
theorem stRet_bor {j : Nat} : stRet (.bor j) ρ = (match ρ[j]? with
    | some (some (.own k o)) => if k = .fre then .ok (.ret (.own o)) (ρ.set j none) else .bad
    | _ => .bad) := rfl
theorem stAsg_val {i : Nat} {d : D} : stAsg i (.val d) ρ = (match setS i (.val d) ρ with
    | some ρ' => .ok .next ρ'
    | none => .bad) := rfl
theorem stAsg_own {i : Nat} {o : O} : stAsg i (.own o) ρ = (match setS i (.own .fre o) ρ with
    | some ρ' => .ok .next ρ'
    | none => .bad) := rfl
theorem stAsg_bor {i j : Nat} : stAsg i (.bor j) ρ = (match ρ[j]? with
    | some (some (.own k o)) => if k = .fre ∧ i ≠ j then
        match setS i (.own .fre o) (ρ.set j none) with
        | some ρ' => .ok .next ρ'
        | none => .bad
      else .bad
    | _ => .bad) := rfl
theorem RF.wp_ok {r : RV} {fin : Option O} {P : RV → Option O → Prop} : (RF.ok r fin).wp P = P r fin := rfl
theorem RF.wp.mono {f : RF} {P P' : RV → Option O → Prop} (h : f.wp P) (i : ∀ r fin, P r fin → P' r fin) : f.wp P' := by
  cases f with
  | ok a b => exact i a b h
  | exc _ _ => exact h
  | bad => exact h
theorem va_any {rs : List RV} : ∀ {ρ : Env} {p : List D × Env}, valArgs false rs ρ = some p → valArgs true rs ρ = some p := by
  induction rs with
  | nil => intro ρ p h; exact h
  | cons r rs ih =>
    intro ρ p h
    cases r with
    | val d =>
      simp only [valArgs] at h ⊢
      cases e : valArgs false rs ρ with
      | none => rw [e] at h; cases h
      | some q => rw [e] at h; rw [ih e]; exact h
    | own o =>
      simp only [valArgs] at h ⊢
      cases e : valArgs false rs ρ with
      | none => rw [e] at h; cases ef : o.fz <;> rw [ef] at h <;> cases h
      | some q => rw [e] at h; rw [ih e]; exact h
    | bor i =>
      simp only [valArgs] at h ⊢
      cases e0 : ρ[i]? with
      | none => rw [e0] at h; cases h
      | some v =>
        rw [e0] at h
        cases v with
        | none => cases h
        | some v =>
          cases v with
          | val d =>
            simp only at h ⊢
            cases e : valArgs false rs ρ with
            | none => rw [e] at h; cases h
            | some q => rw [e] at h; rw [ih e]; exact h
          | own k o =>
            simp only [Bool.false_or, Bool.true_or, if_true] at h ⊢
            split at h
            · cases ef : o.fz with
              | none => rw [ef] at h; cases h
              | some d =>
                rw [ef] at h
                simp only at h ⊢
                cases e : valArgs false rs (ρ.set i (some (.val d))) with
                | none => rw [e] at h; cases h
                | some q => rw [e] at h; rw [ih e]; exact h
            · cases h
/-- behind a call without a reference -/
def clK (rs : List RV) (ρ : Env) (Q : RV → Env → Prop) (r : RV) : Prop := match r with
  | .val d => if scal d = true then Q (.val d) ρ else ∃ ds ρ1, valArgs false rs ρ = some (ds, ρ1) ∧ Q (.val d) ρ1
  | .own o => ∃ ds ρ1, valArgs false rs ρ = some (ds, ρ1) ∧ Q (.own o) ρ1
  | .bor _ => False
theorem clK_int {rs : List RV} {i : Int} : clK rs ρ Q (.val (.int i)) = Q (.val (.int i)) ρ := rfl
theorem clK_bool {rs : List RV} {i : Bool} : clK rs ρ Q (.val (.bool i)) = Q (.val (.bool i)) ρ := rfl
theorem clK_str {rs : List RV} {i : Str} : clK rs ρ Q (.val (.str i)) = Q (.val (.str i)) ρ := rfl
theorem clK_none {rs : List RV} : clK rs ρ Q (.val .none) = Q (.val .none) ρ := rfl
theorem clK_tup {rs : List RV} {l : List D} : clK rs ρ Q (.val (.tuple l)) = ∃ ds ρ1, valArgs false rs ρ = some (ds, ρ1) ∧ Q (.val (.tuple l)) ρ1 := rfl
theorem clK_own {rs : List RV} {o : O} : clK rs ρ Q (.own o) = ∃ ds ρ1, valArgs false rs ρ = some (ds, ρ1) ∧ Q (.own o) ρ1 := rfl
theorem clK_lst {rs : List RV} {l : List D} : clK rs ρ Q (.val (.list l)) = ∃ ds ρ1, valArgs false rs ρ = some (ds, ρ1) ∧ Q (.val (.list l)) ρ1 := rfl
theorem wp_callV {run : List Arg → RF} {rs : List RV} : (callEv ⟨false, run⟩ rs ρ).wp Q = ∃ ds ρ1, valArgs true rs ρ = some (ds, ρ1) ∧ (run (ds.map .val)).wp fun r _ => clK rs ρ Q r := by
  unfold callEv callS callG
  simp only [Bool.false_eq_true, if_false]
  cases et : valArgs true rs ρ with
  | none =>
    cases ef : valArgs false rs ρ with
    | some p => rw [va_any ef] at et; cases et
    | none => simp [R.wp]
  | some p =>
    obtain ⟨ds, ρ1⟩ := p
    simp only [Option.some.injEq, Prod.mk.injEq]
    have fin : ∀ (P : List D → Env → Prop), (∃ ds' ρ1', (ds = ds' ∧ ρ1 = ρ1') ∧ P ds' ρ1') = P ds ρ1 := fun P => propext ⟨fun ⟨_, _, ⟨rfl, rfl⟩, h⟩ => h, fun h => ⟨_, _, ⟨rfl, rfl⟩, h⟩⟩
    rw [fin fun ds _ => (run (ds.map .val)).wp fun r _ => clK rs ρ Q r]
    have old : ∀ p, valArgs false rs ρ = some p → p = (ds, ρ1) := fun p e => by
      have := va_any e
      rw [et] at this
      exact (Option.some.inj this).symm
    cases er : run (ds.map .val) with
    | bad =>
      simp only
      cases ef : valArgs false rs ρ with
      | none => rfl
      | some p => cases old p ef; simp only [er]; rfl
    | exc c fin => rfl
    | ok r fin =>
      cases r with
      | val d =>
        simp only [RF.wp_ok, clK]
        cases es : scal d with
        | true => simp [R.wp]
        | false =>
          simp only [Bool.false_eq_true, if_false]
          cases ef : valArgs false rs ρ with
          | none => rw [ex2n]; rfl
          | some p => cases old p ef; rw [ex2]; simp only [er]; rfl
      | own o =>
        simp only [RF.wp_ok, clK]
        cases ef : valArgs false rs ρ with
        | none => simp [R.wp]
        | some p => cases old p ef; rw [ex2]; simp only [er]; rfl
      | bor i =>
        simp only [RF.wp_ok, clK]
        cases ef : valArgs false rs ρ with
        | none => simp [R.wp]
        | some p => cases old p ef; simp [er, R.wp]
/-- behind a call by reference -/
def crK (i : Nat) (k : OK) (ρ1 : Env) (Q : RV → Env → Prop) (r : RV) (fin : Option O) : Prop := match r with
  | .bor _ => False
  | r => ∃ o', fin = some o' ∧ Q r (ρ1.set i (some (.own k o')))
theorem crK_val {i : Nat} {k : OK} {d : D} {fin : Option O} : crK i k ρ Q (.val d) fin = ∃ o', fin = some o' ∧ Q (.val d) (ρ.set i (some (.own k o'))) := rfl
theorem crK_own {i : Nat} {k : OK} {d : O} {fin : Option O} : crK i k ρ Q (.own d) fin = ∃ o', fin = some o' ∧ Q (.own d) (ρ.set i (some (.own k o'))) := rfl
theorem wp_callR {run : List Arg → RF} {i : Nat} {rs : List RV} : (callEv ⟨true, run⟩ (.bor i :: rs) ρ).wp Q = ∃ k o ds ρ1, ρ[i]? = some (some (.own k o)) ∧ k ≠ .len ∧ valArgs false rs (ρ.set i none) = some (ds, ρ1) ∧ (run (.own o :: ds.map .val)).wp (crK i k ρ1 Q) := by
  unfold callEv callS callG
  simp only [if_true]
  cases e0 : ρ[i]? with
  | none => simp [R.wp]
  | some v =>
    cases v with
    | none => simp [R.wp]
    | some v =>
      cases v with
      | val d => simp [R.wp]
      | own k o =>
        simp only [Option.some.injEq, SV.own.injEq]
        by_cases hk : k = .len
        · simp only [hk, if_true]
          refine propext ⟨fun h => h.elim, fun ⟨k', o', ds, ρ1, h, n, _⟩ => n h.1.symm⟩
        · simp only [hk, if_false]
          cases ev : valArgs false rs (ρ.set i none) with
          | none => simp [R.wp]
          | some p =>
            obtain ⟨ds, ρ1⟩ := p
            simp only [Option.some.injEq, Prod.mk.injEq]
            have fin : ∀ (P : OK → O → List D → Env → Prop), (∃ k' o' ds' ρ1', (k = k' ∧ o = o') ∧ k' ≠ .len ∧ (ds = ds' ∧ ρ1 = ρ1') ∧ P k' o' ds' ρ1') = P k o ds ρ1 := fun P => propext ⟨fun ⟨_, _, _, _, ⟨rfl, rfl⟩, _, ⟨rfl, rfl⟩, h⟩ => h, fun h => ⟨_, _, _, _, ⟨rfl, rfl⟩, hk, ⟨rfl, rfl⟩, h⟩⟩
            rw [fin fun k o ds ρ1 => (run (.own o :: ds.map .val)).wp (crK i k ρ1 Q)]
            cases er : run (.own o :: ds.map .val) with
            | bad => rfl
            | exc c fin => cases fin <;> rfl
            | ok r fin => cases r <;> cases fin <;> simp [R.wp, RF.wp_ok, crK]
end
section
variable {ρ : Env} {Q : RV → Env → Prop}
/-- behind a call by reference to a fresh object -/
def ctK (ρ : Env) (Q : RV → Env → Prop) (r : RV) (fin : Option O) : Prop := match r with
  | .bor _ => False
  | r => Q r ρ
theorem ctK_val {d : D} {fin : Option O} : ctK ρ Q (.val d) fin = Q (.val d) ρ := rfl
theorem ctK_own {d : O} {fin : Option O} : ctK ρ Q (.own d) fin = Q (.own d) ρ := rfl
def ctJ (run : List Arg → RF) (o : O) (ρ : Env) (Q : RV → Env → Prop) (x : Option (List D)) : Prop := match x with
  | some ds => (run (.own o :: ds.map .val)).wp (ctK ρ Q)
  | none => False
theorem ctJ_some {run : List Arg → RF} {o : O} {ds : List D} : ctJ run o ρ Q (some ds) = (run (.own o :: ds.map .val)).wp (ctK ρ Q) := rfl
theorem wp_callT {run : List Arg → RF} {o : O} {rs : List RV} : (callEv ⟨true, run⟩ (.own o :: rs) ρ).wp Q = ctJ run o ρ Q (valsD rs) := by
  unfold callEv callS callG
  simp only [if_true]
  cases valsD rs with
  | none => rfl
  | some ds =>
    simp only [ctJ]
    cases er : run (.own o :: ds.map .val) with
    | bad => rfl
    | exc c fin => rfl
    | ok r fin => cases r <;> rfl
end
/-! ### comprehensions -/
theorem wp_lcLoop {turn : D → Env → R (Option D)} {Q : List D → Env → Prop} (I : List D → List D → Env → Prop) : ∀ {xs : List D} {done : List D} {ρ : Env} (h0 : I xs done ρ)
    (step : ∀ x xs done ρ, I (x :: xs) done ρ → (turn x ρ).wp fun o ρ1 => I xs (done ++ o.toList) ρ1), (lcLoop turn xs ρ).wp fun ds ρ1 => I [] (done ++ ds) ρ1 := by
  intro xs
  induction xs with
  | nil => intro done ρ h0 step; simpa [lcLoop, R.wp] using h0
  | cons x xs ih =>
    intro done ρ h0 step
    unfold lcLoop
    rw [wp_bind]
    refine (step x xs done ρ h0).mono fun o ρ1 h => ?_
    rw [wp_bind]
    refine (ih h step).mono fun ds ρ2 h2 => ?_
    rw [wp_ok, ← List.append_assoc]
    exact h2
theorem wp_noX {α : Type} {r : R α} {Q : α → Env → Prop} : r.noX.wp Q = r.wp Q := by cases r <;> rfl
theorem wp_lc {it : Env → R (List D)} {tg : CT} {c : Env → R Bool} {f : Env → R RV} {own : List Nat} {ρ : Env} {Q : RV → Env → Prop} : (evLc it tg c f own ρ).wp Q = (it ρ).wp fun xs ρ1 => ownFree own ρ1 = true ∧ xs.length ≤ sizeLine ∧
    (lcLoop (lcTurn tg c f own) xs (wipeE own ρ1)).wp fun ds ρ2 => Q (.own (.lst ds)) (restE own ρ1 ρ2) := by
  unfold evLc
  rw [wp_bind]
  congr 1
  funext xs ρ1
  by_cases h : ownFree own ρ1 = true ∧ xs.length ≤ sizeLine
  · rw [if_pos h, wp_bind, wp_noX]
    exact propext ⟨fun q => ⟨h.1, h.2, q⟩, fun q => q.2.2⟩
  · rw [if_neg h]
    exact propext ⟨fun q => q.elim, fun q => (h ⟨q.1, q.2.1⟩).elim⟩
/-- a comprehension whose turns leave the environment -/
theorem lcLoop_map {turn : D → Env → R (Option D)} {ρ : Env} {g : D → Option D} : ∀ {xs : List D}, (∀ x ∈ xs, turn x ρ = .ok (g x) ρ) → lcLoop turn xs ρ = .ok (xs.filterMap g) ρ := by
  intro xs
  induction xs with
  | nil => intro _; rfl
  | cons x xs ih =>
    intro h
    unfold lcLoop
    rw [h x (List.mem_cons_self ..), R.bind_ok, ih fun y hy => h y (List.mem_cons_of_mem _ hy), R.bind_ok, List.filterMap_cons]
    cases g x <;> rfl
theorem R.wp.eqv {α : Type} {r : R α} {a : α} {ρ : Env} (h : r.wp fun b ρ' => b = a ∧ ρ' = ρ) : r = .ok a ρ := by
  cases r with
  | ok b ρ' => obtain ⟨h1, h2⟩ := h; rw [h1, h2]
  | exc _ _ => exact h.elim
  | bad => exact h.elim
/-- the state of the law's own drawing -/
def stO (s : Int × Bool) : O := .lst [.int s.1, .bool s.2]
end BX

set_option Elab.async false
set_option linter.all false
set_option maxRecDepth 100000
set_option maxHeartbeats 4000000
namespace BX
open PySem PySem.Spec PyProof.Rows L2 RZ PureT

/-! ## frames: one step at a time, no work under a binder -/
def V (k : RV → Env → Prop) (u : RV) (ρ : Env) : Prop := k u ρ
section
variable {k : RV → Env → Prop} {ρ : Env} {Q : RV → Env → Prop} {T : Fl → Env → Prop} {Φ : List Fn}
theorem V_val {d : D} : V k (.val d) ρ = k (.val d) ρ := rfl
theorem V_own {d : O} : V k (.own d) ρ = k (.own d) ρ := rfl
theorem V_bor {d : Nat} : V k (.bor d) ρ = k (.bor d) ρ := rfl
def vK (i : Nat) (v : Option (Option SV)) (Q : RV → Env → Prop) (ρ : Env) : Prop := match v with
  | some (some (.val d)) => Q (.val d) ρ
  | some (some (.own _ _)) => Q (.bor i) ρ
  | _ => False
theorem vK_val {i : Nat} {d : D} : vK i (some (some (.val d))) Q ρ = Q (.val d) ρ := rfl
theorem vK_own {i : Nat} {k : OK} {o : O} : vK i (some (some (.own k o))) Q ρ = Q (.bor i) ρ := rfl
theorem vK_no {i : Nat} : vK i (some none) Q ρ = False := rfl
theorem vK_none {i : Nat} : vK i none Q ρ = False := rfl
theorem wp_var {i : Nat} : (evVar i ρ).wp Q = vK i (ρ[i]?) Q ρ := by
  unfold evVar vK
  cases ρ[i]? with
  | none => rfl
  | some v =>
    cases v with
    | none => rfl
    | some v => cases v <;> rfl
theorem wv_var {i : Nat} : (ev Φ (.var i) ρ).wp Q = vK i (ρ[i]?) Q ρ := wp_var
theorem wv_cst {d : D} : (ev Φ (.cst d) ρ).wp Q = Q (.val d) ρ := rfl
def b2F (b : Vw → Vw → Option RV) (u : RV) (Q : RV → Env → Prop) (w : RV) (ρ : Env) : Prop := (ap2 b u w ρ).wp Q
theorem b2F_eq {b : Vw → Vw → Option RV} {u w : RV} : b2F b u Q w ρ = ∃ x y r, viewRV ρ u = some x ∧ viewRV ρ w = some y ∧ b x y = some r ∧ Q r ρ := wp_ap2
def b1F (b : Vw → Vw → Option RV) (g : Env → R RV) (Q : RV → Env → Prop) (u : RV) (ρ : Env) : Prop := (g ρ).wp (V (b2F b u Q))
theorem b1F_eq {b : Vw → Vw → Option RV} {g : Env → R RV} {u : RV} : b1F b g Q u ρ = (g ρ).wp (V (b2F b u Q)) := rfl
theorem wb {f g : Env → R RV} {b : Vw → Vw → Option RV} : ((f ρ).bind fun u ρ1 => (g ρ1).bind fun w ρ2 => ap2 b u w ρ2).wp Q = (f ρ).wp (V (b1F b g Q)) := by
  rw [wp_bind]; congr 1; funext u ρ1; rw [wp_bind]; rfl
theorem wv_bin {op : Operator} {a b : CE} : (ev Φ (.bin op a b) ρ).wp Q = (ev Φ a ρ).wp (V (b1F (boF op) (ev Φ b) Q)) := wb
theorem wv_cmp {op : CmpOp} {a b : CE} : (ev Φ (.cmp op a b) ρ).wp Q = (ev Φ a ρ).wp (V (b1F (coF op) (ev Φ b) Q)) := wb
theorem wv_ix {a b : CE} : (ev Φ (.ix a b) ρ).wp Q = (ev Φ a ρ).wp (V (b1F bIx (ev Φ b) Q)) := wb
theorem wv_rng2 {t : Bool} {a b : CE} : (ev Φ (.rng2 t a b) ρ).wp Q = (ev Φ a ρ).wp (V (b1F (bRng2 t) (ev Φ b) Q)) := wb
def a1F (b : Vw → Option RV) (Q : RV → Env → Prop) (u : RV) (ρ : Env) : Prop := (ap1 b u ρ).wp Q
theorem a1F_eq {b : Vw → Option RV} {u : RV} : a1F b Q u ρ = ∃ x r, viewRV ρ u = some x ∧ b x = some r ∧ Q r ρ := wp_ap1
theorem wa {f : Env → R RV} {b : Vw → Option RV} : ((f ρ).bind fun u ρ1 => ap1 b u ρ1).wp Q = (f ρ).wp (V (a1F b Q)) := by rw [wp_bind]; rfl
theorem wv_neg {a : CE} : (ev Φ (.neg a) ρ).wp Q = (ev Φ a ρ).wp (V (a1F bNeg Q)) := wa
theorem wv_rev {a : CE} : (ev Φ (.rev a) ρ).wp Q = (ev Φ a ρ).wp (V (a1F bRev Q)) := wa
theorem wv_isin {a : CE} {ts : List TY} : (ev Φ (.isin a ts) ρ).wp Q = (ev Φ a ρ).wp (V (a1F (bIsin ts) Q)) := wa
theorem wv_ssort {a : CE} : (ev Φ (.ssort a) ρ).wp Q = (ev Φ a ρ).wp (V (a1F bSsort Q)) := wa
theorem wv_rng1 {t : Bool} {a : CE} : (ev Φ (.rng1 t a) ρ).wp Q = (ev Φ a ρ).wp (V (a1F (bRng1 t) Q)) := wa
def andF (g : Env → R RV) (Q : RV → Env → Prop) (u : RV) (ρ : Env) : Prop := tK (fun t ρ1 => (t = true → (g ρ1).wp Q) ∧ (t = false → Q (.val (.bool false)) ρ1)) u ρ
theorem andF_b {g : Env → R RV} {t : Bool} : andF g Q (.val (.bool t)) ρ = ((t = true → (g ρ).wp Q) ∧ (t = false → Q (.val (.bool false)) ρ)) := rfl
theorem wv_and {a b : CE} : (ev Φ (.and a b) ρ).wp Q = (ev Φ a ρ).wp (V (andF (ev Φ b) Q)) := wp_and
def orF (g : Env → R RV) (Q : RV → Env → Prop) (u : RV) (ρ : Env) : Prop := tK (fun t ρ1 => (t = true → Q (.val (.bool true)) ρ1) ∧ (t = false → (g ρ1).wp Q)) u ρ
theorem orF_b {g : Env → R RV} {t : Bool} : orF g Q (.val (.bool t)) ρ = ((t = true → Q (.val (.bool true)) ρ) ∧ (t = false → (g ρ).wp Q)) := rfl
theorem wv_or {a b : CE} : (ev Φ (.or a b) ρ).wp Q = (ev Φ a ρ).wp (V (orF (ev Φ b) Q)) := wp_or
def notF (Q : RV → Env → Prop) (u : RV) (ρ : Env) : Prop := tK (fun t ρ1 => Q (.val (.bool (!t))) ρ1) u ρ
theorem notF_b {t : Bool} : notF Q (.val (.bool t)) ρ = Q (.val (.bool (!t))) ρ := rfl
theorem wv_not {a : CE} : (ev Φ (.not a) ρ).wp Q = (ev Φ a ρ).wp (V (notF Q)) := wp_not
def conF (f g : Env → R RV) (Q : RV → Env → Prop) (u : RV) (ρ : Env) : Prop := tK (fun t ρ1 => (t = true → (f ρ1).wp Q) ∧ (t = false → (g ρ1).wp Q)) u ρ
theorem conF_b {f g : Env → R RV} {t : Bool} : conF f g Q (.val (.bool t)) ρ = ((t = true → (f ρ).wp Q) ∧ (t = false → (g ρ).wp Q)) := rfl
theorem wv_ite {c a b : CE} : (ev Φ (.ite c a b) ρ).wp Q = (ev Φ c ρ).wp (V (conF (ev Φ a) (ev Φ b) Q)) := wp_cond
def tupF (Q : RV → Env → Prop) (rs : List RV) (ρ : Env) : Prop := ∃ ds ρ2, valArgs false rs ρ = some (ds, ρ2) ∧ ds.length ≤ sizeLine ∧ Q (.val (.tuple ds)) ρ2
theorem tupF_eq {rs : List RV} : tupF Q rs ρ = ∃ ds ρ2, valArgs false rs ρ = some (ds, ρ2) ∧ ds.length ≤ sizeLine ∧ Q (.val (.tuple ds)) ρ2 := rfl
theorem wv_tup {es : CE} : (ev Φ (.tup es) ρ).wp Q = (evs Φ es ρ).wp (tupF Q) := wp_tup
def lstF (Q : RV → Env → Prop) (rs : List RV) (ρ : Env) : Prop := ∃ ds ρ2, valArgs false rs ρ = some (ds, ρ2) ∧ ds.length ≤ sizeLine ∧ Q (.own (.lst ds)) ρ2
theorem lstF_eq {rs : List RV} : lstF Q rs ρ = ∃ ds ρ2, valArgs false rs ρ = some (ds, ρ2) ∧ ds.length ≤ sizeLine ∧ Q (.own (.lst ds)) ρ2 := rfl
theorem wv_lst {es : CE} : (ev Φ (.lst es) ρ).wp Q = (evs Φ es ρ).wp (lstF Q) := wp_lst
theorem wv_dict {t : Bool} : (ev Φ (.dict t) ρ).wp Q = Q (.own (if t then .dT [] else .dK [])) ρ := rfl
def sl3F (u : RV) (l : Option Int) (Q : RV → Env → Prop) (h : Option Int) (ρ : Env) : Prop := (ap1 (fun x => bSl x l h) u ρ).wp Q
theorem sl3F_eq {u : RV} {l h : Option Int} : sl3F u l Q h ρ = ∃ x r, viewRV ρ u = some x ∧ bSl x l h = some r ∧ Q r ρ := wp_ap1
def sl2F (u : RV) (hi : Env → R (Option Int)) (Q : RV → Env → Prop) (l : Option Int) (ρ : Env) : Prop := (hi ρ).wp (sl3F u l Q)
theorem sl2F_eq {u : RV} {hi : Env → R (Option Int)} {l : Option Int} : sl2F u hi Q l ρ = (hi ρ).wp (sl3F u l Q) := rfl
def sl1F (lo hi : Env → R (Option Int)) (Q : RV → Env → Prop) (u : RV) (ρ : Env) : Prop := (lo ρ).wp (sl2F u hi Q)
theorem sl1F_eq {u : RV} {lo hi : Env → R (Option Int)} : sl1F lo hi Q u ρ = (lo ρ).wp (sl2F u hi Q) := rfl
theorem wv_sl {a lo hi : CE} : (ev Φ (.sl a lo hi) ρ).wp Q = (ev Φ a ρ).wp (V (sl1F (evP Φ lo) (evP Φ hi) Q)) := by
  show ((ev Φ a ρ).bind _).wp Q = _
  rw [wp_bind]; congr 1; funext u ρ1; rw [wp_bind]; show _ = (evP Φ lo ρ1).wp _; congr 1; funext l ρ2; rw [wp_bind]; rfl
def nF (b : List Vw → Option RV) (Q : RV → Env → Prop) (us : List RV) (ρ : Env) : Prop := (apN b us ρ).wp Q
theorem nF_eq {b : List Vw → Option RV} {us : List RV} : nF b Q us ρ = ∃ x r, viewRVs ρ us = some x ∧ b x = some r ∧ Q r ρ := wp_apN
theorem wv_bi {b : BI} {es : CE} : (ev Φ (.bi b es) ρ).wp Q = (evs Φ es ρ).wp (nF (bi b) Q) := by
  show ((evs Φ es ρ).bind _).wp Q = _
  rw [wp_bind]; rfl
def cF (fn : Option Fn) (Q : RV → Env → Prop) (us : List RV) (ρ : Env) : Prop := match fn with
  | some fn => (callEv fn us ρ).wp Q
  | none => False
theorem cF_eq {fn : Fn} {us : List RV} : cF (some fn) Q us ρ = (callEv fn us ρ).wp Q := rfl
theorem wv_call {j : Nat} {es : CE} : (ev Φ (.call j es) ρ).wp Q = (match Φ[j]? with
  | some fn => (evs Φ es ρ).wp (cF (some fn) Q)
  | none => False) := by
  unfold ev
  cases Φ[j]? with
  | none => rfl
  | some fn => simp only [wp_bind]; rfl
def mu2F (m : MU) (j : Nat) (Q : RV → Env → Prop) (rs : List RV) (ρ : Env) : Prop := (muApp m j rs ρ).wp Q
theorem mu2F_eq {m : MU} {j : Nat} {rs : List RV} : mu2F m j Q rs ρ = (muApp m j rs ρ).wp Q := rfl
def muF1 (m : MU) (g : Env → R (List RV)) (Q : RV → Env → Prop) (u : RV) (ρ : Env) : Prop := match u with
  | .bor j => recvOk ρ j m = true ∧ (g ρ).wp (mu2F m j Q)
  | _ => False
theorem muF1_b {m : MU} {g : Env → R (List RV)} {j : Nat} : muF1 m g Q (.bor j) ρ = (recvOk ρ j m = true ∧ (g ρ).wp (mu2F m j Q)) := rfl
theorem wv_mu {m : MU} {o es : CE} : (ev Φ (.mu m o es) ρ).wp Q = (ev Φ o ρ).wp (V (muF1 m (evs Φ es) Q)) := by
  show (muEv m (ev Φ o) (evs Φ es) ρ).wp Q = _
  unfold muEv
  rw [wp_bind]; congr 1; funext u ρ1
  cases u with
  | val _ => rfl
  | own _ => rfl
  | bor j =>
    show _ = (_ ∧ _)
    by_cases h : recvOk ρ1 j m = true
    · simp only [h, if_true, wp_bind, true_and]; rfl
    · simp only [h]; simp [R.wp]
def mt2F (m : MT) (u : RV) (Q : RV → Env → Prop) (rs : List RV) (ρ : Env) : Prop := (apM m u rs ρ).wp Q
theorem mt2F_eq {m : MT} {u : RV} {rs : List RV} : mt2F m u Q rs ρ = (apM m u rs ρ).wp Q := rfl
def mtF1 (m : MT) (g : Env → R (List RV)) (Q : RV → Env → Prop) (u : RV) (ρ : Env) : Prop := tyOkR m u ρ = true ∧ (g ρ).wp (mt2F m u Q)
theorem mtF1_eq {m : MT} {g : Env → R (List RV)} {u : RV} : mtF1 m g Q u ρ = (tyOkR m u ρ = true ∧ (g ρ).wp (mt2F m u Q)) := rfl
theorem wv_mt {m : MT} {o es : CE} : (ev Φ (.mt m o es) ρ).wp Q = (ev Φ o ρ).wp (V (mtF1 m (evs Φ es) Q)) := by
  show (evMt m (ev Φ o) (evs Φ es) ρ).wp Q = _
  unfold evMt
  rw [wp_bind]; congr 1; funext u ρ1
  show _ = (_ ∧ _)
  by_cases h : tyOkR m u ρ1 = true
  · simp only [h, if_true, wp_bind, true_and]; rfl
  · simp only [h]; simp [R.wp]
def c2F (u : RV) (Q : List RV → Env → Prop) (us : List RV) (ρ : Env) : Prop := Q (u :: us) ρ
theorem c2F_eq {u : RV} {Q : List RV → Env → Prop} {us : List RV} : c2F u Q us ρ = Q (u :: us) ρ := rfl
def c1F (g : Env → R (List RV)) (Q : List RV → Env → Prop) (u : RV) (ρ : Env) : Prop := (g ρ).wp (c2F u Q)
theorem c1F_eq {g : Env → R (List RV)} {Q : List RV → Env → Prop} {u : RV} : c1F g Q u ρ = (g ρ).wp (c2F u Q) := rfl
theorem wv_nil {Q : List RV → Env → Prop} : (evs Φ .nil ρ).wp Q = Q [] ρ := rfl
theorem wv_cons {Q : List RV → Env → Prop} {a b : CE} : (evs Φ (.cons a b) ρ).wp Q = (ev Φ a ρ).wp (V (c1F (evs Φ b) Q)) := by
  show (evCons (ev Φ a) (evs Φ b) ρ).wp Q = _
  unfold evCons
  rw [wp_bind]; congr 1; funext u ρ1
  rw [wp_bind]; rfl
def lc2F (own : List Nat) (ρ1 : Env) (Q : RV → Env → Prop) (ds : List D) (ρ : Env) : Prop := Q (.own (.lst ds)) (restE own ρ1 ρ)
theorem lc2F_eq {own : List Nat} {ρ1 : Env} {ds : List D} : lc2F own ρ1 Q ds ρ = Q (.own (.lst ds)) (restE own ρ1 ρ) := rfl
def lcF (tg : CT) (c : Env → R Bool) (f : Env → R RV) (own : List Nat) (Q : RV → Env → Prop) (xs : List D) (ρ : Env) : Prop := ownFree own ρ = true ∧ xs.length ≤ sizeLine ∧ (lcLoop (lcTurn tg c f own) xs (wipeE own ρ)).wp (lc2F own ρ Q)
theorem lcF_eq {tg : CT} {c : Env → R Bool} {f : Env → R RV} {own : List Nat} {xs : List D} : lcF tg c f own Q xs ρ = (ownFree own ρ = true ∧ xs.length ≤ sizeLine ∧ (lcLoop (lcTurn tg c f own) xs (wipeE own ρ)).wp (lc2F own ρ Q)) := rfl
theorem wv_lc {elt : CE} {tg : CT} {it c : CE} {own : List Nat} : (ev Φ (.lc elt tg it c own) ρ).wp Q = (evI Φ it ρ).wp (lcF tg (evB Φ c) (ev Φ elt) own Q) := wp_lc
/-- one turn of a comprehension -/
def lt2F (own : List Nat) (T : Option D → Env → Prop) (u : RV) (ρ : Env) : Prop := ∃ ds ρ4, valArgs false [u] ρ = some (ds, ρ4) ∧ T ds.head? (wipeE own ρ4)
theorem lt2F_eq {own : List Nat} {T : Option D → Env → Prop} {u : RV} : lt2F own T u ρ = ∃ ds ρ4, valArgs false [u] ρ = some (ds, ρ4) ∧ T ds.head? (wipeE own ρ4) := rfl
def lt1F (f : Env → R RV) (own : List Nat) (T : Option D → Env → Prop) (b : Bool) (ρ : Env) : Prop := (b = true → (f ρ).wp (V (lt2F own T))) ∧ (b = false → T none (wipeE own ρ))
theorem lt1F_eq {f : Env → R RV} {own : List Nat} {T : Option D → Env → Prop} {b : Bool} : lt1F f own T b ρ = ((b = true → (f ρ).wp (V (lt2F own T))) ∧ (b = false → T none (wipeE own ρ))) := rfl
def ltK (c : Env → R Bool) (f : Env → R RV) (own : List Nat) (T : Option D → Env → Prop) (x : Option Env) : Prop := match x with
  | some ρ1 => (c ρ1).wp (lt1F f own T)
  | none => False
theorem ltK_some {c : Env → R Bool} {f : Env → R RV} {own : List Nat} {T : Option D → Env → Prop} : ltK c f own T (some ρ) = (c ρ).wp (lt1F f own T) := rfl
theorem wp_turn {tg : CT} {c : Env → R Bool} {f : Env → R RV} {own : List Nat} {x : D} {T : Option D → Env → Prop} : (lcTurn tg c f own x ρ).wp T = ltK c f own T (setT tg x ρ) := by
  unfold lcTurn ltK
  cases setT tg x ρ with
  | none => rfl
  | some ρ1 =>
    simp only [wp_bind]
    congr 1; funext b ρ2
    rw [wp_if, lt1F_eq]
    cases b with
    | false => simp [R.wp]
    | true =>
      simp only [if_true, true_implies, not_true, false_implies, and_true, wp_bind, Bool.true_eq_false]
      congr 1; funext u ρ3
      show _ = lt2F own T u ρ3
      unfold lt2F
      cases valArgs false [u] ρ3 with
      | none => rw [ex2n]; rfl
      | some p => obtain ⟨ds, ρ4⟩ := p; rw [ex2]; rfl
theorem wv_yes {T : Bool → Env → Prop} : (evB Φ .no ρ).wp T = T true ρ := rfl
theorem wv_cond {a : CE} {T : Bool → Env → Prop} : (evB Φ (.some a) ρ).wp T = (ev Φ a ρ).wp (V (tK T)) := wp_evT
/-! ### parts of a slice, iterables -/
def pF (T : Option Int → Env → Prop) (u : RV) (ρ : Env) : Prop := (apPart (some fun ρ => .ok u ρ) ρ).wp T
theorem wv_no {T : Option Int → Env → Prop} : (evP Φ .no ρ).wp T = T none ρ := rfl
theorem wv_some {a : CE} {T : Option Int → Env → Prop} : (evP Φ (.some a) ρ).wp T = (ev Φ a ρ).wp (V (pF T)) := by
  show ((ev Φ a ρ).bind _).wp T = _
  rw [wp_bind]
  rfl
theorem pF_int {T : Option Int → Env → Prop} {i : Int} : pF T (.val (.int i)) ρ = T (some i) ρ := rfl
def seqF (T : List D → Env → Prop) (u : RV) (ρ : Env) : Prop := (evSeq (fun ρ => .ok u ρ) ρ).wp T
theorem seqF_eq {T : List D → Env → Prop} {u : RV} : seqF T u ρ = (evSeq (fun ρ => .ok u ρ) ρ).wp T := rfl
theorem wv_seq {a : CE} {T : List D → Env → Prop} : (evI Φ (.iseq a) ρ).wp T = (ev Φ a ρ).wp (V (seqF T)) := by
  show (evSeq (ev Φ a) ρ).wp T = _
  unfold evSeq
  rw [wp_bind]
  rfl
def rngF (T : List D → Env → Prop) (rs : List RV) (ρ : Env) : Prop := match rngOf rs with
  | some ns => T (ns.map .int) ρ
  | none => False
theorem rngF_eq {T : List D → Env → Prop} {rs : List RV} : rngF T rs ρ = ∃ ns, rngOf rs = some ns ∧ T (ns.map .int) ρ := by
  unfold rngF
  cases rngOf rs <;> simp
theorem wv_rng {es : CE} {T : List D → Env → Prop} : (evI Φ (.irng es) ρ).wp T = (evs Φ es ρ).wp (rngF T) := by
  show (evRng (evs Φ es) ρ).wp T = _
  unfold evRng
  rw [wp_bind]; congr 1; funext rs ρ1
  unfold rngF
  cases rngOf rs <;> rfl
def ofF (p : List D → Option (List D)) (T : List D → Env → Prop) (rs : List RV) (ρ : Env) : Prop := ∃ ds ρ2, valArgs false rs ρ = some (ds, ρ2) ∧ ∃ l, p ds = some l ∧ T l ρ2
theorem ofF_eq {p : List D → Option (List D)} {T : List D → Env → Prop} {rs : List RV} : ofF p T rs ρ = ∃ ds ρ2, valArgs false rs ρ = some (ds, ρ2) ∧ ∃ l, p ds = some l ∧ T l ρ2 := rfl
theorem wv_of {p : List D → Option (List D)} {fs : Env → R (List RV)} {T : List D → Env → Prop} : (evOf p fs ρ).wp T = (fs ρ).wp (ofF p T) := by
  unfold evOf
  rw [wp_bind]; congr 1; funext rs ρ1
  unfold ofF
  cases valArgs false rs ρ1 with
  | none => rw [ex2n]; rfl
  | some q =>
    obtain ⟨ds, ρ2⟩ := q
    rw [ex2]
    cases h : p ds <;> simp [R.wp, h]
theorem wv_zip {es : CE} {T : List D → Env → Prop} : (evI Φ (.izip es) ρ).wp T = (evs Φ es ρ).wp (ofF zipOf T) := wv_of
theorem wv_enum {es : CE} {T : List D → Env → Prop} : (evI Φ (.ienum es) ρ).wp T = (evs Φ es ρ).wp (ofF enumOf T) := wv_of
/-! ### statements -/
variable {wf : Nat}
def asgF (i : Nat) (T : Fl → Env → Prop) (u : RV) (ρ : Env) : Prop := (stAsg i u ρ).wp T
theorem asgF_eq {i : Nat} {u : RV} : asgF i T u ρ = (stAsg i u ρ).wp T := rfl
theorem wx_asg {i : Nat} {e : CE} : (exec Φ wf (.asg i e) ρ).wp T = (ev Φ e ρ).wp (V (asgF i T)) := wp_bind
def drF (T : Fl → Env → Prop) (u : RV) (ρ : Env) : Prop := T .next ρ
theorem drF_eq {u : RV} : drF T u ρ = T .next ρ := rfl
theorem wx_drop {e : CE} : (exec Φ wf (.drop e) ρ).wp T = (ev Φ e ρ).wp (drF T) := wp_bind
def reF (T : Fl → Env → Prop) (u : RV) (ρ : Env) : Prop := (stRet u ρ).wp T
theorem reF_eq {u : RV} : reF T u ρ = (stRet u ρ).wp T := rfl
theorem wx_ret {e : CE} : (exec Φ wf (.ret e) ρ).wp T = (ev Φ e ρ).wp (V (reF T)) := wp_bind
theorem wx_retN : (exec Φ wf .retN ρ).wp T = T (.ret (.val .none)) ρ := rfl
theorem wx_nop : (exec Φ wf .nop ρ).wp T = T .next ρ := rfl
theorem wx_brk : (exec Φ wf .brk ρ).wp T = T .brk ρ := rfl
theorem wx_cont : (exec Φ wf .cont ρ).wp T = T .cont ρ := rfl
def ifF (a b : Env → R Fl) (T : Fl → Env → Prop) (u : RV) (ρ : Env) : Prop := tK (fun t ρ1 => (t = true → (a ρ1).wp T) ∧ (t = false → (b ρ1).wp T)) u ρ
theorem ifF_b {a b : Env → R Fl} {t : Bool} : ifF a b T (.val (.bool t)) ρ = ((t = true → (a ρ).wp T) ∧ (t = false → (b ρ).wp T)) := rfl
theorem wx_ite {c : CE} {a b : CS} : (exec Φ wf (.ite c a b) ρ).wp T = (ev Φ c ρ).wp (V (ifF (exec Φ wf a) (exec Φ wf b) T)) := wp_ite
theorem wx_seq {a b : CS} : (exec Φ wf (.seq a b) ρ).wp T = (exec Φ wf a ρ).wp (flK (exec Φ wf b) T) := wp_seq
theorem wx_wh {c : CE} {b : CS} : (exec Φ wf (.wh c b) ρ).wp T = (whileL (ev Φ c) (exec Φ wf b) wf ρ).wp T := rfl
def foF (tg : CT) (b : Env → R Fl) (T : Fl → Env → Prop) (xs : List D) (ρ : Env) : Prop := (forLoop tg b xs ρ).wp T
theorem foF_eq {tg : CT} {b : Env → R Fl} {xs : List D} : foF tg b T xs ρ = (forLoop tg b xs ρ).wp T := rfl
theorem wx_for {tg : CT} {it : CE} {b : CS} : (exec Φ wf (.for tg it b) ρ).wp T = (evI Φ it ρ).wp (foF tg (exec Φ wf b) T) := wp_bind
def tsF (is : List Nat) (T : Fl → Env → Prop) (u : RV) (ρ : Env) : Prop := (exAsgT is (fun ρ => .ok u ρ) ρ).wp T
theorem tsF_eq {is : List Nat} {u : RV} : tsF is T u ρ = (exAsgT is (fun ρ => .ok u ρ) ρ).wp T := rfl
theorem wx_asgT {is : List Nat} {e : CE} : (exec Φ wf (.asgT is e) ρ).wp T = (ev Φ e ρ).wp (V (tsF is T)) := wp_bind
def paF (is : List Nat) (T : Fl → Env → Prop) (rs : List RV) (ρ : Env) : Prop := (exPar is (fun ρ => .ok rs ρ) ρ).wp T
theorem paF_eq {is : List Nat} {u : List RV} : paF is T u ρ = (exPar is (fun ρ => .ok u ρ) ρ).wp T := rfl
theorem wx_par {is : List Nat} {es : CE} : (exec Φ wf (.par is es) ρ).wp T = (evs Φ es ρ).wp (paF is T) := wp_bind
def stIx (w u i : RV) (ρ3 : Env) : R Fl := match w with
  | .bor j => match ρ3[j]? with
    | some (some (.own k ob)) => if k = .len then .bad else
      match valArgs false [u, i] (ρ3.set j none) with
      | some (ds, ρ4) => match setO ob (ds.getD 1 .none) (ds.getD 0 .none) with
        | some ob' => .ok .next (ρ4.set j (some (.own k ob')))
        | none => .bad
      | none => .bad
    | _ => .bad
  | _ => .bad
theorem stIx_bor {j : Nat} {u i : RV} : stIx (.bor j) u i ρ = (match ρ[j]? with
    | some (some (.own k ob)) => if k = .len then .bad else
      match valArgs false [u, i] (ρ.set j none) with
      | some (ds, ρ4) => match setO ob (ds.getD 1 .none) (ds.getD 0 .none) with
        | some ob' => .ok .next (ρ4.set j (some (.own k ob')))
        | none => .bad
      | none => .bad
    | _ => .bad) := rfl
def s3F (w u : RV) (T : Fl → Env → Prop) (i : RV) (ρ : Env) : Prop := (stIx w u i ρ).wp T
theorem s3F_eq {u w i : RV} : s3F w u T i ρ = (stIx w u i ρ).wp T := rfl
def s2F (g : Env → R RV) (u : RV) (T : Fl → Env → Prop) (w : RV) (ρ : Env) : Prop := (g ρ).wp (V (s3F w u T))
theorem s2F_eq {g : Env → R RV} {u w : RV} : s2F g u T w ρ = (g ρ).wp (V (s3F w u T)) := rfl
def s1F (o : Nat) (g : Env → R RV) (T : Fl → Env → Prop) (u : RV) (ρ : Env) : Prop := vK o (ρ[o]?) (V (s2F g u T)) ρ
theorem s1F_eq {o : Nat} {g : Env → R RV} {u : RV} : s1F o g T u ρ = vK o (ρ[o]?) (V (s2F g u T)) ρ := rfl
theorem wx_setIx {o : Nat} {ix e : CE} : (exec Φ wf (.setIx o ix e) ρ).wp T = (ev Φ e ρ).wp (V (s1F o (ev Φ ix) T)) := by
  show (exSetIx o (ev Φ ix) (ev Φ e) ρ).wp T = _
  unfold exSetIx
  rw [wp_bind]; congr 1; funext u ρ1
  rw [wp_bind, wp_var]
  show vK _ _ _ _ = vK _ _ _ _
  congr 1
  funext w ρ2
  rw [wp_bind]
  rfl
end
end BX

set_option Elab.async false
set_option linter.all false
set_option maxRecDepth 100000
set_option maxHeartbeats 4000000
namespace BX
open PySem PySem.Spec PyProof.Rows L2 RZ PureT

theorem atI_0 {α : Type} {a : α} {l : List α} : atI (a :: l) 0 = some a := atI_nat (j := 0) rfl
theorem atI_1 {α : Type} {a b : α} {l : List α} : atI (a :: b :: l) 1 = some b := atI_nat (j := 1) rfl
theorem atI_2 {α : Type} {a b c : α} {l : List α} : atI (a :: b :: c :: l) 2 = some c := atI_nat (j := 2) rfl
theorem atI_3 {α : Type} {a b c d : α} {l : List α} : atI (a :: b :: c :: d :: l) 3 = some d := atI_nat (j := 3) rfl
theorem atI_at {α : Type} {l : List α} {k : Int} (h0 : 0 ≤ k) (h1 : k < l.length) : ∃ x, atI l k = some x ∧ x ∈ l := by
  obtain ⟨n, rfl⟩ := Int.eq_ofNat_of_zero_le h0
  have h2 : n < l.length := by omega
  exact ⟨l[n], atI_nat (List.getElem?_eq_getElem h2), List.getElem_mem h2⟩
theorem atI_m1 {α : Type} {a : α} {l : List α} : atI (l ++ [a]) (-1) = some a := atI_last _ _
theorem isSome_of {α : Type} {o : Option α} {x : α} (h : o = some x) : ∃ y, o = some y ∧ y = x := ⟨x, h, rfl⟩
theorem atI_ints (l : List Int) {v : Int} (h0 : 0 ≤ v) (h1 : v < l.length) : ∃ i, atI (l.map PyData.int) v = some (.int i) ∧ i ∈ l := by
  obtain ⟨x, e, hx⟩ := atI_at (l := l.map PyData.int) h0 (by simpa using h1)
  obtain ⟨y, hy, rfl⟩ := List.mem_map.mp hx
  exact ⟨y, e, hy⟩
/-- a slot that may be empty yet -/
def lf (x : Option D) : Option SV := x.map .val
def setK (v : Option (Option SV)) (ρ : Env) : Option Env := match v with
  | some (some (.own k _)) => if k = .fre then some ρ else none
  | some _ => some ρ
  | none => none
theorem setS_eq {i : Nat} {v : SV} {ρ : Env} : setS i v ρ = setK (ρ[i]?) (ρ.set i (some v)) := rfl
theorem setK_val {d : D} {ρ : Env} : setK (some (some (.val d))) ρ = some ρ := rfl
theorem setK_own {k : OK} {o : O} {ρ : Env} : setK (some (some (.own k o))) ρ = if k = .fre then some ρ else none := rfl
theorem setK_no {ρ : Env} : setK (some none) ρ = some ρ := rfl
theorem setK_lf {x : Option D} {ρ : Env} : setK (some (lf x)) ρ = some ρ := by cases x <;> rfl
theorem ex_cond {α : Type} {c : Prop} {a : α} {P : α → Prop} : (∃ x, (c ∧ a = x) ∧ P x) = (c ∧ P a) :=
  propext ⟨fun ⟨_, ⟨h, e⟩, p⟩ => ⟨h, e ▸ p⟩, fun ⟨h, p⟩ => ⟨a, ⟨h, rfl⟩, p⟩⟩
end BX

set_option Elab.async false
set_option linter.all false
set_option maxRecDepth 100000
set_option maxHeartbeats 4000000
namespace BX
open PySem PySem.Spec PyProof.Rows L2 RZ PureT

/-! ## equality of data -/
theorem shaped_int {i : Int} : SeqAt.shaped (.int i) = true := rfl
theorem shaped_bool {i : Bool} : SeqAt.shaped (.bool i) = true := rfl
theorem shaped_none : SeqAt.shaped .none = true := rfl
theorem shaped_nil : SeqAt.shaped (.list []) = true := by decide
theorem shaped_nilt : SeqAt.shaped (.tuple []) = true := by decide
theorem eqv_int {a b : Int} : PyData.eqv (.int a) (.int b) = decide (a = b) := by
  show (a == b) = _
  by_cases h : a = b <;> simp [h]
theorem eqv_bool {a b : Bool} : PyData.eqv (.bool a) (.bool b) = decide (a = b) := by cases a <;> cases b <;> rfl
theorem eqvAll_ints : ∀ ns ms : List Int, PyData.eqvAll (ns.map PyData.int) (ms.map PyData.int) = decide (ns = ms)
  | [], [] => by simp [PyData.eqvAll]
  | [], _ :: _ => by simp [PyData.eqvAll]
  | _ :: _, [] => by simp [PyData.eqvAll]
  | a :: r, b :: t => by
    simp only [List.map_cons, PyData.eqvAll, PyData.eqv, eqvAll_ints r t]
    by_cases h : a = b <;> by_cases h' : r = t <;> simp [h, h']
theorem eqv_tints (a b : List Int) : PyData.eqv (.tuple (a.map .int)) (.tuple (b.map .int)) = decide (a = b) := eqvAll_ints a b
theorem eqv_lints (a b : List Int) : PyData.eqv (.list (a.map .int)) (.list (b.map .int)) = decide (a = b) := eqvAll_ints a b
theorem eqv_lnil {a : List D} : PyData.eqv (.list a) (.list []) = decide (a = []) := by cases a <;> simp [PyData.eqv, PyData.eqvAll]
theorem eqv_tnil {a : List D} : PyData.eqv (.tuple a) (.tuple []) = decide (a = []) := by cases a <;> simp [PyData.eqv, PyData.eqvAll]
/-- data that can be compared -/
def Sh (n : Nat) (d : D) : Prop := d.canLay0 = true ∧ d.depth ≤ n
theorem Sh.int {n : Nat} {i : Int} : Sh n (.int i) := ⟨rfl, Nat.zero_le _⟩
theorem Sh.bool {n : Nat} {i : Bool} : Sh n (.bool i) := ⟨rfl, Nat.zero_le _⟩
theorem Sh.str {n : Nat} {i : Str} (h : PyData.canLay0 (.str i) = true) : Sh n (.str i) := ⟨h, Nat.zero_le _⟩
theorem Sh.none {n : Nat} : Sh n .none := ⟨rfl, Nat.zero_le _⟩
theorem shAll {n : Nat} : ∀ {ds : List D}, (∀ d ∈ ds, Sh n d) → PyData.canLayAll0 ds = true ∧ PyData.depthAll ds ≤ n
  | [], _ => ⟨rfl, Nat.zero_le _⟩
  | d :: ds, h => by
    have h1 := h d (List.mem_cons_self ..)
    have h2 := shAll (ds := ds) fun e he => h e (List.mem_cons_of_mem _ he)
    refine ⟨?_, ?_⟩
    · rw [PyData.canLayAll0, h1.1, h2.1]; rfl
    · rw [PyData.depthAll]; exact Nat.max_le.mpr ⟨h1.2, h2.2⟩
theorem Sh.list {n : Nat} {ds : List D} (h : ∀ d ∈ ds, Sh n d) : Sh (n + 1) (.list ds) := by
  have z := shAll h
  refine ⟨?_, ?_⟩
  · rw [PyData.canLay0]; exact z.1
  · rw [PyData.depth]; exact Nat.succ_le_succ z.2
theorem Sh.tuple {n : Nat} {ds : List D} (h : ∀ d ∈ ds, Sh n d) : Sh (n + 1) (.tuple ds) := by
  have z := shAll h
  refine ⟨?_, ?_⟩
  · rw [PyData.canLay0]; exact z.1
  · rw [PyData.depth]; exact Nat.succ_le_succ z.2
theorem Sh.shaped {n : Nat} {d : D} (h : Sh n d) (hn : n ≤ 64) : SeqAt.shaped d = true := by
  unfold SeqAt.shaped
  rw [h.1, decide_eq_true (Nat.le_trans h.2 hn)]
  rfl
theorem Sh.mono {n m : Nat} {d : D} (h : Sh n d) (hn : n ≤ m) : Sh m d := ⟨h.1, Nat.le_trans h.2 hn⟩
theorem eqv_self {n : Nat} {d : D} (h : Sh n d) : PyData.eqv d d = true := SeqAt.eqv_refl d h.1
theorem sh_ints {l : List Int} : ∀ d ∈ l.map PyData.int, Sh 0 d := fun d h => by
  obtain ⟨x, _, rfl⟩ := List.mem_map.mp h
  exact .int
theorem shaped_tints {l : List Int} : SeqAt.shaped (.tuple (l.map .int)) = true := (Sh.tuple sh_ints).shaped (by decide)
theorem shaped_lints {l : List Int} : SeqAt.shaped (.list (l.map .int)) = true := (Sh.list sh_ints).shaped (by decide)
theorem sh_pairs {l : List (Int × Int)} : ∀ d ∈ l.map pairD, Sh 1 d := fun d h => by
  obtain ⟨x, _, rfl⟩ := List.mem_map.mp h
  exact Sh.tuple fun e he => by
    simp only [List.mem_cons, List.not_mem_nil, or_false] at he
    rcases he with rfl | rfl <;> exact .int
/-- members of a list that is no deeper -/
theorem Sh.mem_list {n : Nat} {ds : List D} (h : Sh (n + 1) (.list ds)) : ∀ d ∈ ds, Sh n d := by
  have h1 : PyData.canLayAll0 ds = true := by have := h.1; rwa [PyData.canLay0] at this
  have h2 : PyData.depthAll ds ≤ n := by have := h.2; rw [PyData.depth] at this; exact Nat.le_of_succ_le_succ this
  clear h
  induction ds with
  | nil => intro d h; cases h
  | cons x xs ih =>
    rw [PyData.canLayAll0, Bool.and_eq_true] at h1
    rw [PyData.depthAll] at h2
    have h3 := Nat.max_le.mp h2
    intro d hd
    rcases List.mem_cons.mp hd with rfl | hd
    · exact ⟨h1.1, h3.1⟩
    · exact ih h1.2 h3.2 d hd
theorem Sh.mem_tuple {n : Nat} {ds : List D} (h : Sh (n + 1) (.tuple ds)) : ∀ d ∈ ds, Sh n d :=
  Sh.mem_list (ds := ds) ⟨by have := h.1; rw [PyData.canLay0] at this; rw [PyData.canLay0]; exact this, by have := h.2; rw [PyData.depth] at this; rw [PyData.depth]; exact this⟩
theorem any_ints (l : List Int) (x : Int) : ((l.map PyData.int).any fun z => PyData.eqv z (.int x)) = decide (x ∈ l) := by
  induction l with
  | nil => simp
  | cons a l ih =>
    rw [List.map_cons, List.any_cons, ih, eqv_int]
    by_cases h : a = x
    · simp [h]
    · simp [h, show ¬ x = a from fun z => h z.symm]
theorem flat_ints (l : List Int) : (l.map PyData.int).all flat = true := by
  rw [List.all_map, List.all_eq_true]
  intro x _
  rfl
theorem asBools_rep : ∀ (n : Nat), asBools (List.replicate n (.bool true)) = some (List.replicate n true)
  | 0 => rfl
  | n + 1 => by
    rw [List.replicate_succ, List.replicate_succ]
    unfold asBools
    rw [asBools_rep n]
    rfl
/-! ### comprehensions over a mapped list -/
theorem lc_onF {ι : Type} {turn : D → Env → R (Option D)} {ρ : Env} (f : ι → D) (g : ι → Option D) : ∀ (xs : List ι), (∀ x ∈ xs, (turn (f x) ρ).wp fun o ρ' => o = g x ∧ ρ' = ρ) → lcLoop turn (xs.map f) ρ = .ok (xs.filterMap g) ρ
  | [], _ => rfl
  | x :: xs, h => by
    rw [List.map_cons]
    unfold lcLoop
    rw [(h x (List.mem_cons_self ..)).eqv, R.bind_ok, lc_onF f g xs fun y hy => h y (List.mem_cons_of_mem _ hy), R.bind_ok, List.filterMap_cons]
    cases g x <;> rfl
theorem lc_on {ι : Type} {turn : D → Env → R (Option D)} {ρ : Env} (f : ι → D) (g : ι → D) (xs : List ι) (h : ∀ x ∈ xs, (turn (f x) ρ).wp fun o ρ' => o = some (g x) ∧ ρ' = ρ) : lcLoop turn (xs.map f) ρ = .ok (xs.map g) ρ := by
  rw [lc_onF f (fun x => some (g x)) xs h, List.filterMap_eq_map']
theorem lc_onD {turn : D → Env → R (Option D)} {ρ : Env} (g : D → D) (xs : List D) (h : ∀ x ∈ xs, (turn x ρ).wp fun o ρ' => o = some (g x) ∧ ρ' = ρ) : lcLoop turn xs ρ = .ok (xs.map g) ρ := by
  have := lc_on (turn := turn) (ρ := ρ) id g xs h
  rwa [List.map_id] at this
theorem zipD_self : ∀ (l : List D), zipD l l = l.map fun x => .tuple [x, x]
  | [] => rfl
  | x :: l => by
    have := zipD_self l
    unfold zipD at this ⊢
    rw [List.zipWith_cons_cons, this, List.map_cons]
theorem asBools_true {ι : Type} (l : List ι) : asBools (l.map fun _ => PyData.bool true) = some (List.replicate l.length true) := by
  rw [List.map_const', asBools_rep]
theorem muPop_snoc {l : List D} {d : D} : muPop (.lst (l ++ [d])) [] = some (d, .lst l) := by
  unfold muPop
  simp
theorem snoc_cases {α : Type} (l : List α) : l = [] ∨ ∃ m a, l = m ++ [a] := List.eq_nil_or_concat l |>.imp id fun ⟨m, a, h⟩ => ⟨m, a, by rw [h, List.concat_eq_append]⟩
theorem shaped_lints1 {l : List Int} {b : Int} : SeqAt.shaped (.list (l.map .int ++ [.int b])) = true := by
  have := shaped_lints (l := l ++ [b])
  rwa [List.map_append] at this
theorem wp_muApp {m : MU} {j : Nat} {rs : List RV} {ρ : Env} {Q : RV → Env → Prop} : (muApp m j rs ρ).wp Q = ∃ k o ds ρ1 d o', ρ[j]? = some (some (.own k o)) ∧ k ≠ .len ∧ valArgs false rs (ρ.set j none) = some (ds, ρ1) ∧ muF m o ds = some (d, o') ∧ Q (.val d) (ρ1.set j (some (.own k o'))) := by
  unfold muApp
  cases e0 : ρ[j]? with
  | none => simp [R.wp]
  | some v =>
    cases v with
    | none => simp [R.wp]
    | some v =>
      cases v with
      | val d => simp [R.wp]
      | own k o =>
        by_cases hk : k = .len
        · refine propext ⟨fun h => ?_, fun ⟨k', o', ds, ρ1, d, o2, h, n, _⟩ => ?_⟩
          · simp only [hk, if_true] at h; exact h.elim
          · cases h; exact (n hk).elim
        · simp only [hk, if_false]
          cases ev : valArgs false rs (ρ.set j none) with
          | none => simp [R.wp]
          | some p =>
            obtain ⟨ds, ρ1⟩ := p
            cases em : muF m o ds with
            | none =>
              refine propext ⟨fun h => ?_, fun ⟨k', o', ds', ρ1', d, o2, h, n, e1, e2, _⟩ => ?_⟩
              · simp only [em] at h; exact h.elim
              · cases h; cases e1; rw [em] at e2; cases e2
            | some q =>
              obtain ⟨d, o'⟩ := q
              refine propext ⟨fun h => ?_, fun ⟨k', o', ds', ρ1', d, o2, h, n, e1, e2, q⟩ => ?_⟩
              · simp only [em] at h
                exact ⟨k, o, ds, ρ1, d, o', rfl, hk, rfl, em, h⟩
              · cases h; cases e1; rw [em] at e2; cases e2
                simp only [em]
                exact q
theorem mu2F_ex {m : MU} {j : Nat} {rs : List RV} {ρ : Env} {Q : RV → Env → Prop} : mu2F m j Q rs ρ = ∃ k o ds ρ1 d o', ρ[j]? = some (some (.own k o)) ∧ k ≠ .len ∧ valArgs false rs (ρ.set j none) = some (ds, ρ1) ∧ muF m o ds = some (d, o') ∧ Q (.val d) (ρ1.set j (some (.own k o'))) := wp_muApp
theorem s3F_ex {j : Nat} {u i : RV} {ρ : Env} {T : Fl → Env → Prop} : s3F (.bor j) u T i ρ = ∃ k o ds ρ1 o', ρ[j]? = some (some (.own k o)) ∧ k ≠ .len ∧ valArgs false [u, i] (ρ.set j none) = some (ds, ρ1) ∧ setO o (ds.getD 1 .none) (ds.getD 0 .none) = some o' ∧ T .next (ρ1.set j (some (.own k o'))) := by
  unfold s3F stIx
  cases e0 : ρ[j]? with
  | none => simp [R.wp, e0]
  | some v =>
    cases v with
    | none => simp [R.wp, e0]
    | some v =>
      cases v with
      | val d => simp [R.wp, e0]
      | own k o =>
        simp only [e0]
        by_cases hk : k = .len
        · refine propext ⟨fun h => ?_, fun ⟨k', o', ds, ρ1, o2, h, n, _⟩ => ?_⟩
          · simp only [hk, if_true] at h; exact h.elim
          · cases h; exact (n hk).elim
        · simp only [hk, if_false]
          cases ev : valArgs false [u, i] (ρ.set j none) with
          | none => simp [R.wp]
          | some p =>
            obtain ⟨ds, ρ1⟩ := p
            cases em : setO o (ds.getD 1 .none) (ds.getD 0 .none) with
            | none =>
              refine propext ⟨fun h => ?_, fun ⟨k', o', ds', ρ1', o2, h, n, e1, e2, _⟩ => ?_⟩
              · simp only [em] at h; exact h.elim
              · cases h; cases e1; rw [em] at e2; cases e2
            | some o' =>
              refine propext ⟨fun h => ?_, fun ⟨k', o', ds', ρ1', o2, h, n, e1, e2, q⟩ => ?_⟩
              · simp only [em] at h
                exact ⟨k, o, ds, ρ1, o', rfl, hk, rfl, em, h⟩
              · cases h; cases e1; rw [em] at e2; cases e2
                simp only [em]
                exact q
theorem ex_cond2 {α β : Type} {c : Prop} {a : α} {b : β} {P : α → β → Prop} : (∃ x y, (c ∧ a = x ∧ b = y) ∧ P x y) = (c ∧ P a b) :=
  propext ⟨fun ⟨_, _, ⟨h, e, f⟩, p⟩ => ⟨h, e ▸ f ▸ p⟩, fun ⟨h, p⟩ => ⟨a, b, ⟨h, rfl, rfl⟩, p⟩⟩
/-- a slot that may hold anything that can be overwritten -/
inductive LQ where
  | no | d (x : D) | o (x : O)
def lq : LQ → Option SV
  | .no => none
  | .d x => some (.val x)
  | .o x => some (.own .fre x)
theorem setK_lq {x : LQ} {ρ : Env} : setK (some (lq x)) ρ = some ρ := by cases x <;> rfl
theorem range_mem {lo hi : Int} {x : D} (h : x ∈ (rangeL lo hi).map PyData.int) : ∃ k : Int, x = .int k ∧ lo ≤ k ∧ k < hi := by
  obtain ⟨k, hk, rfl⟩ := List.mem_map.mp h
  unfold rangeL at hk
  obtain ⟨i, hi, rfl⟩ := List.mem_map.mp hk
  rw [List.mem_range] at hi
  exact ⟨_, rfl, by omega, by omega⟩
/-- a for whose turns leave an invariant; each item has a property -/
theorem wp_forP {tg : CT} {b : Env → R Fl} {Q : Fl → Env → Prop} (P : D → Prop) (J : Env → Prop) {xs : List D} {ρ : Env} (hx : ∀ x ∈ xs, P x) (h0 : J ρ) (step : ∀ x ρ, P x → J ρ → stK tg x b J Q ρ) (hend : ∀ ρ, J ρ → Q .next ρ) : (forLoop tg b xs ρ).wp Q := by
  refine wp_for (fun ys ρ => (∀ y ∈ ys, P y) ∧ J ρ) ⟨hx, h0⟩ (fun x xs ρ h => ?_) fun ρ h => hend ρ h.2
  have s := step x ρ (h.1 x (List.mem_cons_self ..)) h.2
  unfold stK at s ⊢
  cases e : setT tg x ρ with
  | none => rw [e] at s; exact s
  | some ρ1 =>
    rw [e] at s
    refine R.wp.mono s fun fl ρ2 z => ?_
    cases fl with
    | next => exact ⟨fun y hy => h.1 y (List.mem_cons_of_mem _ hy), z⟩
    | cont => exact ⟨fun y hy => h.1 y (List.mem_cons_of_mem _ hy), z⟩
    | brk => exact z
    | ret r => exact z
end BX

set_option Elab.async false
set_option linter.all false
set_option maxRecDepth 100000
set_option maxHeartbeats 4000000
namespace BX
open PySem PySem.Spec PyProof.Rows L2 RZ PureT

theorem cutD_take {xs : List D} {k : Int} (h : 0 ≤ k) : cutD xs none (some k) = xs.take k.toNat := by
  obtain ⟨n, rfl⟩ := Int.eq_ofNat_of_zero_le h
  unfold cutD
  rw [HT.sIx_none, HT.sIx_nat]
  show List.take (min n xs.length - 0) (xs.drop 0) = xs.take n
  rw [List.drop_zero, Nat.sub_zero, ← List.take_eq_take_min]
theorem cutD_drop {xs : List D} {k : Int} (h : 0 ≤ k) : cutD xs (some k) none = xs.drop k.toNat := by
  obtain ⟨n, rfl⟩ := Int.eq_ofNat_of_zero_le h
  unfold cutD
  rw [HT.sIx_none, HT.sIx_nat]
  show List.take (xs.length - min n xs.length) (xs.drop (min n xs.length)) = xs.drop n
  rw [List.take_of_length_le (by rw [List.length_drop]; omega)]
  by_cases hn : n ≤ xs.length
  · rw [Nat.min_eq_left hn]
  · rw [Nat.min_eq_right (by omega), List.drop_length, List.drop_eq_nil_of_le (by omega)]
/-! ### segments; dicts of whole numbers -/
def seg (a : Int) (n : Nat) : List Int := (List.range n).map fun (i : Nat) => a + i
theorem rangeL_seg {a b : Int} : rangeL a b = seg a (b - a).toNat := rfl
theorem seg_len {a : Int} {n : Nat} : (seg a n).length = n := by simp [seg]
theorem mem_seg {a x : Int} {n : Nat} : x ∈ seg a n ↔ a ≤ x ∧ x < a + n := by
  unfold seg
  rw [List.mem_map]
  constructor
  · rintro ⟨i, h, rfl⟩
    rw [List.mem_range] at h
    omega
  · rintro ⟨h1, h2⟩
    exact ⟨(x - a).toNat, by rw [List.mem_range]; omega, by omega⟩
theorem seg_zero {a : Int} : seg a 0 = [] := rfl
theorem seg_succ {a : Int} {n : Nat} : seg a (n + 1) = seg a n ++ [a + n] := by
  unfold seg
  rw [List.range_succ, List.map_append]
  rfl
theorem seg_inc {a : Int} : ∀ (n : Nat), (seg a n).Pairwise (· < ·)
  | 0 => List.Pairwise.nil
  | n + 1 => by
    rw [seg_succ]
    refine List.pairwise_append.mpr ⟨seg_inc n, List.pairwise_singleton _ _, fun x hx y hy => ?_⟩
    rw [List.mem_singleton] at hy
    rw [mem_seg] at hx
    omega
/-- a dict whose keys are whole numbers, each told true -/
def dkT (ks : List Int) : List (Key × D) := ks.map fun k => (Sum.inl k, .bool true)
theorem lk_dkT (ks : List Int) (x : Int) : lk (dkT ks) (Sum.inl x : Key) = if x ∈ ks then some (.bool true) else none := by
  induction ks with
  | nil => rfl
  | cons a ks ih =>
    unfold lk dkT at ih ⊢
    rw [List.map_cons, List.find?_cons]
    by_cases h : a = x
    · simp [h]
    · have h2 : ¬ (Sum.inl a : Key) = Sum.inl x := fun z => h (Sum.inl.inj z)
      simp only [h2, decide_false]
      rw [ih]
      simp [show ¬ x = a from fun z => h z.symm]
theorem dr_dkT (ks : List Int) (x : Int) : dr (dkT ks) (Sum.inl x : Key) = dkT (ks.filter fun y => decide (y ≠ x)) := by
  unfold dr dkT
  rw [List.filter_map]
  congr 1
  refine List.filter_congr fun y _ => ?_
  show decide _ = decide _
  by_cases h : y = x
  · simp [h]
  · simp [h]
theorem pt_dkT (ks : List Int) (x : Int) (h : x ∉ ks) : pt (dkT ks) (Sum.inl x : Key) (.bool true) = dkT (ks ++ [x]) := by
  unfold pt
  rw [if_neg]
  · unfold dkT
    rw [List.map_append]
    rfl
  · rw [List.any_eq_true]
    rintro ⟨kv, h1, h2⟩
    unfold dkT at h1
    obtain ⟨y, hy, rfl⟩ := List.mem_map.mp h1
    have h2 : (Sum.inl y : Key) = Sum.inl x := of_decide_eq_true h2
    exact h (Sum.inl.inj h2 ▸ hy)
theorem intKeys_dkT (ks : List Int) : intKeys ((dkT ks).map (·.1)) = some ks := by
  unfold dkT
  rw [List.map_map]
  exact intKeys_map ks
theorem merge_dkT : ∀ (ms ks : List Int), (ks ++ ms).Nodup → mergeD (dkT ks) (dkT ms) = dkT (ks ++ ms)
  | [], ks, _ => by simp [mergeD, dkT]
  | m :: ms, ks, h => by
    have h1 : m ∉ ks := fun z => by
      have := List.nodup_append.mp h
      exact this.2.2 m z m (List.mem_cons_self ..) rfl
    have h2 : ((ks ++ [m]) ++ ms).Nodup := by rw [List.append_assoc]; exact h
    have ih := merge_dkT ms (ks ++ [m]) h2
    rw [List.append_assoc] at ih
    show mergeD (pt (dkT ks) (Sum.inl m) (.bool true)) (dkT ms) = _
    rw [pt_dkT ks m h1]
    exact ih
theorem toPairsK_dkT (ks : List Int) : toPairsK (ks.map fun k => PyData.tuple [.int k, .bool true]) = some (dkT ks) := by
  induction ks with
  | nil => rfl
  | cons k ks ih =>
    rw [List.map_cons]
    unfold toPairsK
    rw [ih]
    rfl
theorem wp_apM {m : MT} {u : RV} {rs : List RV} {ρ : Env} {Q : RV → Env → Prop} : (apM m u rs ρ).wp Q = ∃ x ws r, viewRV ρ u = some x ∧ viewRVs ρ rs = some ws ∧ mtF m x ws = some r ∧ Q r ρ := by
  unfold apM
  cases viewRV ρ u with
  | none => simp [R.wp]
  | some x =>
    cases viewRVs ρ rs with
    | none => simp [R.wp]
    | some ws => cases h : mtF m x ws <;> simp [R.wp, h]
theorem mt2F_ex {m : MT} {u : RV} {rs : List RV} {ρ : Env} {Q : RV → Env → Prop} : mt2F m u Q rs ρ = ∃ x ws r, viewRV ρ u = some x ∧ viewRVs ρ rs = some ws ∧ mtF m x ws = some r ∧ Q r ρ := wp_apM
theorem muPop_one {d : D} : muPop (.lst [d]) [] = some (d, .lst []) := rfl
end BX

set_option Elab.async false
set_option linter.all false
set_option maxRecDepth 100000
set_option maxHeartbeats 4000000
namespace BX
open PySem PySem.Spec PyProof.Rows L2 RZ PureT

/-! ## refusals: what a call in a lambda comes to -/
section
variable {ρ : Env} {Q : RV → Env → Prop} {Φ : List Fn}
def rfE (rf : RF) (Q : RV → Env → Prop) (ρ : Env) : Prop := match rf with
  | .ok (.val d) _ => scal d = true ∧ Q (.val d) ρ
  | _ => False
theorem rfE_ok {d : D} {fin : Option O} : rfE (.ok (.val d) fin) Q ρ = (scal d = true ∧ Q (.val d) ρ) := rfl
theorem wp_rfEnd {rf : RF} : (rfEnd rf ρ).wp Q = rfE rf Q ρ := by
  unfold rfEnd rfE
  cases rf with
  | bad => rfl
  | exc _ _ => rfl
  | ok r fin =>
    cases r with
    | val d => cases h : scal d <;> simp [h, R.wp]
    | own o => rfl
    | bor i => rfl
/-- behind the arguments -/
def rfF (xs : List Str) (fn : List Arg → RF) (g : Fn) (Q : RV → Env → Prop) (us : List RV) (ρ : Env) : Prop := (evRef xs fn (fun ρ => callEv g us ρ) ρ).wp Q
def rfK (xs : List Str) (fn : List Arg → RF) (Q : RV → Env → Prop) (us : List RV) (ρ : Env) (rf : RF) : Prop := match rf with
  | .exc c _ => c ∈ xs ∧ rfE (fn [.val (excD c)]) Q ρ
  | .ok (.val d) _ => if scal d = true then rfE (fn [.val .none]) Q ρ else ∃ ds ρ1, valArgs false us ρ = some (ds, ρ1) ∧ rfE (fn [.val .none]) Q ρ1
  | .ok (.own _) _ => ∃ ds ρ1, valArgs false us ρ = some (ds, ρ1) ∧ rfE (fn [.val .none]) Q ρ1
  | _ => False
theorem rfK_exc {xs : List Str} {fn : List Arg → RF} {us : List RV} {c : Str} {fin : Option O} : rfK xs fn Q us ρ (.exc c fin) = (c ∈ xs ∧ rfE (fn [.val (excD c)]) Q ρ) := rfl
theorem rfK_val {xs : List Str} {fn : List Arg → RF} {us : List RV} {d : D} {fin : Option O} : rfK xs fn Q us ρ (.ok (.val d) fin) = if scal d = true then rfE (fn [.val .none]) Q ρ else ∃ ds ρ1, valArgs false us ρ = some (ds, ρ1) ∧ rfE (fn [.val .none]) Q ρ1 := rfl
theorem rfK_own {xs : List Str} {fn : List Arg → RF} {us : List RV} {o : O} {fin : Option O} : rfK xs fn Q us ρ (.ok (.own o) fin) = ∃ ds ρ1, valArgs false us ρ = some (ds, ρ1) ∧ rfE (fn [.val .none]) Q ρ1 := rfl
theorem rfF_eq {xs : List Str} {fn run : List Arg → RF} {us : List RV} : rfF xs fn ⟨false, run⟩ Q us ρ = ∃ ds ρ1, valArgs true us ρ = some (ds, ρ1) ∧ rfK xs fn Q us ρ (run (ds.map .val)) := by
  unfold rfF evRef callEv callS callG
  simp only [Bool.false_eq_true, if_false]
  cases et : valArgs true us ρ with
  | none =>
    cases ef : valArgs false us ρ with
    | some p => rw [va_any ef] at et; cases et
    | none => simp [R.wp]
  | some p =>
    obtain ⟨ds, ρ1⟩ := p
    have fin : ∀ (P : List D → Prop), (∃ ds' ρ1', (some (ds, ρ1) : Option (List D × Env)) = some (ds', ρ1') ∧ P ds') = P ds := fun P => propext ⟨fun ⟨_, _, e, h⟩ => by cases e; exact h, fun h => ⟨_, _, rfl, h⟩⟩
    rw [fin fun ds => rfK xs fn Q us ρ (run (ds.map .val))]
    have old : ∀ p, valArgs false us ρ = some p → p = (ds, ρ1) := fun p e => by
      have := va_any e
      rw [et] at this
      exact (Option.some.inj this).symm
    dsimp only
    cases er : run (ds.map .val) with
    | bad =>
      simp only [rfK]
      cases ef : valArgs false us ρ with
      | none => simp [R.wp]
      | some p => cases old p ef; simp [er, R.wp]
    | exc c fin =>
      simp only [rfK]
      by_cases hc : c ∈ xs
      · simp only [hc, if_true, true_and, wp_rfEnd]
      · simp only [hc, if_false, false_and]; rfl
    | ok r fin =>
      cases r with
      | val d =>
        simp only [rfK]
        cases es : scal d with
        | true => simp only [if_true, wp_rfEnd]
        | false =>
          simp only [Bool.false_eq_true, if_false]
          cases ef : valArgs false us ρ with
          | none => simp [R.wp]
          | some p => cases old p ef; simp only [er, wp_rfEnd, ex2]
      | own o =>
        simp only [rfK]
        cases ef : valArgs false us ρ with
        | none => simp [R.wp]
        | some p => cases old p ef; simp only [er, wp_rfEnd, ex2]
      | bor i =>
        simp only [rfK]
        cases ef : valArgs false us ρ with
        | none => simp [R.wp]
        | some p => cases old p ef; simp [er, R.wp]
theorem rfc_wp {k j : Nat} {xs : List Str} {es : CE} {fn g : Fn} (hk : Φ[k]? = some fn) (hj : Φ[j]? = some g) (h : (evs Φ es ρ).wp (rfF xs fn.run g Q)) : (ev Φ (.rfc k xs (.call j es)) ρ).wp Q := by
  have e : ev Φ (.call j es) ρ = (evs Φ es ρ).bind fun rs ρ1 => callEv g rs ρ1 := by
    show (match Φ[j]? with
      | some fn => (evs Φ es ρ).bind fun rs ρ1 => callEv fn rs ρ1
      | none => .bad) = _
    rw [hj]
  have e2 : ev Φ (.rfc k xs (.call j es)) ρ = evRef xs fn.run (ev Φ (.call j es)) ρ := by
    show ((match Φ[k]? with
      | some fn => evRef xs fn.run (ev Φ (.call j es)) ρ
      | none => .bad : R RV)) = _
    rw [hk]
  rw [e2]
  unfold evRef
  rw [e]
  cases he : evs Φ es ρ with
  | bad => rw [he] at h; exact h.elim
  | exc c ρ1 => rw [he] at h; exact h.elim
  | ok rs ρ1 => rw [he] at h; exact h
theorem wv_isE {a : CE} {tab : List (Str × Bool)} : (ev Φ (.isE a tab) ρ).wp Q = (ev Φ a ρ).wp (V (a1F (bIsE tab) Q)) := wa
end
/-! ## chains -/
section
variable {ρ : Env} {Q : RV → Env → Prop} {Φ : List Fn}
def ch3F (b2 : Vw → Vw → Option RV) (w : RV) (h : Env → R RV) (Q : RV → Env → Prop) (t : Bool) (ρ : Env) : Prop := (t = true → (h ρ).wp (V (b2F b2 w Q))) ∧ (t = false → Q (.val (.bool false)) ρ)
theorem ch3F_eq {b2 : Vw → Vw → Option RV} {w : RV} {h : Env → R RV} {t : Bool} : ch3F b2 w h Q t ρ = ((t = true → (h ρ).wp (V (b2F b2 w Q))) ∧ (t = false → Q (.val (.bool false)) ρ)) := rfl
def ch2F (b1 b2 : Vw → Vw → Option RV) (u : RV) (h : Env → R RV) (Q : RV → Env → Prop) (w : RV) (ρ : Env) : Prop := ∃ x y t, viewRV ρ u = some x ∧ viewRV ρ w = some y ∧ b1 x y = some (.val (.bool t)) ∧ ch3F b2 w h Q t ρ
theorem ch2F_eq {b1 b2 : Vw → Vw → Option RV} {u w : RV} {h : Env → R RV} : ch2F b1 b2 u h Q w ρ = ∃ x y t, viewRV ρ u = some x ∧ viewRV ρ w = some y ∧ b1 x y = some (.val (.bool t)) ∧ ch3F b2 w h Q t ρ := rfl
def ch1F (b1 b2 : Vw → Vw → Option RV) (g h : Env → R RV) (Q : RV → Env → Prop) (u : RV) (ρ : Env) : Prop := (g ρ).wp (V (ch2F b1 b2 u h Q))
theorem ch1F_eq {b1 b2 : Vw → Vw → Option RV} {g h : Env → R RV} {u : RV} : ch1F b1 b2 g h Q u ρ = (g ρ).wp (V (ch2F b1 b2 u h Q)) := rfl
theorem wv_chain {op op' : CmpOp} {a b c : CE} : (ev Φ (.chain op op' a b c) ρ).wp Q = (ev Φ a ρ).wp (V (ch1F (coF op) (coF op') (ev Φ b) (ev Φ c) Q)) := by
  show (evChain (coF op) (coF op') (ev Φ a) (ev Φ b) (ev Φ c) ρ).wp Q = _
  unfold evChain
  rw [wp_bind]; congr 1; funext u ρ1
  rw [wp_bind]
  show _ = ((ev Φ b) ρ1).wp _
  congr 1; funext w ρ2
  rw [wp_bind]
  show (ap2 (coF op) u w ρ2).wp _ = ch2F _ _ _ _ _ _ _
  rw [wp_ap2]
  unfold ch2F
  refine propext ⟨fun ⟨x, y, r, h1, h2, h3, h4⟩ => ?_, fun ⟨x, y, t, h1, h2, h3, h4⟩ => ⟨x, y, _, h1, h2, h3, ?_⟩⟩
  · cases r with
    | own o => exact h4.elim
    | bor i => exact h4.elim
    | val d =>
      cases d with
      | bool t =>
        refine ⟨x, y, t, h1, h2, h3, ?_⟩
        cases t with
        | true =>
          refine ⟨fun _ => ?_, fun h => nomatch h⟩
          have h4 : (((ev Φ c) ρ2).bind fun z ρ4 => ap2 (coF op') w z ρ4).wp Q := h4
          rw [wp_bind] at h4
          exact h4
        | false => exact ⟨fun h => (nomatch h), fun _ => h4⟩
      | _ => exact h4.elim
  · cases t with
    | true =>
      show (((ev Φ c) ρ2).bind fun z ρ4 => ap2 (coF op') w z ρ4).wp Q
      rw [wp_bind]
      exact h4.1 rfl
    | false => exact h4.2 rfl
end
theorem noExc_int {i : Int} : noExc (.d (.int i)) = true := rfl
theorem noExc_bool {i : Bool} : noExc (.d (.bool i)) = true := rfl
theorem noExc_none : noExc (.d .none) = true := rfl
theorem noExc_str {i : Str} : noExc (.d (.str i)) = true := rfl
theorem noExc_list {i : List D} : noExc (.d (.list i)) = true := rfl
theorem noExc_tuple {i : List D} : noExc (.d (.tuple i)) = true := rfl
theorem noExc_k {i : List (Key × D)} : noExc (.k i) = true := rfl
theorem noExc_t {i : List (List Key × D)} : noExc (.t i) = true := rfl
theorem noExc_dk {i : List (Key × D)} : noExc (.d (.dict (i.map fun kv => (keyD kv.1, kv.2)))) = true := by
  cases i with
  | nil => rfl
  | cons a i =>
    cases i with
    | cons b i =>
      obtain ⟨k, d⟩ := a
      cases k <;> rfl
    | nil =>
      obtain ⟨k, d⟩ := a
      cases k <;> rfl
/-! ## runs that raise -/
def R.xp {α : Type} (r : R α) (E : Str → Prop) (Q : α → Env → Prop) : Prop := match r with
  | .ok a ρ => Q a ρ
  | .exc c _ => E c
  | .bad => False
section
variable {α : Type} {r : R α} {E : Str → Prop} {Q : α → Env → Prop} {ρ : Env} {Φ : List Fn} {wf : Nat} {T : Fl → Env → Prop}
theorem R.wp.xp (h : r.wp Q) : r.xp E Q := by
  cases r with
  | ok a ρ => exact h
  | exc _ _ => exact h.elim
  | bad => exact h
def flX (E : Str → Prop) (b : Env → R Fl) (Q : Fl → Env → Prop) (fl : Fl) (ρ : Env) : Prop := match fl with
  | .next => (b ρ).xp E Q
  | fl => Q fl ρ
theorem flX_next {b : Env → R Fl} : flX E b T .next ρ = (b ρ).xp E T := rfl
theorem flX_ret {b : Env → R Fl} {u : RV} : flX E b T (.ret u) ρ = T (.ret u) ρ := rfl
theorem xp_seq {a b : CS} (h : (exec Φ wf a ρ).xp E (flX E (exec Φ wf b) T)) : (exec Φ wf (.seq a b) ρ).xp E T := by
  show (exSeq (exec Φ wf a) (exec Φ wf b) ρ).xp E T
  unfold exSeq
  cases ha : exec Φ wf a ρ with
  | bad => rw [ha] at h; exact h.elim
  | exc c ρ1 => rw [ha] at h; exact h
  | ok fl ρ1 =>
    rw [ha] at h
    cases fl <;> exact h
theorem xp_raise {c : Str} (h : E c) : (exec Φ wf (.raise c) ρ).xp E T := h
theorem xp_ite {c : CE} {a b : CS} (h : (ev Φ c ρ).wp (tK fun t ρ1 => (t = true → (exec Φ wf a ρ1).xp E T) ∧ (t = false → (exec Φ wf b ρ1).xp E T))) : (exec Φ wf (.ite c a b) ρ).xp E T := by
  show (exIte (ev Φ c) (exec Φ wf a) (exec Φ wf b) ρ).xp E T
  unfold exIte
  have h2 : (evT (ev Φ c) ρ).wp fun t ρ1 => (t = true → (exec Φ wf a ρ1).xp E T) ∧ (t = false → (exec Φ wf b ρ1).xp E T) := by rw [wp_evT]; exact h
  cases he : evT (ev Φ c) ρ with
  | bad => rw [he] at h2; exact h2.elim
  | exc _ _ => rw [he] at h2; exact h2.elim
  | ok t ρ1 =>
    rw [he] at h2
    show (if t = true then exec Φ wf a ρ1 else exec Φ wf b ρ1).xp E T
    cases t with
    | true => exact h2.1 rfl
    | false => exact h2.2 rfl
/-- a call that raises, told alone or given back -/
theorem xp_call {j : Nat} {es : CE} {Q : RV → Env → Prop} {run : List Arg → RF} (hj : Φ[j]? = some ⟨false, run⟩) (h : (evs Φ es ρ).wp fun rs ρ1 => ∃ ds ρ2 c fin, valArgs true rs ρ1 = some (ds, ρ2) ∧ run (ds.map .val) = .exc c fin ∧ E c) : (ev Φ (.call j es) ρ).xp E Q := by
  show (match Φ[j]? with
    | some fn => (evs Φ es ρ).bind fun rs ρ1 => callEv fn rs ρ1
    | none => .bad : R RV).xp E Q
  rw [hj]
  show ((evs Φ es ρ).bind fun rs ρ1 => callEv ⟨false, run⟩ rs ρ1).xp E Q
  cases he : evs Φ es ρ with
  | bad => rw [he] at h; exact h.elim
  | exc _ _ => rw [he] at h; exact h.elim
  | ok rs ρ1 =>
    rw [he] at h
    obtain ⟨ds, ρ2, c, fin, h1, h2, h3⟩ := h
    show (callEv ⟨false, run⟩ rs ρ1).xp E Q
    unfold callEv callS
    simp only [Bool.false_eq_true, if_false, h1, h2]
    exact h3
theorem xp_drop {e : CE} (h : (ev Φ e ρ).xp E fun _ ρ1 => T .next ρ1) : (exec Φ wf (.drop e) ρ).xp E T := by
  show ((ev Φ e ρ).bind fun _ ρ1 => (.ok .next ρ1 : R Fl)).xp E T
  cases he : ev Φ e ρ with
  | bad => rw [he] at h; exact h.elim
  | exc _ _ => rw [he] at h; exact h
  | ok r ρ1 => rw [he] at h; exact h
theorem xp_ret {e : CE} (h : (ev Φ e ρ).xp E fun u ρ1 => (stRet u ρ1).xp E T) : (exec Φ wf (.ret e) ρ).xp E T := by
  show ((ev Φ e ρ).bind stRet).xp E T
  cases he : ev Φ e ρ with
  | bad => rw [he] at h; exact h.elim
  | exc _ _ => rw [he] at h; exact h
  | ok r ρ1 => rw [he] at h; exact h
def stX (E : Str → Prop) (tg : CT) (x : D) (b : Env → R Fl) (I : Env → Prop) (Q : Fl → Env → Prop) (ρ : Env) : Prop := match setT tg x ρ with
  | some ρ1 => (b ρ1).xp E (lpK I Q)
  | none => False
theorem xp_forLoop {tg : CT} {b : Env → R Fl} (I : List D → Env → Prop) {xs : List D} (h0 : I xs ρ) (step : ∀ x xs ρ, I (x :: xs) ρ → stX E tg x b (I xs) T ρ) (hend : ∀ ρ, I [] ρ → T .next ρ) : (forLoop tg b xs ρ).xp E T := by
  induction xs generalizing ρ with
  | nil => exact hend ρ h0
  | cons x xs ih =>
    have s := step x xs ρ h0
    unfold stX at s
    unfold forLoop
    cases e : setT tg x ρ with
    | none => rw [e] at s; exact s.elim
    | some ρ1 =>
      rw [e] at s
      simp only at s ⊢
      cases eb : b ρ1 with
      | bad => rw [eb] at s; exact s.elim
      | exc _ _ => rw [eb] at s; exact s
      | ok fl ρ2 =>
        rw [eb] at s
        cases fl with
        | next => exact ih s
        | cont => exact ih s
        | brk => exact s
        | ret r => exact s
theorem xp_for {tg : CT} {it : CE} {b : CS} (h : (evI Φ it ρ).wp fun xs ρ1 => (forLoop tg (exec Φ wf b) xs ρ1).xp E T) : (exec Φ wf (.for tg it b) ρ).xp E T := by
  show ((evI Φ it ρ).bind fun xs ρ1 => forLoop tg (exec Φ wf b) xs ρ1).xp E T
  cases he : evI Φ it ρ with
  | bad => rw [he] at h; exact h.elim
  | exc _ _ => rw [he] at h; exact h.elim
  | ok xs ρ1 => rw [he] at h; exact h
/-- a def that raises -/
theorem run_exc {c : CS} {n : Nat} {ds : List D} {x : Str} (h : (exec Φ wf c (startE n (ds.map .val))).xp (fun y => y = x) fun _ _ => False) : runFn Φ wf c n (ds.map .val) = .exc x none := by
  unfold runFn
  cases e : exec Φ wf c (startE n (ds.map .val)) with
  | bad => rw [e] at h; exact h.elim
  | ok fl ρ => rw [e] at h; exact h.elim
  | exc y ρ =>
    rw [e] at h
    have h : y = x := h
    subst h
    show RF.exc y (finO (ds.map .val) ρ) = _
    cases ds <;> rfl
end
/-! ## ways that join -/
theorem ifF_join {a b r : Env → R Fl} {K : Fl → Env → Prop} {t : Bool} {ρ : Env} (J : Env → Prop) (h1 : t = true → (a ρ).wp fun fl ρ' => fl = .next ∧ J ρ') (h2 : t = false → (b ρ).wp fun fl ρ' => fl = .next ∧ J ρ') (h3 : ∀ ρ', J ρ' → (r ρ').wp K) : ifF a b (flK r K) (.val (.bool t)) ρ := by
  rw [ifF_b]
  refine ⟨fun h => R.wp.mono (h1 h) ?_, fun h => R.wp.mono (h2 h) ?_⟩
  all_goals
    rintro fl ρ' ⟨rfl, j⟩
    exact h3 ρ' j
theorem seq_join {a b : CS} {Φ : List Fn} {wf : Nat} {K : Fl → Env → Prop} {ρ : Env} (J : Env → Prop) (h1 : (exec Φ wf a ρ).wp fun fl ρ' => fl = .next ∧ J ρ') (h3 : ∀ ρ', J ρ' → (exec Φ wf b ρ').wp K) : (exec Φ wf (.seq a b) ρ).wp K := by
  rw [wx_seq]
  refine R.wp.mono h1 ?_
  rintro fl ρ' ⟨rfl, j⟩
  exact h3 ρ' j
end BX

set_option Elab.async false
set_option linter.all false
set_option maxRecDepth 100000
set_option maxHeartbeats 4000000
namespace BX.k92
open PySem PySem.Spec PyProof.Rows L2 RZ
abbrev isaL : List ((Str × Str) × Bool) := [((("BallError" : Str), ("NoNumber" : Str)), false), ((("NoNumber" : Str), ("NoNumber" : Str)), true), ((("NotFree" : Str), ("NoNumber" : Str)), false), ((("TooLong" : Str), ("NoNumber" : Str)), false), ((("NoRow" : Str), ("NoNumber" : Str)), false), ((("BadNote" : Str), ("NoNumber" : Str)), false), ((("BallError" : Str), ("NotFree" : Str)), false), ((("NoNumber" : Str), ("NotFree" : Str)), false), ((("NotFree" : Str), ("NotFree" : Str)), true), ((("TooLong" : Str), ("NotFree" : Str)), false), ((("NoRow" : Str), ("NotFree" : Str)), false), ((("BadNote" : Str), ("NotFree" : Str)), false), ((("BallError" : Str), ("TooLong" : Str)), false), ((("NoNumber" : Str), ("TooLong" : Str)), false), ((("NotFree" : Str), ("TooLong" : Str)), false), ((("TooLong" : Str), ("TooLong" : Str)), true), ((("NoRow" : Str), ("TooLong" : Str)), false), ((("BadNote" : Str), ("TooLong" : Str)), false), ((("BallError" : Str), ("NoRow" : Str)), false), ((("NoNumber" : Str), ("NoRow" : Str)), false), ((("NotFree" : Str), ("NoRow" : Str)), false), ((("TooLong" : Str), ("NoRow" : Str)), false), ((("NoRow" : Str), ("NoRow" : Str)), true), ((("BadNote" : Str), ("NoRow" : Str)), false), ((("BallError" : Str), ("BadNote" : Str)), false), ((("NoNumber" : Str), ("BadNote" : Str)), false), ((("NotFree" : Str), ("BadNote" : Str)), false), ((("TooLong" : Str), ("BadNote" : Str)), false), ((("NoRow" : Str), ("BadNote" : Str)), false), ((("BadNote" : Str), ("BadNote" : Str)), true), ((("BallError" : Str), ("ValueError" : Str)), true), ((("NoNumber" : Str), ("ValueError" : Str)), true), ((("NotFree" : Str), ("ValueError" : Str)), true), ((("TooLong" : Str), ("ValueError" : Str)), true), ((("NoRow" : Str), ("ValueError" : Str)), true), ((("BadNote" : Str), ("ValueError" : Str)), true)]
def topS (i : Nat) : Stmt := PySem.Challenge.pw_boxballs_k92_texts_that_write_none.main.body.getD i (.Pass ⟨0, 0, 0, 0⟩)
abbrev s_is_whole : Stmt := topS 11
def N_is_whole : List Str := ["thing"]
theorem sc_is_whole : FnScope N_is_whole ["thing"] (defScope s_is_whole) := ⟨rfl, rfl, rfl, by decide +kernel, rfl, by decide +kernel, by decide +kernel⟩
def G_is_whole (lv : Nat) : CG := ⟨N_is_whole, [], [("MOST_BALLS", .int (12)), ("LEAST_PLACE", .int (-1000000000)), ("MOST_PLACE", .int (1000000000)), ("FIGURES", .str ("0123456789" : Str)), ("MOST_BOXES", .int (200)), ("MOST_FIGURES", .int (30))], false, ["BallError", "NoNumber", "NotFree", "TooLong", "NoRow", "BadNote"], lv, isaL, [], false⟩
abbrev s_is_between : Stmt := topS 12
def N_is_between : List Str := ["thing", "least", "most"]
theorem sc_is_between : FnScope N_is_between ["thing", "least", "most"] (defScope s_is_between) := ⟨rfl, rfl, rfl, by decide +kernel, rfl, by decide +kernel, by decide +kernel⟩
def G_is_between (lv : Nat) : CG := ⟨N_is_between, [("is_whole", 1)], [("MOST_BALLS", .int (12)), ("LEAST_PLACE", .int (-1000000000)), ("MOST_PLACE", .int (1000000000)), ("FIGURES", .str ("0123456789" : Str)), ("MOST_BOXES", .int (200)), ("MOST_FIGURES", .int (30))], false, ["BallError", "NoNumber", "NotFree", "TooLong", "NoRow", "BadNote"], lv, isaL, [], false⟩
abbrev s_is_row : Stmt := topS 13
def N_is_row : List Str := ["thing", "place", "one", "other"]
theorem sc_is_row : FnScope N_is_row ["thing"] (defScope s_is_row) := ⟨rfl, rfl, rfl, by decide +kernel, rfl, by decide +kernel, by decide +kernel⟩
def G_is_row (lv : Nat) : CG := ⟨N_is_row, [("is_whole", 1), ("is_between", 3)], [("MOST_BALLS", .int (12)), ("LEAST_PLACE", .int (-1000000000)), ("MOST_PLACE", .int (1000000000)), ("FIGURES", .str ("0123456789" : Str)), ("MOST_BOXES", .int (200)), ("MOST_FIGURES", .int (30))], false, ["BallError", "NoNumber", "NotFree", "TooLong", "NoRow", "BadNote"], lv, isaL, [], false⟩
abbrev s_number_in : Stmt := topS 18
def N_number_in : List Str := ["word", "figures", "sign"]
theorem sc_number_in : FnScope N_number_in ["word"] (defScope s_number_in) := ⟨rfl, rfl, rfl, by decide +kernel, rfl, by decide +kernel, by decide +kernel⟩
def G_number_in (lv : Nat) : CG := ⟨N_number_in, [("is_whole", 1), ("is_between", 3), ("is_row", 1)], [("MOST_BALLS", .int (12)), ("LEAST_PLACE", .int (-1000000000)), ("MOST_PLACE", .int (1000000000)), ("FIGURES", .str ("0123456789" : Str)), ("MOST_BOXES", .int (200)), ("MOST_FIGURES", .int (30))], false, ["BallError", "NoNumber", "NotFree", "TooLong", "NoRow", "BadNote"], lv, isaL, [], false⟩
abbrev s_row_read : Stmt := topS 19
def N_row_read : List Str := ["text", "first", "found", "word", "mark", "signs", "at", "sign"]
theorem sc_row_read : FnScope N_row_read ["text"] (defScope s_row_read) := ⟨rfl, rfl, rfl, by decide +kernel, rfl, by decide +kernel, by decide +kernel⟩
def G_row_read (lv : Nat) : CG := ⟨N_row_read, [("is_whole", 1), ("is_between", 3), ("is_row", 1), ("number_in", 1)], [("MOST_BALLS", .int (12)), ("LEAST_PLACE", .int (-1000000000)), ("MOST_PLACE", .int (1000000000)), ("FIGURES", .str ("0123456789" : Str)), ("MOST_BOXES", .int (200)), ("MOST_FIGURES", .int (30))], false, ["BallError", "NoNumber", "NotFree", "TooLong", "NoRow", "BadNote"], lv, isaL, [], false⟩
abbrev s_l_cell_at : Stmt := topS 21
def N_l_cell_at : List Str := ["_law_script", "_law_k"]
theorem sc_l_cell_at : FnScope N_l_cell_at ["_law_script", "_law_k"] (defScope s_l_cell_at) := ⟨rfl, rfl, rfl, by decide +kernel, rfl, by decide +kernel, by decide +kernel⟩
def G_l_cell_at (lv : Nat) : CG := ⟨N_l_cell_at, [("is_whole", 1), ("is_between", 3), ("is_row", 1), ("number_in", 1), ("row_read", 1)], [("MOST_BALLS", .int (12)), ("LEAST_PLACE", .int (-1000000000)), ("MOST_PLACE", .int (1000000000)), ("FIGURES", .str ("0123456789" : Str)), ("MOST_BOXES", .int (200)), ("MOST_FIGURES", .int (30))], false, ["BallError", "NoNumber", "NotFree", "TooLong", "NoRow", "BadNote"], lv, isaL, [], false⟩
abbrev s_l_state : Stmt := topS 22
def N_l_state : List Str := ["_law_script", "_law_k", "_law_cell"]
theorem sc_l_state : FnScope N_l_state ["_law_script", "_law_k"] (defScope s_l_state) := ⟨rfl, rfl, rfl, by decide +kernel, rfl, by decide +kernel, by decide +kernel⟩
def G_l_state (lv : Nat) : CG := ⟨N_l_state, [("is_whole", 1), ("is_between", 3), ("is_row", 1), ("number_in", 1), ("row_read", 1), ("_law_cell_at", 2)], [("MOST_BALLS", .int (12)), ("LEAST_PLACE", .int (-1000000000)), ("MOST_PLACE", .int (1000000000)), ("FIGURES", .str ("0123456789" : Str)), ("MOST_BOXES", .int (200)), ("MOST_FIGURES", .int (30))], false, ["BallError", "NoNumber", "NotFree", "TooLong", "NoRow", "BadNote"], lv, isaL, [], false⟩
abbrev s_l_take : Stmt := topS 23
def N_l_take : List Str := ["_law_state_here", "_law_many", "_law_mixed", "_law_found"]
theorem sc_l_take : FnScope N_l_take ["_law_state_here", "_law_many"] (defScope s_l_take) := ⟨rfl, rfl, rfl, by decide +kernel, rfl, by decide +kernel, by decide +kernel⟩
def G_l_take (lv : Nat) : CG := ⟨N_l_take, [("is_whole", 1), ("is_between", 3), ("is_row", 1), ("number_in", 1), ("row_read", 1), ("_law_cell_at", 2), ("_law_state", 2)], [("MOST_BALLS", .int (12)), ("LEAST_PLACE", .int (-1000000000)), ("MOST_PLACE", .int (1000000000)), ("FIGURES", .str ("0123456789" : Str)), ("MOST_BOXES", .int (200)), ("MOST_FIGURES", .int (30))], false, ["BallError", "NoNumber", "NotFree", "TooLong", "NoRow", "BadNote"], lv, isaL, [], false⟩
abbrev s_l_refused : Stmt := topS 24
def N_l_refused : List Str := ["_law_call", "_law_error", "e", "_law_sorts", "_law_one"]
theorem sc_l_refused : FnScope N_l_refused ["_law_call"] (defScope s_l_refused) := ⟨rfl, rfl, rfl, by decide +kernel, rfl, by decide +kernel, by decide +kernel⟩
def G_l_refused (lv : Nat) : CG := ⟨N_l_refused, [], [("MOST_BALLS", .int (12)), ("LEAST_PLACE", .int (-1000000000)), ("MOST_PLACE", .int (1000000000)), ("FIGURES", .str ("0123456789" : Str)), ("MOST_BOXES", .int (200)), ("MOST_FIGURES", .int (30))], false, ["BallError", "NoNumber", "NotFree", "TooLong", "NoRow", "BadNote"], lv, isaL, [], false⟩
abbrev s_l_row : Stmt := topS 25
def N_l_row : List Str := ["_law_state_here", "_law_gaps", "_law_found", "_law_place", "_law_turn", "_law_size", "_law_ball"]
theorem sc_l_row : FnScope N_l_row ["_law_state_here", "_law_gaps"] (defScope s_l_row) := ⟨rfl, rfl, rfl, by decide +kernel, rfl, by decide +kernel, by decide +kernel⟩
def G_l_row (lv : Nat) : CG := ⟨N_l_row, [("is_whole", 1), ("is_between", 3), ("is_row", 1), ("number_in", 1), ("row_read", 1), ("_law_cell_at", 2), ("_law_state", 2), ("_law_take", 2), ("", 0)], [("MOST_BALLS", .int (12)), ("LEAST_PLACE", .int (-1000000000)), ("MOST_PLACE", .int (1000000000)), ("FIGURES", .str ("0123456789" : Str)), ("MOST_BOXES", .int (200)), ("MOST_FIGURES", .int (30))], false, ["BallError", "NoNumber", "NotFree", "TooLong", "NoRow", "BadNote"], lv, isaL, [("_law_refused", 8)], false⟩
abbrev s_l_row_text : Stmt := topS 27
def N_l_row_text : List Str := ["_law_row_here", "_law_signs", "_law_place"]
theorem sc_l_row_text : FnScope N_l_row_text ["_law_row_here"] (defScope s_l_row_text) := ⟨rfl, rfl, rfl, by decide +kernel, rfl, by decide +kernel, by decide +kernel⟩
def G_l_row_text (lv : Nat) : CG := ⟨N_l_row_text, [("is_whole", 1), ("is_between", 3), ("is_row", 1), ("number_in", 1), ("row_read", 1), ("_law_cell_at", 2), ("_law_state", 2), ("_law_take", 2), ("", 0), ("_law_row", 2)], [("MOST_BALLS", .int (12)), ("LEAST_PLACE", .int (-1000000000)), ("MOST_PLACE", .int (1000000000)), ("FIGURES", .str ("0123456789" : Str)), ("MOST_BOXES", .int (200)), ("MOST_FIGURES", .int (30))], false, ["BallError", "NoNumber", "NotFree", "TooLong", "NoRow", "BadNote"], lv, isaL, [("_law_refused", 8)], false⟩
abbrev s_l_same : Stmt := topS 28
def N_l_same : List Str := ["_law_found", "_law_due_here", "_law_one", "_law_other"]
theorem sc_l_same : FnScope N_l_same ["_law_found", "_law_due_here"] (defScope s_l_same) := ⟨rfl, rfl, rfl, by decide +kernel, rfl, by decide +kernel, by decide +kernel⟩
def G_l_same (lv : Nat) : CG := ⟨N_l_same, [("is_whole", 1), ("is_between", 3), ("is_row", 1), ("number_in", 1), ("row_read", 1), ("_law_cell_at", 2), ("_law_state", 2), ("_law_take", 2), ("", 0), ("_law_row", 2), ("_law_row_text", 1), ("_law_same", 2)], [("MOST_BALLS", .int (12)), ("LEAST_PLACE", .int (-1000000000)), ("MOST_PLACE", .int (1000000000)), ("FIGURES", .str ("0123456789" : Str)), ("MOST_BOXES", .int (200)), ("MOST_FIGURES", .int (30))], false, ["BallError", "NoNumber", "NotFree", "TooLong", "NoRow", "BadNote"], lv, isaL, [("_law_refused", 8)], false⟩
abbrev s_l_due : Stmt := topS 29
def N_l_due : List Str := ["_law_text", "_law_parts", "_law_figures", "_law_first", "_law_row_here", "_law_word", "_law_signs", "_law_at", "_law_sign"]
theorem sc_l_due : FnScope N_l_due ["_law_text"] (defScope s_l_due) := ⟨rfl, rfl, rfl, by decide +kernel, rfl, by decide +kernel, by decide +kernel⟩
def G_l_due (lv : Nat) : CG := ⟨N_l_due, [("is_whole", 1), ("is_between", 3), ("is_row", 1), ("number_in", 1), ("row_read", 1), ("_law_cell_at", 2), ("_law_state", 2), ("_law_take", 2), ("", 0), ("_law_row", 2), ("_law_row_text", 1), ("_law_same", 2)], [("MOST_BALLS", .int (12)), ("LEAST_PLACE", .int (-1000000000)), ("MOST_PLACE", .int (1000000000)), ("FIGURES", .str ("0123456789" : Str)), ("MOST_BOXES", .int (200)), ("MOST_FIGURES", .int (30))], false, ["BallError", "NoNumber", "NotFree", "TooLong", "NoRow", "BadNote"], lv, isaL, [("_law_refused", 8)], false⟩
abbrev s_l_bent : Stmt := topS 30
def N_l_bent : List Str := ["_law_state_here", "_law_text", "_law_kind", "_law_at", "_law_signs", "_law_sign", "_law_word", "_law_mark", "_law_behind", "_law_far_here"]
theorem sc_l_bent : FnScope N_l_bent ["_law_state_here", "_law_text"] (defScope s_l_bent) := ⟨rfl, rfl, rfl, by decide +kernel, rfl, by decide +kernel, by decide +kernel⟩
def G_l_bent (lv : Nat) : CG := ⟨N_l_bent, [("is_whole", 1), ("is_between", 3), ("is_row", 1), ("number_in", 1), ("row_read", 1), ("_law_cell_at", 2), ("_law_state", 2), ("_law_take", 2), ("", 0), ("_law_row", 2), ("_law_row_text", 1), ("_law_same", 2), ("_law_due", 1)], [("MOST_BALLS", .int (12)), ("LEAST_PLACE", .int (-1000000000)), ("MOST_PLACE", .int (1000000000)), ("FIGURES", .str ("0123456789" : Str)), ("MOST_BOXES", .int (200)), ("MOST_FIGURES", .int (30))], false, ["BallError", "NoNumber", "NotFree", "TooLong", "NoRow", "BadNote"], lv, isaL, [("_law_refused", 8)], false⟩
abbrev s_l_right : Stmt := topS 31
def N_l_right : List Str := ["_law_text", "_law_due_here"]
theorem sc_l_right : FnScope N_l_right ["_law_text", "_law_due_here"] (defScope s_l_right) := ⟨rfl, rfl, rfl, by decide +kernel, rfl, by decide +kernel, by decide +kernel⟩
def G_l_right (lv : Nat) : CG := ⟨N_l_right, [("is_whole", 1), ("is_between", 3), ("is_row", 1), ("number_in", 1), ("row_read", 1), ("_law_cell_at", 2), ("_law_state", 2), ("_law_take", 2), ("", 0), ("_law_row", 2), ("_law_row_text", 1), ("_law_same", 2), ("_law_due", 1), ("_law_bent", 2)], [("MOST_BALLS", .int (12)), ("LEAST_PLACE", .int (-1000000000)), ("MOST_PLACE", .int (1000000000)), ("FIGURES", .str ("0123456789" : Str)), ("MOST_BOXES", .int (200)), ("MOST_FIGURES", .int (30))], false, ["BallError", "NoNumber", "NotFree", "TooLong", "NoRow", "BadNote"], lv, isaL, [("_law_refused", 8)], true⟩
abbrev s_law : Stmt := topS 32
def N_law : List Str := ["_law_script", "_law_k", "_law_state_here", "_law_row_here", "_law_text", "_law_turn", "_law_odd"]
theorem sc_law : FnScope N_law ["_law_script"] (defScope s_law) := ⟨rfl, rfl, rfl, by decide +kernel, rfl, by decide +kernel, by decide +kernel⟩
def G_law (lv : Nat) : CG := ⟨N_law, [("is_whole", 1), ("is_between", 3), ("is_row", 1), ("number_in", 1), ("row_read", 1), ("_law_cell_at", 2), ("_law_state", 2), ("_law_take", 2), ("", 0), ("_law_row", 2), ("_law_row_text", 1), ("_law_same", 2), ("_law_due", 1), ("_law_bent", 2), ("_law_right", 2)], [("MOST_BALLS", .int (12)), ("LEAST_PLACE", .int (-1000000000)), ("MOST_PLACE", .int (1000000000)), ("FIGURES", .str ("0123456789" : Str)), ("MOST_BOXES", .int (200)), ("MOST_FIGURES", .int (30))], false, ["BallError", "NoNumber", "NotFree", "TooLong", "NoRow", "BadNote"], lv, isaL, [("_law_refused", 8)], true⟩
def c_is_whole : CS := (.seq (.ret (.and (.isin (.var 0) [.int]) (.not (.isin (.var 0) [.bool]))))
    .nop)
theorem hc_is_whole (lv : Nat) : compSsq (compS (G_is_whole lv) (defScope s_is_whole) (fun _ => true) 40 40) (defBody s_is_whole) = some c_is_whole := by rfl
def t_is_whole : List Fn := []
def f_is_whole : List Arg → RF := runFn t_is_whole wfN c_is_whole 1
def c_is_between : CS := (.seq (.ret (.and (.call 0 (.cons (.var 0) .nil)) (.chain .LtE .LtE (.var 1) (.var 0) (.var 2))))
    .nop)
theorem hc_is_between (lv : Nat) : compSsq (compS (G_is_between lv) (defScope s_is_between) (fun _ => true) 40 40) (defBody s_is_between) = some c_is_between := by rfl
def t_is_between : List Fn := [⟨false, f_is_whole⟩]
def f_is_between : List Arg → RF := runFn t_is_between wfN c_is_between 3
def c_is_row : CS := (.seq (.ite (.or (.not (.isin (.var 0) [.tuple])) (.cmp .Gt (.bi .len (.cons (.var 0) .nil)) (.cst (.int (12)))))
    (.seq (.ret (.cst (.bool false)))
    .nop)
    .nop)
    (.seq (.ite (.not (.bi .all (.cons (.lc (.call 1 (.cons (.var 1) (.cons (.cst (.int (-1000000000))) (.cons (.cst (.int (1000000000))) .nil)))) (.nm 1) (.iseq (.var 0)) .no [1]) .nil)))
    (.seq (.ret (.cst (.bool false)))
    .nop)
    .nop)
    (.seq (.ret (.bi .all (.cons (.lc (.cmp .Lt (.var 2) (.var 3)) (.tp [2, 3]) (.izip (.cons (.var 0) (.cons (.sl (.var 0) (.some (.cst (.int (1)))) .no) .nil))) .no [2, 3]) .nil)))
    .nop)))
theorem hc_is_row (lv : Nat) : compSsq (compS (G_is_row lv) (defScope s_is_row) (fun _ => true) 40 40) (defBody s_is_row) = some c_is_row := by rfl
def t_is_row : List Fn := [⟨false, f_is_whole⟩, ⟨false, f_is_between⟩]
def f_is_row : List Arg → RF := runFn t_is_row wfN c_is_row 4
def c_number_in : CS := (.seq (.asg 1 (.ite (.cmp .Eq (.sl (.var 0) .no (.some (.cst (.int (1))))) (.cst (.str ("-" : Str)))) (.sl (.var 0) (.some (.cst (.int (1)))) .no) (.var 0)))
    (.seq (.ite (.or (.not (.chain .LtE .LtE (.cst (.int (1))) (.bi .len (.cons (.var 1) .nil)) (.cst (.int (30))))) (.not (.bi .all (.cons (.lc (.cmp .In (.var 2) (.cst (.str ("0123456789" : Str)))) (.nm 2) (.iseq (.var 1)) .no [2]) .nil))))
    (.seq (.ret (.cst .none))
    .nop)
    .nop)
    (.seq (.ite (.cmp .NotEq (.bi .str (.cons (.bi .int (.cons (.var 0) .nil)) .nil)) (.var 0))
    (.seq (.ret (.cst .none))
    .nop)
    .nop)
    (.seq (.ret (.bi .int (.cons (.var 0) .nil)))
    .nop))))
theorem hc_number_in (lv : Nat) : compSsq (compS (G_number_in lv) (defScope s_number_in) (fun _ => true) 40 40) (defBody s_number_in) = some c_number_in := by rfl
def t_number_in : List Fn := [⟨false, f_is_whole⟩, ⟨false, f_is_between⟩, ⟨false, f_is_row⟩]
def f_number_in : List Arg → RF := runFn t_number_in wfN c_number_in 3
def c_row_read : CS := (.seq (.ite (.not (.isin (.var 0) [.str]))
    (.seq (.raise ("BadNote" : Str))
    .nop)
    .nop)
    (.seq (.ite (.cmp .Eq (.var 0) (.cst (.str ("none" : Str))))
    (.seq (.ret (.tup .nil))
    .nop)
    .nop)
    (.seq (.asgT [3, 4, 5] (.mt .partition (.var 0) (.cons (.cst (.str (":" : Str))) .nil)))
    (.seq (.asg 1 (.call 3 (.cons (.var 3) .nil)))
    (.seq (.ite (.or (.cmp .Is (.var 1) (.cst .none)) (.or (.cmp .Gt (.bi .len (.cons (.var 5) .nil)) (.cst (.int (200)))) (.not (.bi .all (.cons (.lc (.cmp .In (.var 7) (.cst (.str ("o." : Str)))) (.nm 7) (.iseq (.var 5)) .no [7]) .nil)))))
    (.seq (.raise ("BadNote" : Str))
    .nop)
    .nop)
    (.seq (.ite (.or (.cmp .Eq (.var 5) (.cst (.str ("" : Str)))) (.or (.cmp .NotEq (.ix (.var 5) (.cst (.int (0)))) (.cst (.str ("o" : Str)))) (.cmp .NotEq (.ix (.var 5) (.neg (.cst (.int (1))))) (.cst (.str ("o" : Str))))))
    (.seq (.raise ("BadNote" : Str))
    .nop)
    .nop)
    (.seq (.asg 2 (.bi .tuple (.cons (.lc (.bin .Add (.var 1) (.var 6)) (.tp [6, 7]) (.ienum (.cons (.var 5) .nil)) (.some (.cmp .Eq (.var 7) (.cst (.str ("o" : Str))))) [6, 7]) .nil)))
    (.seq (.ite (.not (.call 2 (.cons (.var 2) .nil)))
    (.seq (.raise ("BadNote" : Str))
    .nop)
    .nop)
    (.seq (.ret (.var 2))
    .nop)))))))))
theorem hc_row_read (lv : Nat) : compSsq (compS (G_row_read lv) (defScope s_row_read) (fun _ => true) 40 40) (defBody s_row_read) = some c_row_read := by rfl
def t_row_read : List Fn := [⟨false, f_is_whole⟩, ⟨false, f_is_between⟩, ⟨false, f_is_row⟩, ⟨false, f_number_in⟩]
def f_row_read : List Arg → RF := runFn t_row_read wfN c_row_read 8
def c_l_cell_at : CS := (.seq (.ite (.cmp .Lt (.var 1) (.bi .len (.cons (.var 0) .nil)))
    (.seq (.ret (.ix (.var 0) (.var 1)))
    .nop)
    .nop)
    (.seq (.ret (.cst (.int (0))))
    .nop))
theorem hc_l_cell_at (lv : Nat) : compSsq (compS (G_l_cell_at lv) (defScope s_l_cell_at) (fun _ => true) 40 40) (defBody s_l_cell_at) = some c_l_cell_at := by rfl
def t_l_cell_at : List Fn := [⟨false, f_is_whole⟩, ⟨false, f_is_between⟩, ⟨false, f_is_row⟩, ⟨false, f_number_in⟩, ⟨false, f_row_read⟩]
def f_l_cell_at : List Arg → RF := runFn t_l_cell_at wfN c_l_cell_at 2
def c_l_state : CS := (.seq (.asg 2 (.call 5 (.cons (.var 0) (.cons (.var 1) .nil))))
    (.seq (.ite (.cmp .GtE (.var 2) (.bin .Pow (.cst (.int (10))) (.cst (.int (18)))))
    (.seq (.ret (.lst (.cons (.bin .Sub (.var 2) (.bin .Pow (.cst (.int (10))) (.cst (.int (18))))) (.cons (.cst (.bool true)) .nil))))
    .nop)
    .nop)
    (.seq (.ret (.lst (.cons (.bin .Mod (.var 2) (.cst (.int (2147483647)))) (.cons (.cst (.bool false)) .nil))))
    .nop)))
theorem hc_l_state (lv : Nat) : compSsq (compS (G_l_state lv) (defScope s_l_state) (fun _ => true) 40 40) (defBody s_l_state) = some c_l_state := by rfl
def t_l_state : List Fn := [⟨false, f_is_whole⟩, ⟨false, f_is_between⟩, ⟨false, f_is_row⟩, ⟨false, f_number_in⟩, ⟨false, f_row_read⟩, ⟨false, f_l_cell_at⟩]
def f_l_state : List Arg → RF := runFn t_l_state wfN c_l_state 3
def c_l_take : CS := (.seq (.ite (.ix (.var 0) (.cst (.int (1))))
    (.seq (.asg 3 (.bin .Mod (.ix (.var 0) (.cst (.int (0)))) (.var 1)))
    (.seq (.setIx 0 (.cst (.int (0))) (.bin .FloorDiv (.ix (.var 0) (.cst (.int (0)))) (.var 1)))
    (.seq (.ret (.var 3))
    .nop)))
    .nop)
    (.seq (.setIx 0 (.cst (.int (0))) (.bin .Mod (.bin .Add (.bin .Mult (.ix (.var 0) (.cst (.int (0)))) (.cst (.int (48271)))) (.cst (.int (29)))) (.cst (.int (2147483647)))))
    (.seq (.asg 2 (.bin .Mod (.bin .Add (.bin .Add (.bin .Mult (.ix (.var 0) (.cst (.int (0)))) (.ix (.var 0) (.cst (.int (0))))) (.bin .Mult (.cst (.int (39373))) (.ix (.var 0) (.cst (.int (0)))))) (.cst (.int (7)))) (.cst (.int (2147483629)))))
    (.seq (.asg 2 (.bin .Mod (.bin .Add (.bin .Mult (.var 2) (.var 2)) (.bin .Mult (.cst (.int (16807))) (.var 2))) (.cst (.int (2147483587)))))
    (.seq (.ret (.bin .Mod (.bin .FloorDiv (.var 2) (.cst (.int (8)))) (.var 1)))
    .nop)))))
theorem hc_l_take (lv : Nat) : compSsq (compS (G_l_take lv) (defScope s_l_take) (fun _ => true) 40 40) (defBody s_l_take) = some c_l_take := by rfl
def t_l_take : List Fn := [⟨false, f_is_whole⟩, ⟨false, f_is_between⟩, ⟨false, f_is_row⟩, ⟨false, f_number_in⟩, ⟨false, f_row_read⟩, ⟨false, f_l_cell_at⟩, ⟨false, f_l_state⟩]
def f_l_take : List Arg → RF := runFn t_l_take wfN c_l_take 4
def c_l_refused : CS := (.seq (.ite (.cmp .Is (.var 1) (.cst .none))
    (.seq (.ret (.cst .none))
    .nop)
    .nop)
    (.seq (.asg 3 (.lst (.cons (.isE (.var 1) [("BallError", false), ("NoNumber", true), ("NotFree", false), ("TooLong", false), ("NoRow", false), ("BadNote", false)]) (.cons (.isE (.var 1) [("BallError", false), ("NoNumber", false), ("NotFree", true), ("TooLong", false), ("NoRow", false), ("BadNote", false)]) (.cons (.isE (.var 1) [("BallError", false), ("NoNumber", false), ("NotFree", false), ("TooLong", true), ("NoRow", false), ("BadNote", false)]) .nil)))))
    (.seq (.asg 3 (.bin .Add (.var 3) (.lst (.cons (.isE (.var 1) [("BallError", false), ("NoNumber", false), ("NotFree", false), ("TooLong", false), ("NoRow", true), ("BadNote", false)]) (.cons (.isE (.var 1) [("BallError", false), ("NoNumber", false), ("NotFree", false), ("TooLong", false), ("NoRow", false), ("BadNote", true)]) .nil)))))
    (.seq (.ite (.or (.not (.isE (.var 1) [("BallError", true), ("NoNumber", true), ("NotFree", true), ("TooLong", true), ("NoRow", true), ("BadNote", true)])) (.cmp .NotEq (.bi .sum (.cons (.lc (.bi .int (.cons (.var 4) .nil)) (.nm 4) (.iseq (.var 3)) .no [4]) .nil)) (.cst (.int (1)))))
    (.seq (.ret (.neg (.cst (.int (1)))))
    .nop)
    .nop)
    (.seq (.ret (.mt .index (.var 3) (.cons (.cst (.bool true)) .nil)))
    .nop)))))
theorem hc_l_refused (lv : Nat) : compSsq (compS (G_l_refused lv) (defScope s_l_refused) (fun _ => true) 40 40) ((defBody s_l_refused).drop 2) = some c_l_refused := by rfl
def t_l_refused : List Fn := []
def f_l_refused : List Arg → RF := runTk t_l_refused wfN c_l_refused 1 5
def c_l_row : CS := (.seq (.asg 2 (.lst .nil))
    (.seq (.asg 3 (.ix (.lst (.cons (.cst (.int (0))) (.cons (.neg (.cst (.int (7)))) (.cons (.bin .Sub (.call 7 (.cons (.var 0) (.cons (.cst (.int (41))) .nil))) (.cst (.int (20)))) .nil)))) (.call 7 (.cons (.var 0) (.cons (.cst (.int (3))) .nil)))))
    (.seq (.for (.nm 4) (.irng (.cons (.call 7 (.cons (.var 0) (.cons (.cst (.int (6))) .nil))) .nil))
    (.seq (.asg 5 (.bin .Add (.cst (.int (1))) (.call 7 (.cons (.var 0) (.cons (.ix (.lst (.cons (.cst (.int (2))) (.cons (.cst (.int (3))) (.cons (.cst (.int (5))) .nil)))) (.call 7 (.cons (.var 0) (.cons (.cst (.int (3))) .nil)))) .nil)))))
    (.seq (.for (.nm 6) (.irng (.cons (.var 5) .nil))
    (.seq (.ite (.cmp .Lt (.bi .len (.cons (.var 2) .nil)) (.cst (.int (12))))
    (.seq (.drop (.mu .append (.var 2) (.cons (.var 3) .nil)))
    .nop)
    .nop)
    (.seq (.asg 3 (.bin .Add (.var 3) (.cst (.int (1)))))
    .nop)))
    (.seq (.asg 3 (.bin .Add (.bin .Add (.var 3) (.cst (.int (1)))) (.call 7 (.cons (.var 0) (.cons (.ix (.var 1) (.call 7 (.cons (.var 0) (.cons (.bi .len (.cons (.var 1) .nil)) .nil)))) .nil)))))
    .nop))))
    (.seq (.ret (.bi .tuple (.cons (.var 2) .nil)))
    .nop))))
theorem hc_l_row (lv : Nat) : compSsq (compS (G_l_row lv) (defScope s_l_row) (fun _ => true) 40 40) (defBody s_l_row) = some c_l_row := by rfl
def t_l_row : List Fn := [⟨false, f_is_whole⟩, ⟨false, f_is_between⟩, ⟨false, f_is_row⟩, ⟨false, f_number_in⟩, ⟨false, f_row_read⟩, ⟨false, f_l_cell_at⟩, ⟨false, f_l_state⟩, ⟨true, f_l_take⟩, ⟨false, f_l_refused⟩]
def f_l_row : List Arg → RF := runFn t_l_row wfN c_l_row 7
def c_l_row_text : CS := (.seq (.ite (.cmp .Eq (.var 0) (.tup .nil))
    (.seq (.ret (.cst (.str ("none" : Str))))
    .nop)
    .nop)
    (.seq (.asg 1 (.lc (.ite (.cmp .In (.var 2) (.var 0)) (.cst (.str ("o" : Str))) (.cst (.str ("." : Str)))) (.nm 2) (.irng (.cons (.ix (.var 0) (.cst (.int (0)))) (.cons (.bin .Add (.ix (.var 0) (.neg (.cst (.int (1))))) (.cst (.int (1)))) .nil))) .no [2]))
    (.seq (.ret (.bin .Add (.bin .Add (.bi .str (.cons (.ix (.var 0) (.cst (.int (0)))) .nil)) (.cst (.str (":" : Str)))) (.mt .join (.cst (.str ("" : Str))) (.cons (.var 1) .nil))))
    .nop)))
theorem hc_l_row_text (lv : Nat) : compSsq (compS (G_l_row_text lv) (defScope s_l_row_text) (fun _ => true) 40 40) (defBody s_l_row_text) = some c_l_row_text := by rfl
def t_l_row_text : List Fn := [⟨false, f_is_whole⟩, ⟨false, f_is_between⟩, ⟨false, f_is_row⟩, ⟨false, f_number_in⟩, ⟨false, f_row_read⟩, ⟨false, f_l_cell_at⟩, ⟨false, f_l_state⟩, ⟨true, f_l_take⟩, ⟨false, f_l_refused⟩, ⟨true, f_l_row⟩]
def f_l_row_text : List Arg → RF := runFn t_l_row_text wfN c_l_row_text 3
def c_l_same : CS := (.seq (.ite (.isin (.var 1) [.list, .tuple])
    (.seq (.ite (.or (.cmp .NotEq (.isin (.var 0) [.list]) (.isin (.var 1) [.list])) (.cmp .NotEq (.isin (.var 0) [.tuple]) (.isin (.var 1) [.tuple])))
    (.seq (.ret (.cst (.bool false)))
    .nop)
    .nop)
    (.seq (.ret (.and (.cmp .Eq (.bi .len (.cons (.var 0) .nil)) (.bi .len (.cons (.var 1) .nil))) (.bi .all (.cons (.lc (.call 11 (.cons (.var 2) (.cons (.var 3) .nil))) (.tp [2, 3]) (.izip (.cons (.var 0) (.cons (.var 1) .nil))) .no [2, 3]) .nil))))
    .nop))
    .nop)
    (.seq (.ret (.and (.cmp .Eq (.isin (.var 0) [.bool]) (.isin (.var 1) [.bool])) (.cmp .Eq (.var 0) (.var 1))))
    .nop))
theorem hc_l_same (lv : Nat) : compSsq (compS (G_l_same lv) (defScope s_l_same) (fun _ => true) 40 40) (defBody s_l_same) = some c_l_same := by rfl
def t_l_same : List Fn := [⟨false, f_is_whole⟩, ⟨false, f_is_between⟩, ⟨false, f_is_row⟩, ⟨false, f_number_in⟩, ⟨false, f_row_read⟩, ⟨false, f_l_cell_at⟩, ⟨false, f_l_state⟩, ⟨true, f_l_take⟩, ⟨false, f_l_refused⟩, ⟨true, f_l_row⟩, ⟨false, f_l_row_text⟩]
def f_l_sameN : Nat → List Arg → RF
  | 0 => fun _ => .bad
  | n + 1 => runFn (t_l_same ++ [⟨false, f_l_sameN n⟩]) wfN c_l_same 4
def f_l_same : List Arg → RF := f_l_sameN 4
def c_l_due : CS := (.seq (.ite (.cmp .Eq (.var 0) (.cst (.str ("none" : Str))))
    (.seq (.ret (.tup .nil))
    .nop)
    .nop)
    (.seq (.asg 1 (.mt .split (.var 0) (.cons (.cst (.str (":" : Str))) .nil)))
    (.seq (.ite (.or (.cmp .NotEq (.bi .len (.cons (.var 1) .nil)) (.cst (.int (2)))) (.not (.chain .LtE .LtE (.cst (.int (1))) (.bi .len (.cons (.ix (.var 1) (.cst (.int (1)))) .nil)) (.cst (.int (200))))))
    (.seq (.ret (.cst .none))
    .nop)
    .nop)
    (.seq (.asgT [5, 6] (.var 1))
    (.seq (.asg 2 (.ite (.cmp .Eq (.sl (.var 5) .no (.some (.cst (.int (1))))) (.cst (.str ("-" : Str)))) (.sl (.var 5) (.some (.cst (.int (1)))) .no) (.var 5)))
    (.seq (.ite (.or (.cmp .Eq (.var 2) (.cst (.str ("" : Str)))) (.or (.not (.bi .all (.cons (.lc (.cmp .In (.var 8) (.cst (.str ("0123456789" : Str)))) (.nm 8) (.iseq (.var 2)) .no [8]) .nil))) (.cmp .Gt (.bi .len (.cons (.var 2) .nil)) (.cst (.int (10))))))
    (.seq (.ret (.cst .none))
    .nop)
    .nop)
    (.seq (.ite (.and (.cmp .Eq (.ix (.var 2) (.cst (.int (0)))) (.cst (.str ("0" : Str)))) (.cmp .NotEq (.var 5) (.cst (.str ("0" : Str)))))
    (.seq (.ret (.cst .none))
    .nop)
    .nop)
    (.seq (.ite (.or (.not (.bi .all (.cons (.lc (.cmp .In (.var 8) (.cst (.str ("o." : Str)))) (.nm 8) (.iseq (.var 6)) .no [8]) .nil))) (.or (.cmp .NotEq (.ix (.var 6) (.cst (.int (0)))) (.cst (.str ("o" : Str)))) (.cmp .NotEq (.ix (.var 6) (.neg (.cst (.int (1))))) (.cst (.str ("o" : Str))))))
    (.seq (.ret (.cst .none))
    .nop)
    .nop)
    (.seq (.asg 3 (.bin .Mult (.bi .int (.cons (.var 2) .nil)) (.ix (.lst (.cons (.cst (.int (1))) (.cons (.neg (.cst (.int (1)))) .nil))) (.bi .int (.cons (.cmp .Eq (.sl (.var 5) .no (.some (.cst (.int (1))))) (.cst (.str ("-" : Str)))) .nil)))))
    (.seq (.asg 4 (.bi .tuple (.cons (.lc (.bin .Add (.var 3) (.var 7)) (.nm 7) (.irng (.cons (.bi .len (.cons (.var 6) .nil)) .nil)) (.some (.cmp .Eq (.ix (.var 6) (.var 7)) (.cst (.str ("o" : Str))))) [7]) .nil)))
    (.seq (.ite (.or (.cmp .Gt (.bi .len (.cons (.var 4) .nil)) (.cst (.int (12)))) (.or (.cmp .Lt (.ix (.var 4) (.cst (.int (0)))) (.neg (.bin .Pow (.cst (.int (10))) (.cst (.int (9)))))) (.cmp .Gt (.ix (.var 4) (.neg (.cst (.int (1))))) (.bin .Pow (.cst (.int (10))) (.cst (.int (9)))))))
    (.seq (.ret (.cst .none))
    .nop)
    .nop)
    (.seq (.ret (.var 4))
    .nop))))))))))))
theorem hc_l_due (lv : Nat) : compSsq (compS (G_l_due lv) (defScope s_l_due) (fun _ => true) 40 40) (defBody s_l_due) = some c_l_due := by rfl
def t_l_due : List Fn := [⟨false, f_is_whole⟩, ⟨false, f_is_between⟩, ⟨false, f_is_row⟩, ⟨false, f_number_in⟩, ⟨false, f_row_read⟩, ⟨false, f_l_cell_at⟩, ⟨false, f_l_state⟩, ⟨true, f_l_take⟩, ⟨false, f_l_refused⟩, ⟨true, f_l_row⟩, ⟨false, f_l_row_text⟩, ⟨false, f_l_same⟩]
def f_l_due : List Arg → RF := runFn t_l_due wfN c_l_due 9
def c_l_bent : CS := (.seq (.asg 2 (.call 7 (.cons (.var 0) (.cons (.cst (.int (8))) .nil))))
    (.seq (.asg 3 (.call 7 (.cons (.var 0) (.cons (.bin .Add (.bi .len (.cons (.var 1) .nil)) (.cst (.int (1)))) .nil))))
    (.seq (.asg 4 (.cst (.str ("o.o.0123456789:- noneabcdefghijklmpqrstuvwxyz" : Str))))
    (.seq (.asg 4 (.bin .Add (.var 4) (.cst (.str ("ABCDEFGHIJKLMNOPQRSTUVWXYZ!#$&'()*+,/;<=>?\x40[]^_|~`{}\\\"" : Str)))))
    (.seq (.asg 5 (.ix (.var 4) (.call 7 (.cons (.var 0) (.cons (.ix (.lst (.cons (.cst (.int (17))) (.cons (.bi .len (.cons (.var 4) .nil)) .nil))) (.call 7 (.cons (.var 0) (.cons (.cst (.int (2))) .nil)))) .nil)))))
    (.seq (.ite (.cmp .Lt (.var 2) (.cst (.int (4))))
    (.seq (.ret (.ix (.lst (.cons (.bin .Add (.sl (.var 1) .no (.some (.var 3))) (.sl (.var 1) (.some (.bin .Add (.var 3) (.cst (.int (1))))) .no)) (.cons (.bin .Add (.bin .Add (.sl (.var 1) .no (.some (.var 3))) (.var 5)) (.sl (.var 1) (.some (.var 3)) .no)) (.cons (.bin .Add (.bin .Add (.sl (.var 1) .no (.some (.var 3))) (.var 5)) (.sl (.var 1) (.some (.bin .Add (.var 3) (.cst (.int (1))))) .no)) (.cons (.var 1) .nil))))) (.var 2)))
    .nop)
    .nop)
    (.seq (.asgT [6, 7, 8] (.mt .partition (.var 1) (.cons (.cst (.str (":" : Str))) .nil)))
    (.seq (.ite (.cmp .Eq (.var 2) (.cst (.int (4))))
    (.seq (.asg 9 (.lst (.cons (.cst (.str ("1000000000" : Str))) (.cons (.cst (.str ("-1000000000" : Str))) (.cons (.cst (.str ("999999995" : Str))) (.cons (.cst (.str ("1000000001" : Str))) (.cons (.cst (.str ("-1000000001" : Str))) (.cons (.cst (.str ("00" : Str))) (.cons (.cst (.str ("-0" : Str))) (.cons (.cst (.str ("+1" : Str))) (.cons (.cst (.str ("01" : Str))) (.cons (.cst (.str ("" : Str))) .nil))))))))))))
    (.seq (.ret (.bin .Add (.bin .Add (.ix (.var 9) (.call 7 (.cons (.var 0) (.cons (.cst (.int (10))) .nil)))) (.var 7)) (.var 8)))
    .nop))
    .nop)
    (.seq (.ite (.cmp .Eq (.var 2) (.cst (.int (5))))
    (.seq (.ret (.bin .Add (.bin .Add (.bin .Add (.var 6) (.var 7)) (.var 8)) (.ix (.lst (.cons (.cst (.str ("." : Str))) (.cons (.cst (.str ("o" : Str))) (.cons (.cst (.str ("..o" : Str))) (.cons (.cst (.str (".ooo" : Str))) (.cons (.cst (.str ("oooooooooooo" : Str))) .nil)))))) (.call 7 (.cons (.var 0) (.cons (.cst (.int (5))) .nil))))))
    .nop)
    .nop)
    (.seq (.ite (.cmp .Eq (.var 2) (.cst (.int (6))))
    (.seq (.ret (.ix (.lst (.cons (.cst (.str ("" : Str))) (.cons (.cst (.str ("none" : Str))) (.cons (.cst (.str ("none " : Str))) (.cons (.cst (.str (":" : Str))) (.cons (.cst (.str ("0:" : Str))) (.cons (.cst (.str ("0:." : Str))) (.cons (.cst (.str ("0:o" : Str))) (.cons (.cst (.str ("o" : Str))) (.cons (.cst (.str ("0:oo:o" : Str))) (.cons (.cst (.str ("None" : Str))) .nil))))))))))) (.call 7 (.cons (.var 0) (.cons (.cst (.int (10))) .nil)))))
    .nop)
    .nop)
    (.seq (.ret (.bin .Add (.var 1) (.ix (.lst (.cons (.cst (.str (" " : Str))) (.cons (.cst (.str (":" : Str))) (.cons (.cst (.str ("o:" : Str))) (.cons (.cst (.str (" o" : Str))) .nil))))) (.call 7 (.cons (.var 0) (.cons (.cst (.int (4))) .nil))))))
    .nop)))))))))))
theorem hc_l_bent (lv : Nat) : compSsq (compS (G_l_bent lv) (defScope s_l_bent) (fun _ => true) 40 40) (defBody s_l_bent) = some c_l_bent := by rfl
def t_l_bent : List Fn := [⟨false, f_is_whole⟩, ⟨false, f_is_between⟩, ⟨false, f_is_row⟩, ⟨false, f_number_in⟩, ⟨false, f_row_read⟩, ⟨false, f_l_cell_at⟩, ⟨false, f_l_state⟩, ⟨true, f_l_take⟩, ⟨false, f_l_refused⟩, ⟨true, f_l_row⟩, ⟨false, f_l_row_text⟩, ⟨false, f_l_same⟩, ⟨false, f_l_due⟩]
def f_l_bent : List Arg → RF := runFn t_l_bent wfN c_l_bent 10
def c_l_right : CS := (.seq (.ite (.cmp .Is (.var 1) (.cst .none))
    (.seq (.ret (.cmp .Eq (.rfc 8 ["BallError", "NoNumber", "NotFree", "TooLong", "NoRow", "BadNote"] (.call 4 (.cons (.var 0) .nil))) (.cst (.int (4)))))
    .nop)
    .nop)
    (.seq (.ret (.call 11 (.cons (.call 4 (.cons (.var 0) .nil)) (.cons (.var 1) .nil))))
    .nop))
theorem hc_l_right (lv : Nat) : compSsq (compS (G_l_right (lv + 4)) (defScope s_l_right) (fun _ => true) 40 40) (defBody s_l_right) = some c_l_right := by rfl
def t_l_right : List Fn := [⟨false, f_is_whole⟩, ⟨false, f_is_between⟩, ⟨false, f_is_row⟩, ⟨false, f_number_in⟩, ⟨false, f_row_read⟩, ⟨false, f_l_cell_at⟩, ⟨false, f_l_state⟩, ⟨true, f_l_take⟩, ⟨false, f_l_refused⟩, ⟨true, f_l_row⟩, ⟨false, f_l_row_text⟩, ⟨false, f_l_same⟩, ⟨false, f_l_due⟩, ⟨true, f_l_bent⟩]
def f_l_right : List Arg → RF := runFn t_l_right wfN c_l_right 2
def c_law : CS := (.seq (.for (.nm 1) (.irng (.cons (.bi .max (.cons (.cst (.int (1))) (.cons (.bi .min (.cons (.bi .len (.cons (.var 0) .nil)) (.cons (.cst (.int (10))) .nil))) .nil))) .nil))
    (.seq (.asg 2 (.call 6 (.cons (.var 0) (.cons (.var 1) .nil))))
    (.seq (.asg 3 (.call 9 (.cons (.var 2) (.cons (.lst (.cons (.cst (.int (2))) (.cons (.cst (.int (5))) (.cons (.cst (.int (12))) .nil)))) .nil))))
    (.seq (.ite (.and (.cmp .NotEq (.var 3) (.tup .nil)) (.and (.cmp .Lt (.bi .len (.cons (.var 3) .nil)) (.cst (.int (12)))) (.cmp .Eq (.call 7 (.cons (.var 2) (.cons (.cst (.int (3))) .nil))) (.cst (.int (0))))))
    (.seq (.asg 3 (.bin .Add (.var 3) (.tup (.cons (.bin .Add (.bin .Add (.ix (.var 3) (.cst (.int (0)))) (.cst (.int (198)))) (.call 7 (.cons (.var 2) (.cons (.cst (.int (3))) .nil)))) .nil))))
    .nop)
    .nop)
    (.seq (.asg 4 (.call 10 (.cons (.var 3) .nil)))
    (.seq (.for (.nm 5) (.irng (.cons (.cst (.int (3))) .nil))
    (.seq (.ite (.not (.call 14 (.cons (.var 4) (.cons (.call 12 (.cons (.var 4) .nil)) .nil))))
    (.seq (.ret (.cst (.bool false)))
    .nop)
    .nop)
    (.seq (.asg 4 (.call 13 (.cons (.var 2) (.cons (.var 4) .nil))))
    .nop)))
    (.seq (.asg 6 (.ix (.lst (.cons (.cst .none) (.cons (.cst (.int (7))) (.cons (.tup (.cons (.cst (.int (0))) .nil)) (.cons (.lst (.cons (.cst (.str ("0:o" : Str))) .nil)) (.cons (.cst (.bool true)) (.cons (.dict false) (.cons (.tup .nil) .nil)))))))) (.call 7 (.cons (.var 2) (.cons (.cst (.int (7))) .nil)))))
    (.seq (.ite (.cmp .NotEq (.rfc 8 ["BallError", "NoNumber", "NotFree", "TooLong", "NoRow", "BadNote"] (.call 4 (.cons (.var 6) .nil))) (.cst (.int (4))))
    (.seq (.ret (.cst (.bool false)))
    .nop)
    .nop)
    .nop))))))))
    (.seq (.ret (.cst (.bool true)))
    .nop))
theorem hc_law (lv : Nat) : compSsq (compS (G_law (lv + 4)) (defScope s_law) (fun _ => true) 40 40) (defBody s_law) = some c_law := by rfl
def t_law : List Fn := [⟨false, f_is_whole⟩, ⟨false, f_is_between⟩, ⟨false, f_is_row⟩, ⟨false, f_number_in⟩, ⟨false, f_row_read⟩, ⟨false, f_l_cell_at⟩, ⟨false, f_l_state⟩, ⟨true, f_l_take⟩, ⟨false, f_l_refused⟩, ⟨true, f_l_row⟩, ⟨false, f_l_row_text⟩, ⟨false, f_l_same⟩, ⟨false, f_l_due⟩, ⟨true, f_l_bent⟩, ⟨false, f_l_right⟩]
def f_law : List Arg → RF := runFn t_law wfN c_law 7
end BX.k92

set_option Elab.async false
set_option linter.all false
set_option maxRecDepth 100000
set_option maxHeartbeats 4000000
namespace BX.k92
open PySem PySem.Spec PyProof.Rows L2 RZ PureT

theorem cell_at (ns : List Int) (k : Int) (h : 0 ≤ k) (hl : ns.length ≤ 63) : ∃ v : Int, f_l_cell_at [.val (.list (ns.map .int)), .val (.int k)] = .ok (.val (.int v)) none := by
  have key : (f_l_cell_at [.val (.list (ns.map .int)), .val (.int k)]).wp fun r fin => (∃ v : Int, r = .val (.int v)) ∧ fin = none := by
    refine wp_run ?_
    simp [c_l_cell_at, V_val, V_own, V_bor, vK_val, vK_own, vK_no, vK_none, wv_var, wv_cst, b2F_eq, b1F_eq, wv_bin, wv_cmp, wv_ix, wv_rng2, a1F_eq, wv_neg, wv_rev, wv_isin, wv_rng1, wv_ssort, andF_b, wv_and, orF_b, wv_or, notF_b, wv_not, conF_b, wv_ite, tupF_eq, wv_tup, lstF_eq, wv_lst, wv_dict, sl3F_eq, sl2F_eq, sl1F_eq, wv_sl, nF_eq, wv_bi, cF_eq, wv_call, mu2F_ex, muF1_b, wv_mu, mt2F_ex, mtF1_eq, wv_mt, c2F_eq, c1F_eq, wv_nil, wv_cons, lc2F_eq, lcF_eq, wv_lc, wv_yes, wv_cond, wv_no, wv_some, pF_int, seqF_eq, wv_seq, rngF_eq, wv_rng, ofF_eq, wv_zip, wv_enum, asgF_eq, wx_asg, drF_eq, wx_drop, reF_eq, wx_ret, wx_retN, wx_nop, wx_brk, wx_cont, ifF_b, wx_ite, wx_seq, wx_wh, foF_eq, wx_for, tsF_eq, wx_asgT, paF_eq, wx_par, s3F_ex, s2F_eq, s1F_eq, wx_setIx, flat, shaped_lints1, shaped_int, shaped_bool, shaped_none, shaped_nil, shaped_nilt, shaped_tints, shaped_lints, eqv_int, eqv_bool, eqv_tints, eqv_lints, eqv_lnil, eqv_tnil, any_ints, flat_ints, ex_cond, ex_cond2, ixN, atI_0, atI_1, atI_2, atI_3, wp_ok, wp_bad, wp_exc, wp_if, flK_next, flK_ret, flK_brk, flK_cont, tK_b, lpK_next, lpK_cont, lpK_brk, lpK_ret, rnK_next, rnK_ret, wp_turn, ltK_some, lt1F_eq, lt2F_eq, stAsg_val, stAsg_own, stAsg_bor, stRet_val, stRet_own, stRet_bor, exAsgT, exPar, setO, setL, setKd, setTd, mtGet, mtIndex, mtCount, mtJoin, mtSplit, mtPart, tyOkR, mtTyOk, MT.ty, mtF, viewRV, viewRVs, O.vw, boF, coF, bAdd, bSub, bMul, bDiv, bMod, bPow, bNeg, bEq, bNe, bCmp, bIn, isIn, bIs, isIs, bIx, bRev, bSl, bi, bLen, bMax, bMin, bAbs, bInt, bStr, bTuple, bList, bSorted, bAll, bAny, bSum, bDict, vInt, bIsin, vwIs, bRng1, bRng2, bRng, valArgs, setS_eq, setK_val, setK_own, setK_no, setK_lf, setK_lq, setT, setTs, recvOk, muF, muAppend, muExtend, muPop_snoc, muPop_one, muDpop, MU.isD, wp_callV, wp_callR, wp_callT, ctJ_some, ctK_val, ctK_own, valsD, clK_int, clK_bool, clK_str, clK_none, clK_tup, clK_own, clK_lst, crK_val, crK_own, RF.wp_ok, rfE_ok, rfF_eq, rfK_exc, rfK_val, rfK_own, wv_isE, bIsE, noExc_int, noExc_bool, noExc_none, noExc_str, noExc_list, noExc_tuple, noExc_k, noExc_t, O.fz, keyD, wv_chain, ch1F_eq, ch2F_eq, ch3F_eq, evSeq, rngOf, zipOf, enumOf, startE, argS, finO, stK, ownFree, wipeE, restE, sizeLine, R.bind_ok, -Prod.exists, -Bool.exists_bool, -Prod.forall, -Bool.forall_bool]
    intro h1
    obtain ⟨x, e, hx⟩ := atI_at (l := ns.map PyData.int) h (by simpa using h1)
    obtain ⟨y, _, rfl⟩ := List.mem_map.mp hx
    rw [e]
    simp [V_val, V_own, V_bor, vK_val, vK_own, vK_no, vK_none, wv_var, wv_cst, b2F_eq, b1F_eq, wv_bin, wv_cmp, wv_ix, wv_rng2, a1F_eq, wv_neg, wv_rev, wv_isin, wv_rng1, wv_ssort, andF_b, wv_and, orF_b, wv_or, notF_b, wv_not, conF_b, wv_ite, tupF_eq, wv_tup, lstF_eq, wv_lst, wv_dict, sl3F_eq, sl2F_eq, sl1F_eq, wv_sl, nF_eq, wv_bi, cF_eq, wv_call, mu2F_ex, muF1_b, wv_mu, mt2F_ex, mtF1_eq, wv_mt, c2F_eq, c1F_eq, wv_nil, wv_cons, lc2F_eq, lcF_eq, wv_lc, wv_yes, wv_cond, wv_no, wv_some, pF_int, seqF_eq, wv_seq, rngF_eq, wv_rng, ofF_eq, wv_zip, wv_enum, asgF_eq, wx_asg, drF_eq, wx_drop, reF_eq, wx_ret, wx_retN, wx_nop, wx_brk, wx_cont, ifF_b, wx_ite, wx_seq, wx_wh, foF_eq, wx_for, tsF_eq, wx_asgT, paF_eq, wx_par, s3F_ex, s2F_eq, s1F_eq, wx_setIx, flat, shaped_lints1, shaped_int, shaped_bool, shaped_none, shaped_nil, shaped_nilt, shaped_tints, shaped_lints, eqv_int, eqv_bool, eqv_tints, eqv_lints, eqv_lnil, eqv_tnil, any_ints, flat_ints, ex_cond, ex_cond2, ixN, atI_0, atI_1, atI_2, atI_3, wp_ok, wp_bad, wp_exc, wp_if, flK_next, flK_ret, flK_brk, flK_cont, tK_b, lpK_next, lpK_cont, lpK_brk, lpK_ret, rnK_next, rnK_ret, wp_turn, ltK_some, lt1F_eq, lt2F_eq, stAsg_val, stAsg_own, stAsg_bor, stRet_val, stRet_own, stRet_bor, exAsgT, exPar, setO, setL, setKd, setTd, mtGet, mtIndex, mtCount, mtJoin, mtSplit, mtPart, tyOkR, mtTyOk, MT.ty, mtF, viewRV, viewRVs, O.vw, boF, coF, bAdd, bSub, bMul, bDiv, bMod, bPow, bNeg, bEq, bNe, bCmp, bIn, isIn, bIs, isIs, bIx, bRev, bSl, bi, bLen, bMax, bMin, bAbs, bInt, bStr, bTuple, bList, bSorted, bAll, bAny, bSum, bDict, vInt, bIsin, vwIs, bRng1, bRng2, bRng, valArgs, setS_eq, setK_val, setK_own, setK_no, setK_lf, setK_lq, setT, setTs, recvOk, muF, muAppend, muExtend, muPop_snoc, muPop_one, muDpop, MU.isD, wp_callV, wp_callR, wp_callT, ctJ_some, ctK_val, ctK_own, valsD, clK_int, clK_bool, clK_str, clK_none, clK_tup, clK_own, clK_lst, crK_val, crK_own, RF.wp_ok, rfE_ok, rfF_eq, rfK_exc, rfK_val, rfK_own, wv_isE, bIsE, noExc_int, noExc_bool, noExc_none, noExc_str, noExc_list, noExc_tuple, noExc_k, noExc_t, O.fz, keyD, wv_chain, ch1F_eq, ch2F_eq, ch3F_eq, evSeq, rngOf, zipOf, enumOf, startE, argS, finO, stK, ownFree, wipeE, restE, sizeLine, R.bind_ok, -Prod.exists, -Bool.exists_bool, -Prod.forall, -Bool.forall_bool]
  obtain ⟨r, fin, e, ⟨v, rfl⟩, rfl⟩ := key.ex
  exact ⟨v, e⟩
theorem state_ok (ns : List Int) (k : Int) (h : 0 ≤ k) (hl : ns.length ≤ 63) : ∃ s : Int × Bool, f_l_state [.val (.list (ns.map .int)), .val (.int k)] = .ok (.own (stO s)) none := by
  obtain ⟨v, e⟩ := cell_at ns k h hl
  have key : (f_l_state [.val (.list (ns.map .int)), .val (.int k)]).wp fun r fin => (∃ s, r = .own (stO s)) ∧ fin = none := by
    refine wp_run ?_
    simp [c_l_state, t_l_state, V_val, V_own, V_bor, vK_val, vK_own, vK_no, vK_none, wv_var, wv_cst, b2F_eq, b1F_eq, wv_bin, wv_cmp, wv_ix, wv_rng2, a1F_eq, wv_neg, wv_rev, wv_isin, wv_rng1, wv_ssort, andF_b, wv_and, orF_b, wv_or, notF_b, wv_not, conF_b, wv_ite, tupF_eq, wv_tup, lstF_eq, wv_lst, wv_dict, sl3F_eq, sl2F_eq, sl1F_eq, wv_sl, nF_eq, wv_bi, cF_eq, wv_call, mu2F_ex, muF1_b, wv_mu, mt2F_ex, mtF1_eq, wv_mt, c2F_eq, c1F_eq, wv_nil, wv_cons, lc2F_eq, lcF_eq, wv_lc, wv_yes, wv_cond, wv_no, wv_some, pF_int, seqF_eq, wv_seq, rngF_eq, wv_rng, ofF_eq, wv_zip, wv_enum, asgF_eq, wx_asg, drF_eq, wx_drop, reF_eq, wx_ret, wx_retN, wx_nop, wx_brk, wx_cont, ifF_b, wx_ite, wx_seq, wx_wh, foF_eq, wx_for, tsF_eq, wx_asgT, paF_eq, wx_par, s3F_ex, s2F_eq, s1F_eq, wx_setIx, flat, shaped_lints1, shaped_int, shaped_bool, shaped_none, shaped_nil, shaped_nilt, shaped_tints, shaped_lints, eqv_int, eqv_bool, eqv_tints, eqv_lints, eqv_lnil, eqv_tnil, any_ints, flat_ints, ex_cond, ex_cond2, ixN, atI_0, atI_1, atI_2, atI_3, wp_ok, wp_bad, wp_exc, wp_if, flK_next, flK_ret, flK_brk, flK_cont, tK_b, lpK_next, lpK_cont, lpK_brk, lpK_ret, rnK_next, rnK_ret, wp_turn, ltK_some, lt1F_eq, lt2F_eq, stAsg_val, stAsg_own, stAsg_bor, stRet_val, stRet_own, stRet_bor, exAsgT, exPar, setO, setL, setKd, setTd, mtGet, mtIndex, mtCount, mtJoin, mtSplit, mtPart, tyOkR, mtTyOk, MT.ty, mtF, viewRV, viewRVs, O.vw, boF, coF, bAdd, bSub, bMul, bDiv, bMod, bPow, bNeg, bEq, bNe, bCmp, bIn, isIn, bIs, isIs, bIx, bRev, bSl, bi, bLen, bMax, bMin, bAbs, bInt, bStr, bTuple, bList, bSorted, bAll, bAny, bSum, bDict, vInt, bIsin, vwIs, bRng1, bRng2, bRng, valArgs, setS_eq, setK_val, setK_own, setK_no, setK_lf, setK_lq, setT, setTs, recvOk, muF, muAppend, muExtend, muPop_snoc, muPop_one, muDpop, MU.isD, wp_callV, wp_callR, wp_callT, ctJ_some, ctK_val, ctK_own, valsD, clK_int, clK_bool, clK_str, clK_none, clK_tup, clK_own, clK_lst, crK_val, crK_own, RF.wp_ok, rfE_ok, rfF_eq, rfK_exc, rfK_val, rfK_own, wv_isE, bIsE, noExc_int, noExc_bool, noExc_none, noExc_str, noExc_list, noExc_tuple, noExc_k, noExc_t, O.fz, keyD, wv_chain, ch1F_eq, ch2F_eq, ch3F_eq, evSeq, rngOf, zipOf, enumOf, startE, argS, finO, stK, ownFree, wipeE, restE, sizeLine, R.bind_ok, -Prod.exists, -Bool.exists_bool, -Prod.forall, -Bool.forall_bool, e]
    exact ⟨fun _ => ⟨(_, _), rfl⟩, fun _ => ⟨(_, _), rfl⟩⟩
  obtain ⟨r, fin, e, ⟨v, rfl⟩, rfl⟩ := key.ex
  exact ⟨v, e⟩
theorem take_ex (s : Int × Bool) (m : Int) (h0 : 0 < m) (h1 : m < 1073741824) : ∃ (v : Int) (s' : Int × Bool), f_l_take [.own (stO s), .val (.int m)] = .ok (.val (.int v)) (some (stO s')) ∧ 0 ≤ v ∧ v < m := by
  obtain ⟨a, b⟩ := s
  have key : (f_l_take [.own (stO (a, b)), .val (.int m)]).wp fun r fin => ∃ (v : Int) (s' : Int × Bool), r = .val (.int v) ∧ fin = some (stO s') ∧ 0 ≤ v ∧ v < m := by
    refine wp_run ?_
    cases b <;> simp [c_l_take, V_val, V_own, V_bor, vK_val, vK_own, vK_no, vK_none, wv_var, wv_cst, b2F_eq, b1F_eq, wv_bin, wv_cmp, wv_ix, wv_rng2, a1F_eq, wv_neg, wv_rev, wv_isin, wv_rng1, wv_ssort, andF_b, wv_and, orF_b, wv_or, notF_b, wv_not, conF_b, wv_ite, tupF_eq, wv_tup, lstF_eq, wv_lst, wv_dict, sl3F_eq, sl2F_eq, sl1F_eq, wv_sl, nF_eq, wv_bi, cF_eq, wv_call, mu2F_ex, muF1_b, wv_mu, mt2F_ex, mtF1_eq, wv_mt, c2F_eq, c1F_eq, wv_nil, wv_cons, lc2F_eq, lcF_eq, wv_lc, wv_yes, wv_cond, wv_no, wv_some, pF_int, seqF_eq, wv_seq, rngF_eq, wv_rng, ofF_eq, wv_zip, wv_enum, asgF_eq, wx_asg, drF_eq, wx_drop, reF_eq, wx_ret, wx_retN, wx_nop, wx_brk, wx_cont, ifF_b, wx_ite, wx_seq, wx_wh, foF_eq, wx_for, tsF_eq, wx_asgT, paF_eq, wx_par, s3F_ex, s2F_eq, s1F_eq, wx_setIx, flat, shaped_lints1, shaped_int, shaped_bool, shaped_none, shaped_nil, shaped_nilt, shaped_tints, shaped_lints, eqv_int, eqv_bool, eqv_tints, eqv_lints, eqv_lnil, eqv_tnil, any_ints, flat_ints, ex_cond, ex_cond2, ixN, atI_0, atI_1, atI_2, atI_3, wp_ok, wp_bad, wp_exc, wp_if, flK_next, flK_ret, flK_brk, flK_cont, tK_b, lpK_next, lpK_cont, lpK_brk, lpK_ret, rnK_next, rnK_ret, wp_turn, ltK_some, lt1F_eq, lt2F_eq, stAsg_val, stAsg_own, stAsg_bor, stRet_val, stRet_own, stRet_bor, exAsgT, exPar, setO, setL, setKd, setTd, mtGet, mtIndex, mtCount, mtJoin, mtSplit, mtPart, tyOkR, mtTyOk, MT.ty, mtF, viewRV, viewRVs, O.vw, boF, coF, bAdd, bSub, bMul, bDiv, bMod, bPow, bNeg, bEq, bNe, bCmp, bIn, isIn, bIs, isIs, bIx, bRev, bSl, bi, bLen, bMax, bMin, bAbs, bInt, bStr, bTuple, bList, bSorted, bAll, bAny, bSum, bDict, vInt, bIsin, vwIs, bRng1, bRng2, bRng, valArgs, setS_eq, setK_val, setK_own, setK_no, setK_lf, setK_lq, setT, setTs, recvOk, muF, muAppend, muExtend, muPop_snoc, muPop_one, muDpop, MU.isD, wp_callV, wp_callR, wp_callT, ctJ_some, ctK_val, ctK_own, valsD, clK_int, clK_bool, clK_str, clK_none, clK_tup, clK_own, clK_lst, crK_val, crK_own, RF.wp_ok, rfE_ok, rfF_eq, rfK_exc, rfK_val, rfK_own, wv_isE, bIsE, noExc_int, noExc_bool, noExc_none, noExc_str, noExc_list, noExc_tuple, noExc_k, noExc_t, O.fz, keyD, wv_chain, ch1F_eq, ch2F_eq, ch3F_eq, evSeq, rngOf, zipOf, enumOf, startE, argS, finO, stK, ownFree, wipeE, restE, sizeLine, R.bind_ok, -Prod.exists, -Bool.exists_bool, -Prod.forall, -Bool.forall_bool, stO]
    · exact ⟨⟨by omega, by omega⟩, ⟨by omega, by omega⟩, h0, ⟨(_, _), rfl, rfl⟩, Int.emod_nonneg _ (by omega), Int.emod_lt_of_pos _ h0⟩
    · exact ⟨h0, ⟨h0, h1⟩, ⟨(_, _), rfl, rfl⟩, Int.emod_nonneg _ (by omega), Int.emod_lt_of_pos _ h0⟩
  obtain ⟨r, fin, e, v, s', rfl, rfl, h⟩ := key.ex
  exact ⟨v, s', e, h⟩
theorem take_wp (s : Int × Bool) (m : Int) (h0 : 0 < m) (h1 : m < 1073741824) {Q : RV → Option O → Prop} (h : ∀ (v : Int) (s' : Int × Bool), 0 ≤ v → v < m → Q (.val (.int v)) (some (stO s'))) : (f_l_take [.own (stO s), .val (.int m)]).wp Q := by
  obtain ⟨v, s', e, a, b⟩ := take_ex s m h0 h1
  rw [e]
  exact h v s' a b
def Inc (row : List Int) : Prop := row.Pairwise (· < ·)
theorem inc_snoc {row : List Int} {x : Int} (h : Inc row) (hx : ∀ y ∈ row, y < x) : Inc (row ++ [x]) := by
  refine List.pairwise_append.mpr ⟨h, List.pairwise_singleton _ _, fun a ha b hb => ?_⟩
  rw [List.mem_singleton] at hb
  exact hb ▸ hx a ha
end BX.k92

set_option Elab.async false
set_option linter.all false
set_option maxRecDepth 100000
set_option maxHeartbeats 4000000
namespace BX.k92
open PySem PySem.Spec PyProof.Rows L2 RZ PureT
theorem row_ex (s : Int × Bool) (gaps : List Int) (hg : ∀ x ∈ gaps, 1 ≤ x ∧ x ≤ 12) (hn : 0 < gaps.length ∧ gaps.length < 100) : ∃ (row : List Int) (s' : Int × Bool), f_l_row [.own (stO s), .val (.list (gaps.map .int))] = .ok (.val (.tuple (row.map .int))) (some (stO s')) ∧ Inc row ∧ row.length ≤ 12 ∧ ∀ y ∈ row, -20 ≤ y ∧ y ≤ 96 := by
  have key : (f_l_row [.own (stO s), .val (.list (gaps.map .int))]).wp fun r fin => ∃ (row : List Int) (s' : Int × Bool), r = .val (.tuple (row.map .int)) ∧ fin = some (stO s') ∧ Inc row ∧ row.length ≤ 12 ∧ ∀ y ∈ row, -20 ≤ y ∧ y ≤ 96 := by
    refine wp_run ?_
    simp [c_l_row, t_l_row, V_val, V_own, V_bor, vK_val, vK_own, vK_no, vK_none, wv_var, wv_cst, b2F_eq, b1F_eq, wv_bin, wv_cmp, wv_ix, wv_rng2, a1F_eq, wv_neg, wv_rev, wv_isin, wv_rng1, wv_ssort, andF_b, wv_and, orF_b, wv_or, notF_b, wv_not, conF_b, wv_ite, tupF_eq, wv_tup, lstF_eq, wv_lst, wv_dict, sl3F_eq, sl2F_eq, sl1F_eq, wv_sl, nF_eq, wv_bi, cF_eq, wv_call, mu2F_ex, muF1_b, wv_mu, mt2F_ex, mtF1_eq, wv_mt, c2F_eq, c1F_eq, wv_nil, wv_cons, lc2F_eq, lcF_eq, wv_lc, wv_yes, wv_cond, wv_no, wv_some, pF_int, seqF_eq, wv_seq, rngF_eq, wv_rng, ofF_eq, wv_zip, wv_enum, asgF_eq, wx_asg, drF_eq, wx_drop, reF_eq, wx_ret, wx_retN, wx_nop, wx_brk, wx_cont, ifF_b, wx_ite, wx_seq, wx_wh, foF_eq, wx_for, tsF_eq, wx_asgT, paF_eq, wx_par, s3F_ex, s2F_eq, s1F_eq, wx_setIx, flat, shaped_lints1, shaped_int, shaped_bool, shaped_none, shaped_nil, shaped_nilt, shaped_tints, shaped_lints, eqv_int, eqv_bool, eqv_tints, eqv_lints, eqv_lnil, eqv_tnil, any_ints, flat_ints, ex_cond, ex_cond2, ixN, atI_0, atI_1, atI_2, atI_3, wp_ok, wp_bad, wp_exc, wp_if, flK_next, flK_ret, flK_brk, flK_cont, tK_b, lpK_next, lpK_cont, lpK_brk, lpK_ret, rnK_next, rnK_ret, wp_turn, ltK_some, lt1F_eq, lt2F_eq, stAsg_val, stAsg_own, stAsg_bor, stRet_val, stRet_own, stRet_bor, exAsgT, exPar, setO, setL, setKd, setTd, mtGet, mtIndex, mtCount, mtJoin, mtSplit, mtPart, tyOkR, mtTyOk, MT.ty, mtF, viewRV, viewRVs, O.vw, boF, coF, bAdd, bSub, bMul, bDiv, bMod, bPow, bNeg, bEq, bNe, bCmp, bIn, isIn, bIs, isIs, bIx, bRev, bSl, bi, bLen, bMax, bMin, bAbs, bInt, bStr, bTuple, bList, bSorted, bAll, bAny, bSum, bDict, vInt, bIsin, vwIs, bRng1, bRng2, bRng, valArgs, setS_eq, setK_val, setK_own, setK_no, setK_lf, setK_lq, setT, setTs, recvOk, muF, muAppend, muExtend, muPop_snoc, muPop_one, muDpop, MU.isD, wp_callV, wp_callR, wp_callT, ctJ_some, ctK_val, ctK_own, valsD, clK_int, clK_bool, clK_str, clK_none, clK_tup, clK_own, clK_lst, crK_val, crK_own, RF.wp_ok, rfE_ok, rfF_eq, rfK_exc, rfK_val, rfK_own, wv_isE, bIsE, noExc_int, noExc_bool, noExc_none, noExc_str, noExc_list, noExc_tuple, noExc_k, noExc_t, O.fz, keyD, wv_chain, ch1F_eq, ch2F_eq, ch3F_eq, evSeq, rngOf, zipOf, enumOf, startE, argS, finO, stK, ownFree, wipeE, restE, sizeLine, R.bind_ok, -Prod.exists, -Bool.exists_bool, -Prod.forall, -Bool.forall_bool]
    refine take_wp _ _ (by omega) (by omega) fun v1 s1 a1 b1 => ?_
    simp [V_val, V_own, V_bor, vK_val, vK_own, vK_no, vK_none, wv_var, wv_cst, b2F_eq, b1F_eq, wv_bin, wv_cmp, wv_ix, wv_rng2, a1F_eq, wv_neg, wv_rev, wv_isin, wv_rng1, wv_ssort, andF_b, wv_and, orF_b, wv_or, notF_b, wv_not, conF_b, wv_ite, tupF_eq, wv_tup, lstF_eq, wv_lst, wv_dict, sl3F_eq, sl2F_eq, sl1F_eq, wv_sl, nF_eq, wv_bi, cF_eq, wv_call, mu2F_ex, muF1_b, wv_mu, mt2F_ex, mtF1_eq, wv_mt, c2F_eq, c1F_eq, wv_nil, wv_cons, lc2F_eq, lcF_eq, wv_lc, wv_yes, wv_cond, wv_no, wv_some, pF_int, seqF_eq, wv_seq, rngF_eq, wv_rng, ofF_eq, wv_zip, wv_enum, asgF_eq, wx_asg, drF_eq, wx_drop, reF_eq, wx_ret, wx_retN, wx_nop, wx_brk, wx_cont, ifF_b, wx_ite, wx_seq, wx_wh, foF_eq, wx_for, tsF_eq, wx_asgT, paF_eq, wx_par, s3F_ex, s2F_eq, s1F_eq, wx_setIx, flat, shaped_lints1, shaped_int, shaped_bool, shaped_none, shaped_nil, shaped_nilt, shaped_tints, shaped_lints, eqv_int, eqv_bool, eqv_tints, eqv_lints, eqv_lnil, eqv_tnil, any_ints, flat_ints, ex_cond, ex_cond2, ixN, atI_0, atI_1, atI_2, atI_3, wp_ok, wp_bad, wp_exc, wp_if, flK_next, flK_ret, flK_brk, flK_cont, tK_b, lpK_next, lpK_cont, lpK_brk, lpK_ret, rnK_next, rnK_ret, wp_turn, ltK_some, lt1F_eq, lt2F_eq, stAsg_val, stAsg_own, stAsg_bor, stRet_val, stRet_own, stRet_bor, exAsgT, exPar, setO, setL, setKd, setTd, mtGet, mtIndex, mtCount, mtJoin, mtSplit, mtPart, tyOkR, mtTyOk, MT.ty, mtF, viewRV, viewRVs, O.vw, boF, coF, bAdd, bSub, bMul, bDiv, bMod, bPow, bNeg, bEq, bNe, bCmp, bIn, isIn, bIs, isIs, bIx, bRev, bSl, bi, bLen, bMax, bMin, bAbs, bInt, bStr, bTuple, bList, bSorted, bAll, bAny, bSum, bDict, vInt, bIsin, vwIs, bRng1, bRng2, bRng, valArgs, setS_eq, setK_val, setK_own, setK_no, setK_lf, setK_lq, setT, setTs, recvOk, muF, muAppend, muExtend, muPop_snoc, muPop_one, muDpop, MU.isD, wp_callV, wp_callR, wp_callT, ctJ_some, ctK_val, ctK_own, valsD, clK_int, clK_bool, clK_str, clK_none, clK_tup, clK_own, clK_lst, crK_val, crK_own, RF.wp_ok, rfE_ok, rfF_eq, rfK_exc, rfK_val, rfK_own, wv_isE, bIsE, noExc_int, noExc_bool, noExc_none, noExc_str, noExc_list, noExc_tuple, noExc_k, noExc_t, O.fz, keyD, wv_chain, ch1F_eq, ch2F_eq, ch3F_eq, evSeq, rngOf, zipOf, enumOf, startE, argS, finO, stK, ownFree, wipeE, restE, sizeLine, R.bind_ok, -Prod.exists, -Bool.exists_bool, -Prod.forall, -Bool.forall_bool]
    refine take_wp _ _ (by omega) (by omega) fun v2 s2 a2 b2 => ?_
    simp [V_val, V_own, V_bor, vK_val, vK_own, vK_no, vK_none, wv_var, wv_cst, b2F_eq, b1F_eq, wv_bin, wv_cmp, wv_ix, wv_rng2, a1F_eq, wv_neg, wv_rev, wv_isin, wv_rng1, wv_ssort, andF_b, wv_and, orF_b, wv_or, notF_b, wv_not, conF_b, wv_ite, tupF_eq, wv_tup, lstF_eq, wv_lst, wv_dict, sl3F_eq, sl2F_eq, sl1F_eq, wv_sl, nF_eq, wv_bi, cF_eq, wv_call, mu2F_ex, muF1_b, wv_mu, mt2F_ex, mtF1_eq, wv_mt, c2F_eq, c1F_eq, wv_nil, wv_cons, lc2F_eq, lcF_eq, wv_lc, wv_yes, wv_cond, wv_no, wv_some, pF_int, seqF_eq, wv_seq, rngF_eq, wv_rng, ofF_eq, wv_zip, wv_enum, asgF_eq, wx_asg, drF_eq, wx_drop, reF_eq, wx_ret, wx_retN, wx_nop, wx_brk, wx_cont, ifF_b, wx_ite, wx_seq, wx_wh, foF_eq, wx_for, tsF_eq, wx_asgT, paF_eq, wx_par, s3F_ex, s2F_eq, s1F_eq, wx_setIx, flat, shaped_lints1, shaped_int, shaped_bool, shaped_none, shaped_nil, shaped_nilt, shaped_tints, shaped_lints, eqv_int, eqv_bool, eqv_tints, eqv_lints, eqv_lnil, eqv_tnil, any_ints, flat_ints, ex_cond, ex_cond2, ixN, atI_0, atI_1, atI_2, atI_3, wp_ok, wp_bad, wp_exc, wp_if, flK_next, flK_ret, flK_brk, flK_cont, tK_b, lpK_next, lpK_cont, lpK_brk, lpK_ret, rnK_next, rnK_ret, wp_turn, ltK_some, lt1F_eq, lt2F_eq, stAsg_val, stAsg_own, stAsg_bor, stRet_val, stRet_own, stRet_bor, exAsgT, exPar, setO, setL, setKd, setTd, mtGet, mtIndex, mtCount, mtJoin, mtSplit, mtPart, tyOkR, mtTyOk, MT.ty, mtF, viewRV, viewRVs, O.vw, boF, coF, bAdd, bSub, bMul, bDiv, bMod, bPow, bNeg, bEq, bNe, bCmp, bIn, isIn, bIs, isIs, bIx, bRev, bSl, bi, bLen, bMax, bMin, bAbs, bInt, bStr, bTuple, bList, bSorted, bAll, bAny, bSum, bDict, vInt, bIsin, vwIs, bRng1, bRng2, bRng, valArgs, setS_eq, setK_val, setK_own, setK_no, setK_lf, setK_lq, setT, setTs, recvOk, muF, muAppend, muExtend, muPop_snoc, muPop_one, muDpop, MU.isD, wp_callV, wp_callR, wp_callT, ctJ_some, ctK_val, ctK_own, valsD, clK_int, clK_bool, clK_str, clK_none, clK_tup, clK_own, clK_lst, crK_val, crK_own, RF.wp_ok, rfE_ok, rfF_eq, rfK_exc, rfK_val, rfK_own, wv_isE, bIsE, noExc_int, noExc_bool, noExc_none, noExc_str, noExc_list, noExc_tuple, noExc_k, noExc_t, O.fz, keyD, wv_chain, ch1F_eq, ch2F_eq, ch3F_eq, evSeq, rngOf, zipOf, enumOf, startE, argS, finO, stK, ownFree, wipeE, restE, sizeLine, R.bind_ok, -Prod.exists, -Bool.exists_bool, -Prod.forall, -Bool.forall_bool]
    obtain ⟨i1, e1, m1⟩ := atI_ints [0, -7, v1 - 20] a2 (by simpa using b2)
    simp only [List.map] at e1
    rw [e1]
    have hp1 : -20 ≤ i1 ∧ i1 ≤ 20 := by simp at m1; omega
    clear e1 m1
    simp [V_val, V_own, V_bor, vK_val, vK_own, vK_no, vK_none, wv_var, wv_cst, b2F_eq, b1F_eq, wv_bin, wv_cmp, wv_ix, wv_rng2, a1F_eq, wv_neg, wv_rev, wv_isin, wv_rng1, wv_ssort, andF_b, wv_and, orF_b, wv_or, notF_b, wv_not, conF_b, wv_ite, tupF_eq, wv_tup, lstF_eq, wv_lst, wv_dict, sl3F_eq, sl2F_eq, sl1F_eq, wv_sl, nF_eq, wv_bi, cF_eq, wv_call, mu2F_ex, muF1_b, wv_mu, mt2F_ex, mtF1_eq, wv_mt, c2F_eq, c1F_eq, wv_nil, wv_cons, lc2F_eq, lcF_eq, wv_lc, wv_yes, wv_cond, wv_no, wv_some, pF_int, seqF_eq, wv_seq, rngF_eq, wv_rng, ofF_eq, wv_zip, wv_enum, asgF_eq, wx_asg, drF_eq, wx_drop, reF_eq, wx_ret, wx_retN, wx_nop, wx_brk, wx_cont, ifF_b, wx_ite, wx_seq, wx_wh, foF_eq, wx_for, tsF_eq, wx_asgT, paF_eq, wx_par, s3F_ex, s2F_eq, s1F_eq, wx_setIx, flat, shaped_lints1, shaped_int, shaped_bool, shaped_none, shaped_nil, shaped_nilt, shaped_tints, shaped_lints, eqv_int, eqv_bool, eqv_tints, eqv_lints, eqv_lnil, eqv_tnil, any_ints, flat_ints, ex_cond, ex_cond2, ixN, atI_0, atI_1, atI_2, atI_3, wp_ok, wp_bad, wp_exc, wp_if, flK_next, flK_ret, flK_brk, flK_cont, tK_b, lpK_next, lpK_cont, lpK_brk, lpK_ret, rnK_next, rnK_ret, wp_turn, ltK_some, lt1F_eq, lt2F_eq, stAsg_val, stAsg_own, stAsg_bor, stRet_val, stRet_own, stRet_bor, exAsgT, exPar, setO, setL, setKd, setTd, mtGet, mtIndex, mtCount, mtJoin, mtSplit, mtPart, tyOkR, mtTyOk, MT.ty, mtF, viewRV, viewRVs, O.vw, boF, coF, bAdd, bSub, bMul, bDiv, bMod, bPow, bNeg, bEq, bNe, bCmp, bIn, isIn, bIs, isIs, bIx, bRev, bSl, bi, bLen, bMax, bMin, bAbs, bInt, bStr, bTuple, bList, bSorted, bAll, bAny, bSum, bDict, vInt, bIsin, vwIs, bRng1, bRng2, bRng, valArgs, setS_eq, setK_val, setK_own, setK_no, setK_lf, setK_lq, setT, setTs, recvOk, muF, muAppend, muExtend, muPop_snoc, muPop_one, muDpop, MU.isD, wp_callV, wp_callR, wp_callT, ctJ_some, ctK_val, ctK_own, valsD, clK_int, clK_bool, clK_str, clK_none, clK_tup, clK_own, clK_lst, crK_val, crK_own, RF.wp_ok, rfE_ok, rfF_eq, rfK_exc, rfK_val, rfK_own, wv_isE, bIsE, noExc_int, noExc_bool, noExc_none, noExc_str, noExc_list, noExc_tuple, noExc_k, noExc_t, O.fz, keyD, wv_chain, ch1F_eq, ch2F_eq, ch3F_eq, evSeq, rngOf, zipOf, enumOf, startE, argS, finO, stK, ownFree, wipeE, restE, sizeLine, R.bind_ok, -Prod.exists, -Bool.exists_bool, -Prod.forall, -Bool.forall_bool]
    refine take_wp _ _ (by omega) (by omega) fun v3 s3 a3 b3 => ?_
    simp [V_val, V_own, V_bor, vK_val, vK_own, vK_no, vK_none, wv_var, wv_cst, b2F_eq, b1F_eq, wv_bin, wv_cmp, wv_ix, wv_rng2, a1F_eq, wv_neg, wv_rev, wv_isin, wv_rng1, wv_ssort, andF_b, wv_and, orF_b, wv_or, notF_b, wv_not, conF_b, wv_ite, tupF_eq, wv_tup, lstF_eq, wv_lst, wv_dict, sl3F_eq, sl2F_eq, sl1F_eq, wv_sl, nF_eq, wv_bi, cF_eq, wv_call, mu2F_ex, muF1_b, wv_mu, mt2F_ex, mtF1_eq, wv_mt, c2F_eq, c1F_eq, wv_nil, wv_cons, lc2F_eq, lcF_eq, wv_lc, wv_yes, wv_cond, wv_no, wv_some, pF_int, seqF_eq, wv_seq, rngF_eq, wv_rng, ofF_eq, wv_zip, wv_enum, asgF_eq, wx_asg, drF_eq, wx_drop, reF_eq, wx_ret, wx_retN, wx_nop, wx_brk, wx_cont, ifF_b, wx_ite, wx_seq, wx_wh, foF_eq, wx_for, tsF_eq, wx_asgT, paF_eq, wx_par, s3F_ex, s2F_eq, s1F_eq, wx_setIx, flat, shaped_lints1, shaped_int, shaped_bool, shaped_none, shaped_nil, shaped_nilt, shaped_tints, shaped_lints, eqv_int, eqv_bool, eqv_tints, eqv_lints, eqv_lnil, eqv_tnil, any_ints, flat_ints, ex_cond, ex_cond2, ixN, atI_0, atI_1, atI_2, atI_3, wp_ok, wp_bad, wp_exc, wp_if, flK_next, flK_ret, flK_brk, flK_cont, tK_b, lpK_next, lpK_cont, lpK_brk, lpK_ret, rnK_next, rnK_ret, wp_turn, ltK_some, lt1F_eq, lt2F_eq, stAsg_val, stAsg_own, stAsg_bor, stRet_val, stRet_own, stRet_bor, exAsgT, exPar, setO, setL, setKd, setTd, mtGet, mtIndex, mtCount, mtJoin, mtSplit, mtPart, tyOkR, mtTyOk, MT.ty, mtF, viewRV, viewRVs, O.vw, boF, coF, bAdd, bSub, bMul, bDiv, bMod, bPow, bNeg, bEq, bNe, bCmp, bIn, isIn, bIs, isIs, bIx, bRev, bSl, bi, bLen, bMax, bMin, bAbs, bInt, bStr, bTuple, bList, bSorted, bAll, bAny, bSum, bDict, vInt, bIsin, vwIs, bRng1, bRng2, bRng, valArgs, setS_eq, setK_val, setK_own, setK_no, setK_lf, setK_lq, setT, setTs, recvOk, muF, muAppend, muExtend, muPop_snoc, muPop_one, muDpop, MU.isD, wp_callV, wp_callR, wp_callT, ctJ_some, ctK_val, ctK_own, valsD, clK_int, clK_bool, clK_str, clK_none, clK_tup, clK_own, clK_lst, crK_val, crK_own, RF.wp_ok, rfE_ok, rfF_eq, rfK_exc, rfK_val, rfK_own, wv_isE, bIsE, noExc_int, noExc_bool, noExc_none, noExc_str, noExc_list, noExc_tuple, noExc_k, noExc_t, O.fz, keyD, wv_chain, ch1F_eq, ch2F_eq, ch3F_eq, evSeq, rngOf, zipOf, enumOf, startE, argS, finO, stK, ownFree, wipeE, restE, sizeLine, R.bind_ok, -Prod.exists, -Bool.exists_bool, -Prod.forall, -Bool.forall_bool, rngOk]
    refine ⟨by omega, ?_⟩
    refine wp_for (fun xs ρ => ∃ (st : Int × Bool) (row : List Int) (place : Int) (x4 x5 x6 : LQ), ρ = [some (.own .par (stO st)), some (.val (.list (gaps.map .int))), some (.own .fre (.lst (row.map .int))), some (.val (.int place)), lq x4, lq x5, lq x6] ∧ Inc row ∧ row.length ≤ 12 ∧ (∀ y ∈ row, -20 ≤ y ∧ y < place ∧ y ≤ 96) ∧ -20 ≤ place ∧ place + 18 * xs.length ≤ 110) ?_ ?_ ?_
    · refine ⟨s3, [], i1, .no, .no, .no, rfl, List.Pairwise.nil, by simp, by simp, by omega, ?_⟩
      simp [rangeL]
      omega
    · rintro x xs ρ ⟨st, row, place, x4, x5, x6, rfl, hi, hl, hy, hp, hq⟩
      simp [V_val, V_own, V_bor, vK_val, vK_own, vK_no, vK_none, wv_var, wv_cst, b2F_eq, b1F_eq, wv_bin, wv_cmp, wv_ix, wv_rng2, a1F_eq, wv_neg, wv_rev, wv_isin, wv_rng1, wv_ssort, andF_b, wv_and, orF_b, wv_or, notF_b, wv_not, conF_b, wv_ite, tupF_eq, wv_tup, lstF_eq, wv_lst, wv_dict, sl3F_eq, sl2F_eq, sl1F_eq, wv_sl, nF_eq, wv_bi, cF_eq, wv_call, mu2F_ex, muF1_b, wv_mu, mt2F_ex, mtF1_eq, wv_mt, c2F_eq, c1F_eq, wv_nil, wv_cons, lc2F_eq, lcF_eq, wv_lc, wv_yes, wv_cond, wv_no, wv_some, pF_int, seqF_eq, wv_seq, rngF_eq, wv_rng, ofF_eq, wv_zip, wv_enum, asgF_eq, wx_asg, drF_eq, wx_drop, reF_eq, wx_ret, wx_retN, wx_nop, wx_brk, wx_cont, ifF_b, wx_ite, wx_seq, wx_wh, foF_eq, wx_for, tsF_eq, wx_asgT, paF_eq, wx_par, s3F_ex, s2F_eq, s1F_eq, wx_setIx, flat, shaped_lints1, shaped_int, shaped_bool, shaped_none, shaped_nil, shaped_nilt, shaped_tints, shaped_lints, eqv_int, eqv_bool, eqv_tints, eqv_lints, eqv_lnil, eqv_tnil, any_ints, flat_ints, ex_cond, ex_cond2, ixN, atI_0, atI_1, atI_2, atI_3, wp_ok, wp_bad, wp_exc, wp_if, flK_next, flK_ret, flK_brk, flK_cont, tK_b, lpK_next, lpK_cont, lpK_brk, lpK_ret, rnK_next, rnK_ret, wp_turn, ltK_some, lt1F_eq, lt2F_eq, stAsg_val, stAsg_own, stAsg_bor, stRet_val, stRet_own, stRet_bor, exAsgT, exPar, setO, setL, setKd, setTd, mtGet, mtIndex, mtCount, mtJoin, mtSplit, mtPart, tyOkR, mtTyOk, MT.ty, mtF, viewRV, viewRVs, O.vw, boF, coF, bAdd, bSub, bMul, bDiv, bMod, bPow, bNeg, bEq, bNe, bCmp, bIn, isIn, bIs, isIs, bIx, bRev, bSl, bi, bLen, bMax, bMin, bAbs, bInt, bStr, bTuple, bList, bSorted, bAll, bAny, bSum, bDict, vInt, bIsin, vwIs, bRng1, bRng2, bRng, valArgs, setS_eq, setK_val, setK_own, setK_no, setK_lf, setK_lq, setT, setTs, recvOk, muF, muAppend, muExtend, muPop_snoc, muPop_one, muDpop, MU.isD, wp_callV, wp_callR, wp_callT, ctJ_some, ctK_val, ctK_own, valsD, clK_int, clK_bool, clK_str, clK_none, clK_tup, clK_own, clK_lst, crK_val, crK_own, RF.wp_ok, rfE_ok, rfF_eq, rfK_exc, rfK_val, rfK_own, wv_isE, bIsE, noExc_int, noExc_bool, noExc_none, noExc_str, noExc_list, noExc_tuple, noExc_k, noExc_t, O.fz, keyD, wv_chain, ch1F_eq, ch2F_eq, ch3F_eq, evSeq, rngOf, zipOf, enumOf, startE, argS, finO, stK, ownFree, wipeE, restE, sizeLine, R.bind_ok, -Prod.exists, -Bool.exists_bool, -Prod.forall, -Bool.forall_bool]
      refine take_wp _ _ (by omega) (by omega) fun v4 s4 a4 b4 => ?_
      simp [V_val, V_own, V_bor, vK_val, vK_own, vK_no, vK_none, wv_var, wv_cst, b2F_eq, b1F_eq, wv_bin, wv_cmp, wv_ix, wv_rng2, a1F_eq, wv_neg, wv_rev, wv_isin, wv_rng1, wv_ssort, andF_b, wv_and, orF_b, wv_or, notF_b, wv_not, conF_b, wv_ite, tupF_eq, wv_tup, lstF_eq, wv_lst, wv_dict, sl3F_eq, sl2F_eq, sl1F_eq, wv_sl, nF_eq, wv_bi, cF_eq, wv_call, mu2F_ex, muF1_b, wv_mu, mt2F_ex, mtF1_eq, wv_mt, c2F_eq, c1F_eq, wv_nil, wv_cons, lc2F_eq, lcF_eq, wv_lc, wv_yes, wv_cond, wv_no, wv_some, pF_int, seqF_eq, wv_seq, rngF_eq, wv_rng, ofF_eq, wv_zip, wv_enum, asgF_eq, wx_asg, drF_eq, wx_drop, reF_eq, wx_ret, wx_retN, wx_nop, wx_brk, wx_cont, ifF_b, wx_ite, wx_seq, wx_wh, foF_eq, wx_for, tsF_eq, wx_asgT, paF_eq, wx_par, s3F_ex, s2F_eq, s1F_eq, wx_setIx, flat, shaped_lints1, shaped_int, shaped_bool, shaped_none, shaped_nil, shaped_nilt, shaped_tints, shaped_lints, eqv_int, eqv_bool, eqv_tints, eqv_lints, eqv_lnil, eqv_tnil, any_ints, flat_ints, ex_cond, ex_cond2, ixN, atI_0, atI_1, atI_2, atI_3, wp_ok, wp_bad, wp_exc, wp_if, flK_next, flK_ret, flK_brk, flK_cont, tK_b, lpK_next, lpK_cont, lpK_brk, lpK_ret, rnK_next, rnK_ret, wp_turn, ltK_some, lt1F_eq, lt2F_eq, stAsg_val, stAsg_own, stAsg_bor, stRet_val, stRet_own, stRet_bor, exAsgT, exPar, setO, setL, setKd, setTd, mtGet, mtIndex, mtCount, mtJoin, mtSplit, mtPart, tyOkR, mtTyOk, MT.ty, mtF, viewRV, viewRVs, O.vw, boF, coF, bAdd, bSub, bMul, bDiv, bMod, bPow, bNeg, bEq, bNe, bCmp, bIn, isIn, bIs, isIs, bIx, bRev, bSl, bi, bLen, bMax, bMin, bAbs, bInt, bStr, bTuple, bList, bSorted, bAll, bAny, bSum, bDict, vInt, bIsin, vwIs, bRng1, bRng2, bRng, valArgs, setS_eq, setK_val, setK_own, setK_no, setK_lf, setK_lq, setT, setTs, recvOk, muF, muAppend, muExtend, muPop_snoc, muPop_one, muDpop, MU.isD, wp_callV, wp_callR, wp_callT, ctJ_some, ctK_val, ctK_own, valsD, clK_int, clK_bool, clK_str, clK_none, clK_tup, clK_own, clK_lst, crK_val, crK_own, RF.wp_ok, rfE_ok, rfF_eq, rfK_exc, rfK_val, rfK_own, wv_isE, bIsE, noExc_int, noExc_bool, noExc_none, noExc_str, noExc_list, noExc_tuple, noExc_k, noExc_t, O.fz, keyD, wv_chain, ch1F_eq, ch2F_eq, ch3F_eq, evSeq, rngOf, zipOf, enumOf, startE, argS, finO, stK, ownFree, wipeE, restE, sizeLine, R.bind_ok, -Prod.exists, -Bool.exists_bool, -Prod.forall, -Bool.forall_bool]
      obtain ⟨i2, e2, m2⟩ := atI_ints [2, 3, 5] a4 (by simpa using b4)
      simp only [List.map] at e2
      rw [e2]
      have hp2 : 2 ≤ i2 ∧ i2 ≤ 5 := by simp at m2; omega
      clear e2 m2
      simp [V_val, V_own, V_bor, vK_val, vK_own, vK_no, vK_none, wv_var, wv_cst, b2F_eq, b1F_eq, wv_bin, wv_cmp, wv_ix, wv_rng2, a1F_eq, wv_neg, wv_rev, wv_isin, wv_rng1, wv_ssort, andF_b, wv_and, orF_b, wv_or, notF_b, wv_not, conF_b, wv_ite, tupF_eq, wv_tup, lstF_eq, wv_lst, wv_dict, sl3F_eq, sl2F_eq, sl1F_eq, wv_sl, nF_eq, wv_bi, cF_eq, wv_call, mu2F_ex, muF1_b, wv_mu, mt2F_ex, mtF1_eq, wv_mt, c2F_eq, c1F_eq, wv_nil, wv_cons, lc2F_eq, lcF_eq, wv_lc, wv_yes, wv_cond, wv_no, wv_some, pF_int, seqF_eq, wv_seq, rngF_eq, wv_rng, ofF_eq, wv_zip, wv_enum, asgF_eq, wx_asg, drF_eq, wx_drop, reF_eq, wx_ret, wx_retN, wx_nop, wx_brk, wx_cont, ifF_b, wx_ite, wx_seq, wx_wh, foF_eq, wx_for, tsF_eq, wx_asgT, paF_eq, wx_par, s3F_ex, s2F_eq, s1F_eq, wx_setIx, flat, shaped_lints1, shaped_int, shaped_bool, shaped_none, shaped_nil, shaped_nilt, shaped_tints, shaped_lints, eqv_int, eqv_bool, eqv_tints, eqv_lints, eqv_lnil, eqv_tnil, any_ints, flat_ints, ex_cond, ex_cond2, ixN, atI_0, atI_1, atI_2, atI_3, wp_ok, wp_bad, wp_exc, wp_if, flK_next, flK_ret, flK_brk, flK_cont, tK_b, lpK_next, lpK_cont, lpK_brk, lpK_ret, rnK_next, rnK_ret, wp_turn, ltK_some, lt1F_eq, lt2F_eq, stAsg_val, stAsg_own, stAsg_bor, stRet_val, stRet_own, stRet_bor, exAsgT, exPar, setO, setL, setKd, setTd, mtGet, mtIndex, mtCount, mtJoin, mtSplit, mtPart, tyOkR, mtTyOk, MT.ty, mtF, viewRV, viewRVs, O.vw, boF, coF, bAdd, bSub, bMul, bDiv, bMod, bPow, bNeg, bEq, bNe, bCmp, bIn, isIn, bIs, isIs, bIx, bRev, bSl, bi, bLen, bMax, bMin, bAbs, bInt, bStr, bTuple, bList, bSorted, bAll, bAny, bSum, bDict, vInt, bIsin, vwIs, bRng1, bRng2, bRng, valArgs, setS_eq, setK_val, setK_own, setK_no, setK_lf, setK_lq, setT, setTs, recvOk, muF, muAppend, muExtend, muPop_snoc, muPop_one, muDpop, MU.isD, wp_callV, wp_callR, wp_callT, ctJ_some, ctK_val, ctK_own, valsD, clK_int, clK_bool, clK_str, clK_none, clK_tup, clK_own, clK_lst, crK_val, crK_own, RF.wp_ok, rfE_ok, rfF_eq, rfK_exc, rfK_val, rfK_own, wv_isE, bIsE, noExc_int, noExc_bool, noExc_none, noExc_str, noExc_list, noExc_tuple, noExc_k, noExc_t, O.fz, keyD, wv_chain, ch1F_eq, ch2F_eq, ch3F_eq, evSeq, rngOf, zipOf, enumOf, startE, argS, finO, stK, ownFree, wipeE, restE, sizeLine, R.bind_ok, -Prod.exists, -Bool.exists_bool, -Prod.forall, -Bool.forall_bool]
      refine take_wp _ _ (by omega) (by omega) fun v5 s5 a5 b5 => ?_
      simp [V_val, V_own, V_bor, vK_val, vK_own, vK_no, vK_none, wv_var, wv_cst, b2F_eq, b1F_eq, wv_bin, wv_cmp, wv_ix, wv_rng2, a1F_eq, wv_neg, wv_rev, wv_isin, wv_rng1, wv_ssort, andF_b, wv_and, orF_b, wv_or, notF_b, wv_not, conF_b, wv_ite, tupF_eq, wv_tup, lstF_eq, wv_lst, wv_dict, sl3F_eq, sl2F_eq, sl1F_eq, wv_sl, nF_eq, wv_bi, cF_eq, wv_call, mu2F_ex, muF1_b, wv_mu, mt2F_ex, mtF1_eq, wv_mt, c2F_eq, c1F_eq, wv_nil, wv_cons, lc2F_eq, lcF_eq, wv_lc, wv_yes, wv_cond, wv_no, wv_some, pF_int, seqF_eq, wv_seq, rngF_eq, wv_rng, ofF_eq, wv_zip, wv_enum, asgF_eq, wx_asg, drF_eq, wx_drop, reF_eq, wx_ret, wx_retN, wx_nop, wx_brk, wx_cont, ifF_b, wx_ite, wx_seq, wx_wh, foF_eq, wx_for, tsF_eq, wx_asgT, paF_eq, wx_par, s3F_ex, s2F_eq, s1F_eq, wx_setIx, flat, shaped_lints1, shaped_int, shaped_bool, shaped_none, shaped_nil, shaped_nilt, shaped_tints, shaped_lints, eqv_int, eqv_bool, eqv_tints, eqv_lints, eqv_lnil, eqv_tnil, any_ints, flat_ints, ex_cond, ex_cond2, ixN, atI_0, atI_1, atI_2, atI_3, wp_ok, wp_bad, wp_exc, wp_if, flK_next, flK_ret, flK_brk, flK_cont, tK_b, lpK_next, lpK_cont, lpK_brk, lpK_ret, rnK_next, rnK_ret, wp_turn, ltK_some, lt1F_eq, lt2F_eq, stAsg_val, stAsg_own, stAsg_bor, stRet_val, stRet_own, stRet_bor, exAsgT, exPar, setO, setL, setKd, setTd, mtGet, mtIndex, mtCount, mtJoin, mtSplit, mtPart, tyOkR, mtTyOk, MT.ty, mtF, viewRV, viewRVs, O.vw, boF, coF, bAdd, bSub, bMul, bDiv, bMod, bPow, bNeg, bEq, bNe, bCmp, bIn, isIn, bIs, isIs, bIx, bRev, bSl, bi, bLen, bMax, bMin, bAbs, bInt, bStr, bTuple, bList, bSorted, bAll, bAny, bSum, bDict, vInt, bIsin, vwIs, bRng1, bRng2, bRng, valArgs, setS_eq, setK_val, setK_own, setK_no, setK_lf, setK_lq, setT, setTs, recvOk, muF, muAppend, muExtend, muPop_snoc, muPop_one, muDpop, MU.isD, wp_callV, wp_callR, wp_callT, ctJ_some, ctK_val, ctK_own, valsD, clK_int, clK_bool, clK_str, clK_none, clK_tup, clK_own, clK_lst, crK_val, crK_own, RF.wp_ok, rfE_ok, rfF_eq, rfK_exc, rfK_val, rfK_own, wv_isE, bIsE, noExc_int, noExc_bool, noExc_none, noExc_str, noExc_list, noExc_tuple, noExc_k, noExc_t, O.fz, keyD, wv_chain, ch1F_eq, ch2F_eq, ch3F_eq, evSeq, rngOf, zipOf, enumOf, startE, argS, finO, stK, ownFree, wipeE, restE, sizeLine, R.bind_ok, -Prod.exists, -Bool.exists_bool, -Prod.forall, -Bool.forall_bool, rngOk]
      simp at hq
      refine ⟨by omega, ?_⟩
      refine wp_for (fun ys ρ => ∃ (row : List Int) (place : Int) (x6 : LQ), ρ = [some (.own .par (stO s5)), some (.val (.list (gaps.map .int))), some (.own .fre (.lst (row.map .int))), some (.val (.int place)), some (.val x), some (.val (.int (1 + v5))), lq x6] ∧ Inc row ∧ row.length ≤ 12 ∧ (∀ y ∈ row, -20 ≤ y ∧ y < place ∧ y ≤ 96) ∧ -20 ≤ place ∧ place + ys.length + 13 + 18 * xs.length ≤ 110) ?_ ?_ ?_
      · refine ⟨row, place, x6, rfl, hi, hl, hy, hp, ?_⟩
        simp [rangeL]
        omega
      · rintro y ys ρ ⟨row, place, x6, rfl, hi, hl, hy, hp, hq⟩
        simp at hq
        simp [V_val, V_own, V_bor, vK_val, vK_own, vK_no, vK_none, wv_var, wv_cst, b2F_eq, b1F_eq, wv_bin, wv_cmp, wv_ix, wv_rng2, a1F_eq, wv_neg, wv_rev, wv_isin, wv_rng1, wv_ssort, andF_b, wv_and, orF_b, wv_or, notF_b, wv_not, conF_b, wv_ite, tupF_eq, wv_tup, lstF_eq, wv_lst, wv_dict, sl3F_eq, sl2F_eq, sl1F_eq, wv_sl, nF_eq, wv_bi, cF_eq, wv_call, mu2F_ex, muF1_b, wv_mu, mt2F_ex, mtF1_eq, wv_mt, c2F_eq, c1F_eq, wv_nil, wv_cons, lc2F_eq, lcF_eq, wv_lc, wv_yes, wv_cond, wv_no, wv_some, pF_int, seqF_eq, wv_seq, rngF_eq, wv_rng, ofF_eq, wv_zip, wv_enum, asgF_eq, wx_asg, drF_eq, wx_drop, reF_eq, wx_ret, wx_retN, wx_nop, wx_brk, wx_cont, ifF_b, wx_ite, wx_seq, wx_wh, foF_eq, wx_for, tsF_eq, wx_asgT, paF_eq, wx_par, s3F_ex, s2F_eq, s1F_eq, wx_setIx, flat, shaped_lints1, shaped_int, shaped_bool, shaped_none, shaped_nil, shaped_nilt, shaped_tints, shaped_lints, eqv_int, eqv_bool, eqv_tints, eqv_lints, eqv_lnil, eqv_tnil, any_ints, flat_ints, ex_cond, ex_cond2, ixN, atI_0, atI_1, atI_2, atI_3, wp_ok, wp_bad, wp_exc, wp_if, flK_next, flK_ret, flK_brk, flK_cont, tK_b, lpK_next, lpK_cont, lpK_brk, lpK_ret, rnK_next, rnK_ret, wp_turn, ltK_some, lt1F_eq, lt2F_eq, stAsg_val, stAsg_own, stAsg_bor, stRet_val, stRet_own, stRet_bor, exAsgT, exPar, setO, setL, setKd, setTd, mtGet, mtIndex, mtCount, mtJoin, mtSplit, mtPart, tyOkR, mtTyOk, MT.ty, mtF, viewRV, viewRVs, O.vw, boF, coF, bAdd, bSub, bMul, bDiv, bMod, bPow, bNeg, bEq, bNe, bCmp, bIn, isIn, bIs, isIs, bIx, bRev, bSl, bi, bLen, bMax, bMin, bAbs, bInt, bStr, bTuple, bList, bSorted, bAll, bAny, bSum, bDict, vInt, bIsin, vwIs, bRng1, bRng2, bRng, valArgs, setS_eq, setK_val, setK_own, setK_no, setK_lf, setK_lq, setT, setTs, recvOk, muF, muAppend, muExtend, muPop_snoc, muPop_one, muDpop, MU.isD, wp_callV, wp_callR, wp_callT, ctJ_some, ctK_val, ctK_own, valsD, clK_int, clK_bool, clK_str, clK_none, clK_tup, clK_own, clK_lst, crK_val, crK_own, RF.wp_ok, rfE_ok, rfF_eq, rfK_exc, rfK_val, rfK_own, wv_isE, bIsE, noExc_int, noExc_bool, noExc_none, noExc_str, noExc_list, noExc_tuple, noExc_k, noExc_t, O.fz, keyD, wv_chain, ch1F_eq, ch2F_eq, ch3F_eq, evSeq, rngOf, zipOf, enumOf, startE, argS, finO, stK, ownFree, wipeE, restE, sizeLine, R.bind_ok, -Prod.exists, -Bool.exists_bool, -Prod.forall, -Bool.forall_bool]
        refine ⟨fun h12 => ⟨by omega, row ++ [place], place + 1, ⟨by simp, rfl, .d y, rfl⟩, inc_snoc hi fun z hz => (hy z hz).2.1, by simp; omega, fun z hz => ?_, by omega, by omega⟩, fun h12 => ⟨row, place + 1, ⟨rfl, rfl, .d y, rfl⟩, hi, hl, fun z hz => ?_, by omega, by omega⟩⟩
        · rw [List.mem_append, List.mem_singleton] at hz
          rcases hz with hz | rfl
          · have := hy z hz; omega
          · omega
        · have := hy z hz; omega
      · rintro ρ ⟨row, place, x6, rfl, hi, hl, hy, hp, hq⟩
        simp [V_val, V_own, V_bor, vK_val, vK_own, vK_no, vK_none, wv_var, wv_cst, b2F_eq, b1F_eq, wv_bin, wv_cmp, wv_ix, wv_rng2, a1F_eq, wv_neg, wv_rev, wv_isin, wv_rng1, wv_ssort, andF_b, wv_and, orF_b, wv_or, notF_b, wv_not, conF_b, wv_ite, tupF_eq, wv_tup, lstF_eq, wv_lst, wv_dict, sl3F_eq, sl2F_eq, sl1F_eq, wv_sl, nF_eq, wv_bi, cF_eq, wv_call, mu2F_ex, muF1_b, wv_mu, mt2F_ex, mtF1_eq, wv_mt, c2F_eq, c1F_eq, wv_nil, wv_cons, lc2F_eq, lcF_eq, wv_lc, wv_yes, wv_cond, wv_no, wv_some, pF_int, seqF_eq, wv_seq, rngF_eq, wv_rng, ofF_eq, wv_zip, wv_enum, asgF_eq, wx_asg, drF_eq, wx_drop, reF_eq, wx_ret, wx_retN, wx_nop, wx_brk, wx_cont, ifF_b, wx_ite, wx_seq, wx_wh, foF_eq, wx_for, tsF_eq, wx_asgT, paF_eq, wx_par, s3F_ex, s2F_eq, s1F_eq, wx_setIx, flat, shaped_lints1, shaped_int, shaped_bool, shaped_none, shaped_nil, shaped_nilt, shaped_tints, shaped_lints, eqv_int, eqv_bool, eqv_tints, eqv_lints, eqv_lnil, eqv_tnil, any_ints, flat_ints, ex_cond, ex_cond2, ixN, atI_0, atI_1, atI_2, atI_3, wp_ok, wp_bad, wp_exc, wp_if, flK_next, flK_ret, flK_brk, flK_cont, tK_b, lpK_next, lpK_cont, lpK_brk, lpK_ret, rnK_next, rnK_ret, wp_turn, ltK_some, lt1F_eq, lt2F_eq, stAsg_val, stAsg_own, stAsg_bor, stRet_val, stRet_own, stRet_bor, exAsgT, exPar, setO, setL, setKd, setTd, mtGet, mtIndex, mtCount, mtJoin, mtSplit, mtPart, tyOkR, mtTyOk, MT.ty, mtF, viewRV, viewRVs, O.vw, boF, coF, bAdd, bSub, bMul, bDiv, bMod, bPow, bNeg, bEq, bNe, bCmp, bIn, isIn, bIs, isIs, bIx, bRev, bSl, bi, bLen, bMax, bMin, bAbs, bInt, bStr, bTuple, bList, bSorted, bAll, bAny, bSum, bDict, vInt, bIsin, vwIs, bRng1, bRng2, bRng, valArgs, setS_eq, setK_val, setK_own, setK_no, setK_lf, setK_lq, setT, setTs, recvOk, muF, muAppend, muExtend, muPop_snoc, muPop_one, muDpop, MU.isD, wp_callV, wp_callR, wp_callT, ctJ_some, ctK_val, ctK_own, valsD, clK_int, clK_bool, clK_str, clK_none, clK_tup, clK_own, clK_lst, crK_val, crK_own, RF.wp_ok, rfE_ok, rfF_eq, rfK_exc, rfK_val, rfK_own, wv_isE, bIsE, noExc_int, noExc_bool, noExc_none, noExc_str, noExc_list, noExc_tuple, noExc_k, noExc_t, O.fz, keyD, wv_chain, ch1F_eq, ch2F_eq, ch3F_eq, evSeq, rngOf, zipOf, enumOf, startE, argS, finO, stK, ownFree, wipeE, restE, sizeLine, R.bind_ok, -Prod.exists, -Bool.exists_bool, -Prod.forall, -Bool.forall_bool]
        refine take_wp _ _ (by omega) (by omega) fun v6 s6 a6 b6 => ?_
        simp [V_val, V_own, V_bor, vK_val, vK_own, vK_no, vK_none, wv_var, wv_cst, b2F_eq, b1F_eq, wv_bin, wv_cmp, wv_ix, wv_rng2, a1F_eq, wv_neg, wv_rev, wv_isin, wv_rng1, wv_ssort, andF_b, wv_and, orF_b, wv_or, notF_b, wv_not, conF_b, wv_ite, tupF_eq, wv_tup, lstF_eq, wv_lst, wv_dict, sl3F_eq, sl2F_eq, sl1F_eq, wv_sl, nF_eq, wv_bi, cF_eq, wv_call, mu2F_ex, muF1_b, wv_mu, mt2F_ex, mtF1_eq, wv_mt, c2F_eq, c1F_eq, wv_nil, wv_cons, lc2F_eq, lcF_eq, wv_lc, wv_yes, wv_cond, wv_no, wv_some, pF_int, seqF_eq, wv_seq, rngF_eq, wv_rng, ofF_eq, wv_zip, wv_enum, asgF_eq, wx_asg, drF_eq, wx_drop, reF_eq, wx_ret, wx_retN, wx_nop, wx_brk, wx_cont, ifF_b, wx_ite, wx_seq, wx_wh, foF_eq, wx_for, tsF_eq, wx_asgT, paF_eq, wx_par, s3F_ex, s2F_eq, s1F_eq, wx_setIx, flat, shaped_lints1, shaped_int, shaped_bool, shaped_none, shaped_nil, shaped_nilt, shaped_tints, shaped_lints, eqv_int, eqv_bool, eqv_tints, eqv_lints, eqv_lnil, eqv_tnil, any_ints, flat_ints, ex_cond, ex_cond2, ixN, atI_0, atI_1, atI_2, atI_3, wp_ok, wp_bad, wp_exc, wp_if, flK_next, flK_ret, flK_brk, flK_cont, tK_b, lpK_next, lpK_cont, lpK_brk, lpK_ret, rnK_next, rnK_ret, wp_turn, ltK_some, lt1F_eq, lt2F_eq, stAsg_val, stAsg_own, stAsg_bor, stRet_val, stRet_own, stRet_bor, exAsgT, exPar, setO, setL, setKd, setTd, mtGet, mtIndex, mtCount, mtJoin, mtSplit, mtPart, tyOkR, mtTyOk, MT.ty, mtF, viewRV, viewRVs, O.vw, boF, coF, bAdd, bSub, bMul, bDiv, bMod, bPow, bNeg, bEq, bNe, bCmp, bIn, isIn, bIs, isIs, bIx, bRev, bSl, bi, bLen, bMax, bMin, bAbs, bInt, bStr, bTuple, bList, bSorted, bAll, bAny, bSum, bDict, vInt, bIsin, vwIs, bRng1, bRng2, bRng, valArgs, setS_eq, setK_val, setK_own, setK_no, setK_lf, setK_lq, setT, setTs, recvOk, muF, muAppend, muExtend, muPop_snoc, muPop_one, muDpop, MU.isD, wp_callV, wp_callR, wp_callT, ctJ_some, ctK_val, ctK_own, valsD, clK_int, clK_bool, clK_str, clK_none, clK_tup, clK_own, clK_lst, crK_val, crK_own, RF.wp_ok, rfE_ok, rfF_eq, rfK_exc, rfK_val, rfK_own, wv_isE, bIsE, noExc_int, noExc_bool, noExc_none, noExc_str, noExc_list, noExc_tuple, noExc_k, noExc_t, O.fz, keyD, wv_chain, ch1F_eq, ch2F_eq, ch3F_eq, evSeq, rngOf, zipOf, enumOf, startE, argS, finO, stK, ownFree, wipeE, restE, sizeLine, R.bind_ok, -Prod.exists, -Bool.exists_bool, -Prod.forall, -Bool.forall_bool]
        obtain ⟨i3, e3, m3⟩ := atI_ints gaps a6 (by simpa using b6)
        rw [e3]
        have hp3 := hg i3 m3
        clear e3 m3
        simp [V_val, V_own, V_bor, vK_val, vK_own, vK_no, vK_none, wv_var, wv_cst, b2F_eq, b1F_eq, wv_bin, wv_cmp, wv_ix, wv_rng2, a1F_eq, wv_neg, wv_rev, wv_isin, wv_rng1, wv_ssort, andF_b, wv_and, orF_b, wv_or, notF_b, wv_not, conF_b, wv_ite, tupF_eq, wv_tup, lstF_eq, wv_lst, wv_dict, sl3F_eq, sl2F_eq, sl1F_eq, wv_sl, nF_eq, wv_bi, cF_eq, wv_call, mu2F_ex, muF1_b, wv_mu, mt2F_ex, mtF1_eq, wv_mt, c2F_eq, c1F_eq, wv_nil, wv_cons, lc2F_eq, lcF_eq, wv_lc, wv_yes, wv_cond, wv_no, wv_some, pF_int, seqF_eq, wv_seq, rngF_eq, wv_rng, ofF_eq, wv_zip, wv_enum, asgF_eq, wx_asg, drF_eq, wx_drop, reF_eq, wx_ret, wx_retN, wx_nop, wx_brk, wx_cont, ifF_b, wx_ite, wx_seq, wx_wh, foF_eq, wx_for, tsF_eq, wx_asgT, paF_eq, wx_par, s3F_ex, s2F_eq, s1F_eq, wx_setIx, flat, shaped_lints1, shaped_int, shaped_bool, shaped_none, shaped_nil, shaped_nilt, shaped_tints, shaped_lints, eqv_int, eqv_bool, eqv_tints, eqv_lints, eqv_lnil, eqv_tnil, any_ints, flat_ints, ex_cond, ex_cond2, ixN, atI_0, atI_1, atI_2, atI_3, wp_ok, wp_bad, wp_exc, wp_if, flK_next, flK_ret, flK_brk, flK_cont, tK_b, lpK_next, lpK_cont, lpK_brk, lpK_ret, rnK_next, rnK_ret, wp_turn, ltK_some, lt1F_eq, lt2F_eq, stAsg_val, stAsg_own, stAsg_bor, stRet_val, stRet_own, stRet_bor, exAsgT, exPar, setO, setL, setKd, setTd, mtGet, mtIndex, mtCount, mtJoin, mtSplit, mtPart, tyOkR, mtTyOk, MT.ty, mtF, viewRV, viewRVs, O.vw, boF, coF, bAdd, bSub, bMul, bDiv, bMod, bPow, bNeg, bEq, bNe, bCmp, bIn, isIn, bIs, isIs, bIx, bRev, bSl, bi, bLen, bMax, bMin, bAbs, bInt, bStr, bTuple, bList, bSorted, bAll, bAny, bSum, bDict, vInt, bIsin, vwIs, bRng1, bRng2, bRng, valArgs, setS_eq, setK_val, setK_own, setK_no, setK_lf, setK_lq, setT, setTs, recvOk, muF, muAppend, muExtend, muPop_snoc, muPop_one, muDpop, MU.isD, wp_callV, wp_callR, wp_callT, ctJ_some, ctK_val, ctK_own, valsD, clK_int, clK_bool, clK_str, clK_none, clK_tup, clK_own, clK_lst, crK_val, crK_own, RF.wp_ok, rfE_ok, rfF_eq, rfK_exc, rfK_val, rfK_own, wv_isE, bIsE, noExc_int, noExc_bool, noExc_none, noExc_str, noExc_list, noExc_tuple, noExc_k, noExc_t, O.fz, keyD, wv_chain, ch1F_eq, ch2F_eq, ch3F_eq, evSeq, rngOf, zipOf, enumOf, startE, argS, finO, stK, ownFree, wipeE, restE, sizeLine, R.bind_ok, -Prod.exists, -Bool.exists_bool, -Prod.forall, -Bool.forall_bool]
        refine take_wp _ _ (by omega) (by omega) fun v7 s7 a7 b7 => ?_
        simp [V_val, V_own, V_bor, vK_val, vK_own, vK_no, vK_none, wv_var, wv_cst, b2F_eq, b1F_eq, wv_bin, wv_cmp, wv_ix, wv_rng2, a1F_eq, wv_neg, wv_rev, wv_isin, wv_rng1, wv_ssort, andF_b, wv_and, orF_b, wv_or, notF_b, wv_not, conF_b, wv_ite, tupF_eq, wv_tup, lstF_eq, wv_lst, wv_dict, sl3F_eq, sl2F_eq, sl1F_eq, wv_sl, nF_eq, wv_bi, cF_eq, wv_call, mu2F_ex, muF1_b, wv_mu, mt2F_ex, mtF1_eq, wv_mt, c2F_eq, c1F_eq, wv_nil, wv_cons, lc2F_eq, lcF_eq, wv_lc, wv_yes, wv_cond, wv_no, wv_some, pF_int, seqF_eq, wv_seq, rngF_eq, wv_rng, ofF_eq, wv_zip, wv_enum, asgF_eq, wx_asg, drF_eq, wx_drop, reF_eq, wx_ret, wx_retN, wx_nop, wx_brk, wx_cont, ifF_b, wx_ite, wx_seq, wx_wh, foF_eq, wx_for, tsF_eq, wx_asgT, paF_eq, wx_par, s3F_ex, s2F_eq, s1F_eq, wx_setIx, flat, shaped_lints1, shaped_int, shaped_bool, shaped_none, shaped_nil, shaped_nilt, shaped_tints, shaped_lints, eqv_int, eqv_bool, eqv_tints, eqv_lints, eqv_lnil, eqv_tnil, any_ints, flat_ints, ex_cond, ex_cond2, ixN, atI_0, atI_1, atI_2, atI_3, wp_ok, wp_bad, wp_exc, wp_if, flK_next, flK_ret, flK_brk, flK_cont, tK_b, lpK_next, lpK_cont, lpK_brk, lpK_ret, rnK_next, rnK_ret, wp_turn, ltK_some, lt1F_eq, lt2F_eq, stAsg_val, stAsg_own, stAsg_bor, stRet_val, stRet_own, stRet_bor, exAsgT, exPar, setO, setL, setKd, setTd, mtGet, mtIndex, mtCount, mtJoin, mtSplit, mtPart, tyOkR, mtTyOk, MT.ty, mtF, viewRV, viewRVs, O.vw, boF, coF, bAdd, bSub, bMul, bDiv, bMod, bPow, bNeg, bEq, bNe, bCmp, bIn, isIn, bIs, isIs, bIx, bRev, bSl, bi, bLen, bMax, bMin, bAbs, bInt, bStr, bTuple, bList, bSorted, bAll, bAny, bSum, bDict, vInt, bIsin, vwIs, bRng1, bRng2, bRng, valArgs, setS_eq, setK_val, setK_own, setK_no, setK_lf, setK_lq, setT, setTs, recvOk, muF, muAppend, muExtend, muPop_snoc, muPop_one, muDpop, MU.isD, wp_callV, wp_callR, wp_callT, ctJ_some, ctK_val, ctK_own, valsD, clK_int, clK_bool, clK_str, clK_none, clK_tup, clK_own, clK_lst, crK_val, crK_own, RF.wp_ok, rfE_ok, rfF_eq, rfK_exc, rfK_val, rfK_own, wv_isE, bIsE, noExc_int, noExc_bool, noExc_none, noExc_str, noExc_list, noExc_tuple, noExc_k, noExc_t, O.fz, keyD, wv_chain, ch1F_eq, ch2F_eq, ch3F_eq, evSeq, rngOf, zipOf, enumOf, startE, argS, finO, stK, ownFree, wipeE, restE, sizeLine, R.bind_ok, -Prod.exists, -Bool.exists_bool, -Prod.forall, -Bool.forall_bool]
        simp at hq
        refine ⟨s7, row, place + 1 + v7, ⟨rfl, rfl, rfl, ⟨.d x, rfl⟩, ⟨.d _, rfl⟩, ⟨x6, rfl⟩⟩, hi, hl, fun z hz => ?_, by omega, by omega⟩
        have := hy z hz; omega
    · rintro ρ ⟨st, row, place, x4, x5, x6, rfl, hi, hl, hy, hp, hq⟩
      simp [V_val, V_own, V_bor, vK_val, vK_own, vK_no, vK_none, wv_var, wv_cst, b2F_eq, b1F_eq, wv_bin, wv_cmp, wv_ix, wv_rng2, a1F_eq, wv_neg, wv_rev, wv_isin, wv_rng1, wv_ssort, andF_b, wv_and, orF_b, wv_or, notF_b, wv_not, conF_b, wv_ite, tupF_eq, wv_tup, lstF_eq, wv_lst, wv_dict, sl3F_eq, sl2F_eq, sl1F_eq, wv_sl, nF_eq, wv_bi, cF_eq, wv_call, mu2F_ex, muF1_b, wv_mu, mt2F_ex, mtF1_eq, wv_mt, c2F_eq, c1F_eq, wv_nil, wv_cons, lc2F_eq, lcF_eq, wv_lc, wv_yes, wv_cond, wv_no, wv_some, pF_int, seqF_eq, wv_seq, rngF_eq, wv_rng, ofF_eq, wv_zip, wv_enum, asgF_eq, wx_asg, drF_eq, wx_drop, reF_eq, wx_ret, wx_retN, wx_nop, wx_brk, wx_cont, ifF_b, wx_ite, wx_seq, wx_wh, foF_eq, wx_for, tsF_eq, wx_asgT, paF_eq, wx_par, s3F_ex, s2F_eq, s1F_eq, wx_setIx, flat, shaped_lints1, shaped_int, shaped_bool, shaped_none, shaped_nil, shaped_nilt, shaped_tints, shaped_lints, eqv_int, eqv_bool, eqv_tints, eqv_lints, eqv_lnil, eqv_tnil, any_ints, flat_ints, ex_cond, ex_cond2, ixN, atI_0, atI_1, atI_2, atI_3, wp_ok, wp_bad, wp_exc, wp_if, flK_next, flK_ret, flK_brk, flK_cont, tK_b, lpK_next, lpK_cont, lpK_brk, lpK_ret, rnK_next, rnK_ret, wp_turn, ltK_some, lt1F_eq, lt2F_eq, stAsg_val, stAsg_own, stAsg_bor, stRet_val, stRet_own, stRet_bor, exAsgT, exPar, setO, setL, setKd, setTd, mtGet, mtIndex, mtCount, mtJoin, mtSplit, mtPart, tyOkR, mtTyOk, MT.ty, mtF, viewRV, viewRVs, O.vw, boF, coF, bAdd, bSub, bMul, bDiv, bMod, bPow, bNeg, bEq, bNe, bCmp, bIn, isIn, bIs, isIs, bIx, bRev, bSl, bi, bLen, bMax, bMin, bAbs, bInt, bStr, bTuple, bList, bSorted, bAll, bAny, bSum, bDict, vInt, bIsin, vwIs, bRng1, bRng2, bRng, valArgs, setS_eq, setK_val, setK_own, setK_no, setK_lf, setK_lq, setT, setTs, recvOk, muF, muAppend, muExtend, muPop_snoc, muPop_one, muDpop, MU.isD, wp_callV, wp_callR, wp_callT, ctJ_some, ctK_val, ctK_own, valsD, clK_int, clK_bool, clK_str, clK_none, clK_tup, clK_own, clK_lst, crK_val, crK_own, RF.wp_ok, rfE_ok, rfF_eq, rfK_exc, rfK_val, rfK_own, wv_isE, bIsE, noExc_int, noExc_bool, noExc_none, noExc_str, noExc_list, noExc_tuple, noExc_k, noExc_t, O.fz, keyD, wv_chain, ch1F_eq, ch2F_eq, ch3F_eq, evSeq, rngOf, zipOf, enumOf, startE, argS, finO, stK, ownFree, wipeE, restE, sizeLine, R.bind_ok, -Prod.exists, -Bool.exists_bool, -Prod.forall, -Bool.forall_bool]
      refine ⟨row, rfl, ⟨st, rfl⟩, hi, hl, fun z hz => ?_⟩
      have := hy z hz
      simp at hq
      omega
  obtain ⟨r, fin, e, v, s', rfl, rfl, h⟩ := key.ex
  exact ⟨v, s', e, h⟩
/-! ### the same -/
theorem same_seq (n : Nat) (t : Bool) (ds : List D) (hl : ds.length ≤ 1000000) (ih : ∀ d ∈ ds, f_l_sameN n [.val d, .val d] = .ok (.val (.bool true)) none) :
    f_l_sameN (n + 1) [.val (if t then .tuple ds else .list ds), .val (if t then .tuple ds else .list ds)] = .ok (.val (.bool true)) none := by
  refine RF.wp.eq ?_
  unfold f_l_sameN
  refine wp_run ?_
  cases t <;> simp [c_l_same, t_l_same, V_val, V_own, V_bor, vK_val, vK_own, vK_no, vK_none, wv_var, wv_cst, b2F_eq, b1F_eq, wv_bin, wv_cmp, wv_ix, wv_rng2, a1F_eq, wv_neg, wv_rev, wv_isin, wv_rng1, wv_ssort, andF_b, wv_and, orF_b, wv_or, notF_b, wv_not, conF_b, wv_ite, tupF_eq, wv_tup, lstF_eq, wv_lst, wv_dict, sl3F_eq, sl2F_eq, sl1F_eq, wv_sl, nF_eq, wv_bi, cF_eq, wv_call, mu2F_ex, muF1_b, wv_mu, mt2F_ex, mtF1_eq, wv_mt, c2F_eq, c1F_eq, wv_nil, wv_cons, lc2F_eq, lcF_eq, wv_lc, wv_yes, wv_cond, wv_no, wv_some, pF_int, seqF_eq, wv_seq, rngF_eq, wv_rng, ofF_eq, wv_zip, wv_enum, asgF_eq, wx_asg, drF_eq, wx_drop, reF_eq, wx_ret, wx_retN, wx_nop, wx_brk, wx_cont, ifF_b, wx_ite, wx_seq, wx_wh, foF_eq, wx_for, tsF_eq, wx_asgT, paF_eq, wx_par, s3F_ex, s2F_eq, s1F_eq, wx_setIx, flat, shaped_lints1, shaped_int, shaped_bool, shaped_none, shaped_nil, shaped_nilt, shaped_tints, shaped_lints, eqv_int, eqv_bool, eqv_tints, eqv_lints, eqv_lnil, eqv_tnil, any_ints, flat_ints, ex_cond, ex_cond2, ixN, atI_0, atI_1, atI_2, atI_3, wp_ok, wp_bad, wp_exc, wp_if, flK_next, flK_ret, flK_brk, flK_cont, tK_b, lpK_next, lpK_cont, lpK_brk, lpK_ret, rnK_next, rnK_ret, wp_turn, ltK_some, lt1F_eq, lt2F_eq, stAsg_val, stAsg_own, stAsg_bor, stRet_val, stRet_own, stRet_bor, exAsgT, exPar, setO, setL, setKd, setTd, mtGet, mtIndex, mtCount, mtJoin, mtSplit, mtPart, tyOkR, mtTyOk, MT.ty, mtF, viewRV, viewRVs, O.vw, boF, coF, bAdd, bSub, bMul, bDiv, bMod, bPow, bNeg, bEq, bNe, bCmp, bIn, isIn, bIs, isIs, bIx, bRev, bSl, bi, bLen, bMax, bMin, bAbs, bInt, bStr, bTuple, bList, bSorted, bAll, bAny, bSum, bDict, vInt, bIsin, vwIs, bRng1, bRng2, bRng, valArgs, setS_eq, setK_val, setK_own, setK_no, setK_lf, setK_lq, setT, setTs, recvOk, muF, muAppend, muExtend, muPop_snoc, muPop_one, muDpop, MU.isD, wp_callV, wp_callR, wp_callT, ctJ_some, ctK_val, ctK_own, valsD, clK_int, clK_bool, clK_str, clK_none, clK_tup, clK_own, clK_lst, crK_val, crK_own, RF.wp_ok, rfE_ok, rfF_eq, rfK_exc, rfK_val, rfK_own, wv_isE, bIsE, noExc_int, noExc_bool, noExc_none, noExc_str, noExc_list, noExc_tuple, noExc_k, noExc_t, O.fz, keyD, wv_chain, ch1F_eq, ch2F_eq, ch3F_eq, evSeq, rngOf, zipOf, enumOf, startE, argS, finO, stK, ownFree, wipeE, restE, sizeLine, R.bind_ok, -Prod.exists, -Bool.exists_bool, -Prod.forall, -Bool.forall_bool, zipD_self]
  all_goals
    refine ⟨by omega, ?_⟩
    rw [lc_on (fun x => PyData.tuple [x, x]) (fun _ => PyData.bool true) ds fun d hd => ?_]
    · simp [V_val, V_own, V_bor, vK_val, vK_own, vK_no, vK_none, wv_var, wv_cst, b2F_eq, b1F_eq, wv_bin, wv_cmp, wv_ix, wv_rng2, a1F_eq, wv_neg, wv_rev, wv_isin, wv_rng1, wv_ssort, andF_b, wv_and, orF_b, wv_or, notF_b, wv_not, conF_b, wv_ite, tupF_eq, wv_tup, lstF_eq, wv_lst, wv_dict, sl3F_eq, sl2F_eq, sl1F_eq, wv_sl, nF_eq, wv_bi, cF_eq, wv_call, mu2F_ex, muF1_b, wv_mu, mt2F_ex, mtF1_eq, wv_mt, c2F_eq, c1F_eq, wv_nil, wv_cons, lc2F_eq, lcF_eq, wv_lc, wv_yes, wv_cond, wv_no, wv_some, pF_int, seqF_eq, wv_seq, rngF_eq, wv_rng, ofF_eq, wv_zip, wv_enum, asgF_eq, wx_asg, drF_eq, wx_drop, reF_eq, wx_ret, wx_retN, wx_nop, wx_brk, wx_cont, ifF_b, wx_ite, wx_seq, wx_wh, foF_eq, wx_for, tsF_eq, wx_asgT, paF_eq, wx_par, s3F_ex, s2F_eq, s1F_eq, wx_setIx, flat, shaped_lints1, shaped_int, shaped_bool, shaped_none, shaped_nil, shaped_nilt, shaped_tints, shaped_lints, eqv_int, eqv_bool, eqv_tints, eqv_lints, eqv_lnil, eqv_tnil, any_ints, flat_ints, ex_cond, ex_cond2, ixN, atI_0, atI_1, atI_2, atI_3, wp_ok, wp_bad, wp_exc, wp_if, flK_next, flK_ret, flK_brk, flK_cont, tK_b, lpK_next, lpK_cont, lpK_brk, lpK_ret, rnK_next, rnK_ret, wp_turn, ltK_some, lt1F_eq, lt2F_eq, stAsg_val, stAsg_own, stAsg_bor, stRet_val, stRet_own, stRet_bor, exAsgT, exPar, setO, setL, setKd, setTd, mtGet, mtIndex, mtCount, mtJoin, mtSplit, mtPart, tyOkR, mtTyOk, MT.ty, mtF, viewRV, viewRVs, O.vw, boF, coF, bAdd, bSub, bMul, bDiv, bMod, bPow, bNeg, bEq, bNe, bCmp, bIn, isIn, bIs, isIs, bIx, bRev, bSl, bi, bLen, bMax, bMin, bAbs, bInt, bStr, bTuple, bList, bSorted, bAll, bAny, bSum, bDict, vInt, bIsin, vwIs, bRng1, bRng2, bRng, valArgs, setS_eq, setK_val, setK_own, setK_no, setK_lf, setK_lq, setT, setTs, recvOk, muF, muAppend, muExtend, muPop_snoc, muPop_one, muDpop, MU.isD, wp_callV, wp_callR, wp_callT, ctJ_some, ctK_val, ctK_own, valsD, clK_int, clK_bool, clK_str, clK_none, clK_tup, clK_own, clK_lst, crK_val, crK_own, RF.wp_ok, rfE_ok, rfF_eq, rfK_exc, rfK_val, rfK_own, wv_isE, bIsE, noExc_int, noExc_bool, noExc_none, noExc_str, noExc_list, noExc_tuple, noExc_k, noExc_t, O.fz, keyD, wv_chain, ch1F_eq, ch2F_eq, ch3F_eq, evSeq, rngOf, zipOf, enumOf, startE, argS, finO, stK, ownFree, wipeE, restE, sizeLine, R.bind_ok, -Prod.exists, -Bool.exists_bool, -Prod.forall, -Bool.forall_bool, asBools_true, asBools_rep]
    · simp [V_val, V_own, V_bor, vK_val, vK_own, vK_no, vK_none, wv_var, wv_cst, b2F_eq, b1F_eq, wv_bin, wv_cmp, wv_ix, wv_rng2, a1F_eq, wv_neg, wv_rev, wv_isin, wv_rng1, wv_ssort, andF_b, wv_and, orF_b, wv_or, notF_b, wv_not, conF_b, wv_ite, tupF_eq, wv_tup, lstF_eq, wv_lst, wv_dict, sl3F_eq, sl2F_eq, sl1F_eq, wv_sl, nF_eq, wv_bi, cF_eq, wv_call, mu2F_ex, muF1_b, wv_mu, mt2F_ex, mtF1_eq, wv_mt, c2F_eq, c1F_eq, wv_nil, wv_cons, lc2F_eq, lcF_eq, wv_lc, wv_yes, wv_cond, wv_no, wv_some, pF_int, seqF_eq, wv_seq, rngF_eq, wv_rng, ofF_eq, wv_zip, wv_enum, asgF_eq, wx_asg, drF_eq, wx_drop, reF_eq, wx_ret, wx_retN, wx_nop, wx_brk, wx_cont, ifF_b, wx_ite, wx_seq, wx_wh, foF_eq, wx_for, tsF_eq, wx_asgT, paF_eq, wx_par, s3F_ex, s2F_eq, s1F_eq, wx_setIx, flat, shaped_lints1, shaped_int, shaped_bool, shaped_none, shaped_nil, shaped_nilt, shaped_tints, shaped_lints, eqv_int, eqv_bool, eqv_tints, eqv_lints, eqv_lnil, eqv_tnil, any_ints, flat_ints, ex_cond, ex_cond2, ixN, atI_0, atI_1, atI_2, atI_3, wp_ok, wp_bad, wp_exc, wp_if, flK_next, flK_ret, flK_brk, flK_cont, tK_b, lpK_next, lpK_cont, lpK_brk, lpK_ret, rnK_next, rnK_ret, wp_turn, ltK_some, lt1F_eq, lt2F_eq, stAsg_val, stAsg_own, stAsg_bor, stRet_val, stRet_own, stRet_bor, exAsgT, exPar, setO, setL, setKd, setTd, mtGet, mtIndex, mtCount, mtJoin, mtSplit, mtPart, tyOkR, mtTyOk, MT.ty, mtF, viewRV, viewRVs, O.vw, boF, coF, bAdd, bSub, bMul, bDiv, bMod, bPow, bNeg, bEq, bNe, bCmp, bIn, isIn, bIs, isIs, bIx, bRev, bSl, bi, bLen, bMax, bMin, bAbs, bInt, bStr, bTuple, bList, bSorted, bAll, bAny, bSum, bDict, vInt, bIsin, vwIs, bRng1, bRng2, bRng, valArgs, setS_eq, setK_val, setK_own, setK_no, setK_lf, setK_lq, setT, setTs, recvOk, muF, muAppend, muExtend, muPop_snoc, muPop_one, muDpop, MU.isD, wp_callV, wp_callR, wp_callT, ctJ_some, ctK_val, ctK_own, valsD, clK_int, clK_bool, clK_str, clK_none, clK_tup, clK_own, clK_lst, crK_val, crK_own, RF.wp_ok, rfE_ok, rfF_eq, rfK_exc, rfK_val, rfK_own, wv_isE, bIsE, noExc_int, noExc_bool, noExc_none, noExc_str, noExc_list, noExc_tuple, noExc_k, noExc_t, O.fz, keyD, wv_chain, ch1F_eq, ch2F_eq, ch3F_eq, evSeq, rngOf, zipOf, enumOf, startE, argS, finO, stK, ownFree, wipeE, restE, sizeLine, R.bind_ok, -Prod.exists, -Bool.exists_bool, -Prod.forall, -Bool.forall_bool, ih d hd]
theorem same_scal (n : Nat) (d : D) (h : Sh 0 d) (hd : flat d = true) : f_l_sameN (n + 1) [.val d, .val d] = .ok (.val (.bool true)) none := by
  have h1 := h.shaped (by omega)
  have h2 := eqv_self h
  refine RF.wp.eq ?_
  unfold f_l_sameN
  refine wp_run ?_
  cases d <;> simp [flat] at hd <;> simp [c_l_same, t_l_same, V_val, V_own, V_bor, vK_val, vK_own, vK_no, vK_none, wv_var, wv_cst, b2F_eq, b1F_eq, wv_bin, wv_cmp, wv_ix, wv_rng2, a1F_eq, wv_neg, wv_rev, wv_isin, wv_rng1, wv_ssort, andF_b, wv_and, orF_b, wv_or, notF_b, wv_not, conF_b, wv_ite, tupF_eq, wv_tup, lstF_eq, wv_lst, wv_dict, sl3F_eq, sl2F_eq, sl1F_eq, wv_sl, nF_eq, wv_bi, cF_eq, wv_call, mu2F_ex, muF1_b, wv_mu, mt2F_ex, mtF1_eq, wv_mt, c2F_eq, c1F_eq, wv_nil, wv_cons, lc2F_eq, lcF_eq, wv_lc, wv_yes, wv_cond, wv_no, wv_some, pF_int, seqF_eq, wv_seq, rngF_eq, wv_rng, ofF_eq, wv_zip, wv_enum, asgF_eq, wx_asg, drF_eq, wx_drop, reF_eq, wx_ret, wx_retN, wx_nop, wx_brk, wx_cont, ifF_b, wx_ite, wx_seq, wx_wh, foF_eq, wx_for, tsF_eq, wx_asgT, paF_eq, wx_par, s3F_ex, s2F_eq, s1F_eq, wx_setIx, flat, shaped_lints1, shaped_int, shaped_bool, shaped_none, shaped_nil, shaped_nilt, shaped_tints, shaped_lints, eqv_int, eqv_bool, eqv_tints, eqv_lints, eqv_lnil, eqv_tnil, any_ints, flat_ints, ex_cond, ex_cond2, ixN, atI_0, atI_1, atI_2, atI_3, wp_ok, wp_bad, wp_exc, wp_if, flK_next, flK_ret, flK_brk, flK_cont, tK_b, lpK_next, lpK_cont, lpK_brk, lpK_ret, rnK_next, rnK_ret, wp_turn, ltK_some, lt1F_eq, lt2F_eq, stAsg_val, stAsg_own, stAsg_bor, stRet_val, stRet_own, stRet_bor, exAsgT, exPar, setO, setL, setKd, setTd, mtGet, mtIndex, mtCount, mtJoin, mtSplit, mtPart, tyOkR, mtTyOk, MT.ty, mtF, viewRV, viewRVs, O.vw, boF, coF, bAdd, bSub, bMul, bDiv, bMod, bPow, bNeg, bEq, bNe, bCmp, bIn, isIn, bIs, isIs, bIx, bRev, bSl, bi, bLen, bMax, bMin, bAbs, bInt, bStr, bTuple, bList, bSorted, bAll, bAny, bSum, bDict, vInt, bIsin, vwIs, bRng1, bRng2, bRng, valArgs, setS_eq, setK_val, setK_own, setK_no, setK_lf, setK_lq, setT, setTs, recvOk, muF, muAppend, muExtend, muPop_snoc, muPop_one, muDpop, MU.isD, wp_callV, wp_callR, wp_callT, ctJ_some, ctK_val, ctK_own, valsD, clK_int, clK_bool, clK_str, clK_none, clK_tup, clK_own, clK_lst, crK_val, crK_own, RF.wp_ok, rfE_ok, rfF_eq, rfK_exc, rfK_val, rfK_own, wv_isE, bIsE, noExc_int, noExc_bool, noExc_none, noExc_str, noExc_list, noExc_tuple, noExc_k, noExc_t, O.fz, keyD, wv_chain, ch1F_eq, ch2F_eq, ch3F_eq, evSeq, rngOf, zipOf, enumOf, startE, argS, finO, stK, ownFree, wipeE, restE, sizeLine, R.bind_ok, -Prod.exists, -Bool.exists_bool, -Prod.forall, -Bool.forall_bool, h1, h2]
/-- how long the parts are -/
def Sm : Nat → D → Prop
  | 0, d => flat d = true ∧ Sh 0 d
  | n + 1, .list ds => ds.length ≤ 1000000 ∧ ∀ d ∈ ds, Sm n d
  | n + 1, .tuple ds => ds.length ≤ 1000000 ∧ ∀ d ∈ ds, Sm n d
  | n + 1, d => flat d = true ∧ Sh 0 d
theorem same_ok : ∀ (n : Nat) (d : D), Sm n d → f_l_sameN (n + 1) [.val d, .val d] = .ok (.val (.bool true)) none
  | 0, d, h => same_scal 0 d h.2 h.1
  | n + 1, .list ds, h => same_seq (n + 1) false ds h.1 fun d hd => same_ok n d (h.2 d hd)
  | n + 1, .tuple ds, h => same_seq (n + 1) true ds h.1 fun d hd => same_ok n d (h.2 d hd)
  | n + 1, .none, h => same_scal (n + 1) _ .none h.1
  | n + 1, .bool _, h => same_scal (n + 1) _ .bool h.1
  | n + 1, .int _, h => same_scal (n + 1) _ .int h.1
  | n + 1, .str _, h => same_scal (n + 1) _ h.2 h.1
  | n + 1, .dict _, h => by cases h.1
/-! ### the refusals' numbers -/
theorem refd_none : f_l_refused [.val .none] = .ok (.val .none) none := by rfl
theorem refd0 : f_l_refused [.val (excD "NoNumber")] = .ok (.val (.int 0)) none := by rfl
theorem refd1 : f_l_refused [.val (excD "NotFree")] = .ok (.val (.int 1)) none := by rfl
theorem refd2 : f_l_refused [.val (excD "TooLong")] = .ok (.val (.int 2)) none := by rfl
theorem refd3 : f_l_refused [.val (excD "NoRow")] = .ok (.val (.int 3)) none := by rfl
theorem refd4 : f_l_refused [.val (excD "BadNote")] = .ok (.val (.int 4)) none := by rfl
end BX.k92

set_option Elab.async false
set_option linter.all false
set_option maxRecDepth 100000
set_option maxHeartbeats 4000000
namespace BX.k92
open PySem PySem.Spec PyProof.Rows L2 RZ PureT
/-! ### whole numbers between two -/
def btw (d : D) (a b : Int) : Bool := match d with
  | .int i => decide (a ≤ i ∧ i ≤ b)
  | _ => false
theorem is_whole_ok (d : D) (h : noExc (.d d) = true) : f_is_whole [.val d] = .ok (.val (.bool (match d with | .int _ => true | _ => false))) none := by
  refine RF.wp.eq (wp_run ?_)
  cases d <;> simp [c_is_whole, t_is_whole, V_val, V_own, V_bor, vK_val, vK_own, vK_no, vK_none, wv_var, wv_cst, b2F_eq, b1F_eq, wv_bin, wv_cmp, wv_ix, wv_rng2, a1F_eq, wv_neg, wv_rev, wv_isin, wv_rng1, wv_ssort, andF_b, wv_and, orF_b, wv_or, notF_b, wv_not, conF_b, wv_ite, tupF_eq, wv_tup, lstF_eq, wv_lst, wv_dict, sl3F_eq, sl2F_eq, sl1F_eq, wv_sl, nF_eq, wv_bi, cF_eq, wv_call, mu2F_ex, muF1_b, wv_mu, mt2F_ex, mtF1_eq, wv_mt, c2F_eq, c1F_eq, wv_nil, wv_cons, lc2F_eq, lcF_eq, wv_lc, wv_yes, wv_cond, wv_no, wv_some, pF_int, seqF_eq, wv_seq, rngF_eq, wv_rng, ofF_eq, wv_zip, wv_enum, asgF_eq, wx_asg, drF_eq, wx_drop, reF_eq, wx_ret, wx_retN, wx_nop, wx_brk, wx_cont, ifF_b, wx_ite, wx_seq, wx_wh, foF_eq, wx_for, tsF_eq, wx_asgT, paF_eq, wx_par, s3F_ex, s2F_eq, s1F_eq, wx_setIx, flat, shaped_lints1, shaped_int, shaped_bool, shaped_none, shaped_nil, shaped_nilt, shaped_tints, shaped_lints, eqv_int, eqv_bool, eqv_tints, eqv_lints, eqv_lnil, eqv_tnil, any_ints, flat_ints, ex_cond, ex_cond2, ixN, atI_0, atI_1, atI_2, atI_3, wp_ok, wp_bad, wp_exc, wp_if, flK_next, flK_ret, flK_brk, flK_cont, tK_b, lpK_next, lpK_cont, lpK_brk, lpK_ret, rnK_next, rnK_ret, wp_turn, ltK_some, lt1F_eq, lt2F_eq, stAsg_val, stAsg_own, stAsg_bor, stRet_val, stRet_own, stRet_bor, exAsgT, exPar, setO, setL, setKd, setTd, mtGet, mtIndex, mtCount, mtJoin, mtSplit, mtPart, tyOkR, mtTyOk, MT.ty, mtF, viewRV, viewRVs, O.vw, boF, coF, bAdd, bSub, bMul, bDiv, bMod, bPow, bNeg, bEq, bNe, bCmp, bIn, isIn, bIs, isIs, bIx, bRev, bSl, bi, bLen, bMax, bMin, bAbs, bInt, bStr, bTuple, bList, bSorted, bAll, bAny, bSum, bDict, vInt, bIsin, vwIs, bRng1, bRng2, bRng, valArgs, setS_eq, setK_val, setK_own, setK_no, setK_lf, setK_lq, setT, setTs, recvOk, muF, muAppend, muExtend, muPop_snoc, muPop_one, muDpop, MU.isD, wp_callV, wp_callR, wp_callT, ctJ_some, ctK_val, ctK_own, valsD, clK_int, clK_bool, clK_str, clK_none, clK_tup, clK_own, clK_lst, crK_val, crK_own, RF.wp_ok, rfE_ok, rfF_eq, rfK_exc, rfK_val, rfK_own, wv_isE, bIsE, noExc_int, noExc_bool, noExc_none, noExc_str, noExc_list, noExc_tuple, noExc_k, noExc_t, O.fz, keyD, wv_chain, ch1F_eq, ch2F_eq, ch3F_eq, evSeq, rngOf, zipOf, enumOf, startE, argS, finO, stK, ownFree, wipeE, restE, sizeLine, R.bind_ok, -Prod.exists, -Bool.exists_bool, -Prod.forall, -Bool.forall_bool]
  all_goals (simp [h, vwIs])
theorem between_ok (d : D) (a b : Int) (h : noExc (.d d) = true) : f_is_between [.val d, .val (.int a), .val (.int b)] = .ok (.val (.bool (btw d a b))) none := by
  refine RF.wp.eq (wp_run ?_)
  cases d <;> simp [c_is_between, t_is_between, V_val, V_own, V_bor, vK_val, vK_own, vK_no, vK_none, wv_var, wv_cst, b2F_eq, b1F_eq, wv_bin, wv_cmp, wv_ix, wv_rng2, a1F_eq, wv_neg, wv_rev, wv_isin, wv_rng1, wv_ssort, andF_b, wv_and, orF_b, wv_or, notF_b, wv_not, conF_b, wv_ite, tupF_eq, wv_tup, lstF_eq, wv_lst, wv_dict, sl3F_eq, sl2F_eq, sl1F_eq, wv_sl, nF_eq, wv_bi, cF_eq, wv_call, mu2F_ex, muF1_b, wv_mu, mt2F_ex, mtF1_eq, wv_mt, c2F_eq, c1F_eq, wv_nil, wv_cons, lc2F_eq, lcF_eq, wv_lc, wv_yes, wv_cond, wv_no, wv_some, pF_int, seqF_eq, wv_seq, rngF_eq, wv_rng, ofF_eq, wv_zip, wv_enum, asgF_eq, wx_asg, drF_eq, wx_drop, reF_eq, wx_ret, wx_retN, wx_nop, wx_brk, wx_cont, ifF_b, wx_ite, wx_seq, wx_wh, foF_eq, wx_for, tsF_eq, wx_asgT, paF_eq, wx_par, s3F_ex, s2F_eq, s1F_eq, wx_setIx, flat, shaped_lints1, shaped_int, shaped_bool, shaped_none, shaped_nil, shaped_nilt, shaped_tints, shaped_lints, eqv_int, eqv_bool, eqv_tints, eqv_lints, eqv_lnil, eqv_tnil, any_ints, flat_ints, ex_cond, ex_cond2, ixN, atI_0, atI_1, atI_2, atI_3, wp_ok, wp_bad, wp_exc, wp_if, flK_next, flK_ret, flK_brk, flK_cont, tK_b, lpK_next, lpK_cont, lpK_brk, lpK_ret, rnK_next, rnK_ret, wp_turn, ltK_some, lt1F_eq, lt2F_eq, stAsg_val, stAsg_own, stAsg_bor, stRet_val, stRet_own, stRet_bor, exAsgT, exPar, setO, setL, setKd, setTd, mtGet, mtIndex, mtCount, mtJoin, mtSplit, mtPart, tyOkR, mtTyOk, MT.ty, mtF, viewRV, viewRVs, O.vw, boF, coF, bAdd, bSub, bMul, bDiv, bMod, bPow, bNeg, bEq, bNe, bCmp, bIn, isIn, bIs, isIs, bIx, bRev, bSl, bi, bLen, bMax, bMin, bAbs, bInt, bStr, bTuple, bList, bSorted, bAll, bAny, bSum, bDict, vInt, bIsin, vwIs, bRng1, bRng2, bRng, valArgs, setS_eq, setK_val, setK_own, setK_no, setK_lf, setK_lq, setT, setTs, recvOk, muF, muAppend, muExtend, muPop_snoc, muPop_one, muDpop, MU.isD, wp_callV, wp_callR, wp_callT, ctJ_some, ctK_val, ctK_own, valsD, clK_int, clK_bool, clK_str, clK_none, clK_tup, clK_own, clK_lst, crK_val, crK_own, RF.wp_ok, rfE_ok, rfF_eq, rfK_exc, rfK_val, rfK_own, wv_isE, bIsE, noExc_int, noExc_bool, noExc_none, noExc_str, noExc_list, noExc_tuple, noExc_k, noExc_t, O.fz, keyD, wv_chain, ch1F_eq, ch2F_eq, ch3F_eq, evSeq, rngOf, zipOf, enumOf, startE, argS, finO, stK, ownFree, wipeE, restE, sizeLine, R.bind_ok, -Prod.exists, -Bool.exists_bool, -Prod.forall, -Bool.forall_bool, is_whole_ok _ h, btw]
  omega
theorem between_int (i a b : Int) : f_is_between [.val (.int i), .val (.int a), .val (.int b)] = .ok (.val (.bool (decide (a ≤ i ∧ i ≤ b)))) none := between_ok (.int i) a b rfl
/-! ### rows looked at -/
def intsOf (ds : List D) : List Int := ds.map fun d => match d with | .int i => i | _ => 0
def zi : List Int → Bool
  | [] => true
  | [_] => true
  | a :: b :: r => decide (a < b) && zi (b :: r)
def allB (ds : List D) : Bool := ds.all fun d => btw d (-1000000000) 1000000000
theorem ints_of : ∀ {ds : List D}, allB ds = true → ds = (intsOf ds).map .int
  | [], _ => rfl
  | d :: ds, h => by
    unfold allB at h
    rw [List.all_cons, Bool.and_eq_true] at h
    cases d with
    | int i => rw [show intsOf (.int i :: ds) = i :: intsOf ds from rfl, List.map_cons, ← ints_of h.2]
    | _ => simp [btw] at h
theorem zi_zip : ∀ (r : List Int), ((r.zip r.tail).all fun p => decide (p.1 < p.2)) = zi r
  | [] => rfl
  | [_] => rfl
  | a :: b :: r => by
    have ih := zi_zip (b :: r)
    show (decide (a < b) && (((b :: r).zip (b :: r).tail).all fun p => decide (p.1 < p.2))) = _
    rw [ih]
    rfl
def rowB (d : D) : Bool := match d with
  | .tuple ds => decide (ds.length ≤ 12) && (allB ds && zi (intsOf ds))
  | _ => false
/-- a thing that is looked at -/
structure Th (d : D) : Prop where
  ne : noExc (.d d) = true
  tup : ∀ ds, d = .tuple ds → ds.length ≤ 1000 ∧ ∀ x ∈ ds, noExc (.d x) = true
theorem asBools_f {ι : Type} (l : List ι) (f : ι → Bool) : asBools (l.map fun x => PyData.bool (f x)) = some (l.map f) := by
  have := asBools_map (l.map f)
  rw [List.map_map] at this
  exact this
theorem zipD_ints : ∀ (a b : List Int), zipD (a.map .int) (b.map .int) = (a.zip b).map fun p => PyData.tuple [.int p.1, .int p.2]
  | [], b => rfl
  | a :: as, [] => rfl
  | a :: as, b :: bs => by
    show PyData.tuple [.int a, .int b] :: zipD (as.map .int) (bs.map .int) = _
    rw [zipD_ints as bs]
    rfl
theorem rowB_t (ds : List D) : rowB (.tuple ds) = (decide (ds.length ≤ 12) && (allB ds && zi (intsOf ds))) := rfl
theorem intsOf_map : ∀ row : List Int, intsOf (row.map .int) = row
  | [] => rfl
  | a :: r => by
    show a :: intsOf (r.map .int) = _
    rw [intsOf_map r]
theorem is_row_ok (d : D) (h : Th d) : f_is_row [.val d] = .ok (.val (.bool (rowB d))) none := by
  refine RF.wp.eq (wp_run ?_)
  cases d with
  | tuple ds =>
    have ht := h.tup ds rfl
    simp [c_is_row, t_is_row, V_val, V_own, V_bor, vK_val, vK_own, vK_no, vK_none, wv_var, wv_cst, b2F_eq, b1F_eq, wv_bin, wv_cmp, wv_ix, wv_rng2, a1F_eq, wv_neg, wv_rev, wv_isin, wv_rng1, wv_ssort, andF_b, wv_and, orF_b, wv_or, notF_b, wv_not, conF_b, wv_ite, tupF_eq, wv_tup, lstF_eq, wv_lst, wv_dict, sl3F_eq, sl2F_eq, sl1F_eq, wv_sl, nF_eq, wv_bi, cF_eq, wv_call, mu2F_ex, muF1_b, wv_mu, mt2F_ex, mtF1_eq, wv_mt, c2F_eq, c1F_eq, wv_nil, wv_cons, lc2F_eq, lcF_eq, wv_lc, wv_yes, wv_cond, wv_no, wv_some, pF_int, seqF_eq, wv_seq, rngF_eq, wv_rng, ofF_eq, wv_zip, wv_enum, asgF_eq, wx_asg, drF_eq, wx_drop, reF_eq, wx_ret, wx_retN, wx_nop, wx_brk, wx_cont, ifF_b, wx_ite, wx_seq, wx_wh, foF_eq, wx_for, tsF_eq, wx_asgT, paF_eq, wx_par, s3F_ex, s2F_eq, s1F_eq, wx_setIx, flat, shaped_lints1, shaped_int, shaped_bool, shaped_none, shaped_nil, shaped_nilt, shaped_tints, shaped_lints, eqv_int, eqv_bool, eqv_tints, eqv_lints, eqv_lnil, eqv_tnil, any_ints, flat_ints, ex_cond, ex_cond2, ixN, atI_0, atI_1, atI_2, atI_3, wp_ok, wp_bad, wp_exc, wp_if, flK_next, flK_ret, flK_brk, flK_cont, tK_b, lpK_next, lpK_cont, lpK_brk, lpK_ret, rnK_next, rnK_ret, wp_turn, ltK_some, lt1F_eq, lt2F_eq, stAsg_val, stAsg_own, stAsg_bor, stRet_val, stRet_own, stRet_bor, exAsgT, exPar, setO, setL, setKd, setTd, mtGet, mtIndex, mtCount, mtJoin, mtSplit, mtPart, tyOkR, mtTyOk, MT.ty, mtF, viewRV, viewRVs, O.vw, boF, coF, bAdd, bSub, bMul, bDiv, bMod, bPow, bNeg, bEq, bNe, bCmp, bIn, isIn, bIs, isIs, bIx, bRev, bSl, bi, bLen, bMax, bMin, bAbs, bInt, bStr, bTuple, bList, bSorted, bAll, bAny, bSum, bDict, vInt, bIsin, vwIs, bRng1, bRng2, bRng, valArgs, setS_eq, setK_val, setK_own, setK_no, setK_lf, setK_lq, setT, setTs, recvOk, muF, muAppend, muExtend, muPop_snoc, muPop_one, muDpop, MU.isD, wp_callV, wp_callR, wp_callT, ctJ_some, ctK_val, ctK_own, valsD, clK_int, clK_bool, clK_str, clK_none, clK_tup, clK_own, clK_lst, crK_val, crK_own, RF.wp_ok, rfE_ok, rfF_eq, rfK_exc, rfK_val, rfK_own, wv_isE, bIsE, noExc_int, noExc_bool, noExc_none, noExc_str, noExc_list, noExc_tuple, noExc_k, noExc_t, O.fz, keyD, wv_chain, ch1F_eq, ch2F_eq, ch3F_eq, evSeq, rngOf, zipOf, enumOf, startE, argS, finO, stK, ownFree, wipeE, restE, sizeLine, R.bind_ok, -Prod.exists, -Bool.exists_bool, -Prod.forall, -Bool.forall_bool]
    refine ⟨fun hl => by rw [rowB_t, decide_eq_false (by omega)]; rfl, fun hl => ⟨by omega, ?_⟩⟩
    rw [lc_onD (fun d => PyData.bool (btw d (-1000000000) 1000000000)) ds fun x hx => by simp [V_val, V_own, V_bor, vK_val, vK_own, vK_no, vK_none, wv_var, wv_cst, b2F_eq, b1F_eq, wv_bin, wv_cmp, wv_ix, wv_rng2, a1F_eq, wv_neg, wv_rev, wv_isin, wv_rng1, wv_ssort, andF_b, wv_and, orF_b, wv_or, notF_b, wv_not, conF_b, wv_ite, tupF_eq, wv_tup, lstF_eq, wv_lst, wv_dict, sl3F_eq, sl2F_eq, sl1F_eq, wv_sl, nF_eq, wv_bi, cF_eq, wv_call, mu2F_ex, muF1_b, wv_mu, mt2F_ex, mtF1_eq, wv_mt, c2F_eq, c1F_eq, wv_nil, wv_cons, lc2F_eq, lcF_eq, wv_lc, wv_yes, wv_cond, wv_no, wv_some, pF_int, seqF_eq, wv_seq, rngF_eq, wv_rng, ofF_eq, wv_zip, wv_enum, asgF_eq, wx_asg, drF_eq, wx_drop, reF_eq, wx_ret, wx_retN, wx_nop, wx_brk, wx_cont, ifF_b, wx_ite, wx_seq, wx_wh, foF_eq, wx_for, tsF_eq, wx_asgT, paF_eq, wx_par, s3F_ex, s2F_eq, s1F_eq, wx_setIx, flat, shaped_lints1, shaped_int, shaped_bool, shaped_none, shaped_nil, shaped_nilt, shaped_tints, shaped_lints, eqv_int, eqv_bool, eqv_tints, eqv_lints, eqv_lnil, eqv_tnil, any_ints, flat_ints, ex_cond, ex_cond2, ixN, atI_0, atI_1, atI_2, atI_3, wp_ok, wp_bad, wp_exc, wp_if, flK_next, flK_ret, flK_brk, flK_cont, tK_b, lpK_next, lpK_cont, lpK_brk, lpK_ret, rnK_next, rnK_ret, wp_turn, ltK_some, lt1F_eq, lt2F_eq, stAsg_val, stAsg_own, stAsg_bor, stRet_val, stRet_own, stRet_bor, exAsgT, exPar, setO, setL, setKd, setTd, mtGet, mtIndex, mtCount, mtJoin, mtSplit, mtPart, tyOkR, mtTyOk, MT.ty, mtF, viewRV, viewRVs, O.vw, boF, coF, bAdd, bSub, bMul, bDiv, bMod, bPow, bNeg, bEq, bNe, bCmp, bIn, isIn, bIs, isIs, bIx, bRev, bSl, bi, bLen, bMax, bMin, bAbs, bInt, bStr, bTuple, bList, bSorted, bAll, bAny, bSum, bDict, vInt, bIsin, vwIs, bRng1, bRng2, bRng, valArgs, setS_eq, setK_val, setK_own, setK_no, setK_lf, setK_lq, setT, setTs, recvOk, muF, muAppend, muExtend, muPop_snoc, muPop_one, muDpop, MU.isD, wp_callV, wp_callR, wp_callT, ctJ_some, ctK_val, ctK_own, valsD, clK_int, clK_bool, clK_str, clK_none, clK_tup, clK_own, clK_lst, crK_val, crK_own, RF.wp_ok, rfE_ok, rfF_eq, rfK_exc, rfK_val, rfK_own, wv_isE, bIsE, noExc_int, noExc_bool, noExc_none, noExc_str, noExc_list, noExc_tuple, noExc_k, noExc_t, O.fz, keyD, wv_chain, ch1F_eq, ch2F_eq, ch3F_eq, evSeq, rngOf, zipOf, enumOf, startE, argS, finO, stK, ownFree, wipeE, restE, sizeLine, R.bind_ok, -Prod.exists, -Bool.exists_bool, -Prod.forall, -Bool.forall_bool, between_ok x _ _ (ht.2 x hx)]]
    simp [V_val, V_own, V_bor, vK_val, vK_own, vK_no, vK_none, wv_var, wv_cst, b2F_eq, b1F_eq, wv_bin, wv_cmp, wv_ix, wv_rng2, a1F_eq, wv_neg, wv_rev, wv_isin, wv_rng1, wv_ssort, andF_b, wv_and, orF_b, wv_or, notF_b, wv_not, conF_b, wv_ite, tupF_eq, wv_tup, lstF_eq, wv_lst, wv_dict, sl3F_eq, sl2F_eq, sl1F_eq, wv_sl, nF_eq, wv_bi, cF_eq, wv_call, mu2F_ex, muF1_b, wv_mu, mt2F_ex, mtF1_eq, wv_mt, c2F_eq, c1F_eq, wv_nil, wv_cons, lc2F_eq, lcF_eq, wv_lc, wv_yes, wv_cond, wv_no, wv_some, pF_int, seqF_eq, wv_seq, rngF_eq, wv_rng, ofF_eq, wv_zip, wv_enum, asgF_eq, wx_asg, drF_eq, wx_drop, reF_eq, wx_ret, wx_retN, wx_nop, wx_brk, wx_cont, ifF_b, wx_ite, wx_seq, wx_wh, foF_eq, wx_for, tsF_eq, wx_asgT, paF_eq, wx_par, s3F_ex, s2F_eq, s1F_eq, wx_setIx, flat, shaped_lints1, shaped_int, shaped_bool, shaped_none, shaped_nil, shaped_nilt, shaped_tints, shaped_lints, eqv_int, eqv_bool, eqv_tints, eqv_lints, eqv_lnil, eqv_tnil, any_ints, flat_ints, ex_cond, ex_cond2, ixN, atI_0, atI_1, atI_2, atI_3, wp_ok, wp_bad, wp_exc, wp_if, flK_next, flK_ret, flK_brk, flK_cont, tK_b, lpK_next, lpK_cont, lpK_brk, lpK_ret, rnK_next, rnK_ret, wp_turn, ltK_some, lt1F_eq, lt2F_eq, stAsg_val, stAsg_own, stAsg_bor, stRet_val, stRet_own, stRet_bor, exAsgT, exPar, setO, setL, setKd, setTd, mtGet, mtIndex, mtCount, mtJoin, mtSplit, mtPart, tyOkR, mtTyOk, MT.ty, mtF, viewRV, viewRVs, O.vw, boF, coF, bAdd, bSub, bMul, bDiv, bMod, bPow, bNeg, bEq, bNe, bCmp, bIn, isIn, bIs, isIs, bIx, bRev, bSl, bi, bLen, bMax, bMin, bAbs, bInt, bStr, bTuple, bList, bSorted, bAll, bAny, bSum, bDict, vInt, bIsin, vwIs, bRng1, bRng2, bRng, valArgs, setS_eq, setK_val, setK_own, setK_no, setK_lf, setK_lq, setT, setTs, recvOk, muF, muAppend, muExtend, muPop_snoc, muPop_one, muDpop, MU.isD, wp_callV, wp_callR, wp_callT, ctJ_some, ctK_val, ctK_own, valsD, clK_int, clK_bool, clK_str, clK_none, clK_tup, clK_own, clK_lst, crK_val, crK_own, RF.wp_ok, rfE_ok, rfF_eq, rfK_exc, rfK_val, rfK_own, wv_isE, bIsE, noExc_int, noExc_bool, noExc_none, noExc_str, noExc_list, noExc_tuple, noExc_k, noExc_t, O.fz, keyD, wv_chain, ch1F_eq, ch2F_eq, ch3F_eq, evSeq, rngOf, zipOf, enumOf, startE, argS, finO, stK, ownFree, wipeE, restE, sizeLine, R.bind_ok, -Prod.exists, -Bool.exists_bool, -Prod.forall, -Bool.forall_bool, asBools_f]
    refine ⟨fun x hx hb => ?_, fun ha => ?_⟩
    · have e : allB ds = false := by
        cases h0 : allB ds with
        | false => rfl
        | true =>
          have := List.all_eq_true.mp h0 x hx
          rw [hb] at this
          cases this
      rw [rowB_t, e, Bool.false_and, Bool.and_false]
    · have ea : allB ds = true := List.all_eq_true.mpr ha
      have ed := ints_of ea
      rw [rowB_t, ea, decide_eq_true (by omega)]
      obtain ⟨row, er⟩ : ∃ r, r = intsOf ds := ⟨_, rfl⟩
      rw [← er] at ed
      subst ed
      rw [intsOf_map]
      have hz : (row.zip row.tail).length ≤ 12 := by
        rw [List.length_zip]
        simp at hl
        omega
      rw [cutD_drop (by omega), show (row.map PyData.int).drop (1 : Int).toNat = row.tail.map .int by cases row <;> rfl, zipD_ints, lc_on (fun p : Int × Int => PyData.tuple [.int p.1, .int p.2]) (fun p => PyData.bool (decide (p.1 < p.2))) (row.zip row.tail) fun p hp => by simp [V_val, V_own, V_bor, vK_val, vK_own, vK_no, vK_none, wv_var, wv_cst, b2F_eq, b1F_eq, wv_bin, wv_cmp, wv_ix, wv_rng2, a1F_eq, wv_neg, wv_rev, wv_isin, wv_rng1, wv_ssort, andF_b, wv_and, orF_b, wv_or, notF_b, wv_not, conF_b, wv_ite, tupF_eq, wv_tup, lstF_eq, wv_lst, wv_dict, sl3F_eq, sl2F_eq, sl1F_eq, wv_sl, nF_eq, wv_bi, cF_eq, wv_call, mu2F_ex, muF1_b, wv_mu, mt2F_ex, mtF1_eq, wv_mt, c2F_eq, c1F_eq, wv_nil, wv_cons, lc2F_eq, lcF_eq, wv_lc, wv_yes, wv_cond, wv_no, wv_some, pF_int, seqF_eq, wv_seq, rngF_eq, wv_rng, ofF_eq, wv_zip, wv_enum, asgF_eq, wx_asg, drF_eq, wx_drop, reF_eq, wx_ret, wx_retN, wx_nop, wx_brk, wx_cont, ifF_b, wx_ite, wx_seq, wx_wh, foF_eq, wx_for, tsF_eq, wx_asgT, paF_eq, wx_par, s3F_ex, s2F_eq, s1F_eq, wx_setIx, flat, shaped_lints1, shaped_int, shaped_bool, shaped_none, shaped_nil, shaped_nilt, shaped_tints, shaped_lints, eqv_int, eqv_bool, eqv_tints, eqv_lints, eqv_lnil, eqv_tnil, any_ints, flat_ints, ex_cond, ex_cond2, ixN, atI_0, atI_1, atI_2, atI_3, wp_ok, wp_bad, wp_exc, wp_if, flK_next, flK_ret, flK_brk, flK_cont, tK_b, lpK_next, lpK_cont, lpK_brk, lpK_ret, rnK_next, rnK_ret, wp_turn, ltK_some, lt1F_eq, lt2F_eq, stAsg_val, stAsg_own, stAsg_bor, stRet_val, stRet_own, stRet_bor, exAsgT, exPar, setO, setL, setKd, setTd, mtGet, mtIndex, mtCount, mtJoin, mtSplit, mtPart, tyOkR, mtTyOk, MT.ty, mtF, viewRV, viewRVs, O.vw, boF, coF, bAdd, bSub, bMul, bDiv, bMod, bPow, bNeg, bEq, bNe, bCmp, bIn, isIn, bIs, isIs, bIx, bRev, bSl, bi, bLen, bMax, bMin, bAbs, bInt, bStr, bTuple, bList, bSorted, bAll, bAny, bSum, bDict, vInt, bIsin, vwIs, bRng1, bRng2, bRng, valArgs, setS_eq, setK_val, setK_own, setK_no, setK_lf, setK_lq, setT, setTs, recvOk, muF, muAppend, muExtend, muPop_snoc, muPop_one, muDpop, MU.isD, wp_callV, wp_callR, wp_callT, ctJ_some, ctK_val, ctK_own, valsD, clK_int, clK_bool, clK_str, clK_none, clK_tup, clK_own, clK_lst, crK_val, crK_own, RF.wp_ok, rfE_ok, rfF_eq, rfK_exc, rfK_val, rfK_own, wv_isE, bIsE, noExc_int, noExc_bool, noExc_none, noExc_str, noExc_list, noExc_tuple, noExc_k, noExc_t, O.fz, keyD, wv_chain, ch1F_eq, ch2F_eq, ch3F_eq, evSeq, rngOf, zipOf, enumOf, startE, argS, finO, stK, ownFree, wipeE, restE, sizeLine, R.bind_ok, -Prod.exists, -Bool.exists_bool, -Prod.forall, -Bool.forall_bool]]
      rw [List.length_map]
      refine ⟨by omega, ?_⟩
      have hzz := zi_zip row
      simp [V_val, V_own, V_bor, vK_val, vK_own, vK_no, vK_none, wv_var, wv_cst, b2F_eq, b1F_eq, wv_bin, wv_cmp, wv_ix, wv_rng2, a1F_eq, wv_neg, wv_rev, wv_isin, wv_rng1, wv_ssort, andF_b, wv_and, orF_b, wv_or, notF_b, wv_not, conF_b, wv_ite, tupF_eq, wv_tup, lstF_eq, wv_lst, wv_dict, sl3F_eq, sl2F_eq, sl1F_eq, wv_sl, nF_eq, wv_bi, cF_eq, wv_call, mu2F_ex, muF1_b, wv_mu, mt2F_ex, mtF1_eq, wv_mt, c2F_eq, c1F_eq, wv_nil, wv_cons, lc2F_eq, lcF_eq, wv_lc, wv_yes, wv_cond, wv_no, wv_some, pF_int, seqF_eq, wv_seq, rngF_eq, wv_rng, ofF_eq, wv_zip, wv_enum, asgF_eq, wx_asg, drF_eq, wx_drop, reF_eq, wx_ret, wx_retN, wx_nop, wx_brk, wx_cont, ifF_b, wx_ite, wx_seq, wx_wh, foF_eq, wx_for, tsF_eq, wx_asgT, paF_eq, wx_par, s3F_ex, s2F_eq, s1F_eq, wx_setIx, flat, shaped_lints1, shaped_int, shaped_bool, shaped_none, shaped_nil, shaped_nilt, shaped_tints, shaped_lints, eqv_int, eqv_bool, eqv_tints, eqv_lints, eqv_lnil, eqv_tnil, any_ints, flat_ints, ex_cond, ex_cond2, ixN, atI_0, atI_1, atI_2, atI_3, wp_ok, wp_bad, wp_exc, wp_if, flK_next, flK_ret, flK_brk, flK_cont, tK_b, lpK_next, lpK_cont, lpK_brk, lpK_ret, rnK_next, rnK_ret, wp_turn, ltK_some, lt1F_eq, lt2F_eq, stAsg_val, stAsg_own, stAsg_bor, stRet_val, stRet_own, stRet_bor, exAsgT, exPar, setO, setL, setKd, setTd, mtGet, mtIndex, mtCount, mtJoin, mtSplit, mtPart, tyOkR, mtTyOk, MT.ty, mtF, viewRV, viewRVs, O.vw, boF, coF, bAdd, bSub, bMul, bDiv, bMod, bPow, bNeg, bEq, bNe, bCmp, bIn, isIn, bIs, isIs, bIx, bRev, bSl, bi, bLen, bMax, bMin, bAbs, bInt, bStr, bTuple, bList, bSorted, bAll, bAny, bSum, bDict, vInt, bIsin, vwIs, bRng1, bRng2, bRng, valArgs, setS_eq, setK_val, setK_own, setK_no, setK_lf, setK_lq, setT, setTs, recvOk, muF, muAppend, muExtend, muPop_snoc, muPop_one, muDpop, MU.isD, wp_callV, wp_callR, wp_callT, ctJ_some, ctK_val, ctK_own, valsD, clK_int, clK_bool, clK_str, clK_none, clK_tup, clK_own, clK_lst, crK_val, crK_own, RF.wp_ok, rfE_ok, rfF_eq, rfK_exc, rfK_val, rfK_own, wv_isE, bIsE, noExc_int, noExc_bool, noExc_none, noExc_str, noExc_list, noExc_tuple, noExc_k, noExc_t, O.fz, keyD, wv_chain, ch1F_eq, ch2F_eq, ch3F_eq, evSeq, rngOf, zipOf, enumOf, startE, argS, finO, stK, ownFree, wipeE, restE, sizeLine, R.bind_ok, -Prod.exists, -Bool.exists_bool, -Prod.forall, -Bool.forall_bool, asBools_f]
      rw [← hzz]
  | _ => simp [c_is_row, t_is_row, V_val, V_own, V_bor, vK_val, vK_own, vK_no, vK_none, wv_var, wv_cst, b2F_eq, b1F_eq, wv_bin, wv_cmp, wv_ix, wv_rng2, a1F_eq, wv_neg, wv_rev, wv_isin, wv_rng1, wv_ssort, andF_b, wv_and, orF_b, wv_or, notF_b, wv_not, conF_b, wv_ite, tupF_eq, wv_tup, lstF_eq, wv_lst, wv_dict, sl3F_eq, sl2F_eq, sl1F_eq, wv_sl, nF_eq, wv_bi, cF_eq, wv_call, mu2F_ex, muF1_b, wv_mu, mt2F_ex, mtF1_eq, wv_mt, c2F_eq, c1F_eq, wv_nil, wv_cons, lc2F_eq, lcF_eq, wv_lc, wv_yes, wv_cond, wv_no, wv_some, pF_int, seqF_eq, wv_seq, rngF_eq, wv_rng, ofF_eq, wv_zip, wv_enum, asgF_eq, wx_asg, drF_eq, wx_drop, reF_eq, wx_ret, wx_retN, wx_nop, wx_brk, wx_cont, ifF_b, wx_ite, wx_seq, wx_wh, foF_eq, wx_for, tsF_eq, wx_asgT, paF_eq, wx_par, s3F_ex, s2F_eq, s1F_eq, wx_setIx, flat, shaped_lints1, shaped_int, shaped_bool, shaped_none, shaped_nil, shaped_nilt, shaped_tints, shaped_lints, eqv_int, eqv_bool, eqv_tints, eqv_lints, eqv_lnil, eqv_tnil, any_ints, flat_ints, ex_cond, ex_cond2, ixN, atI_0, atI_1, atI_2, atI_3, wp_ok, wp_bad, wp_exc, wp_if, flK_next, flK_ret, flK_brk, flK_cont, tK_b, lpK_next, lpK_cont, lpK_brk, lpK_ret, rnK_next, rnK_ret, wp_turn, ltK_some, lt1F_eq, lt2F_eq, stAsg_val, stAsg_own, stAsg_bor, stRet_val, stRet_own, stRet_bor, exAsgT, exPar, setO, setL, setKd, setTd, mtGet, mtIndex, mtCount, mtJoin, mtSplit, mtPart, tyOkR, mtTyOk, MT.ty, mtF, viewRV, viewRVs, O.vw, boF, coF, bAdd, bSub, bMul, bDiv, bMod, bPow, bNeg, bEq, bNe, bCmp, bIn, isIn, bIs, isIs, bIx, bRev, bSl, bi, bLen, bMax, bMin, bAbs, bInt, bStr, bTuple, bList, bSorted, bAll, bAny, bSum, bDict, vInt, bIsin, vwIs, bRng1, bRng2, bRng, valArgs, setS_eq, setK_val, setK_own, setK_no, setK_lf, setK_lq, setT, setTs, recvOk, muF, muAppend, muExtend, muPop_snoc, muPop_one, muDpop, MU.isD, wp_callV, wp_callR, wp_callT, ctJ_some, ctK_val, ctK_own, valsD, clK_int, clK_bool, clK_str, clK_none, clK_tup, clK_own, clK_lst, crK_val, crK_own, RF.wp_ok, rfE_ok, rfF_eq, rfK_exc, rfK_val, rfK_own, wv_isE, bIsE, noExc_int, noExc_bool, noExc_none, noExc_str, noExc_list, noExc_tuple, noExc_k, noExc_t, O.fz, keyD, wv_chain, ch1F_eq, ch2F_eq, ch3F_eq, evSeq, rngOf, zipOf, enumOf, startE, argS, finO, stK, ownFree, wipeE, restE, sizeLine, R.bind_ok, -Prod.exists, -Bool.exists_bool, -Prod.forall, -Bool.forall_bool, rowB, h.ne]
/-! ### texts as lists of signs -/
abbrev S (l : List Nat) : Str := SX.S l
theorem S_list (l : List Nat) : (S l).cps.toList = l := by simp [SX.S]
theorem S_len (l : List Nat) : (S l).length = l.length := SX.S_len l
theorem S_cat (a b : List Nat) : S a ++ S b = S (a ++ b) := SX.S_cat a b
theorem S_beq (a b : List Nat) : (S a == S b) = decide (a = b) := SX.S_beq_eq
theorem S_inj {a b : List Nat} (h : S a = S b) : a = b := SX.S_inj h
theorem S_eq (a b : List Nat) : (S a = S b) = (a = b) := propext ⟨S_inj, fun h => h ▸ rfl⟩
theorem signs_S (l : List Nat) : signs (S l) = l.map fun c => PyData.str (S [c]) := by
  unfold signs
  rw [S_list]
theorem li_none : ("none" : Str) = S [110, 111, 110, 101] := by rfl
theorem li_nil : ("" : Str) = S [] := by rfl
theorem li_o : ("o" : Str) = S [111] := by rfl
theorem li_dot : ("." : Str) = S [46] := by rfl
theorem li_col : (":" : Str) = S [58] := by rfl
theorem li_min : ("-" : Str) = S [45] := by rfl
theorem li_od : ("o." : Str) = S [111, 46] := by rfl
theorem li_fig : ("0123456789" : Str) = S [48, 49, 50, 51, 52, 53, 54, 55, 56, 57] := by rfl
theorem eqv_str (a b : Str) : PyData.eqv (.str a) (.str b) = (a == b) := rfl
def okL (l : List Nat) : Bool := l.all fun c => decide (c < 1114112)
theorem okL_nil : okL [] = true := rfl
theorem okL_cons (c : Nat) (l : List Nat) : okL (c :: l) = (decide (c < 1114112) && okL l) := rfl
theorem okL_app (a b : List Nat) : okL (a ++ b) = (okL a && okL b) := by
  unfold okL
  rw [List.all_append]
theorem okL_of {l : List Nat} (h : ∀ c ∈ l, c < 128) : okL l = true := List.all_eq_true.mpr fun c hc => decide_eq_true (by have := h c hc; omega)
theorem okL_sub {a l : List Nat} (h : okL l = true) (hs : ∀ c ∈ a, c ∈ l) : okL a = true := List.all_eq_true.mpr fun c hc => List.all_eq_true.mp h c (hs c hc)
theorem okL_drop {l : List Nat} (h : okL l = true) (n : Nat) : okL (l.drop n) = true := okL_sub h fun c hc => List.mem_of_mem_drop hc
theorem okL_take {l : List Nat} (h : okL l = true) (n : Nat) : okL (l.take n) = true := okL_sub h fun c hc => List.mem_of_mem_take hc
theorem shaped_S (l : List Nat) : SeqAt.shaped (.str (S l)) = okL l := by
  have e : (PyData.str (S l)).canLay0 = okL l := by
    show PyData.strOk (S l) = _
    unfold PyData.strOk okL
    rw [← Array.all_toList]
  have e2 : (PyData.str (S l)).depth = 0 := by simp [PyData.depth]
  unfold SeqAt.shaped
  rw [e, e2]
  simp
theorem cut_from1 (a : List Nat) : L2.cutS (S a) (some 1) none = S (a.drop 1) := by
  unfold L2.cutS
  rw [S_list, S_len]
  cases a with
  | nil => rfl
  | cons c r =>
    have e1 : HT.sIx (c :: r).length 0 (some 1) = 1 := by simp [HT.sIx]
    have e2 : HT.sIx (c :: r).length (c :: r).length none = (c :: r).length := rfl
    rw [e1, e2]
    rw [List.take_of_length_le (by simp)]
theorem cut_to1 (a : List Nat) : L2.cutS (S a) none (some 1) = S (a.take 1) := by
  unfold L2.cutS
  rw [S_list, S_len]
  cases a with
  | nil => rfl
  | cons c r =>
    have e1 : HT.sIx (c :: r).length (c :: r).length (some 1) = 1 := by simp [HT.sIx]
    have e2 : HT.sIx (c :: r).length 0 none = 0 := rfl
    rw [e1, e2]
    rfl
/-- the signs of a whole number -/
def itx (n : Int) : List Nat := (Str.ofString (toString n)).cps.toList
theorem itx_S (n : Int) : Str.ofString (toString n) = S (itx n) := (SX.S_tl _).symm
theorem itx_R (n : Int) : Str.ofString n.repr = S (itx n) := itx_S n
theorem itx_nat (n : Nat) : itx (n : Int) = TL.numL n := TL.tl_num n
theorem itx_neg (n : Nat) : itx (-((n + 1 : Nat) : Int)) = 45 :: TL.numL (n + 1) := by
  have h : (toString (-((n + 1 : Nat) : Int)) : String) = "-" ++ toString (((n + 1 : Nat) : Int)) := by rfl
  have e := TL.tl_num (n + 1)
  have e2 : (Str.ofString (toString (((n + 1 : Nat) : Int)))).cps.toList = TL.numL (n + 1) := e
  unfold itx
  rw [h]
  rw [Str.ofString_eq_toList] at e2 ⊢
  rw [String.toList_append, List.map_append]
  show [45] ++ _ = _
  have e3 : List.map Char.toNat (toString (((n + 1 : Nat) : Int))).toList = TL.numL (n + 1) := by simpa using e2
  rw [e3]
  rfl
theorem itx_lt (n : Int) : ∀ c ∈ itx n, c < 128 := fun c hc => by
  have key : c = 45 ∨ (48 ≤ c ∧ c ≤ 57) := by
    rcases Int.lt_or_le n 0 with hn | hn
    · obtain ⟨m, rfl⟩ : ∃ m : Nat, n = -((m + 1 : Nat) : Int) := ⟨(-n).toNat - 1, by omega⟩
      rw [itx_neg] at hc
      rcases List.mem_cons.mp hc with h | h
      · exact .inl h
      · exact .inr (TL.numL_digits _ c h)
    · obtain ⟨m, rfl⟩ : ∃ m : Nat, n = (m : Int) := ⟨n.toNat, by omega⟩
      rw [itx_nat] at hc
      exact .inr (TL.numL_digits _ c hc)
  omega
/-! ### a number in a word -/
def dig (c : Nat) : Bool := decide (48 ≤ c ∧ c ≤ 57)
def figs (w : List Nat) : List Nat := if w.take 1 = [45] then w.drop 1 else w
def numV (w : List Nat) : Int := if w.take 1 = [45] then -((NumText.digitsVal (w.drop 1) : Nat) : Int) else ((NumText.digitsVal w : Nat) : Int)
def numB (w : List Nat) : Bool := decide (1 ≤ (figs w).length ∧ (figs w).length ≤ 30) && (figs w).all dig
def numI (w : List Nat) : Option Int := if numB w = true ∧ itx (numV w) = w then some (numV w) else none
theorem digv_lt : ∀ (ds : List Nat) (a : Nat), NumText.AllDigits ds → ds.foldl (fun acc c => acc * 10 + (c - 48)) a < (a + 1) * 10 ^ ds.length
  | [], a, _ => by simp
  | c :: r, a, h => by
    have h1 := h.head
    have ih := digv_lt r (a * 10 + (c - 48)) h.tail
    rw [List.foldl_cons, List.length_cons, Nat.pow_succ]
    refine Nat.lt_of_lt_of_le ih ?_
    rw [Nat.mul_comm (10 ^ r.length) 10, ← Nat.mul_assoc]
    exact Nat.mul_le_mul_right _ (by omega)
theorem digv_lt0 {ds : List Nat} (h : NumText.AllDigits ds) (hl : ds.length ≤ 30) : NumText.digitsVal ds < 10 ^ 30 := by
  have := digv_lt ds 0 h
  unfold NumText.digitsVal
  refine Nat.lt_of_lt_of_le this ?_
  rw [Nat.zero_add, Nat.one_mul]
  exact Nat.pow_le_pow_right (by decide) hl
theorem all_dig {ds : List Nat} (h : ds.all dig = true) : NumText.AllDigits ds := fun c hc => by
  have := List.all_eq_true.mp h c hc
  unfold dig at this
  exact of_decide_eq_true this
theorem num_int {w : List Nat} (h : numB w = true) (hl : w.length ≤ 31) : intText? (S w) = some (numV w) ∧ (numV w).natAbs.log2 < 1920 := by
  unfold numB at h
  rw [Bool.and_eq_true, decide_eq_true_eq] at h
  obtain ⟨⟨h1, h2⟩, h3⟩ := h
  have hd := all_dig h3
  have hb := digv_lt0 hd h2
  have lg : ∀ n : Nat, n < 10 ^ 30 → n.log2 < 1920 := fun n hn => by
    rcases Nat.eq_zero_or_pos n with rfl | hp
    · decide
    · refine (Nat.log2_lt (by omega)).mpr (Nat.lt_of_lt_of_le hn ?_)
      decide
  unfold figs at h1 h2 h3 hd hb
  by_cases c : w.take 1 = [45]
  · rw [if_pos c] at h1 h2 h3 hd hb
    have ew : w = 45 :: w.drop 1 := by
      cases w with
      | nil => simp at c
      | cons x r => simp at c; simp [c]
    unfold numV
    rw [if_pos c]
    refine ⟨intText_neg (by rw [S_list]; exact ew) hd (by intro e; rw [e] at h1; simp at h1) (by rw [S_len]; omega), ?_⟩
    rw [Int.natAbs_neg, Int.natAbs_natCast]
    exact lg _ hb
  · rw [if_neg c] at h1 h2 h3 hd hb
    unfold numV
    rw [if_neg c]
    have e := intText_digits (x := S w) (by rw [S_list]; exact hd) (by rw [S_list]; intro e; rw [e] at h1; simp at h1) (by rw [S_len]; omega)
    rw [S_list] at e
    exact ⟨e, lg _ hb⟩
theorem figs_or (c : Nat) : (decide (c = 48) || (decide (c = 49) || (decide (c = 50) || (decide (c = 51) || (decide (c = 52) || (decide (c = 53) || (decide (c = 54) || (decide (c = 55) || (decide (c = 56) || decide (c = 57)))))))))) = dig c := by
  unfold dig
  rw [Bool.eq_iff_iff]
  simp only [Bool.or_eq_true, decide_eq_true_eq]
  omega
theorem number_aux (w fs : List Nat) (hw : okL w = true) (hl : w.length ≤ 500) (hf : okL fs = true) (hlf : fs.length ≤ 500) (b : Bool) (ht : L2.cutS (S w) none (some 1) = S (w.take 1)) (hb : decide (w.take 1 = [45]) = b) (hfs : (if b then L2.cutS (S w) (some 1) none else S w) = S fs) (hB : numB w = (decide (1 ≤ fs.length ∧ fs.length ≤ 30) && fs.all dig)) (hw31 : fs.length ≤ 30 → w.length ≤ 31) : f_number_in [.val (.str (S w))] = .ok (.val (match numI w with | some n => .int n | none => .none)) none := by
  have o2 := okL_take hw 1
  have n0 : numB w = false → numI w = none := fun e => by unfold numI; rw [e]; simp
  refine RF.wp.eq (wp_run ?_)
  have key : ∀ ρ2 : Env, ρ2 = [some (.val (.str (S w))), some (.val (.str (S fs))), none] → (exec t_number_in wfN (match c_number_in with | .seq _ r => r | _ => .nop) ρ2).wp (rnK [Arg.val (PyData.str (S w))] fun r' fin' => r' = RV.val (match numI w with | some n => .int n | none => .none) ∧ fin' = none) := by
    rintro ρ2 rfl
    simp [c_number_in, t_number_in, V_val, V_own, V_bor, vK_val, vK_own, vK_no, vK_none, wv_var, wv_cst, b2F_eq, b1F_eq, wv_bin, wv_cmp, wv_ix, wv_rng2, a1F_eq, wv_neg, wv_rev, wv_isin, wv_rng1, wv_ssort, andF_b, wv_and, orF_b, wv_or, notF_b, wv_not, conF_b, wv_ite, tupF_eq, wv_tup, lstF_eq, wv_lst, wv_dict, sl3F_eq, sl2F_eq, sl1F_eq, wv_sl, nF_eq, wv_bi, cF_eq, wv_call, mu2F_ex, muF1_b, wv_mu, mt2F_ex, mtF1_eq, wv_mt, c2F_eq, c1F_eq, wv_nil, wv_cons, lc2F_eq, lcF_eq, wv_lc, wv_yes, wv_cond, wv_no, wv_some, pF_int, seqF_eq, wv_seq, rngF_eq, wv_rng, ofF_eq, wv_zip, wv_enum, asgF_eq, wx_asg, drF_eq, wx_drop, reF_eq, wx_ret, wx_retN, wx_nop, wx_brk, wx_cont, ifF_b, wx_ite, wx_seq, wx_wh, foF_eq, wx_for, tsF_eq, wx_asgT, paF_eq, wx_par, s3F_ex, s2F_eq, s1F_eq, wx_setIx, flat, shaped_lints1, shaped_int, shaped_bool, shaped_none, shaped_nil, shaped_nilt, shaped_tints, shaped_lints, eqv_int, eqv_bool, eqv_tints, eqv_lints, eqv_lnil, eqv_tnil, any_ints, flat_ints, ex_cond, ex_cond2, ixN, atI_0, atI_1, atI_2, atI_3, wp_ok, wp_bad, wp_exc, wp_if, flK_next, flK_ret, flK_brk, flK_cont, tK_b, lpK_next, lpK_cont, lpK_brk, lpK_ret, rnK_next, rnK_ret, wp_turn, ltK_some, lt1F_eq, lt2F_eq, stAsg_val, stAsg_own, stAsg_bor, stRet_val, stRet_own, stRet_bor, exAsgT, exPar, setO, setL, setKd, setTd, mtGet, mtIndex, mtCount, mtJoin, mtSplit, mtPart, tyOkR, mtTyOk, MT.ty, mtF, viewRV, viewRVs, O.vw, boF, coF, bAdd, bSub, bMul, bDiv, bMod, bPow, bNeg, bEq, bNe, bCmp, bIn, isIn, bIs, isIs, bIx, bRev, bSl, bi, bLen, bMax, bMin, bAbs, bInt, bStr, bTuple, bList, bSorted, bAll, bAny, bSum, bDict, vInt, bIsin, vwIs, bRng1, bRng2, bRng, valArgs, setS_eq, setK_val, setK_own, setK_no, setK_lf, setK_lq, setT, setTs, recvOk, muF, muAppend, muExtend, muPop_snoc, muPop_one, muDpop, MU.isD, wp_callV, wp_callR, wp_callT, ctJ_some, ctK_val, ctK_own, valsD, clK_int, clK_bool, clK_str, clK_none, clK_tup, clK_own, clK_lst, crK_val, crK_own, RF.wp_ok, rfE_ok, rfF_eq, rfK_exc, rfK_val, rfK_own, wv_isE, bIsE, noExc_int, noExc_bool, noExc_none, noExc_str, noExc_list, noExc_tuple, noExc_k, noExc_t, O.fz, keyD, wv_chain, ch1F_eq, ch2F_eq, ch3F_eq, evSeq, rngOf, zipOf, enumOf, startE, argS, finO, stK, ownFree, wipeE, restE, sizeLine, R.bind_ok, -Prod.exists, -Bool.exists_bool, -Prod.forall, -Bool.forall_bool, li_fig, eqv_str, shaped_S, okL_nil, okL_cons, hw, hf, S_beq, S_len, signs_S]
    refine ⟨by omega, fun h1 => ⟨fun h2 => ?_, fun h2 => ⟨by omega, ?_⟩⟩, fun h1 => ?_⟩
    · rw [n0 (by rw [hB, decide_eq_false (by omega)]; rfl)]
    · rw [lc_on (fun c => PyData.str (S [c])) (fun c => PyData.bool (dig c)) fs fun c hc => by simp [V_val, V_own, V_bor, vK_val, vK_own, vK_no, vK_none, wv_var, wv_cst, b2F_eq, b1F_eq, wv_bin, wv_cmp, wv_ix, wv_rng2, a1F_eq, wv_neg, wv_rev, wv_isin, wv_rng1, wv_ssort, andF_b, wv_and, orF_b, wv_or, notF_b, wv_not, conF_b, wv_ite, tupF_eq, wv_tup, lstF_eq, wv_lst, wv_dict, sl3F_eq, sl2F_eq, sl1F_eq, wv_sl, nF_eq, wv_bi, cF_eq, wv_call, mu2F_ex, muF1_b, wv_mu, mt2F_ex, mtF1_eq, wv_mt, c2F_eq, c1F_eq, wv_nil, wv_cons, lc2F_eq, lcF_eq, wv_lc, wv_yes, wv_cond, wv_no, wv_some, pF_int, seqF_eq, wv_seq, rngF_eq, wv_rng, ofF_eq, wv_zip, wv_enum, asgF_eq, wx_asg, drF_eq, wx_drop, reF_eq, wx_ret, wx_retN, wx_nop, wx_brk, wx_cont, ifF_b, wx_ite, wx_seq, wx_wh, foF_eq, wx_for, tsF_eq, wx_asgT, paF_eq, wx_par, s3F_ex, s2F_eq, s1F_eq, wx_setIx, flat, shaped_lints1, shaped_int, shaped_bool, shaped_none, shaped_nil, shaped_nilt, shaped_tints, shaped_lints, eqv_int, eqv_bool, eqv_tints, eqv_lints, eqv_lnil, eqv_tnil, any_ints, flat_ints, ex_cond, ex_cond2, ixN, atI_0, atI_1, atI_2, atI_3, wp_ok, wp_bad, wp_exc, wp_if, flK_next, flK_ret, flK_brk, flK_cont, tK_b, lpK_next, lpK_cont, lpK_brk, lpK_ret, rnK_next, rnK_ret, wp_turn, ltK_some, lt1F_eq, lt2F_eq, stAsg_val, stAsg_own, stAsg_bor, stRet_val, stRet_own, stRet_bor, exAsgT, exPar, setO, setL, setKd, setTd, mtGet, mtIndex, mtCount, mtJoin, mtSplit, mtPart, tyOkR, mtTyOk, MT.ty, mtF, viewRV, viewRVs, O.vw, boF, coF, bAdd, bSub, bMul, bDiv, bMod, bPow, bNeg, bEq, bNe, bCmp, bIn, isIn, bIs, isIs, bIx, bRev, bSl, bi, bLen, bMax, bMin, bAbs, bInt, bStr, bTuple, bList, bSorted, bAll, bAny, bSum, bDict, vInt, bIsin, vwIs, bRng1, bRng2, bRng, valArgs, setS_eq, setK_val, setK_own, setK_no, setK_lf, setK_lq, setT, setTs, recvOk, muF, muAppend, muExtend, muPop_snoc, muPop_one, muDpop, MU.isD, wp_callV, wp_callR, wp_callT, ctJ_some, ctK_val, ctK_own, valsD, clK_int, clK_bool, clK_str, clK_none, clK_tup, clK_own, clK_lst, crK_val, crK_own, RF.wp_ok, rfE_ok, rfF_eq, rfK_exc, rfK_val, rfK_own, wv_isE, bIsE, noExc_int, noExc_bool, noExc_none, noExc_str, noExc_list, noExc_tuple, noExc_k, noExc_t, O.fz, keyD, wv_chain, ch1F_eq, ch2F_eq, ch3F_eq, evSeq, rngOf, zipOf, enumOf, startE, argS, finO, stK, ownFree, wipeE, restE, sizeLine, R.bind_ok, -Prod.exists, -Bool.exists_bool, -Prod.forall, -Bool.forall_bool, li_fig, S_list, figs_or]]
      simp [V_val, V_own, V_bor, vK_val, vK_own, vK_no, vK_none, wv_var, wv_cst, b2F_eq, b1F_eq, wv_bin, wv_cmp, wv_ix, wv_rng2, a1F_eq, wv_neg, wv_rev, wv_isin, wv_rng1, wv_ssort, andF_b, wv_and, orF_b, wv_or, notF_b, wv_not, conF_b, wv_ite, tupF_eq, wv_tup, lstF_eq, wv_lst, wv_dict, sl3F_eq, sl2F_eq, sl1F_eq, wv_sl, nF_eq, wv_bi, cF_eq, wv_call, mu2F_ex, muF1_b, wv_mu, mt2F_ex, mtF1_eq, wv_mt, c2F_eq, c1F_eq, wv_nil, wv_cons, lc2F_eq, lcF_eq, wv_lc, wv_yes, wv_cond, wv_no, wv_some, pF_int, seqF_eq, wv_seq, rngF_eq, wv_rng, ofF_eq, wv_zip, wv_enum, asgF_eq, wx_asg, drF_eq, wx_drop, reF_eq, wx_ret, wx_retN, wx_nop, wx_brk, wx_cont, ifF_b, wx_ite, wx_seq, wx_wh, foF_eq, wx_for, tsF_eq, wx_asgT, paF_eq, wx_par, s3F_ex, s2F_eq, s1F_eq, wx_setIx, flat, shaped_lints1, shaped_int, shaped_bool, shaped_none, shaped_nil, shaped_nilt, shaped_tints, shaped_lints, eqv_int, eqv_bool, eqv_tints, eqv_lints, eqv_lnil, eqv_tnil, any_ints, flat_ints, ex_cond, ex_cond2, ixN, atI_0, atI_1, atI_2, atI_3, wp_ok, wp_bad, wp_exc, wp_if, flK_next, flK_ret, flK_brk, flK_cont, tK_b, lpK_next, lpK_cont, lpK_brk, lpK_ret, rnK_next, rnK_ret, wp_turn, ltK_some, lt1F_eq, lt2F_eq, stAsg_val, stAsg_own, stAsg_bor, stRet_val, stRet_own, stRet_bor, exAsgT, exPar, setO, setL, setKd, setTd, mtGet, mtIndex, mtCount, mtJoin, mtSplit, mtPart, tyOkR, mtTyOk, MT.ty, mtF, viewRV, viewRVs, O.vw, boF, coF, bAdd, bSub, bMul, bDiv, bMod, bPow, bNeg, bEq, bNe, bCmp, bIn, isIn, bIs, isIs, bIx, bRev, bSl, bi, bLen, bMax, bMin, bAbs, bInt, bStr, bTuple, bList, bSorted, bAll, bAny, bSum, bDict, vInt, bIsin, vwIs, bRng1, bRng2, bRng, valArgs, setS_eq, setK_val, setK_own, setK_no, setK_lf, setK_lq, setT, setTs, recvOk, muF, muAppend, muExtend, muPop_snoc, muPop_one, muDpop, MU.isD, wp_callV, wp_callR, wp_callT, ctJ_some, ctK_val, ctK_own, valsD, clK_int, clK_bool, clK_str, clK_none, clK_tup, clK_own, clK_lst, crK_val, crK_own, RF.wp_ok, rfE_ok, rfF_eq, rfK_exc, rfK_val, rfK_own, wv_isE, bIsE, noExc_int, noExc_bool, noExc_none, noExc_str, noExc_list, noExc_tuple, noExc_k, noExc_t, O.fz, keyD, wv_chain, ch1F_eq, ch2F_eq, ch3F_eq, evSeq, rngOf, zipOf, enumOf, startE, argS, finO, stK, ownFree, wipeE, restE, sizeLine, R.bind_ok, -Prod.exists, -Bool.exists_bool, -Prod.forall, -Bool.forall_bool, asBools_f]
      refine ⟨fun x hx hd => ?_, fun hd => ?_⟩
      · rw [n0 (by
          rw [hB]
          have : fs.all dig = false := by
            cases h : fs.all dig with
            | false => rfl
            | true => rw [List.all_eq_true.mp h x hx] at hd; cases hd
          rw [this, Bool.and_false])]
      · have hB1 : numB w = true := by rw [hB, decide_eq_true (by omega), List.all_eq_true.mpr hd]; rfl
        obtain ⟨i1, i2⟩ := num_int hB1 (hw31 (by omega))
        have ok1 : okL (itx (numV w)) = true := okL_of (itx_lt _)
        have e1 : numI w = if itx (numV w) = w then some (numV w) else none := by
          unfold numI
          rw [hB1]
          simp
        simp [V_val, V_own, V_bor, vK_val, vK_own, vK_no, vK_none, wv_var, wv_cst, b2F_eq, b1F_eq, wv_bin, wv_cmp, wv_ix, wv_rng2, a1F_eq, wv_neg, wv_rev, wv_isin, wv_rng1, wv_ssort, andF_b, wv_and, orF_b, wv_or, notF_b, wv_not, conF_b, wv_ite, tupF_eq, wv_tup, lstF_eq, wv_lst, wv_dict, sl3F_eq, sl2F_eq, sl1F_eq, wv_sl, nF_eq, wv_bi, cF_eq, wv_call, mu2F_ex, muF1_b, wv_mu, mt2F_ex, mtF1_eq, wv_mt, c2F_eq, c1F_eq, wv_nil, wv_cons, lc2F_eq, lcF_eq, wv_lc, wv_yes, wv_cond, wv_no, wv_some, pF_int, seqF_eq, wv_seq, rngF_eq, wv_rng, ofF_eq, wv_zip, wv_enum, asgF_eq, wx_asg, drF_eq, wx_drop, reF_eq, wx_ret, wx_retN, wx_nop, wx_brk, wx_cont, ifF_b, wx_ite, wx_seq, wx_wh, foF_eq, wx_for, tsF_eq, wx_asgT, paF_eq, wx_par, s3F_ex, s2F_eq, s1F_eq, wx_setIx, flat, shaped_lints1, shaped_int, shaped_bool, shaped_none, shaped_nil, shaped_nilt, shaped_tints, shaped_lints, eqv_int, eqv_bool, eqv_tints, eqv_lints, eqv_lnil, eqv_tnil, any_ints, flat_ints, ex_cond, ex_cond2, ixN, atI_0, atI_1, atI_2, atI_3, wp_ok, wp_bad, wp_exc, wp_if, flK_next, flK_ret, flK_brk, flK_cont, tK_b, lpK_next, lpK_cont, lpK_brk, lpK_ret, rnK_next, rnK_ret, wp_turn, ltK_some, lt1F_eq, lt2F_eq, stAsg_val, stAsg_own, stAsg_bor, stRet_val, stRet_own, stRet_bor, exAsgT, exPar, setO, setL, setKd, setTd, mtGet, mtIndex, mtCount, mtJoin, mtSplit, mtPart, tyOkR, mtTyOk, MT.ty, mtF, viewRV, viewRVs, O.vw, boF, coF, bAdd, bSub, bMul, bDiv, bMod, bPow, bNeg, bEq, bNe, bCmp, bIn, isIn, bIs, isIs, bIx, bRev, bSl, bi, bLen, bMax, bMin, bAbs, bInt, bStr, bTuple, bList, bSorted, bAll, bAny, bSum, bDict, vInt, bIsin, vwIs, bRng1, bRng2, bRng, valArgs, setS_eq, setK_val, setK_own, setK_no, setK_lf, setK_lq, setT, setTs, recvOk, muF, muAppend, muExtend, muPop_snoc, muPop_one, muDpop, MU.isD, wp_callV, wp_callR, wp_callT, ctJ_some, ctK_val, ctK_own, valsD, clK_int, clK_bool, clK_str, clK_none, clK_tup, clK_own, clK_lst, crK_val, crK_own, RF.wp_ok, rfE_ok, rfF_eq, rfK_exc, rfK_val, rfK_own, wv_isE, bIsE, noExc_int, noExc_bool, noExc_none, noExc_str, noExc_list, noExc_tuple, noExc_k, noExc_t, O.fz, keyD, wv_chain, ch1F_eq, ch2F_eq, ch3F_eq, evSeq, rngOf, zipOf, enumOf, startE, argS, finO, stK, ownFree, wipeE, restE, sizeLine, R.bind_ok, -Prod.exists, -Bool.exists_bool, -Prod.forall, -Bool.forall_bool, i1, i2, S_len, eqv_str, shaped_S, hw, itx_R, S_beq, ok1, e1]
        refine ⟨by omega, fun h => ?_, fun h => ?_⟩
        · rw [if_neg h]
        · rw [if_pos h]
          exact ⟨by omega, rfl⟩
    · rw [n0 (by rw [hB, decide_eq_false (by omega)]; rfl)]
  obtain ⟨rest, hr⟩ : ∃ r, r = (match c_number_in with | .seq _ r => r | _ => .nop) := ⟨_, rfl⟩
  rw [← hr] at key
  have e : c_number_in = .seq (.asg 1 (.ite (.cmp .Eq (.sl (.var 0) .no (.some (.cst (.int (1))))) (.cst (.str ("-" : Str)))) (.sl (.var 0) (.some (.cst (.int (1)))) .no) (.var 0))) rest := by rw [hr]; rfl
  rw [e]
  cases b with
  | true =>
    have hb1 : List.take 1 w = [45] := of_decide_eq_true hb
    simp at hfs
    rw [hb1] at ht
    simp [V_val, V_own, V_bor, vK_val, vK_own, vK_no, vK_none, wv_var, wv_cst, b2F_eq, b1F_eq, wv_bin, wv_cmp, wv_ix, wv_rng2, a1F_eq, wv_neg, wv_rev, wv_isin, wv_rng1, wv_ssort, andF_b, wv_and, orF_b, wv_or, notF_b, wv_not, conF_b, wv_ite, tupF_eq, wv_tup, lstF_eq, wv_lst, wv_dict, sl3F_eq, sl2F_eq, sl1F_eq, wv_sl, nF_eq, wv_bi, cF_eq, wv_call, mu2F_ex, muF1_b, wv_mu, mt2F_ex, mtF1_eq, wv_mt, c2F_eq, c1F_eq, wv_nil, wv_cons, lc2F_eq, lcF_eq, wv_lc, wv_yes, wv_cond, wv_no, wv_some, pF_int, seqF_eq, wv_seq, rngF_eq, wv_rng, ofF_eq, wv_zip, wv_enum, asgF_eq, wx_asg, drF_eq, wx_drop, reF_eq, wx_ret, wx_retN, wx_nop, wx_brk, wx_cont, ifF_b, wx_ite, wx_seq, wx_wh, foF_eq, wx_for, tsF_eq, wx_asgT, paF_eq, wx_par, s3F_ex, s2F_eq, s1F_eq, wx_setIx, flat, shaped_lints1, shaped_int, shaped_bool, shaped_none, shaped_nil, shaped_nilt, shaped_tints, shaped_lints, eqv_int, eqv_bool, eqv_tints, eqv_lints, eqv_lnil, eqv_tnil, any_ints, flat_ints, ex_cond, ex_cond2, ixN, atI_0, atI_1, atI_2, atI_3, wp_ok, wp_bad, wp_exc, wp_if, flK_next, flK_ret, flK_brk, flK_cont, tK_b, lpK_next, lpK_cont, lpK_brk, lpK_ret, rnK_next, rnK_ret, wp_turn, ltK_some, lt1F_eq, lt2F_eq, stAsg_val, stAsg_own, stAsg_bor, stRet_val, stRet_own, stRet_bor, exAsgT, exPar, setO, setL, setKd, setTd, mtGet, mtIndex, mtCount, mtJoin, mtSplit, mtPart, tyOkR, mtTyOk, MT.ty, mtF, viewRV, viewRVs, O.vw, boF, coF, bAdd, bSub, bMul, bDiv, bMod, bPow, bNeg, bEq, bNe, bCmp, bIn, isIn, bIs, isIs, bIx, bRev, bSl, bi, bLen, bMax, bMin, bAbs, bInt, bStr, bTuple, bList, bSorted, bAll, bAny, bSum, bDict, vInt, bIsin, vwIs, bRng1, bRng2, bRng, valArgs, setS_eq, setK_val, setK_own, setK_no, setK_lf, setK_lq, setT, setTs, recvOk, muF, muAppend, muExtend, muPop_snoc, muPop_one, muDpop, MU.isD, wp_callV, wp_callR, wp_callT, ctJ_some, ctK_val, ctK_own, valsD, clK_int, clK_bool, clK_str, clK_none, clK_tup, clK_own, clK_lst, crK_val, crK_own, RF.wp_ok, rfE_ok, rfF_eq, rfK_exc, rfK_val, rfK_own, wv_isE, bIsE, noExc_int, noExc_bool, noExc_none, noExc_str, noExc_list, noExc_tuple, noExc_k, noExc_t, O.fz, keyD, wv_chain, ch1F_eq, ch2F_eq, ch3F_eq, evSeq, rngOf, zipOf, enumOf, startE, argS, finO, stK, ownFree, wipeE, restE, sizeLine, R.bind_ok, -Prod.exists, -Bool.exists_bool, -Prod.forall, -Bool.forall_bool, li_min, ht, hfs, eqv_str, shaped_S, okL_nil, okL_cons, S_beq, S_len]
    exact ⟨by omega, key _ rfl⟩
  | false =>
    have hb1 : ¬ List.take 1 w = [45] := of_decide_eq_false hb
    simp at hfs
    subst hfs
    simp [V_val, V_own, V_bor, vK_val, vK_own, vK_no, vK_none, wv_var, wv_cst, b2F_eq, b1F_eq, wv_bin, wv_cmp, wv_ix, wv_rng2, a1F_eq, wv_neg, wv_rev, wv_isin, wv_rng1, wv_ssort, andF_b, wv_and, orF_b, wv_or, notF_b, wv_not, conF_b, wv_ite, tupF_eq, wv_tup, lstF_eq, wv_lst, wv_dict, sl3F_eq, sl2F_eq, sl1F_eq, wv_sl, nF_eq, wv_bi, cF_eq, wv_call, mu2F_ex, muF1_b, wv_mu, mt2F_ex, mtF1_eq, wv_mt, c2F_eq, c1F_eq, wv_nil, wv_cons, lc2F_eq, lcF_eq, wv_lc, wv_yes, wv_cond, wv_no, wv_some, pF_int, seqF_eq, wv_seq, rngF_eq, wv_rng, ofF_eq, wv_zip, wv_enum, asgF_eq, wx_asg, drF_eq, wx_drop, reF_eq, wx_ret, wx_retN, wx_nop, wx_brk, wx_cont, ifF_b, wx_ite, wx_seq, wx_wh, foF_eq, wx_for, tsF_eq, wx_asgT, paF_eq, wx_par, s3F_ex, s2F_eq, s1F_eq, wx_setIx, flat, shaped_lints1, shaped_int, shaped_bool, shaped_none, shaped_nil, shaped_nilt, shaped_tints, shaped_lints, eqv_int, eqv_bool, eqv_tints, eqv_lints, eqv_lnil, eqv_tnil, any_ints, flat_ints, ex_cond, ex_cond2, ixN, atI_0, atI_1, atI_2, atI_3, wp_ok, wp_bad, wp_exc, wp_if, flK_next, flK_ret, flK_brk, flK_cont, tK_b, lpK_next, lpK_cont, lpK_brk, lpK_ret, rnK_next, rnK_ret, wp_turn, ltK_some, lt1F_eq, lt2F_eq, stAsg_val, stAsg_own, stAsg_bor, stRet_val, stRet_own, stRet_bor, exAsgT, exPar, setO, setL, setKd, setTd, mtGet, mtIndex, mtCount, mtJoin, mtSplit, mtPart, tyOkR, mtTyOk, MT.ty, mtF, viewRV, viewRVs, O.vw, boF, coF, bAdd, bSub, bMul, bDiv, bMod, bPow, bNeg, bEq, bNe, bCmp, bIn, isIn, bIs, isIs, bIx, bRev, bSl, bi, bLen, bMax, bMin, bAbs, bInt, bStr, bTuple, bList, bSorted, bAll, bAny, bSum, bDict, vInt, bIsin, vwIs, bRng1, bRng2, bRng, valArgs, setS_eq, setK_val, setK_own, setK_no, setK_lf, setK_lq, setT, setTs, recvOk, muF, muAppend, muExtend, muPop_snoc, muPop_one, muDpop, MU.isD, wp_callV, wp_callR, wp_callT, ctJ_some, ctK_val, ctK_own, valsD, clK_int, clK_bool, clK_str, clK_none, clK_tup, clK_own, clK_lst, crK_val, crK_own, RF.wp_ok, rfE_ok, rfF_eq, rfK_exc, rfK_val, rfK_own, wv_isE, bIsE, noExc_int, noExc_bool, noExc_none, noExc_str, noExc_list, noExc_tuple, noExc_k, noExc_t, O.fz, keyD, wv_chain, ch1F_eq, ch2F_eq, ch3F_eq, evSeq, rngOf, zipOf, enumOf, startE, argS, finO, stK, ownFree, wipeE, restE, sizeLine, R.bind_ok, -Prod.exists, -Bool.exists_bool, -Prod.forall, -Bool.forall_bool, li_min, ht, hb1, eqv_str, shaped_S, okL_nil, okL_cons, S_beq, S_len, o2]
    exact ⟨by omega, key _ rfl⟩
theorem number_ok (w : List Nat) (hw : okL w = true) (hl : w.length ≤ 500) : f_number_in [.val (.str (S w))] = .ok (.val (match numI w with | some n => .int n | none => .none)) none := by
  by_cases c : w.take 1 = [45]
  · refine number_aux w (w.drop 1) hw hl (okL_drop hw 1) (by rw [List.length_drop]; omega) true (cut_to1 w) (decide_eq_true c) (by rw [if_pos rfl, cut_from1]) ?_ (fun h => by rw [List.length_drop] at h; omega)
    unfold numB figs
    rw [if_pos c]
  · refine number_aux w w hw hl hw hl false (cut_to1 w) (decide_eq_false c) (by simp) ?_ (fun h => by omega)
    unfold numB figs
    rw [if_neg c]
theorem numI_itx (n : Int) (h : (itx n).length ≤ 20) : numI (itx n) = some n := by
  have key : numB (itx n) = true ∧ numV (itx n) = n := by
    rcases Int.lt_or_le n 0 with hn | hn
    · obtain ⟨m, rfl⟩ : ∃ m : Nat, n = -((m + 1 : Nat) : Int) := ⟨(-n).toNat - 1, by omega⟩
      rw [itx_neg] at h ⊢
      unfold numB numV figs
      rw [if_pos (show List.take 1 (45 :: TL.numL (m + 1)) = [45] from rfl), if_pos (show List.take 1 (45 :: TL.numL (m + 1)) = [45] from rfl)]
      show (decide (1 ≤ (TL.numL (m + 1)).length ∧ (TL.numL (m + 1)).length ≤ 30) && (TL.numL (m + 1)).all dig) = true ∧ -((NumText.digitsVal (TL.numL (m + 1)) : Nat) : Int) = _
      rw [TL.numL_val]
      rw [List.length_cons] at h
      have := List.length_pos_iff.mpr (TL.numL_ne (m + 1))
      rw [decide_eq_true (by omega), show (TL.numL (m + 1)).all dig = true from List.all_eq_true.mpr fun c hc => decide_eq_true (TL.numL_digits (m + 1) c hc)]
      exact ⟨rfl, rfl⟩
    · obtain ⟨m, rfl⟩ : ∃ m : Nat, n = (m : Int) := ⟨n.toNat, by omega⟩
      rw [itx_nat] at h ⊢
      have hc : ¬ (TL.numL m).take 1 = [45] := fun e => by
        have h1 : (45 : Nat) ∈ TL.numL m := List.mem_of_mem_take (i := 1) (by rw [e]; exact List.mem_cons_self ..)
        exact TL.numL_free (by omega) h1
      unfold numB numV figs
      rw [if_neg hc, if_neg hc, TL.numL_val]
      have := List.length_pos_iff.mpr (TL.numL_ne m)
      rw [decide_eq_true (by omega), show (TL.numL m).all dig = true from List.all_eq_true.mpr fun c hc => decide_eq_true (TL.numL_digits m c hc)]
      exact ⟨rfl, rfl⟩
  unfold numI
  rw [if_pos ⟨key.1, by rw [key.2]⟩, key.2]
end BX.k92

set_option Elab.async false
set_option linter.all false
set_option maxRecDepth 100000
set_option maxHeartbeats 4000000
namespace BX.k92
open PySem PySem.Spec PyProof.Rows L2 RZ PureT
/-! ### the text of a row -/
def cells (row : List Int) (a b : Int) : List Nat := (rangeL a (b + 1)).map fun p => if p ∈ row then 111 else 46
def rowT (row : List Int) : List Nat := match row with
  | [] => [110, 111, 110, 101]
  | a :: r => itx a ++ 58 :: cells (a :: r) a ((a :: r).getLastD 0)
theorem rowT_cons {row : List Int} (h : row ≠ []) : rowT row = itx (row.headD 0) ++ 58 :: cells row (row.headD 0) (row.getLastD 0) := by
  cases row with
  | nil => exact absurd rfl h
  | cons a r => rfl
theorem atI_h {l : List Int} (h : l ≠ []) : atI (l.map PyData.int) 0 = some (.int (l.headD 0)) := by
  cases l with
  | nil => exact absurd rfl h
  | cons a r => exact atI_0
theorem atI_l {l : List Int} (h : l ≠ []) : atI (l.map PyData.int) (-1) = some (.int (l.getLastD 0)) := by
  have e := List.dropLast_concat_getLast h
  have e2 : l.getLastD 0 = l.getLast h := by
    cases l with
    | nil => exact absurd rfl h
    | cons a r => rfl
  rw [e2]
  have e3 : l.map PyData.int = l.dropLast.map PyData.int ++ [.int (l.getLast h)] := by
    rw [← List.map_singleton (f := PyData.int), ← List.map_append, e]
  rw [e3]
  exact atI_m1
theorem joinL_nil : ∀ l : List Nat, TL.joinL [] (l.map fun c => [c]) = l
  | [] => rfl
  | [a] => rfl
  | a :: b :: r => by
    show [a] ++ ([] ++ TL.joinL [] ((b :: r).map fun c => [c])) = _
    rw [joinL_nil (b :: r)]
    rfl
theorem join_cells (l : List Nat) : Txt.join (S []) (l.map fun c => S [c]) = S l := by
  have e := SX.join_S [] (l.map fun c => [c])
  rw [List.map_map, joinL_nil] at e
  exact e
theorem asStrs_map (l : List Str) : asStrs (l.map PyData.str) = some l := by
  induction l with
  | nil => rfl
  | cons a r ih => simp [asStrs, ih]
theorem asStrs_map2 {ι : Type} (f : ι → Str) (l : List ι) : asStrs (l.map (PyData.str ∘ f)) = some (l.map f) := by
  have e := asStrs_map (l.map f)
  rw [List.map_map] at e
  exact e
theorem cells_len (row : List Int) (a b : Int) : (cells row a b).length = (b + 1 - a).toNat := by
  unfold cells rangeL
  simp
theorem sum_ones (l : List Nat) : (l.map fun _ => 1).sum = l.length := by
  induction l with
  | nil => rfl
  | cons a r ih => simp [ih]; omega
theorem itx_len {n : Int} (h : -10000000000 < n ∧ n < 10000000000) : (itx n).length ≤ 11 := by
  rcases Int.lt_or_le n 0 with hn | hn
  · obtain ⟨m, rfl⟩ : ∃ m : Nat, n = -((m + 1 : Nat) : Int) := ⟨(-n).toNat - 1, by omega⟩
    rw [itx_neg, List.length_cons]
    have := TL.numL_len (n := m + 1) (k := 10) (by decide) (by omega)
    omega
  · obtain ⟨m, rfl⟩ : ∃ m : Nat, n = (m : Int) := ⟨n.toNat, by omega⟩
    rw [itx_nat]
    have := TL.numL_len (n := m) (k := 10) (by decide) (by omega)
    omega
structure Wd (row : List Int) : Prop where
  ne : row ≠ []
  lo : -2000000000 ≤ row.headD 0 ∧ row.headD 0 ≤ 2000000000
  hi : row.headD 0 ≤ row.getLastD 0
  wd : row.getLastD 0 ≤ row.headD 0 + 2000
theorem log_lo {a : Int} (h : -2000000000 ≤ a ∧ a ≤ 2000000000) : a.natAbs.log2 < 1920 := by
  rcases Nat.eq_zero_or_pos a.natAbs with e | hp
  · rw [e]; decide
  · refine (Nat.log2_lt (by omega)).mpr (Nat.lt_of_lt_of_le (show a.natAbs < 2 ^ 32 by omega) ?_)
    exact Nat.pow_le_pow_right (by decide) (by decide)
theorem l_row_text_e : f_l_row_text [.val (.tuple [])] = .ok (.val (.str (S (rowT [])))) none := by
  refine RF.wp.eq (wp_run ?_)
  simp [c_l_row_text, t_l_row_text, V_val, V_own, V_bor, vK_val, vK_own, vK_no, vK_none, wv_var, wv_cst, b2F_eq, b1F_eq, wv_bin, wv_cmp, wv_ix, wv_rng2, a1F_eq, wv_neg, wv_rev, wv_isin, wv_rng1, wv_ssort, andF_b, wv_and, orF_b, wv_or, notF_b, wv_not, conF_b, wv_ite, tupF_eq, wv_tup, lstF_eq, wv_lst, wv_dict, sl3F_eq, sl2F_eq, sl1F_eq, wv_sl, nF_eq, wv_bi, cF_eq, wv_call, mu2F_ex, muF1_b, wv_mu, mt2F_ex, mtF1_eq, wv_mt, c2F_eq, c1F_eq, wv_nil, wv_cons, lc2F_eq, lcF_eq, wv_lc, wv_yes, wv_cond, wv_no, wv_some, pF_int, seqF_eq, wv_seq, rngF_eq, wv_rng, ofF_eq, wv_zip, wv_enum, asgF_eq, wx_asg, drF_eq, wx_drop, reF_eq, wx_ret, wx_retN, wx_nop, wx_brk, wx_cont, ifF_b, wx_ite, wx_seq, wx_wh, foF_eq, wx_for, tsF_eq, wx_asgT, paF_eq, wx_par, s3F_ex, s2F_eq, s1F_eq, wx_setIx, flat, shaped_lints1, shaped_int, shaped_bool, shaped_none, shaped_nil, shaped_nilt, shaped_tints, shaped_lints, eqv_int, eqv_bool, eqv_tints, eqv_lints, eqv_lnil, eqv_tnil, any_ints, flat_ints, ex_cond, ex_cond2, ixN, atI_0, atI_1, atI_2, atI_3, wp_ok, wp_bad, wp_exc, wp_if, flK_next, flK_ret, flK_brk, flK_cont, tK_b, lpK_next, lpK_cont, lpK_brk, lpK_ret, rnK_next, rnK_ret, wp_turn, ltK_some, lt1F_eq, lt2F_eq, stAsg_val, stAsg_own, stAsg_bor, stRet_val, stRet_own, stRet_bor, exAsgT, exPar, setO, setL, setKd, setTd, mtGet, mtIndex, mtCount, mtJoin, mtSplit, mtPart, tyOkR, mtTyOk, MT.ty, mtF, viewRV, viewRVs, O.vw, boF, coF, bAdd, bSub, bMul, bDiv, bMod, bPow, bNeg, bEq, bNe, bCmp, bIn, isIn, bIs, isIs, bIx, bRev, bSl, bi, bLen, bMax, bMin, bAbs, bInt, bStr, bTuple, bList, bSorted, bAll, bAny, bSum, bDict, vInt, bIsin, vwIs, bRng1, bRng2, bRng, valArgs, setS_eq, setK_val, setK_own, setK_no, setK_lf, setK_lq, setT, setTs, recvOk, muF, muAppend, muExtend, muPop_snoc, muPop_one, muDpop, MU.isD, wp_callV, wp_callR, wp_callT, ctJ_some, ctK_val, ctK_own, valsD, clK_int, clK_bool, clK_str, clK_none, clK_tup, clK_own, clK_lst, crK_val, crK_own, RF.wp_ok, rfE_ok, rfF_eq, rfK_exc, rfK_val, rfK_own, wv_isE, bIsE, noExc_int, noExc_bool, noExc_none, noExc_str, noExc_list, noExc_tuple, noExc_k, noExc_t, O.fz, keyD, wv_chain, ch1F_eq, ch2F_eq, ch3F_eq, evSeq, rngOf, zipOf, enumOf, startE, argS, finO, stK, ownFree, wipeE, restE, sizeLine, R.bind_ok, -Prod.exists, -Bool.exists_bool, -Prod.forall, -Bool.forall_bool, li_none, rowT]
theorem l_row_text_n (row : List Int) (w : Wd row) : f_l_row_text [.val (.tuple (row.map .int))] = .ok (.val (.str (S (rowT row)))) none := by
  have g1 := atI_h w.ne
  have g2 := atI_l w.ne
  obtain ⟨a, ha⟩ : ∃ a, a = row.headD 0 := ⟨_, rfl⟩
  obtain ⟨b, hb⟩ : ∃ b, b = row.getLastD 0 := ⟨_, rfl⟩
  have l1 := w.lo
  have l2 := w.hi
  have l3 := w.wd
  rw [rowT_cons w.ne]
  rw [← ha] at g1 l1 l2 l3
  rw [← hb] at g2 l2 l3
  rw [← ha, ← hb]
  have r1 : rngOk a = true := decide_eq_true (by omega)
  have r2 : rngOk (b + 1) = true := decide_eq_true (by omega)
  have hne : (row = []) = False := eq_false w.ne
  refine RF.wp.eq (wp_run ?_)
  have hlen : (rangeL a (b + 1)).length ≤ 2001 := by unfold rangeL; simp; omega
  have cE : (rangeL a (b + 1)).map (fun p => PyData.str (S [if p ∈ row then 111 else 46])) = ((cells row a b).map fun c => S [c]).map PyData.str := by
    unfold cells
    rw [List.map_map, List.map_map]
    rfl
  have clen : (cells row a b).length ≤ 2001 := by rw [cells_len]; omega
  have ok1 : okL (itx a) = true := okL_of (itx_lt a)
  simp [c_l_row_text, t_l_row_text, V_val, V_own, V_bor, vK_val, vK_own, vK_no, vK_none, wv_var, wv_cst, b2F_eq, b1F_eq, wv_bin, wv_cmp, wv_ix, wv_rng2, a1F_eq, wv_neg, wv_rev, wv_isin, wv_rng1, wv_ssort, andF_b, wv_and, orF_b, wv_or, notF_b, wv_not, conF_b, wv_ite, tupF_eq, wv_tup, lstF_eq, wv_lst, wv_dict, sl3F_eq, sl2F_eq, sl1F_eq, wv_sl, nF_eq, wv_bi, cF_eq, wv_call, mu2F_ex, muF1_b, wv_mu, mt2F_ex, mtF1_eq, wv_mt, c2F_eq, c1F_eq, wv_nil, wv_cons, lc2F_eq, lcF_eq, wv_lc, wv_yes, wv_cond, wv_no, wv_some, pF_int, seqF_eq, wv_seq, rngF_eq, wv_rng, ofF_eq, wv_zip, wv_enum, asgF_eq, wx_asg, drF_eq, wx_drop, reF_eq, wx_ret, wx_retN, wx_nop, wx_brk, wx_cont, ifF_b, wx_ite, wx_seq, wx_wh, foF_eq, wx_for, tsF_eq, wx_asgT, paF_eq, wx_par, s3F_ex, s2F_eq, s1F_eq, wx_setIx, flat, shaped_lints1, shaped_int, shaped_bool, shaped_none, shaped_nil, shaped_nilt, shaped_tints, shaped_lints, eqv_int, eqv_bool, eqv_tints, eqv_lints, eqv_lnil, eqv_tnil, any_ints, flat_ints, ex_cond, ex_cond2, ixN, atI_0, atI_1, atI_2, atI_3, wp_ok, wp_bad, wp_exc, wp_if, flK_next, flK_ret, flK_brk, flK_cont, tK_b, lpK_next, lpK_cont, lpK_brk, lpK_ret, rnK_next, rnK_ret, wp_turn, ltK_some, lt1F_eq, lt2F_eq, stAsg_val, stAsg_own, stAsg_bor, stRet_val, stRet_own, stRet_bor, exAsgT, exPar, setO, setL, setKd, setTd, mtGet, mtIndex, mtCount, mtJoin, mtSplit, mtPart, tyOkR, mtTyOk, MT.ty, mtF, viewRV, viewRVs, O.vw, boF, coF, bAdd, bSub, bMul, bDiv, bMod, bPow, bNeg, bEq, bNe, bCmp, bIn, isIn, bIs, isIs, bIx, bRev, bSl, bi, bLen, bMax, bMin, bAbs, bInt, bStr, bTuple, bList, bSorted, bAll, bAny, bSum, bDict, vInt, bIsin, vwIs, bRng1, bRng2, bRng, valArgs, setS_eq, setK_val, setK_own, setK_no, setK_lf, setK_lq, setT, setTs, recvOk, muF, muAppend, muExtend, muPop_snoc, muPop_one, muDpop, MU.isD, wp_callV, wp_callR, wp_callT, ctJ_some, ctK_val, ctK_own, valsD, clK_int, clK_bool, clK_str, clK_none, clK_tup, clK_own, clK_lst, crK_val, crK_own, RF.wp_ok, rfE_ok, rfF_eq, rfK_exc, rfK_val, rfK_own, wv_isE, bIsE, noExc_int, noExc_bool, noExc_none, noExc_str, noExc_list, noExc_tuple, noExc_k, noExc_t, O.fz, keyD, wv_chain, ch1F_eq, ch2F_eq, ch3F_eq, evSeq, rngOf, zipOf, enumOf, startE, argS, finO, stK, ownFree, wipeE, restE, sizeLine, R.bind_ok, -Prod.exists, -Bool.exists_bool, -Prod.forall, -Bool.forall_bool, g1, g2, hne, r1, r2, li_nil, li_col, li_o, li_dot]
  refine ⟨by omega, ?_⟩
  rw [lc_on PyData.int (fun p => PyData.str (S [if p ∈ row then 111 else 46])) (rangeL a (b + 1)) fun p hp => by
    by_cases h : p ∈ row
    · rw [if_pos h]
      simp [V_val, V_own, V_bor, vK_val, vK_own, vK_no, vK_none, wv_var, wv_cst, b2F_eq, b1F_eq, wv_bin, wv_cmp, wv_ix, wv_rng2, a1F_eq, wv_neg, wv_rev, wv_isin, wv_rng1, wv_ssort, andF_b, wv_and, orF_b, wv_or, notF_b, wv_not, conF_b, wv_ite, tupF_eq, wv_tup, lstF_eq, wv_lst, wv_dict, sl3F_eq, sl2F_eq, sl1F_eq, wv_sl, nF_eq, wv_bi, cF_eq, wv_call, mu2F_ex, muF1_b, wv_mu, mt2F_ex, mtF1_eq, wv_mt, c2F_eq, c1F_eq, wv_nil, wv_cons, lc2F_eq, lcF_eq, wv_lc, wv_yes, wv_cond, wv_no, wv_some, pF_int, seqF_eq, wv_seq, rngF_eq, wv_rng, ofF_eq, wv_zip, wv_enum, asgF_eq, wx_asg, drF_eq, wx_drop, reF_eq, wx_ret, wx_retN, wx_nop, wx_brk, wx_cont, ifF_b, wx_ite, wx_seq, wx_wh, foF_eq, wx_for, tsF_eq, wx_asgT, paF_eq, wx_par, s3F_ex, s2F_eq, s1F_eq, wx_setIx, flat, shaped_lints1, shaped_int, shaped_bool, shaped_none, shaped_nil, shaped_nilt, shaped_tints, shaped_lints, eqv_int, eqv_bool, eqv_tints, eqv_lints, eqv_lnil, eqv_tnil, any_ints, flat_ints, ex_cond, ex_cond2, ixN, atI_0, atI_1, atI_2, atI_3, wp_ok, wp_bad, wp_exc, wp_if, flK_next, flK_ret, flK_brk, flK_cont, tK_b, lpK_next, lpK_cont, lpK_brk, lpK_ret, rnK_next, rnK_ret, wp_turn, ltK_some, lt1F_eq, lt2F_eq, stAsg_val, stAsg_own, stAsg_bor, stRet_val, stRet_own, stRet_bor, exAsgT, exPar, setO, setL, setKd, setTd, mtGet, mtIndex, mtCount, mtJoin, mtSplit, mtPart, tyOkR, mtTyOk, MT.ty, mtF, viewRV, viewRVs, O.vw, boF, coF, bAdd, bSub, bMul, bDiv, bMod, bPow, bNeg, bEq, bNe, bCmp, bIn, isIn, bIs, isIs, bIx, bRev, bSl, bi, bLen, bMax, bMin, bAbs, bInt, bStr, bTuple, bList, bSorted, bAll, bAny, bSum, bDict, vInt, bIsin, vwIs, bRng1, bRng2, bRng, valArgs, setS_eq, setK_val, setK_own, setK_no, setK_lf, setK_lq, setT, setTs, recvOk, muF, muAppend, muExtend, muPop_snoc, muPop_one, muDpop, MU.isD, wp_callV, wp_callR, wp_callT, ctJ_some, ctK_val, ctK_own, valsD, clK_int, clK_bool, clK_str, clK_none, clK_tup, clK_own, clK_lst, crK_val, crK_own, RF.wp_ok, rfE_ok, rfF_eq, rfK_exc, rfK_val, rfK_own, wv_isE, bIsE, noExc_int, noExc_bool, noExc_none, noExc_str, noExc_list, noExc_tuple, noExc_k, noExc_t, O.fz, keyD, wv_chain, ch1F_eq, ch2F_eq, ch3F_eq, evSeq, rngOf, zipOf, enumOf, startE, argS, finO, stK, ownFree, wipeE, restE, sizeLine, R.bind_ok, -Prod.exists, -Bool.exists_bool, -Prod.forall, -Bool.forall_bool, h]
    · rw [if_neg h]
      simp [V_val, V_own, V_bor, vK_val, vK_own, vK_no, vK_none, wv_var, wv_cst, b2F_eq, b1F_eq, wv_bin, wv_cmp, wv_ix, wv_rng2, a1F_eq, wv_neg, wv_rev, wv_isin, wv_rng1, wv_ssort, andF_b, wv_and, orF_b, wv_or, notF_b, wv_not, conF_b, wv_ite, tupF_eq, wv_tup, lstF_eq, wv_lst, wv_dict, sl3F_eq, sl2F_eq, sl1F_eq, wv_sl, nF_eq, wv_bi, cF_eq, wv_call, mu2F_ex, muF1_b, wv_mu, mt2F_ex, mtF1_eq, wv_mt, c2F_eq, c1F_eq, wv_nil, wv_cons, lc2F_eq, lcF_eq, wv_lc, wv_yes, wv_cond, wv_no, wv_some, pF_int, seqF_eq, wv_seq, rngF_eq, wv_rng, ofF_eq, wv_zip, wv_enum, asgF_eq, wx_asg, drF_eq, wx_drop, reF_eq, wx_ret, wx_retN, wx_nop, wx_brk, wx_cont, ifF_b, wx_ite, wx_seq, wx_wh, foF_eq, wx_for, tsF_eq, wx_asgT, paF_eq, wx_par, s3F_ex, s2F_eq, s1F_eq, wx_setIx, flat, shaped_lints1, shaped_int, shaped_bool, shaped_none, shaped_nil, shaped_nilt, shaped_tints, shaped_lints, eqv_int, eqv_bool, eqv_tints, eqv_lints, eqv_lnil, eqv_tnil, any_ints, flat_ints, ex_cond, ex_cond2, ixN, atI_0, atI_1, atI_2, atI_3, wp_ok, wp_bad, wp_exc, wp_if, flK_next, flK_ret, flK_brk, flK_cont, tK_b, lpK_next, lpK_cont, lpK_brk, lpK_ret, rnK_next, rnK_ret, wp_turn, ltK_some, lt1F_eq, lt2F_eq, stAsg_val, stAsg_own, stAsg_bor, stRet_val, stRet_own, stRet_bor, exAsgT, exPar, setO, setL, setKd, setTd, mtGet, mtIndex, mtCount, mtJoin, mtSplit, mtPart, tyOkR, mtTyOk, MT.ty, mtF, viewRV, viewRVs, O.vw, boF, coF, bAdd, bSub, bMul, bDiv, bMod, bPow, bNeg, bEq, bNe, bCmp, bIn, isIn, bIs, isIs, bIx, bRev, bSl, bi, bLen, bMax, bMin, bAbs, bInt, bStr, bTuple, bList, bSorted, bAll, bAny, bSum, bDict, vInt, bIsin, vwIs, bRng1, bRng2, bRng, valArgs, setS_eq, setK_val, setK_own, setK_no, setK_lf, setK_lq, setT, setTs, recvOk, muF, muAppend, muExtend, muPop_snoc, muPop_one, muDpop, MU.isD, wp_callV, wp_callR, wp_callT, ctJ_some, ctK_val, ctK_own, valsD, clK_int, clK_bool, clK_str, clK_none, clK_tup, clK_own, clK_lst, crK_val, crK_own, RF.wp_ok, rfE_ok, rfF_eq, rfK_exc, rfK_val, rfK_own, wv_isE, bIsE, noExc_int, noExc_bool, noExc_none, noExc_str, noExc_list, noExc_tuple, noExc_k, noExc_t, O.fz, keyD, wv_chain, ch1F_eq, ch2F_eq, ch3F_eq, evSeq, rngOf, zipOf, enumOf, startE, argS, finO, stK, ownFree, wipeE, restE, sizeLine, R.bind_ok, -Prod.exists, -Bool.exists_bool, -Prod.forall, -Bool.forall_bool, h]]
  rw [cE]
  simp [V_val, V_own, V_bor, vK_val, vK_own, vK_no, vK_none, wv_var, wv_cst, b2F_eq, b1F_eq, wv_bin, wv_cmp, wv_ix, wv_rng2, a1F_eq, wv_neg, wv_rev, wv_isin, wv_rng1, wv_ssort, andF_b, wv_and, orF_b, wv_or, notF_b, wv_not, conF_b, wv_ite, tupF_eq, wv_tup, lstF_eq, wv_lst, wv_dict, sl3F_eq, sl2F_eq, sl1F_eq, wv_sl, nF_eq, wv_bi, cF_eq, wv_call, mu2F_ex, muF1_b, wv_mu, mt2F_ex, mtF1_eq, wv_mt, c2F_eq, c1F_eq, wv_nil, wv_cons, lc2F_eq, lcF_eq, wv_lc, wv_yes, wv_cond, wv_no, wv_some, pF_int, seqF_eq, wv_seq, rngF_eq, wv_rng, ofF_eq, wv_zip, wv_enum, asgF_eq, wx_asg, drF_eq, wx_drop, reF_eq, wx_ret, wx_retN, wx_nop, wx_brk, wx_cont, ifF_b, wx_ite, wx_seq, wx_wh, foF_eq, wx_for, tsF_eq, wx_asgT, paF_eq, wx_par, s3F_ex, s2F_eq, s1F_eq, wx_setIx, flat, shaped_lints1, shaped_int, shaped_bool, shaped_none, shaped_nil, shaped_nilt, shaped_tints, shaped_lints, eqv_int, eqv_bool, eqv_tints, eqv_lints, eqv_lnil, eqv_tnil, any_ints, flat_ints, ex_cond, ex_cond2, ixN, atI_0, atI_1, atI_2, atI_3, wp_ok, wp_bad, wp_exc, wp_if, flK_next, flK_ret, flK_brk, flK_cont, tK_b, lpK_next, lpK_cont, lpK_brk, lpK_ret, rnK_next, rnK_ret, wp_turn, ltK_some, lt1F_eq, lt2F_eq, stAsg_val, stAsg_own, stAsg_bor, stRet_val, stRet_own, stRet_bor, exAsgT, exPar, setO, setL, setKd, setTd, mtGet, mtIndex, mtCount, mtJoin, mtSplit, mtPart, tyOkR, mtTyOk, MT.ty, mtF, viewRV, viewRVs, O.vw, boF, coF, bAdd, bSub, bMul, bDiv, bMod, bPow, bNeg, bEq, bNe, bCmp, bIn, isIn, bIs, isIs, bIx, bRev, bSl, bi, bLen, bMax, bMin, bAbs, bInt, bStr, bTuple, bList, bSorted, bAll, bAny, bSum, bDict, vInt, bIsin, vwIs, bRng1, bRng2, bRng, valArgs, setS_eq, setK_val, setK_own, setK_no, setK_lf, setK_lq, setT, setTs, recvOk, muF, muAppend, muExtend, muPop_snoc, muPop_one, muDpop, MU.isD, wp_callV, wp_callR, wp_callT, ctJ_some, ctK_val, ctK_own, valsD, clK_int, clK_bool, clK_str, clK_none, clK_tup, clK_own, clK_lst, crK_val, crK_own, RF.wp_ok, rfE_ok, rfF_eq, rfK_exc, rfK_val, rfK_own, wv_isE, bIsE, noExc_int, noExc_bool, noExc_none, noExc_str, noExc_list, noExc_tuple, noExc_k, noExc_t, O.fz, keyD, wv_chain, ch1F_eq, ch2F_eq, ch3F_eq, evSeq, rngOf, zipOf, enumOf, startE, argS, finO, stK, ownFree, wipeE, restE, sizeLine, R.bind_ok, -Prod.exists, -Bool.exists_bool, -Prod.forall, -Bool.forall_bool, asStrs_map2, S_len, sum_ones, join_cells, g1, hne, itx_R, S_cat]
  have hs : (List.map ((fun x => x.length) ∘ fun c => S [c]) (cells row a b)).sum = (cells row a b).length := sum_ones _
  have hi := itx_len (show -10000000000 < a ∧ a < 10000000000 by omega)
  exact ⟨log_lo l1, by omega, by omega, by omega⟩
end BX.k92

set_option Elab.async false
set_option linter.all false
set_option maxRecDepth 100000
set_option maxHeartbeats 4000000
namespace BX.k92
open PySem PySem.Spec PyProof.Rows L2 RZ PureT
/-! ### a text read -/
def poss (first : Int) (s : List Nat) : List Int := s.zipIdx.filterMap fun p => if p.1 = 111 then some (first + p.2) else none
def sgB (s : List Nat) : Bool := decide (s.length ≤ 200) && (s.all fun c => decide (c = 111) || decide (c = 46))
theorem enum_S (s : List Nat) : enumD (signs (S s)) = s.zipIdx.map fun p => PyData.tuple [.int (p.2 : Nat), .str (S [p.1])] := by
  unfold enumD
  rw [signs_S, List.mapIdx_eq_zipIdx_map, List.zipIdx_map, List.map_map]
  rfl
theorem atI_S0 {s : List Nat} (h : s ≠ []) : atI s 0 = some (s.headD 0) := by
  cases s with
  | nil => exact absurd rfl h
  | cons a r => exact atI_0
theorem atI_Sl {s : List Nat} (h : s ≠ []) : atI s (-1) = some (s.getLastD 0) := by
  have e := List.dropLast_concat_getLast h
  have e2 : s.getLastD 0 = s.getLast h := by
    cases s with
    | nil => exact absurd rfl h
    | cons a r => rfl
  rw [e2]
  have : atI (s.dropLast ++ [s.getLast h]) (-1) = some (s.getLast h) := atI_m1
  rwa [e] at this
theorem row_read_ok (cs w s : List Nat) (m : Str) (first : Int) (hc : okL cs = true) (hl : cs.length ≤ 500) (hne : ¬ cs = [110, 111, 110, 101]) (hp : Txt.partition (S cs) (S [58]) = (S w, m, S s)) (hw : okL w = true) (hwl : w.length ≤ 500) (hs : okL s = true) (hn : numI w = some first) (hg : sgB s = true) (h0 : s ≠ []) (h1 : s.headD 0 = 111) (h2 : s.getLastD 0 = 111)
    (hr : rowB (.tuple ((poss first s).map .int)) = true) : f_row_read [.val (.str (S cs))] = .ok (.val (.tuple ((poss first s).map .int))) none := by
  have nw := number_ok w hw hwl
  rw [hn] at nw
  unfold sgB at hg
  rw [Bool.and_eq_true, decide_eq_true_eq] at hg
  have g1 := atI_S0 h0
  have g2 := atI_Sl h0
  rw [h1] at g1
  rw [h2] at g2
  have tr := is_row_ok (.tuple ((poss first s).map .int)) ⟨rfl, fun es h => by
    cases h
    refine ⟨?_, fun x hx => ?_⟩
    · rw [List.length_map]
      have h3 : (poss first s).length ≤ s.zipIdx.length := List.length_filterMap_le ..
      rw [List.length_zipIdx] at h3
      omega
    · obtain ⟨i, _, rfl⟩ := List.mem_map.mp hx
      rfl⟩
  rw [hr] at tr
  refine RF.wp.eq (wp_run ?_)
  simp [c_row_read, t_row_read, V_val, V_own, V_bor, vK_val, vK_own, vK_no, vK_none, wv_var, wv_cst, b2F_eq, b1F_eq, wv_bin, wv_cmp, wv_ix, wv_rng2, a1F_eq, wv_neg, wv_rev, wv_isin, wv_rng1, wv_ssort, andF_b, wv_and, orF_b, wv_or, notF_b, wv_not, conF_b, wv_ite, tupF_eq, wv_tup, lstF_eq, wv_lst, wv_dict, sl3F_eq, sl2F_eq, sl1F_eq, wv_sl, nF_eq, wv_bi, cF_eq, wv_call, mu2F_ex, muF1_b, wv_mu, mt2F_ex, mtF1_eq, wv_mt, c2F_eq, c1F_eq, wv_nil, wv_cons, lc2F_eq, lcF_eq, wv_lc, wv_yes, wv_cond, wv_no, wv_some, pF_int, seqF_eq, wv_seq, rngF_eq, wv_rng, ofF_eq, wv_zip, wv_enum, asgF_eq, wx_asg, drF_eq, wx_drop, reF_eq, wx_ret, wx_retN, wx_nop, wx_brk, wx_cont, ifF_b, wx_ite, wx_seq, wx_wh, foF_eq, wx_for, tsF_eq, wx_asgT, paF_eq, wx_par, s3F_ex, s2F_eq, s1F_eq, wx_setIx, flat, shaped_lints1, shaped_int, shaped_bool, shaped_none, shaped_nil, shaped_nilt, shaped_tints, shaped_lints, eqv_int, eqv_bool, eqv_tints, eqv_lints, eqv_lnil, eqv_tnil, any_ints, flat_ints, ex_cond, ex_cond2, ixN, atI_0, atI_1, atI_2, atI_3, wp_ok, wp_bad, wp_exc, wp_if, flK_next, flK_ret, flK_brk, flK_cont, tK_b, lpK_next, lpK_cont, lpK_brk, lpK_ret, rnK_next, rnK_ret, wp_turn, ltK_some, lt1F_eq, lt2F_eq, stAsg_val, stAsg_own, stAsg_bor, stRet_val, stRet_own, stRet_bor, exAsgT, exPar, setO, setL, setKd, setTd, mtGet, mtIndex, mtCount, mtJoin, mtSplit, mtPart, tyOkR, mtTyOk, MT.ty, mtF, viewRV, viewRVs, O.vw, boF, coF, bAdd, bSub, bMul, bDiv, bMod, bPow, bNeg, bEq, bNe, bCmp, bIn, isIn, bIs, isIs, bIx, bRev, bSl, bi, bLen, bMax, bMin, bAbs, bInt, bStr, bTuple, bList, bSorted, bAll, bAny, bSum, bDict, vInt, bIsin, vwIs, bRng1, bRng2, bRng, valArgs, setS_eq, setK_val, setK_own, setK_no, setK_lf, setK_lq, setT, setTs, recvOk, muF, muAppend, muExtend, muPop_snoc, muPop_one, muDpop, MU.isD, wp_callV, wp_callR, wp_callT, ctJ_some, ctK_val, ctK_own, valsD, clK_int, clK_bool, clK_str, clK_none, clK_tup, clK_own, clK_lst, crK_val, crK_own, RF.wp_ok, rfE_ok, rfF_eq, rfK_exc, rfK_val, rfK_own, wv_isE, bIsE, noExc_int, noExc_bool, noExc_none, noExc_str, noExc_list, noExc_tuple, noExc_k, noExc_t, O.fz, keyD, wv_chain, ch1F_eq, ch2F_eq, ch3F_eq, evSeq, rngOf, zipOf, enumOf, startE, argS, finO, stK, ownFree, wipeE, restE, sizeLine, R.bind_ok, -Prod.exists, -Bool.exists_bool, -Prod.forall, -Bool.forall_bool, li_none, li_col, li_od, li_o, li_nil, eqv_str, shaped_S, hc, okL_nil, okL_cons, S_beq, S_len, hne, hp, nw, signs_S]
  refine ⟨by omega, by omega, fun h => by exfalso; omega, fun _ => ⟨by omega, ?_⟩⟩
  have ga := hg.2
  rw [lc_on (fun c => PyData.str (S [c])) (fun c => PyData.bool (decide (c = 111) || decide (c = 46))) s fun c _ => by simp [V_val, V_own, V_bor, vK_val, vK_own, vK_no, vK_none, wv_var, wv_cst, b2F_eq, b1F_eq, wv_bin, wv_cmp, wv_ix, wv_rng2, a1F_eq, wv_neg, wv_rev, wv_isin, wv_rng1, wv_ssort, andF_b, wv_and, orF_b, wv_or, notF_b, wv_not, conF_b, wv_ite, tupF_eq, wv_tup, lstF_eq, wv_lst, wv_dict, sl3F_eq, sl2F_eq, sl1F_eq, wv_sl, nF_eq, wv_bi, cF_eq, wv_call, mu2F_ex, muF1_b, wv_mu, mt2F_ex, mtF1_eq, wv_mt, c2F_eq, c1F_eq, wv_nil, wv_cons, lc2F_eq, lcF_eq, wv_lc, wv_yes, wv_cond, wv_no, wv_some, pF_int, seqF_eq, wv_seq, rngF_eq, wv_rng, ofF_eq, wv_zip, wv_enum, asgF_eq, wx_asg, drF_eq, wx_drop, reF_eq, wx_ret, wx_retN, wx_nop, wx_brk, wx_cont, ifF_b, wx_ite, wx_seq, wx_wh, foF_eq, wx_for, tsF_eq, wx_asgT, paF_eq, wx_par, s3F_ex, s2F_eq, s1F_eq, wx_setIx, flat, shaped_lints1, shaped_int, shaped_bool, shaped_none, shaped_nil, shaped_nilt, shaped_tints, shaped_lints, eqv_int, eqv_bool, eqv_tints, eqv_lints, eqv_lnil, eqv_tnil, any_ints, flat_ints, ex_cond, ex_cond2, ixN, atI_0, atI_1, atI_2, atI_3, wp_ok, wp_bad, wp_exc, wp_if, flK_next, flK_ret, flK_brk, flK_cont, tK_b, lpK_next, lpK_cont, lpK_brk, lpK_ret, rnK_next, rnK_ret, wp_turn, ltK_some, lt1F_eq, lt2F_eq, stAsg_val, stAsg_own, stAsg_bor, stRet_val, stRet_own, stRet_bor, exAsgT, exPar, setO, setL, setKd, setTd, mtGet, mtIndex, mtCount, mtJoin, mtSplit, mtPart, tyOkR, mtTyOk, MT.ty, mtF, viewRV, viewRVs, O.vw, boF, coF, bAdd, bSub, bMul, bDiv, bMod, bPow, bNeg, bEq, bNe, bCmp, bIn, isIn, bIs, isIs, bIx, bRev, bSl, bi, bLen, bMax, bMin, bAbs, bInt, bStr, bTuple, bList, bSorted, bAll, bAny, bSum, bDict, vInt, bIsin, vwIs, bRng1, bRng2, bRng, valArgs, setS_eq, setK_val, setK_own, setK_no, setK_lf, setK_lq, setT, setTs, recvOk, muF, muAppend, muExtend, muPop_snoc, muPop_one, muDpop, MU.isD, wp_callV, wp_callR, wp_callT, ctJ_some, ctK_val, ctK_own, valsD, clK_int, clK_bool, clK_str, clK_none, clK_tup, clK_own, clK_lst, crK_val, crK_own, RF.wp_ok, rfE_ok, rfF_eq, rfK_exc, rfK_val, rfK_own, wv_isE, bIsE, noExc_int, noExc_bool, noExc_none, noExc_str, noExc_list, noExc_tuple, noExc_k, noExc_t, O.fz, keyD, wv_chain, ch1F_eq, ch2F_eq, ch3F_eq, evSeq, rngOf, zipOf, enumOf, startE, argS, finO, stK, ownFree, wipeE, restE, sizeLine, R.bind_ok, -Prod.exists, -Bool.exists_bool, -Prod.forall, -Bool.forall_bool, li_od, S_list]]
  simp [V_val, V_own, V_bor, vK_val, vK_own, vK_no, vK_none, wv_var, wv_cst, b2F_eq, b1F_eq, wv_bin, wv_cmp, wv_ix, wv_rng2, a1F_eq, wv_neg, wv_rev, wv_isin, wv_rng1, wv_ssort, andF_b, wv_and, orF_b, wv_or, notF_b, wv_not, conF_b, wv_ite, tupF_eq, wv_tup, lstF_eq, wv_lst, wv_dict, sl3F_eq, sl2F_eq, sl1F_eq, wv_sl, nF_eq, wv_bi, cF_eq, wv_call, mu2F_ex, muF1_b, wv_mu, mt2F_ex, mtF1_eq, wv_mt, c2F_eq, c1F_eq, wv_nil, wv_cons, lc2F_eq, lcF_eq, wv_lc, wv_yes, wv_cond, wv_no, wv_some, pF_int, seqF_eq, wv_seq, rngF_eq, wv_rng, ofF_eq, wv_zip, wv_enum, asgF_eq, wx_asg, drF_eq, wx_drop, reF_eq, wx_ret, wx_retN, wx_nop, wx_brk, wx_cont, ifF_b, wx_ite, wx_seq, wx_wh, foF_eq, wx_for, tsF_eq, wx_asgT, paF_eq, wx_par, s3F_ex, s2F_eq, s1F_eq, wx_setIx, flat, shaped_lints1, shaped_int, shaped_bool, shaped_none, shaped_nil, shaped_nilt, shaped_tints, shaped_lints, eqv_int, eqv_bool, eqv_tints, eqv_lints, eqv_lnil, eqv_tnil, any_ints, flat_ints, ex_cond, ex_cond2, ixN, atI_0, atI_1, atI_2, atI_3, wp_ok, wp_bad, wp_exc, wp_if, flK_next, flK_ret, flK_brk, flK_cont, tK_b, lpK_next, lpK_cont, lpK_brk, lpK_ret, rnK_next, rnK_ret, wp_turn, ltK_some, lt1F_eq, lt2F_eq, stAsg_val, stAsg_own, stAsg_bor, stRet_val, stRet_own, stRet_bor, exAsgT, exPar, setO, setL, setKd, setTd, mtGet, mtIndex, mtCount, mtJoin, mtSplit, mtPart, tyOkR, mtTyOk, MT.ty, mtF, viewRV, viewRVs, O.vw, boF, coF, bAdd, bSub, bMul, bDiv, bMod, bPow, bNeg, bEq, bNe, bCmp, bIn, isIn, bIs, isIs, bIx, bRev, bSl, bi, bLen, bMax, bMin, bAbs, bInt, bStr, bTuple, bList, bSorted, bAll, bAny, bSum, bDict, vInt, bIsin, vwIs, bRng1, bRng2, bRng, valArgs, setS_eq, setK_val, setK_own, setK_no, setK_lf, setK_lq, setT, setTs, recvOk, muF, muAppend, muExtend, muPop_snoc, muPop_one, muDpop, MU.isD, wp_callV, wp_callR, wp_callT, ctJ_some, ctK_val, ctK_own, valsD, clK_int, clK_bool, clK_str, clK_none, clK_tup, clK_own, clK_lst, crK_val, crK_own, RF.wp_ok, rfE_ok, rfF_eq, rfK_exc, rfK_val, rfK_own, wv_isE, bIsE, noExc_int, noExc_bool, noExc_none, noExc_str, noExc_list, noExc_tuple, noExc_k, noExc_t, O.fz, keyD, wv_chain, ch1F_eq, ch2F_eq, ch3F_eq, evSeq, rngOf, zipOf, enumOf, startE, argS, finO, stK, ownFree, wipeE, restE, sizeLine, R.bind_ok, -Prod.exists, -Bool.exists_bool, -Prod.forall, -Bool.forall_bool, asBools_f]
  have ga2 : ∀ x ∈ s, x = 111 ∨ x = 46 := fun x hx => by simpa using List.all_eq_true.mp ga x hx
  refine ⟨fun x hx h3 h4 => by have := ga2 x hx; omega, fun _ => ?_⟩
  have hne0 : (s = []) = False := eq_false h0
  have l1 : s.length ≤ 16777216 := by omega
  simp [V_val, V_own, V_bor, vK_val, vK_own, vK_no, vK_none, wv_var, wv_cst, b2F_eq, b1F_eq, wv_bin, wv_cmp, wv_ix, wv_rng2, a1F_eq, wv_neg, wv_rev, wv_isin, wv_rng1, wv_ssort, andF_b, wv_and, orF_b, wv_or, notF_b, wv_not, conF_b, wv_ite, tupF_eq, wv_tup, lstF_eq, wv_lst, wv_dict, sl3F_eq, sl2F_eq, sl1F_eq, wv_sl, nF_eq, wv_bi, cF_eq, wv_call, mu2F_ex, muF1_b, wv_mu, mt2F_ex, mtF1_eq, wv_mt, c2F_eq, c1F_eq, wv_nil, wv_cons, lc2F_eq, lcF_eq, wv_lc, wv_yes, wv_cond, wv_no, wv_some, pF_int, seqF_eq, wv_seq, rngF_eq, wv_rng, ofF_eq, wv_zip, wv_enum, asgF_eq, wx_asg, drF_eq, wx_drop, reF_eq, wx_ret, wx_retN, wx_nop, wx_brk, wx_cont, ifF_b, wx_ite, wx_seq, wx_wh, foF_eq, wx_for, tsF_eq, wx_asgT, paF_eq, wx_par, s3F_ex, s2F_eq, s1F_eq, wx_setIx, flat, shaped_lints1, shaped_int, shaped_bool, shaped_none, shaped_nil, shaped_nilt, shaped_tints, shaped_lints, eqv_int, eqv_bool, eqv_tints, eqv_lints, eqv_lnil, eqv_tnil, any_ints, flat_ints, ex_cond, ex_cond2, ixN, atI_0, atI_1, atI_2, atI_3, wp_ok, wp_bad, wp_exc, wp_if, flK_next, flK_ret, flK_brk, flK_cont, tK_b, lpK_next, lpK_cont, lpK_brk, lpK_ret, rnK_next, rnK_ret, wp_turn, ltK_some, lt1F_eq, lt2F_eq, stAsg_val, stAsg_own, stAsg_bor, stRet_val, stRet_own, stRet_bor, exAsgT, exPar, setO, setL, setKd, setTd, mtGet, mtIndex, mtCount, mtJoin, mtSplit, mtPart, tyOkR, mtTyOk, MT.ty, mtF, viewRV, viewRVs, O.vw, boF, coF, bAdd, bSub, bMul, bDiv, bMod, bPow, bNeg, bEq, bNe, bCmp, bIn, isIn, bIs, isIs, bIx, bRev, bSl, bi, bLen, bMax, bMin, bAbs, bInt, bStr, bTuple, bList, bSorted, bAll, bAny, bSum, bDict, vInt, bIsin, vwIs, bRng1, bRng2, bRng, valArgs, setS_eq, setK_val, setK_own, setK_no, setK_lf, setK_lq, setT, setTs, recvOk, muF, muAppend, muExtend, muPop_snoc, muPop_one, muDpop, MU.isD, wp_callV, wp_callR, wp_callT, ctJ_some, ctK_val, ctK_own, valsD, clK_int, clK_bool, clK_str, clK_none, clK_tup, clK_own, clK_lst, crK_val, crK_own, RF.wp_ok, rfE_ok, rfF_eq, rfK_exc, rfK_val, rfK_own, wv_isE, bIsE, noExc_int, noExc_bool, noExc_none, noExc_str, noExc_list, noExc_tuple, noExc_k, noExc_t, O.fz, keyD, wv_chain, ch1F_eq, ch2F_eq, ch3F_eq, evSeq, rngOf, zipOf, enumOf, startE, argS, finO, stK, ownFree, wipeE, restE, sizeLine, R.bind_ok, -Prod.exists, -Bool.exists_bool, -Prod.forall, -Bool.forall_bool, eqv_str, shaped_S, hs, okL_nil, okL_cons, S_beq, S_len, hne0, S_list, l1, g1, g2, li_o, enum_S]
  rw [lc_onF (fun p : Nat × Nat => PyData.tuple [.int (p.2 : Nat), .str (S [p.1])]) (fun p => if p.1 = 111 then some (PyData.int (first + p.2)) else none) s.zipIdx fun p hp => by
    have hk : p.1 < 1114112 := of_decide_eq_true (List.all_eq_true.mp hs _ (List.fst_mem_of_mem_zipIdx hp))
    by_cases h : p.1 = 111
    · rw [if_pos h]
      simp [V_val, V_own, V_bor, vK_val, vK_own, vK_no, vK_none, wv_var, wv_cst, b2F_eq, b1F_eq, wv_bin, wv_cmp, wv_ix, wv_rng2, a1F_eq, wv_neg, wv_rev, wv_isin, wv_rng1, wv_ssort, andF_b, wv_and, orF_b, wv_or, notF_b, wv_not, conF_b, wv_ite, tupF_eq, wv_tup, lstF_eq, wv_lst, wv_dict, sl3F_eq, sl2F_eq, sl1F_eq, wv_sl, nF_eq, wv_bi, cF_eq, wv_call, mu2F_ex, muF1_b, wv_mu, mt2F_ex, mtF1_eq, wv_mt, c2F_eq, c1F_eq, wv_nil, wv_cons, lc2F_eq, lcF_eq, wv_lc, wv_yes, wv_cond, wv_no, wv_some, pF_int, seqF_eq, wv_seq, rngF_eq, wv_rng, ofF_eq, wv_zip, wv_enum, asgF_eq, wx_asg, drF_eq, wx_drop, reF_eq, wx_ret, wx_retN, wx_nop, wx_brk, wx_cont, ifF_b, wx_ite, wx_seq, wx_wh, foF_eq, wx_for, tsF_eq, wx_asgT, paF_eq, wx_par, s3F_ex, s2F_eq, s1F_eq, wx_setIx, flat, shaped_lints1, shaped_int, shaped_bool, shaped_none, shaped_nil, shaped_nilt, shaped_tints, shaped_lints, eqv_int, eqv_bool, eqv_tints, eqv_lints, eqv_lnil, eqv_tnil, any_ints, flat_ints, ex_cond, ex_cond2, ixN, atI_0, atI_1, atI_2, atI_3, wp_ok, wp_bad, wp_exc, wp_if, flK_next, flK_ret, flK_brk, flK_cont, tK_b, lpK_next, lpK_cont, lpK_brk, lpK_ret, rnK_next, rnK_ret, wp_turn, ltK_some, lt1F_eq, lt2F_eq, stAsg_val, stAsg_own, stAsg_bor, stRet_val, stRet_own, stRet_bor, exAsgT, exPar, setO, setL, setKd, setTd, mtGet, mtIndex, mtCount, mtJoin, mtSplit, mtPart, tyOkR, mtTyOk, MT.ty, mtF, viewRV, viewRVs, O.vw, boF, coF, bAdd, bSub, bMul, bDiv, bMod, bPow, bNeg, bEq, bNe, bCmp, bIn, isIn, bIs, isIs, bIx, bRev, bSl, bi, bLen, bMax, bMin, bAbs, bInt, bStr, bTuple, bList, bSorted, bAll, bAny, bSum, bDict, vInt, bIsin, vwIs, bRng1, bRng2, bRng, valArgs, setS_eq, setK_val, setK_own, setK_no, setK_lf, setK_lq, setT, setTs, recvOk, muF, muAppend, muExtend, muPop_snoc, muPop_one, muDpop, MU.isD, wp_callV, wp_callR, wp_callT, ctJ_some, ctK_val, ctK_own, valsD, clK_int, clK_bool, clK_str, clK_none, clK_tup, clK_own, clK_lst, crK_val, crK_own, RF.wp_ok, rfE_ok, rfF_eq, rfK_exc, rfK_val, rfK_own, wv_isE, bIsE, noExc_int, noExc_bool, noExc_none, noExc_str, noExc_list, noExc_tuple, noExc_k, noExc_t, O.fz, keyD, wv_chain, ch1F_eq, ch2F_eq, ch3F_eq, evSeq, rngOf, zipOf, enumOf, startE, argS, finO, stK, ownFree, wipeE, restE, sizeLine, R.bind_ok, -Prod.exists, -Bool.exists_bool, -Prod.forall, -Bool.forall_bool, eqv_str, shaped_S, okL_nil, okL_cons, S_beq, h]
    · rw [if_neg h]
      simp [V_val, V_own, V_bor, vK_val, vK_own, vK_no, vK_none, wv_var, wv_cst, b2F_eq, b1F_eq, wv_bin, wv_cmp, wv_ix, wv_rng2, a1F_eq, wv_neg, wv_rev, wv_isin, wv_rng1, wv_ssort, andF_b, wv_and, orF_b, wv_or, notF_b, wv_not, conF_b, wv_ite, tupF_eq, wv_tup, lstF_eq, wv_lst, wv_dict, sl3F_eq, sl2F_eq, sl1F_eq, wv_sl, nF_eq, wv_bi, cF_eq, wv_call, mu2F_ex, muF1_b, wv_mu, mt2F_ex, mtF1_eq, wv_mt, c2F_eq, c1F_eq, wv_nil, wv_cons, lc2F_eq, lcF_eq, wv_lc, wv_yes, wv_cond, wv_no, wv_some, pF_int, seqF_eq, wv_seq, rngF_eq, wv_rng, ofF_eq, wv_zip, wv_enum, asgF_eq, wx_asg, drF_eq, wx_drop, reF_eq, wx_ret, wx_retN, wx_nop, wx_brk, wx_cont, ifF_b, wx_ite, wx_seq, wx_wh, foF_eq, wx_for, tsF_eq, wx_asgT, paF_eq, wx_par, s3F_ex, s2F_eq, s1F_eq, wx_setIx, flat, shaped_lints1, shaped_int, shaped_bool, shaped_none, shaped_nil, shaped_nilt, shaped_tints, shaped_lints, eqv_int, eqv_bool, eqv_tints, eqv_lints, eqv_lnil, eqv_tnil, any_ints, flat_ints, ex_cond, ex_cond2, ixN, atI_0, atI_1, atI_2, atI_3, wp_ok, wp_bad, wp_exc, wp_if, flK_next, flK_ret, flK_brk, flK_cont, tK_b, lpK_next, lpK_cont, lpK_brk, lpK_ret, rnK_next, rnK_ret, wp_turn, ltK_some, lt1F_eq, lt2F_eq, stAsg_val, stAsg_own, stAsg_bor, stRet_val, stRet_own, stRet_bor, exAsgT, exPar, setO, setL, setKd, setTd, mtGet, mtIndex, mtCount, mtJoin, mtSplit, mtPart, tyOkR, mtTyOk, MT.ty, mtF, viewRV, viewRVs, O.vw, boF, coF, bAdd, bSub, bMul, bDiv, bMod, bPow, bNeg, bEq, bNe, bCmp, bIn, isIn, bIs, isIs, bIx, bRev, bSl, bi, bLen, bMax, bMin, bAbs, bInt, bStr, bTuple, bList, bSorted, bAll, bAny, bSum, bDict, vInt, bIsin, vwIs, bRng1, bRng2, bRng, valArgs, setS_eq, setK_val, setK_own, setK_no, setK_lf, setK_lq, setT, setTs, recvOk, muF, muAppend, muExtend, muPop_snoc, muPop_one, muDpop, MU.isD, wp_callV, wp_callR, wp_callT, ctJ_some, ctK_val, ctK_own, valsD, clK_int, clK_bool, clK_str, clK_none, clK_tup, clK_own, clK_lst, crK_val, crK_own, RF.wp_ok, rfE_ok, rfF_eq, rfK_exc, rfK_val, rfK_own, wv_isE, bIsE, noExc_int, noExc_bool, noExc_none, noExc_str, noExc_list, noExc_tuple, noExc_k, noExc_t, O.fz, keyD, wv_chain, ch1F_eq, ch2F_eq, ch3F_eq, evSeq, rngOf, zipOf, enumOf, startE, argS, finO, stK, ownFree, wipeE, restE, sizeLine, R.bind_ok, -Prod.exists, -Bool.exists_bool, -Prod.forall, -Bool.forall_bool, eqv_str, shaped_S, okL_nil, okL_cons, S_beq, h, hk]]
  have e : s.zipIdx.filterMap (fun p => if p.1 = 111 then some (PyData.int (first + p.2)) else none) = (poss first s).map .int := by
    unfold poss
    rw [List.map_filterMap]
    congr 1
    funext p
    by_cases h : p.1 = 111
    · rw [if_pos h, if_pos h]
      rfl
    · rw [if_neg h, if_neg h]
      rfl
  rw [e]
  simp [V_val, V_own, V_bor, vK_val, vK_own, vK_no, vK_none, wv_var, wv_cst, b2F_eq, b1F_eq, wv_bin, wv_cmp, wv_ix, wv_rng2, a1F_eq, wv_neg, wv_rev, wv_isin, wv_rng1, wv_ssort, andF_b, wv_and, orF_b, wv_or, notF_b, wv_not, conF_b, wv_ite, tupF_eq, wv_tup, lstF_eq, wv_lst, wv_dict, sl3F_eq, sl2F_eq, sl1F_eq, wv_sl, nF_eq, wv_bi, cF_eq, wv_call, mu2F_ex, muF1_b, wv_mu, mt2F_ex, mtF1_eq, wv_mt, c2F_eq, c1F_eq, wv_nil, wv_cons, lc2F_eq, lcF_eq, wv_lc, wv_yes, wv_cond, wv_no, wv_some, pF_int, seqF_eq, wv_seq, rngF_eq, wv_rng, ofF_eq, wv_zip, wv_enum, asgF_eq, wx_asg, drF_eq, wx_drop, reF_eq, wx_ret, wx_retN, wx_nop, wx_brk, wx_cont, ifF_b, wx_ite, wx_seq, wx_wh, foF_eq, wx_for, tsF_eq, wx_asgT, paF_eq, wx_par, s3F_ex, s2F_eq, s1F_eq, wx_setIx, flat, shaped_lints1, shaped_int, shaped_bool, shaped_none, shaped_nil, shaped_nilt, shaped_tints, shaped_lints, eqv_int, eqv_bool, eqv_tints, eqv_lints, eqv_lnil, eqv_tnil, any_ints, flat_ints, ex_cond, ex_cond2, ixN, atI_0, atI_1, atI_2, atI_3, wp_ok, wp_bad, wp_exc, wp_if, flK_next, flK_ret, flK_brk, flK_cont, tK_b, lpK_next, lpK_cont, lpK_brk, lpK_ret, rnK_next, rnK_ret, wp_turn, ltK_some, lt1F_eq, lt2F_eq, stAsg_val, stAsg_own, stAsg_bor, stRet_val, stRet_own, stRet_bor, exAsgT, exPar, setO, setL, setKd, setTd, mtGet, mtIndex, mtCount, mtJoin, mtSplit, mtPart, tyOkR, mtTyOk, MT.ty, mtF, viewRV, viewRVs, O.vw, boF, coF, bAdd, bSub, bMul, bDiv, bMod, bPow, bNeg, bEq, bNe, bCmp, bIn, isIn, bIs, isIs, bIx, bRev, bSl, bi, bLen, bMax, bMin, bAbs, bInt, bStr, bTuple, bList, bSorted, bAll, bAny, bSum, bDict, vInt, bIsin, vwIs, bRng1, bRng2, bRng, valArgs, setS_eq, setK_val, setK_own, setK_no, setK_lf, setK_lq, setT, setTs, recvOk, muF, muAppend, muExtend, muPop_snoc, muPop_one, muDpop, MU.isD, wp_callV, wp_callR, wp_callT, ctJ_some, ctK_val, ctK_own, valsD, clK_int, clK_bool, clK_str, clK_none, clK_tup, clK_own, clK_lst, crK_val, crK_own, RF.wp_ok, rfE_ok, rfF_eq, rfK_exc, rfK_val, rfK_own, wv_isE, bIsE, noExc_int, noExc_bool, noExc_none, noExc_str, noExc_list, noExc_tuple, noExc_k, noExc_t, O.fz, keyD, wv_chain, ch1F_eq, ch2F_eq, ch3F_eq, evSeq, rngOf, zipOf, enumOf, startE, argS, finO, stK, ownFree, wipeE, restE, sizeLine, R.bind_ok, -Prod.exists, -Bool.exists_bool, -Prod.forall, -Bool.forall_bool, tr]
end BX.k92

set_option Elab.async false
set_option linter.all false
set_option maxRecDepth 100000
set_option maxHeartbeats 4000000
namespace BX.k92
open PySem PySem.Spec PyProof.Rows L2 RZ PureT
/-! ### a row's own text, read -/
theorem inc_ext : ∀ (a b : List Int), Inc a → Inc b → (∀ x, x ∈ a ↔ x ∈ b) → a = b
  | [], [], _, _, _ => rfl
  | [], y :: b, _, _, h => absurd ((h y).mpr (List.mem_cons_self ..)) (by simp)
  | x :: a, [], _, _, h => absurd ((h x).mp (List.mem_cons_self ..)) (by simp)
  | x :: a, y :: b, ha, hb, h => by
    have pa := List.pairwise_cons.mp ha
    have pb := List.pairwise_cons.mp hb
    have e : x = y := by
      rcases List.mem_cons.mp ((h x).mp (List.mem_cons_self ..)) with e | h1
      · exact e
      · rcases List.mem_cons.mp ((h y).mpr (List.mem_cons_self ..)) with e | h2
        · exact e.symm
        · have := pb.1 x h1
          have := pa.1 y h2
          omega
    subst e
    rw [inc_ext a b pa.2 pb.2 fun z => ?_]
    have hz := h z
    rw [List.mem_cons, List.mem_cons] at hz
    constructor
    · intro h1
      rcases hz.mp (.inr h1) with e | h2
      · have := pa.1 z h1
        omega
      · exact h2
    · intro h1
      rcases hz.mpr (.inr h1) with e | h2
      · have := pb.1 z h1
        omega
      · exact h2
theorem inc_hl : ∀ (row : List Int), Inc row → ∀ y ∈ row, row.headD 0 ≤ y ∧ y ≤ row.getLastD 0
  | [], _, y, h => by cases h
  | [a], _, y, h => by
    rw [List.mem_singleton.mp h]
    exact ⟨Int.le_refl _, Int.le_refl _⟩
  | a :: b :: r, hi, y, h => by
    have p := List.pairwise_cons.mp hi
    have ih := inc_hl (b :: r) p.2
    have e : (a :: b :: r).getLastD 0 = (b :: r).getLastD 0 := rfl
    have e2 : (a :: b :: r).headD 0 = a := rfl
    rw [e, e2]
    rcases List.mem_cons.mp h with rfl | h
    · have h1 := ih b (List.mem_cons_self ..)
      have := p.1 b (List.mem_cons_self ..)
      omega
    · have := p.1 y h
      have := ih y h
      omega
theorem last_mem {l : List Int} (h : l ≠ []) : l.getLastD 0 ∈ l := by
  have e2 : l.getLastD 0 = l.getLast h := by
    cases l with
    | nil => exact absurd rfl h
    | cons a r => rfl
  rw [e2]
  exact List.getLast_mem h
theorem head_mem {l : List Int} (h : l ≠ []) : l.headD 0 ∈ l := by
  cases l with
  | nil => exact absurd rfl h
  | cons a r => exact List.mem_cons_self ..
theorem zip_idx (f : Nat → Nat) (n : Nat) : ((List.range n).map f).zipIdx = (List.range n).map fun i => (f i, i) := by
  refine List.ext_getElem (by simp) fun i h1 h2 => ?_
  simp
theorem fm_aux (row : List Int) (a : Int) : ∀ l : List Nat, (l.filterMap fun (i : Nat) => if (if a + (i : Int) ∈ row then 111 else 46) = 111 then some (a + (i : Int)) else none) = (l.map fun (i : Nat) => a + (i : Int)).filter fun p => decide (p ∈ row)
  | [] => rfl
  | i :: l => by
    have ih := fm_aux row a l
    rw [List.filterMap_cons, List.map_cons, List.filter_cons, ih]
    by_cases h : a + (i : Int) ∈ row
    · simp [h]
    · simp [h]
theorem poss_cells (row : List Int) (a b : Int) : poss a (cells row a b) = (rangeL a (b + 1)).filter fun p => decide (p ∈ row) := by
  unfold poss cells rangeL
  rw [List.map_map, zip_idx, List.filterMap_map]
  exact fm_aux row a _
theorem inc_range (a b : Int) : Inc (rangeL a b) := by
  unfold rangeL
  refine List.Pairwise.map _ (fun x y h => ?_) List.pairwise_lt_range
  show a + (x : Int) < a + (y : Int)
  omega
theorem poss_row (row : List Int) (hi : Inc row) : poss (row.headD 0) (cells row (row.headD 0) (row.getLastD 0)) = row := by
  rw [poss_cells]
  refine inc_ext _ _ ((inc_range _ _).filter _) hi fun x => ?_
  rw [List.mem_filter, decide_eq_true_eq]
  refine ⟨fun h => h.2, fun h => ⟨?_, h⟩⟩
  have := inc_hl row hi x h
  rw [rangeL_seg, mem_seg]
  omega
theorem zi_inc : ∀ (row : List Int), Inc row → zi row = true
  | [], _ => rfl
  | [_], _ => rfl
  | a :: b :: r, h => by
    have p := List.pairwise_cons.mp h
    show (decide (a < b) && zi (b :: r)) = true
    rw [decide_eq_true (p.1 b (List.mem_cons_self ..)), zi_inc (b :: r) p.2]
    rfl
theorem rowB_inc (row : List Int) (hi : Inc row) (hl : row.length ≤ 12) (hy : ∀ y ∈ row, -1000000000 ≤ y ∧ y ≤ 1000000000) : rowB (.tuple (row.map .int)) = true := by
  rw [rowB_t, List.length_map, decide_eq_true hl, intsOf_map, zi_inc row hi]
  have : allB (row.map .int) = true := by
    unfold allB
    rw [List.all_map, List.all_eq_true]
    intro y h
    exact decide_eq_true (hy y h)
  rw [this]
  rfl
theorem cells_at {row : List Int} {a b : Int} (h : a ≤ b) (ha : a ∈ row) (hb : b ∈ row) : (cells row a b).headD 0 = 111 ∧ (cells row a b).getLastD 0 = 111 ∧ cells row a b ≠ [] ∧ ∀ c ∈ cells row a b, c = 111 ∨ c = 46 := by
  obtain ⟨n, e⟩ : ∃ n : Nat, b = a + n := ⟨(b - a).toNat, by omega⟩
  have e1 : rangeL a (b + 1) = rangeL a b ++ [b] := by
    unfold rangeL
    rw [show (b + 1 - a).toNat = n + 1 by omega, show (b - a).toNat = n by omega, List.range_succ, List.map_append, e]
    rfl
  have e2 : cells row a b = ((rangeL a b).map fun p => if p ∈ row then 111 else 46) ++ [111] := by
    unfold cells
    rw [e1, List.map_append]
    show _ ++ [if b ∈ row then 111 else 46] = _
    rw [if_pos hb]
  refine ⟨?_, ?_, ?_, fun c hc => ?_⟩
  · unfold cells rangeL
    rw [show (b + 1 - a).toNat = n + 1 by omega, List.range_succ_eq_map]
    show (if a + ((0 : Nat) : Int) ∈ row then 111 else 46) = 111
    rw [show a + ((0 : Nat) : Int) = a by omega, if_pos ha]
  · rw [e2, List.getLastD_concat]
  · rw [e2]
    simp
  · unfold cells at hc
    obtain ⟨p, _, rfl⟩ := List.mem_map.mp hc
    split
    · exact .inl rfl
    · exact .inr rfl
theorem rowT_free (n : Int) (r : List Nat) : ¬ itx n ++ 58 :: r = [110, 111, 110, 101] := fun h => by
  have hm : (58 : Nat) ∈ itx n ++ 58 :: r := by simp
  rw [h] at hm
  revert hm
  decide
theorem itx_free (n : Int) : 58 ∉ itx n := int_text_free' 58 (by decide) n
theorem read_own (row : List Int) (hi : Inc row) (hl : row.length ≤ 12) (hy : ∀ y ∈ row, -1000000000 ≤ y ∧ y ≤ 1000000000) (hw : row.getLastD 0 ≤ row.headD 0 + 199) : f_row_read [.val (.str (S (rowT row)))] = .ok (.val (.tuple (row.map .int))) none := by
  by_cases hne : row = []
  · subst hne
    refine RF.wp.eq (wp_run ?_)
    simp [c_row_read, t_row_read, V_val, V_own, V_bor, vK_val, vK_own, vK_no, vK_none, wv_var, wv_cst, b2F_eq, b1F_eq, wv_bin, wv_cmp, wv_ix, wv_rng2, a1F_eq, wv_neg, wv_rev, wv_isin, wv_rng1, wv_ssort, andF_b, wv_and, orF_b, wv_or, notF_b, wv_not, conF_b, wv_ite, tupF_eq, wv_tup, lstF_eq, wv_lst, wv_dict, sl3F_eq, sl2F_eq, sl1F_eq, wv_sl, nF_eq, wv_bi, cF_eq, wv_call, mu2F_ex, muF1_b, wv_mu, mt2F_ex, mtF1_eq, wv_mt, c2F_eq, c1F_eq, wv_nil, wv_cons, lc2F_eq, lcF_eq, wv_lc, wv_yes, wv_cond, wv_no, wv_some, pF_int, seqF_eq, wv_seq, rngF_eq, wv_rng, ofF_eq, wv_zip, wv_enum, asgF_eq, wx_asg, drF_eq, wx_drop, reF_eq, wx_ret, wx_retN, wx_nop, wx_brk, wx_cont, ifF_b, wx_ite, wx_seq, wx_wh, foF_eq, wx_for, tsF_eq, wx_asgT, paF_eq, wx_par, s3F_ex, s2F_eq, s1F_eq, wx_setIx, flat, shaped_lints1, shaped_int, shaped_bool, shaped_none, shaped_nil, shaped_nilt, shaped_tints, shaped_lints, eqv_int, eqv_bool, eqv_tints, eqv_lints, eqv_lnil, eqv_tnil, any_ints, flat_ints, ex_cond, ex_cond2, ixN, atI_0, atI_1, atI_2, atI_3, wp_ok, wp_bad, wp_exc, wp_if, flK_next, flK_ret, flK_brk, flK_cont, tK_b, lpK_next, lpK_cont, lpK_brk, lpK_ret, rnK_next, rnK_ret, wp_turn, ltK_some, lt1F_eq, lt2F_eq, stAsg_val, stAsg_own, stAsg_bor, stRet_val, stRet_own, stRet_bor, exAsgT, exPar, setO, setL, setKd, setTd, mtGet, mtIndex, mtCount, mtJoin, mtSplit, mtPart, tyOkR, mtTyOk, MT.ty, mtF, viewRV, viewRVs, O.vw, boF, coF, bAdd, bSub, bMul, bDiv, bMod, bPow, bNeg, bEq, bNe, bCmp, bIn, isIn, bIs, isIs, bIx, bRev, bSl, bi, bLen, bMax, bMin, bAbs, bInt, bStr, bTuple, bList, bSorted, bAll, bAny, bSum, bDict, vInt, bIsin, vwIs, bRng1, bRng2, bRng, valArgs, setS_eq, setK_val, setK_own, setK_no, setK_lf, setK_lq, setT, setTs, recvOk, muF, muAppend, muExtend, muPop_snoc, muPop_one, muDpop, MU.isD, wp_callV, wp_callR, wp_callT, ctJ_some, ctK_val, ctK_own, valsD, clK_int, clK_bool, clK_str, clK_none, clK_tup, clK_own, clK_lst, crK_val, crK_own, RF.wp_ok, rfE_ok, rfF_eq, rfK_exc, rfK_val, rfK_own, wv_isE, bIsE, noExc_int, noExc_bool, noExc_none, noExc_str, noExc_list, noExc_tuple, noExc_k, noExc_t, O.fz, keyD, wv_chain, ch1F_eq, ch2F_eq, ch3F_eq, evSeq, rngOf, zipOf, enumOf, startE, argS, finO, stK, ownFree, wipeE, restE, sizeLine, R.bind_ok, -Prod.exists, -Bool.exists_bool, -Prod.forall, -Bool.forall_bool, li_none, eqv_str, shaped_S, rowT, S_beq, okL_nil, okL_cons]
  · have h0 := head_mem hne
    have h1 := last_mem hne
    have b0 := hy _ h0
    have b1 := hy _ h1
    have h2 := (inc_hl row hi _ h1).1
    have c := cells_at h2 h0 h1
    have hlen := cells_len row (row.headD 0) (row.getLastD 0)
    have hix := itx_len (n := row.headD 0) (by omega)
    have ok1 : okL (itx (row.headD 0)) = true := okL_of (itx_lt _)
    have ok2 : okL (cells row (row.headD 0) (row.getLastD 0)) = true := okL_of fun x hx => by
      rcases c.2.2.2 x hx with rfl | rfl <;> decide
    have pr := poss_row row hi
    have key := row_read_ok (rowT row) (itx (row.headD 0)) (cells row (row.headD 0) (row.getLastD 0)) (S [58]) (row.headD 0)
      (by rw [rowT_cons hne, okL_app, okL_cons, ok1, ok2]; decide)
      (by rw [rowT_cons hne, List.length_append, List.length_cons]; omega)
      (by rw [rowT_cons hne]; exact rowT_free _ _)
      (by
        rw [rowT_cons hne]
        exact SX.partition_some (by simp) (SX.par_head _ (itx_free _)))
      ok1 (by omega) ok2 (numI_itx _ (by omega))
      (by
        unfold sgB
        rw [decide_eq_true (by omega), Bool.true_and, List.all_eq_true]
        intro x hx
        rcases c.2.2.2 x hx with rfl | rfl <;> decide)
      c.2.2.1 c.1 c.2.1 (by rw [pr]; exact rowB_inc row hi hl hy)
    rw [pr] at key
    exact key
/-! ### what a text writes -/
def parP (cs : List Nat) : List Nat × List Nat := match TL.par [58] [] cs with
  | some p => p
  | none => (cs, [])
theorem par_cases (cs : List Nat) : (58 ∉ cs ∧ parP cs = (cs, []) ∧ Txt.partition (S cs) (S [58]) = (S cs, S [], S [])) ∨ ∃ p q, cs = p ++ 58 :: q ∧ 58 ∉ p ∧ parP cs = (p, q) ∧ Txt.partition (S cs) (S [58]) = (S p, S [58], S q) := by
  by_cases h : 58 ∈ cs
  · obtain ⟨p, q, e, hp⟩ := List.eq_append_cons_of_mem h
    have e2 : TL.par [58] [] cs = some (p, q) := by rw [e]; exact SX.par_head (sep := []) q hp
    refine .inr ⟨p, q, e, hp, ?_, SX.partition_some (by simp) e2⟩
    unfold parP
    rw [e2]
  · have e2 : TL.par [58] [] cs = none := SX.par_head_none h
    refine .inl ⟨h, ?_, SX.partition_none (by simp) e2⟩
    unfold parP
    rw [e2]
theorem part_S (cs : List Nat) (h : okL cs = true) : ∃ m : List Nat, Txt.partition (S cs) (S [58]) = (S (parP cs).1, S m, S (parP cs).2) ∧ okL (parP cs).1 = true ∧ okL (parP cs).2 = true ∧ (parP cs).1.length ≤ cs.length ∧ (parP cs).2.length ≤ cs.length ∧ okL m = true ∧ m.length ≤ 1 ∧ (parP cs).1.length + m.length + (parP cs).2.length ≤ cs.length := by
  rcases par_cases cs with ⟨h1, h2, h3⟩ | ⟨p, q, rfl, h1, h2, h3⟩
  · rw [h2]
    exact ⟨[], h3, h, rfl, Nat.le_refl _, Nat.zero_le _, rfl, by simp, by simp⟩
  · rw [h2]
    refine ⟨[58], h3, okL_sub h fun c hc => by simp [hc], okL_sub h fun c hc => by simp [hc], by simp, by simp; omega, by decide, by simp, by simp; omega⟩
def sgOk (first : Int) (s : List Nat) : Bool := decide (s ≠ [] ∧ s.headD 0 = 111 ∧ s.getLastD 0 = 111) && rowB (.tuple ((poss first s).map .int))
def rdT (cs : List Nat) : Option (List Int) := if cs = [110, 111, 110, 101] then some [] else match numI (parP cs).1 with
  | none => none
  | some f => if sgB (parP cs).2 = true ∧ sgOk f (parP cs).2 = true then some (poss f (parP cs).2) else none
theorem row_read_some (cs : List Nat) (hc : okL cs = true) (hl : cs.length ≤ 500) (r : List Int) (h : rdT cs = some r) : f_row_read [.val (.str (S cs))] = .ok (.val (.tuple (r.map .int))) none := by
  unfold rdT at h
  by_cases h0 : cs = [110, 111, 110, 101]
  · rw [if_pos h0] at h
    cases h
    subst h0
    refine RF.wp.eq (wp_run ?_)
    simp [c_row_read, t_row_read, V_val, V_own, V_bor, vK_val, vK_own, vK_no, vK_none, wv_var, wv_cst, b2F_eq, b1F_eq, wv_bin, wv_cmp, wv_ix, wv_rng2, a1F_eq, wv_neg, wv_rev, wv_isin, wv_rng1, wv_ssort, andF_b, wv_and, orF_b, wv_or, notF_b, wv_not, conF_b, wv_ite, tupF_eq, wv_tup, lstF_eq, wv_lst, wv_dict, sl3F_eq, sl2F_eq, sl1F_eq, wv_sl, nF_eq, wv_bi, cF_eq, wv_call, mu2F_ex, muF1_b, wv_mu, mt2F_ex, mtF1_eq, wv_mt, c2F_eq, c1F_eq, wv_nil, wv_cons, lc2F_eq, lcF_eq, wv_lc, wv_yes, wv_cond, wv_no, wv_some, pF_int, seqF_eq, wv_seq, rngF_eq, wv_rng, ofF_eq, wv_zip, wv_enum, asgF_eq, wx_asg, drF_eq, wx_drop, reF_eq, wx_ret, wx_retN, wx_nop, wx_brk, wx_cont, ifF_b, wx_ite, wx_seq, wx_wh, foF_eq, wx_for, tsF_eq, wx_asgT, paF_eq, wx_par, s3F_ex, s2F_eq, s1F_eq, wx_setIx, flat, shaped_lints1, shaped_int, shaped_bool, shaped_none, shaped_nil, shaped_nilt, shaped_tints, shaped_lints, eqv_int, eqv_bool, eqv_tints, eqv_lints, eqv_lnil, eqv_tnil, any_ints, flat_ints, ex_cond, ex_cond2, ixN, atI_0, atI_1, atI_2, atI_3, wp_ok, wp_bad, wp_exc, wp_if, flK_next, flK_ret, flK_brk, flK_cont, tK_b, lpK_next, lpK_cont, lpK_brk, lpK_ret, rnK_next, rnK_ret, wp_turn, ltK_some, lt1F_eq, lt2F_eq, stAsg_val, stAsg_own, stAsg_bor, stRet_val, stRet_own, stRet_bor, exAsgT, exPar, setO, setL, setKd, setTd, mtGet, mtIndex, mtCount, mtJoin, mtSplit, mtPart, tyOkR, mtTyOk, MT.ty, mtF, viewRV, viewRVs, O.vw, boF, coF, bAdd, bSub, bMul, bDiv, bMod, bPow, bNeg, bEq, bNe, bCmp, bIn, isIn, bIs, isIs, bIx, bRev, bSl, bi, bLen, bMax, bMin, bAbs, bInt, bStr, bTuple, bList, bSorted, bAll, bAny, bSum, bDict, vInt, bIsin, vwIs, bRng1, bRng2, bRng, valArgs, setS_eq, setK_val, setK_own, setK_no, setK_lf, setK_lq, setT, setTs, recvOk, muF, muAppend, muExtend, muPop_snoc, muPop_one, muDpop, MU.isD, wp_callV, wp_callR, wp_callT, ctJ_some, ctK_val, ctK_own, valsD, clK_int, clK_bool, clK_str, clK_none, clK_tup, clK_own, clK_lst, crK_val, crK_own, RF.wp_ok, rfE_ok, rfF_eq, rfK_exc, rfK_val, rfK_own, wv_isE, bIsE, noExc_int, noExc_bool, noExc_none, noExc_str, noExc_list, noExc_tuple, noExc_k, noExc_t, O.fz, keyD, wv_chain, ch1F_eq, ch2F_eq, ch3F_eq, evSeq, rngOf, zipOf, enumOf, startE, argS, finO, stK, ownFree, wipeE, restE, sizeLine, R.bind_ok, -Prod.exists, -Bool.exists_bool, -Prod.forall, -Bool.forall_bool, li_none, eqv_str, shaped_S, S_beq, okL_nil, okL_cons]
  · rw [if_neg h0] at h
    cases hn : numI (parP cs).1 with
    | none => rw [hn] at h; cases h
    | some f =>
      rw [hn] at h
      simp only at h
      split at h
      · rename_i hs
        cases h
        obtain ⟨h1, h2⟩ := hs
        unfold sgOk at h2
        rw [Bool.and_eq_true, decide_eq_true_eq] at h2
        obtain ⟨m, hp, o1, o2, l1, l2, _⟩ := part_S cs hc
        exact row_read_ok cs _ _ (S m) f hc hl h0 hp o1 (by omega) o2 hn h1 h2.1.1 h2.1.2.1 h2.1.2.2 h2.2
      · cases h
theorem row_read_exc (cs : List Nat) (hc : okL cs = true) (hl : cs.length ≤ 500) (h : rdT cs = none) : f_row_read [.val (.str (S cs))] = .exc "BadNote" none := by
  unfold rdT at h
  by_cases h0 : cs = [110, 111, 110, 101]
  · rw [if_pos h0] at h
    cases h
  · rw [if_neg h0] at h
    obtain ⟨m, hp, o1, o2, l1, l2, _⟩ := part_S cs hc
    have nw := number_ok _ o1 (by omega)
    generalize parP cs = pq at *
    obtain ⟨w, s⟩ := pq
    simp only at hp o1 o2 l1 l2 h nw
    refine run_exc (ds := [.str (S cs)]) (xp_seq (R.wp.xp ?_))
    simp [t_row_read, V_val, V_own, V_bor, vK_val, vK_own, vK_no, vK_none, wv_var, wv_cst, b2F_eq, b1F_eq, wv_bin, wv_cmp, wv_ix, wv_rng2, a1F_eq, wv_neg, wv_rev, wv_isin, wv_rng1, wv_ssort, andF_b, wv_and, orF_b, wv_or, notF_b, wv_not, conF_b, wv_ite, tupF_eq, wv_tup, lstF_eq, wv_lst, wv_dict, sl3F_eq, sl2F_eq, sl1F_eq, wv_sl, nF_eq, wv_bi, cF_eq, wv_call, mu2F_ex, muF1_b, wv_mu, mt2F_ex, mtF1_eq, wv_mt, c2F_eq, c1F_eq, wv_nil, wv_cons, lc2F_eq, lcF_eq, wv_lc, wv_yes, wv_cond, wv_no, wv_some, pF_int, seqF_eq, wv_seq, rngF_eq, wv_rng, ofF_eq, wv_zip, wv_enum, asgF_eq, wx_asg, drF_eq, wx_drop, reF_eq, wx_ret, wx_retN, wx_nop, wx_brk, wx_cont, ifF_b, wx_ite, wx_seq, wx_wh, foF_eq, wx_for, tsF_eq, wx_asgT, paF_eq, wx_par, s3F_ex, s2F_eq, s1F_eq, wx_setIx, flat, shaped_lints1, shaped_int, shaped_bool, shaped_none, shaped_nil, shaped_nilt, shaped_tints, shaped_lints, eqv_int, eqv_bool, eqv_tints, eqv_lints, eqv_lnil, eqv_tnil, any_ints, flat_ints, ex_cond, ex_cond2, ixN, atI_0, atI_1, atI_2, atI_3, wp_ok, wp_bad, wp_exc, wp_if, flK_next, flK_ret, flK_brk, flK_cont, tK_b, lpK_next, lpK_cont, lpK_brk, lpK_ret, rnK_next, rnK_ret, wp_turn, ltK_some, lt1F_eq, lt2F_eq, stAsg_val, stAsg_own, stAsg_bor, stRet_val, stRet_own, stRet_bor, exAsgT, exPar, setO, setL, setKd, setTd, mtGet, mtIndex, mtCount, mtJoin, mtSplit, mtPart, tyOkR, mtTyOk, MT.ty, mtF, viewRV, viewRVs, O.vw, boF, coF, bAdd, bSub, bMul, bDiv, bMod, bPow, bNeg, bEq, bNe, bCmp, bIn, isIn, bIs, isIs, bIx, bRev, bSl, bi, bLen, bMax, bMin, bAbs, bInt, bStr, bTuple, bList, bSorted, bAll, bAny, bSum, bDict, vInt, bIsin, vwIs, bRng1, bRng2, bRng, valArgs, setS_eq, setK_val, setK_own, setK_no, setK_lf, setK_lq, setT, setTs, recvOk, muF, muAppend, muExtend, muPop_snoc, muPop_one, muDpop, MU.isD, wp_callV, wp_callR, wp_callT, ctJ_some, ctK_val, ctK_own, valsD, clK_int, clK_bool, clK_str, clK_none, clK_tup, clK_own, clK_lst, crK_val, crK_own, RF.wp_ok, rfE_ok, rfF_eq, rfK_exc, rfK_val, rfK_own, wv_isE, bIsE, noExc_int, noExc_bool, noExc_none, noExc_str, noExc_list, noExc_tuple, noExc_k, noExc_t, O.fz, keyD, wv_chain, ch1F_eq, ch2F_eq, ch3F_eq, evSeq, rngOf, zipOf, enumOf, startE, argS, finO, stK, ownFree, wipeE, restE, sizeLine, R.bind_ok, -Prod.exists, -Bool.exists_bool, -Prod.forall, -Bool.forall_bool]
    refine xp_seq (R.wp.xp ?_)
    simp [t_row_read, V_val, V_own, V_bor, vK_val, vK_own, vK_no, vK_none, wv_var, wv_cst, b2F_eq, b1F_eq, wv_bin, wv_cmp, wv_ix, wv_rng2, a1F_eq, wv_neg, wv_rev, wv_isin, wv_rng1, wv_ssort, andF_b, wv_and, orF_b, wv_or, notF_b, wv_not, conF_b, wv_ite, tupF_eq, wv_tup, lstF_eq, wv_lst, wv_dict, sl3F_eq, sl2F_eq, sl1F_eq, wv_sl, nF_eq, wv_bi, cF_eq, wv_call, mu2F_ex, muF1_b, wv_mu, mt2F_ex, mtF1_eq, wv_mt, c2F_eq, c1F_eq, wv_nil, wv_cons, lc2F_eq, lcF_eq, wv_lc, wv_yes, wv_cond, wv_no, wv_some, pF_int, seqF_eq, wv_seq, rngF_eq, wv_rng, ofF_eq, wv_zip, wv_enum, asgF_eq, wx_asg, drF_eq, wx_drop, reF_eq, wx_ret, wx_retN, wx_nop, wx_brk, wx_cont, ifF_b, wx_ite, wx_seq, wx_wh, foF_eq, wx_for, tsF_eq, wx_asgT, paF_eq, wx_par, s3F_ex, s2F_eq, s1F_eq, wx_setIx, flat, shaped_lints1, shaped_int, shaped_bool, shaped_none, shaped_nil, shaped_nilt, shaped_tints, shaped_lints, eqv_int, eqv_bool, eqv_tints, eqv_lints, eqv_lnil, eqv_tnil, any_ints, flat_ints, ex_cond, ex_cond2, ixN, atI_0, atI_1, atI_2, atI_3, wp_ok, wp_bad, wp_exc, wp_if, flK_next, flK_ret, flK_brk, flK_cont, tK_b, lpK_next, lpK_cont, lpK_brk, lpK_ret, rnK_next, rnK_ret, wp_turn, ltK_some, lt1F_eq, lt2F_eq, stAsg_val, stAsg_own, stAsg_bor, stRet_val, stRet_own, stRet_bor, exAsgT, exPar, setO, setL, setKd, setTd, mtGet, mtIndex, mtCount, mtJoin, mtSplit, mtPart, tyOkR, mtTyOk, MT.ty, mtF, viewRV, viewRVs, O.vw, boF, coF, bAdd, bSub, bMul, bDiv, bMod, bPow, bNeg, bEq, bNe, bCmp, bIn, isIn, bIs, isIs, bIx, bRev, bSl, bi, bLen, bMax, bMin, bAbs, bInt, bStr, bTuple, bList, bSorted, bAll, bAny, bSum, bDict, vInt, bIsin, vwIs, bRng1, bRng2, bRng, valArgs, setS_eq, setK_val, setK_own, setK_no, setK_lf, setK_lq, setT, setTs, recvOk, muF, muAppend, muExtend, muPop_snoc, muPop_one, muDpop, MU.isD, wp_callV, wp_callR, wp_callT, ctJ_some, ctK_val, ctK_own, valsD, clK_int, clK_bool, clK_str, clK_none, clK_tup, clK_own, clK_lst, crK_val, crK_own, RF.wp_ok, rfE_ok, rfF_eq, rfK_exc, rfK_val, rfK_own, wv_isE, bIsE, noExc_int, noExc_bool, noExc_none, noExc_str, noExc_list, noExc_tuple, noExc_k, noExc_t, O.fz, keyD, wv_chain, ch1F_eq, ch2F_eq, ch3F_eq, evSeq, rngOf, zipOf, enumOf, startE, argS, finO, stK, ownFree, wipeE, restE, sizeLine, R.bind_ok, -Prod.exists, -Bool.exists_bool, -Prod.forall, -Bool.forall_bool, li_none, eqv_str, shaped_S, hc, okL_nil, okL_cons, S_beq, h0]
    refine xp_seq (R.wp.xp ?_)
    simp [t_row_read, V_val, V_own, V_bor, vK_val, vK_own, vK_no, vK_none, wv_var, wv_cst, b2F_eq, b1F_eq, wv_bin, wv_cmp, wv_ix, wv_rng2, a1F_eq, wv_neg, wv_rev, wv_isin, wv_rng1, wv_ssort, andF_b, wv_and, orF_b, wv_or, notF_b, wv_not, conF_b, wv_ite, tupF_eq, wv_tup, lstF_eq, wv_lst, wv_dict, sl3F_eq, sl2F_eq, sl1F_eq, wv_sl, nF_eq, wv_bi, cF_eq, wv_call, mu2F_ex, muF1_b, wv_mu, mt2F_ex, mtF1_eq, wv_mt, c2F_eq, c1F_eq, wv_nil, wv_cons, lc2F_eq, lcF_eq, wv_lc, wv_yes, wv_cond, wv_no, wv_some, pF_int, seqF_eq, wv_seq, rngF_eq, wv_rng, ofF_eq, wv_zip, wv_enum, asgF_eq, wx_asg, drF_eq, wx_drop, reF_eq, wx_ret, wx_retN, wx_nop, wx_brk, wx_cont, ifF_b, wx_ite, wx_seq, wx_wh, foF_eq, wx_for, tsF_eq, wx_asgT, paF_eq, wx_par, s3F_ex, s2F_eq, s1F_eq, wx_setIx, flat, shaped_lints1, shaped_int, shaped_bool, shaped_none, shaped_nil, shaped_nilt, shaped_tints, shaped_lints, eqv_int, eqv_bool, eqv_tints, eqv_lints, eqv_lnil, eqv_tnil, any_ints, flat_ints, ex_cond, ex_cond2, ixN, atI_0, atI_1, atI_2, atI_3, wp_ok, wp_bad, wp_exc, wp_if, flK_next, flK_ret, flK_brk, flK_cont, tK_b, lpK_next, lpK_cont, lpK_brk, lpK_ret, rnK_next, rnK_ret, wp_turn, ltK_some, lt1F_eq, lt2F_eq, stAsg_val, stAsg_own, stAsg_bor, stRet_val, stRet_own, stRet_bor, exAsgT, exPar, setO, setL, setKd, setTd, mtGet, mtIndex, mtCount, mtJoin, mtSplit, mtPart, tyOkR, mtTyOk, MT.ty, mtF, viewRV, viewRVs, O.vw, boF, coF, bAdd, bSub, bMul, bDiv, bMod, bPow, bNeg, bEq, bNe, bCmp, bIn, isIn, bIs, isIs, bIx, bRev, bSl, bi, bLen, bMax, bMin, bAbs, bInt, bStr, bTuple, bList, bSorted, bAll, bAny, bSum, bDict, vInt, bIsin, vwIs, bRng1, bRng2, bRng, valArgs, setS_eq, setK_val, setK_own, setK_no, setK_lf, setK_lq, setT, setTs, recvOk, muF, muAppend, muExtend, muPop_snoc, muPop_one, muDpop, MU.isD, wp_callV, wp_callR, wp_callT, ctJ_some, ctK_val, ctK_own, valsD, clK_int, clK_bool, clK_str, clK_none, clK_tup, clK_own, clK_lst, crK_val, crK_own, RF.wp_ok, rfE_ok, rfF_eq, rfK_exc, rfK_val, rfK_own, wv_isE, bIsE, noExc_int, noExc_bool, noExc_none, noExc_str, noExc_list, noExc_tuple, noExc_k, noExc_t, O.fz, keyD, wv_chain, ch1F_eq, ch2F_eq, ch3F_eq, evSeq, rngOf, zipOf, enumOf, startE, argS, finO, stK, ownFree, wipeE, restE, sizeLine, R.bind_ok, -Prod.exists, -Bool.exists_bool, -Prod.forall, -Bool.forall_bool, li_col, S_len, hp]
    refine ⟨by omega, ?_⟩
    rw [flX_next]
    refine xp_seq (R.wp.xp ?_)
    cases hn : numI w with
    | none =>
      rw [hn] at nw
      simp [t_row_read, V_val, V_own, V_bor, vK_val, vK_own, vK_no, vK_none, wv_var, wv_cst, b2F_eq, b1F_eq, wv_bin, wv_cmp, wv_ix, wv_rng2, a1F_eq, wv_neg, wv_rev, wv_isin, wv_rng1, wv_ssort, andF_b, wv_and, orF_b, wv_or, notF_b, wv_not, conF_b, wv_ite, tupF_eq, wv_tup, lstF_eq, wv_lst, wv_dict, sl3F_eq, sl2F_eq, sl1F_eq, wv_sl, nF_eq, wv_bi, cF_eq, wv_call, mu2F_ex, muF1_b, wv_mu, mt2F_ex, mtF1_eq, wv_mt, c2F_eq, c1F_eq, wv_nil, wv_cons, lc2F_eq, lcF_eq, wv_lc, wv_yes, wv_cond, wv_no, wv_some, pF_int, seqF_eq, wv_seq, rngF_eq, wv_rng, ofF_eq, wv_zip, wv_enum, asgF_eq, wx_asg, drF_eq, wx_drop, reF_eq, wx_ret, wx_retN, wx_nop, wx_brk, wx_cont, ifF_b, wx_ite, wx_seq, wx_wh, foF_eq, wx_for, tsF_eq, wx_asgT, paF_eq, wx_par, s3F_ex, s2F_eq, s1F_eq, wx_setIx, flat, shaped_lints1, shaped_int, shaped_bool, shaped_none, shaped_nil, shaped_nilt, shaped_tints, shaped_lints, eqv_int, eqv_bool, eqv_tints, eqv_lints, eqv_lnil, eqv_tnil, any_ints, flat_ints, ex_cond, ex_cond2, ixN, atI_0, atI_1, atI_2, atI_3, wp_ok, wp_bad, wp_exc, wp_if, flK_next, flK_ret, flK_brk, flK_cont, tK_b, lpK_next, lpK_cont, lpK_brk, lpK_ret, rnK_next, rnK_ret, wp_turn, ltK_some, lt1F_eq, lt2F_eq, stAsg_val, stAsg_own, stAsg_bor, stRet_val, stRet_own, stRet_bor, exAsgT, exPar, setO, setL, setKd, setTd, mtGet, mtIndex, mtCount, mtJoin, mtSplit, mtPart, tyOkR, mtTyOk, MT.ty, mtF, viewRV, viewRVs, O.vw, boF, coF, bAdd, bSub, bMul, bDiv, bMod, bPow, bNeg, bEq, bNe, bCmp, bIn, isIn, bIs, isIs, bIx, bRev, bSl, bi, bLen, bMax, bMin, bAbs, bInt, bStr, bTuple, bList, bSorted, bAll, bAny, bSum, bDict, vInt, bIsin, vwIs, bRng1, bRng2, bRng, valArgs, setS_eq, setK_val, setK_own, setK_no, setK_lf, setK_lq, setT, setTs, recvOk, muF, muAppend, muExtend, muPop_snoc, muPop_one, muDpop, MU.isD, wp_callV, wp_callR, wp_callT, ctJ_some, ctK_val, ctK_own, valsD, clK_int, clK_bool, clK_str, clK_none, clK_tup, clK_own, clK_lst, crK_val, crK_own, RF.wp_ok, rfE_ok, rfF_eq, rfK_exc, rfK_val, rfK_own, wv_isE, bIsE, noExc_int, noExc_bool, noExc_none, noExc_str, noExc_list, noExc_tuple, noExc_k, noExc_t, O.fz, keyD, wv_chain, ch1F_eq, ch2F_eq, ch3F_eq, evSeq, rngOf, zipOf, enumOf, startE, argS, finO, stK, ownFree, wipeE, restE, sizeLine, R.bind_ok, -Prod.exists, -Bool.exists_bool, -Prod.forall, -Bool.forall_bool, nw, flX_next]
      refine xp_seq (xp_ite ?_)
      simp [t_row_read, V_val, V_own, V_bor, vK_val, vK_own, vK_no, vK_none, wv_var, wv_cst, b2F_eq, b1F_eq, wv_bin, wv_cmp, wv_ix, wv_rng2, a1F_eq, wv_neg, wv_rev, wv_isin, wv_rng1, wv_ssort, andF_b, wv_and, orF_b, wv_or, notF_b, wv_not, conF_b, wv_ite, tupF_eq, wv_tup, lstF_eq, wv_lst, wv_dict, sl3F_eq, sl2F_eq, sl1F_eq, wv_sl, nF_eq, wv_bi, cF_eq, wv_call, mu2F_ex, muF1_b, wv_mu, mt2F_ex, mtF1_eq, wv_mt, c2F_eq, c1F_eq, wv_nil, wv_cons, lc2F_eq, lcF_eq, wv_lc, wv_yes, wv_cond, wv_no, wv_some, pF_int, seqF_eq, wv_seq, rngF_eq, wv_rng, ofF_eq, wv_zip, wv_enum, asgF_eq, wx_asg, drF_eq, wx_drop, reF_eq, wx_ret, wx_retN, wx_nop, wx_brk, wx_cont, ifF_b, wx_ite, wx_seq, wx_wh, foF_eq, wx_for, tsF_eq, wx_asgT, paF_eq, wx_par, s3F_ex, s2F_eq, s1F_eq, wx_setIx, flat, shaped_lints1, shaped_int, shaped_bool, shaped_none, shaped_nil, shaped_nilt, shaped_tints, shaped_lints, eqv_int, eqv_bool, eqv_tints, eqv_lints, eqv_lnil, eqv_tnil, any_ints, flat_ints, ex_cond, ex_cond2, ixN, atI_0, atI_1, atI_2, atI_3, wp_ok, wp_bad, wp_exc, wp_if, flK_next, flK_ret, flK_brk, flK_cont, tK_b, lpK_next, lpK_cont, lpK_brk, lpK_ret, rnK_next, rnK_ret, wp_turn, ltK_some, lt1F_eq, lt2F_eq, stAsg_val, stAsg_own, stAsg_bor, stRet_val, stRet_own, stRet_bor, exAsgT, exPar, setO, setL, setKd, setTd, mtGet, mtIndex, mtCount, mtJoin, mtSplit, mtPart, tyOkR, mtTyOk, MT.ty, mtF, viewRV, viewRVs, O.vw, boF, coF, bAdd, bSub, bMul, bDiv, bMod, bPow, bNeg, bEq, bNe, bCmp, bIn, isIn, bIs, isIs, bIx, bRev, bSl, bi, bLen, bMax, bMin, bAbs, bInt, bStr, bTuple, bList, bSorted, bAll, bAny, bSum, bDict, vInt, bIsin, vwIs, bRng1, bRng2, bRng, valArgs, setS_eq, setK_val, setK_own, setK_no, setK_lf, setK_lq, setT, setTs, recvOk, muF, muAppend, muExtend, muPop_snoc, muPop_one, muDpop, MU.isD, wp_callV, wp_callR, wp_callT, ctJ_some, ctK_val, ctK_own, valsD, clK_int, clK_bool, clK_str, clK_none, clK_tup, clK_own, clK_lst, crK_val, crK_own, RF.wp_ok, rfE_ok, rfF_eq, rfK_exc, rfK_val, rfK_own, wv_isE, bIsE, noExc_int, noExc_bool, noExc_none, noExc_str, noExc_list, noExc_tuple, noExc_k, noExc_t, O.fz, keyD, wv_chain, ch1F_eq, ch2F_eq, ch3F_eq, evSeq, rngOf, zipOf, enumOf, startE, argS, finO, stK, ownFree, wipeE, restE, sizeLine, R.bind_ok, -Prod.exists, -Bool.exists_bool, -Prod.forall, -Bool.forall_bool]
      exact xp_seq (xp_raise rfl)
    | some f =>
      rw [hn] at nw h
      simp only at h nw
      simp [t_row_read, V_val, V_own, V_bor, vK_val, vK_own, vK_no, vK_none, wv_var, wv_cst, b2F_eq, b1F_eq, wv_bin, wv_cmp, wv_ix, wv_rng2, a1F_eq, wv_neg, wv_rev, wv_isin, wv_rng1, wv_ssort, andF_b, wv_and, orF_b, wv_or, notF_b, wv_not, conF_b, wv_ite, tupF_eq, wv_tup, lstF_eq, wv_lst, wv_dict, sl3F_eq, sl2F_eq, sl1F_eq, wv_sl, nF_eq, wv_bi, cF_eq, wv_call, mu2F_ex, muF1_b, wv_mu, mt2F_ex, mtF1_eq, wv_mt, c2F_eq, c1F_eq, wv_nil, wv_cons, lc2F_eq, lcF_eq, wv_lc, wv_yes, wv_cond, wv_no, wv_some, pF_int, seqF_eq, wv_seq, rngF_eq, wv_rng, ofF_eq, wv_zip, wv_enum, asgF_eq, wx_asg, drF_eq, wx_drop, reF_eq, wx_ret, wx_retN, wx_nop, wx_brk, wx_cont, ifF_b, wx_ite, wx_seq, wx_wh, foF_eq, wx_for, tsF_eq, wx_asgT, paF_eq, wx_par, s3F_ex, s2F_eq, s1F_eq, wx_setIx, flat, shaped_lints1, shaped_int, shaped_bool, shaped_none, shaped_nil, shaped_nilt, shaped_tints, shaped_lints, eqv_int, eqv_bool, eqv_tints, eqv_lints, eqv_lnil, eqv_tnil, any_ints, flat_ints, ex_cond, ex_cond2, ixN, atI_0, atI_1, atI_2, atI_3, wp_ok, wp_bad, wp_exc, wp_if, flK_next, flK_ret, flK_brk, flK_cont, tK_b, lpK_next, lpK_cont, lpK_brk, lpK_ret, rnK_next, rnK_ret, wp_turn, ltK_some, lt1F_eq, lt2F_eq, stAsg_val, stAsg_own, stAsg_bor, stRet_val, stRet_own, stRet_bor, exAsgT, exPar, setO, setL, setKd, setTd, mtGet, mtIndex, mtCount, mtJoin, mtSplit, mtPart, tyOkR, mtTyOk, MT.ty, mtF, viewRV, viewRVs, O.vw, boF, coF, bAdd, bSub, bMul, bDiv, bMod, bPow, bNeg, bEq, bNe, bCmp, bIn, isIn, bIs, isIs, bIx, bRev, bSl, bi, bLen, bMax, bMin, bAbs, bInt, bStr, bTuple, bList, bSorted, bAll, bAny, bSum, bDict, vInt, bIsin, vwIs, bRng1, bRng2, bRng, valArgs, setS_eq, setK_val, setK_own, setK_no, setK_lf, setK_lq, setT, setTs, recvOk, muF, muAppend, muExtend, muPop_snoc, muPop_one, muDpop, MU.isD, wp_callV, wp_callR, wp_callT, ctJ_some, ctK_val, ctK_own, valsD, clK_int, clK_bool, clK_str, clK_none, clK_tup, clK_own, clK_lst, crK_val, crK_own, RF.wp_ok, rfE_ok, rfF_eq, rfK_exc, rfK_val, rfK_own, wv_isE, bIsE, noExc_int, noExc_bool, noExc_none, noExc_str, noExc_list, noExc_tuple, noExc_k, noExc_t, O.fz, keyD, wv_chain, ch1F_eq, ch2F_eq, ch3F_eq, evSeq, rngOf, zipOf, enumOf, startE, argS, finO, stK, ownFree, wipeE, restE, sizeLine, R.bind_ok, -Prod.exists, -Bool.exists_bool, -Prod.forall, -Bool.forall_bool, nw, flX_next]
      refine xp_seq (xp_ite ?_)
      simp [t_row_read, V_val, V_own, V_bor, vK_val, vK_own, vK_no, vK_none, wv_var, wv_cst, b2F_eq, b1F_eq, wv_bin, wv_cmp, wv_ix, wv_rng2, a1F_eq, wv_neg, wv_rev, wv_isin, wv_rng1, wv_ssort, andF_b, wv_and, orF_b, wv_or, notF_b, wv_not, conF_b, wv_ite, tupF_eq, wv_tup, lstF_eq, wv_lst, wv_dict, sl3F_eq, sl2F_eq, sl1F_eq, wv_sl, nF_eq, wv_bi, cF_eq, wv_call, mu2F_ex, muF1_b, wv_mu, mt2F_ex, mtF1_eq, wv_mt, c2F_eq, c1F_eq, wv_nil, wv_cons, lc2F_eq, lcF_eq, wv_lc, wv_yes, wv_cond, wv_no, wv_some, pF_int, seqF_eq, wv_seq, rngF_eq, wv_rng, ofF_eq, wv_zip, wv_enum, asgF_eq, wx_asg, drF_eq, wx_drop, reF_eq, wx_ret, wx_retN, wx_nop, wx_brk, wx_cont, ifF_b, wx_ite, wx_seq, wx_wh, foF_eq, wx_for, tsF_eq, wx_asgT, paF_eq, wx_par, s3F_ex, s2F_eq, s1F_eq, wx_setIx, flat, shaped_lints1, shaped_int, shaped_bool, shaped_none, shaped_nil, shaped_nilt, shaped_tints, shaped_lints, eqv_int, eqv_bool, eqv_tints, eqv_lints, eqv_lnil, eqv_tnil, any_ints, flat_ints, ex_cond, ex_cond2, ixN, atI_0, atI_1, atI_2, atI_3, wp_ok, wp_bad, wp_exc, wp_if, flK_next, flK_ret, flK_brk, flK_cont, tK_b, lpK_next, lpK_cont, lpK_brk, lpK_ret, rnK_next, rnK_ret, wp_turn, ltK_some, lt1F_eq, lt2F_eq, stAsg_val, stAsg_own, stAsg_bor, stRet_val, stRet_own, stRet_bor, exAsgT, exPar, setO, setL, setKd, setTd, mtGet, mtIndex, mtCount, mtJoin, mtSplit, mtPart, tyOkR, mtTyOk, MT.ty, mtF, viewRV, viewRVs, O.vw, boF, coF, bAdd, bSub, bMul, bDiv, bMod, bPow, bNeg, bEq, bNe, bCmp, bIn, isIn, bIs, isIs, bIx, bRev, bSl, bi, bLen, bMax, bMin, bAbs, bInt, bStr, bTuple, bList, bSorted, bAll, bAny, bSum, bDict, vInt, bIsin, vwIs, bRng1, bRng2, bRng, valArgs, setS_eq, setK_val, setK_own, setK_no, setK_lf, setK_lq, setT, setTs, recvOk, muF, muAppend, muExtend, muPop_snoc, muPop_one, muDpop, MU.isD, wp_callV, wp_callR, wp_callT, ctJ_some, ctK_val, ctK_own, valsD, clK_int, clK_bool, clK_str, clK_none, clK_tup, clK_own, clK_lst, crK_val, crK_own, RF.wp_ok, rfE_ok, rfF_eq, rfK_exc, rfK_val, rfK_own, wv_isE, bIsE, noExc_int, noExc_bool, noExc_none, noExc_str, noExc_list, noExc_tuple, noExc_k, noExc_t, O.fz, keyD, wv_chain, ch1F_eq, ch2F_eq, ch3F_eq, evSeq, rngOf, zipOf, enumOf, startE, argS, finO, stK, ownFree, wipeE, restE, sizeLine, R.bind_ok, -Prod.exists, -Bool.exists_bool, -Prod.forall, -Bool.forall_bool, S_len, signs_S]
      refine ⟨by omega, fun h200 => xp_seq (xp_raise rfl), fun h200 => ⟨by omega, ?_⟩⟩
      rw [lc_on (fun c => PyData.str (S [c])) (fun c => PyData.bool (decide (c = 111) || decide (c = 46))) s fun c _ => by simp [V_val, V_own, V_bor, vK_val, vK_own, vK_no, vK_none, wv_var, wv_cst, b2F_eq, b1F_eq, wv_bin, wv_cmp, wv_ix, wv_rng2, a1F_eq, wv_neg, wv_rev, wv_isin, wv_rng1, wv_ssort, andF_b, wv_and, orF_b, wv_or, notF_b, wv_not, conF_b, wv_ite, tupF_eq, wv_tup, lstF_eq, wv_lst, wv_dict, sl3F_eq, sl2F_eq, sl1F_eq, wv_sl, nF_eq, wv_bi, cF_eq, wv_call, mu2F_ex, muF1_b, wv_mu, mt2F_ex, mtF1_eq, wv_mt, c2F_eq, c1F_eq, wv_nil, wv_cons, lc2F_eq, lcF_eq, wv_lc, wv_yes, wv_cond, wv_no, wv_some, pF_int, seqF_eq, wv_seq, rngF_eq, wv_rng, ofF_eq, wv_zip, wv_enum, asgF_eq, wx_asg, drF_eq, wx_drop, reF_eq, wx_ret, wx_retN, wx_nop, wx_brk, wx_cont, ifF_b, wx_ite, wx_seq, wx_wh, foF_eq, wx_for, tsF_eq, wx_asgT, paF_eq, wx_par, s3F_ex, s2F_eq, s1F_eq, wx_setIx, flat, shaped_lints1, shaped_int, shaped_bool, shaped_none, shaped_nil, shaped_nilt, shaped_tints, shaped_lints, eqv_int, eqv_bool, eqv_tints, eqv_lints, eqv_lnil, eqv_tnil, any_ints, flat_ints, ex_cond, ex_cond2, ixN, atI_0, atI_1, atI_2, atI_3, wp_ok, wp_bad, wp_exc, wp_if, flK_next, flK_ret, flK_brk, flK_cont, tK_b, lpK_next, lpK_cont, lpK_brk, lpK_ret, rnK_next, rnK_ret, wp_turn, ltK_some, lt1F_eq, lt2F_eq, stAsg_val, stAsg_own, stAsg_bor, stRet_val, stRet_own, stRet_bor, exAsgT, exPar, setO, setL, setKd, setTd, mtGet, mtIndex, mtCount, mtJoin, mtSplit, mtPart, tyOkR, mtTyOk, MT.ty, mtF, viewRV, viewRVs, O.vw, boF, coF, bAdd, bSub, bMul, bDiv, bMod, bPow, bNeg, bEq, bNe, bCmp, bIn, isIn, bIs, isIs, bIx, bRev, bSl, bi, bLen, bMax, bMin, bAbs, bInt, bStr, bTuple, bList, bSorted, bAll, bAny, bSum, bDict, vInt, bIsin, vwIs, bRng1, bRng2, bRng, valArgs, setS_eq, setK_val, setK_own, setK_no, setK_lf, setK_lq, setT, setTs, recvOk, muF, muAppend, muExtend, muPop_snoc, muPop_one, muDpop, MU.isD, wp_callV, wp_callR, wp_callT, ctJ_some, ctK_val, ctK_own, valsD, clK_int, clK_bool, clK_str, clK_none, clK_tup, clK_own, clK_lst, crK_val, crK_own, RF.wp_ok, rfE_ok, rfF_eq, rfK_exc, rfK_val, rfK_own, wv_isE, bIsE, noExc_int, noExc_bool, noExc_none, noExc_str, noExc_list, noExc_tuple, noExc_k, noExc_t, O.fz, keyD, wv_chain, ch1F_eq, ch2F_eq, ch3F_eq, evSeq, rngOf, zipOf, enumOf, startE, argS, finO, stK, ownFree, wipeE, restE, sizeLine, R.bind_ok, -Prod.exists, -Bool.exists_bool, -Prod.forall, -Bool.forall_bool, li_od, S_list]]
      simp [V_val, V_own, V_bor, vK_val, vK_own, vK_no, vK_none, wv_var, wv_cst, b2F_eq, b1F_eq, wv_bin, wv_cmp, wv_ix, wv_rng2, a1F_eq, wv_neg, wv_rev, wv_isin, wv_rng1, wv_ssort, andF_b, wv_and, orF_b, wv_or, notF_b, wv_not, conF_b, wv_ite, tupF_eq, wv_tup, lstF_eq, wv_lst, wv_dict, sl3F_eq, sl2F_eq, sl1F_eq, wv_sl, nF_eq, wv_bi, cF_eq, wv_call, mu2F_ex, muF1_b, wv_mu, mt2F_ex, mtF1_eq, wv_mt, c2F_eq, c1F_eq, wv_nil, wv_cons, lc2F_eq, lcF_eq, wv_lc, wv_yes, wv_cond, wv_no, wv_some, pF_int, seqF_eq, wv_seq, rngF_eq, wv_rng, ofF_eq, wv_zip, wv_enum, asgF_eq, wx_asg, drF_eq, wx_drop, reF_eq, wx_ret, wx_retN, wx_nop, wx_brk, wx_cont, ifF_b, wx_ite, wx_seq, wx_wh, foF_eq, wx_for, tsF_eq, wx_asgT, paF_eq, wx_par, s3F_ex, s2F_eq, s1F_eq, wx_setIx, flat, shaped_lints1, shaped_int, shaped_bool, shaped_none, shaped_nil, shaped_nilt, shaped_tints, shaped_lints, eqv_int, eqv_bool, eqv_tints, eqv_lints, eqv_lnil, eqv_tnil, any_ints, flat_ints, ex_cond, ex_cond2, ixN, atI_0, atI_1, atI_2, atI_3, wp_ok, wp_bad, wp_exc, wp_if, flK_next, flK_ret, flK_brk, flK_cont, tK_b, lpK_next, lpK_cont, lpK_brk, lpK_ret, rnK_next, rnK_ret, wp_turn, ltK_some, lt1F_eq, lt2F_eq, stAsg_val, stAsg_own, stAsg_bor, stRet_val, stRet_own, stRet_bor, exAsgT, exPar, setO, setL, setKd, setTd, mtGet, mtIndex, mtCount, mtJoin, mtSplit, mtPart, tyOkR, mtTyOk, MT.ty, mtF, viewRV, viewRVs, O.vw, boF, coF, bAdd, bSub, bMul, bDiv, bMod, bPow, bNeg, bEq, bNe, bCmp, bIn, isIn, bIs, isIs, bIx, bRev, bSl, bi, bLen, bMax, bMin, bAbs, bInt, bStr, bTuple, bList, bSorted, bAll, bAny, bSum, bDict, vInt, bIsin, vwIs, bRng1, bRng2, bRng, valArgs, setS_eq, setK_val, setK_own, setK_no, setK_lf, setK_lq, setT, setTs, recvOk, muF, muAppend, muExtend, muPop_snoc, muPop_one, muDpop, MU.isD, wp_callV, wp_callR, wp_callT, ctJ_some, ctK_val, ctK_own, valsD, clK_int, clK_bool, clK_str, clK_none, clK_tup, clK_own, clK_lst, crK_val, crK_own, RF.wp_ok, rfE_ok, rfF_eq, rfK_exc, rfK_val, rfK_own, wv_isE, bIsE, noExc_int, noExc_bool, noExc_none, noExc_str, noExc_list, noExc_tuple, noExc_k, noExc_t, O.fz, keyD, wv_chain, ch1F_eq, ch2F_eq, ch3F_eq, evSeq, rngOf, zipOf, enumOf, startE, argS, finO, stK, ownFree, wipeE, restE, sizeLine, R.bind_ok, -Prod.exists, -Bool.exists_bool, -Prod.forall, -Bool.forall_bool, asBools_f]
      refine ⟨fun x hx h3 h4 => xp_seq (xp_raise rfl), fun ga => ?_⟩
      have hg : sgB s = true := by
        unfold sgB
        rw [decide_eq_true (by omega), Bool.true_and, List.all_eq_true]
        intro x hx
        simpa using ga x hx
      have hS : sgOk f s = false := by
        cases e : sgOk f s with
        | false => rfl
        | true => rw [if_pos ⟨hg, e⟩] at h; cases h
      refine xp_seq (xp_ite ?_)
      by_cases h1 : s = []
      · subst h1
        simp [t_row_read, V_val, V_own, V_bor, vK_val, vK_own, vK_no, vK_none, wv_var, wv_cst, b2F_eq, b1F_eq, wv_bin, wv_cmp, wv_ix, wv_rng2, a1F_eq, wv_neg, wv_rev, wv_isin, wv_rng1, wv_ssort, andF_b, wv_and, orF_b, wv_or, notF_b, wv_not, conF_b, wv_ite, tupF_eq, wv_tup, lstF_eq, wv_lst, wv_dict, sl3F_eq, sl2F_eq, sl1F_eq, wv_sl, nF_eq, wv_bi, cF_eq, wv_call, mu2F_ex, muF1_b, wv_mu, mt2F_ex, mtF1_eq, wv_mt, c2F_eq, c1F_eq, wv_nil, wv_cons, lc2F_eq, lcF_eq, wv_lc, wv_yes, wv_cond, wv_no, wv_some, pF_int, seqF_eq, wv_seq, rngF_eq, wv_rng, ofF_eq, wv_zip, wv_enum, asgF_eq, wx_asg, drF_eq, wx_drop, reF_eq, wx_ret, wx_retN, wx_nop, wx_brk, wx_cont, ifF_b, wx_ite, wx_seq, wx_wh, foF_eq, wx_for, tsF_eq, wx_asgT, paF_eq, wx_par, s3F_ex, s2F_eq, s1F_eq, wx_setIx, flat, shaped_lints1, shaped_int, shaped_bool, shaped_none, shaped_nil, shaped_nilt, shaped_tints, shaped_lints, eqv_int, eqv_bool, eqv_tints, eqv_lints, eqv_lnil, eqv_tnil, any_ints, flat_ints, ex_cond, ex_cond2, ixN, atI_0, atI_1, atI_2, atI_3, wp_ok, wp_bad, wp_exc, wp_if, flK_next, flK_ret, flK_brk, flK_cont, tK_b, lpK_next, lpK_cont, lpK_brk, lpK_ret, rnK_next, rnK_ret, wp_turn, ltK_some, lt1F_eq, lt2F_eq, stAsg_val, stAsg_own, stAsg_bor, stRet_val, stRet_own, stRet_bor, exAsgT, exPar, setO, setL, setKd, setTd, mtGet, mtIndex, mtCount, mtJoin, mtSplit, mtPart, tyOkR, mtTyOk, MT.ty, mtF, viewRV, viewRVs, O.vw, boF, coF, bAdd, bSub, bMul, bDiv, bMod, bPow, bNeg, bEq, bNe, bCmp, bIn, isIn, bIs, isIs, bIx, bRev, bSl, bi, bLen, bMax, bMin, bAbs, bInt, bStr, bTuple, bList, bSorted, bAll, bAny, bSum, bDict, vInt, bIsin, vwIs, bRng1, bRng2, bRng, valArgs, setS_eq, setK_val, setK_own, setK_no, setK_lf, setK_lq, setT, setTs, recvOk, muF, muAppend, muExtend, muPop_snoc, muPop_one, muDpop, MU.isD, wp_callV, wp_callR, wp_callT, ctJ_some, ctK_val, ctK_own, valsD, clK_int, clK_bool, clK_str, clK_none, clK_tup, clK_own, clK_lst, crK_val, crK_own, RF.wp_ok, rfE_ok, rfF_eq, rfK_exc, rfK_val, rfK_own, wv_isE, bIsE, noExc_int, noExc_bool, noExc_none, noExc_str, noExc_list, noExc_tuple, noExc_k, noExc_t, O.fz, keyD, wv_chain, ch1F_eq, ch2F_eq, ch3F_eq, evSeq, rngOf, zipOf, enumOf, startE, argS, finO, stK, ownFree, wipeE, restE, sizeLine, R.bind_ok, -Prod.exists, -Bool.exists_bool, -Prod.forall, -Bool.forall_bool, eqv_str, shaped_S, okL_nil, okL_cons, S_beq, li_nil]
        exact xp_seq (xp_raise rfl)
      · have hne0 : (s = []) = False := eq_false h1
        have g1 := atI_S0 h1
        have g2 := atI_Sl h1
        have okh : s.headD 0 < 1114112 := by
          have : s.headD 0 ∈ s := by
            cases s with
            | nil => exact absurd rfl h1
            | cons a r => exact List.mem_cons_self ..
          exact of_decide_eq_true (List.all_eq_true.mp o2 _ this)
        have okt : s.getLastD 0 < 1114112 := by
          have : s.getLastD 0 ∈ s := by
            have e2 : s.getLastD 0 = s.getLast h1 := by
              cases s with
              | nil => exact absurd rfl h1
              | cons a r => rfl
            rw [e2]
            exact List.getLast_mem h1
          exact of_decide_eq_true (List.all_eq_true.mp o2 _ this)
        have sl : s.length ≤ 16777216 := by omega
        obtain ⟨a, ha⟩ : ∃ a, a = s.headD 0 := ⟨_, rfl⟩
        obtain ⟨b, hb⟩ : ∃ b, b = s.getLastD 0 := ⟨_, rfl⟩
        rw [← ha] at g1 okh
        rw [← hb] at g2 okt
        simp [t_row_read, V_val, V_own, V_bor, vK_val, vK_own, vK_no, vK_none, wv_var, wv_cst, b2F_eq, b1F_eq, wv_bin, wv_cmp, wv_ix, wv_rng2, a1F_eq, wv_neg, wv_rev, wv_isin, wv_rng1, wv_ssort, andF_b, wv_and, orF_b, wv_or, notF_b, wv_not, conF_b, wv_ite, tupF_eq, wv_tup, lstF_eq, wv_lst, wv_dict, sl3F_eq, sl2F_eq, sl1F_eq, wv_sl, nF_eq, wv_bi, cF_eq, wv_call, mu2F_ex, muF1_b, wv_mu, mt2F_ex, mtF1_eq, wv_mt, c2F_eq, c1F_eq, wv_nil, wv_cons, lc2F_eq, lcF_eq, wv_lc, wv_yes, wv_cond, wv_no, wv_some, pF_int, seqF_eq, wv_seq, rngF_eq, wv_rng, ofF_eq, wv_zip, wv_enum, asgF_eq, wx_asg, drF_eq, wx_drop, reF_eq, wx_ret, wx_retN, wx_nop, wx_brk, wx_cont, ifF_b, wx_ite, wx_seq, wx_wh, foF_eq, wx_for, tsF_eq, wx_asgT, paF_eq, wx_par, s3F_ex, s2F_eq, s1F_eq, wx_setIx, flat, shaped_lints1, shaped_int, shaped_bool, shaped_none, shaped_nil, shaped_nilt, shaped_tints, shaped_lints, eqv_int, eqv_bool, eqv_tints, eqv_lints, eqv_lnil, eqv_tnil, any_ints, flat_ints, ex_cond, ex_cond2, ixN, atI_0, atI_1, atI_2, atI_3, wp_ok, wp_bad, wp_exc, wp_if, flK_next, flK_ret, flK_brk, flK_cont, tK_b, lpK_next, lpK_cont, lpK_brk, lpK_ret, rnK_next, rnK_ret, wp_turn, ltK_some, lt1F_eq, lt2F_eq, stAsg_val, stAsg_own, stAsg_bor, stRet_val, stRet_own, stRet_bor, exAsgT, exPar, setO, setL, setKd, setTd, mtGet, mtIndex, mtCount, mtJoin, mtSplit, mtPart, tyOkR, mtTyOk, MT.ty, mtF, viewRV, viewRVs, O.vw, boF, coF, bAdd, bSub, bMul, bDiv, bMod, bPow, bNeg, bEq, bNe, bCmp, bIn, isIn, bIs, isIs, bIx, bRev, bSl, bi, bLen, bMax, bMin, bAbs, bInt, bStr, bTuple, bList, bSorted, bAll, bAny, bSum, bDict, vInt, bIsin, vwIs, bRng1, bRng2, bRng, valArgs, setS_eq, setK_val, setK_own, setK_no, setK_lf, setK_lq, setT, setTs, recvOk, muF, muAppend, muExtend, muPop_snoc, muPop_one, muDpop, MU.isD, wp_callV, wp_callR, wp_callT, ctJ_some, ctK_val, ctK_own, valsD, clK_int, clK_bool, clK_str, clK_none, clK_tup, clK_own, clK_lst, crK_val, crK_own, RF.wp_ok, rfE_ok, rfF_eq, rfK_exc, rfK_val, rfK_own, wv_isE, bIsE, noExc_int, noExc_bool, noExc_none, noExc_str, noExc_list, noExc_tuple, noExc_k, noExc_t, O.fz, keyD, wv_chain, ch1F_eq, ch2F_eq, ch3F_eq, evSeq, rngOf, zipOf, enumOf, startE, argS, finO, stK, ownFree, wipeE, restE, sizeLine, R.bind_ok, -Prod.exists, -Bool.exists_bool, -Prod.forall, -Bool.forall_bool, eqv_str, shaped_S, o2, okL_nil, okL_cons, S_beq, S_len, hne0, li_nil, li_o, S_list, g1, g2, okh, okt, sl]
        refine ⟨fun _ => xp_seq (xp_raise rfl), fun e1 => ⟨fun _ => xp_seq (xp_raise rfl), fun e2 => R.wp.xp ?_⟩⟩
        have hB : rowB (.tuple ((poss f s).map .int)) = false := by
          unfold sgOk at hS
          rw [decide_eq_true (⟨h1, ha.symm.trans e1, hb.symm.trans e2⟩ : s ≠ [] ∧ s.headD 0 = 111 ∧ s.getLastD 0 = 111), Bool.true_and] at hS
          exact hS
        have tr := is_row_ok (.tuple ((poss f s).map .int)) ⟨rfl, fun es h => by
          cases h
          refine ⟨?_, fun x hx => ?_⟩
          · rw [List.length_map]
            have h3 : (poss f s).length ≤ s.zipIdx.length := List.length_filterMap_le ..
            rw [List.length_zipIdx] at h3
            omega
          · obtain ⟨i, _, rfl⟩ := List.mem_map.mp hx
            rfl⟩
        rw [hB] at tr
        simp [t_row_read, V_val, V_own, V_bor, vK_val, vK_own, vK_no, vK_none, wv_var, wv_cst, b2F_eq, b1F_eq, wv_bin, wv_cmp, wv_ix, wv_rng2, a1F_eq, wv_neg, wv_rev, wv_isin, wv_rng1, wv_ssort, andF_b, wv_and, orF_b, wv_or, notF_b, wv_not, conF_b, wv_ite, tupF_eq, wv_tup, lstF_eq, wv_lst, wv_dict, sl3F_eq, sl2F_eq, sl1F_eq, wv_sl, nF_eq, wv_bi, cF_eq, wv_call, mu2F_ex, muF1_b, wv_mu, mt2F_ex, mtF1_eq, wv_mt, c2F_eq, c1F_eq, wv_nil, wv_cons, lc2F_eq, lcF_eq, wv_lc, wv_yes, wv_cond, wv_no, wv_some, pF_int, seqF_eq, wv_seq, rngF_eq, wv_rng, ofF_eq, wv_zip, wv_enum, asgF_eq, wx_asg, drF_eq, wx_drop, reF_eq, wx_ret, wx_retN, wx_nop, wx_brk, wx_cont, ifF_b, wx_ite, wx_seq, wx_wh, foF_eq, wx_for, tsF_eq, wx_asgT, paF_eq, wx_par, s3F_ex, s2F_eq, s1F_eq, wx_setIx, flat, shaped_lints1, shaped_int, shaped_bool, shaped_none, shaped_nil, shaped_nilt, shaped_tints, shaped_lints, eqv_int, eqv_bool, eqv_tints, eqv_lints, eqv_lnil, eqv_tnil, any_ints, flat_ints, ex_cond, ex_cond2, ixN, atI_0, atI_1, atI_2, atI_3, wp_ok, wp_bad, wp_exc, wp_if, flK_next, flK_ret, flK_brk, flK_cont, tK_b, lpK_next, lpK_cont, lpK_brk, lpK_ret, rnK_next, rnK_ret, wp_turn, ltK_some, lt1F_eq, lt2F_eq, stAsg_val, stAsg_own, stAsg_bor, stRet_val, stRet_own, stRet_bor, exAsgT, exPar, setO, setL, setKd, setTd, mtGet, mtIndex, mtCount, mtJoin, mtSplit, mtPart, tyOkR, mtTyOk, MT.ty, mtF, viewRV, viewRVs, O.vw, boF, coF, bAdd, bSub, bMul, bDiv, bMod, bPow, bNeg, bEq, bNe, bCmp, bIn, isIn, bIs, isIs, bIx, bRev, bSl, bi, bLen, bMax, bMin, bAbs, bInt, bStr, bTuple, bList, bSorted, bAll, bAny, bSum, bDict, vInt, bIsin, vwIs, bRng1, bRng2, bRng, valArgs, setS_eq, setK_val, setK_own, setK_no, setK_lf, setK_lq, setT, setTs, recvOk, muF, muAppend, muExtend, muPop_snoc, muPop_one, muDpop, MU.isD, wp_callV, wp_callR, wp_callT, ctJ_some, ctK_val, ctK_own, valsD, clK_int, clK_bool, clK_str, clK_none, clK_tup, clK_own, clK_lst, crK_val, crK_own, RF.wp_ok, rfE_ok, rfF_eq, rfK_exc, rfK_val, rfK_own, wv_isE, bIsE, noExc_int, noExc_bool, noExc_none, noExc_str, noExc_list, noExc_tuple, noExc_k, noExc_t, O.fz, keyD, wv_chain, ch1F_eq, ch2F_eq, ch3F_eq, evSeq, rngOf, zipOf, enumOf, startE, argS, finO, stK, ownFree, wipeE, restE, sizeLine, R.bind_ok, -Prod.exists, -Bool.exists_bool, -Prod.forall, -Bool.forall_bool, flX_next]
        refine xp_seq (R.wp.xp ?_)
        simp [t_row_read, V_val, V_own, V_bor, vK_val, vK_own, vK_no, vK_none, wv_var, wv_cst, b2F_eq, b1F_eq, wv_bin, wv_cmp, wv_ix, wv_rng2, a1F_eq, wv_neg, wv_rev, wv_isin, wv_rng1, wv_ssort, andF_b, wv_and, orF_b, wv_or, notF_b, wv_not, conF_b, wv_ite, tupF_eq, wv_tup, lstF_eq, wv_lst, wv_dict, sl3F_eq, sl2F_eq, sl1F_eq, wv_sl, nF_eq, wv_bi, cF_eq, wv_call, mu2F_ex, muF1_b, wv_mu, mt2F_ex, mtF1_eq, wv_mt, c2F_eq, c1F_eq, wv_nil, wv_cons, lc2F_eq, lcF_eq, wv_lc, wv_yes, wv_cond, wv_no, wv_some, pF_int, seqF_eq, wv_seq, rngF_eq, wv_rng, ofF_eq, wv_zip, wv_enum, asgF_eq, wx_asg, drF_eq, wx_drop, reF_eq, wx_ret, wx_retN, wx_nop, wx_brk, wx_cont, ifF_b, wx_ite, wx_seq, wx_wh, foF_eq, wx_for, tsF_eq, wx_asgT, paF_eq, wx_par, s3F_ex, s2F_eq, s1F_eq, wx_setIx, flat, shaped_lints1, shaped_int, shaped_bool, shaped_none, shaped_nil, shaped_nilt, shaped_tints, shaped_lints, eqv_int, eqv_bool, eqv_tints, eqv_lints, eqv_lnil, eqv_tnil, any_ints, flat_ints, ex_cond, ex_cond2, ixN, atI_0, atI_1, atI_2, atI_3, wp_ok, wp_bad, wp_exc, wp_if, flK_next, flK_ret, flK_brk, flK_cont, tK_b, lpK_next, lpK_cont, lpK_brk, lpK_ret, rnK_next, rnK_ret, wp_turn, ltK_some, lt1F_eq, lt2F_eq, stAsg_val, stAsg_own, stAsg_bor, stRet_val, stRet_own, stRet_bor, exAsgT, exPar, setO, setL, setKd, setTd, mtGet, mtIndex, mtCount, mtJoin, mtSplit, mtPart, tyOkR, mtTyOk, MT.ty, mtF, viewRV, viewRVs, O.vw, boF, coF, bAdd, bSub, bMul, bDiv, bMod, bPow, bNeg, bEq, bNe, bCmp, bIn, isIn, bIs, isIs, bIx, bRev, bSl, bi, bLen, bMax, bMin, bAbs, bInt, bStr, bTuple, bList, bSorted, bAll, bAny, bSum, bDict, vInt, bIsin, vwIs, bRng1, bRng2, bRng, valArgs, setS_eq, setK_val, setK_own, setK_no, setK_lf, setK_lq, setT, setTs, recvOk, muF, muAppend, muExtend, muPop_snoc, muPop_one, muDpop, MU.isD, wp_callV, wp_callR, wp_callT, ctJ_some, ctK_val, ctK_own, valsD, clK_int, clK_bool, clK_str, clK_none, clK_tup, clK_own, clK_lst, crK_val, crK_own, RF.wp_ok, rfE_ok, rfF_eq, rfK_exc, rfK_val, rfK_own, wv_isE, bIsE, noExc_int, noExc_bool, noExc_none, noExc_str, noExc_list, noExc_tuple, noExc_k, noExc_t, O.fz, keyD, wv_chain, ch1F_eq, ch2F_eq, ch3F_eq, evSeq, rngOf, zipOf, enumOf, startE, argS, finO, stK, ownFree, wipeE, restE, sizeLine, R.bind_ok, -Prod.exists, -Bool.exists_bool, -Prod.forall, -Bool.forall_bool, enum_S]
        rw [lc_onF (fun p : Nat × Nat => PyData.tuple [.int (p.2 : Nat), .str (S [p.1])]) (fun p => if p.1 = 111 then some (PyData.int (f + p.2)) else none) s.zipIdx fun p hp => by
          have hk : p.1 < 1114112 := of_decide_eq_true (List.all_eq_true.mp o2 _ (List.fst_mem_of_mem_zipIdx hp))
          by_cases h : p.1 = 111
          · rw [if_pos h]
            simp [V_val, V_own, V_bor, vK_val, vK_own, vK_no, vK_none, wv_var, wv_cst, b2F_eq, b1F_eq, wv_bin, wv_cmp, wv_ix, wv_rng2, a1F_eq, wv_neg, wv_rev, wv_isin, wv_rng1, wv_ssort, andF_b, wv_and, orF_b, wv_or, notF_b, wv_not, conF_b, wv_ite, tupF_eq, wv_tup, lstF_eq, wv_lst, wv_dict, sl3F_eq, sl2F_eq, sl1F_eq, wv_sl, nF_eq, wv_bi, cF_eq, wv_call, mu2F_ex, muF1_b, wv_mu, mt2F_ex, mtF1_eq, wv_mt, c2F_eq, c1F_eq, wv_nil, wv_cons, lc2F_eq, lcF_eq, wv_lc, wv_yes, wv_cond, wv_no, wv_some, pF_int, seqF_eq, wv_seq, rngF_eq, wv_rng, ofF_eq, wv_zip, wv_enum, asgF_eq, wx_asg, drF_eq, wx_drop, reF_eq, wx_ret, wx_retN, wx_nop, wx_brk, wx_cont, ifF_b, wx_ite, wx_seq, wx_wh, foF_eq, wx_for, tsF_eq, wx_asgT, paF_eq, wx_par, s3F_ex, s2F_eq, s1F_eq, wx_setIx, flat, shaped_lints1, shaped_int, shaped_bool, shaped_none, shaped_nil, shaped_nilt, shaped_tints, shaped_lints, eqv_int, eqv_bool, eqv_tints, eqv_lints, eqv_lnil, eqv_tnil, any_ints, flat_ints, ex_cond, ex_cond2, ixN, atI_0, atI_1, atI_2, atI_3, wp_ok, wp_bad, wp_exc, wp_if, flK_next, flK_ret, flK_brk, flK_cont, tK_b, lpK_next, lpK_cont, lpK_brk, lpK_ret, rnK_next, rnK_ret, wp_turn, ltK_some, lt1F_eq, lt2F_eq, stAsg_val, stAsg_own, stAsg_bor, stRet_val, stRet_own, stRet_bor, exAsgT, exPar, setO, setL, setKd, setTd, mtGet, mtIndex, mtCount, mtJoin, mtSplit, mtPart, tyOkR, mtTyOk, MT.ty, mtF, viewRV, viewRVs, O.vw, boF, coF, bAdd, bSub, bMul, bDiv, bMod, bPow, bNeg, bEq, bNe, bCmp, bIn, isIn, bIs, isIs, bIx, bRev, bSl, bi, bLen, bMax, bMin, bAbs, bInt, bStr, bTuple, bList, bSorted, bAll, bAny, bSum, bDict, vInt, bIsin, vwIs, bRng1, bRng2, bRng, valArgs, setS_eq, setK_val, setK_own, setK_no, setK_lf, setK_lq, setT, setTs, recvOk, muF, muAppend, muExtend, muPop_snoc, muPop_one, muDpop, MU.isD, wp_callV, wp_callR, wp_callT, ctJ_some, ctK_val, ctK_own, valsD, clK_int, clK_bool, clK_str, clK_none, clK_tup, clK_own, clK_lst, crK_val, crK_own, RF.wp_ok, rfE_ok, rfF_eq, rfK_exc, rfK_val, rfK_own, wv_isE, bIsE, noExc_int, noExc_bool, noExc_none, noExc_str, noExc_list, noExc_tuple, noExc_k, noExc_t, O.fz, keyD, wv_chain, ch1F_eq, ch2F_eq, ch3F_eq, evSeq, rngOf, zipOf, enumOf, startE, argS, finO, stK, ownFree, wipeE, restE, sizeLine, R.bind_ok, -Prod.exists, -Bool.exists_bool, -Prod.forall, -Bool.forall_bool, eqv_str, shaped_S, okL_nil, okL_cons, S_beq, h, li_o]
          · rw [if_neg h]
            simp [V_val, V_own, V_bor, vK_val, vK_own, vK_no, vK_none, wv_var, wv_cst, b2F_eq, b1F_eq, wv_bin, wv_cmp, wv_ix, wv_rng2, a1F_eq, wv_neg, wv_rev, wv_isin, wv_rng1, wv_ssort, andF_b, wv_and, orF_b, wv_or, notF_b, wv_not, conF_b, wv_ite, tupF_eq, wv_tup, lstF_eq, wv_lst, wv_dict, sl3F_eq, sl2F_eq, sl1F_eq, wv_sl, nF_eq, wv_bi, cF_eq, wv_call, mu2F_ex, muF1_b, wv_mu, mt2F_ex, mtF1_eq, wv_mt, c2F_eq, c1F_eq, wv_nil, wv_cons, lc2F_eq, lcF_eq, wv_lc, wv_yes, wv_cond, wv_no, wv_some, pF_int, seqF_eq, wv_seq, rngF_eq, wv_rng, ofF_eq, wv_zip, wv_enum, asgF_eq, wx_asg, drF_eq, wx_drop, reF_eq, wx_ret, wx_retN, wx_nop, wx_brk, wx_cont, ifF_b, wx_ite, wx_seq, wx_wh, foF_eq, wx_for, tsF_eq, wx_asgT, paF_eq, wx_par, s3F_ex, s2F_eq, s1F_eq, wx_setIx, flat, shaped_lints1, shaped_int, shaped_bool, shaped_none, shaped_nil, shaped_nilt, shaped_tints, shaped_lints, eqv_int, eqv_bool, eqv_tints, eqv_lints, eqv_lnil, eqv_tnil, any_ints, flat_ints, ex_cond, ex_cond2, ixN, atI_0, atI_1, atI_2, atI_3, wp_ok, wp_bad, wp_exc, wp_if, flK_next, flK_ret, flK_brk, flK_cont, tK_b, lpK_next, lpK_cont, lpK_brk, lpK_ret, rnK_next, rnK_ret, wp_turn, ltK_some, lt1F_eq, lt2F_eq, stAsg_val, stAsg_own, stAsg_bor, stRet_val, stRet_own, stRet_bor, exAsgT, exPar, setO, setL, setKd, setTd, mtGet, mtIndex, mtCount, mtJoin, mtSplit, mtPart, tyOkR, mtTyOk, MT.ty, mtF, viewRV, viewRVs, O.vw, boF, coF, bAdd, bSub, bMul, bDiv, bMod, bPow, bNeg, bEq, bNe, bCmp, bIn, isIn, bIs, isIs, bIx, bRev, bSl, bi, bLen, bMax, bMin, bAbs, bInt, bStr, bTuple, bList, bSorted, bAll, bAny, bSum, bDict, vInt, bIsin, vwIs, bRng1, bRng2, bRng, valArgs, setS_eq, setK_val, setK_own, setK_no, setK_lf, setK_lq, setT, setTs, recvOk, muF, muAppend, muExtend, muPop_snoc, muPop_one, muDpop, MU.isD, wp_callV, wp_callR, wp_callT, ctJ_some, ctK_val, ctK_own, valsD, clK_int, clK_bool, clK_str, clK_none, clK_tup, clK_own, clK_lst, crK_val, crK_own, RF.wp_ok, rfE_ok, rfF_eq, rfK_exc, rfK_val, rfK_own, wv_isE, bIsE, noExc_int, noExc_bool, noExc_none, noExc_str, noExc_list, noExc_tuple, noExc_k, noExc_t, O.fz, keyD, wv_chain, ch1F_eq, ch2F_eq, ch3F_eq, evSeq, rngOf, zipOf, enumOf, startE, argS, finO, stK, ownFree, wipeE, restE, sizeLine, R.bind_ok, -Prod.exists, -Bool.exists_bool, -Prod.forall, -Bool.forall_bool, eqv_str, shaped_S, okL_nil, okL_cons, S_beq, h, hk, li_o]]
        have e : s.zipIdx.filterMap (fun p => if p.1 = 111 then some (PyData.int (f + p.2)) else none) = (poss f s).map .int := by
          unfold poss
          rw [List.map_filterMap]
          congr 1
          funext p
          by_cases h : p.1 = 111
          · rw [if_pos h, if_pos h]
            rfl
          · rw [if_neg h, if_neg h]
            rfl
        rw [e]
        simp [V_val, V_own, V_bor, vK_val, vK_own, vK_no, vK_none, wv_var, wv_cst, b2F_eq, b1F_eq, wv_bin, wv_cmp, wv_ix, wv_rng2, a1F_eq, wv_neg, wv_rev, wv_isin, wv_rng1, wv_ssort, andF_b, wv_and, orF_b, wv_or, notF_b, wv_not, conF_b, wv_ite, tupF_eq, wv_tup, lstF_eq, wv_lst, wv_dict, sl3F_eq, sl2F_eq, sl1F_eq, wv_sl, nF_eq, wv_bi, cF_eq, wv_call, mu2F_ex, muF1_b, wv_mu, mt2F_ex, mtF1_eq, wv_mt, c2F_eq, c1F_eq, wv_nil, wv_cons, lc2F_eq, lcF_eq, wv_lc, wv_yes, wv_cond, wv_no, wv_some, pF_int, seqF_eq, wv_seq, rngF_eq, wv_rng, ofF_eq, wv_zip, wv_enum, asgF_eq, wx_asg, drF_eq, wx_drop, reF_eq, wx_ret, wx_retN, wx_nop, wx_brk, wx_cont, ifF_b, wx_ite, wx_seq, wx_wh, foF_eq, wx_for, tsF_eq, wx_asgT, paF_eq, wx_par, s3F_ex, s2F_eq, s1F_eq, wx_setIx, flat, shaped_lints1, shaped_int, shaped_bool, shaped_none, shaped_nil, shaped_nilt, shaped_tints, shaped_lints, eqv_int, eqv_bool, eqv_tints, eqv_lints, eqv_lnil, eqv_tnil, any_ints, flat_ints, ex_cond, ex_cond2, ixN, atI_0, atI_1, atI_2, atI_3, wp_ok, wp_bad, wp_exc, wp_if, flK_next, flK_ret, flK_brk, flK_cont, tK_b, lpK_next, lpK_cont, lpK_brk, lpK_ret, rnK_next, rnK_ret, wp_turn, ltK_some, lt1F_eq, lt2F_eq, stAsg_val, stAsg_own, stAsg_bor, stRet_val, stRet_own, stRet_bor, exAsgT, exPar, setO, setL, setKd, setTd, mtGet, mtIndex, mtCount, mtJoin, mtSplit, mtPart, tyOkR, mtTyOk, MT.ty, mtF, viewRV, viewRVs, O.vw, boF, coF, bAdd, bSub, bMul, bDiv, bMod, bPow, bNeg, bEq, bNe, bCmp, bIn, isIn, bIs, isIs, bIx, bRev, bSl, bi, bLen, bMax, bMin, bAbs, bInt, bStr, bTuple, bList, bSorted, bAll, bAny, bSum, bDict, vInt, bIsin, vwIs, bRng1, bRng2, bRng, valArgs, setS_eq, setK_val, setK_own, setK_no, setK_lf, setK_lq, setT, setTs, recvOk, muF, muAppend, muExtend, muPop_snoc, muPop_one, muDpop, MU.isD, wp_callV, wp_callR, wp_callT, ctJ_some, ctK_val, ctK_own, valsD, clK_int, clK_bool, clK_str, clK_none, clK_tup, clK_own, clK_lst, crK_val, crK_own, RF.wp_ok, rfE_ok, rfF_eq, rfK_exc, rfK_val, rfK_own, wv_isE, bIsE, noExc_int, noExc_bool, noExc_none, noExc_str, noExc_list, noExc_tuple, noExc_k, noExc_t, O.fz, keyD, wv_chain, ch1F_eq, ch2F_eq, ch3F_eq, evSeq, rngOf, zipOf, enumOf, startE, argS, finO, stK, ownFree, wipeE, restE, sizeLine, R.bind_ok, -Prod.exists, -Bool.exists_bool, -Prod.forall, -Bool.forall_bool, flX_next]
        refine ⟨sl, xp_seq (xp_ite ?_)⟩
        simp [t_row_read, V_val, V_own, V_bor, vK_val, vK_own, vK_no, vK_none, wv_var, wv_cst, b2F_eq, b1F_eq, wv_bin, wv_cmp, wv_ix, wv_rng2, a1F_eq, wv_neg, wv_rev, wv_isin, wv_rng1, wv_ssort, andF_b, wv_and, orF_b, wv_or, notF_b, wv_not, conF_b, wv_ite, tupF_eq, wv_tup, lstF_eq, wv_lst, wv_dict, sl3F_eq, sl2F_eq, sl1F_eq, wv_sl, nF_eq, wv_bi, cF_eq, wv_call, mu2F_ex, muF1_b, wv_mu, mt2F_ex, mtF1_eq, wv_mt, c2F_eq, c1F_eq, wv_nil, wv_cons, lc2F_eq, lcF_eq, wv_lc, wv_yes, wv_cond, wv_no, wv_some, pF_int, seqF_eq, wv_seq, rngF_eq, wv_rng, ofF_eq, wv_zip, wv_enum, asgF_eq, wx_asg, drF_eq, wx_drop, reF_eq, wx_ret, wx_retN, wx_nop, wx_brk, wx_cont, ifF_b, wx_ite, wx_seq, wx_wh, foF_eq, wx_for, tsF_eq, wx_asgT, paF_eq, wx_par, s3F_ex, s2F_eq, s1F_eq, wx_setIx, flat, shaped_lints1, shaped_int, shaped_bool, shaped_none, shaped_nil, shaped_nilt, shaped_tints, shaped_lints, eqv_int, eqv_bool, eqv_tints, eqv_lints, eqv_lnil, eqv_tnil, any_ints, flat_ints, ex_cond, ex_cond2, ixN, atI_0, atI_1, atI_2, atI_3, wp_ok, wp_bad, wp_exc, wp_if, flK_next, flK_ret, flK_brk, flK_cont, tK_b, lpK_next, lpK_cont, lpK_brk, lpK_ret, rnK_next, rnK_ret, wp_turn, ltK_some, lt1F_eq, lt2F_eq, stAsg_val, stAsg_own, stAsg_bor, stRet_val, stRet_own, stRet_bor, exAsgT, exPar, setO, setL, setKd, setTd, mtGet, mtIndex, mtCount, mtJoin, mtSplit, mtPart, tyOkR, mtTyOk, MT.ty, mtF, viewRV, viewRVs, O.vw, boF, coF, bAdd, bSub, bMul, bDiv, bMod, bPow, bNeg, bEq, bNe, bCmp, bIn, isIn, bIs, isIs, bIx, bRev, bSl, bi, bLen, bMax, bMin, bAbs, bInt, bStr, bTuple, bList, bSorted, bAll, bAny, bSum, bDict, vInt, bIsin, vwIs, bRng1, bRng2, bRng, valArgs, setS_eq, setK_val, setK_own, setK_no, setK_lf, setK_lq, setT, setTs, recvOk, muF, muAppend, muExtend, muPop_snoc, muPop_one, muDpop, MU.isD, wp_callV, wp_callR, wp_callT, ctJ_some, ctK_val, ctK_own, valsD, clK_int, clK_bool, clK_str, clK_none, clK_tup, clK_own, clK_lst, crK_val, crK_own, RF.wp_ok, rfE_ok, rfF_eq, rfK_exc, rfK_val, rfK_own, wv_isE, bIsE, noExc_int, noExc_bool, noExc_none, noExc_str, noExc_list, noExc_tuple, noExc_k, noExc_t, O.fz, keyD, wv_chain, ch1F_eq, ch2F_eq, ch3F_eq, evSeq, rngOf, zipOf, enumOf, startE, argS, finO, stK, ownFree, wipeE, restE, sizeLine, R.bind_ok, -Prod.exists, -Bool.exists_bool, -Prod.forall, -Bool.forall_bool, tr]
        exact xp_seq (xp_raise rfl)
/-! ### numbers without noughts ahead -/
theorem digv_snoc (ds : List Nat) (c : Nat) : NumText.digitsVal (ds ++ [c]) = NumText.digitsVal ds * 10 + (c - 48) := by
  unfold NumText.digitsVal
  rw [List.foldl_append]
  rfl
theorem digv_ge : ∀ (ds : List Nat) (a : Nat), a * 10 ^ ds.length ≤ ds.foldl (fun acc c => acc * 10 + (c - 48)) a
  | [], a => by simp
  | c :: r, a => by
    have ih := digv_ge r (a * 10 + (c - 48))
    rw [List.foldl_cons, List.length_cons, Nat.pow_succ]
    refine Nat.le_trans ?_ ih
    rw [Nat.mul_comm (10 ^ r.length) 10, ← Nat.mul_assoc]
    exact Nat.mul_le_mul_right _ (by omega)
theorem digv_lead {c : Nat} {r : List Nat} (h : 49 ≤ c) : 10 ^ r.length ≤ NumText.digitsVal (c :: r) := by
  have h1 := digv_ge r (c - 48)
  have e : NumText.digitsVal (c :: r) = r.foldl (fun acc c => acc * 10 + (c - 48)) (c - 48) := by
    unfold NumText.digitsVal
    rw [List.foldl_cons, Nat.zero_mul, Nat.zero_add]
  rw [e]
  refine Nat.le_trans ?_ h1
  exact Nat.le_mul_of_pos_left _ (by omega)
theorem numL_back : ∀ (n : Nat) (ds : List Nat), ds.length = n → NumText.AllDigits ds → ds ≠ [] → ds.headD 0 ≠ 48 → TL.numL (NumText.digitsVal ds) = ds
  | 0, ds, hn, _, h, _ => absurd (List.eq_nil_of_length_eq_zero hn) h
  | n + 1, ds, hn, hd, h, h0 => by
    obtain ⟨c, e⟩ : ∃ c, c = ds.getLast h := ⟨_, rfl⟩
    obtain ⟨es, e2⟩ : ∃ es, es = ds.dropLast := ⟨_, rfl⟩
    have e3 : ds = es ++ [c] := by rw [e, e2, List.dropLast_concat_getLast]
    subst e3
    have hc := hd c (by simp)
    have hes : NumText.AllDigits es := fun x hx => hd x (by simp [hx])
    rw [digv_snoc]
    by_cases hz : es = []
    · subst hz
      show TL.numL (0 * 10 + (c - 48)) = [c]
      rw [TL.numL_lt (by omega)]
      congr 1
      omega
    · have hh : es.headD 0 ≠ 48 := by
        cases es with
        | nil => exact absurd rfl hz
        | cons a r => exact h0
      have ih := numL_back n es (by simp at hn; omega) hes hz hh
      have hp : 1 ≤ NumText.digitsVal es := by
        cases es with
        | nil => exact absurd rfl hz
        | cons a r =>
          have ha := hes a (List.mem_cons_self ..)
          have hh : a ≠ 48 := hh
          have := digv_lead (c := a) (r := r) (by omega)
          have := Nat.pow_pos (n := r.length) (show 0 < 10 by decide)
          omega
      rw [TL.numL_step (by omega)]
      rw [show (NumText.digitsVal es * 10 + (c - 48)) / 10 = NumText.digitsVal es by omega, show (NumText.digitsVal es * 10 + (c - 48)) % 10 = c - 48 by omega, ih]
      congr 2
      omega
theorem numL_head (n : Nat) (h : 0 < n) : (TL.numL n).headD 0 ≠ 48 := by
  induction n using Nat.strongRecOn with
  | _ n ih =>
    by_cases h1 : n < 10
    · rw [TL.numL_lt h1]
      show 48 + n ≠ 48
      omega
    · rw [TL.numL_step (by omega)]
      have := ih (n / 10) (by omega) (by omega)
      have hne := TL.numL_ne (n / 10)
      cases e : TL.numL (n / 10) with
      | nil => exact absurd e hne
      | cons a r =>
        rw [e] at this
        exact this
theorem num_canon {fs : List Nat} (hd : NumText.AllDigits fs) (hne : fs ≠ []) : (TL.numL (NumText.digitsVal fs) = fs) ↔ ¬ (fs.headD 0 = 48 ∧ fs ≠ [48]) := by
  constructor
  · rintro e ⟨h1, h2⟩
    rcases Nat.eq_zero_or_pos (NumText.digitsVal fs) with hz | hp
    · rw [hz] at e
      exact h2 e.symm
    · have := numL_head _ hp
      rw [e] at this
      exact this h1
  · intro h
    by_cases h1 : fs = [48]
    · rw [h1]
      rfl
    · exact numL_back _ fs rfl hd hne fun h2 => h ⟨h2, h1⟩
/-- the word is the text of its number -/
theorem word_canon {w : List Nat} (hd : (figs w).all dig = true) (hne : figs w ≠ []) : (itx (numV w) = w) ↔ ¬ ((figs w).headD 0 = 48 ∧ w ≠ [48]) := by
  have ad := all_dig hd
  have nc := num_canon ad hne
  unfold numV
  unfold figs at ad hne nc hd ⊢
  by_cases c : w.take 1 = [45]
  · rw [if_pos c] at ad hne nc hd ⊢
    rw [if_pos c]
    have ew : w = 45 :: w.drop 1 := by
      cases w with
      | nil => simp at c
      | cons x r => simp at c; simp [c]
    generalize w.drop 1 = fs at *
    subst ew
    have hw : ((45 :: fs : List Nat) ≠ [48]) := by simp
    rcases Nat.eq_zero_or_pos (NumText.digitsVal fs) with hz | hp
    · have h1 : fs.headD 0 = 48 := by
        cases fs with
        | nil => exact absurd rfl hne
        | cons a r =>
          have ha := ad a (List.mem_cons_self ..)
          by_cases h : a = 48
          · exact h
          · have := digv_lead (c := a) (r := r) (by omega)
            have := Nat.pow_pos (n := r.length) (show 0 < 10 by decide)
            omega
      rw [hz]
      constructor
      · intro e
        have : itx (-((0 : Nat) : Int)) = [48] := by decide +kernel
        rw [this] at e
        simp at e
      · intro h
        exact absurd ⟨h1, hw⟩ h
    · obtain ⟨m, hm⟩ : ∃ m, NumText.digitsVal fs = m + 1 := ⟨NumText.digitsVal fs - 1, by omega⟩
      rw [hm, itx_neg, ← hm]
      have h2 : fs ≠ [48] := fun e => by
        rw [e] at hm
        have : NumText.digitsVal [48] = 0 := rfl
        omega
      constructor
      · intro e
        have e2 : TL.numL (NumText.digitsVal fs) = fs := by simpa using e
        have := nc.mp e2
        exact fun h => this ⟨h.1, h2⟩
      · intro h
        rw [nc.mpr fun h3 => h ⟨h3.1, hw⟩]
  · rw [if_neg c] at ad hne nc hd ⊢
    rw [if_neg c, itx_nat]
    exact nc
theorem numV_big {w : List Nat} (hd : (figs w).all dig = true) (hl : 10 < (figs w).length) (hc : (figs w).headD 0 ≠ 48) : 10000000000 ≤ (numV w).natAbs := by
  have key : ∀ fs : List Nat, fs.all dig = true → 10 < fs.length → fs.headD 0 ≠ 48 → 10000000000 ≤ NumText.digitsVal fs := fun fs h1 h2 h3 => by
    cases fs with
    | nil => simp at h2
    | cons a r =>
      have ha := all_dig h1 a (List.mem_cons_self ..)
      have h3 : a ≠ 48 := h3
      have := digv_lead (c := a) (r := r) (by omega)
      have h4 : 10 ^ 10 ≤ 10 ^ r.length := Nat.pow_le_pow_right (by decide) (by simp at h2; omega)
      omega
  have k := key _ hd hl hc
  unfold numV
  unfold figs at k
  by_cases c : w.take 1 = [45]
  · rw [if_pos c] at k ⊢
    omega
  · rw [if_neg c] at k ⊢
    omega
end BX.k92

set_option Elab.async false
set_option linter.all false
set_option maxRecDepth 100000
set_option maxHeartbeats 4000000
namespace BX.k92
open PySem PySem.Spec PyProof.Rows L2 RZ PureT
/-! ### the law's look at a text, plainly -/
def sgA (s : List Nat) : Bool := s.all fun c => decide (c = 111) || decide (c = 46)
def dueS (w s : List Nat) : Option (List Int) :=
  if ¬ (1 ≤ s.length ∧ s.length ≤ 200) then none else
  if figs w = [] ∨ (figs w).all dig = false ∨ 10 < (figs w).length then none else
  if (figs w).headD 0 = 48 ∧ w ≠ [48] then none else
  if sgA s = false ∨ s.headD 0 ≠ 111 ∨ s.getLastD 0 ≠ 111 then none else
  if 12 < (poss (numV w) s).length ∨ (poss (numV w) s).headD 0 < -1000000000 ∨ 1000000000 < (poss (numV w) s).getLastD 0 then none else some (poss (numV w) s)
theorem zipIdx_inc : ∀ (s : List Nat) (k : Nat), List.Pairwise (fun p q : Nat × Nat => p.2 < q.2) (s.zipIdx k)
  | [], _ => List.Pairwise.nil
  | a :: s, k => by
    rw [List.zipIdx_cons]
    refine List.Pairwise.cons (fun p hp => ?_) (zipIdx_inc s (k + 1))
    have := List.le_snd_of_mem_zipIdx hp
    show k < p.2
    omega
theorem poss_inc (f : Int) (s : List Nat) : Inc (poss f s) := by
  unfold poss
  refine List.Pairwise.filterMap _ (fun p q h x hx y hy => ?_) (zipIdx_inc s 0)
  simp at hx hy
  obtain ⟨_, rfl⟩ := hx
  obtain ⟨_, rfl⟩ := hy
  omega
theorem poss_mem {f : Int} {s : List Nat} {y : Int} (h : y ∈ poss f s) : f ≤ y ∧ y < f + s.length := by
  unfold poss at h
  obtain ⟨p, hp, e⟩ := List.mem_filterMap.mp h
  have := List.snd_lt_of_mem_zipIdx hp
  simp at e
  obtain ⟨_, rfl⟩ := e
  omega
theorem poss_head {f : Int} {s : List Nat} (h : s ≠ []) (h1 : s.headD 0 = 111) : f ∈ poss f s := by
  cases s with
  | nil => exact absurd rfl h
  | cons a r =>
    have h1 : a = 111 := h1
    subst h1
    unfold poss
    rw [List.zipIdx_cons, List.filterMap_cons]
    simp
theorem figs_le (w : List Nat) : (figs w).length ≤ w.length := by
  unfold figs
  split
  · rw [List.length_drop]; omega
  · exact Nat.le_refl _
theorem rowB_poss (f : Int) (s : List Nat) (h : s ≠ []) (h1 : s.headD 0 = 111) : rowB (.tuple ((poss f s).map .int)) = decide (¬ (12 < (poss f s).length ∨ (poss f s).headD 0 < -1000000000 ∨ 1000000000 < (poss f s).getLastD 0)) := by
  have hi := poss_inc f s
  have hm := poss_head (f := f) h h1
  generalize poss f s = row at *
  have hne : row ≠ [] := fun e => by rw [e] at hm; cases hm
  have m0 := head_mem hne
  have m1 := last_mem hne
  by_cases c : ¬ (12 < row.length ∨ row.headD 0 < -1000000000 ∨ 1000000000 < row.getLastD 0)
  · rw [decide_eq_true c]
    refine rowB_inc row hi (by omega) fun y hy => ?_
    have := inc_hl row hi y hy
    omega
  · rw [decide_eq_false c]
    cases e : rowB (.tuple (row.map .int)) with
    | false => rfl
    | true =>
      exfalso
      rw [rowB_t, List.length_map, Bool.and_eq_true, Bool.and_eq_true, decide_eq_true_eq] at e
      have ea : ∀ y ∈ row, -1000000000 ≤ y ∧ y ≤ 1000000000 := fun y hy => by
        have := List.all_eq_true.mp e.2.1 (.int y) (List.mem_map_of_mem hy)
        exact of_decide_eq_true this
      have := ea _ m0
      have := ea _ m1
      exact c (by omega)
theorem rdT_no {cs : List Nat} (h : 58 ∉ cs) (h0 : ¬ cs = [110, 111, 110, 101]) : rdT cs = none := by
  unfold rdT
  rw [if_neg h0]
  rcases par_cases cs with ⟨_, h2, _⟩ | ⟨p, q, rfl, h1, h2, h3⟩
  · rw [h2]
    cases numI (cs, ([] : List Nat)).1 with
    | none => rfl
    | some f =>
      have : sgOk f [] = false := by
        unfold sgOk
        rw [decide_eq_false (fun x => x.1 rfl), Bool.false_and]
      simp [this]
  · exact absurd (by simp) h
theorem par_app {p q : List Nat} (hp : 58 ∉ p) : parP (p ++ 58 :: q) = (p, q) := by
  have e2 : TL.par [58] [] (p ++ 58 :: q) = some (p, q) := SX.par_head (sep := []) q hp
  unfold parP
  rw [e2]
theorem ne_none {p q : List Nat} : ¬ p ++ 58 :: q = [110, 111, 110, 101] := fun h => by
  have hm : (58 : Nat) ∈ p ++ 58 :: q := by simp
  rw [h] at hm
  revert hm
  decide
theorem rdT_two {p q : List Nat} (hp : 58 ∉ p) (hq : 58 ∈ q) : rdT (p ++ 58 :: q) = none := by
  unfold rdT
  rw [if_neg ne_none, par_app hp]
  have : sgB q = false := by
    cases e : sgB q with
    | false => rfl
    | true =>
      unfold sgB at e
      rw [Bool.and_eq_true] at e
      have := List.all_eq_true.mp e.2 58 hq
      simp at this
  cases numI (p, q).1 with
  | none => rfl
  | some f => simp [this]
theorem rdT_one {p q : List Nat} (hp : 58 ∉ p) : rdT (p ++ 58 :: q) = if 58 ∈ q then none else dueS p q := by
  by_cases hq : 58 ∈ q
  · rw [if_pos hq, rdT_two hp hq]
  rw [if_neg hq]
  unfold rdT dueS
  rw [if_neg ne_none, par_app hp]
  simp only
  by_cases c1 : 1 ≤ q.length ∧ q.length ≤ 200
  · rw [if_neg (not_not_intro c1)]
    have hq0 : q ≠ [] := fun e => by rw [e] at c1; simp at c1
    have hsg : sgB q = sgA q := by
      unfold sgB
      rw [decide_eq_true c1.2, Bool.true_and]
      rfl
    by_cases c2 : figs p = [] ∨ (figs p).all dig = false ∨ 10 < (figs p).length
    · rw [if_pos c2]
      by_cases c3 : 10 < (figs p).length
      · cases hn : numI p with
        | none => rfl
        | some f =>
          have hB : numB p = true ∧ itx (numV p) = p := by
            unfold numI at hn
            split at hn
            · assumption
            · cases hn
          have hf : f = numV p := by
            unfold numI at hn
            rw [if_pos hB] at hn
            cases hn
            rfl
          have hd : (figs p).all dig = true := by
            have := hB.1
            unfold numB at this
            rw [Bool.and_eq_true] at this
            exact this.2
          have hne : figs p ≠ [] := fun e => by rw [e] at c3; simp at c3
          have hcan := (word_canon hd hne).mp hB.2
          have hl := figs_le p
          have big := numV_big hd c3 fun e => hcan ⟨e, fun e2 => by rw [e2] at c3; exact absurd c3 (by decide)⟩
          by_cases c4 : sgOk f q = true
          · exfalso
            unfold sgOk at c4
            rw [Bool.and_eq_true, decide_eq_true_eq] at c4
            have c5 := c4.2
            rw [rowB_poss f q hq0 c4.1.2.1, decide_eq_true_eq] at c5
            have hm := poss_head (f := f) hq0 c4.1.2.1
            have hi := inc_hl _ (poss_inc f q) _ hm
            have hm2 := poss_mem (head_mem (fun e => by rw [e] at hm; cases hm) : (poss f q).headD 0 ∈ poss f q)
            omega
          · simp [c4]
      · have hB : numB p = false := by
          unfold numB
          rcases c2 with c | c | c
          · rw [c]; rfl
          · rw [c, Bool.and_false]
          · exact absurd c c3
        have : numI p = none := by
          unfold numI
          rw [hB]
          simp
        rw [this]
    · rw [if_neg c2]
      have hd : (figs p).all dig = true := by
        cases h : (figs p).all dig with
        | true => rfl
        | false => exact absurd (.inr (.inl h)) c2
      have hne : figs p ≠ [] := fun e => c2 (.inl e)
      have hl10 : (figs p).length ≤ 10 := by
        rcases Nat.lt_or_ge 10 (figs p).length with h | h
        · exact absurd (.inr (.inr h)) c2
        · exact h
      have hB : numB p = true := by
        unfold numB
        have := List.length_pos_iff.mpr hne
        rw [hd, decide_eq_true (by omega)]
        rfl
      have hc := word_canon hd hne
      by_cases c3 : (figs p).headD 0 = 48 ∧ p ≠ [48]
      · rw [if_pos c3]
        have : numI p = none := by
          unfold numI
          rw [if_neg fun h => hc.mp h.2 c3]
        rw [this]
      · rw [if_neg c3]
        have : numI p = some (numV p) := by
          unfold numI
          rw [if_pos ⟨hB, hc.mpr c3⟩]
        rw [this]
        simp only
        by_cases c4 : sgA q = false ∨ q.headD 0 ≠ 111 ∨ q.getLastD 0 ≠ 111
        · rw [if_pos c4]
          rw [if_neg]
          rintro ⟨h1, h2⟩
          unfold sgOk at h2
          rw [Bool.and_eq_true, decide_eq_true_eq] at h2
          rw [hsg] at h1
          rcases c4 with c | c | c
          · rw [h1] at c; cases c
          · exact c h2.1.2.1
          · exact c h2.1.2.2
        · rw [if_neg c4]
          have s1 : sgA q = true := by
            cases h : sgA q with
            | true => rfl
            | false => exact absurd (.inl h) c4
          have s2 : q.headD 0 = 111 := by
            rcases Nat.decEq (q.headD 0) 111 with h | h
            · exact absurd (.inr (.inl h)) c4
            · exact h
          have s3 : q.getLastD 0 = 111 := by
            rcases Nat.decEq (q.getLastD 0) 111 with h | h
            · exact absurd (.inr (.inr h)) c4
            · exact h
          rw [hsg, s1]
          unfold sgOk
          rw [decide_eq_true (⟨hq0, s2, s3⟩ : q ≠ [] ∧ q.headD 0 = 111 ∧ q.getLastD 0 = 111), Bool.true_and, rowB_poss _ q hq0 s2]
          simp only [true_and, decide_eq_true_eq]
          by_cases c5 : 12 < (poss (numV p) q).length ∨ (poss (numV p) q).headD 0 < -1000000000 ∨ 1000000000 < (poss (numV p) q).getLastD 0
          · rw [if_pos c5, if_neg (not_not_intro c5)]
          · rw [if_neg c5, if_pos c5]
  · rw [if_pos c1]
    cases numI p with
    | none => rfl
    | some f =>
      simp only
      rw [if_neg]
      rintro ⟨h1, h2⟩
      unfold sgOk at h2
      unfold sgB at h1
      rw [Bool.and_eq_true, decide_eq_true_eq] at h1 h2
      have := List.length_pos_iff.mpr h2.1.1
      exact c1 ⟨this, h1.1⟩
end BX.k92

set_option Elab.async false
set_option linter.all false
set_option maxRecDepth 100000
set_option maxHeartbeats 4000000
namespace BX.k92
open PySem PySem.Spec PyProof.Rows L2 RZ PureT
/-! ### the law's look at a text, walked -/
def optT : Option (List Int) → D
  | some r => .tuple (r.map .int)
  | none => .none
def dueRest : CS := match c_l_due with
  | .seq _ (.seq _ (.seq _ (.seq _ (.seq _ r)))) => r
  | _ => .nop
def dueHead (r : CS) : CS := match c_l_due with
  | .seq a (.seq b (.seq c (.seq d (.seq e _)))) => .seq a (.seq b (.seq c (.seq d (.seq e r))))
  | x => x
theorem due_split : c_l_due = dueHead dueRest := rfl
theorem atI_rng {q : List Nat} {N i : Int} (hN : (q.length : Int) = N) (hi : i ∈ rangeL 0 N) : atI q i = some (q.getD i.toNat 0) ∧ q.getD i.toNat 0 ∈ q := by
  unfold rangeL at hi
  obtain ⟨k, hk, rfl⟩ := List.mem_map.mp hi
  rw [List.mem_range] at hk
  have hk2 : k < q.length := by omega
  have e : q.getD (0 + (k : Int)).toNat 0 = q[k] := by
    rw [show (0 + (k : Int)).toNat = k by omega]
    simp [hk2]
  rw [e]
  refine ⟨?_, List.getElem_mem hk2⟩
  rw [show (0 + (k : Int)) = ((k : Nat) : Int) by omega]
  exact atI_nat (List.getElem?_eq_getElem hk2)
theorem zipIdx_range (q : List Nat) : q.zipIdx = (List.range q.length).map fun i => (q.getD i 0, i) := by
  refine List.ext_getElem (by simp) fun i h1 h2 => ?_
  simp at h1
  simp [h1]
theorem poss_rng (f : Int) (q : List Nat) : (rangeL 0 (q.length : Int)).filterMap (fun i => if q.getD i.toNat 0 = 111 then some (PyData.int (f + i)) else none) = (poss f q).map .int := by
  unfold poss rangeL
  rw [zipIdx_range, List.map_filterMap, List.filterMap_map, List.filterMap_map, show ((q.length : Int) - 0).toNat = q.length by omega]
  congr 1
  funext i
  show (if q.getD (0 + (i : Int)).toNat 0 = 111 then some (PyData.int (f + (0 + (i : Int)))) else none) = (if q.getD i 0 = 111 then some (f + (i : Int)) else none).map .int
  rw [show (0 + (i : Int)).toNat = i by omega, show f + (0 + (i : Int)) = f + i by omega]
  split <;> rfl
theorem due_rest (cs p q fs : List Nat) (x1 : Option SV) (hp : okL p = true) (hq : okL q = true) (hf : okL fs = true) (hl : p.length + q.length + fs.length ≤ 1500) (b : Bool) (hb : decide (p.take 1 = [45]) = b) (hfs : figs p = fs) (c1 : 1 ≤ q.length ∧ q.length ≤ 200) (ρ : Env) (hρ : ρ = [some (.val (.str (S cs))), x1, some (.val (.str (S fs))), none, none, some (.val (.str (S p))), some (.val (.str (S q))), none, none]) : (exec t_l_due wfN dueRest ρ).wp (rnK [Arg.val (PyData.str (S cs))] fun r' fin' => r' = RV.val (optT (dueS p q)) ∧ fin' = none) := by
  subst hρ
  obtain ⟨res, hres⟩ : ∃ r, r = dueS p q := ⟨_, rfl⟩
  rw [← hres]
  unfold dueS at hres
  rw [if_neg (not_not_intro c1), hfs] at hres
  simp [dueRest, c_l_due, t_l_due, V_val, V_own, V_bor, vK_val, vK_own, vK_no, vK_none, wv_var, wv_cst, b2F_eq, b1F_eq, wv_bin, wv_cmp, wv_ix, wv_rng2, a1F_eq, wv_neg, wv_rev, wv_isin, wv_rng1, wv_ssort, andF_b, wv_and, orF_b, wv_or, notF_b, wv_not, conF_b, wv_ite, tupF_eq, wv_tup, lstF_eq, wv_lst, wv_dict, sl3F_eq, sl2F_eq, sl1F_eq, wv_sl, nF_eq, wv_bi, cF_eq, wv_call, mu2F_ex, muF1_b, wv_mu, mt2F_ex, mtF1_eq, wv_mt, c2F_eq, c1F_eq, wv_nil, wv_cons, lc2F_eq, lcF_eq, wv_lc, wv_yes, wv_cond, wv_no, wv_some, pF_int, seqF_eq, wv_seq, rngF_eq, wv_rng, ofF_eq, wv_zip, wv_enum, asgF_eq, wx_asg, drF_eq, wx_drop, reF_eq, wx_ret, wx_retN, wx_nop, wx_brk, wx_cont, ifF_b, wx_ite, wx_seq, wx_wh, foF_eq, wx_for, tsF_eq, wx_asgT, paF_eq, wx_par, s3F_ex, s2F_eq, s1F_eq, wx_setIx, flat, shaped_lints1, shaped_int, shaped_bool, shaped_none, shaped_nil, shaped_nilt, shaped_tints, shaped_lints, eqv_int, eqv_bool, eqv_tints, eqv_lints, eqv_lnil, eqv_tnil, any_ints, flat_ints, ex_cond, ex_cond2, ixN, atI_0, atI_1, atI_2, atI_3, wp_ok, wp_bad, wp_exc, wp_if, flK_next, flK_ret, flK_brk, flK_cont, tK_b, lpK_next, lpK_cont, lpK_brk, lpK_ret, rnK_next, rnK_ret, wp_turn, ltK_some, lt1F_eq, lt2F_eq, stAsg_val, stAsg_own, stAsg_bor, stRet_val, stRet_own, stRet_bor, exAsgT, exPar, setO, setL, setKd, setTd, mtGet, mtIndex, mtCount, mtJoin, mtSplit, mtPart, tyOkR, mtTyOk, MT.ty, mtF, viewRV, viewRVs, O.vw, boF, coF, bAdd, bSub, bMul, bDiv, bMod, bPow, bNeg, bEq, bNe, bCmp, bIn, isIn, bIs, isIs, bIx, bRev, bSl, bi, bLen, bMax, bMin, bAbs, bInt, bStr, bTuple, bList, bSorted, bAll, bAny, bSum, bDict, vInt, bIsin, vwIs, bRng1, bRng2, bRng, valArgs, setS_eq, setK_val, setK_own, setK_no, setK_lf, setK_lq, setT, setTs, recvOk, muF, muAppend, muExtend, muPop_snoc, muPop_one, muDpop, MU.isD, wp_callV, wp_callR, wp_callT, ctJ_some, ctK_val, ctK_own, valsD, clK_int, clK_bool, clK_str, clK_none, clK_tup, clK_own, clK_lst, crK_val, crK_own, RF.wp_ok, rfE_ok, rfF_eq, rfK_exc, rfK_val, rfK_own, wv_isE, bIsE, noExc_int, noExc_bool, noExc_none, noExc_str, noExc_list, noExc_tuple, noExc_k, noExc_t, O.fz, keyD, wv_chain, ch1F_eq, ch2F_eq, ch3F_eq, evSeq, rngOf, zipOf, enumOf, startE, argS, finO, stK, ownFree, wipeE, restE, sizeLine, R.bind_ok, -Prod.exists, -Bool.exists_bool, -Prod.forall, -Bool.forall_bool, li_fig, li_nil, eqv_str, shaped_S, S_beq, S_len, okL_nil, okL_cons, hf, signs_S]
  refine ⟨fun h => by rw [hres, if_pos (.inl h)]; rfl, fun hne => ⟨by omega, ?_⟩⟩
  rw [lc_on (fun c => PyData.str (S [c])) (fun c => PyData.bool (dig c)) fs fun c hc => by simp [V_val, V_own, V_bor, vK_val, vK_own, vK_no, vK_none, wv_var, wv_cst, b2F_eq, b1F_eq, wv_bin, wv_cmp, wv_ix, wv_rng2, a1F_eq, wv_neg, wv_rev, wv_isin, wv_rng1, wv_ssort, andF_b, wv_and, orF_b, wv_or, notF_b, wv_not, conF_b, wv_ite, tupF_eq, wv_tup, lstF_eq, wv_lst, wv_dict, sl3F_eq, sl2F_eq, sl1F_eq, wv_sl, nF_eq, wv_bi, cF_eq, wv_call, mu2F_ex, muF1_b, wv_mu, mt2F_ex, mtF1_eq, wv_mt, c2F_eq, c1F_eq, wv_nil, wv_cons, lc2F_eq, lcF_eq, wv_lc, wv_yes, wv_cond, wv_no, wv_some, pF_int, seqF_eq, wv_seq, rngF_eq, wv_rng, ofF_eq, wv_zip, wv_enum, asgF_eq, wx_asg, drF_eq, wx_drop, reF_eq, wx_ret, wx_retN, wx_nop, wx_brk, wx_cont, ifF_b, wx_ite, wx_seq, wx_wh, foF_eq, wx_for, tsF_eq, wx_asgT, paF_eq, wx_par, s3F_ex, s2F_eq, s1F_eq, wx_setIx, flat, shaped_lints1, shaped_int, shaped_bool, shaped_none, shaped_nil, shaped_nilt, shaped_tints, shaped_lints, eqv_int, eqv_bool, eqv_tints, eqv_lints, eqv_lnil, eqv_tnil, any_ints, flat_ints, ex_cond, ex_cond2, ixN, atI_0, atI_1, atI_2, atI_3, wp_ok, wp_bad, wp_exc, wp_if, flK_next, flK_ret, flK_brk, flK_cont, tK_b, lpK_next, lpK_cont, lpK_brk, lpK_ret, rnK_next, rnK_ret, wp_turn, ltK_some, lt1F_eq, lt2F_eq, stAsg_val, stAsg_own, stAsg_bor, stRet_val, stRet_own, stRet_bor, exAsgT, exPar, setO, setL, setKd, setTd, mtGet, mtIndex, mtCount, mtJoin, mtSplit, mtPart, tyOkR, mtTyOk, MT.ty, mtF, viewRV, viewRVs, O.vw, boF, coF, bAdd, bSub, bMul, bDiv, bMod, bPow, bNeg, bEq, bNe, bCmp, bIn, isIn, bIs, isIs, bIx, bRev, bSl, bi, bLen, bMax, bMin, bAbs, bInt, bStr, bTuple, bList, bSorted, bAll, bAny, bSum, bDict, vInt, bIsin, vwIs, bRng1, bRng2, bRng, valArgs, setS_eq, setK_val, setK_own, setK_no, setK_lf, setK_lq, setT, setTs, recvOk, muF, muAppend, muExtend, muPop_snoc, muPop_one, muDpop, MU.isD, wp_callV, wp_callR, wp_callT, ctJ_some, ctK_val, ctK_own, valsD, clK_int, clK_bool, clK_str, clK_none, clK_tup, clK_own, clK_lst, crK_val, crK_own, RF.wp_ok, rfE_ok, rfF_eq, rfK_exc, rfK_val, rfK_own, wv_isE, bIsE, noExc_int, noExc_bool, noExc_none, noExc_str, noExc_list, noExc_tuple, noExc_k, noExc_t, O.fz, keyD, wv_chain, ch1F_eq, ch2F_eq, ch3F_eq, evSeq, rngOf, zipOf, enumOf, startE, argS, finO, stK, ownFree, wipeE, restE, sizeLine, R.bind_ok, -Prod.exists, -Bool.exists_bool, -Prod.forall, -Bool.forall_bool, li_fig, S_list, figs_or]]
  simp [V_val, V_own, V_bor, vK_val, vK_own, vK_no, vK_none, wv_var, wv_cst, b2F_eq, b1F_eq, wv_bin, wv_cmp, wv_ix, wv_rng2, a1F_eq, wv_neg, wv_rev, wv_isin, wv_rng1, wv_ssort, andF_b, wv_and, orF_b, wv_or, notF_b, wv_not, conF_b, wv_ite, tupF_eq, wv_tup, lstF_eq, wv_lst, wv_dict, sl3F_eq, sl2F_eq, sl1F_eq, wv_sl, nF_eq, wv_bi, cF_eq, wv_call, mu2F_ex, muF1_b, wv_mu, mt2F_ex, mtF1_eq, wv_mt, c2F_eq, c1F_eq, wv_nil, wv_cons, lc2F_eq, lcF_eq, wv_lc, wv_yes, wv_cond, wv_no, wv_some, pF_int, seqF_eq, wv_seq, rngF_eq, wv_rng, ofF_eq, wv_zip, wv_enum, asgF_eq, wx_asg, drF_eq, wx_drop, reF_eq, wx_ret, wx_retN, wx_nop, wx_brk, wx_cont, ifF_b, wx_ite, wx_seq, wx_wh, foF_eq, wx_for, tsF_eq, wx_asgT, paF_eq, wx_par, s3F_ex, s2F_eq, s1F_eq, wx_setIx, flat, shaped_lints1, shaped_int, shaped_bool, shaped_none, shaped_nil, shaped_nilt, shaped_tints, shaped_lints, eqv_int, eqv_bool, eqv_tints, eqv_lints, eqv_lnil, eqv_tnil, any_ints, flat_ints, ex_cond, ex_cond2, ixN, atI_0, atI_1, atI_2, atI_3, wp_ok, wp_bad, wp_exc, wp_if, flK_next, flK_ret, flK_brk, flK_cont, tK_b, lpK_next, lpK_cont, lpK_brk, lpK_ret, rnK_next, rnK_ret, wp_turn, ltK_some, lt1F_eq, lt2F_eq, stAsg_val, stAsg_own, stAsg_bor, stRet_val, stRet_own, stRet_bor, exAsgT, exPar, setO, setL, setKd, setTd, mtGet, mtIndex, mtCount, mtJoin, mtSplit, mtPart, tyOkR, mtTyOk, MT.ty, mtF, viewRV, viewRVs, O.vw, boF, coF, bAdd, bSub, bMul, bDiv, bMod, bPow, bNeg, bEq, bNe, bCmp, bIn, isIn, bIs, isIs, bIx, bRev, bSl, bi, bLen, bMax, bMin, bAbs, bInt, bStr, bTuple, bList, bSorted, bAll, bAny, bSum, bDict, vInt, bIsin, vwIs, bRng1, bRng2, bRng, valArgs, setS_eq, setK_val, setK_own, setK_no, setK_lf, setK_lq, setT, setTs, recvOk, muF, muAppend, muExtend, muPop_snoc, muPop_one, muDpop, MU.isD, wp_callV, wp_callR, wp_callT, ctJ_some, ctK_val, ctK_own, valsD, clK_int, clK_bool, clK_str, clK_none, clK_tup, clK_own, clK_lst, crK_val, crK_own, RF.wp_ok, rfE_ok, rfF_eq, rfK_exc, rfK_val, rfK_own, wv_isE, bIsE, noExc_int, noExc_bool, noExc_none, noExc_str, noExc_list, noExc_tuple, noExc_k, noExc_t, O.fz, keyD, wv_chain, ch1F_eq, ch2F_eq, ch3F_eq, evSeq, rngOf, zipOf, enumOf, startE, argS, finO, stK, ownFree, wipeE, restE, sizeLine, R.bind_ok, -Prod.exists, -Bool.exists_bool, -Prod.forall, -Bool.forall_bool, asBools_f, S_len]
  have hfd : (∀ x ∈ fs, dig x = true) → fs.all dig = true := fun h => List.all_eq_true.mpr h
  refine ⟨fun x hx hd => ?_, fun hd => ⟨by omega, fun h10 => by rw [hres, if_pos (.inr (.inr (by omega)))]; rfl, fun h10 => ?_⟩⟩
  · have hfa : fs.all dig = false := by
      cases h : fs.all dig with
      | false => rfl
      | true => rw [List.all_eq_true.mp h x hx] at hd; cases hd
    rw [hres, if_pos (.inr (.inl hfa))]
    rfl
  have n1 : ¬ (fs = [] ∨ fs.all dig = false ∨ 10 < fs.length) := by
    rintro (h | h | h)
    · exact hne h
    · rw [hfd hd] at h; cases h
    · omega
  rw [if_neg n1] at hres
  have hne0 : fs ≠ [] := hne
  have g0 := atI_S0 hne0
  have hm0 : fs.headD 0 ∈ fs := by
    cases fs with
    | nil => exact absurd rfl hne0
    | cons a r => exact List.mem_cons_self ..
  have ok0 : fs.headD 0 < 1114112 := of_decide_eq_true (List.all_eq_true.mp hf _ hm0)
  obtain ⟨d0, hd0⟩ : ∃ d, d = fs.headD 0 := ⟨_, rfl⟩
  rw [← hd0] at g0 ok0 hres
  have li_0 : ("0" : Str) = S [48] := by rfl
  have lf : fs.length ≤ 16777216 := by omega
  have hqne : q ≠ [] := fun e => by rw [e] at c1; simp at c1
  have hq0 : (q = []) = False := eq_false hqne
  have q0 := atI_S0 hqne
  have q1 := atI_Sl hqne
  have okh : q.headD 0 < 1114112 := by
    have : q.headD 0 ∈ q := by
      cases q with
      | nil => exact absurd rfl hqne
      | cons a r => exact List.mem_cons_self ..
    exact of_decide_eq_true (List.all_eq_true.mp hq _ this)
  have okt : q.getLastD 0 < 1114112 := by
    have : q.getLastD 0 ∈ q := by
      have e2 : q.getLastD 0 = q.getLast hqne := by
        cases q with
        | nil => exact absurd rfl hqne
        | cons a r => rfl
      rw [e2]
      exact List.getLast_mem hqne
    exact of_decide_eq_true (List.all_eq_true.mp hq _ this)
  obtain ⟨a, ha⟩ : ∃ a, a = q.headD 0 := ⟨_, rfl⟩
  obtain ⟨b', hb'⟩ : ∃ b, b = q.getLastD 0 := ⟨_, rfl⟩
  rw [← ha] at q0 okh hres
  rw [← hb'] at q1 okt hres
  by_cases z : d0 = 48 ∧ p ≠ [48]
  · rw [if_pos z] at hres
    simp [V_val, V_own, V_bor, vK_val, vK_own, vK_no, vK_none, wv_var, wv_cst, b2F_eq, b1F_eq, wv_bin, wv_cmp, wv_ix, wv_rng2, a1F_eq, wv_neg, wv_rev, wv_isin, wv_rng1, wv_ssort, andF_b, wv_and, orF_b, wv_or, notF_b, wv_not, conF_b, wv_ite, tupF_eq, wv_tup, lstF_eq, wv_lst, wv_dict, sl3F_eq, sl2F_eq, sl1F_eq, wv_sl, nF_eq, wv_bi, cF_eq, wv_call, mu2F_ex, muF1_b, wv_mu, mt2F_ex, mtF1_eq, wv_mt, c2F_eq, c1F_eq, wv_nil, wv_cons, lc2F_eq, lcF_eq, wv_lc, wv_yes, wv_cond, wv_no, wv_some, pF_int, seqF_eq, wv_seq, rngF_eq, wv_rng, ofF_eq, wv_zip, wv_enum, asgF_eq, wx_asg, drF_eq, wx_drop, reF_eq, wx_ret, wx_retN, wx_nop, wx_brk, wx_cont, ifF_b, wx_ite, wx_seq, wx_wh, foF_eq, wx_for, tsF_eq, wx_asgT, paF_eq, wx_par, s3F_ex, s2F_eq, s1F_eq, wx_setIx, flat, shaped_lints1, shaped_int, shaped_bool, shaped_none, shaped_nil, shaped_nilt, shaped_tints, shaped_lints, eqv_int, eqv_bool, eqv_tints, eqv_lints, eqv_lnil, eqv_tnil, any_ints, flat_ints, ex_cond, ex_cond2, ixN, atI_0, atI_1, atI_2, atI_3, wp_ok, wp_bad, wp_exc, wp_if, flK_next, flK_ret, flK_brk, flK_cont, tK_b, lpK_next, lpK_cont, lpK_brk, lpK_ret, rnK_next, rnK_ret, wp_turn, ltK_some, lt1F_eq, lt2F_eq, stAsg_val, stAsg_own, stAsg_bor, stRet_val, stRet_own, stRet_bor, exAsgT, exPar, setO, setL, setKd, setTd, mtGet, mtIndex, mtCount, mtJoin, mtSplit, mtPart, tyOkR, mtTyOk, MT.ty, mtF, viewRV, viewRVs, O.vw, boF, coF, bAdd, bSub, bMul, bDiv, bMod, bPow, bNeg, bEq, bNe, bCmp, bIn, isIn, bIs, isIs, bIx, bRev, bSl, bi, bLen, bMax, bMin, bAbs, bInt, bStr, bTuple, bList, bSorted, bAll, bAny, bSum, bDict, vInt, bIsin, vwIs, bRng1, bRng2, bRng, valArgs, setS_eq, setK_val, setK_own, setK_no, setK_lf, setK_lq, setT, setTs, recvOk, muF, muAppend, muExtend, muPop_snoc, muPop_one, muDpop, MU.isD, wp_callV, wp_callR, wp_callT, ctJ_some, ctK_val, ctK_own, valsD, clK_int, clK_bool, clK_str, clK_none, clK_tup, clK_own, clK_lst, crK_val, crK_own, RF.wp_ok, rfE_ok, rfF_eq, rfK_exc, rfK_val, rfK_own, wv_isE, bIsE, noExc_int, noExc_bool, noExc_none, noExc_str, noExc_list, noExc_tuple, noExc_k, noExc_t, O.fz, keyD, wv_chain, ch1F_eq, ch2F_eq, ch3F_eq, evSeq, rngOf, zipOf, enumOf, startE, argS, finO, stK, ownFree, wipeE, restE, sizeLine, R.bind_ok, -Prod.exists, -Bool.exists_bool, -Prod.forall, -Bool.forall_bool, g0, lf, eqv_str, shaped_S, hp, hq, okL_nil, okL_cons, ok0, S_beq, S_len, li_0, li_od, signs_S, z.1, z.2]
    rw [hres]
    rfl
  rw [if_neg z] at hres
  have i1 := intText_digits (x := S fs) (by rw [S_list]; exact all_dig (hfd hd)) (by rw [S_list]; exact hne0) (by rw [S_len]; omega)
  rw [S_list] at i1
  obtain ⟨v, hv⟩ : ∃ v : Int, v = ((NumText.digitsVal fs : Nat) : Int) := ⟨_, rfl⟩
  rw [← hv] at i1
  have l640 : fs.length ≤ 640 := by omega
  have lq : q.length ≤ 16777216 := by omega
  have o2p := okL_take hp 1
  have nv : numV p = if b then -v else v := by
    unfold numV
    unfold figs at hfs
    cases b with
    | true =>
      have hb := of_decide_eq_true hb
      rw [if_pos hb] at hfs ⊢
      rw [hv, hfs]
      rfl
    | false =>
      have hb := of_decide_eq_false hb
      rw [if_neg hb] at hfs ⊢
      rw [hv, hfs]
      rfl
  obtain ⟨N, hN⟩ : ∃ N : Int, (q.length : Int) = N := ⟨_, rfl⟩
  have hlenr : rngOk N = true := decide_eq_true (by omega)
  have hrl : (rangeL 0 N).length ≤ 16777216 := by unfold rangeL; simp; omega
  simp [V_val, V_own, V_bor, vK_val, vK_own, vK_no, vK_none, wv_var, wv_cst, b2F_eq, b1F_eq, wv_bin, wv_cmp, wv_ix, wv_rng2, a1F_eq, wv_neg, wv_rev, wv_isin, wv_rng1, wv_ssort, andF_b, wv_and, orF_b, wv_or, notF_b, wv_not, conF_b, wv_ite, tupF_eq, wv_tup, lstF_eq, wv_lst, wv_dict, sl3F_eq, sl2F_eq, sl1F_eq, wv_sl, nF_eq, wv_bi, cF_eq, wv_call, mu2F_ex, muF1_b, wv_mu, mt2F_ex, mtF1_eq, wv_mt, c2F_eq, c1F_eq, wv_nil, wv_cons, lc2F_eq, lcF_eq, wv_lc, wv_yes, wv_cond, wv_no, wv_some, pF_int, seqF_eq, wv_seq, rngF_eq, wv_rng, ofF_eq, wv_zip, wv_enum, asgF_eq, wx_asg, drF_eq, wx_drop, reF_eq, wx_ret, wx_retN, wx_nop, wx_brk, wx_cont, ifF_b, wx_ite, wx_seq, wx_wh, foF_eq, wx_for, tsF_eq, wx_asgT, paF_eq, wx_par, s3F_ex, s2F_eq, s1F_eq, wx_setIx, flat, shaped_lints1, shaped_int, shaped_bool, shaped_none, shaped_nil, shaped_nilt, shaped_tints, shaped_lints, eqv_int, eqv_bool, eqv_tints, eqv_lints, eqv_lnil, eqv_tnil, any_ints, flat_ints, ex_cond, ex_cond2, ixN, atI_0, atI_1, atI_2, atI_3, wp_ok, wp_bad, wp_exc, wp_if, flK_next, flK_ret, flK_brk, flK_cont, tK_b, lpK_next, lpK_cont, lpK_brk, lpK_ret, rnK_next, rnK_ret, wp_turn, ltK_some, lt1F_eq, lt2F_eq, stAsg_val, stAsg_own, stAsg_bor, stRet_val, stRet_own, stRet_bor, exAsgT, exPar, setO, setL, setKd, setTd, mtGet, mtIndex, mtCount, mtJoin, mtSplit, mtPart, tyOkR, mtTyOk, MT.ty, mtF, viewRV, viewRVs, O.vw, boF, coF, bAdd, bSub, bMul, bDiv, bMod, bPow, bNeg, bEq, bNe, bCmp, bIn, isIn, bIs, isIs, bIx, bRev, bSl, bi, bLen, bMax, bMin, bAbs, bInt, bStr, bTuple, bList, bSorted, bAll, bAny, bSum, bDict, vInt, bIsin, vwIs, bRng1, bRng2, bRng, valArgs, setS_eq, setK_val, setK_own, setK_no, setK_lf, setK_lq, setT, setTs, recvOk, muF, muAppend, muExtend, muPop_snoc, muPop_one, muDpop, MU.isD, wp_callV, wp_callR, wp_callT, ctJ_some, ctK_val, ctK_own, valsD, clK_int, clK_bool, clK_str, clK_none, clK_tup, clK_own, clK_lst, crK_val, crK_own, RF.wp_ok, rfE_ok, rfF_eq, rfK_exc, rfK_val, rfK_own, wv_isE, bIsE, noExc_int, noExc_bool, noExc_none, noExc_str, noExc_list, noExc_tuple, noExc_k, noExc_t, O.fz, keyD, wv_chain, ch1F_eq, ch2F_eq, ch3F_eq, evSeq, rngOf, zipOf, enumOf, startE, argS, finO, stK, ownFree, wipeE, restE, sizeLine, R.bind_ok, -Prod.exists, -Bool.exists_bool, -Prod.forall, -Bool.forall_bool, g0, lf, eqv_str, shaped_S, hp, hq, okL_nil, okL_cons, ok0, S_beq, S_len, li_0, li_od, signs_S]
  refine ⟨fun e => ⟨fun n => absurd ⟨e, n⟩ z, fun _ => ?_⟩, fun _ => ?_⟩
  all_goals
    refine ⟨by omega, ?_⟩
    rw [lc_on (fun c => PyData.str (S [c])) (fun c => PyData.bool (decide (c = 111) || decide (c = 46))) q fun c _ => by simp [V_val, V_own, V_bor, vK_val, vK_own, vK_no, vK_none, wv_var, wv_cst, b2F_eq, b1F_eq, wv_bin, wv_cmp, wv_ix, wv_rng2, a1F_eq, wv_neg, wv_rev, wv_isin, wv_rng1, wv_ssort, andF_b, wv_and, orF_b, wv_or, notF_b, wv_not, conF_b, wv_ite, tupF_eq, wv_tup, lstF_eq, wv_lst, wv_dict, sl3F_eq, sl2F_eq, sl1F_eq, wv_sl, nF_eq, wv_bi, cF_eq, wv_call, mu2F_ex, muF1_b, wv_mu, mt2F_ex, mtF1_eq, wv_mt, c2F_eq, c1F_eq, wv_nil, wv_cons, lc2F_eq, lcF_eq, wv_lc, wv_yes, wv_cond, wv_no, wv_some, pF_int, seqF_eq, wv_seq, rngF_eq, wv_rng, ofF_eq, wv_zip, wv_enum, asgF_eq, wx_asg, drF_eq, wx_drop, reF_eq, wx_ret, wx_retN, wx_nop, wx_brk, wx_cont, ifF_b, wx_ite, wx_seq, wx_wh, foF_eq, wx_for, tsF_eq, wx_asgT, paF_eq, wx_par, s3F_ex, s2F_eq, s1F_eq, wx_setIx, flat, shaped_lints1, shaped_int, shaped_bool, shaped_none, shaped_nil, shaped_nilt, shaped_tints, shaped_lints, eqv_int, eqv_bool, eqv_tints, eqv_lints, eqv_lnil, eqv_tnil, any_ints, flat_ints, ex_cond, ex_cond2, ixN, atI_0, atI_1, atI_2, atI_3, wp_ok, wp_bad, wp_exc, wp_if, flK_next, flK_ret, flK_brk, flK_cont, tK_b, lpK_next, lpK_cont, lpK_brk, lpK_ret, rnK_next, rnK_ret, wp_turn, ltK_some, lt1F_eq, lt2F_eq, stAsg_val, stAsg_own, stAsg_bor, stRet_val, stRet_own, stRet_bor, exAsgT, exPar, setO, setL, setKd, setTd, mtGet, mtIndex, mtCount, mtJoin, mtSplit, mtPart, tyOkR, mtTyOk, MT.ty, mtF, viewRV, viewRVs, O.vw, boF, coF, bAdd, bSub, bMul, bDiv, bMod, bPow, bNeg, bEq, bNe, bCmp, bIn, isIn, bIs, isIs, bIx, bRev, bSl, bi, bLen, bMax, bMin, bAbs, bInt, bStr, bTuple, bList, bSorted, bAll, bAny, bSum, bDict, vInt, bIsin, vwIs, bRng1, bRng2, bRng, valArgs, setS_eq, setK_val, setK_own, setK_no, setK_lf, setK_lq, setT, setTs, recvOk, muF, muAppend, muExtend, muPop_snoc, muPop_one, muDpop, MU.isD, wp_callV, wp_callR, wp_callT, ctJ_some, ctK_val, ctK_own, valsD, clK_int, clK_bool, clK_str, clK_none, clK_tup, clK_own, clK_lst, crK_val, crK_own, RF.wp_ok, rfE_ok, rfF_eq, rfK_exc, rfK_val, rfK_own, wv_isE, bIsE, noExc_int, noExc_bool, noExc_none, noExc_str, noExc_list, noExc_tuple, noExc_k, noExc_t, O.fz, keyD, wv_chain, ch1F_eq, ch2F_eq, ch3F_eq, evSeq, rngOf, zipOf, enumOf, startE, argS, finO, stK, ownFree, wipeE, restE, sizeLine, R.bind_ok, -Prod.exists, -Bool.exists_bool, -Prod.forall, -Bool.forall_bool, li_od, S_list]]
    simp [V_val, V_own, V_bor, vK_val, vK_own, vK_no, vK_none, wv_var, wv_cst, b2F_eq, b1F_eq, wv_bin, wv_cmp, wv_ix, wv_rng2, a1F_eq, wv_neg, wv_rev, wv_isin, wv_rng1, wv_ssort, andF_b, wv_and, orF_b, wv_or, notF_b, wv_not, conF_b, wv_ite, tupF_eq, wv_tup, lstF_eq, wv_lst, wv_dict, sl3F_eq, sl2F_eq, sl1F_eq, wv_sl, nF_eq, wv_bi, cF_eq, wv_call, mu2F_ex, muF1_b, wv_mu, mt2F_ex, mtF1_eq, wv_mt, c2F_eq, c1F_eq, wv_nil, wv_cons, lc2F_eq, lcF_eq, wv_lc, wv_yes, wv_cond, wv_no, wv_some, pF_int, seqF_eq, wv_seq, rngF_eq, wv_rng, ofF_eq, wv_zip, wv_enum, asgF_eq, wx_asg, drF_eq, wx_drop, reF_eq, wx_ret, wx_retN, wx_nop, wx_brk, wx_cont, ifF_b, wx_ite, wx_seq, wx_wh, foF_eq, wx_for, tsF_eq, wx_asgT, paF_eq, wx_par, s3F_ex, s2F_eq, s1F_eq, wx_setIx, flat, shaped_lints1, shaped_int, shaped_bool, shaped_none, shaped_nil, shaped_nilt, shaped_tints, shaped_lints, eqv_int, eqv_bool, eqv_tints, eqv_lints, eqv_lnil, eqv_tnil, any_ints, flat_ints, ex_cond, ex_cond2, ixN, atI_0, atI_1, atI_2, atI_3, wp_ok, wp_bad, wp_exc, wp_if, flK_next, flK_ret, flK_brk, flK_cont, tK_b, lpK_next, lpK_cont, lpK_brk, lpK_ret, rnK_next, rnK_ret, wp_turn, ltK_some, lt1F_eq, lt2F_eq, stAsg_val, stAsg_own, stAsg_bor, stRet_val, stRet_own, stRet_bor, exAsgT, exPar, setO, setL, setKd, setTd, mtGet, mtIndex, mtCount, mtJoin, mtSplit, mtPart, tyOkR, mtTyOk, MT.ty, mtF, viewRV, viewRVs, O.vw, boF, coF, bAdd, bSub, bMul, bDiv, bMod, bPow, bNeg, bEq, bNe, bCmp, bIn, isIn, bIs, isIs, bIx, bRev, bSl, bi, bLen, bMax, bMin, bAbs, bInt, bStr, bTuple, bList, bSorted, bAll, bAny, bSum, bDict, vInt, bIsin, vwIs, bRng1, bRng2, bRng, valArgs, setS_eq, setK_val, setK_own, setK_no, setK_lf, setK_lq, setT, setTs, recvOk, muF, muAppend, muExtend, muPop_snoc, muPop_one, muDpop, MU.isD, wp_callV, wp_callR, wp_callT, ctJ_some, ctK_val, ctK_own, valsD, clK_int, clK_bool, clK_str, clK_none, clK_tup, clK_own, clK_lst, crK_val, crK_own, RF.wp_ok, rfE_ok, rfF_eq, rfK_exc, rfK_val, rfK_own, wv_isE, bIsE, noExc_int, noExc_bool, noExc_none, noExc_str, noExc_list, noExc_tuple, noExc_k, noExc_t, O.fz, keyD, wv_chain, ch1F_eq, ch2F_eq, ch3F_eq, evSeq, rngOf, zipOf, enumOf, startE, argS, finO, stK, ownFree, wipeE, restE, sizeLine, R.bind_ok, -Prod.exists, -Bool.exists_bool, -Prod.forall, -Bool.forall_bool, asBools_f, q0, q1, okh, okt, eqv_str, shaped_S, okL_nil, okL_cons, S_beq, S_len, li_o, lq, S_list]
    refine ⟨fun x hx h3 h4 => ?_, fun ga => ⟨fun n => by rw [hres, if_pos (.inr (.inl n))]; rfl, fun e1 => ⟨fun n => by rw [hres, if_pos (.inr (.inr n))]; rfl, fun e2 => ?_⟩⟩⟩
    · have hsa : sgA q = false := by
        cases h : sgA q with
        | false => rfl
        | true =>
          have := List.all_eq_true.mp h x hx
          simp at this
          omega
      rw [hres, if_pos (.inl hsa)]
      rfl
    have n2 : ¬ (sgA q = false ∨ a ≠ 111 ∨ b' ≠ 111) := by
      rintro (h | h | h)
      · have : sgA q = true := List.all_eq_true.mpr fun x hx => by simpa using ga x hx
        rw [this] at h; cases h
      · exact h e1
      · exact h e2
    rw [if_neg n2] at hres
    have hrow : (rangeL 0 (q.length : Int)).filterMap (fun i => if q.getD i.toNat 0 = 111 then some (PyData.int (numV p + i)) else none) = (poss (numV p) q).map .int := poss_rng (numV p) q
    have hpm := poss_head (f := numV p) hqne (by rw [← ha]; exact e1)
    obtain ⟨row, hrw⟩ : ∃ r, r = poss (numV p) q := ⟨_, rfl⟩
    have hpl : (poss (numV p) q).length ≤ q.length := by
      have h3 : (poss (numV p) q).length ≤ q.zipIdx.length := List.length_filterMap_le ..
      rwa [List.length_zipIdx] at h3
    rw [← hrw] at hres hrow hpm hpl
    have hrne : row ≠ [] := fun e => by rw [e] at hpm; cases hpm
    have r0 := atI_h hrne
    have r1 := atI_l hrne
    rw [hN] at hrow
    obtain ⟨x0, hx0⟩ : ∃ x, x = row.headD 0 := ⟨_, rfl⟩
    obtain ⟨x9, hx9⟩ : ∃ x, x = row.getLastD 0 := ⟨_, rfl⟩
    rw [← hx0] at r0 hres
    rw [← hx9] at r1 hres
    cases b with
    | true =>
      have hb := of_decide_eq_true hb
      have t1 := cut_to1 p
      rw [hb] at t1
      rw [if_pos rfl] at nv
      simp -implicitDefEqProofs [V_val, V_own, V_bor, vK_val, vK_own, vK_no, vK_none, wv_var, wv_cst, b2F_eq, b1F_eq, wv_bin, wv_cmp, wv_ix, wv_rng2, a1F_eq, wv_neg, wv_rev, wv_isin, wv_rng1, wv_ssort, andF_b, wv_and, orF_b, wv_or, notF_b, wv_not, conF_b, wv_ite, tupF_eq, wv_tup, lstF_eq, wv_lst, wv_dict, sl3F_eq, sl2F_eq, sl1F_eq, wv_sl, nF_eq, wv_bi, cF_eq, wv_call, mu2F_ex, muF1_b, wv_mu, mt2F_ex, mtF1_eq, wv_mt, c2F_eq, c1F_eq, wv_nil, wv_cons, lc2F_eq, lcF_eq, wv_lc, wv_yes, wv_cond, wv_no, wv_some, pF_int, seqF_eq, wv_seq, rngF_eq, wv_rng, ofF_eq, wv_zip, wv_enum, asgF_eq, wx_asg, drF_eq, wx_drop, reF_eq, wx_ret, wx_retN, wx_nop, wx_brk, wx_cont, ifF_b, wx_ite, wx_seq, wx_wh, foF_eq, wx_for, tsF_eq, wx_asgT, paF_eq, wx_par, s3F_ex, s2F_eq, s1F_eq, wx_setIx, flat, shaped_lints1, shaped_int, shaped_bool, shaped_none, shaped_nil, shaped_nilt, shaped_tints, shaped_lints, eqv_int, eqv_bool, eqv_tints, eqv_lints, eqv_lnil, eqv_tnil, any_ints, flat_ints, ex_cond, ex_cond2, ixN, atI_0, atI_1, atI_2, atI_3, wp_ok, wp_bad, wp_exc, wp_if, flK_next, flK_ret, flK_brk, flK_cont, tK_b, lpK_next, lpK_cont, lpK_brk, lpK_ret, rnK_next, rnK_ret, wp_turn, ltK_some, lt1F_eq, lt2F_eq, stAsg_val, stAsg_own, stAsg_bor, stRet_val, stRet_own, stRet_bor, exAsgT, exPar, setO, setL, setKd, setTd, mtGet, mtIndex, mtCount, mtJoin, mtSplit, mtPart, tyOkR, mtTyOk, MT.ty, mtF, viewRV, viewRVs, O.vw, boF, coF, bAdd, bSub, bMul, bDiv, bMod, bPow, bNeg, bEq, bNe, bCmp, bIn, isIn, bIs, isIs, bIx, bRev, bSl, bi, bLen, bMax, bMin, bAbs, bInt, bStr, bTuple, bList, bSorted, bAll, bAny, bSum, bDict, vInt, bIsin, vwIs, bRng1, bRng2, bRng, valArgs, setS_eq, setK_val, setK_own, setK_no, setK_lf, setK_lq, setT, setTs, recvOk, muF, muAppend, muExtend, muPop_snoc, muPop_one, muDpop, MU.isD, wp_callV, wp_callR, wp_callT, ctJ_some, ctK_val, ctK_own, valsD, clK_int, clK_bool, clK_str, clK_none, clK_tup, clK_own, clK_lst, crK_val, crK_own, RF.wp_ok, rfE_ok, rfF_eq, rfK_exc, rfK_val, rfK_own, wv_isE, bIsE, noExc_int, noExc_bool, noExc_none, noExc_str, noExc_list, noExc_tuple, noExc_k, noExc_t, O.fz, keyD, wv_chain, ch1F_eq, ch2F_eq, ch3F_eq, evSeq, rngOf, zipOf, enumOf, startE, argS, finO, stK, ownFree, wipeE, restE, sizeLine, R.bind_ok, -Prod.exists, -Bool.exists_bool, -Prod.forall, -Bool.forall_bool, i1, l640, t1, li_min, eqv_str, shaped_S, okL_nil, okL_cons, S_beq, S_len, lq, hlenr, li_o, hN]
      refine ⟨by omega, by omega, ?_⟩
      rw [← nv]
      rw [lc_onF PyData.int (fun i => if q.getD i.toNat 0 = 111 then some (PyData.int (numV p + i)) else none) (rangeL 0 N) fun i hi => by
        have ai := atI_rng hN hi
        have ak : q.getD i.toNat 0 < 1114112 := of_decide_eq_true (List.all_eq_true.mp hq _ ai.2)
        have ai1 := ai.1
        generalize q.getD i.toNat 0 = c at ai1 ak ⊢
        by_cases h : c = 111
        · rw [if_pos h]
          simp [V_val, V_own, V_bor, vK_val, vK_own, vK_no, vK_none, wv_var, wv_cst, b2F_eq, b1F_eq, wv_bin, wv_cmp, wv_ix, wv_rng2, a1F_eq, wv_neg, wv_rev, wv_isin, wv_rng1, wv_ssort, andF_b, wv_and, orF_b, wv_or, notF_b, wv_not, conF_b, wv_ite, tupF_eq, wv_tup, lstF_eq, wv_lst, wv_dict, sl3F_eq, sl2F_eq, sl1F_eq, wv_sl, nF_eq, wv_bi, cF_eq, wv_call, mu2F_ex, muF1_b, wv_mu, mt2F_ex, mtF1_eq, wv_mt, c2F_eq, c1F_eq, wv_nil, wv_cons, lc2F_eq, lcF_eq, wv_lc, wv_yes, wv_cond, wv_no, wv_some, pF_int, seqF_eq, wv_seq, rngF_eq, wv_rng, ofF_eq, wv_zip, wv_enum, asgF_eq, wx_asg, drF_eq, wx_drop, reF_eq, wx_ret, wx_retN, wx_nop, wx_brk, wx_cont, ifF_b, wx_ite, wx_seq, wx_wh, foF_eq, wx_for, tsF_eq, wx_asgT, paF_eq, wx_par, s3F_ex, s2F_eq, s1F_eq, wx_setIx, flat, shaped_lints1, shaped_int, shaped_bool, shaped_none, shaped_nil, shaped_nilt, shaped_tints, shaped_lints, eqv_int, eqv_bool, eqv_tints, eqv_lints, eqv_lnil, eqv_tnil, any_ints, flat_ints, ex_cond, ex_cond2, ixN, atI_0, atI_1, atI_2, atI_3, wp_ok, wp_bad, wp_exc, wp_if, flK_next, flK_ret, flK_brk, flK_cont, tK_b, lpK_next, lpK_cont, lpK_brk, lpK_ret, rnK_next, rnK_ret, wp_turn, ltK_some, lt1F_eq, lt2F_eq, stAsg_val, stAsg_own, stAsg_bor, stRet_val, stRet_own, stRet_bor, exAsgT, exPar, setO, setL, setKd, setTd, mtGet, mtIndex, mtCount, mtJoin, mtSplit, mtPart, tyOkR, mtTyOk, MT.ty, mtF, viewRV, viewRVs, O.vw, boF, coF, bAdd, bSub, bMul, bDiv, bMod, bPow, bNeg, bEq, bNe, bCmp, bIn, isIn, bIs, isIs, bIx, bRev, bSl, bi, bLen, bMax, bMin, bAbs, bInt, bStr, bTuple, bList, bSorted, bAll, bAny, bSum, bDict, vInt, bIsin, vwIs, bRng1, bRng2, bRng, valArgs, setS_eq, setK_val, setK_own, setK_no, setK_lf, setK_lq, setT, setTs, recvOk, muF, muAppend, muExtend, muPop_snoc, muPop_one, muDpop, MU.isD, wp_callV, wp_callR, wp_callT, ctJ_some, ctK_val, ctK_own, valsD, clK_int, clK_bool, clK_str, clK_none, clK_tup, clK_own, clK_lst, crK_val, crK_own, RF.wp_ok, rfE_ok, rfF_eq, rfK_exc, rfK_val, rfK_own, wv_isE, bIsE, noExc_int, noExc_bool, noExc_none, noExc_str, noExc_list, noExc_tuple, noExc_k, noExc_t, O.fz, keyD, wv_chain, ch1F_eq, ch2F_eq, ch3F_eq, evSeq, rngOf, zipOf, enumOf, startE, argS, finO, stK, ownFree, wipeE, restE, sizeLine, R.bind_ok, -Prod.exists, -Bool.exists_bool, -Prod.forall, -Bool.forall_bool, eqv_str, shaped_S, okL_nil, okL_cons, S_beq, S_len, S_list, lq, ai1, h]
        · rw [if_neg h]
          simp [V_val, V_own, V_bor, vK_val, vK_own, vK_no, vK_none, wv_var, wv_cst, b2F_eq, b1F_eq, wv_bin, wv_cmp, wv_ix, wv_rng2, a1F_eq, wv_neg, wv_rev, wv_isin, wv_rng1, wv_ssort, andF_b, wv_and, orF_b, wv_or, notF_b, wv_not, conF_b, wv_ite, tupF_eq, wv_tup, lstF_eq, wv_lst, wv_dict, sl3F_eq, sl2F_eq, sl1F_eq, wv_sl, nF_eq, wv_bi, cF_eq, wv_call, mu2F_ex, muF1_b, wv_mu, mt2F_ex, mtF1_eq, wv_mt, c2F_eq, c1F_eq, wv_nil, wv_cons, lc2F_eq, lcF_eq, wv_lc, wv_yes, wv_cond, wv_no, wv_some, pF_int, seqF_eq, wv_seq, rngF_eq, wv_rng, ofF_eq, wv_zip, wv_enum, asgF_eq, wx_asg, drF_eq, wx_drop, reF_eq, wx_ret, wx_retN, wx_nop, wx_brk, wx_cont, ifF_b, wx_ite, wx_seq, wx_wh, foF_eq, wx_for, tsF_eq, wx_asgT, paF_eq, wx_par, s3F_ex, s2F_eq, s1F_eq, wx_setIx, flat, shaped_lints1, shaped_int, shaped_bool, shaped_none, shaped_nil, shaped_nilt, shaped_tints, shaped_lints, eqv_int, eqv_bool, eqv_tints, eqv_lints, eqv_lnil, eqv_tnil, any_ints, flat_ints, ex_cond, ex_cond2, ixN, atI_0, atI_1, atI_2, atI_3, wp_ok, wp_bad, wp_exc, wp_if, flK_next, flK_ret, flK_brk, flK_cont, tK_b, lpK_next, lpK_cont, lpK_brk, lpK_ret, rnK_next, rnK_ret, wp_turn, ltK_some, lt1F_eq, lt2F_eq, stAsg_val, stAsg_own, stAsg_bor, stRet_val, stRet_own, stRet_bor, exAsgT, exPar, setO, setL, setKd, setTd, mtGet, mtIndex, mtCount, mtJoin, mtSplit, mtPart, tyOkR, mtTyOk, MT.ty, mtF, viewRV, viewRVs, O.vw, boF, coF, bAdd, bSub, bMul, bDiv, bMod, bPow, bNeg, bEq, bNe, bCmp, bIn, isIn, bIs, isIs, bIx, bRev, bSl, bi, bLen, bMax, bMin, bAbs, bInt, bStr, bTuple, bList, bSorted, bAll, bAny, bSum, bDict, vInt, bIsin, vwIs, bRng1, bRng2, bRng, valArgs, setS_eq, setK_val, setK_own, setK_no, setK_lf, setK_lq, setT, setTs, recvOk, muF, muAppend, muExtend, muPop_snoc, muPop_one, muDpop, MU.isD, wp_callV, wp_callR, wp_callT, ctJ_some, ctK_val, ctK_own, valsD, clK_int, clK_bool, clK_str, clK_none, clK_tup, clK_own, clK_lst, crK_val, crK_own, RF.wp_ok, rfE_ok, rfF_eq, rfK_exc, rfK_val, rfK_own, wv_isE, bIsE, noExc_int, noExc_bool, noExc_none, noExc_str, noExc_list, noExc_tuple, noExc_k, noExc_t, O.fz, keyD, wv_chain, ch1F_eq, ch2F_eq, ch3F_eq, evSeq, rngOf, zipOf, enumOf, startE, argS, finO, stK, ownFree, wipeE, restE, sizeLine, R.bind_ok, -Prod.exists, -Bool.exists_bool, -Prod.forall, -Bool.forall_bool, eqv_str, shaped_S, okL_nil, okL_cons, S_beq, S_len, S_list, lq, ai1, h, ak]]
      rw [hrow]
      simp -implicitDefEqProofs [V_val, V_own, V_bor, vK_val, vK_own, vK_no, vK_none, wv_var, wv_cst, b2F_eq, b1F_eq, wv_bin, wv_cmp, wv_ix, wv_rng2, a1F_eq, wv_neg, wv_rev, wv_isin, wv_rng1, wv_ssort, andF_b, wv_and, orF_b, wv_or, notF_b, wv_not, conF_b, wv_ite, tupF_eq, wv_tup, lstF_eq, wv_lst, wv_dict, sl3F_eq, sl2F_eq, sl1F_eq, wv_sl, nF_eq, wv_bi, cF_eq, wv_call, mu2F_ex, muF1_b, wv_mu, mt2F_ex, mtF1_eq, wv_mt, c2F_eq, c1F_eq, wv_nil, wv_cons, lc2F_eq, lcF_eq, wv_lc, wv_yes, wv_cond, wv_no, wv_some, pF_int, seqF_eq, wv_seq, rngF_eq, wv_rng, ofF_eq, wv_zip, wv_enum, asgF_eq, wx_asg, drF_eq, wx_drop, reF_eq, wx_ret, wx_retN, wx_nop, wx_brk, wx_cont, ifF_b, wx_ite, wx_seq, wx_wh, foF_eq, wx_for, tsF_eq, wx_asgT, paF_eq, wx_par, s3F_ex, s2F_eq, s1F_eq, wx_setIx, flat, shaped_lints1, shaped_int, shaped_bool, shaped_none, shaped_nil, shaped_nilt, shaped_tints, shaped_lints, eqv_int, eqv_bool, eqv_tints, eqv_lints, eqv_lnil, eqv_tnil, any_ints, flat_ints, ex_cond, ex_cond2, ixN, atI_0, atI_1, atI_2, atI_3, wp_ok, wp_bad, wp_exc, wp_if, flK_next, flK_ret, flK_brk, flK_cont, tK_b, lpK_next, lpK_cont, lpK_brk, lpK_ret, rnK_next, rnK_ret, wp_turn, ltK_some, lt1F_eq, lt2F_eq, stAsg_val, stAsg_own, stAsg_bor, stRet_val, stRet_own, stRet_bor, exAsgT, exPar, setO, setL, setKd, setTd, mtGet, mtIndex, mtCount, mtJoin, mtSplit, mtPart, tyOkR, mtTyOk, MT.ty, mtF, viewRV, viewRVs, O.vw, boF, coF, bAdd, bSub, bMul, bDiv, bMod, bPow, bNeg, bEq, bNe, bCmp, bIn, isIn, bIs, isIs, bIx, bRev, bSl, bi, bLen, bMax, bMin, bAbs, bInt, bStr, bTuple, bList, bSorted, bAll, bAny, bSum, bDict, vInt, bIsin, vwIs, bRng1, bRng2, bRng, valArgs, setS_eq, setK_val, setK_own, setK_no, setK_lf, setK_lq, setT, setTs, recvOk, muF, muAppend, muExtend, muPop_snoc, muPop_one, muDpop, MU.isD, wp_callV, wp_callR, wp_callT, ctJ_some, ctK_val, ctK_own, valsD, clK_int, clK_bool, clK_str, clK_none, clK_tup, clK_own, clK_lst, crK_val, crK_own, RF.wp_ok, rfE_ok, rfF_eq, rfK_exc, rfK_val, rfK_own, wv_isE, bIsE, noExc_int, noExc_bool, noExc_none, noExc_str, noExc_list, noExc_tuple, noExc_k, noExc_t, O.fz, keyD, wv_chain, ch1F_eq, ch2F_eq, ch3F_eq, evSeq, rngOf, zipOf, enumOf, startE, argS, finO, stK, ownFree, wipeE, restE, sizeLine, R.bind_ok, -Prod.exists, -Bool.exists_bool, -Prod.forall, -Bool.forall_bool, r0, r1]
      refine ⟨fun h => by rw [hres, if_pos (.inl (by omega))]; rfl, fun g1 => ⟨fun h => by rw [hres, if_pos (.inr (.inl h))]; rfl, fun g2 => ⟨fun h => by rw [hres, if_pos (.inr (.inr h))]; rfl, fun g3 => by rw [hres, if_neg (by omega)]; rfl⟩⟩⟩
    | false =>
      have hb := of_decide_eq_false hb
      have t1 := cut_to1 p
      rw [if_neg (by decide)] at nv
      simp -implicitDefEqProofs [V_val, V_own, V_bor, vK_val, vK_own, vK_no, vK_none, wv_var, wv_cst, b2F_eq, b1F_eq, wv_bin, wv_cmp, wv_ix, wv_rng2, a1F_eq, wv_neg, wv_rev, wv_isin, wv_rng1, wv_ssort, andF_b, wv_and, orF_b, wv_or, notF_b, wv_not, conF_b, wv_ite, tupF_eq, wv_tup, lstF_eq, wv_lst, wv_dict, sl3F_eq, sl2F_eq, sl1F_eq, wv_sl, nF_eq, wv_bi, cF_eq, wv_call, mu2F_ex, muF1_b, wv_mu, mt2F_ex, mtF1_eq, wv_mt, c2F_eq, c1F_eq, wv_nil, wv_cons, lc2F_eq, lcF_eq, wv_lc, wv_yes, wv_cond, wv_no, wv_some, pF_int, seqF_eq, wv_seq, rngF_eq, wv_rng, ofF_eq, wv_zip, wv_enum, asgF_eq, wx_asg, drF_eq, wx_drop, reF_eq, wx_ret, wx_retN, wx_nop, wx_brk, wx_cont, ifF_b, wx_ite, wx_seq, wx_wh, foF_eq, wx_for, tsF_eq, wx_asgT, paF_eq, wx_par, s3F_ex, s2F_eq, s1F_eq, wx_setIx, flat, shaped_lints1, shaped_int, shaped_bool, shaped_none, shaped_nil, shaped_nilt, shaped_tints, shaped_lints, eqv_int, eqv_bool, eqv_tints, eqv_lints, eqv_lnil, eqv_tnil, any_ints, flat_ints, ex_cond, ex_cond2, ixN, atI_0, atI_1, atI_2, atI_3, wp_ok, wp_bad, wp_exc, wp_if, flK_next, flK_ret, flK_brk, flK_cont, tK_b, lpK_next, lpK_cont, lpK_brk, lpK_ret, rnK_next, rnK_ret, wp_turn, ltK_some, lt1F_eq, lt2F_eq, stAsg_val, stAsg_own, stAsg_bor, stRet_val, stRet_own, stRet_bor, exAsgT, exPar, setO, setL, setKd, setTd, mtGet, mtIndex, mtCount, mtJoin, mtSplit, mtPart, tyOkR, mtTyOk, MT.ty, mtF, viewRV, viewRVs, O.vw, boF, coF, bAdd, bSub, bMul, bDiv, bMod, bPow, bNeg, bEq, bNe, bCmp, bIn, isIn, bIs, isIs, bIx, bRev, bSl, bi, bLen, bMax, bMin, bAbs, bInt, bStr, bTuple, bList, bSorted, bAll, bAny, bSum, bDict, vInt, bIsin, vwIs, bRng1, bRng2, bRng, valArgs, setS_eq, setK_val, setK_own, setK_no, setK_lf, setK_lq, setT, setTs, recvOk, muF, muAppend, muExtend, muPop_snoc, muPop_one, muDpop, MU.isD, wp_callV, wp_callR, wp_callT, ctJ_some, ctK_val, ctK_own, valsD, clK_int, clK_bool, clK_str, clK_none, clK_tup, clK_own, clK_lst, crK_val, crK_own, RF.wp_ok, rfE_ok, rfF_eq, rfK_exc, rfK_val, rfK_own, wv_isE, bIsE, noExc_int, noExc_bool, noExc_none, noExc_str, noExc_list, noExc_tuple, noExc_k, noExc_t, O.fz, keyD, wv_chain, ch1F_eq, ch2F_eq, ch3F_eq, evSeq, rngOf, zipOf, enumOf, startE, argS, finO, stK, ownFree, wipeE, restE, sizeLine, R.bind_ok, -Prod.exists, -Bool.exists_bool, -Prod.forall, -Bool.forall_bool, i1, l640, t1, o2p, hb, li_min, eqv_str, shaped_S, okL_nil, okL_cons, S_beq, S_len, lq, hlenr, li_o, hN]
      refine ⟨by omega, by omega, ?_⟩
      rw [← nv]
      rw [lc_onF PyData.int (fun i => if q.getD i.toNat 0 = 111 then some (PyData.int (numV p + i)) else none) (rangeL 0 N) fun i hi => by
        have ai := atI_rng hN hi
        have ak : q.getD i.toNat 0 < 1114112 := of_decide_eq_true (List.all_eq_true.mp hq _ ai.2)
        have ai1 := ai.1
        generalize q.getD i.toNat 0 = c at ai1 ak ⊢
        by_cases h : c = 111
        · rw [if_pos h]
          simp [V_val, V_own, V_bor, vK_val, vK_own, vK_no, vK_none, wv_var, wv_cst, b2F_eq, b1F_eq, wv_bin, wv_cmp, wv_ix, wv_rng2, a1F_eq, wv_neg, wv_rev, wv_isin, wv_rng1, wv_ssort, andF_b, wv_and, orF_b, wv_or, notF_b, wv_not, conF_b, wv_ite, tupF_eq, wv_tup, lstF_eq, wv_lst, wv_dict, sl3F_eq, sl2F_eq, sl1F_eq, wv_sl, nF_eq, wv_bi, cF_eq, wv_call, mu2F_ex, muF1_b, wv_mu, mt2F_ex, mtF1_eq, wv_mt, c2F_eq, c1F_eq, wv_nil, wv_cons, lc2F_eq, lcF_eq, wv_lc, wv_yes, wv_cond, wv_no, wv_some, pF_int, seqF_eq, wv_seq, rngF_eq, wv_rng, ofF_eq, wv_zip, wv_enum, asgF_eq, wx_asg, drF_eq, wx_drop, reF_eq, wx_ret, wx_retN, wx_nop, wx_brk, wx_cont, ifF_b, wx_ite, wx_seq, wx_wh, foF_eq, wx_for, tsF_eq, wx_asgT, paF_eq, wx_par, s3F_ex, s2F_eq, s1F_eq, wx_setIx, flat, shaped_lints1, shaped_int, shaped_bool, shaped_none, shaped_nil, shaped_nilt, shaped_tints, shaped_lints, eqv_int, eqv_bool, eqv_tints, eqv_lints, eqv_lnil, eqv_tnil, any_ints, flat_ints, ex_cond, ex_cond2, ixN, atI_0, atI_1, atI_2, atI_3, wp_ok, wp_bad, wp_exc, wp_if, flK_next, flK_ret, flK_brk, flK_cont, tK_b, lpK_next, lpK_cont, lpK_brk, lpK_ret, rnK_next, rnK_ret, wp_turn, ltK_some, lt1F_eq, lt2F_eq, stAsg_val, stAsg_own, stAsg_bor, stRet_val, stRet_own, stRet_bor, exAsgT, exPar, setO, setL, setKd, setTd, mtGet, mtIndex, mtCount, mtJoin, mtSplit, mtPart, tyOkR, mtTyOk, MT.ty, mtF, viewRV, viewRVs, O.vw, boF, coF, bAdd, bSub, bMul, bDiv, bMod, bPow, bNeg, bEq, bNe, bCmp, bIn, isIn, bIs, isIs, bIx, bRev, bSl, bi, bLen, bMax, bMin, bAbs, bInt, bStr, bTuple, bList, bSorted, bAll, bAny, bSum, bDict, vInt, bIsin, vwIs, bRng1, bRng2, bRng, valArgs, setS_eq, setK_val, setK_own, setK_no, setK_lf, setK_lq, setT, setTs, recvOk, muF, muAppend, muExtend, muPop_snoc, muPop_one, muDpop, MU.isD, wp_callV, wp_callR, wp_callT, ctJ_some, ctK_val, ctK_own, valsD, clK_int, clK_bool, clK_str, clK_none, clK_tup, clK_own, clK_lst, crK_val, crK_own, RF.wp_ok, rfE_ok, rfF_eq, rfK_exc, rfK_val, rfK_own, wv_isE, bIsE, noExc_int, noExc_bool, noExc_none, noExc_str, noExc_list, noExc_tuple, noExc_k, noExc_t, O.fz, keyD, wv_chain, ch1F_eq, ch2F_eq, ch3F_eq, evSeq, rngOf, zipOf, enumOf, startE, argS, finO, stK, ownFree, wipeE, restE, sizeLine, R.bind_ok, -Prod.exists, -Bool.exists_bool, -Prod.forall, -Bool.forall_bool, eqv_str, shaped_S, okL_nil, okL_cons, S_beq, S_len, S_list, lq, ai1, h]
        · rw [if_neg h]
          simp [V_val, V_own, V_bor, vK_val, vK_own, vK_no, vK_none, wv_var, wv_cst, b2F_eq, b1F_eq, wv_bin, wv_cmp, wv_ix, wv_rng2, a1F_eq, wv_neg, wv_rev, wv_isin, wv_rng1, wv_ssort, andF_b, wv_and, orF_b, wv_or, notF_b, wv_not, conF_b, wv_ite, tupF_eq, wv_tup, lstF_eq, wv_lst, wv_dict, sl3F_eq, sl2F_eq, sl1F_eq, wv_sl, nF_eq, wv_bi, cF_eq, wv_call, mu2F_ex, muF1_b, wv_mu, mt2F_ex, mtF1_eq, wv_mt, c2F_eq, c1F_eq, wv_nil, wv_cons, lc2F_eq, lcF_eq, wv_lc, wv_yes, wv_cond, wv_no, wv_some, pF_int, seqF_eq, wv_seq, rngF_eq, wv_rng, ofF_eq, wv_zip, wv_enum, asgF_eq, wx_asg, drF_eq, wx_drop, reF_eq, wx_ret, wx_retN, wx_nop, wx_brk, wx_cont, ifF_b, wx_ite, wx_seq, wx_wh, foF_eq, wx_for, tsF_eq, wx_asgT, paF_eq, wx_par, s3F_ex, s2F_eq, s1F_eq, wx_setIx, flat, shaped_lints1, shaped_int, shaped_bool, shaped_none, shaped_nil, shaped_nilt, shaped_tints, shaped_lints, eqv_int, eqv_bool, eqv_tints, eqv_lints, eqv_lnil, eqv_tnil, any_ints, flat_ints, ex_cond, ex_cond2, ixN, atI_0, atI_1, atI_2, atI_3, wp_ok, wp_bad, wp_exc, wp_if, flK_next, flK_ret, flK_brk, flK_cont, tK_b, lpK_next, lpK_cont, lpK_brk, lpK_ret, rnK_next, rnK_ret, wp_turn, ltK_some, lt1F_eq, lt2F_eq, stAsg_val, stAsg_own, stAsg_bor, stRet_val, stRet_own, stRet_bor, exAsgT, exPar, setO, setL, setKd, setTd, mtGet, mtIndex, mtCount, mtJoin, mtSplit, mtPart, tyOkR, mtTyOk, MT.ty, mtF, viewRV, viewRVs, O.vw, boF, coF, bAdd, bSub, bMul, bDiv, bMod, bPow, bNeg, bEq, bNe, bCmp, bIn, isIn, bIs, isIs, bIx, bRev, bSl, bi, bLen, bMax, bMin, bAbs, bInt, bStr, bTuple, bList, bSorted, bAll, bAny, bSum, bDict, vInt, bIsin, vwIs, bRng1, bRng2, bRng, valArgs, setS_eq, setK_val, setK_own, setK_no, setK_lf, setK_lq, setT, setTs, recvOk, muF, muAppend, muExtend, muPop_snoc, muPop_one, muDpop, MU.isD, wp_callV, wp_callR, wp_callT, ctJ_some, ctK_val, ctK_own, valsD, clK_int, clK_bool, clK_str, clK_none, clK_tup, clK_own, clK_lst, crK_val, crK_own, RF.wp_ok, rfE_ok, rfF_eq, rfK_exc, rfK_val, rfK_own, wv_isE, bIsE, noExc_int, noExc_bool, noExc_none, noExc_str, noExc_list, noExc_tuple, noExc_k, noExc_t, O.fz, keyD, wv_chain, ch1F_eq, ch2F_eq, ch3F_eq, evSeq, rngOf, zipOf, enumOf, startE, argS, finO, stK, ownFree, wipeE, restE, sizeLine, R.bind_ok, -Prod.exists, -Bool.exists_bool, -Prod.forall, -Bool.forall_bool, eqv_str, shaped_S, okL_nil, okL_cons, S_beq, S_len, S_list, lq, ai1, h, ak]]
      rw [hrow]
      simp -implicitDefEqProofs [V_val, V_own, V_bor, vK_val, vK_own, vK_no, vK_none, wv_var, wv_cst, b2F_eq, b1F_eq, wv_bin, wv_cmp, wv_ix, wv_rng2, a1F_eq, wv_neg, wv_rev, wv_isin, wv_rng1, wv_ssort, andF_b, wv_and, orF_b, wv_or, notF_b, wv_not, conF_b, wv_ite, tupF_eq, wv_tup, lstF_eq, wv_lst, wv_dict, sl3F_eq, sl2F_eq, sl1F_eq, wv_sl, nF_eq, wv_bi, cF_eq, wv_call, mu2F_ex, muF1_b, wv_mu, mt2F_ex, mtF1_eq, wv_mt, c2F_eq, c1F_eq, wv_nil, wv_cons, lc2F_eq, lcF_eq, wv_lc, wv_yes, wv_cond, wv_no, wv_some, pF_int, seqF_eq, wv_seq, rngF_eq, wv_rng, ofF_eq, wv_zip, wv_enum, asgF_eq, wx_asg, drF_eq, wx_drop, reF_eq, wx_ret, wx_retN, wx_nop, wx_brk, wx_cont, ifF_b, wx_ite, wx_seq, wx_wh, foF_eq, wx_for, tsF_eq, wx_asgT, paF_eq, wx_par, s3F_ex, s2F_eq, s1F_eq, wx_setIx, flat, shaped_lints1, shaped_int, shaped_bool, shaped_none, shaped_nil, shaped_nilt, shaped_tints, shaped_lints, eqv_int, eqv_bool, eqv_tints, eqv_lints, eqv_lnil, eqv_tnil, any_ints, flat_ints, ex_cond, ex_cond2, ixN, atI_0, atI_1, atI_2, atI_3, wp_ok, wp_bad, wp_exc, wp_if, flK_next, flK_ret, flK_brk, flK_cont, tK_b, lpK_next, lpK_cont, lpK_brk, lpK_ret, rnK_next, rnK_ret, wp_turn, ltK_some, lt1F_eq, lt2F_eq, stAsg_val, stAsg_own, stAsg_bor, stRet_val, stRet_own, stRet_bor, exAsgT, exPar, setO, setL, setKd, setTd, mtGet, mtIndex, mtCount, mtJoin, mtSplit, mtPart, tyOkR, mtTyOk, MT.ty, mtF, viewRV, viewRVs, O.vw, boF, coF, bAdd, bSub, bMul, bDiv, bMod, bPow, bNeg, bEq, bNe, bCmp, bIn, isIn, bIs, isIs, bIx, bRev, bSl, bi, bLen, bMax, bMin, bAbs, bInt, bStr, bTuple, bList, bSorted, bAll, bAny, bSum, bDict, vInt, bIsin, vwIs, bRng1, bRng2, bRng, valArgs, setS_eq, setK_val, setK_own, setK_no, setK_lf, setK_lq, setT, setTs, recvOk, muF, muAppend, muExtend, muPop_snoc, muPop_one, muDpop, MU.isD, wp_callV, wp_callR, wp_callT, ctJ_some, ctK_val, ctK_own, valsD, clK_int, clK_bool, clK_str, clK_none, clK_tup, clK_own, clK_lst, crK_val, crK_own, RF.wp_ok, rfE_ok, rfF_eq, rfK_exc, rfK_val, rfK_own, wv_isE, bIsE, noExc_int, noExc_bool, noExc_none, noExc_str, noExc_list, noExc_tuple, noExc_k, noExc_t, O.fz, keyD, wv_chain, ch1F_eq, ch2F_eq, ch3F_eq, evSeq, rngOf, zipOf, enumOf, startE, argS, finO, stK, ownFree, wipeE, restE, sizeLine, R.bind_ok, -Prod.exists, -Bool.exists_bool, -Prod.forall, -Bool.forall_bool, r0, r1]
      refine ⟨fun h => by rw [hres, if_pos (.inl (by omega))]; rfl, fun g1 => ⟨fun h => by rw [hres, if_pos (.inr (.inl h))]; rfl, fun g2 => ⟨fun h => by rw [hres, if_pos (.inr (.inr h))]; rfl, fun g3 => by rw [hres, if_neg (by omega)]; rfl⟩⟩⟩
theorem spl_ne (T : List Nat) : ∀ (l : List Nat) (k : Nat) (acc : List Nat), TL.spl T k acc l ≠ []
  | [], k, acc => by rw [TL.spl_nil]; simp
  | c :: r, 0, acc => by
    unfold TL.spl
    split
    · simp
    · exact spl_ne T r 0 _
  | c :: r, k + 1, acc => by
    unfold TL.spl
    exact spl_ne T r k acc
theorem due_run (as : List Arg) : f_l_due as = runFn t_l_due wfN (dueHead dueRest) 9 as := rfl
theorem due_ok (cs : List Nat) (hc : okL cs = true) (hl : cs.length ≤ 500) : f_l_due [.val (.str (S cs))] = .ok (.val (optT (rdT cs))) none := by
  by_cases h0 : cs = [110, 111, 110, 101]
  · subst h0
    refine RF.wp.eq (wp_run ?_)
    simp [c_l_due, t_l_due, V_val, V_own, V_bor, vK_val, vK_own, vK_no, vK_none, wv_var, wv_cst, b2F_eq, b1F_eq, wv_bin, wv_cmp, wv_ix, wv_rng2, a1F_eq, wv_neg, wv_rev, wv_isin, wv_rng1, wv_ssort, andF_b, wv_and, orF_b, wv_or, notF_b, wv_not, conF_b, wv_ite, tupF_eq, wv_tup, lstF_eq, wv_lst, wv_dict, sl3F_eq, sl2F_eq, sl1F_eq, wv_sl, nF_eq, wv_bi, cF_eq, wv_call, mu2F_ex, muF1_b, wv_mu, mt2F_ex, mtF1_eq, wv_mt, c2F_eq, c1F_eq, wv_nil, wv_cons, lc2F_eq, lcF_eq, wv_lc, wv_yes, wv_cond, wv_no, wv_some, pF_int, seqF_eq, wv_seq, rngF_eq, wv_rng, ofF_eq, wv_zip, wv_enum, asgF_eq, wx_asg, drF_eq, wx_drop, reF_eq, wx_ret, wx_retN, wx_nop, wx_brk, wx_cont, ifF_b, wx_ite, wx_seq, wx_wh, foF_eq, wx_for, tsF_eq, wx_asgT, paF_eq, wx_par, s3F_ex, s2F_eq, s1F_eq, wx_setIx, flat, shaped_lints1, shaped_int, shaped_bool, shaped_none, shaped_nil, shaped_nilt, shaped_tints, shaped_lints, eqv_int, eqv_bool, eqv_tints, eqv_lints, eqv_lnil, eqv_tnil, any_ints, flat_ints, ex_cond, ex_cond2, ixN, atI_0, atI_1, atI_2, atI_3, wp_ok, wp_bad, wp_exc, wp_if, flK_next, flK_ret, flK_brk, flK_cont, tK_b, lpK_next, lpK_cont, lpK_brk, lpK_ret, rnK_next, rnK_ret, wp_turn, ltK_some, lt1F_eq, lt2F_eq, stAsg_val, stAsg_own, stAsg_bor, stRet_val, stRet_own, stRet_bor, exAsgT, exPar, setO, setL, setKd, setTd, mtGet, mtIndex, mtCount, mtJoin, mtSplit, mtPart, tyOkR, mtTyOk, MT.ty, mtF, viewRV, viewRVs, O.vw, boF, coF, bAdd, bSub, bMul, bDiv, bMod, bPow, bNeg, bEq, bNe, bCmp, bIn, isIn, bIs, isIs, bIx, bRev, bSl, bi, bLen, bMax, bMin, bAbs, bInt, bStr, bTuple, bList, bSorted, bAll, bAny, bSum, bDict, vInt, bIsin, vwIs, bRng1, bRng2, bRng, valArgs, setS_eq, setK_val, setK_own, setK_no, setK_lf, setK_lq, setT, setTs, recvOk, muF, muAppend, muExtend, muPop_snoc, muPop_one, muDpop, MU.isD, wp_callV, wp_callR, wp_callT, ctJ_some, ctK_val, ctK_own, valsD, clK_int, clK_bool, clK_str, clK_none, clK_tup, clK_own, clK_lst, crK_val, crK_own, RF.wp_ok, rfE_ok, rfF_eq, rfK_exc, rfK_val, rfK_own, wv_isE, bIsE, noExc_int, noExc_bool, noExc_none, noExc_str, noExc_list, noExc_tuple, noExc_k, noExc_t, O.fz, keyD, wv_chain, ch1F_eq, ch2F_eq, ch3F_eq, evSeq, rngOf, zipOf, enumOf, startE, argS, finO, stK, ownFree, wipeE, restE, sizeLine, R.bind_ok, -Prod.exists, -Bool.exists_bool, -Prod.forall, -Bool.forall_bool, li_none, eqv_str, shaped_S, S_beq, okL_nil, okL_cons]
    rfl
  · have h0' : (cs = [110, 111, 110, 101]) = False := eq_false h0
    have sp : Txt.split (S cs) (S [58]) = (TL.spl [58] 0 [] cs).map S := SX.split_S (by simp) (by decide)
    have no : ∀ L : List (List Nat), TL.spl [58] 0 [] cs = L → L.length ≠ 2 → rdT cs = none → f_l_due [.val (.str (S cs))] = .ok (.val (optT (rdT cs))) none := fun L e1 e2 e3 => by
      rw [e1] at sp
      rw [e3]
      have e2' : ((L.length : Int) = 2) = False := eq_false (by omega)
      refine RF.wp.eq (wp_run ?_)
      simp [c_l_due, t_l_due, V_val, V_own, V_bor, vK_val, vK_own, vK_no, vK_none, wv_var, wv_cst, b2F_eq, b1F_eq, wv_bin, wv_cmp, wv_ix, wv_rng2, a1F_eq, wv_neg, wv_rev, wv_isin, wv_rng1, wv_ssort, andF_b, wv_and, orF_b, wv_or, notF_b, wv_not, conF_b, wv_ite, tupF_eq, wv_tup, lstF_eq, wv_lst, wv_dict, sl3F_eq, sl2F_eq, sl1F_eq, wv_sl, nF_eq, wv_bi, cF_eq, wv_call, mu2F_ex, muF1_b, wv_mu, mt2F_ex, mtF1_eq, wv_mt, c2F_eq, c1F_eq, wv_nil, wv_cons, lc2F_eq, lcF_eq, wv_lc, wv_yes, wv_cond, wv_no, wv_some, pF_int, seqF_eq, wv_seq, rngF_eq, wv_rng, ofF_eq, wv_zip, wv_enum, asgF_eq, wx_asg, drF_eq, wx_drop, reF_eq, wx_ret, wx_retN, wx_nop, wx_brk, wx_cont, ifF_b, wx_ite, wx_seq, wx_wh, foF_eq, wx_for, tsF_eq, wx_asgT, paF_eq, wx_par, s3F_ex, s2F_eq, s1F_eq, wx_setIx, flat, shaped_lints1, shaped_int, shaped_bool, shaped_none, shaped_nil, shaped_nilt, shaped_tints, shaped_lints, eqv_int, eqv_bool, eqv_tints, eqv_lints, eqv_lnil, eqv_tnil, any_ints, flat_ints, ex_cond, ex_cond2, ixN, atI_0, atI_1, atI_2, atI_3, wp_ok, wp_bad, wp_exc, wp_if, flK_next, flK_ret, flK_brk, flK_cont, tK_b, lpK_next, lpK_cont, lpK_brk, lpK_ret, rnK_next, rnK_ret, wp_turn, ltK_some, lt1F_eq, lt2F_eq, stAsg_val, stAsg_own, stAsg_bor, stRet_val, stRet_own, stRet_bor, exAsgT, exPar, setO, setL, setKd, setTd, mtGet, mtIndex, mtCount, mtJoin, mtSplit, mtPart, tyOkR, mtTyOk, MT.ty, mtF, viewRV, viewRVs, O.vw, boF, coF, bAdd, bSub, bMul, bDiv, bMod, bPow, bNeg, bEq, bNe, bCmp, bIn, isIn, bIs, isIs, bIx, bRev, bSl, bi, bLen, bMax, bMin, bAbs, bInt, bStr, bTuple, bList, bSorted, bAll, bAny, bSum, bDict, vInt, bIsin, vwIs, bRng1, bRng2, bRng, valArgs, setS_eq, setK_val, setK_own, setK_no, setK_lf, setK_lq, setT, setTs, recvOk, muF, muAppend, muExtend, muPop_snoc, muPop_one, muDpop, MU.isD, wp_callV, wp_callR, wp_callT, ctJ_some, ctK_val, ctK_own, valsD, clK_int, clK_bool, clK_str, clK_none, clK_tup, clK_own, clK_lst, crK_val, crK_own, RF.wp_ok, rfE_ok, rfF_eq, rfK_exc, rfK_val, rfK_own, wv_isE, bIsE, noExc_int, noExc_bool, noExc_none, noExc_str, noExc_list, noExc_tuple, noExc_k, noExc_t, O.fz, keyD, wv_chain, ch1F_eq, ch2F_eq, ch3F_eq, evSeq, rngOf, zipOf, enumOf, startE, argS, finO, stK, ownFree, wipeE, restE, sizeLine, R.bind_ok, -Prod.exists, -Bool.exists_bool, -Prod.forall, -Bool.forall_bool, li_none, li_col, eqv_str, shaped_S, S_beq, S_len, okL_nil, okL_cons, hc, h0', sp, e2']
      exact ⟨by omega, rfl⟩
    rcases par_cases cs with ⟨h1, h2, _⟩ | ⟨p, q, rfl, h1, h2, _⟩
    · exact no [cs] (TL.spl_last1 (acc := []) h1) (by simp) (rdT_no h1 h0)
    · have e1 : TL.spl [58] 0 [] (p ++ 58 :: q) = p :: TL.spl [58] 0 [] q := TL.spl_part1 (acc := []) (S := []) (rest := q) h1
      by_cases hq : 58 ∈ q
      · refine no _ rfl ?_ (rdT_two h1 hq)
        obtain ⟨p2, q2, e, h3⟩ := List.eq_append_cons_of_mem hq
        have e2 : TL.spl [58] 0 [] (p2 ++ 58 :: q2) = p2 :: TL.spl [58] 0 [] q2 := TL.spl_part1 (acc := []) (S := []) (rest := q2) h3
        rw [e1, e, e2]
        have : TL.spl [58] 0 [] q2 ≠ [] := fun h => by
          have := spl_ne [58] q2 0 []
          exact this h
        have := List.length_pos_iff.mpr this
        simp
        omega
      · have e2 : TL.spl [58] 0 [] q = [q] := TL.spl_last1 (acc := []) hq
        rw [e1, e2] at sp
        rw [rdT_one h1, if_neg hq]
        have op : okL p = true := okL_sub hc fun c h => by simp [h]
        have oq : okL q = true := okL_sub hc fun c h => by simp [h]
        have hlen : p.length + q.length + 1 ≤ 500 := by simp at hl; omega
        by_cases c1 : 1 ≤ q.length ∧ q.length ≤ 200
        · have o1 := okL_drop op 1
          have o2 := okL_take op 1
          have hfl := figs_le p
          have key := due_rest (p ++ 58 :: q) p q (figs p)
          rw [due_run]
          by_cases c : p.take 1 = [45]
          · have ef : L2.cutS (S p) (some 1) none = S (figs p) := by unfold figs; rw [if_pos c, cut_from1]
            have of : okL (figs p) = true := by unfold figs; rw [if_pos c]; exact o1
            have t1 := cut_to1 p
            rw [c] at t1
            have k2 := fun x1 => key x1 op oq of (by omega) true (decide_eq_true c) rfl c1 _ rfl
            generalize dueRest = rest at k2 ⊢
            clear key
            refine RF.wp.eq (wp_run ?_)
            simp [dueHead, c_l_due, t_l_due, V_val, V_own, V_bor, vK_val, vK_own, vK_no, vK_none, wv_var, wv_cst, b2F_eq, b1F_eq, wv_bin, wv_cmp, wv_ix, wv_rng2, a1F_eq, wv_neg, wv_rev, wv_isin, wv_rng1, wv_ssort, andF_b, wv_and, orF_b, wv_or, notF_b, wv_not, conF_b, wv_ite, tupF_eq, wv_tup, lstF_eq, wv_lst, wv_dict, sl3F_eq, sl2F_eq, sl1F_eq, wv_sl, nF_eq, wv_bi, cF_eq, wv_call, mu2F_ex, muF1_b, wv_mu, mt2F_ex, mtF1_eq, wv_mt, c2F_eq, c1F_eq, wv_nil, wv_cons, lc2F_eq, lcF_eq, wv_lc, wv_yes, wv_cond, wv_no, wv_some, pF_int, seqF_eq, wv_seq, rngF_eq, wv_rng, ofF_eq, wv_zip, wv_enum, asgF_eq, wx_asg, drF_eq, wx_drop, reF_eq, wx_ret, wx_retN, wx_nop, wx_brk, wx_cont, ifF_b, wx_ite, wx_seq, wx_wh, foF_eq, wx_for, tsF_eq, wx_asgT, paF_eq, wx_par, s3F_ex, s2F_eq, s1F_eq, wx_setIx, flat, shaped_lints1, shaped_int, shaped_bool, shaped_none, shaped_nil, shaped_nilt, shaped_tints, shaped_lints, eqv_int, eqv_bool, eqv_tints, eqv_lints, eqv_lnil, eqv_tnil, any_ints, flat_ints, ex_cond, ex_cond2, ixN, atI_0, atI_1, atI_2, atI_3, wp_ok, wp_bad, wp_exc, wp_if, flK_next, flK_ret, flK_brk, flK_cont, tK_b, lpK_next, lpK_cont, lpK_brk, lpK_ret, rnK_next, rnK_ret, wp_turn, ltK_some, lt1F_eq, lt2F_eq, stAsg_val, stAsg_own, stAsg_bor, stRet_val, stRet_own, stRet_bor, exAsgT, exPar, setO, setL, setKd, setTd, mtGet, mtIndex, mtCount, mtJoin, mtSplit, mtPart, tyOkR, mtTyOk, MT.ty, mtF, viewRV, viewRVs, O.vw, boF, coF, bAdd, bSub, bMul, bDiv, bMod, bPow, bNeg, bEq, bNe, bCmp, bIn, isIn, bIs, isIs, bIx, bRev, bSl, bi, bLen, bMax, bMin, bAbs, bInt, bStr, bTuple, bList, bSorted, bAll, bAny, bSum, bDict, vInt, bIsin, vwIs, bRng1, bRng2, bRng, valArgs, setS_eq, setK_val, setK_own, setK_no, setK_lf, setK_lq, setT, setTs, recvOk, muF, muAppend, muExtend, muPop_snoc, muPop_one, muDpop, MU.isD, wp_callV, wp_callR, wp_callT, ctJ_some, ctK_val, ctK_own, valsD, clK_int, clK_bool, clK_str, clK_none, clK_tup, clK_own, clK_lst, crK_val, crK_own, RF.wp_ok, rfE_ok, rfF_eq, rfK_exc, rfK_val, rfK_own, wv_isE, bIsE, noExc_int, noExc_bool, noExc_none, noExc_str, noExc_list, noExc_tuple, noExc_k, noExc_t, O.fz, keyD, wv_chain, ch1F_eq, ch2F_eq, ch3F_eq, evSeq, rngOf, zipOf, enumOf, startE, argS, finO, stK, ownFree, wipeE, restE, sizeLine, R.bind_ok, -Prod.exists, -Bool.exists_bool, -Prod.forall, -Bool.forall_bool, li_none, li_col, li_min, eqv_str, shaped_S, S_beq, S_len, okL_nil, okL_cons, hc, h0', sp, t1, ef]
            refine ⟨by omega, by omega, fun _ => ⟨fun _ => by omega, fun _ => ⟨by omega, ?_⟩⟩, fun _ => by omega⟩
            exact k2 _
          · have ef : figs p = p := by unfold figs; rw [if_neg c]
            rw [ef] at key
            have t1 := cut_to1 p
            have k2 := fun x1 => key x1 op oq op (by omega) false (decide_eq_false c) rfl c1 _ rfl
            generalize dueRest = rest at k2 ⊢
            clear key
            refine RF.wp.eq (wp_run ?_)
            simp [dueHead, c_l_due, t_l_due, V_val, V_own, V_bor, vK_val, vK_own, vK_no, vK_none, wv_var, wv_cst, b2F_eq, b1F_eq, wv_bin, wv_cmp, wv_ix, wv_rng2, a1F_eq, wv_neg, wv_rev, wv_isin, wv_rng1, wv_ssort, andF_b, wv_and, orF_b, wv_or, notF_b, wv_not, conF_b, wv_ite, tupF_eq, wv_tup, lstF_eq, wv_lst, wv_dict, sl3F_eq, sl2F_eq, sl1F_eq, wv_sl, nF_eq, wv_bi, cF_eq, wv_call, mu2F_ex, muF1_b, wv_mu, mt2F_ex, mtF1_eq, wv_mt, c2F_eq, c1F_eq, wv_nil, wv_cons, lc2F_eq, lcF_eq, wv_lc, wv_yes, wv_cond, wv_no, wv_some, pF_int, seqF_eq, wv_seq, rngF_eq, wv_rng, ofF_eq, wv_zip, wv_enum, asgF_eq, wx_asg, drF_eq, wx_drop, reF_eq, wx_ret, wx_retN, wx_nop, wx_brk, wx_cont, ifF_b, wx_ite, wx_seq, wx_wh, foF_eq, wx_for, tsF_eq, wx_asgT, paF_eq, wx_par, s3F_ex, s2F_eq, s1F_eq, wx_setIx, flat, shaped_lints1, shaped_int, shaped_bool, shaped_none, shaped_nil, shaped_nilt, shaped_tints, shaped_lints, eqv_int, eqv_bool, eqv_tints, eqv_lints, eqv_lnil, eqv_tnil, any_ints, flat_ints, ex_cond, ex_cond2, ixN, atI_0, atI_1, atI_2, atI_3, wp_ok, wp_bad, wp_exc, wp_if, flK_next, flK_ret, flK_brk, flK_cont, tK_b, lpK_next, lpK_cont, lpK_brk, lpK_ret, rnK_next, rnK_ret, wp_turn, ltK_some, lt1F_eq, lt2F_eq, stAsg_val, stAsg_own, stAsg_bor, stRet_val, stRet_own, stRet_bor, exAsgT, exPar, setO, setL, setKd, setTd, mtGet, mtIndex, mtCount, mtJoin, mtSplit, mtPart, tyOkR, mtTyOk, MT.ty, mtF, viewRV, viewRVs, O.vw, boF, coF, bAdd, bSub, bMul, bDiv, bMod, bPow, bNeg, bEq, bNe, bCmp, bIn, isIn, bIs, isIs, bIx, bRev, bSl, bi, bLen, bMax, bMin, bAbs, bInt, bStr, bTuple, bList, bSorted, bAll, bAny, bSum, bDict, vInt, bIsin, vwIs, bRng1, bRng2, bRng, valArgs, setS_eq, setK_val, setK_own, setK_no, setK_lf, setK_lq, setT, setTs, recvOk, muF, muAppend, muExtend, muPop_snoc, muPop_one, muDpop, MU.isD, wp_callV, wp_callR, wp_callT, ctJ_some, ctK_val, ctK_own, valsD, clK_int, clK_bool, clK_str, clK_none, clK_tup, clK_own, clK_lst, crK_val, crK_own, RF.wp_ok, rfE_ok, rfF_eq, rfK_exc, rfK_val, rfK_own, wv_isE, bIsE, noExc_int, noExc_bool, noExc_none, noExc_str, noExc_list, noExc_tuple, noExc_k, noExc_t, O.fz, keyD, wv_chain, ch1F_eq, ch2F_eq, ch3F_eq, evSeq, rngOf, zipOf, enumOf, startE, argS, finO, stK, ownFree, wipeE, restE, sizeLine, R.bind_ok, -Prod.exists, -Bool.exists_bool, -Prod.forall, -Bool.forall_bool, li_none, li_col, li_min, eqv_str, shaped_S, S_beq, S_len, okL_nil, okL_cons, hc, h0', sp, t1, c, op, o2]
            refine ⟨by omega, by omega, fun _ => ⟨fun _ => by omega, fun _ => ⟨by omega, ?_⟩⟩, fun _ => by omega⟩
            exact k2 _
        · have : dueS p q = none := by
            unfold dueS
            rw [if_pos c1]
          rw [this]
          refine RF.wp.eq (wp_run ?_)
          simp [c_l_due, t_l_due, V_val, V_own, V_bor, vK_val, vK_own, vK_no, vK_none, wv_var, wv_cst, b2F_eq, b1F_eq, wv_bin, wv_cmp, wv_ix, wv_rng2, a1F_eq, wv_neg, wv_rev, wv_isin, wv_rng1, wv_ssort, andF_b, wv_and, orF_b, wv_or, notF_b, wv_not, conF_b, wv_ite, tupF_eq, wv_tup, lstF_eq, wv_lst, wv_dict, sl3F_eq, sl2F_eq, sl1F_eq, wv_sl, nF_eq, wv_bi, cF_eq, wv_call, mu2F_ex, muF1_b, wv_mu, mt2F_ex, mtF1_eq, wv_mt, c2F_eq, c1F_eq, wv_nil, wv_cons, lc2F_eq, lcF_eq, wv_lc, wv_yes, wv_cond, wv_no, wv_some, pF_int, seqF_eq, wv_seq, rngF_eq, wv_rng, ofF_eq, wv_zip, wv_enum, asgF_eq, wx_asg, drF_eq, wx_drop, reF_eq, wx_ret, wx_retN, wx_nop, wx_brk, wx_cont, ifF_b, wx_ite, wx_seq, wx_wh, foF_eq, wx_for, tsF_eq, wx_asgT, paF_eq, wx_par, s3F_ex, s2F_eq, s1F_eq, wx_setIx, flat, shaped_lints1, shaped_int, shaped_bool, shaped_none, shaped_nil, shaped_nilt, shaped_tints, shaped_lints, eqv_int, eqv_bool, eqv_tints, eqv_lints, eqv_lnil, eqv_tnil, any_ints, flat_ints, ex_cond, ex_cond2, ixN, atI_0, atI_1, atI_2, atI_3, wp_ok, wp_bad, wp_exc, wp_if, flK_next, flK_ret, flK_brk, flK_cont, tK_b, lpK_next, lpK_cont, lpK_brk, lpK_ret, rnK_next, rnK_ret, wp_turn, ltK_some, lt1F_eq, lt2F_eq, stAsg_val, stAsg_own, stAsg_bor, stRet_val, stRet_own, stRet_bor, exAsgT, exPar, setO, setL, setKd, setTd, mtGet, mtIndex, mtCount, mtJoin, mtSplit, mtPart, tyOkR, mtTyOk, MT.ty, mtF, viewRV, viewRVs, O.vw, boF, coF, bAdd, bSub, bMul, bDiv, bMod, bPow, bNeg, bEq, bNe, bCmp, bIn, isIn, bIs, isIs, bIx, bRev, bSl, bi, bLen, bMax, bMin, bAbs, bInt, bStr, bTuple, bList, bSorted, bAll, bAny, bSum, bDict, vInt, bIsin, vwIs, bRng1, bRng2, bRng, valArgs, setS_eq, setK_val, setK_own, setK_no, setK_lf, setK_lq, setT, setTs, recvOk, muF, muAppend, muExtend, muPop_snoc, muPop_one, muDpop, MU.isD, wp_callV, wp_callR, wp_callT, ctJ_some, ctK_val, ctK_own, valsD, clK_int, clK_bool, clK_str, clK_none, clK_tup, clK_own, clK_lst, crK_val, crK_own, RF.wp_ok, rfE_ok, rfF_eq, rfK_exc, rfK_val, rfK_own, wv_isE, bIsE, noExc_int, noExc_bool, noExc_none, noExc_str, noExc_list, noExc_tuple, noExc_k, noExc_t, O.fz, keyD, wv_chain, ch1F_eq, ch2F_eq, ch3F_eq, evSeq, rngOf, zipOf, enumOf, startE, argS, finO, stK, ownFree, wipeE, restE, sizeLine, R.bind_ok, -Prod.exists, -Bool.exists_bool, -Prod.forall, -Bool.forall_bool, li_none, li_col, eqv_str, shaped_S, S_beq, S_len, okL_nil, okL_cons, hc, h0', sp]
          exact ⟨by omega, by omega, fun _ => ⟨fun _ => rfl, fun _ => by omega⟩, fun _ => rfl⟩
end BX.k92

set_option Elab.async false
set_option linter.all false
set_option maxRecDepth 100000
set_option maxHeartbeats 4000000
namespace BX.k92
open PySem PySem.Spec PyProof.Rows L2 RZ PureT
/-! ### a text bent -/
theorem cut_to (a : List Nat) {i : Int} (h0 : 0 ≤ i) (h1 : i ≤ a.length) : L2.cutS (S a) none (some i) = S (a.take i.toNat) := by
  unfold L2.cutS
  rw [S_list, S_len]
  have e1 : HT.sIx a.length a.length (some i) = i.toNat := by
    show (if i < 0 then (i + (a.length : Int)).toNat else min i.toNat a.length) = i.toNat
    rw [if_neg (by omega)]
    omega
  have e2 : HT.sIx a.length 0 none = 0 := rfl
  rw [e1, e2]
  rfl
theorem cut_from (a : List Nat) {i : Int} (h0 : 0 ≤ i) : L2.cutS (S a) (some i) none = S (a.drop i.toNat) := by
  unfold L2.cutS
  rw [S_list, S_len]
  have e1 : HT.sIx a.length 0 (some i) = min i.toNat a.length := by
    show (if i < 0 then (i + (a.length : Int)).toNat else min i.toNat a.length) = min i.toNat a.length
    rw [if_neg (by omega)]
  have e2 : HT.sIx a.length a.length none = a.length := rfl
  rw [e1, e2]
  by_cases h : i.toNat ≤ a.length
  · rw [Nat.min_eq_left h, List.take_of_length_le (by rw [List.length_drop]; omega)]
  · rw [Nat.min_eq_right (by omega), List.drop_length, List.drop_eq_nil_of_le (by omega)]
    simp
theorem atI_strs (L : List Str) {v : Int} (h0 : 0 ≤ v) (h1 : v < L.length) : ∃ x, atI (L.map PyData.str) v = some (.str (S x)) ∧ S x ∈ L := by
  obtain ⟨x, e, hx⟩ := atI_at (l := L.map PyData.str) h0 (by simpa using h1)
  obtain ⟨y, hy, rfl⟩ := List.mem_map.mp hx
  refine ⟨y.cps.toList, ?_, ?_⟩
  · rw [e, show S y.cps.toList = y from SX.S_tl y]
  · rw [show S y.cps.toList = y from SX.S_tl y]
    exact hy
def smallT (L : List Str) (n : Nat) : Bool := L.all fun x => okL x.cps.toList && decide (x.cps.toList.length ≤ n)
theorem smallT_of {L : List Str} {n : Nat} (h : smallT L n = true) {x : List Nat} (hx : S x ∈ L) : okL x = true ∧ x.length ≤ n := by
  have := List.all_eq_true.mp h _ hx
  rw [S_list, Bool.and_eq_true, decide_eq_true_eq] at this
  exact this
theorem bent_wp (s : Int × Bool) (cs : List Nat) (hc : okL cs = true) (hl : cs.length ≤ 450) {Q : RV → Option O → Prop} (h : ∀ (ds : List Nat) (s' : Int × Bool), okL ds = true → ds.length ≤ cs.length + 12 → Q (.val (.str (S ds))) (some (stO s'))) : (f_l_bent [.own (stO s), .val (.str (S cs))]).wp Q := by
  obtain ⟨A, hA, hA1, hA2⟩ : ∃ A, ("o.o.0123456789:- noneabcdefghijklmpqrstuvwxyz" : Str) = S A ∧ A.length = 45 ∧ okL A = true := ⟨("o.o.0123456789:- noneabcdefghijklmpqrstuvwxyz" : Str).cps.toList, (SX.S_tl _).symm, by decide +kernel, by decide +kernel⟩
  obtain ⟨B, hB, hB1, hB2⟩ : ∃ B, ("ABCDEFGHIJKLMNOPQRSTUVWXYZ!#$&'()*+,/;<=>?\x40[]^_|~`{}\\\"" : Str) = S B ∧ B.length = 54 ∧ okL B = true := ⟨("ABCDEFGHIJKLMNOPQRSTUVWXYZ!#$&'()*+,/;<=>?\x40[]^_|~`{}\\\"" : Str).cps.toList, (SX.S_tl _).symm, by decide +kernel, by decide +kernel⟩
  refine wp_run ?_
  obtain ⟨N, hN⟩ : ∃ N : Int, (cs.length : Int) = N := ⟨_, rfl⟩
  simp [c_l_bent, t_l_bent, V_val, V_own, V_bor, vK_val, vK_own, vK_no, vK_none, wv_var, wv_cst, b2F_eq, b1F_eq, wv_bin, wv_cmp, wv_ix, wv_rng2, a1F_eq, wv_neg, wv_rev, wv_isin, wv_rng1, wv_ssort, andF_b, wv_and, orF_b, wv_or, notF_b, wv_not, conF_b, wv_ite, tupF_eq, wv_tup, lstF_eq, wv_lst, wv_dict, sl3F_eq, sl2F_eq, sl1F_eq, wv_sl, nF_eq, wv_bi, cF_eq, wv_call, mu2F_ex, muF1_b, wv_mu, mt2F_ex, mtF1_eq, wv_mt, c2F_eq, c1F_eq, wv_nil, wv_cons, lc2F_eq, lcF_eq, wv_lc, wv_yes, wv_cond, wv_no, wv_some, pF_int, seqF_eq, wv_seq, rngF_eq, wv_rng, ofF_eq, wv_zip, wv_enum, asgF_eq, wx_asg, drF_eq, wx_drop, reF_eq, wx_ret, wx_retN, wx_nop, wx_brk, wx_cont, ifF_b, wx_ite, wx_seq, wx_wh, foF_eq, wx_for, tsF_eq, wx_asgT, paF_eq, wx_par, s3F_ex, s2F_eq, s1F_eq, wx_setIx, flat, shaped_lints1, shaped_int, shaped_bool, shaped_none, shaped_nil, shaped_nilt, shaped_tints, shaped_lints, eqv_int, eqv_bool, eqv_tints, eqv_lints, eqv_lnil, eqv_tnil, any_ints, flat_ints, ex_cond, ex_cond2, ixN, atI_0, atI_1, atI_2, atI_3, wp_ok, wp_bad, wp_exc, wp_if, flK_next, flK_ret, flK_brk, flK_cont, tK_b, lpK_next, lpK_cont, lpK_brk, lpK_ret, rnK_next, rnK_ret, wp_turn, ltK_some, lt1F_eq, lt2F_eq, stAsg_val, stAsg_own, stAsg_bor, stRet_val, stRet_own, stRet_bor, exAsgT, exPar, setO, setL, setKd, setTd, mtGet, mtIndex, mtCount, mtJoin, mtSplit, mtPart, tyOkR, mtTyOk, MT.ty, mtF, viewRV, viewRVs, O.vw, boF, coF, bAdd, bSub, bMul, bDiv, bMod, bPow, bNeg, bEq, bNe, bCmp, bIn, isIn, bIs, isIs, bIx, bRev, bSl, bi, bLen, bMax, bMin, bAbs, bInt, bStr, bTuple, bList, bSorted, bAll, bAny, bSum, bDict, vInt, bIsin, vwIs, bRng1, bRng2, bRng, valArgs, setS_eq, setK_val, setK_own, setK_no, setK_lf, setK_lq, setT, setTs, recvOk, muF, muAppend, muExtend, muPop_snoc, muPop_one, muDpop, MU.isD, wp_callV, wp_callR, wp_callT, ctJ_some, ctK_val, ctK_own, valsD, clK_int, clK_bool, clK_str, clK_none, clK_tup, clK_own, clK_lst, crK_val, crK_own, RF.wp_ok, rfE_ok, rfF_eq, rfK_exc, rfK_val, rfK_own, wv_isE, bIsE, noExc_int, noExc_bool, noExc_none, noExc_str, noExc_list, noExc_tuple, noExc_k, noExc_t, O.fz, keyD, wv_chain, ch1F_eq, ch2F_eq, ch3F_eq, evSeq, rngOf, zipOf, enumOf, startE, argS, finO, stK, ownFree, wipeE, restE, sizeLine, R.bind_ok, -Prod.exists, -Bool.exists_bool, -Prod.forall, -Bool.forall_bool]
  refine take_wp _ _ (by omega) (by omega) fun v1 s1 a1 b1 => ?_
  simp -implicitDefEqProofs [V_val, V_own, V_bor, vK_val, vK_own, vK_no, vK_none, wv_var, wv_cst, b2F_eq, b1F_eq, wv_bin, wv_cmp, wv_ix, wv_rng2, a1F_eq, wv_neg, wv_rev, wv_isin, wv_rng1, wv_ssort, andF_b, wv_and, orF_b, wv_or, notF_b, wv_not, conF_b, wv_ite, tupF_eq, wv_tup, lstF_eq, wv_lst, wv_dict, sl3F_eq, sl2F_eq, sl1F_eq, wv_sl, nF_eq, wv_bi, cF_eq, wv_call, mu2F_ex, muF1_b, wv_mu, mt2F_ex, mtF1_eq, wv_mt, c2F_eq, c1F_eq, wv_nil, wv_cons, lc2F_eq, lcF_eq, wv_lc, wv_yes, wv_cond, wv_no, wv_some, pF_int, seqF_eq, wv_seq, rngF_eq, wv_rng, ofF_eq, wv_zip, wv_enum, asgF_eq, wx_asg, drF_eq, wx_drop, reF_eq, wx_ret, wx_retN, wx_nop, wx_brk, wx_cont, ifF_b, wx_ite, wx_seq, wx_wh, foF_eq, wx_for, tsF_eq, wx_asgT, paF_eq, wx_par, s3F_ex, s2F_eq, s1F_eq, wx_setIx, flat, shaped_lints1, shaped_int, shaped_bool, shaped_none, shaped_nil, shaped_nilt, shaped_tints, shaped_lints, eqv_int, eqv_bool, eqv_tints, eqv_lints, eqv_lnil, eqv_tnil, any_ints, flat_ints, ex_cond, ex_cond2, ixN, atI_0, atI_1, atI_2, atI_3, wp_ok, wp_bad, wp_exc, wp_if, flK_next, flK_ret, flK_brk, flK_cont, tK_b, lpK_next, lpK_cont, lpK_brk, lpK_ret, rnK_next, rnK_ret, wp_turn, ltK_some, lt1F_eq, lt2F_eq, stAsg_val, stAsg_own, stAsg_bor, stRet_val, stRet_own, stRet_bor, exAsgT, exPar, setO, setL, setKd, setTd, mtGet, mtIndex, mtCount, mtJoin, mtSplit, mtPart, tyOkR, mtTyOk, MT.ty, mtF, viewRV, viewRVs, O.vw, boF, coF, bAdd, bSub, bMul, bDiv, bMod, bPow, bNeg, bEq, bNe, bCmp, bIn, isIn, bIs, isIs, bIx, bRev, bSl, bi, bLen, bMax, bMin, bAbs, bInt, bStr, bTuple, bList, bSorted, bAll, bAny, bSum, bDict, vInt, bIsin, vwIs, bRng1, bRng2, bRng, valArgs, setS_eq, setK_val, setK_own, setK_no, setK_lf, setK_lq, setT, setTs, recvOk, muF, muAppend, muExtend, muPop_snoc, muPop_one, muDpop, MU.isD, wp_callV, wp_callR, wp_callT, ctJ_some, ctK_val, ctK_own, valsD, clK_int, clK_bool, clK_str, clK_none, clK_tup, clK_own, clK_lst, crK_val, crK_own, RF.wp_ok, rfE_ok, rfF_eq, rfK_exc, rfK_val, rfK_own, wv_isE, bIsE, noExc_int, noExc_bool, noExc_none, noExc_str, noExc_list, noExc_tuple, noExc_k, noExc_t, O.fz, keyD, wv_chain, ch1F_eq, ch2F_eq, ch3F_eq, evSeq, rngOf, zipOf, enumOf, startE, argS, finO, stK, ownFree, wipeE, restE, sizeLine, R.bind_ok, -Prod.exists, -Bool.exists_bool, -Prod.forall, -Bool.forall_bool, S_len, hN]
  refine ⟨by omega, ?_⟩
  refine take_wp _ _ (by omega) (by omega) fun v2 s2 a2 b2 => ?_
  have c1 := cut_to cs (i := v2) a2 (by omega)
  have c2 := cut_from cs (i := v2) a2
  have c3 := cut_from cs (i := v2 + 1) (by omega)
  obtain ⟨C, hC, hC1, hC2⟩ : ∃ C, A ++ B = C ∧ C.length = 99 ∧ okL C = true := ⟨_, rfl, by rw [List.length_append, hA1, hB1], by rw [okL_app, hA2, hB2]; rfl⟩
  simp -implicitDefEqProofs [V_val, V_own, V_bor, vK_val, vK_own, vK_no, vK_none, wv_var, wv_cst, b2F_eq, b1F_eq, wv_bin, wv_cmp, wv_ix, wv_rng2, a1F_eq, wv_neg, wv_rev, wv_isin, wv_rng1, wv_ssort, andF_b, wv_and, orF_b, wv_or, notF_b, wv_not, conF_b, wv_ite, tupF_eq, wv_tup, lstF_eq, wv_lst, wv_dict, sl3F_eq, sl2F_eq, sl1F_eq, wv_sl, nF_eq, wv_bi, cF_eq, wv_call, mu2F_ex, muF1_b, wv_mu, mt2F_ex, mtF1_eq, wv_mt, c2F_eq, c1F_eq, wv_nil, wv_cons, lc2F_eq, lcF_eq, wv_lc, wv_yes, wv_cond, wv_no, wv_some, pF_int, seqF_eq, wv_seq, rngF_eq, wv_rng, ofF_eq, wv_zip, wv_enum, asgF_eq, wx_asg, drF_eq, wx_drop, reF_eq, wx_ret, wx_retN, wx_nop, wx_brk, wx_cont, ifF_b, wx_ite, wx_seq, wx_wh, foF_eq, wx_for, tsF_eq, wx_asgT, paF_eq, wx_par, s3F_ex, s2F_eq, s1F_eq, wx_setIx, flat, shaped_lints1, shaped_int, shaped_bool, shaped_none, shaped_nil, shaped_nilt, shaped_tints, shaped_lints, eqv_int, eqv_bool, eqv_tints, eqv_lints, eqv_lnil, eqv_tnil, any_ints, flat_ints, ex_cond, ex_cond2, ixN, atI_0, atI_1, atI_2, atI_3, wp_ok, wp_bad, wp_exc, wp_if, flK_next, flK_ret, flK_brk, flK_cont, tK_b, lpK_next, lpK_cont, lpK_brk, lpK_ret, rnK_next, rnK_ret, wp_turn, ltK_some, lt1F_eq, lt2F_eq, stAsg_val, stAsg_own, stAsg_bor, stRet_val, stRet_own, stRet_bor, exAsgT, exPar, setO, setL, setKd, setTd, mtGet, mtIndex, mtCount, mtJoin, mtSplit, mtPart, tyOkR, mtTyOk, MT.ty, mtF, viewRV, viewRVs, O.vw, boF, coF, bAdd, bSub, bMul, bDiv, bMod, bPow, bNeg, bEq, bNe, bCmp, bIn, isIn, bIs, isIs, bIx, bRev, bSl, bi, bLen, bMax, bMin, bAbs, bInt, bStr, bTuple, bList, bSorted, bAll, bAny, bSum, bDict, vInt, bIsin, vwIs, bRng1, bRng2, bRng, valArgs, setS_eq, setK_val, setK_own, setK_no, setK_lf, setK_lq, setT, setTs, recvOk, muF, muAppend, muExtend, muPop_snoc, muPop_one, muDpop, MU.isD, wp_callV, wp_callR, wp_callT, ctJ_some, ctK_val, ctK_own, valsD, clK_int, clK_bool, clK_str, clK_none, clK_tup, clK_own, clK_lst, crK_val, crK_own, RF.wp_ok, rfE_ok, rfF_eq, rfK_exc, rfK_val, rfK_own, wv_isE, bIsE, noExc_int, noExc_bool, noExc_none, noExc_str, noExc_list, noExc_tuple, noExc_k, noExc_t, O.fz, keyD, wv_chain, ch1F_eq, ch2F_eq, ch3F_eq, evSeq, rngOf, zipOf, enumOf, startE, argS, finO, stK, ownFree, wipeE, restE, sizeLine, R.bind_ok, -Prod.exists, -Bool.exists_bool, -Prod.forall, -Bool.forall_bool, S_len, hA, hB, S_cat, hC, hA1, hB1, hC1]
  refine take_wp _ _ (by omega) (by omega) fun v3 s3 a3 b3 => ?_
  simp -implicitDefEqProofs [V_val, V_own, V_bor, vK_val, vK_own, vK_no, vK_none, wv_var, wv_cst, b2F_eq, b1F_eq, wv_bin, wv_cmp, wv_ix, wv_rng2, a1F_eq, wv_neg, wv_rev, wv_isin, wv_rng1, wv_ssort, andF_b, wv_and, orF_b, wv_or, notF_b, wv_not, conF_b, wv_ite, tupF_eq, wv_tup, lstF_eq, wv_lst, wv_dict, sl3F_eq, sl2F_eq, sl1F_eq, wv_sl, nF_eq, wv_bi, cF_eq, wv_call, mu2F_ex, muF1_b, wv_mu, mt2F_ex, mtF1_eq, wv_mt, c2F_eq, c1F_eq, wv_nil, wv_cons, lc2F_eq, lcF_eq, wv_lc, wv_yes, wv_cond, wv_no, wv_some, pF_int, seqF_eq, wv_seq, rngF_eq, wv_rng, ofF_eq, wv_zip, wv_enum, asgF_eq, wx_asg, drF_eq, wx_drop, reF_eq, wx_ret, wx_retN, wx_nop, wx_brk, wx_cont, ifF_b, wx_ite, wx_seq, wx_wh, foF_eq, wx_for, tsF_eq, wx_asgT, paF_eq, wx_par, s3F_ex, s2F_eq, s1F_eq, wx_setIx, flat, shaped_lints1, shaped_int, shaped_bool, shaped_none, shaped_nil, shaped_nilt, shaped_tints, shaped_lints, eqv_int, eqv_bool, eqv_tints, eqv_lints, eqv_lnil, eqv_tnil, any_ints, flat_ints, ex_cond, ex_cond2, ixN, atI_0, atI_1, atI_2, atI_3, wp_ok, wp_bad, wp_exc, wp_if, flK_next, flK_ret, flK_brk, flK_cont, tK_b, lpK_next, lpK_cont, lpK_brk, lpK_ret, rnK_next, rnK_ret, wp_turn, ltK_some, lt1F_eq, lt2F_eq, stAsg_val, stAsg_own, stAsg_bor, stRet_val, stRet_own, stRet_bor, exAsgT, exPar, setO, setL, setKd, setTd, mtGet, mtIndex, mtCount, mtJoin, mtSplit, mtPart, tyOkR, mtTyOk, MT.ty, mtF, viewRV, viewRVs, O.vw, boF, coF, bAdd, bSub, bMul, bDiv, bMod, bPow, bNeg, bEq, bNe, bCmp, bIn, isIn, bIs, isIs, bIx, bRev, bSl, bi, bLen, bMax, bMin, bAbs, bInt, bStr, bTuple, bList, bSorted, bAll, bAny, bSum, bDict, vInt, bIsin, vwIs, bRng1, bRng2, bRng, valArgs, setS_eq, setK_val, setK_own, setK_no, setK_lf, setK_lq, setT, setTs, recvOk, muF, muAppend, muExtend, muPop_snoc, muPop_one, muDpop, MU.isD, wp_callV, wp_callR, wp_callT, ctJ_some, ctK_val, ctK_own, valsD, clK_int, clK_bool, clK_str, clK_none, clK_tup, clK_own, clK_lst, crK_val, crK_own, RF.wp_ok, rfE_ok, rfF_eq, rfK_exc, rfK_val, rfK_own, wv_isE, bIsE, noExc_int, noExc_bool, noExc_none, noExc_str, noExc_list, noExc_tuple, noExc_k, noExc_t, O.fz, keyD, wv_chain, ch1F_eq, ch2F_eq, ch3F_eq, evSeq, rngOf, zipOf, enumOf, startE, argS, finO, stK, ownFree, wipeE, restE, sizeLine, R.bind_ok, -Prod.exists, -Bool.exists_bool, -Prod.forall, -Bool.forall_bool, S_len, hC1]
  obtain ⟨i4, e4, m4⟩ := atI_ints [17, 99] a3 (by simpa using b3)
  simp only [List.map] at e4
  rw [e4]
  have h4 : 17 ≤ i4 ∧ i4 ≤ 99 := by simp at m4; omega
  clear e4 m4
  simp -implicitDefEqProofs [V_val, V_own, V_bor, vK_val, vK_own, vK_no, vK_none, wv_var, wv_cst, b2F_eq, b1F_eq, wv_bin, wv_cmp, wv_ix, wv_rng2, a1F_eq, wv_neg, wv_rev, wv_isin, wv_rng1, wv_ssort, andF_b, wv_and, orF_b, wv_or, notF_b, wv_not, conF_b, wv_ite, tupF_eq, wv_tup, lstF_eq, wv_lst, wv_dict, sl3F_eq, sl2F_eq, sl1F_eq, wv_sl, nF_eq, wv_bi, cF_eq, wv_call, mu2F_ex, muF1_b, wv_mu, mt2F_ex, mtF1_eq, wv_mt, c2F_eq, c1F_eq, wv_nil, wv_cons, lc2F_eq, lcF_eq, wv_lc, wv_yes, wv_cond, wv_no, wv_some, pF_int, seqF_eq, wv_seq, rngF_eq, wv_rng, ofF_eq, wv_zip, wv_enum, asgF_eq, wx_asg, drF_eq, wx_drop, reF_eq, wx_ret, wx_retN, wx_nop, wx_brk, wx_cont, ifF_b, wx_ite, wx_seq, wx_wh, foF_eq, wx_for, tsF_eq, wx_asgT, paF_eq, wx_par, s3F_ex, s2F_eq, s1F_eq, wx_setIx, flat, shaped_lints1, shaped_int, shaped_bool, shaped_none, shaped_nil, shaped_nilt, shaped_tints, shaped_lints, eqv_int, eqv_bool, eqv_tints, eqv_lints, eqv_lnil, eqv_tnil, any_ints, flat_ints, ex_cond, ex_cond2, ixN, atI_0, atI_1, atI_2, atI_3, wp_ok, wp_bad, wp_exc, wp_if, flK_next, flK_ret, flK_brk, flK_cont, tK_b, lpK_next, lpK_cont, lpK_brk, lpK_ret, rnK_next, rnK_ret, wp_turn, ltK_some, lt1F_eq, lt2F_eq, stAsg_val, stAsg_own, stAsg_bor, stRet_val, stRet_own, stRet_bor, exAsgT, exPar, setO, setL, setKd, setTd, mtGet, mtIndex, mtCount, mtJoin, mtSplit, mtPart, tyOkR, mtTyOk, MT.ty, mtF, viewRV, viewRVs, O.vw, boF, coF, bAdd, bSub, bMul, bDiv, bMod, bPow, bNeg, bEq, bNe, bCmp, bIn, isIn, bIs, isIs, bIx, bRev, bSl, bi, bLen, bMax, bMin, bAbs, bInt, bStr, bTuple, bList, bSorted, bAll, bAny, bSum, bDict, vInt, bIsin, vwIs, bRng1, bRng2, bRng, valArgs, setS_eq, setK_val, setK_own, setK_no, setK_lf, setK_lq, setT, setTs, recvOk, muF, muAppend, muExtend, muPop_snoc, muPop_one, muDpop, MU.isD, wp_callV, wp_callR, wp_callT, ctJ_some, ctK_val, ctK_own, valsD, clK_int, clK_bool, clK_str, clK_none, clK_tup, clK_own, clK_lst, crK_val, crK_own, RF.wp_ok, rfE_ok, rfF_eq, rfK_exc, rfK_val, rfK_own, wv_isE, bIsE, noExc_int, noExc_bool, noExc_none, noExc_str, noExc_list, noExc_tuple, noExc_k, noExc_t, O.fz, keyD, wv_chain, ch1F_eq, ch2F_eq, ch3F_eq, evSeq, rngOf, zipOf, enumOf, startE, argS, finO, stK, ownFree, wipeE, restE, sizeLine, R.bind_ok, -Prod.exists, -Bool.exists_bool, -Prod.forall, -Bool.forall_bool, S_len, hC1]
  refine take_wp _ _ (by omega) (by omega) fun v4 s4 a4 b4 => ?_
  obtain ⟨c, ec, mc⟩ := atI_at (l := C) a4 (by omega)
  have okc : c < 1114112 := of_decide_eq_true (List.all_eq_true.mp hC2 _ mc)
  have hs1 : okL [c] = true := by rw [okL_cons, okL_nil, decide_eq_true okc]; rfl
  obtain ⟨T, hT⟩ : ∃ T, T = cs.take v2.toNat := ⟨_, rfl⟩
  obtain ⟨D, hD⟩ : ∃ D, D = cs.drop v2.toNat := ⟨_, rfl⟩
  obtain ⟨D1, hD1⟩ : ∃ D, D = cs.drop (v2 + 1).toNat := ⟨_, rfl⟩
  have oT : okL T = true := by rw [hT]; exact okL_take hc _
  have oD : okL D = true := by rw [hD]; exact okL_drop hc _
  have oD1 : okL D1 = true := by rw [hD1]; exact okL_drop hc _
  have lTD : T.length + D.length = cs.length := by rw [hT, hD, List.length_take, List.length_drop]; omega
  have lTD1 : T.length + D1.length ≤ cs.length := by rw [hT, hD1, List.length_take, List.length_drop]; omega
  rw [← hT] at c1
  rw [← hD] at c2
  rw [← hD1] at c3
  obtain ⟨m, hp, o1, o2, p1, p2, om, lm, p3⟩ := part_S cs hc
  generalize parP cs = pq at hp o1 o2 p1 p2 p3
  obtain ⟨w, q⟩ := pq
  simp only at hp o1 o2 p1 p2 p3
  clear hT hD hD1 hA hB hC mc
  have F4 : smallT ["1000000000", "-1000000000", "999999995", "1000000001", "-1000000001", "00", "-0", "+1", "01", ""] 12 = true := by decide +kernel
  have F5 : smallT [".", "o", "..o", ".ooo", "oooooooooooo"] 12 = true := by decide +kernel
  have F6 : smallT ["", "none", "none ", S [58], "0:", "0:.", "0:o", "o", "0:oo:o", "None"] 12 = true := by decide +kernel
  have F7 : smallT [" ", S [58], "o:", " o"] 12 = true := by decide +kernel
  have l1 : cs.length ≤ 16777216 := by omega
  have l2 : T.length + D1.length ≤ 16777216 := by omega
  have l3 : T.length + D.length ≤ 16777216 := by omega
  have l4 : T.length + 1 + D1.length ≤ 16777216 := by omega
  have l5 : T.length + 1 + D.length ≤ 16777216 := by omega
  have l6 : T.length + 1 ≤ 16777216 := by omega
  obtain rfl | rfl | rfl | rfl | rfl | rfl | rfl | rfl : v1 = 0 ∨ v1 = 1 ∨ v1 = 2 ∨ v1 = 3 ∨ v1 = 4 ∨ v1 = 5 ∨ v1 = 6 ∨ v1 = 7 := by omega
  · simp -implicitDefEqProofs [V_val, V_own, V_bor, vK_val, vK_own, vK_no, vK_none, wv_var, wv_cst, b2F_eq, b1F_eq, wv_bin, wv_cmp, wv_ix, wv_rng2, a1F_eq, wv_neg, wv_rev, wv_isin, wv_rng1, wv_ssort, andF_b, wv_and, orF_b, wv_or, notF_b, wv_not, conF_b, wv_ite, tupF_eq, wv_tup, lstF_eq, wv_lst, wv_dict, sl3F_eq, sl2F_eq, sl1F_eq, wv_sl, nF_eq, wv_bi, cF_eq, wv_call, mu2F_ex, muF1_b, wv_mu, mt2F_ex, mtF1_eq, wv_mt, c2F_eq, c1F_eq, wv_nil, wv_cons, lc2F_eq, lcF_eq, wv_lc, wv_yes, wv_cond, wv_no, wv_some, pF_int, seqF_eq, wv_seq, rngF_eq, wv_rng, ofF_eq, wv_zip, wv_enum, asgF_eq, wx_asg, drF_eq, wx_drop, reF_eq, wx_ret, wx_retN, wx_nop, wx_brk, wx_cont, ifF_b, wx_ite, wx_seq, wx_wh, foF_eq, wx_for, tsF_eq, wx_asgT, paF_eq, wx_par, s3F_ex, s2F_eq, s1F_eq, wx_setIx, flat, shaped_lints1, shaped_int, shaped_bool, shaped_none, shaped_nil, shaped_nilt, shaped_tints, shaped_lints, eqv_int, eqv_bool, eqv_tints, eqv_lints, eqv_lnil, eqv_tnil, any_ints, flat_ints, ex_cond, ex_cond2, ixN, atI_0, atI_1, atI_2, atI_3, wp_ok, wp_bad, wp_exc, wp_if, flK_next, flK_ret, flK_brk, flK_cont, tK_b, lpK_next, lpK_cont, lpK_brk, lpK_ret, rnK_next, rnK_ret, wp_turn, ltK_some, lt1F_eq, lt2F_eq, stAsg_val, stAsg_own, stAsg_bor, stRet_val, stRet_own, stRet_bor, exAsgT, exPar, setO, setL, setKd, setTd, mtGet, mtIndex, mtCount, mtJoin, mtSplit, mtPart, tyOkR, mtTyOk, MT.ty, mtF, viewRV, viewRVs, O.vw, boF, coF, bAdd, bSub, bMul, bDiv, bMod, bPow, bNeg, bEq, bNe, bCmp, bIn, isIn, bIs, isIs, bIx, bRev, bSl, bi, bLen, bMax, bMin, bAbs, bInt, bStr, bTuple, bList, bSorted, bAll, bAny, bSum, bDict, vInt, bIsin, vwIs, bRng1, bRng2, bRng, valArgs, setS_eq, setK_val, setK_own, setK_no, setK_lf, setK_lq, setT, setTs, recvOk, muF, muAppend, muExtend, muPop_snoc, muPop_one, muDpop, MU.isD, wp_callV, wp_callR, wp_callT, ctJ_some, ctK_val, ctK_own, valsD, clK_int, clK_bool, clK_str, clK_none, clK_tup, clK_own, clK_lst, crK_val, crK_own, RF.wp_ok, rfE_ok, rfF_eq, rfK_exc, rfK_val, rfK_own, wv_isE, bIsE, noExc_int, noExc_bool, noExc_none, noExc_str, noExc_list, noExc_tuple, noExc_k, noExc_t, O.fz, keyD, wv_chain, ch1F_eq, ch2F_eq, ch3F_eq, evSeq, rngOf, zipOf, enumOf, startE, argS, finO, stK, ownFree, wipeE, restE, sizeLine, R.bind_ok, -Prod.exists, -Bool.exists_bool, -Prod.forall, -Bool.forall_bool, S_len, S_list, hC1, ec, c1, c2, c3, S_cat, l1, l2, l3, l4, l5, l6, li_col, hp, okL_nil, okL_cons]
    exact h _ _ (by rw [okL_app, oT, oD1]; rfl) (by rw [List.length_append]; omega)
  · simp -implicitDefEqProofs [V_val, V_own, V_bor, vK_val, vK_own, vK_no, vK_none, wv_var, wv_cst, b2F_eq, b1F_eq, wv_bin, wv_cmp, wv_ix, wv_rng2, a1F_eq, wv_neg, wv_rev, wv_isin, wv_rng1, wv_ssort, andF_b, wv_and, orF_b, wv_or, notF_b, wv_not, conF_b, wv_ite, tupF_eq, wv_tup, lstF_eq, wv_lst, wv_dict, sl3F_eq, sl2F_eq, sl1F_eq, wv_sl, nF_eq, wv_bi, cF_eq, wv_call, mu2F_ex, muF1_b, wv_mu, mt2F_ex, mtF1_eq, wv_mt, c2F_eq, c1F_eq, wv_nil, wv_cons, lc2F_eq, lcF_eq, wv_lc, wv_yes, wv_cond, wv_no, wv_some, pF_int, seqF_eq, wv_seq, rngF_eq, wv_rng, ofF_eq, wv_zip, wv_enum, asgF_eq, wx_asg, drF_eq, wx_drop, reF_eq, wx_ret, wx_retN, wx_nop, wx_brk, wx_cont, ifF_b, wx_ite, wx_seq, wx_wh, foF_eq, wx_for, tsF_eq, wx_asgT, paF_eq, wx_par, s3F_ex, s2F_eq, s1F_eq, wx_setIx, flat, shaped_lints1, shaped_int, shaped_bool, shaped_none, shaped_nil, shaped_nilt, shaped_tints, shaped_lints, eqv_int, eqv_bool, eqv_tints, eqv_lints, eqv_lnil, eqv_tnil, any_ints, flat_ints, ex_cond, ex_cond2, ixN, atI_0, atI_1, atI_2, atI_3, wp_ok, wp_bad, wp_exc, wp_if, flK_next, flK_ret, flK_brk, flK_cont, tK_b, lpK_next, lpK_cont, lpK_brk, lpK_ret, rnK_next, rnK_ret, wp_turn, ltK_some, lt1F_eq, lt2F_eq, stAsg_val, stAsg_own, stAsg_bor, stRet_val, stRet_own, stRet_bor, exAsgT, exPar, setO, setL, setKd, setTd, mtGet, mtIndex, mtCount, mtJoin, mtSplit, mtPart, tyOkR, mtTyOk, MT.ty, mtF, viewRV, viewRVs, O.vw, boF, coF, bAdd, bSub, bMul, bDiv, bMod, bPow, bNeg, bEq, bNe, bCmp, bIn, isIn, bIs, isIs, bIx, bRev, bSl, bi, bLen, bMax, bMin, bAbs, bInt, bStr, bTuple, bList, bSorted, bAll, bAny, bSum, bDict, vInt, bIsin, vwIs, bRng1, bRng2, bRng, valArgs, setS_eq, setK_val, setK_own, setK_no, setK_lf, setK_lq, setT, setTs, recvOk, muF, muAppend, muExtend, muPop_snoc, muPop_one, muDpop, MU.isD, wp_callV, wp_callR, wp_callT, ctJ_some, ctK_val, ctK_own, valsD, clK_int, clK_bool, clK_str, clK_none, clK_tup, clK_own, clK_lst, crK_val, crK_own, RF.wp_ok, rfE_ok, rfF_eq, rfK_exc, rfK_val, rfK_own, wv_isE, bIsE, noExc_int, noExc_bool, noExc_none, noExc_str, noExc_list, noExc_tuple, noExc_k, noExc_t, O.fz, keyD, wv_chain, ch1F_eq, ch2F_eq, ch3F_eq, evSeq, rngOf, zipOf, enumOf, startE, argS, finO, stK, ownFree, wipeE, restE, sizeLine, R.bind_ok, -Prod.exists, -Bool.exists_bool, -Prod.forall, -Bool.forall_bool, S_len, S_list, hC1, ec, c1, c2, c3, S_cat, l1, l2, l3, l4, l5, l6, li_col, hp, okL_nil, okL_cons]
    exact h _ _ (by rw [okL_app, okL_cons, oT, oD, decide_eq_true okc]; rfl) (by rw [List.length_append, List.length_cons]; omega)
  · simp -implicitDefEqProofs [V_val, V_own, V_bor, vK_val, vK_own, vK_no, vK_none, wv_var, wv_cst, b2F_eq, b1F_eq, wv_bin, wv_cmp, wv_ix, wv_rng2, a1F_eq, wv_neg, wv_rev, wv_isin, wv_rng1, wv_ssort, andF_b, wv_and, orF_b, wv_or, notF_b, wv_not, conF_b, wv_ite, tupF_eq, wv_tup, lstF_eq, wv_lst, wv_dict, sl3F_eq, sl2F_eq, sl1F_eq, wv_sl, nF_eq, wv_bi, cF_eq, wv_call, mu2F_ex, muF1_b, wv_mu, mt2F_ex, mtF1_eq, wv_mt, c2F_eq, c1F_eq, wv_nil, wv_cons, lc2F_eq, lcF_eq, wv_lc, wv_yes, wv_cond, wv_no, wv_some, pF_int, seqF_eq, wv_seq, rngF_eq, wv_rng, ofF_eq, wv_zip, wv_enum, asgF_eq, wx_asg, drF_eq, wx_drop, reF_eq, wx_ret, wx_retN, wx_nop, wx_brk, wx_cont, ifF_b, wx_ite, wx_seq, wx_wh, foF_eq, wx_for, tsF_eq, wx_asgT, paF_eq, wx_par, s3F_ex, s2F_eq, s1F_eq, wx_setIx, flat, shaped_lints1, shaped_int, shaped_bool, shaped_none, shaped_nil, shaped_nilt, shaped_tints, shaped_lints, eqv_int, eqv_bool, eqv_tints, eqv_lints, eqv_lnil, eqv_tnil, any_ints, flat_ints, ex_cond, ex_cond2, ixN, atI_0, atI_1, atI_2, atI_3, wp_ok, wp_bad, wp_exc, wp_if, flK_next, flK_ret, flK_brk, flK_cont, tK_b, lpK_next, lpK_cont, lpK_brk, lpK_ret, rnK_next, rnK_ret, wp_turn, ltK_some, lt1F_eq, lt2F_eq, stAsg_val, stAsg_own, stAsg_bor, stRet_val, stRet_own, stRet_bor, exAsgT, exPar, setO, setL, setKd, setTd, mtGet, mtIndex, mtCount, mtJoin, mtSplit, mtPart, tyOkR, mtTyOk, MT.ty, mtF, viewRV, viewRVs, O.vw, boF, coF, bAdd, bSub, bMul, bDiv, bMod, bPow, bNeg, bEq, bNe, bCmp, bIn, isIn, bIs, isIs, bIx, bRev, bSl, bi, bLen, bMax, bMin, bAbs, bInt, bStr, bTuple, bList, bSorted, bAll, bAny, bSum, bDict, vInt, bIsin, vwIs, bRng1, bRng2, bRng, valArgs, setS_eq, setK_val, setK_own, setK_no, setK_lf, setK_lq, setT, setTs, recvOk, muF, muAppend, muExtend, muPop_snoc, muPop_one, muDpop, MU.isD, wp_callV, wp_callR, wp_callT, ctJ_some, ctK_val, ctK_own, valsD, clK_int, clK_bool, clK_str, clK_none, clK_tup, clK_own, clK_lst, crK_val, crK_own, RF.wp_ok, rfE_ok, rfF_eq, rfK_exc, rfK_val, rfK_own, wv_isE, bIsE, noExc_int, noExc_bool, noExc_none, noExc_str, noExc_list, noExc_tuple, noExc_k, noExc_t, O.fz, keyD, wv_chain, ch1F_eq, ch2F_eq, ch3F_eq, evSeq, rngOf, zipOf, enumOf, startE, argS, finO, stK, ownFree, wipeE, restE, sizeLine, R.bind_ok, -Prod.exists, -Bool.exists_bool, -Prod.forall, -Bool.forall_bool, S_len, S_list, hC1, ec, c1, c2, c3, S_cat, l1, l2, l3, l4, l5, l6, li_col, hp, okL_nil, okL_cons]
    exact h _ _ (by rw [okL_app, okL_cons, oT, oD1, decide_eq_true okc]; rfl) (by rw [List.length_append, List.length_cons]; omega)
  · simp -implicitDefEqProofs [V_val, V_own, V_bor, vK_val, vK_own, vK_no, vK_none, wv_var, wv_cst, b2F_eq, b1F_eq, wv_bin, wv_cmp, wv_ix, wv_rng2, a1F_eq, wv_neg, wv_rev, wv_isin, wv_rng1, wv_ssort, andF_b, wv_and, orF_b, wv_or, notF_b, wv_not, conF_b, wv_ite, tupF_eq, wv_tup, lstF_eq, wv_lst, wv_dict, sl3F_eq, sl2F_eq, sl1F_eq, wv_sl, nF_eq, wv_bi, cF_eq, wv_call, mu2F_ex, muF1_b, wv_mu, mt2F_ex, mtF1_eq, wv_mt, c2F_eq, c1F_eq, wv_nil, wv_cons, lc2F_eq, lcF_eq, wv_lc, wv_yes, wv_cond, wv_no, wv_some, pF_int, seqF_eq, wv_seq, rngF_eq, wv_rng, ofF_eq, wv_zip, wv_enum, asgF_eq, wx_asg, drF_eq, wx_drop, reF_eq, wx_ret, wx_retN, wx_nop, wx_brk, wx_cont, ifF_b, wx_ite, wx_seq, wx_wh, foF_eq, wx_for, tsF_eq, wx_asgT, paF_eq, wx_par, s3F_ex, s2F_eq, s1F_eq, wx_setIx, flat, shaped_lints1, shaped_int, shaped_bool, shaped_none, shaped_nil, shaped_nilt, shaped_tints, shaped_lints, eqv_int, eqv_bool, eqv_tints, eqv_lints, eqv_lnil, eqv_tnil, any_ints, flat_ints, ex_cond, ex_cond2, ixN, atI_0, atI_1, atI_2, atI_3, wp_ok, wp_bad, wp_exc, wp_if, flK_next, flK_ret, flK_brk, flK_cont, tK_b, lpK_next, lpK_cont, lpK_brk, lpK_ret, rnK_next, rnK_ret, wp_turn, ltK_some, lt1F_eq, lt2F_eq, stAsg_val, stAsg_own, stAsg_bor, stRet_val, stRet_own, stRet_bor, exAsgT, exPar, setO, setL, setKd, setTd, mtGet, mtIndex, mtCount, mtJoin, mtSplit, mtPart, tyOkR, mtTyOk, MT.ty, mtF, viewRV, viewRVs, O.vw, boF, coF, bAdd, bSub, bMul, bDiv, bMod, bPow, bNeg, bEq, bNe, bCmp, bIn, isIn, bIs, isIs, bIx, bRev, bSl, bi, bLen, bMax, bMin, bAbs, bInt, bStr, bTuple, bList, bSorted, bAll, bAny, bSum, bDict, vInt, bIsin, vwIs, bRng1, bRng2, bRng, valArgs, setS_eq, setK_val, setK_own, setK_no, setK_lf, setK_lq, setT, setTs, recvOk, muF, muAppend, muExtend, muPop_snoc, muPop_one, muDpop, MU.isD, wp_callV, wp_callR, wp_callT, ctJ_some, ctK_val, ctK_own, valsD, clK_int, clK_bool, clK_str, clK_none, clK_tup, clK_own, clK_lst, crK_val, crK_own, RF.wp_ok, rfE_ok, rfF_eq, rfK_exc, rfK_val, rfK_own, wv_isE, bIsE, noExc_int, noExc_bool, noExc_none, noExc_str, noExc_list, noExc_tuple, noExc_k, noExc_t, O.fz, keyD, wv_chain, ch1F_eq, ch2F_eq, ch3F_eq, evSeq, rngOf, zipOf, enumOf, startE, argS, finO, stK, ownFree, wipeE, restE, sizeLine, R.bind_ok, -Prod.exists, -Bool.exists_bool, -Prod.forall, -Bool.forall_bool, S_len, S_list, hC1, ec, c1, c2, c3, S_cat, l1, l2, l3, l4, l5, l6, li_col, hp, okL_nil, okL_cons]
    exact h _ _ hc (by omega)
  · simp -implicitDefEqProofs [V_val, V_own, V_bor, vK_val, vK_own, vK_no, vK_none, wv_var, wv_cst, b2F_eq, b1F_eq, wv_bin, wv_cmp, wv_ix, wv_rng2, a1F_eq, wv_neg, wv_rev, wv_isin, wv_rng1, wv_ssort, andF_b, wv_and, orF_b, wv_or, notF_b, wv_not, conF_b, wv_ite, tupF_eq, wv_tup, lstF_eq, wv_lst, wv_dict, sl3F_eq, sl2F_eq, sl1F_eq, wv_sl, nF_eq, wv_bi, cF_eq, wv_call, mu2F_ex, muF1_b, wv_mu, mt2F_ex, mtF1_eq, wv_mt, c2F_eq, c1F_eq, wv_nil, wv_cons, lc2F_eq, lcF_eq, wv_lc, wv_yes, wv_cond, wv_no, wv_some, pF_int, seqF_eq, wv_seq, rngF_eq, wv_rng, ofF_eq, wv_zip, wv_enum, asgF_eq, wx_asg, drF_eq, wx_drop, reF_eq, wx_ret, wx_retN, wx_nop, wx_brk, wx_cont, ifF_b, wx_ite, wx_seq, wx_wh, foF_eq, wx_for, tsF_eq, wx_asgT, paF_eq, wx_par, s3F_ex, s2F_eq, s1F_eq, wx_setIx, flat, shaped_lints1, shaped_int, shaped_bool, shaped_none, shaped_nil, shaped_nilt, shaped_tints, shaped_lints, eqv_int, eqv_bool, eqv_tints, eqv_lints, eqv_lnil, eqv_tnil, any_ints, flat_ints, ex_cond, ex_cond2, ixN, atI_0, atI_1, atI_2, atI_3, wp_ok, wp_bad, wp_exc, wp_if, flK_next, flK_ret, flK_brk, flK_cont, tK_b, lpK_next, lpK_cont, lpK_brk, lpK_ret, rnK_next, rnK_ret, wp_turn, ltK_some, lt1F_eq, lt2F_eq, stAsg_val, stAsg_own, stAsg_bor, stRet_val, stRet_own, stRet_bor, exAsgT, exPar, setO, setL, setKd, setTd, mtGet, mtIndex, mtCount, mtJoin, mtSplit, mtPart, tyOkR, mtTyOk, MT.ty, mtF, viewRV, viewRVs, O.vw, boF, coF, bAdd, bSub, bMul, bDiv, bMod, bPow, bNeg, bEq, bNe, bCmp, bIn, isIn, bIs, isIs, bIx, bRev, bSl, bi, bLen, bMax, bMin, bAbs, bInt, bStr, bTuple, bList, bSorted, bAll, bAny, bSum, bDict, vInt, bIsin, vwIs, bRng1, bRng2, bRng, valArgs, setS_eq, setK_val, setK_own, setK_no, setK_lf, setK_lq, setT, setTs, recvOk, muF, muAppend, muExtend, muPop_snoc, muPop_one, muDpop, MU.isD, wp_callV, wp_callR, wp_callT, ctJ_some, ctK_val, ctK_own, valsD, clK_int, clK_bool, clK_str, clK_none, clK_tup, clK_own, clK_lst, crK_val, crK_own, RF.wp_ok, rfE_ok, rfF_eq, rfK_exc, rfK_val, rfK_own, wv_isE, bIsE, noExc_int, noExc_bool, noExc_none, noExc_str, noExc_list, noExc_tuple, noExc_k, noExc_t, O.fz, keyD, wv_chain, ch1F_eq, ch2F_eq, ch3F_eq, evSeq, rngOf, zipOf, enumOf, startE, argS, finO, stK, ownFree, wipeE, restE, sizeLine, R.bind_ok, -Prod.exists, -Bool.exists_bool, -Prod.forall, -Bool.forall_bool, S_len, S_list, hC1, ec, c1, c2, c3, S_cat, l1, l2, l3, l4, l5, l6, li_col, hp, okL_nil, okL_cons]
    refine take_wp _ _ (by omega) (by omega) fun v5 s5 a5 b5 => ?_
    obtain ⟨x, ex, mx⟩ := atI_strs ["1000000000", "-1000000000", "999999995", "1000000001", "-1000000001", "00", "-0", "+1", "01", ""] a5 (by simpa using b5)
    obtain ⟨ox, lx⟩ := smallT_of F4 mx
    simp only [List.map] at ex
    clear mx
    simp -implicitDefEqProofs [V_val, V_own, V_bor, vK_val, vK_own, vK_no, vK_none, wv_var, wv_cst, b2F_eq, b1F_eq, wv_bin, wv_cmp, wv_ix, wv_rng2, a1F_eq, wv_neg, wv_rev, wv_isin, wv_rng1, wv_ssort, andF_b, wv_and, orF_b, wv_or, notF_b, wv_not, conF_b, wv_ite, tupF_eq, wv_tup, lstF_eq, wv_lst, wv_dict, sl3F_eq, sl2F_eq, sl1F_eq, wv_sl, nF_eq, wv_bi, cF_eq, wv_call, mu2F_ex, muF1_b, wv_mu, mt2F_ex, mtF1_eq, wv_mt, c2F_eq, c1F_eq, wv_nil, wv_cons, lc2F_eq, lcF_eq, wv_lc, wv_yes, wv_cond, wv_no, wv_some, pF_int, seqF_eq, wv_seq, rngF_eq, wv_rng, ofF_eq, wv_zip, wv_enum, asgF_eq, wx_asg, drF_eq, wx_drop, reF_eq, wx_ret, wx_retN, wx_nop, wx_brk, wx_cont, ifF_b, wx_ite, wx_seq, wx_wh, foF_eq, wx_for, tsF_eq, wx_asgT, paF_eq, wx_par, s3F_ex, s2F_eq, s1F_eq, wx_setIx, flat, shaped_lints1, shaped_int, shaped_bool, shaped_none, shaped_nil, shaped_nilt, shaped_tints, shaped_lints, eqv_int, eqv_bool, eqv_tints, eqv_lints, eqv_lnil, eqv_tnil, any_ints, flat_ints, ex_cond, ex_cond2, ixN, atI_0, atI_1, atI_2, atI_3, wp_ok, wp_bad, wp_exc, wp_if, flK_next, flK_ret, flK_brk, flK_cont, tK_b, lpK_next, lpK_cont, lpK_brk, lpK_ret, rnK_next, rnK_ret, wp_turn, ltK_some, lt1F_eq, lt2F_eq, stAsg_val, stAsg_own, stAsg_bor, stRet_val, stRet_own, stRet_bor, exAsgT, exPar, setO, setL, setKd, setTd, mtGet, mtIndex, mtCount, mtJoin, mtSplit, mtPart, tyOkR, mtTyOk, MT.ty, mtF, viewRV, viewRVs, O.vw, boF, coF, bAdd, bSub, bMul, bDiv, bMod, bPow, bNeg, bEq, bNe, bCmp, bIn, isIn, bIs, isIs, bIx, bRev, bSl, bi, bLen, bMax, bMin, bAbs, bInt, bStr, bTuple, bList, bSorted, bAll, bAny, bSum, bDict, vInt, bIsin, vwIs, bRng1, bRng2, bRng, valArgs, setS_eq, setK_val, setK_own, setK_no, setK_lf, setK_lq, setT, setTs, recvOk, muF, muAppend, muExtend, muPop_snoc, muPop_one, muDpop, MU.isD, wp_callV, wp_callR, wp_callT, ctJ_some, ctK_val, ctK_own, valsD, clK_int, clK_bool, clK_str, clK_none, clK_tup, clK_own, clK_lst, crK_val, crK_own, RF.wp_ok, rfE_ok, rfF_eq, rfK_exc, rfK_val, rfK_own, wv_isE, bIsE, noExc_int, noExc_bool, noExc_none, noExc_str, noExc_list, noExc_tuple, noExc_k, noExc_t, O.fz, keyD, wv_chain, ch1F_eq, ch2F_eq, ch3F_eq, evSeq, rngOf, zipOf, enumOf, startE, argS, finO, stK, ownFree, wipeE, restE, sizeLine, R.bind_ok, -Prod.exists, -Bool.exists_bool, -Prod.forall, -Bool.forall_bool, S_len, ex, S_cat]
    exact ⟨by omega, by omega, h _ _ (by simp only [okL_app, ox, om, o2, Bool.and_self]) (by simp only [List.length_append]; omega)⟩
  · simp -implicitDefEqProofs [V_val, V_own, V_bor, vK_val, vK_own, vK_no, vK_none, wv_var, wv_cst, b2F_eq, b1F_eq, wv_bin, wv_cmp, wv_ix, wv_rng2, a1F_eq, wv_neg, wv_rev, wv_isin, wv_rng1, wv_ssort, andF_b, wv_and, orF_b, wv_or, notF_b, wv_not, conF_b, wv_ite, tupF_eq, wv_tup, lstF_eq, wv_lst, wv_dict, sl3F_eq, sl2F_eq, sl1F_eq, wv_sl, nF_eq, wv_bi, cF_eq, wv_call, mu2F_ex, muF1_b, wv_mu, mt2F_ex, mtF1_eq, wv_mt, c2F_eq, c1F_eq, wv_nil, wv_cons, lc2F_eq, lcF_eq, wv_lc, wv_yes, wv_cond, wv_no, wv_some, pF_int, seqF_eq, wv_seq, rngF_eq, wv_rng, ofF_eq, wv_zip, wv_enum, asgF_eq, wx_asg, drF_eq, wx_drop, reF_eq, wx_ret, wx_retN, wx_nop, wx_brk, wx_cont, ifF_b, wx_ite, wx_seq, wx_wh, foF_eq, wx_for, tsF_eq, wx_asgT, paF_eq, wx_par, s3F_ex, s2F_eq, s1F_eq, wx_setIx, flat, shaped_lints1, shaped_int, shaped_bool, shaped_none, shaped_nil, shaped_nilt, shaped_tints, shaped_lints, eqv_int, eqv_bool, eqv_tints, eqv_lints, eqv_lnil, eqv_tnil, any_ints, flat_ints, ex_cond, ex_cond2, ixN, atI_0, atI_1, atI_2, atI_3, wp_ok, wp_bad, wp_exc, wp_if, flK_next, flK_ret, flK_brk, flK_cont, tK_b, lpK_next, lpK_cont, lpK_brk, lpK_ret, rnK_next, rnK_ret, wp_turn, ltK_some, lt1F_eq, lt2F_eq, stAsg_val, stAsg_own, stAsg_bor, stRet_val, stRet_own, stRet_bor, exAsgT, exPar, setO, setL, setKd, setTd, mtGet, mtIndex, mtCount, mtJoin, mtSplit, mtPart, tyOkR, mtTyOk, MT.ty, mtF, viewRV, viewRVs, O.vw, boF, coF, bAdd, bSub, bMul, bDiv, bMod, bPow, bNeg, bEq, bNe, bCmp, bIn, isIn, bIs, isIs, bIx, bRev, bSl, bi, bLen, bMax, bMin, bAbs, bInt, bStr, bTuple, bList, bSorted, bAll, bAny, bSum, bDict, vInt, bIsin, vwIs, bRng1, bRng2, bRng, valArgs, setS_eq, setK_val, setK_own, setK_no, setK_lf, setK_lq, setT, setTs, recvOk, muF, muAppend, muExtend, muPop_snoc, muPop_one, muDpop, MU.isD, wp_callV, wp_callR, wp_callT, ctJ_some, ctK_val, ctK_own, valsD, clK_int, clK_bool, clK_str, clK_none, clK_tup, clK_own, clK_lst, crK_val, crK_own, RF.wp_ok, rfE_ok, rfF_eq, rfK_exc, rfK_val, rfK_own, wv_isE, bIsE, noExc_int, noExc_bool, noExc_none, noExc_str, noExc_list, noExc_tuple, noExc_k, noExc_t, O.fz, keyD, wv_chain, ch1F_eq, ch2F_eq, ch3F_eq, evSeq, rngOf, zipOf, enumOf, startE, argS, finO, stK, ownFree, wipeE, restE, sizeLine, R.bind_ok, -Prod.exists, -Bool.exists_bool, -Prod.forall, -Bool.forall_bool, S_len, S_list, hC1, ec, c1, c2, c3, S_cat, l1, l2, l3, l4, l5, l6, li_col, hp, okL_nil, okL_cons]
    refine ⟨by omega, by omega, ?_⟩
    refine take_wp _ _ (by omega) (by omega) fun v5 s5 a5 b5 => ?_
    obtain ⟨x, ex, mx⟩ := atI_strs [".", "o", "..o", ".ooo", "oooooooooooo"] a5 (by simpa using b5)
    obtain ⟨ox, lx⟩ := smallT_of F5 mx
    simp only [List.map] at ex
    clear mx
    simp -implicitDefEqProofs [V_val, V_own, V_bor, vK_val, vK_own, vK_no, vK_none, wv_var, wv_cst, b2F_eq, b1F_eq, wv_bin, wv_cmp, wv_ix, wv_rng2, a1F_eq, wv_neg, wv_rev, wv_isin, wv_rng1, wv_ssort, andF_b, wv_and, orF_b, wv_or, notF_b, wv_not, conF_b, wv_ite, tupF_eq, wv_tup, lstF_eq, wv_lst, wv_dict, sl3F_eq, sl2F_eq, sl1F_eq, wv_sl, nF_eq, wv_bi, cF_eq, wv_call, mu2F_ex, muF1_b, wv_mu, mt2F_ex, mtF1_eq, wv_mt, c2F_eq, c1F_eq, wv_nil, wv_cons, lc2F_eq, lcF_eq, wv_lc, wv_yes, wv_cond, wv_no, wv_some, pF_int, seqF_eq, wv_seq, rngF_eq, wv_rng, ofF_eq, wv_zip, wv_enum, asgF_eq, wx_asg, drF_eq, wx_drop, reF_eq, wx_ret, wx_retN, wx_nop, wx_brk, wx_cont, ifF_b, wx_ite, wx_seq, wx_wh, foF_eq, wx_for, tsF_eq, wx_asgT, paF_eq, wx_par, s3F_ex, s2F_eq, s1F_eq, wx_setIx, flat, shaped_lints1, shaped_int, shaped_bool, shaped_none, shaped_nil, shaped_nilt, shaped_tints, shaped_lints, eqv_int, eqv_bool, eqv_tints, eqv_lints, eqv_lnil, eqv_tnil, any_ints, flat_ints, ex_cond, ex_cond2, ixN, atI_0, atI_1, atI_2, atI_3, wp_ok, wp_bad, wp_exc, wp_if, flK_next, flK_ret, flK_brk, flK_cont, tK_b, lpK_next, lpK_cont, lpK_brk, lpK_ret, rnK_next, rnK_ret, wp_turn, ltK_some, lt1F_eq, lt2F_eq, stAsg_val, stAsg_own, stAsg_bor, stRet_val, stRet_own, stRet_bor, exAsgT, exPar, setO, setL, setKd, setTd, mtGet, mtIndex, mtCount, mtJoin, mtSplit, mtPart, tyOkR, mtTyOk, MT.ty, mtF, viewRV, viewRVs, O.vw, boF, coF, bAdd, bSub, bMul, bDiv, bMod, bPow, bNeg, bEq, bNe, bCmp, bIn, isIn, bIs, isIs, bIx, bRev, bSl, bi, bLen, bMax, bMin, bAbs, bInt, bStr, bTuple, bList, bSorted, bAll, bAny, bSum, bDict, vInt, bIsin, vwIs, bRng1, bRng2, bRng, valArgs, setS_eq, setK_val, setK_own, setK_no, setK_lf, setK_lq, setT, setTs, recvOk, muF, muAppend, muExtend, muPop_snoc, muPop_one, muDpop, MU.isD, wp_callV, wp_callR, wp_callT, ctJ_some, ctK_val, ctK_own, valsD, clK_int, clK_bool, clK_str, clK_none, clK_tup, clK_own, clK_lst, crK_val, crK_own, RF.wp_ok, rfE_ok, rfF_eq, rfK_exc, rfK_val, rfK_own, wv_isE, bIsE, noExc_int, noExc_bool, noExc_none, noExc_str, noExc_list, noExc_tuple, noExc_k, noExc_t, O.fz, keyD, wv_chain, ch1F_eq, ch2F_eq, ch3F_eq, evSeq, rngOf, zipOf, enumOf, startE, argS, finO, stK, ownFree, wipeE, restE, sizeLine, R.bind_ok, -Prod.exists, -Bool.exists_bool, -Prod.forall, -Bool.forall_bool, S_len, ex, S_cat]
    exact ⟨by omega, h _ _ (by simp only [okL_app, ox, om, o1, o2, Bool.and_self]) (by simp only [List.length_append]; omega)⟩
  · simp -implicitDefEqProofs [V_val, V_own, V_bor, vK_val, vK_own, vK_no, vK_none, wv_var, wv_cst, b2F_eq, b1F_eq, wv_bin, wv_cmp, wv_ix, wv_rng2, a1F_eq, wv_neg, wv_rev, wv_isin, wv_rng1, wv_ssort, andF_b, wv_and, orF_b, wv_or, notF_b, wv_not, conF_b, wv_ite, tupF_eq, wv_tup, lstF_eq, wv_lst, wv_dict, sl3F_eq, sl2F_eq, sl1F_eq, wv_sl, nF_eq, wv_bi, cF_eq, wv_call, mu2F_ex, muF1_b, wv_mu, mt2F_ex, mtF1_eq, wv_mt, c2F_eq, c1F_eq, wv_nil, wv_cons, lc2F_eq, lcF_eq, wv_lc, wv_yes, wv_cond, wv_no, wv_some, pF_int, seqF_eq, wv_seq, rngF_eq, wv_rng, ofF_eq, wv_zip, wv_enum, asgF_eq, wx_asg, drF_eq, wx_drop, reF_eq, wx_ret, wx_retN, wx_nop, wx_brk, wx_cont, ifF_b, wx_ite, wx_seq, wx_wh, foF_eq, wx_for, tsF_eq, wx_asgT, paF_eq, wx_par, s3F_ex, s2F_eq, s1F_eq, wx_setIx, flat, shaped_lints1, shaped_int, shaped_bool, shaped_none, shaped_nil, shaped_nilt, shaped_tints, shaped_lints, eqv_int, eqv_bool, eqv_tints, eqv_lints, eqv_lnil, eqv_tnil, any_ints, flat_ints, ex_cond, ex_cond2, ixN, atI_0, atI_1, atI_2, atI_3, wp_ok, wp_bad, wp_exc, wp_if, flK_next, flK_ret, flK_brk, flK_cont, tK_b, lpK_next, lpK_cont, lpK_brk, lpK_ret, rnK_next, rnK_ret, wp_turn, ltK_some, lt1F_eq, lt2F_eq, stAsg_val, stAsg_own, stAsg_bor, stRet_val, stRet_own, stRet_bor, exAsgT, exPar, setO, setL, setKd, setTd, mtGet, mtIndex, mtCount, mtJoin, mtSplit, mtPart, tyOkR, mtTyOk, MT.ty, mtF, viewRV, viewRVs, O.vw, boF, coF, bAdd, bSub, bMul, bDiv, bMod, bPow, bNeg, bEq, bNe, bCmp, bIn, isIn, bIs, isIs, bIx, bRev, bSl, bi, bLen, bMax, bMin, bAbs, bInt, bStr, bTuple, bList, bSorted, bAll, bAny, bSum, bDict, vInt, bIsin, vwIs, bRng1, bRng2, bRng, valArgs, setS_eq, setK_val, setK_own, setK_no, setK_lf, setK_lq, setT, setTs, recvOk, muF, muAppend, muExtend, muPop_snoc, muPop_one, muDpop, MU.isD, wp_callV, wp_callR, wp_callT, ctJ_some, ctK_val, ctK_own, valsD, clK_int, clK_bool, clK_str, clK_none, clK_tup, clK_own, clK_lst, crK_val, crK_own, RF.wp_ok, rfE_ok, rfF_eq, rfK_exc, rfK_val, rfK_own, wv_isE, bIsE, noExc_int, noExc_bool, noExc_none, noExc_str, noExc_list, noExc_tuple, noExc_k, noExc_t, O.fz, keyD, wv_chain, ch1F_eq, ch2F_eq, ch3F_eq, evSeq, rngOf, zipOf, enumOf, startE, argS, finO, stK, ownFree, wipeE, restE, sizeLine, R.bind_ok, -Prod.exists, -Bool.exists_bool, -Prod.forall, -Bool.forall_bool, S_len, S_list, hC1, ec, c1, c2, c3, S_cat, l1, l2, l3, l4, l5, l6, li_col, hp, okL_nil, okL_cons]
    refine take_wp _ _ (by omega) (by omega) fun v5 s5 a5 b5 => ?_
    obtain ⟨x, ex, mx⟩ := atI_strs ["", "none", "none ", S [58], "0:", "0:.", "0:o", "o", "0:oo:o", "None"] a5 (by simpa using b5)
    obtain ⟨ox, lx⟩ := smallT_of F6 mx
    simp only [List.map] at ex
    clear mx
    simp -implicitDefEqProofs [V_val, V_own, V_bor, vK_val, vK_own, vK_no, vK_none, wv_var, wv_cst, b2F_eq, b1F_eq, wv_bin, wv_cmp, wv_ix, wv_rng2, a1F_eq, wv_neg, wv_rev, wv_isin, wv_rng1, wv_ssort, andF_b, wv_and, orF_b, wv_or, notF_b, wv_not, conF_b, wv_ite, tupF_eq, wv_tup, lstF_eq, wv_lst, wv_dict, sl3F_eq, sl2F_eq, sl1F_eq, wv_sl, nF_eq, wv_bi, cF_eq, wv_call, mu2F_ex, muF1_b, wv_mu, mt2F_ex, mtF1_eq, wv_mt, c2F_eq, c1F_eq, wv_nil, wv_cons, lc2F_eq, lcF_eq, wv_lc, wv_yes, wv_cond, wv_no, wv_some, pF_int, seqF_eq, wv_seq, rngF_eq, wv_rng, ofF_eq, wv_zip, wv_enum, asgF_eq, wx_asg, drF_eq, wx_drop, reF_eq, wx_ret, wx_retN, wx_nop, wx_brk, wx_cont, ifF_b, wx_ite, wx_seq, wx_wh, foF_eq, wx_for, tsF_eq, wx_asgT, paF_eq, wx_par, s3F_ex, s2F_eq, s1F_eq, wx_setIx, flat, shaped_lints1, shaped_int, shaped_bool, shaped_none, shaped_nil, shaped_nilt, shaped_tints, shaped_lints, eqv_int, eqv_bool, eqv_tints, eqv_lints, eqv_lnil, eqv_tnil, any_ints, flat_ints, ex_cond, ex_cond2, ixN, atI_0, atI_1, atI_2, atI_3, wp_ok, wp_bad, wp_exc, wp_if, flK_next, flK_ret, flK_brk, flK_cont, tK_b, lpK_next, lpK_cont, lpK_brk, lpK_ret, rnK_next, rnK_ret, wp_turn, ltK_some, lt1F_eq, lt2F_eq, stAsg_val, stAsg_own, stAsg_bor, stRet_val, stRet_own, stRet_bor, exAsgT, exPar, setO, setL, setKd, setTd, mtGet, mtIndex, mtCount, mtJoin, mtSplit, mtPart, tyOkR, mtTyOk, MT.ty, mtF, viewRV, viewRVs, O.vw, boF, coF, bAdd, bSub, bMul, bDiv, bMod, bPow, bNeg, bEq, bNe, bCmp, bIn, isIn, bIs, isIs, bIx, bRev, bSl, bi, bLen, bMax, bMin, bAbs, bInt, bStr, bTuple, bList, bSorted, bAll, bAny, bSum, bDict, vInt, bIsin, vwIs, bRng1, bRng2, bRng, valArgs, setS_eq, setK_val, setK_own, setK_no, setK_lf, setK_lq, setT, setTs, recvOk, muF, muAppend, muExtend, muPop_snoc, muPop_one, muDpop, MU.isD, wp_callV, wp_callR, wp_callT, ctJ_some, ctK_val, ctK_own, valsD, clK_int, clK_bool, clK_str, clK_none, clK_tup, clK_own, clK_lst, crK_val, crK_own, RF.wp_ok, rfE_ok, rfF_eq, rfK_exc, rfK_val, rfK_own, wv_isE, bIsE, noExc_int, noExc_bool, noExc_none, noExc_str, noExc_list, noExc_tuple, noExc_k, noExc_t, O.fz, keyD, wv_chain, ch1F_eq, ch2F_eq, ch3F_eq, evSeq, rngOf, zipOf, enumOf, startE, argS, finO, stK, ownFree, wipeE, restE, sizeLine, R.bind_ok, -Prod.exists, -Bool.exists_bool, -Prod.forall, -Bool.forall_bool, S_len, ex, S_cat]
    exact h _ _ ox (by omega)
  · simp -implicitDefEqProofs [V_val, V_own, V_bor, vK_val, vK_own, vK_no, vK_none, wv_var, wv_cst, b2F_eq, b1F_eq, wv_bin, wv_cmp, wv_ix, wv_rng2, a1F_eq, wv_neg, wv_rev, wv_isin, wv_rng1, wv_ssort, andF_b, wv_and, orF_b, wv_or, notF_b, wv_not, conF_b, wv_ite, tupF_eq, wv_tup, lstF_eq, wv_lst, wv_dict, sl3F_eq, sl2F_eq, sl1F_eq, wv_sl, nF_eq, wv_bi, cF_eq, wv_call, mu2F_ex, muF1_b, wv_mu, mt2F_ex, mtF1_eq, wv_mt, c2F_eq, c1F_eq, wv_nil, wv_cons, lc2F_eq, lcF_eq, wv_lc, wv_yes, wv_cond, wv_no, wv_some, pF_int, seqF_eq, wv_seq, rngF_eq, wv_rng, ofF_eq, wv_zip, wv_enum, asgF_eq, wx_asg, drF_eq, wx_drop, reF_eq, wx_ret, wx_retN, wx_nop, wx_brk, wx_cont, ifF_b, wx_ite, wx_seq, wx_wh, foF_eq, wx_for, tsF_eq, wx_asgT, paF_eq, wx_par, s3F_ex, s2F_eq, s1F_eq, wx_setIx, flat, shaped_lints1, shaped_int, shaped_bool, shaped_none, shaped_nil, shaped_nilt, shaped_tints, shaped_lints, eqv_int, eqv_bool, eqv_tints, eqv_lints, eqv_lnil, eqv_tnil, any_ints, flat_ints, ex_cond, ex_cond2, ixN, atI_0, atI_1, atI_2, atI_3, wp_ok, wp_bad, wp_exc, wp_if, flK_next, flK_ret, flK_brk, flK_cont, tK_b, lpK_next, lpK_cont, lpK_brk, lpK_ret, rnK_next, rnK_ret, wp_turn, ltK_some, lt1F_eq, lt2F_eq, stAsg_val, stAsg_own, stAsg_bor, stRet_val, stRet_own, stRet_bor, exAsgT, exPar, setO, setL, setKd, setTd, mtGet, mtIndex, mtCount, mtJoin, mtSplit, mtPart, tyOkR, mtTyOk, MT.ty, mtF, viewRV, viewRVs, O.vw, boF, coF, bAdd, bSub, bMul, bDiv, bMod, bPow, bNeg, bEq, bNe, bCmp, bIn, isIn, bIs, isIs, bIx, bRev, bSl, bi, bLen, bMax, bMin, bAbs, bInt, bStr, bTuple, bList, bSorted, bAll, bAny, bSum, bDict, vInt, bIsin, vwIs, bRng1, bRng2, bRng, valArgs, setS_eq, setK_val, setK_own, setK_no, setK_lf, setK_lq, setT, setTs, recvOk, muF, muAppend, muExtend, muPop_snoc, muPop_one, muDpop, MU.isD, wp_callV, wp_callR, wp_callT, ctJ_some, ctK_val, ctK_own, valsD, clK_int, clK_bool, clK_str, clK_none, clK_tup, clK_own, clK_lst, crK_val, crK_own, RF.wp_ok, rfE_ok, rfF_eq, rfK_exc, rfK_val, rfK_own, wv_isE, bIsE, noExc_int, noExc_bool, noExc_none, noExc_str, noExc_list, noExc_tuple, noExc_k, noExc_t, O.fz, keyD, wv_chain, ch1F_eq, ch2F_eq, ch3F_eq, evSeq, rngOf, zipOf, enumOf, startE, argS, finO, stK, ownFree, wipeE, restE, sizeLine, R.bind_ok, -Prod.exists, -Bool.exists_bool, -Prod.forall, -Bool.forall_bool, S_len, S_list, hC1, ec, c1, c2, c3, S_cat, l1, l2, l3, l4, l5, l6, li_col, hp, okL_nil, okL_cons]
    refine take_wp _ _ (by omega) (by omega) fun v5 s5 a5 b5 => ?_
    obtain ⟨x, ex, mx⟩ := atI_strs [" ", S [58], "o:", " o"] a5 (by simpa using b5)
    obtain ⟨ox, lx⟩ := smallT_of F7 mx
    simp only [List.map] at ex
    clear mx
    simp -implicitDefEqProofs [V_val, V_own, V_bor, vK_val, vK_own, vK_no, vK_none, wv_var, wv_cst, b2F_eq, b1F_eq, wv_bin, wv_cmp, wv_ix, wv_rng2, a1F_eq, wv_neg, wv_rev, wv_isin, wv_rng1, wv_ssort, andF_b, wv_and, orF_b, wv_or, notF_b, wv_not, conF_b, wv_ite, tupF_eq, wv_tup, lstF_eq, wv_lst, wv_dict, sl3F_eq, sl2F_eq, sl1F_eq, wv_sl, nF_eq, wv_bi, cF_eq, wv_call, mu2F_ex, muF1_b, wv_mu, mt2F_ex, mtF1_eq, wv_mt, c2F_eq, c1F_eq, wv_nil, wv_cons, lc2F_eq, lcF_eq, wv_lc, wv_yes, wv_cond, wv_no, wv_some, pF_int, seqF_eq, wv_seq, rngF_eq, wv_rng, ofF_eq, wv_zip, wv_enum, asgF_eq, wx_asg, drF_eq, wx_drop, reF_eq, wx_ret, wx_retN, wx_nop, wx_brk, wx_cont, ifF_b, wx_ite, wx_seq, wx_wh, foF_eq, wx_for, tsF_eq, wx_asgT, paF_eq, wx_par, s3F_ex, s2F_eq, s1F_eq, wx_setIx, flat, shaped_lints1, shaped_int, shaped_bool, shaped_none, shaped_nil, shaped_nilt, shaped_tints, shaped_lints, eqv_int, eqv_bool, eqv_tints, eqv_lints, eqv_lnil, eqv_tnil, any_ints, flat_ints, ex_cond, ex_cond2, ixN, atI_0, atI_1, atI_2, atI_3, wp_ok, wp_bad, wp_exc, wp_if, flK_next, flK_ret, flK_brk, flK_cont, tK_b, lpK_next, lpK_cont, lpK_brk, lpK_ret, rnK_next, rnK_ret, wp_turn, ltK_some, lt1F_eq, lt2F_eq, stAsg_val, stAsg_own, stAsg_bor, stRet_val, stRet_own, stRet_bor, exAsgT, exPar, setO, setL, setKd, setTd, mtGet, mtIndex, mtCount, mtJoin, mtSplit, mtPart, tyOkR, mtTyOk, MT.ty, mtF, viewRV, viewRVs, O.vw, boF, coF, bAdd, bSub, bMul, bDiv, bMod, bPow, bNeg, bEq, bNe, bCmp, bIn, isIn, bIs, isIs, bIx, bRev, bSl, bi, bLen, bMax, bMin, bAbs, bInt, bStr, bTuple, bList, bSorted, bAll, bAny, bSum, bDict, vInt, bIsin, vwIs, bRng1, bRng2, bRng, valArgs, setS_eq, setK_val, setK_own, setK_no, setK_lf, setK_lq, setT, setTs, recvOk, muF, muAppend, muExtend, muPop_snoc, muPop_one, muDpop, MU.isD, wp_callV, wp_callR, wp_callT, ctJ_some, ctK_val, ctK_own, valsD, clK_int, clK_bool, clK_str, clK_none, clK_tup, clK_own, clK_lst, crK_val, crK_own, RF.wp_ok, rfE_ok, rfF_eq, rfK_exc, rfK_val, rfK_own, wv_isE, bIsE, noExc_int, noExc_bool, noExc_none, noExc_str, noExc_list, noExc_tuple, noExc_k, noExc_t, O.fz, keyD, wv_chain, ch1F_eq, ch2F_eq, ch3F_eq, evSeq, rngOf, zipOf, enumOf, startE, argS, finO, stK, ownFree, wipeE, restE, sizeLine, R.bind_ok, -Prod.exists, -Bool.exists_bool, -Prod.forall, -Bool.forall_bool, S_len, ex, S_cat]
    exact ⟨by omega, h _ _ (by simp only [okL_app, ox, hc, Bool.and_self]) (by simp only [List.length_append]; omega)⟩
end BX.k92

set_option Elab.async false
set_option linter.all false
set_option maxRecDepth 100000
set_option maxHeartbeats 4000000
namespace BX.k92
open PySem PySem.Spec PyProof.Rows L2 RZ PureT
theorem same_t (l : List Int) (h : l.length ≤ 1000) : f_l_same [.val (.tuple (l.map .int)), .val (.tuple (l.map .int))] = .ok (.val (.bool true)) none := by
  refine same_ok 3 _ (⟨by rw [List.length_map]; omega, fun d hd => ?_⟩ : _ ∧ _)
  obtain ⟨x, _, rfl⟩ := List.mem_map.mp hd
  exact (⟨rfl, .int⟩ : flat (.int x) = true ∧ Sh 0 (.int x))
theorem rdT_len {cs : List Nat} (hc : okL cs = true) {r : List Int} (h : rdT cs = some r) : r.length ≤ cs.length := by
  unfold rdT at h
  split at h
  · cases h
    exact Nat.zero_le _
  · split at h
    · cases h
    · split at h
      · cases h
        obtain ⟨m, _, _, _, _, p2, _⟩ := part_S cs hc
        have h3 : ∀ f, (poss f (parP cs).2).length ≤ (parP cs).2.zipIdx.length := fun f => List.length_filterMap_le ..
        have h3 := h3
        simp only [List.length_zipIdx] at h3
        exact Nat.le_trans (h3 _) p2
      · cases h
theorem right_ok (cs : List Nat) (hc : okL cs = true) (hl : cs.length ≤ 500) : f_l_right [.val (.str (S cs)), .val (optT (rdT cs))] = .ok (.val (.bool true)) none := by
  refine RF.wp.eq (wp_run ?_)
  cases h : rdT cs with
  | none =>
    simp [c_l_right, t_l_right, V_val, V_own, V_bor, vK_val, vK_own, vK_no, vK_none, wv_var, wv_cst, b2F_eq, b1F_eq, wv_bin, wv_cmp, wv_ix, wv_rng2, a1F_eq, wv_neg, wv_rev, wv_isin, wv_rng1, wv_ssort, andF_b, wv_and, orF_b, wv_or, notF_b, wv_not, conF_b, wv_ite, tupF_eq, wv_tup, lstF_eq, wv_lst, wv_dict, sl3F_eq, sl2F_eq, sl1F_eq, wv_sl, nF_eq, wv_bi, cF_eq, wv_call, mu2F_ex, muF1_b, wv_mu, mt2F_ex, mtF1_eq, wv_mt, c2F_eq, c1F_eq, wv_nil, wv_cons, lc2F_eq, lcF_eq, wv_lc, wv_yes, wv_cond, wv_no, wv_some, pF_int, seqF_eq, wv_seq, rngF_eq, wv_rng, ofF_eq, wv_zip, wv_enum, asgF_eq, wx_asg, drF_eq, wx_drop, reF_eq, wx_ret, wx_retN, wx_nop, wx_brk, wx_cont, ifF_b, wx_ite, wx_seq, wx_wh, foF_eq, wx_for, tsF_eq, wx_asgT, paF_eq, wx_par, s3F_ex, s2F_eq, s1F_eq, wx_setIx, flat, shaped_lints1, shaped_int, shaped_bool, shaped_none, shaped_nil, shaped_nilt, shaped_tints, shaped_lints, eqv_int, eqv_bool, eqv_tints, eqv_lints, eqv_lnil, eqv_tnil, any_ints, flat_ints, ex_cond, ex_cond2, ixN, atI_0, atI_1, atI_2, atI_3, wp_ok, wp_bad, wp_exc, wp_if, flK_next, flK_ret, flK_brk, flK_cont, tK_b, lpK_next, lpK_cont, lpK_brk, lpK_ret, rnK_next, rnK_ret, wp_turn, ltK_some, lt1F_eq, lt2F_eq, stAsg_val, stAsg_own, stAsg_bor, stRet_val, stRet_own, stRet_bor, exAsgT, exPar, setO, setL, setKd, setTd, mtGet, mtIndex, mtCount, mtJoin, mtSplit, mtPart, tyOkR, mtTyOk, MT.ty, mtF, viewRV, viewRVs, O.vw, boF, coF, bAdd, bSub, bMul, bDiv, bMod, bPow, bNeg, bEq, bNe, bCmp, bIn, isIn, bIs, isIs, bIx, bRev, bSl, bi, bLen, bMax, bMin, bAbs, bInt, bStr, bTuple, bList, bSorted, bAll, bAny, bSum, bDict, vInt, bIsin, vwIs, bRng1, bRng2, bRng, valArgs, setS_eq, setK_val, setK_own, setK_no, setK_lf, setK_lq, setT, setTs, recvOk, muF, muAppend, muExtend, muPop_snoc, muPop_one, muDpop, MU.isD, wp_callV, wp_callR, wp_callT, ctJ_some, ctK_val, ctK_own, valsD, clK_int, clK_bool, clK_str, clK_none, clK_tup, clK_own, clK_lst, crK_val, crK_own, RF.wp_ok, rfE_ok, rfF_eq, rfK_exc, rfK_val, rfK_own, wv_isE, bIsE, noExc_int, noExc_bool, noExc_none, noExc_str, noExc_list, noExc_tuple, noExc_k, noExc_t, O.fz, keyD, wv_chain, ch1F_eq, ch2F_eq, ch3F_eq, evSeq, rngOf, zipOf, enumOf, startE, argS, finO, stK, ownFree, wipeE, restE, sizeLine, R.bind_ok, -Prod.exists, -Bool.exists_bool, -Prod.forall, -Bool.forall_bool, optT]
    refine rfc_wp rfl rfl ?_
    simp [V_val, V_own, V_bor, vK_val, vK_own, vK_no, vK_none, wv_var, wv_cst, b2F_eq, b1F_eq, wv_bin, wv_cmp, wv_ix, wv_rng2, a1F_eq, wv_neg, wv_rev, wv_isin, wv_rng1, wv_ssort, andF_b, wv_and, orF_b, wv_or, notF_b, wv_not, conF_b, wv_ite, tupF_eq, wv_tup, lstF_eq, wv_lst, wv_dict, sl3F_eq, sl2F_eq, sl1F_eq, wv_sl, nF_eq, wv_bi, cF_eq, wv_call, mu2F_ex, muF1_b, wv_mu, mt2F_ex, mtF1_eq, wv_mt, c2F_eq, c1F_eq, wv_nil, wv_cons, lc2F_eq, lcF_eq, wv_lc, wv_yes, wv_cond, wv_no, wv_some, pF_int, seqF_eq, wv_seq, rngF_eq, wv_rng, ofF_eq, wv_zip, wv_enum, asgF_eq, wx_asg, drF_eq, wx_drop, reF_eq, wx_ret, wx_retN, wx_nop, wx_brk, wx_cont, ifF_b, wx_ite, wx_seq, wx_wh, foF_eq, wx_for, tsF_eq, wx_asgT, paF_eq, wx_par, s3F_ex, s2F_eq, s1F_eq, wx_setIx, flat, shaped_lints1, shaped_int, shaped_bool, shaped_none, shaped_nil, shaped_nilt, shaped_tints, shaped_lints, eqv_int, eqv_bool, eqv_tints, eqv_lints, eqv_lnil, eqv_tnil, any_ints, flat_ints, ex_cond, ex_cond2, ixN, atI_0, atI_1, atI_2, atI_3, wp_ok, wp_bad, wp_exc, wp_if, flK_next, flK_ret, flK_brk, flK_cont, tK_b, lpK_next, lpK_cont, lpK_brk, lpK_ret, rnK_next, rnK_ret, wp_turn, ltK_some, lt1F_eq, lt2F_eq, stAsg_val, stAsg_own, stAsg_bor, stRet_val, stRet_own, stRet_bor, exAsgT, exPar, setO, setL, setKd, setTd, mtGet, mtIndex, mtCount, mtJoin, mtSplit, mtPart, tyOkR, mtTyOk, MT.ty, mtF, viewRV, viewRVs, O.vw, boF, coF, bAdd, bSub, bMul, bDiv, bMod, bPow, bNeg, bEq, bNe, bCmp, bIn, isIn, bIs, isIs, bIx, bRev, bSl, bi, bLen, bMax, bMin, bAbs, bInt, bStr, bTuple, bList, bSorted, bAll, bAny, bSum, bDict, vInt, bIsin, vwIs, bRng1, bRng2, bRng, valArgs, setS_eq, setK_val, setK_own, setK_no, setK_lf, setK_lq, setT, setTs, recvOk, muF, muAppend, muExtend, muPop_snoc, muPop_one, muDpop, MU.isD, wp_callV, wp_callR, wp_callT, ctJ_some, ctK_val, ctK_own, valsD, clK_int, clK_bool, clK_str, clK_none, clK_tup, clK_own, clK_lst, crK_val, crK_own, RF.wp_ok, rfE_ok, rfF_eq, rfK_exc, rfK_val, rfK_own, wv_isE, bIsE, noExc_int, noExc_bool, noExc_none, noExc_str, noExc_list, noExc_tuple, noExc_k, noExc_t, O.fz, keyD, wv_chain, ch1F_eq, ch2F_eq, ch3F_eq, evSeq, rngOf, zipOf, enumOf, startE, argS, finO, stK, ownFree, wipeE, restE, sizeLine, R.bind_ok, -Prod.exists, -Bool.exists_bool, -Prod.forall, -Bool.forall_bool, row_read_exc cs hc hl h, refd4]
    rfl
  | some r =>
    have := rdT_len hc h
    simp [c_l_right, t_l_right, V_val, V_own, V_bor, vK_val, vK_own, vK_no, vK_none, wv_var, wv_cst, b2F_eq, b1F_eq, wv_bin, wv_cmp, wv_ix, wv_rng2, a1F_eq, wv_neg, wv_rev, wv_isin, wv_rng1, wv_ssort, andF_b, wv_and, orF_b, wv_or, notF_b, wv_not, conF_b, wv_ite, tupF_eq, wv_tup, lstF_eq, wv_lst, wv_dict, sl3F_eq, sl2F_eq, sl1F_eq, wv_sl, nF_eq, wv_bi, cF_eq, wv_call, mu2F_ex, muF1_b, wv_mu, mt2F_ex, mtF1_eq, wv_mt, c2F_eq, c1F_eq, wv_nil, wv_cons, lc2F_eq, lcF_eq, wv_lc, wv_yes, wv_cond, wv_no, wv_some, pF_int, seqF_eq, wv_seq, rngF_eq, wv_rng, ofF_eq, wv_zip, wv_enum, asgF_eq, wx_asg, drF_eq, wx_drop, reF_eq, wx_ret, wx_retN, wx_nop, wx_brk, wx_cont, ifF_b, wx_ite, wx_seq, wx_wh, foF_eq, wx_for, tsF_eq, wx_asgT, paF_eq, wx_par, s3F_ex, s2F_eq, s1F_eq, wx_setIx, flat, shaped_lints1, shaped_int, shaped_bool, shaped_none, shaped_nil, shaped_nilt, shaped_tints, shaped_lints, eqv_int, eqv_bool, eqv_tints, eqv_lints, eqv_lnil, eqv_tnil, any_ints, flat_ints, ex_cond, ex_cond2, ixN, atI_0, atI_1, atI_2, atI_3, wp_ok, wp_bad, wp_exc, wp_if, flK_next, flK_ret, flK_brk, flK_cont, tK_b, lpK_next, lpK_cont, lpK_brk, lpK_ret, rnK_next, rnK_ret, wp_turn, ltK_some, lt1F_eq, lt2F_eq, stAsg_val, stAsg_own, stAsg_bor, stRet_val, stRet_own, stRet_bor, exAsgT, exPar, setO, setL, setKd, setTd, mtGet, mtIndex, mtCount, mtJoin, mtSplit, mtPart, tyOkR, mtTyOk, MT.ty, mtF, viewRV, viewRVs, O.vw, boF, coF, bAdd, bSub, bMul, bDiv, bMod, bPow, bNeg, bEq, bNe, bCmp, bIn, isIn, bIs, isIs, bIx, bRev, bSl, bi, bLen, bMax, bMin, bAbs, bInt, bStr, bTuple, bList, bSorted, bAll, bAny, bSum, bDict, vInt, bIsin, vwIs, bRng1, bRng2, bRng, valArgs, setS_eq, setK_val, setK_own, setK_no, setK_lf, setK_lq, setT, setTs, recvOk, muF, muAppend, muExtend, muPop_snoc, muPop_one, muDpop, MU.isD, wp_callV, wp_callR, wp_callT, ctJ_some, ctK_val, ctK_own, valsD, clK_int, clK_bool, clK_str, clK_none, clK_tup, clK_own, clK_lst, crK_val, crK_own, RF.wp_ok, rfE_ok, rfF_eq, rfK_exc, rfK_val, rfK_own, wv_isE, bIsE, noExc_int, noExc_bool, noExc_none, noExc_str, noExc_list, noExc_tuple, noExc_k, noExc_t, O.fz, keyD, wv_chain, ch1F_eq, ch2F_eq, ch3F_eq, evSeq, rngOf, zipOf, enumOf, startE, argS, finO, stK, ownFree, wipeE, restE, sizeLine, R.bind_ok, -Prod.exists, -Bool.exists_bool, -Prod.forall, -Bool.forall_bool, optT, row_read_some cs hc hl r h, same_t r (by omega)]
theorem row_read_odd (d : D) (h : noExc (.d d) = true) (h2 : ∀ z, d ≠ .str z) : f_row_read [.val d] = .exc "BadNote" none := by
  refine run_exc (ds := [d]) (xp_seq (xp_ite ?_))
  cases d with
  | str z => exact absurd rfl (h2 z)
  | _ =>
    simp [t_row_read, V_val, V_own, V_bor, vK_val, vK_own, vK_no, vK_none, wv_var, wv_cst, b2F_eq, b1F_eq, wv_bin, wv_cmp, wv_ix, wv_rng2, a1F_eq, wv_neg, wv_rev, wv_isin, wv_rng1, wv_ssort, andF_b, wv_and, orF_b, wv_or, notF_b, wv_not, conF_b, wv_ite, tupF_eq, wv_tup, lstF_eq, wv_lst, wv_dict, sl3F_eq, sl2F_eq, sl1F_eq, wv_sl, nF_eq, wv_bi, cF_eq, wv_call, mu2F_ex, muF1_b, wv_mu, mt2F_ex, mtF1_eq, wv_mt, c2F_eq, c1F_eq, wv_nil, wv_cons, lc2F_eq, lcF_eq, wv_lc, wv_yes, wv_cond, wv_no, wv_some, pF_int, seqF_eq, wv_seq, rngF_eq, wv_rng, ofF_eq, wv_zip, wv_enum, asgF_eq, wx_asg, drF_eq, wx_drop, reF_eq, wx_ret, wx_retN, wx_nop, wx_brk, wx_cont, ifF_b, wx_ite, wx_seq, wx_wh, foF_eq, wx_for, tsF_eq, wx_asgT, paF_eq, wx_par, s3F_ex, s2F_eq, s1F_eq, wx_setIx, flat, shaped_lints1, shaped_int, shaped_bool, shaped_none, shaped_nil, shaped_nilt, shaped_tints, shaped_lints, eqv_int, eqv_bool, eqv_tints, eqv_lints, eqv_lnil, eqv_tnil, any_ints, flat_ints, ex_cond, ex_cond2, ixN, atI_0, atI_1, atI_2, atI_3, wp_ok, wp_bad, wp_exc, wp_if, flK_next, flK_ret, flK_brk, flK_cont, tK_b, lpK_next, lpK_cont, lpK_brk, lpK_ret, rnK_next, rnK_ret, wp_turn, ltK_some, lt1F_eq, lt2F_eq, stAsg_val, stAsg_own, stAsg_bor, stRet_val, stRet_own, stRet_bor, exAsgT, exPar, setO, setL, setKd, setTd, mtGet, mtIndex, mtCount, mtJoin, mtSplit, mtPart, tyOkR, mtTyOk, MT.ty, mtF, viewRV, viewRVs, O.vw, boF, coF, bAdd, bSub, bMul, bDiv, bMod, bPow, bNeg, bEq, bNe, bCmp, bIn, isIn, bIs, isIs, bIx, bRev, bSl, bi, bLen, bMax, bMin, bAbs, bInt, bStr, bTuple, bList, bSorted, bAll, bAny, bSum, bDict, vInt, bIsin, vwIs, bRng1, bRng2, bRng, valArgs, setS_eq, setK_val, setK_own, setK_no, setK_lf, setK_lq, setT, setTs, recvOk, muF, muAppend, muExtend, muPop_snoc, muPop_one, muDpop, MU.isD, wp_callV, wp_callR, wp_callT, ctJ_some, ctK_val, ctK_own, valsD, clK_int, clK_bool, clK_str, clK_none, clK_tup, clK_own, clK_lst, crK_val, crK_own, RF.wp_ok, rfE_ok, rfF_eq, rfK_exc, rfK_val, rfK_own, wv_isE, bIsE, noExc_int, noExc_bool, noExc_none, noExc_str, noExc_list, noExc_tuple, noExc_k, noExc_t, O.fz, keyD, wv_chain, ch1F_eq, ch2F_eq, ch3F_eq, evSeq, rngOf, zipOf, enumOf, startE, argS, finO, stK, ownFree, wipeE, restE, sizeLine, R.bind_ok, -Prod.exists, -Bool.exists_bool, -Prod.forall, -Bool.forall_bool, h]
    exact xp_seq (xp_raise rfl)
theorem rowT_okL (row : List Int) : okL (rowT row) = true := by
  cases row with
  | nil => rfl
  | cons a r =>
    show okL (itx a ++ 58 :: cells (a :: r) a ((a :: r).getLastD 0)) = true
    rw [okL_app, okL_cons, okL_of (itx_lt _), okL_of fun x hx => ?_]
    · rfl
    · unfold cells at hx
      obtain ⟨p, _, rfl⟩ := List.mem_map.mp hx
      split <;> decide
/-- what is asked of a row here -/
def Ro (row : List Int) : Prop := row ≠ [] → -20 ≤ row.headD 0 ∧ row.headD 0 ≤ 96 ∧ row.headD 0 ≤ row.getLastD 0 ∧ row.getLastD 0 ≤ row.headD 0 + 201
theorem text_ok {row : List Int} (h : Ro row) : f_l_row_text [.val (.tuple (row.map .int))] = .ok (.val (.str (S (rowT row)))) none ∧ (rowT row).length ≤ 230 := by
  by_cases hne : row = []
  · subst hne
    exact ⟨l_row_text_e, by decide⟩
  · have h1 := h hne
    have w : Wd row := ⟨hne, by omega, by omega, by omega⟩
    refine ⟨l_row_text_n row w, ?_⟩
    rw [rowT_cons hne, List.length_append, List.length_cons, cells_len]
    have := itx_len (n := row.headD 0) (by omega)
    omega
def lawRest : CS := match c_law with
  | .seq (.for _ _ (.seq _ (.seq _ (.seq _ r)))) _ => r
  | _ => .nop
def lawHead (r : CS) : CS := match c_law with
  | .seq (.for t i (.seq a (.seq b (.seq c _)))) z => .seq (.for t i (.seq a (.seq b (.seq c r)))) z
  | x => x
theorem law_split (as : List Arg) : f_law as = runFn t_law wfN (lawHead lawRest) 7 as := rfl
theorem tail_ok (ns : List Int) (k : Int) (s : Int × Bool) (row : List Int) (x4 x5 x6 : LQ) (hr : Ro row) {T : Fl → Env → Prop} (hT : ∀ (s' : Int × Bool) (y4 y5 y6 : LQ), T .next [some (.val (.list (ns.map .int))), some (.val (.int k)), some (.own .fre (stO s')), some (.val (.tuple (row.map .int))), lq y4, lq y5, lq y6]) :
    (exec t_law wfN lawRest [some (.val (.list (ns.map .int))), some (.val (.int k)), some (.own .fre (stO s)), some (.val (.tuple (row.map .int))), lq x4, lq x5, lq x6]).wp T := by
  obtain ⟨t1, t2⟩ := text_ok hr
  simp [lawRest, c_law, t_law, V_val, V_own, V_bor, vK_val, vK_own, vK_no, vK_none, wv_var, wv_cst, b2F_eq, b1F_eq, wv_bin, wv_cmp, wv_ix, wv_rng2, a1F_eq, wv_neg, wv_rev, wv_isin, wv_rng1, wv_ssort, andF_b, wv_and, orF_b, wv_or, notF_b, wv_not, conF_b, wv_ite, tupF_eq, wv_tup, lstF_eq, wv_lst, wv_dict, sl3F_eq, sl2F_eq, sl1F_eq, wv_sl, nF_eq, wv_bi, cF_eq, wv_call, mu2F_ex, muF1_b, wv_mu, mt2F_ex, mtF1_eq, wv_mt, c2F_eq, c1F_eq, wv_nil, wv_cons, lc2F_eq, lcF_eq, wv_lc, wv_yes, wv_cond, wv_no, wv_some, pF_int, seqF_eq, wv_seq, rngF_eq, wv_rng, ofF_eq, wv_zip, wv_enum, asgF_eq, wx_asg, drF_eq, wx_drop, reF_eq, wx_ret, wx_retN, wx_nop, wx_brk, wx_cont, ifF_b, wx_ite, wx_seq, wx_wh, foF_eq, wx_for, tsF_eq, wx_asgT, paF_eq, wx_par, s3F_ex, s2F_eq, s1F_eq, wx_setIx, flat, shaped_lints1, shaped_int, shaped_bool, shaped_none, shaped_nil, shaped_nilt, shaped_tints, shaped_lints, eqv_int, eqv_bool, eqv_tints, eqv_lints, eqv_lnil, eqv_tnil, any_ints, flat_ints, ex_cond, ex_cond2, ixN, atI_0, atI_1, atI_2, atI_3, wp_ok, wp_bad, wp_exc, wp_if, flK_next, flK_ret, flK_brk, flK_cont, tK_b, lpK_next, lpK_cont, lpK_brk, lpK_ret, rnK_next, rnK_ret, wp_turn, ltK_some, lt1F_eq, lt2F_eq, stAsg_val, stAsg_own, stAsg_bor, stRet_val, stRet_own, stRet_bor, exAsgT, exPar, setO, setL, setKd, setTd, mtGet, mtIndex, mtCount, mtJoin, mtSplit, mtPart, tyOkR, mtTyOk, MT.ty, mtF, viewRV, viewRVs, O.vw, boF, coF, bAdd, bSub, bMul, bDiv, bMod, bPow, bNeg, bEq, bNe, bCmp, bIn, isIn, bIs, isIs, bIx, bRev, bSl, bi, bLen, bMax, bMin, bAbs, bInt, bStr, bTuple, bList, bSorted, bAll, bAny, bSum, bDict, vInt, bIsin, vwIs, bRng1, bRng2, bRng, valArgs, setS_eq, setK_val, setK_own, setK_no, setK_lf, setK_lq, setT, setTs, recvOk, muF, muAppend, muExtend, muPop_snoc, muPop_one, muDpop, MU.isD, wp_callV, wp_callR, wp_callT, ctJ_some, ctK_val, ctK_own, valsD, clK_int, clK_bool, clK_str, clK_none, clK_tup, clK_own, clK_lst, crK_val, crK_own, RF.wp_ok, rfE_ok, rfF_eq, rfK_exc, rfK_val, rfK_own, wv_isE, bIsE, noExc_int, noExc_bool, noExc_none, noExc_str, noExc_list, noExc_tuple, noExc_k, noExc_t, O.fz, keyD, wv_chain, ch1F_eq, ch2F_eq, ch3F_eq, evSeq, rngOf, zipOf, enumOf, startE, argS, finO, stK, ownFree, wipeE, restE, sizeLine, R.bind_ok, -Prod.exists, -Bool.exists_bool, -Prod.forall, -Bool.forall_bool, t1, rngOk]
  refine wp_for (fun xs ρ => ∃ (st : Int × Bool) (cs : List Nat) (x5 : LQ), ρ = [some (.val (.list (ns.map .int))), some (.val (.int k)), some (.own .fre (stO st)), some (.val (.tuple (row.map .int))), some (.val (.str (S cs))), lq x5, lq x6] ∧ okL cs = true ∧ cs.length + 12 * xs.length ≤ 270) ?_ ?_ ?_
  · exact ⟨s, rowT row, x5, rfl, rowT_okL row, by simp [rangeL]; omega⟩
  · rintro x xs ρ ⟨st, cs, x5, rfl, hc, hl⟩
    simp at hl
    have du := due_ok cs hc (by omega)
    have ri := right_ok cs hc (by omega)
    cases e : rdT cs with
    | none =>
      rw [e] at du ri
      simp only [optT] at du ri
      simp [V_val, V_own, V_bor, vK_val, vK_own, vK_no, vK_none, wv_var, wv_cst, b2F_eq, b1F_eq, wv_bin, wv_cmp, wv_ix, wv_rng2, a1F_eq, wv_neg, wv_rev, wv_isin, wv_rng1, wv_ssort, andF_b, wv_and, orF_b, wv_or, notF_b, wv_not, conF_b, wv_ite, tupF_eq, wv_tup, lstF_eq, wv_lst, wv_dict, sl3F_eq, sl2F_eq, sl1F_eq, wv_sl, nF_eq, wv_bi, cF_eq, wv_call, mu2F_ex, muF1_b, wv_mu, mt2F_ex, mtF1_eq, wv_mt, c2F_eq, c1F_eq, wv_nil, wv_cons, lc2F_eq, lcF_eq, wv_lc, wv_yes, wv_cond, wv_no, wv_some, pF_int, seqF_eq, wv_seq, rngF_eq, wv_rng, ofF_eq, wv_zip, wv_enum, asgF_eq, wx_asg, drF_eq, wx_drop, reF_eq, wx_ret, wx_retN, wx_nop, wx_brk, wx_cont, ifF_b, wx_ite, wx_seq, wx_wh, foF_eq, wx_for, tsF_eq, wx_asgT, paF_eq, wx_par, s3F_ex, s2F_eq, s1F_eq, wx_setIx, flat, shaped_lints1, shaped_int, shaped_bool, shaped_none, shaped_nil, shaped_nilt, shaped_tints, shaped_lints, eqv_int, eqv_bool, eqv_tints, eqv_lints, eqv_lnil, eqv_tnil, any_ints, flat_ints, ex_cond, ex_cond2, ixN, atI_0, atI_1, atI_2, atI_3, wp_ok, wp_bad, wp_exc, wp_if, flK_next, flK_ret, flK_brk, flK_cont, tK_b, lpK_next, lpK_cont, lpK_brk, lpK_ret, rnK_next, rnK_ret, wp_turn, ltK_some, lt1F_eq, lt2F_eq, stAsg_val, stAsg_own, stAsg_bor, stRet_val, stRet_own, stRet_bor, exAsgT, exPar, setO, setL, setKd, setTd, mtGet, mtIndex, mtCount, mtJoin, mtSplit, mtPart, tyOkR, mtTyOk, MT.ty, mtF, viewRV, viewRVs, O.vw, boF, coF, bAdd, bSub, bMul, bDiv, bMod, bPow, bNeg, bEq, bNe, bCmp, bIn, isIn, bIs, isIs, bIx, bRev, bSl, bi, bLen, bMax, bMin, bAbs, bInt, bStr, bTuple, bList, bSorted, bAll, bAny, bSum, bDict, vInt, bIsin, vwIs, bRng1, bRng2, bRng, valArgs, setS_eq, setK_val, setK_own, setK_no, setK_lf, setK_lq, setT, setTs, recvOk, muF, muAppend, muExtend, muPop_snoc, muPop_one, muDpop, MU.isD, wp_callV, wp_callR, wp_callT, ctJ_some, ctK_val, ctK_own, valsD, clK_int, clK_bool, clK_str, clK_none, clK_tup, clK_own, clK_lst, crK_val, crK_own, RF.wp_ok, rfE_ok, rfF_eq, rfK_exc, rfK_val, rfK_own, wv_isE, bIsE, noExc_int, noExc_bool, noExc_none, noExc_str, noExc_list, noExc_tuple, noExc_k, noExc_t, O.fz, keyD, wv_chain, ch1F_eq, ch2F_eq, ch3F_eq, evSeq, rngOf, zipOf, enumOf, startE, argS, finO, stK, ownFree, wipeE, restE, sizeLine, R.bind_ok, -Prod.exists, -Bool.exists_bool, -Prod.forall, -Bool.forall_bool, du, ri]
      refine bent_wp st cs hc (by omega) fun ds s' hd ld => ?_
      simp [V_val, V_own, V_bor, vK_val, vK_own, vK_no, vK_none, wv_var, wv_cst, b2F_eq, b1F_eq, wv_bin, wv_cmp, wv_ix, wv_rng2, a1F_eq, wv_neg, wv_rev, wv_isin, wv_rng1, wv_ssort, andF_b, wv_and, orF_b, wv_or, notF_b, wv_not, conF_b, wv_ite, tupF_eq, wv_tup, lstF_eq, wv_lst, wv_dict, sl3F_eq, sl2F_eq, sl1F_eq, wv_sl, nF_eq, wv_bi, cF_eq, wv_call, mu2F_ex, muF1_b, wv_mu, mt2F_ex, mtF1_eq, wv_mt, c2F_eq, c1F_eq, wv_nil, wv_cons, lc2F_eq, lcF_eq, wv_lc, wv_yes, wv_cond, wv_no, wv_some, pF_int, seqF_eq, wv_seq, rngF_eq, wv_rng, ofF_eq, wv_zip, wv_enum, asgF_eq, wx_asg, drF_eq, wx_drop, reF_eq, wx_ret, wx_retN, wx_nop, wx_brk, wx_cont, ifF_b, wx_ite, wx_seq, wx_wh, foF_eq, wx_for, tsF_eq, wx_asgT, paF_eq, wx_par, s3F_ex, s2F_eq, s1F_eq, wx_setIx, flat, shaped_lints1, shaped_int, shaped_bool, shaped_none, shaped_nil, shaped_nilt, shaped_tints, shaped_lints, eqv_int, eqv_bool, eqv_tints, eqv_lints, eqv_lnil, eqv_tnil, any_ints, flat_ints, ex_cond, ex_cond2, ixN, atI_0, atI_1, atI_2, atI_3, wp_ok, wp_bad, wp_exc, wp_if, flK_next, flK_ret, flK_brk, flK_cont, tK_b, lpK_next, lpK_cont, lpK_brk, lpK_ret, rnK_next, rnK_ret, wp_turn, ltK_some, lt1F_eq, lt2F_eq, stAsg_val, stAsg_own, stAsg_bor, stRet_val, stRet_own, stRet_bor, exAsgT, exPar, setO, setL, setKd, setTd, mtGet, mtIndex, mtCount, mtJoin, mtSplit, mtPart, tyOkR, mtTyOk, MT.ty, mtF, viewRV, viewRVs, O.vw, boF, coF, bAdd, bSub, bMul, bDiv, bMod, bPow, bNeg, bEq, bNe, bCmp, bIn, isIn, bIs, isIs, bIx, bRev, bSl, bi, bLen, bMax, bMin, bAbs, bInt, bStr, bTuple, bList, bSorted, bAll, bAny, bSum, bDict, vInt, bIsin, vwIs, bRng1, bRng2, bRng, valArgs, setS_eq, setK_val, setK_own, setK_no, setK_lf, setK_lq, setT, setTs, recvOk, muF, muAppend, muExtend, muPop_snoc, muPop_one, muDpop, MU.isD, wp_callV, wp_callR, wp_callT, ctJ_some, ctK_val, ctK_own, valsD, clK_int, clK_bool, clK_str, clK_none, clK_tup, clK_own, clK_lst, crK_val, crK_own, RF.wp_ok, rfE_ok, rfF_eq, rfK_exc, rfK_val, rfK_own, wv_isE, bIsE, noExc_int, noExc_bool, noExc_none, noExc_str, noExc_list, noExc_tuple, noExc_k, noExc_t, O.fz, keyD, wv_chain, ch1F_eq, ch2F_eq, ch3F_eq, evSeq, rngOf, zipOf, enumOf, startE, argS, finO, stK, ownFree, wipeE, restE, sizeLine, R.bind_ok, -Prod.exists, -Bool.exists_bool, -Prod.forall, -Bool.forall_bool]
      exact ⟨s', ds, ⟨rfl, rfl, .d _, rfl⟩, hd, by omega⟩
    | some r =>
      rw [e] at du ri
      simp only [optT] at du ri
      simp [V_val, V_own, V_bor, vK_val, vK_own, vK_no, vK_none, wv_var, wv_cst, b2F_eq, b1F_eq, wv_bin, wv_cmp, wv_ix, wv_rng2, a1F_eq, wv_neg, wv_rev, wv_isin, wv_rng1, wv_ssort, andF_b, wv_and, orF_b, wv_or, notF_b, wv_not, conF_b, wv_ite, tupF_eq, wv_tup, lstF_eq, wv_lst, wv_dict, sl3F_eq, sl2F_eq, sl1F_eq, wv_sl, nF_eq, wv_bi, cF_eq, wv_call, mu2F_ex, muF1_b, wv_mu, mt2F_ex, mtF1_eq, wv_mt, c2F_eq, c1F_eq, wv_nil, wv_cons, lc2F_eq, lcF_eq, wv_lc, wv_yes, wv_cond, wv_no, wv_some, pF_int, seqF_eq, wv_seq, rngF_eq, wv_rng, ofF_eq, wv_zip, wv_enum, asgF_eq, wx_asg, drF_eq, wx_drop, reF_eq, wx_ret, wx_retN, wx_nop, wx_brk, wx_cont, ifF_b, wx_ite, wx_seq, wx_wh, foF_eq, wx_for, tsF_eq, wx_asgT, paF_eq, wx_par, s3F_ex, s2F_eq, s1F_eq, wx_setIx, flat, shaped_lints1, shaped_int, shaped_bool, shaped_none, shaped_nil, shaped_nilt, shaped_tints, shaped_lints, eqv_int, eqv_bool, eqv_tints, eqv_lints, eqv_lnil, eqv_tnil, any_ints, flat_ints, ex_cond, ex_cond2, ixN, atI_0, atI_1, atI_2, atI_3, wp_ok, wp_bad, wp_exc, wp_if, flK_next, flK_ret, flK_brk, flK_cont, tK_b, lpK_next, lpK_cont, lpK_brk, lpK_ret, rnK_next, rnK_ret, wp_turn, ltK_some, lt1F_eq, lt2F_eq, stAsg_val, stAsg_own, stAsg_bor, stRet_val, stRet_own, stRet_bor, exAsgT, exPar, setO, setL, setKd, setTd, mtGet, mtIndex, mtCount, mtJoin, mtSplit, mtPart, tyOkR, mtTyOk, MT.ty, mtF, viewRV, viewRVs, O.vw, boF, coF, bAdd, bSub, bMul, bDiv, bMod, bPow, bNeg, bEq, bNe, bCmp, bIn, isIn, bIs, isIs, bIx, bRev, bSl, bi, bLen, bMax, bMin, bAbs, bInt, bStr, bTuple, bList, bSorted, bAll, bAny, bSum, bDict, vInt, bIsin, vwIs, bRng1, bRng2, bRng, valArgs, setS_eq, setK_val, setK_own, setK_no, setK_lf, setK_lq, setT, setTs, recvOk, muF, muAppend, muExtend, muPop_snoc, muPop_one, muDpop, MU.isD, wp_callV, wp_callR, wp_callT, ctJ_some, ctK_val, ctK_own, valsD, clK_int, clK_bool, clK_str, clK_none, clK_tup, clK_own, clK_lst, crK_val, crK_own, RF.wp_ok, rfE_ok, rfF_eq, rfK_exc, rfK_val, rfK_own, wv_isE, bIsE, noExc_int, noExc_bool, noExc_none, noExc_str, noExc_list, noExc_tuple, noExc_k, noExc_t, O.fz, keyD, wv_chain, ch1F_eq, ch2F_eq, ch3F_eq, evSeq, rngOf, zipOf, enumOf, startE, argS, finO, stK, ownFree, wipeE, restE, sizeLine, R.bind_ok, -Prod.exists, -Bool.exists_bool, -Prod.forall, -Bool.forall_bool, du, ri]
      refine bent_wp st cs hc (by omega) fun ds s' hd ld => ?_
      simp [V_val, V_own, V_bor, vK_val, vK_own, vK_no, vK_none, wv_var, wv_cst, b2F_eq, b1F_eq, wv_bin, wv_cmp, wv_ix, wv_rng2, a1F_eq, wv_neg, wv_rev, wv_isin, wv_rng1, wv_ssort, andF_b, wv_and, orF_b, wv_or, notF_b, wv_not, conF_b, wv_ite, tupF_eq, wv_tup, lstF_eq, wv_lst, wv_dict, sl3F_eq, sl2F_eq, sl1F_eq, wv_sl, nF_eq, wv_bi, cF_eq, wv_call, mu2F_ex, muF1_b, wv_mu, mt2F_ex, mtF1_eq, wv_mt, c2F_eq, c1F_eq, wv_nil, wv_cons, lc2F_eq, lcF_eq, wv_lc, wv_yes, wv_cond, wv_no, wv_some, pF_int, seqF_eq, wv_seq, rngF_eq, wv_rng, ofF_eq, wv_zip, wv_enum, asgF_eq, wx_asg, drF_eq, wx_drop, reF_eq, wx_ret, wx_retN, wx_nop, wx_brk, wx_cont, ifF_b, wx_ite, wx_seq, wx_wh, foF_eq, wx_for, tsF_eq, wx_asgT, paF_eq, wx_par, s3F_ex, s2F_eq, s1F_eq, wx_setIx, flat, shaped_lints1, shaped_int, shaped_bool, shaped_none, shaped_nil, shaped_nilt, shaped_tints, shaped_lints, eqv_int, eqv_bool, eqv_tints, eqv_lints, eqv_lnil, eqv_tnil, any_ints, flat_ints, ex_cond, ex_cond2, ixN, atI_0, atI_1, atI_2, atI_3, wp_ok, wp_bad, wp_exc, wp_if, flK_next, flK_ret, flK_brk, flK_cont, tK_b, lpK_next, lpK_cont, lpK_brk, lpK_ret, rnK_next, rnK_ret, wp_turn, ltK_some, lt1F_eq, lt2F_eq, stAsg_val, stAsg_own, stAsg_bor, stRet_val, stRet_own, stRet_bor, exAsgT, exPar, setO, setL, setKd, setTd, mtGet, mtIndex, mtCount, mtJoin, mtSplit, mtPart, tyOkR, mtTyOk, MT.ty, mtF, viewRV, viewRVs, O.vw, boF, coF, bAdd, bSub, bMul, bDiv, bMod, bPow, bNeg, bEq, bNe, bCmp, bIn, isIn, bIs, isIs, bIx, bRev, bSl, bi, bLen, bMax, bMin, bAbs, bInt, bStr, bTuple, bList, bSorted, bAll, bAny, bSum, bDict, vInt, bIsin, vwIs, bRng1, bRng2, bRng, valArgs, setS_eq, setK_val, setK_own, setK_no, setK_lf, setK_lq, setT, setTs, recvOk, muF, muAppend, muExtend, muPop_snoc, muPop_one, muDpop, MU.isD, wp_callV, wp_callR, wp_callT, ctJ_some, ctK_val, ctK_own, valsD, clK_int, clK_bool, clK_str, clK_none, clK_tup, clK_own, clK_lst, crK_val, crK_own, RF.wp_ok, rfE_ok, rfF_eq, rfK_exc, rfK_val, rfK_own, wv_isE, bIsE, noExc_int, noExc_bool, noExc_none, noExc_str, noExc_list, noExc_tuple, noExc_k, noExc_t, O.fz, keyD, wv_chain, ch1F_eq, ch2F_eq, ch3F_eq, evSeq, rngOf, zipOf, enumOf, startE, argS, finO, stK, ownFree, wipeE, restE, sizeLine, R.bind_ok, -Prod.exists, -Bool.exists_bool, -Prod.forall, -Bool.forall_bool]
      exact ⟨s', ds, ⟨rfl, rfl, .d _, rfl⟩, hd, by omega⟩
  · rintro ρ ⟨st, cs, x5, rfl, hc, hl⟩
    simp [V_val, V_own, V_bor, vK_val, vK_own, vK_no, vK_none, wv_var, wv_cst, b2F_eq, b1F_eq, wv_bin, wv_cmp, wv_ix, wv_rng2, a1F_eq, wv_neg, wv_rev, wv_isin, wv_rng1, wv_ssort, andF_b, wv_and, orF_b, wv_or, notF_b, wv_not, conF_b, wv_ite, tupF_eq, wv_tup, lstF_eq, wv_lst, wv_dict, sl3F_eq, sl2F_eq, sl1F_eq, wv_sl, nF_eq, wv_bi, cF_eq, wv_call, mu2F_ex, muF1_b, wv_mu, mt2F_ex, mtF1_eq, wv_mt, c2F_eq, c1F_eq, wv_nil, wv_cons, lc2F_eq, lcF_eq, wv_lc, wv_yes, wv_cond, wv_no, wv_some, pF_int, seqF_eq, wv_seq, rngF_eq, wv_rng, ofF_eq, wv_zip, wv_enum, asgF_eq, wx_asg, drF_eq, wx_drop, reF_eq, wx_ret, wx_retN, wx_nop, wx_brk, wx_cont, ifF_b, wx_ite, wx_seq, wx_wh, foF_eq, wx_for, tsF_eq, wx_asgT, paF_eq, wx_par, s3F_ex, s2F_eq, s1F_eq, wx_setIx, flat, shaped_lints1, shaped_int, shaped_bool, shaped_none, shaped_nil, shaped_nilt, shaped_tints, shaped_lints, eqv_int, eqv_bool, eqv_tints, eqv_lints, eqv_lnil, eqv_tnil, any_ints, flat_ints, ex_cond, ex_cond2, ixN, atI_0, atI_1, atI_2, atI_3, wp_ok, wp_bad, wp_exc, wp_if, flK_next, flK_ret, flK_brk, flK_cont, tK_b, lpK_next, lpK_cont, lpK_brk, lpK_ret, rnK_next, rnK_ret, wp_turn, ltK_some, lt1F_eq, lt2F_eq, stAsg_val, stAsg_own, stAsg_bor, stRet_val, stRet_own, stRet_bor, exAsgT, exPar, setO, setL, setKd, setTd, mtGet, mtIndex, mtCount, mtJoin, mtSplit, mtPart, tyOkR, mtTyOk, MT.ty, mtF, viewRV, viewRVs, O.vw, boF, coF, bAdd, bSub, bMul, bDiv, bMod, bPow, bNeg, bEq, bNe, bCmp, bIn, isIn, bIs, isIs, bIx, bRev, bSl, bi, bLen, bMax, bMin, bAbs, bInt, bStr, bTuple, bList, bSorted, bAll, bAny, bSum, bDict, vInt, bIsin, vwIs, bRng1, bRng2, bRng, valArgs, setS_eq, setK_val, setK_own, setK_no, setK_lf, setK_lq, setT, setTs, recvOk, muF, muAppend, muExtend, muPop_snoc, muPop_one, muDpop, MU.isD, wp_callV, wp_callR, wp_callT, ctJ_some, ctK_val, ctK_own, valsD, clK_int, clK_bool, clK_str, clK_none, clK_tup, clK_own, clK_lst, crK_val, crK_own, RF.wp_ok, rfE_ok, rfF_eq, rfK_exc, rfK_val, rfK_own, wv_isE, bIsE, noExc_int, noExc_bool, noExc_none, noExc_str, noExc_list, noExc_tuple, noExc_k, noExc_t, O.fz, keyD, wv_chain, ch1F_eq, ch2F_eq, ch3F_eq, evSeq, rngOf, zipOf, enumOf, startE, argS, finO, stK, ownFree, wipeE, restE, sizeLine, R.bind_ok, -Prod.exists, -Bool.exists_bool, -Prod.forall, -Bool.forall_bool]
    refine take_wp _ _ (by omega) (by omega) fun v1 s1 a1 b1 => ?_
    simp [V_val, V_own, V_bor, vK_val, vK_own, vK_no, vK_none, wv_var, wv_cst, b2F_eq, b1F_eq, wv_bin, wv_cmp, wv_ix, wv_rng2, a1F_eq, wv_neg, wv_rev, wv_isin, wv_rng1, wv_ssort, andF_b, wv_and, orF_b, wv_or, notF_b, wv_not, conF_b, wv_ite, tupF_eq, wv_tup, lstF_eq, wv_lst, wv_dict, sl3F_eq, sl2F_eq, sl1F_eq, wv_sl, nF_eq, wv_bi, cF_eq, wv_call, mu2F_ex, muF1_b, wv_mu, mt2F_ex, mtF1_eq, wv_mt, c2F_eq, c1F_eq, wv_nil, wv_cons, lc2F_eq, lcF_eq, wv_lc, wv_yes, wv_cond, wv_no, wv_some, pF_int, seqF_eq, wv_seq, rngF_eq, wv_rng, ofF_eq, wv_zip, wv_enum, asgF_eq, wx_asg, drF_eq, wx_drop, reF_eq, wx_ret, wx_retN, wx_nop, wx_brk, wx_cont, ifF_b, wx_ite, wx_seq, wx_wh, foF_eq, wx_for, tsF_eq, wx_asgT, paF_eq, wx_par, s3F_ex, s2F_eq, s1F_eq, wx_setIx, flat, shaped_lints1, shaped_int, shaped_bool, shaped_none, shaped_nil, shaped_nilt, shaped_tints, shaped_lints, eqv_int, eqv_bool, eqv_tints, eqv_lints, eqv_lnil, eqv_tnil, any_ints, flat_ints, ex_cond, ex_cond2, ixN, atI_0, atI_1, atI_2, atI_3, wp_ok, wp_bad, wp_exc, wp_if, flK_next, flK_ret, flK_brk, flK_cont, tK_b, lpK_next, lpK_cont, lpK_brk, lpK_ret, rnK_next, rnK_ret, wp_turn, ltK_some, lt1F_eq, lt2F_eq, stAsg_val, stAsg_own, stAsg_bor, stRet_val, stRet_own, stRet_bor, exAsgT, exPar, setO, setL, setKd, setTd, mtGet, mtIndex, mtCount, mtJoin, mtSplit, mtPart, tyOkR, mtTyOk, MT.ty, mtF, viewRV, viewRVs, O.vw, boF, coF, bAdd, bSub, bMul, bDiv, bMod, bPow, bNeg, bEq, bNe, bCmp, bIn, isIn, bIs, isIs, bIx, bRev, bSl, bi, bLen, bMax, bMin, bAbs, bInt, bStr, bTuple, bList, bSorted, bAll, bAny, bSum, bDict, vInt, bIsin, vwIs, bRng1, bRng2, bRng, valArgs, setS_eq, setK_val, setK_own, setK_no, setK_lf, setK_lq, setT, setTs, recvOk, muF, muAppend, muExtend, muPop_snoc, muPop_one, muDpop, MU.isD, wp_callV, wp_callR, wp_callT, ctJ_some, ctK_val, ctK_own, valsD, clK_int, clK_bool, clK_str, clK_none, clK_tup, clK_own, clK_lst, crK_val, crK_own, RF.wp_ok, rfE_ok, rfF_eq, rfK_exc, rfK_val, rfK_own, wv_isE, bIsE, noExc_int, noExc_bool, noExc_none, noExc_str, noExc_list, noExc_tuple, noExc_k, noExc_t, O.fz, keyD, wv_chain, ch1F_eq, ch2F_eq, ch3F_eq, evSeq, rngOf, zipOf, enumOf, startE, argS, finO, stK, ownFree, wipeE, restE, sizeLine, R.bind_ok, -Prod.exists, -Bool.exists_bool, -Prod.forall, -Bool.forall_bool]
    obtain ⟨d, ed, md⟩ := atI_at (l := [PyData.none, PyData.int 7, PyData.tuple [PyData.int 0], PyData.list [PyData.str (Str.ofString "0:o")], PyData.bool true, PyData.dict [], PyData.tuple []]) a1 (by simpa using b1)
    rw [ed]
    have hd : noExc (.d d) = true ∧ ∀ z, d ≠ .str z := by
      simp only [List.mem_cons, List.not_mem_nil, or_false] at md
      rcases md with rfl | rfl | rfl | rfl | rfl | rfl | rfl <;> exact ⟨rfl, fun z h => by cases h⟩
    clear ed
    simp [V_val, V_own, V_bor, vK_val, vK_own, vK_no, vK_none, wv_var, wv_cst, b2F_eq, b1F_eq, wv_bin, wv_cmp, wv_ix, wv_rng2, a1F_eq, wv_neg, wv_rev, wv_isin, wv_rng1, wv_ssort, andF_b, wv_and, orF_b, wv_or, notF_b, wv_not, conF_b, wv_ite, tupF_eq, wv_tup, lstF_eq, wv_lst, wv_dict, sl3F_eq, sl2F_eq, sl1F_eq, wv_sl, nF_eq, wv_bi, cF_eq, wv_call, mu2F_ex, muF1_b, wv_mu, mt2F_ex, mtF1_eq, wv_mt, c2F_eq, c1F_eq, wv_nil, wv_cons, lc2F_eq, lcF_eq, wv_lc, wv_yes, wv_cond, wv_no, wv_some, pF_int, seqF_eq, wv_seq, rngF_eq, wv_rng, ofF_eq, wv_zip, wv_enum, asgF_eq, wx_asg, drF_eq, wx_drop, reF_eq, wx_ret, wx_retN, wx_nop, wx_brk, wx_cont, ifF_b, wx_ite, wx_seq, wx_wh, foF_eq, wx_for, tsF_eq, wx_asgT, paF_eq, wx_par, s3F_ex, s2F_eq, s1F_eq, wx_setIx, flat, shaped_lints1, shaped_int, shaped_bool, shaped_none, shaped_nil, shaped_nilt, shaped_tints, shaped_lints, eqv_int, eqv_bool, eqv_tints, eqv_lints, eqv_lnil, eqv_tnil, any_ints, flat_ints, ex_cond, ex_cond2, ixN, atI_0, atI_1, atI_2, atI_3, wp_ok, wp_bad, wp_exc, wp_if, flK_next, flK_ret, flK_brk, flK_cont, tK_b, lpK_next, lpK_cont, lpK_brk, lpK_ret, rnK_next, rnK_ret, wp_turn, ltK_some, lt1F_eq, lt2F_eq, stAsg_val, stAsg_own, stAsg_bor, stRet_val, stRet_own, stRet_bor, exAsgT, exPar, setO, setL, setKd, setTd, mtGet, mtIndex, mtCount, mtJoin, mtSplit, mtPart, tyOkR, mtTyOk, MT.ty, mtF, viewRV, viewRVs, O.vw, boF, coF, bAdd, bSub, bMul, bDiv, bMod, bPow, bNeg, bEq, bNe, bCmp, bIn, isIn, bIs, isIs, bIx, bRev, bSl, bi, bLen, bMax, bMin, bAbs, bInt, bStr, bTuple, bList, bSorted, bAll, bAny, bSum, bDict, vInt, bIsin, vwIs, bRng1, bRng2, bRng, valArgs, setS_eq, setK_val, setK_own, setK_no, setK_lf, setK_lq, setT, setTs, recvOk, muF, muAppend, muExtend, muPop_snoc, muPop_one, muDpop, MU.isD, wp_callV, wp_callR, wp_callT, ctJ_some, ctK_val, ctK_own, valsD, clK_int, clK_bool, clK_str, clK_none, clK_tup, clK_own, clK_lst, crK_val, crK_own, RF.wp_ok, rfE_ok, rfF_eq, rfK_exc, rfK_val, rfK_own, wv_isE, bIsE, noExc_int, noExc_bool, noExc_none, noExc_str, noExc_list, noExc_tuple, noExc_k, noExc_t, O.fz, keyD, wv_chain, ch1F_eq, ch2F_eq, ch3F_eq, evSeq, rngOf, zipOf, enumOf, startE, argS, finO, stK, ownFree, wipeE, restE, sizeLine, R.bind_ok, -Prod.exists, -Bool.exists_bool, -Prod.forall, -Bool.forall_bool]
    refine rfc_wp rfl rfl ?_
    simp [V_val, V_own, V_bor, vK_val, vK_own, vK_no, vK_none, wv_var, wv_cst, b2F_eq, b1F_eq, wv_bin, wv_cmp, wv_ix, wv_rng2, a1F_eq, wv_neg, wv_rev, wv_isin, wv_rng1, wv_ssort, andF_b, wv_and, orF_b, wv_or, notF_b, wv_not, conF_b, wv_ite, tupF_eq, wv_tup, lstF_eq, wv_lst, wv_dict, sl3F_eq, sl2F_eq, sl1F_eq, wv_sl, nF_eq, wv_bi, cF_eq, wv_call, mu2F_ex, muF1_b, wv_mu, mt2F_ex, mtF1_eq, wv_mt, c2F_eq, c1F_eq, wv_nil, wv_cons, lc2F_eq, lcF_eq, wv_lc, wv_yes, wv_cond, wv_no, wv_some, pF_int, seqF_eq, wv_seq, rngF_eq, wv_rng, ofF_eq, wv_zip, wv_enum, asgF_eq, wx_asg, drF_eq, wx_drop, reF_eq, wx_ret, wx_retN, wx_nop, wx_brk, wx_cont, ifF_b, wx_ite, wx_seq, wx_wh, foF_eq, wx_for, tsF_eq, wx_asgT, paF_eq, wx_par, s3F_ex, s2F_eq, s1F_eq, wx_setIx, flat, shaped_lints1, shaped_int, shaped_bool, shaped_none, shaped_nil, shaped_nilt, shaped_tints, shaped_lints, eqv_int, eqv_bool, eqv_tints, eqv_lints, eqv_lnil, eqv_tnil, any_ints, flat_ints, ex_cond, ex_cond2, ixN, atI_0, atI_1, atI_2, atI_3, wp_ok, wp_bad, wp_exc, wp_if, flK_next, flK_ret, flK_brk, flK_cont, tK_b, lpK_next, lpK_cont, lpK_brk, lpK_ret, rnK_next, rnK_ret, wp_turn, ltK_some, lt1F_eq, lt2F_eq, stAsg_val, stAsg_own, stAsg_bor, stRet_val, stRet_own, stRet_bor, exAsgT, exPar, setO, setL, setKd, setTd, mtGet, mtIndex, mtCount, mtJoin, mtSplit, mtPart, tyOkR, mtTyOk, MT.ty, mtF, viewRV, viewRVs, O.vw, boF, coF, bAdd, bSub, bMul, bDiv, bMod, bPow, bNeg, bEq, bNe, bCmp, bIn, isIn, bIs, isIs, bIx, bRev, bSl, bi, bLen, bMax, bMin, bAbs, bInt, bStr, bTuple, bList, bSorted, bAll, bAny, bSum, bDict, vInt, bIsin, vwIs, bRng1, bRng2, bRng, valArgs, setS_eq, setK_val, setK_own, setK_no, setK_lf, setK_lq, setT, setTs, recvOk, muF, muAppend, muExtend, muPop_snoc, muPop_one, muDpop, MU.isD, wp_callV, wp_callR, wp_callT, ctJ_some, ctK_val, ctK_own, valsD, clK_int, clK_bool, clK_str, clK_none, clK_tup, clK_own, clK_lst, crK_val, crK_own, RF.wp_ok, rfE_ok, rfF_eq, rfK_exc, rfK_val, rfK_own, wv_isE, bIsE, noExc_int, noExc_bool, noExc_none, noExc_str, noExc_list, noExc_tuple, noExc_k, noExc_t, O.fz, keyD, wv_chain, ch1F_eq, ch2F_eq, ch3F_eq, evSeq, rngOf, zipOf, enumOf, startE, argS, finO, stK, ownFree, wipeE, restE, sizeLine, R.bind_ok, -Prod.exists, -Bool.exists_bool, -Prod.forall, -Bool.forall_bool, row_read_odd d hd.1 hd.2, refd4]
    exact ⟨rfl, hT _ (.d _) x5 (.d d)⟩
theorem main : ∀ ns : List Int, ns.length ≤ 63 → f_law [.val (.list (ns.map .int))] = .ok (.val (.bool true)) none := by
  intro ns hl
  rw [law_split]
  have key := tail_ok ns
  generalize lawRest = rest at key ⊢
  refine RF.wp.eq (wp_run ?_)
  simp [lawHead, c_law, t_law, V_val, V_own, V_bor, vK_val, vK_own, vK_no, vK_none, wv_var, wv_cst, b2F_eq, b1F_eq, wv_bin, wv_cmp, wv_ix, wv_rng2, a1F_eq, wv_neg, wv_rev, wv_isin, wv_rng1, wv_ssort, andF_b, wv_and, orF_b, wv_or, notF_b, wv_not, conF_b, wv_ite, tupF_eq, wv_tup, lstF_eq, wv_lst, wv_dict, sl3F_eq, sl2F_eq, sl1F_eq, wv_sl, nF_eq, wv_bi, cF_eq, wv_call, mu2F_ex, muF1_b, wv_mu, mt2F_ex, mtF1_eq, wv_mt, c2F_eq, c1F_eq, wv_nil, wv_cons, lc2F_eq, lcF_eq, wv_lc, wv_yes, wv_cond, wv_no, wv_some, pF_int, seqF_eq, wv_seq, rngF_eq, wv_rng, ofF_eq, wv_zip, wv_enum, asgF_eq, wx_asg, drF_eq, wx_drop, reF_eq, wx_ret, wx_retN, wx_nop, wx_brk, wx_cont, ifF_b, wx_ite, wx_seq, wx_wh, foF_eq, wx_for, tsF_eq, wx_asgT, paF_eq, wx_par, s3F_ex, s2F_eq, s1F_eq, wx_setIx, flat, shaped_lints1, shaped_int, shaped_bool, shaped_none, shaped_nil, shaped_nilt, shaped_tints, shaped_lints, eqv_int, eqv_bool, eqv_tints, eqv_lints, eqv_lnil, eqv_tnil, any_ints, flat_ints, ex_cond, ex_cond2, ixN, atI_0, atI_1, atI_2, atI_3, wp_ok, wp_bad, wp_exc, wp_if, flK_next, flK_ret, flK_brk, flK_cont, tK_b, lpK_next, lpK_cont, lpK_brk, lpK_ret, rnK_next, rnK_ret, wp_turn, ltK_some, lt1F_eq, lt2F_eq, stAsg_val, stAsg_own, stAsg_bor, stRet_val, stRet_own, stRet_bor, exAsgT, exPar, setO, setL, setKd, setTd, mtGet, mtIndex, mtCount, mtJoin, mtSplit, mtPart, tyOkR, mtTyOk, MT.ty, mtF, viewRV, viewRVs, O.vw, boF, coF, bAdd, bSub, bMul, bDiv, bMod, bPow, bNeg, bEq, bNe, bCmp, bIn, isIn, bIs, isIs, bIx, bRev, bSl, bi, bLen, bMax, bMin, bAbs, bInt, bStr, bTuple, bList, bSorted, bAll, bAny, bSum, bDict, vInt, bIsin, vwIs, bRng1, bRng2, bRng, valArgs, setS_eq, setK_val, setK_own, setK_no, setK_lf, setK_lq, setT, setTs, recvOk, muF, muAppend, muExtend, muPop_snoc, muPop_one, muDpop, MU.isD, wp_callV, wp_callR, wp_callT, ctJ_some, ctK_val, ctK_own, valsD, clK_int, clK_bool, clK_str, clK_none, clK_tup, clK_own, clK_lst, crK_val, crK_own, RF.wp_ok, rfE_ok, rfF_eq, rfK_exc, rfK_val, rfK_own, wv_isE, bIsE, noExc_int, noExc_bool, noExc_none, noExc_str, noExc_list, noExc_tuple, noExc_k, noExc_t, O.fz, keyD, wv_chain, ch1F_eq, ch2F_eq, ch3F_eq, evSeq, rngOf, zipOf, enumOf, startE, argS, finO, stK, ownFree, wipeE, restE, sizeLine, R.bind_ok, -Prod.exists, -Bool.exists_bool, -Prod.forall, -Bool.forall_bool, rngOk]
  refine ⟨by split <;> split <;> omega, ?_⟩
  refine wp_forP (fun x => ∃ k : Int, x = .int k ∧ 0 ≤ k) (fun ρ => ∃ x1 x2 x3 x4 x5 x6 : LQ, ρ = [some (.val (.list (ns.map .int))), lq x1, lq x2, lq x3, lq x4, lq x5, lq x6]) (fun x hx => ?_) ⟨.no, .no, .no, .no, .no, .no, rfl⟩ ?_ ?_
  · obtain ⟨k, e, h1, h2⟩ := range_mem hx
    exact ⟨k, e, h1⟩
  · rintro _ ρ ⟨k, rfl, hk⟩ ⟨x1, x2, x3, x4, x5, x6, rfl⟩
    obtain ⟨s, es⟩ := state_ok ns k hk hl
    obtain ⟨row, s', er, hi, hr, hy⟩ := row_ex s [2, 5, 12] (by simp) (by simp)
    simp only [List.map] at er
    simp [V_val, V_own, V_bor, vK_val, vK_own, vK_no, vK_none, wv_var, wv_cst, b2F_eq, b1F_eq, wv_bin, wv_cmp, wv_ix, wv_rng2, a1F_eq, wv_neg, wv_rev, wv_isin, wv_rng1, wv_ssort, andF_b, wv_and, orF_b, wv_or, notF_b, wv_not, conF_b, wv_ite, tupF_eq, wv_tup, lstF_eq, wv_lst, wv_dict, sl3F_eq, sl2F_eq, sl1F_eq, wv_sl, nF_eq, wv_bi, cF_eq, wv_call, mu2F_ex, muF1_b, wv_mu, mt2F_ex, mtF1_eq, wv_mt, c2F_eq, c1F_eq, wv_nil, wv_cons, lc2F_eq, lcF_eq, wv_lc, wv_yes, wv_cond, wv_no, wv_some, pF_int, seqF_eq, wv_seq, rngF_eq, wv_rng, ofF_eq, wv_zip, wv_enum, asgF_eq, wx_asg, drF_eq, wx_drop, reF_eq, wx_ret, wx_retN, wx_nop, wx_brk, wx_cont, ifF_b, wx_ite, wx_seq, wx_wh, foF_eq, wx_for, tsF_eq, wx_asgT, paF_eq, wx_par, s3F_ex, s2F_eq, s1F_eq, wx_setIx, flat, shaped_lints1, shaped_int, shaped_bool, shaped_none, shaped_nil, shaped_nilt, shaped_tints, shaped_lints, eqv_int, eqv_bool, eqv_tints, eqv_lints, eqv_lnil, eqv_tnil, any_ints, flat_ints, ex_cond, ex_cond2, ixN, atI_0, atI_1, atI_2, atI_3, wp_ok, wp_bad, wp_exc, wp_if, flK_next, flK_ret, flK_brk, flK_cont, tK_b, lpK_next, lpK_cont, lpK_brk, lpK_ret, rnK_next, rnK_ret, wp_turn, ltK_some, lt1F_eq, lt2F_eq, stAsg_val, stAsg_own, stAsg_bor, stRet_val, stRet_own, stRet_bor, exAsgT, exPar, setO, setL, setKd, setTd, mtGet, mtIndex, mtCount, mtJoin, mtSplit, mtPart, tyOkR, mtTyOk, MT.ty, mtF, viewRV, viewRVs, O.vw, boF, coF, bAdd, bSub, bMul, bDiv, bMod, bPow, bNeg, bEq, bNe, bCmp, bIn, isIn, bIs, isIs, bIx, bRev, bSl, bi, bLen, bMax, bMin, bAbs, bInt, bStr, bTuple, bList, bSorted, bAll, bAny, bSum, bDict, vInt, bIsin, vwIs, bRng1, bRng2, bRng, valArgs, setS_eq, setK_val, setK_own, setK_no, setK_lf, setK_lq, setT, setTs, recvOk, muF, muAppend, muExtend, muPop_snoc, muPop_one, muDpop, MU.isD, wp_callV, wp_callR, wp_callT, ctJ_some, ctK_val, ctK_own, valsD, clK_int, clK_bool, clK_str, clK_none, clK_tup, clK_own, clK_lst, crK_val, crK_own, RF.wp_ok, rfE_ok, rfF_eq, rfK_exc, rfK_val, rfK_own, wv_isE, bIsE, noExc_int, noExc_bool, noExc_none, noExc_str, noExc_list, noExc_tuple, noExc_k, noExc_t, O.fz, keyD, wv_chain, ch1F_eq, ch2F_eq, ch3F_eq, evSeq, rngOf, zipOf, enumOf, startE, argS, finO, stK, ownFree, wipeE, restE, sizeLine, R.bind_ok, -Prod.exists, -Bool.exists_bool, -Prod.forall, -Bool.forall_bool, es, er]
    have rr : Ro row := fun hne => by
      have h0 := hy _ (head_mem hne)
      have h1 := hy _ (last_mem hne)
      have h2 := (inc_hl row hi _ (last_mem hne)).1
      omega
    refine ⟨fun hne => ⟨fun h12 => ?_, fun _ => key k s' row x4 x5 x6 rr fun _ y4 y5 y6 => ⟨.d _, .o _, .d _, y4, y5, y6, rfl⟩⟩, fun _ => key k s' row x4 x5 x6 rr fun _ y4 y5 y6 => ⟨.d _, .o _, .d _, y4, y5, y6, rfl⟩⟩
    have g := atI_h hne
    obtain ⟨a, ha⟩ : ∃ a, a = row.headD 0 := ⟨_, rfl⟩
    rw [← ha] at g
    refine take_wp _ _ (by omega) (by omega) fun v1 s1 a1 b1 => ?_
    simp [V_val, V_own, V_bor, vK_val, vK_own, vK_no, vK_none, wv_var, wv_cst, b2F_eq, b1F_eq, wv_bin, wv_cmp, wv_ix, wv_rng2, a1F_eq, wv_neg, wv_rev, wv_isin, wv_rng1, wv_ssort, andF_b, wv_and, orF_b, wv_or, notF_b, wv_not, conF_b, wv_ite, tupF_eq, wv_tup, lstF_eq, wv_lst, wv_dict, sl3F_eq, sl2F_eq, sl1F_eq, wv_sl, nF_eq, wv_bi, cF_eq, wv_call, mu2F_ex, muF1_b, wv_mu, mt2F_ex, mtF1_eq, wv_mt, c2F_eq, c1F_eq, wv_nil, wv_cons, lc2F_eq, lcF_eq, wv_lc, wv_yes, wv_cond, wv_no, wv_some, pF_int, seqF_eq, wv_seq, rngF_eq, wv_rng, ofF_eq, wv_zip, wv_enum, asgF_eq, wx_asg, drF_eq, wx_drop, reF_eq, wx_ret, wx_retN, wx_nop, wx_brk, wx_cont, ifF_b, wx_ite, wx_seq, wx_wh, foF_eq, wx_for, tsF_eq, wx_asgT, paF_eq, wx_par, s3F_ex, s2F_eq, s1F_eq, wx_setIx, flat, shaped_lints1, shaped_int, shaped_bool, shaped_none, shaped_nil, shaped_nilt, shaped_tints, shaped_lints, eqv_int, eqv_bool, eqv_tints, eqv_lints, eqv_lnil, eqv_tnil, any_ints, flat_ints, ex_cond, ex_cond2, ixN, atI_0, atI_1, atI_2, atI_3, wp_ok, wp_bad, wp_exc, wp_if, flK_next, flK_ret, flK_brk, flK_cont, tK_b, lpK_next, lpK_cont, lpK_brk, lpK_ret, rnK_next, rnK_ret, wp_turn, ltK_some, lt1F_eq, lt2F_eq, stAsg_val, stAsg_own, stAsg_bor, stRet_val, stRet_own, stRet_bor, exAsgT, exPar, setO, setL, setKd, setTd, mtGet, mtIndex, mtCount, mtJoin, mtSplit, mtPart, tyOkR, mtTyOk, MT.ty, mtF, viewRV, viewRVs, O.vw, boF, coF, bAdd, bSub, bMul, bDiv, bMod, bPow, bNeg, bEq, bNe, bCmp, bIn, isIn, bIs, isIs, bIx, bRev, bSl, bi, bLen, bMax, bMin, bAbs, bInt, bStr, bTuple, bList, bSorted, bAll, bAny, bSum, bDict, vInt, bIsin, vwIs, bRng1, bRng2, bRng, valArgs, setS_eq, setK_val, setK_own, setK_no, setK_lf, setK_lq, setT, setTs, recvOk, muF, muAppend, muExtend, muPop_snoc, muPop_one, muDpop, MU.isD, wp_callV, wp_callR, wp_callT, ctJ_some, ctK_val, ctK_own, valsD, clK_int, clK_bool, clK_str, clK_none, clK_tup, clK_own, clK_lst, crK_val, crK_own, RF.wp_ok, rfE_ok, rfF_eq, rfK_exc, rfK_val, rfK_own, wv_isE, bIsE, noExc_int, noExc_bool, noExc_none, noExc_str, noExc_list, noExc_tuple, noExc_k, noExc_t, O.fz, keyD, wv_chain, ch1F_eq, ch2F_eq, ch3F_eq, evSeq, rngOf, zipOf, enumOf, startE, argS, finO, stK, ownFree, wipeE, restE, sizeLine, R.bind_ok, -Prod.exists, -Bool.exists_bool, -Prod.forall, -Bool.forall_bool, g]
    refine ⟨fun _ => ?_, fun _ => key k s1 row x4 x5 x6 rr fun _ y4 y5 y6 => ⟨.d _, .o _, .d _, y4, y5, y6, rfl⟩⟩
    refine take_wp _ _ (by omega) (by omega) fun v2 s2 a2 b2 => ?_
    simp [V_val, V_own, V_bor, vK_val, vK_own, vK_no, vK_none, wv_var, wv_cst, b2F_eq, b1F_eq, wv_bin, wv_cmp, wv_ix, wv_rng2, a1F_eq, wv_neg, wv_rev, wv_isin, wv_rng1, wv_ssort, andF_b, wv_and, orF_b, wv_or, notF_b, wv_not, conF_b, wv_ite, tupF_eq, wv_tup, lstF_eq, wv_lst, wv_dict, sl3F_eq, sl2F_eq, sl1F_eq, wv_sl, nF_eq, wv_bi, cF_eq, wv_call, mu2F_ex, muF1_b, wv_mu, mt2F_ex, mtF1_eq, wv_mt, c2F_eq, c1F_eq, wv_nil, wv_cons, lc2F_eq, lcF_eq, wv_lc, wv_yes, wv_cond, wv_no, wv_some, pF_int, seqF_eq, wv_seq, rngF_eq, wv_rng, ofF_eq, wv_zip, wv_enum, asgF_eq, wx_asg, drF_eq, wx_drop, reF_eq, wx_ret, wx_retN, wx_nop, wx_brk, wx_cont, ifF_b, wx_ite, wx_seq, wx_wh, foF_eq, wx_for, tsF_eq, wx_asgT, paF_eq, wx_par, s3F_ex, s2F_eq, s1F_eq, wx_setIx, flat, shaped_lints1, shaped_int, shaped_bool, shaped_none, shaped_nil, shaped_nilt, shaped_tints, shaped_lints, eqv_int, eqv_bool, eqv_tints, eqv_lints, eqv_lnil, eqv_tnil, any_ints, flat_ints, ex_cond, ex_cond2, ixN, atI_0, atI_1, atI_2, atI_3, wp_ok, wp_bad, wp_exc, wp_if, flK_next, flK_ret, flK_brk, flK_cont, tK_b, lpK_next, lpK_cont, lpK_brk, lpK_ret, rnK_next, rnK_ret, wp_turn, ltK_some, lt1F_eq, lt2F_eq, stAsg_val, stAsg_own, stAsg_bor, stRet_val, stRet_own, stRet_bor, exAsgT, exPar, setO, setL, setKd, setTd, mtGet, mtIndex, mtCount, mtJoin, mtSplit, mtPart, tyOkR, mtTyOk, MT.ty, mtF, viewRV, viewRVs, O.vw, boF, coF, bAdd, bSub, bMul, bDiv, bMod, bPow, bNeg, bEq, bNe, bCmp, bIn, isIn, bIs, isIs, bIx, bRev, bSl, bi, bLen, bMax, bMin, bAbs, bInt, bStr, bTuple, bList, bSorted, bAll, bAny, bSum, bDict, vInt, bIsin, vwIs, bRng1, bRng2, bRng, valArgs, setS_eq, setK_val, setK_own, setK_no, setK_lf, setK_lq, setT, setTs, recvOk, muF, muAppend, muExtend, muPop_snoc, muPop_one, muDpop, MU.isD, wp_callV, wp_callR, wp_callT, ctJ_some, ctK_val, ctK_own, valsD, clK_int, clK_bool, clK_str, clK_none, clK_tup, clK_own, clK_lst, crK_val, crK_own, RF.wp_ok, rfE_ok, rfF_eq, rfK_exc, rfK_val, rfK_own, wv_isE, bIsE, noExc_int, noExc_bool, noExc_none, noExc_str, noExc_list, noExc_tuple, noExc_k, noExc_t, O.fz, keyD, wv_chain, ch1F_eq, ch2F_eq, ch3F_eq, evSeq, rngOf, zipOf, enumOf, startE, argS, finO, stK, ownFree, wipeE, restE, sizeLine, R.bind_ok, -Prod.exists, -Bool.exists_bool, -Prod.forall, -Bool.forall_bool]
    refine ⟨by omega, ?_⟩
    rw [show row.map PyData.int ++ [PyData.int (a + 198 + v2)] = (row ++ [a + 198 + v2]).map PyData.int by rw [List.map_append]; rfl]
    refine key k s2 (row ++ [a + 198 + v2]) x4 x5 x6 (fun _ => ?_) fun _ y4 y5 y6 => ⟨.d _, .o _, .d _, y4, y5, y6, rfl⟩
    have h0 := hy _ (head_mem hne)
    have e1 : (row ++ [a + 198 + v2]).headD 0 = row.headD 0 := by
      cases row with
      | nil => exact absurd rfl hne
      | cons x r => rfl
    rw [List.getLastD_concat, e1]
    omega
  · rintro ρ ⟨x1, x2, x3, x4, x5, x6, rfl⟩
    simp [V_val, V_own, V_bor, vK_val, vK_own, vK_no, vK_none, wv_var, wv_cst, b2F_eq, b1F_eq, wv_bin, wv_cmp, wv_ix, wv_rng2, a1F_eq, wv_neg, wv_rev, wv_isin, wv_rng1, wv_ssort, andF_b, wv_and, orF_b, wv_or, notF_b, wv_not, conF_b, wv_ite, tupF_eq, wv_tup, lstF_eq, wv_lst, wv_dict, sl3F_eq, sl2F_eq, sl1F_eq, wv_sl, nF_eq, wv_bi, cF_eq, wv_call, mu2F_ex, muF1_b, wv_mu, mt2F_ex, mtF1_eq, wv_mt, c2F_eq, c1F_eq, wv_nil, wv_cons, lc2F_eq, lcF_eq, wv_lc, wv_yes, wv_cond, wv_no, wv_some, pF_int, seqF_eq, wv_seq, rngF_eq, wv_rng, ofF_eq, wv_zip, wv_enum, asgF_eq, wx_asg, drF_eq, wx_drop, reF_eq, wx_ret, wx_retN, wx_nop, wx_brk, wx_cont, ifF_b, wx_ite, wx_seq, wx_wh, foF_eq, wx_for, tsF_eq, wx_asgT, paF_eq, wx_par, s3F_ex, s2F_eq, s1F_eq, wx_setIx, flat, shaped_lints1, shaped_int, shaped_bool, shaped_none, shaped_nil, shaped_nilt, shaped_tints, shaped_lints, eqv_int, eqv_bool, eqv_tints, eqv_lints, eqv_lnil, eqv_tnil, any_ints, flat_ints, ex_cond, ex_cond2, ixN, atI_0, atI_1, atI_2, atI_3, wp_ok, wp_bad, wp_exc, wp_if, flK_next, flK_ret, flK_brk, flK_cont, tK_b, lpK_next, lpK_cont, lpK_brk, lpK_ret, rnK_next, rnK_ret, wp_turn, ltK_some, lt1F_eq, lt2F_eq, stAsg_val, stAsg_own, stAsg_bor, stRet_val, stRet_own, stRet_bor, exAsgT, exPar, setO, setL, setKd, setTd, mtGet, mtIndex, mtCount, mtJoin, mtSplit, mtPart, tyOkR, mtTyOk, MT.ty, mtF, viewRV, viewRVs, O.vw, boF, coF, bAdd, bSub, bMul, bDiv, bMod, bPow, bNeg, bEq, bNe, bCmp, bIn, isIn, bIs, isIs, bIx, bRev, bSl, bi, bLen, bMax, bMin, bAbs, bInt, bStr, bTuple, bList, bSorted, bAll, bAny, bSum, bDict, vInt, bIsin, vwIs, bRng1, bRng2, bRng, valArgs, setS_eq, setK_val, setK_own, setK_no, setK_lf, setK_lq, setT, setTs, recvOk, muF, muAppend, muExtend, muPop_snoc, muPop_one, muDpop, MU.isD, wp_callV, wp_callR, wp_callT, ctJ_some, ctK_val, ctK_own, valsD, clK_int, clK_bool, clK_str, clK_none, clK_tup, clK_own, clK_lst, crK_val, crK_own, RF.wp_ok, rfE_ok, rfF_eq, rfK_exc, rfK_val, rfK_own, wv_isE, bIsE, noExc_int, noExc_bool, noExc_none, noExc_str, noExc_list, noExc_tuple, noExc_k, noExc_t, O.fz, keyD, wv_chain, ch1F_eq, ch2F_eq, ch3F_eq, evSeq, rngOf, zipOf, enumOf, startE, argS, finO, stK, ownFree, wipeE, restE, sizeLine, R.bind_ok, -Prod.exists, -Bool.exists_bool, -Prod.forall, -Bool.forall_bool]
end BX.k92

set_option Elab.async false
set_option linter.all false
set_option maxRecDepth 100000
set_option maxHeartbeats 4000000
namespace BX.k92
open PySem PySem.Spec PyProof.Rows L2 RZ
section
variable {P : Program} {w : World} {K : PySem.W.Frag} {mg : Str → Option Value} {base : Heap}
theorem all_mk {l : PySem.W.OpenLaw} {h : Heap} {fa : Addr} {B newId initId : String} {bmB : List Value} (FB : ExcBaseFacts B newId initId bmB) (main : ∀ ns : List Int, ns.length ≤ 63 → f_law [.val (.list (ns.map .int))] = .ok (.val (.bool true)) none) (X : K.In h) (G : h.Ns mainGlobals mg) (hfa : mg "law" = some (.ref fa))
    {e0 : Addr} (ga0 : PySem.W.nsIn K mainGlobals "BallError" = some (some (.ref e0)))
    (gb0 : PySem.W.excIn K e0 bmB newId = true) (gc0 : PySem.W.keepIn K (.ref e0) = true) (gd0 : PySem.W.subIn K (.ref e0) (.type "BaseException") = some true) (ge0 : PySem.W.typeIn K (.ref e0) = some (.type "type"))
    (gf0 : PySem.W.findIn K (.ref e0) "__getattribute__" = some (some (.builtin "BaseException.__getattribute__"))) (gg0 : PySem.W.findIn K (.ref e0) "__getattr__" = some none) (gh0 : PySem.W.hasDictIn K e0 = true) (gi0 : PySem.W.findIn K (.ref e0) "__class__" = some (some (.builtin "object.__class__"))) (gj0 : PySem.W.mroIn K e0 (.type "object") = some true)
    {e1 : Addr} (ga1 : PySem.W.nsIn K mainGlobals "NoNumber" = some (some (.ref e1)))
    (gb1 : PySem.W.excIn K e1 bmB newId = true) (gc1 : PySem.W.keepIn K (.ref e1) = true) (gd1 : PySem.W.subIn K (.ref e1) (.type "BaseException") = some true) (ge1 : PySem.W.typeIn K (.ref e1) = some (.type "type"))
    (gf1 : PySem.W.findIn K (.ref e1) "__getattribute__" = some (some (.builtin "BaseException.__getattribute__"))) (gg1 : PySem.W.findIn K (.ref e1) "__getattr__" = some none) (gh1 : PySem.W.hasDictIn K e1 = true) (gi1 : PySem.W.findIn K (.ref e1) "__class__" = some (some (.builtin "object.__class__"))) (gj1 : PySem.W.mroIn K e1 (.type "object") = some true)
    {e2 : Addr} (ga2 : PySem.W.nsIn K mainGlobals "NotFree" = some (some (.ref e2)))
    (gb2 : PySem.W.excIn K e2 bmB newId = true) (gc2 : PySem.W.keepIn K (.ref e2) = true) (gd2 : PySem.W.subIn K (.ref e2) (.type "BaseException") = some true) (ge2 : PySem.W.typeIn K (.ref e2) = some (.type "type"))
    (gf2 : PySem.W.findIn K (.ref e2) "__getattribute__" = some (some (.builtin "BaseException.__getattribute__"))) (gg2 : PySem.W.findIn K (.ref e2) "__getattr__" = some none) (gh2 : PySem.W.hasDictIn K e2 = true) (gi2 : PySem.W.findIn K (.ref e2) "__class__" = some (some (.builtin "object.__class__"))) (gj2 : PySem.W.mroIn K e2 (.type "object") = some true)
    {e3 : Addr} (ga3 : PySem.W.nsIn K mainGlobals "TooLong" = some (some (.ref e3)))
    (gb3 : PySem.W.excIn K e3 bmB newId = true) (gc3 : PySem.W.keepIn K (.ref e3) = true) (gd3 : PySem.W.subIn K (.ref e3) (.type "BaseException") = some true) (ge3 : PySem.W.typeIn K (.ref e3) = some (.type "type"))
    (gf3 : PySem.W.findIn K (.ref e3) "__getattribute__" = some (some (.builtin "BaseException.__getattribute__"))) (gg3 : PySem.W.findIn K (.ref e3) "__getattr__" = some none) (gh3 : PySem.W.hasDictIn K e3 = true) (gi3 : PySem.W.findIn K (.ref e3) "__class__" = some (some (.builtin "object.__class__"))) (gj3 : PySem.W.mroIn K e3 (.type "object") = some true)
    {e4 : Addr} (ga4 : PySem.W.nsIn K mainGlobals "NoRow" = some (some (.ref e4)))
    (gb4 : PySem.W.excIn K e4 bmB newId = true) (gc4 : PySem.W.keepIn K (.ref e4) = true) (gd4 : PySem.W.subIn K (.ref e4) (.type "BaseException") = some true) (ge4 : PySem.W.typeIn K (.ref e4) = some (.type "type"))
    (gf4 : PySem.W.findIn K (.ref e4) "__getattribute__" = some (some (.builtin "BaseException.__getattribute__"))) (gg4 : PySem.W.findIn K (.ref e4) "__getattr__" = some none) (gh4 : PySem.W.hasDictIn K e4 = true) (gi4 : PySem.W.findIn K (.ref e4) "__class__" = some (some (.builtin "object.__class__"))) (gj4 : PySem.W.mroIn K e4 (.type "object") = some true)
    {e5 : Addr} (ga5 : PySem.W.nsIn K mainGlobals "BadNote" = some (some (.ref e5)))
    (gb5 : PySem.W.excIn K e5 bmB newId = true) (gc5 : PySem.W.keepIn K (.ref e5) = true) (gd5 : PySem.W.subIn K (.ref e5) (.type "BaseException") = some true) (ge5 : PySem.W.typeIn K (.ref e5) = some (.type "type"))
    (gf5 : PySem.W.findIn K (.ref e5) "__getattribute__" = some (some (.builtin "BaseException.__getattribute__"))) (gg5 : PySem.W.findIn K (.ref e5) "__getattr__" = some none) (gh5 : PySem.W.hasDictIn K e5 = true) (gi5 : PySem.W.findIn K (.ref e5) "__class__" = some (some (.builtin "object.__class__"))) (gj5 : PySem.W.mroIn K e5 (.type "object") = some true)
    (gn : PySem.W.specialIn K (.builtin "object.__class__") "__get__" = some (some (.builtin "getset_descriptor.__get__"))) (gt : PySem.W.takesIn K (.builtin "object.__class__") = some true)
    (gv : PySem.W.nsIn K mainGlobals "ValueError" = some none)
    (gk0 : PySem.W.kitOne K (.ref e0) (.ref e1) = some false)
    (gk1 : PySem.W.kitOne K (.ref e1) (.ref e1) = some true)
    (gk2 : PySem.W.kitOne K (.ref e2) (.ref e1) = some false)
    (gk3 : PySem.W.kitOne K (.ref e3) (.ref e1) = some false)
    (gk4 : PySem.W.kitOne K (.ref e4) (.ref e1) = some false)
    (gk5 : PySem.W.kitOne K (.ref e5) (.ref e1) = some false)
    (gk6 : PySem.W.kitOne K (.ref e0) (.ref e2) = some false)
    (gk7 : PySem.W.kitOne K (.ref e1) (.ref e2) = some false)
    (gk8 : PySem.W.kitOne K (.ref e2) (.ref e2) = some true)
    (gk9 : PySem.W.kitOne K (.ref e3) (.ref e2) = some false)
    (gk10 : PySem.W.kitOne K (.ref e4) (.ref e2) = some false)
    (gk11 : PySem.W.kitOne K (.ref e5) (.ref e2) = some false)
    (gk12 : PySem.W.kitOne K (.ref e0) (.ref e3) = some false)
    (gk13 : PySem.W.kitOne K (.ref e1) (.ref e3) = some false)
    (gk14 : PySem.W.kitOne K (.ref e2) (.ref e3) = some false)
    (gk15 : PySem.W.kitOne K (.ref e3) (.ref e3) = some true)
    (gk16 : PySem.W.kitOne K (.ref e4) (.ref e3) = some false)
    (gk17 : PySem.W.kitOne K (.ref e5) (.ref e3) = some false)
    (gk18 : PySem.W.kitOne K (.ref e0) (.ref e4) = some false)
    (gk19 : PySem.W.kitOne K (.ref e1) (.ref e4) = some false)
    (gk20 : PySem.W.kitOne K (.ref e2) (.ref e4) = some false)
    (gk21 : PySem.W.kitOne K (.ref e3) (.ref e4) = some false)
    (gk22 : PySem.W.kitOne K (.ref e4) (.ref e4) = some true)
    (gk23 : PySem.W.kitOne K (.ref e5) (.ref e4) = some false)
    (gk24 : PySem.W.kitOne K (.ref e0) (.ref e5) = some false)
    (gk25 : PySem.W.kitOne K (.ref e1) (.ref e5) = some false)
    (gk26 : PySem.W.kitOne K (.ref e2) (.ref e5) = some false)
    (gk27 : PySem.W.kitOne K (.ref e3) (.ref e5) = some false)
    (gk28 : PySem.W.kitOne K (.ref e4) (.ref e5) = some false)
    (gk29 : PySem.W.kitOne K (.ref e5) (.ref e5) = some true)
    (gk30 : PySem.W.kitOne K (.ref e0) (.type "ValueError") = some true)
    (gk31 : PySem.W.kitOne K (.ref e1) (.type "ValueError") = some true)
    (gk32 : PySem.W.kitOne K (.ref e2) (.type "ValueError") = some true)
    (gk33 : PySem.W.kitOne K (.ref e3) (.type "ValueError") = some true)
    (gk34 : PySem.W.kitOne K (.ref e4) (.type "ValueError") = some true)
    (gk35 : PySem.W.kitOne K (.ref e5) (.type "ValueError") = some true)
    (gxBallError0 : PySem.W.exmOne K (.ref e0) (.ref e0) = some true)
    (gxBallError1 : PySem.W.exmOne K (.ref e1) (.ref e0) = some true)
    (gxBallError2 : PySem.W.exmOne K (.ref e2) (.ref e0) = some true)
    (gxBallError3 : PySem.W.exmOne K (.ref e3) (.ref e0) = some true)
    (gxBallError4 : PySem.W.exmOne K (.ref e4) (.ref e0) = some true)
    (gxBallError5 : PySem.W.exmOne K (.ref e5) (.ref e0) = some true)
    {f1 : Addr} {od1 an1 : Option Addr} {sl1 : Array (Option Value)} {oc1 kV1 dc1 pm1 cd1 ct1 : Value}
    (a1 : PySem.W.nsIn K mainGlobals "is_whole" = some (some (.ref f1))) (l1 : K.lookup f1 = some ⟨oc1, od1, .func (PySem.W.fnOf "is_whole" "is_whole" (defArgs s_is_whole) (defBody s_is_whole) (defScope s_is_whole) .none kV1 dc1 pm1 an1 (cd1) ct1), sl1⟩) (c1 : PySem.W.codeIn K (cd1) "is_whole" = true) (k1 : PySem.W.keepIn K (.ref f1) = true)
    {f2 : Addr} {od2 an2 : Option Addr} {sl2 : Array (Option Value)} {oc2 kV2 dc2 pm2 cd2 ct2 : Value}
    (a2 : PySem.W.nsIn K mainGlobals "is_between" = some (some (.ref f2))) (l2 : K.lookup f2 = some ⟨oc2, od2, .func (PySem.W.fnOf "is_between" "is_between" (defArgs s_is_between) (defBody s_is_between) (defScope s_is_between) .none kV2 dc2 pm2 an2 (cd2) ct2), sl2⟩) (c2 : PySem.W.codeIn K (cd2) "is_between" = true) (k2 : PySem.W.keepIn K (.ref f2) = true)
    {f3 : Addr} {od3 an3 : Option Addr} {sl3 : Array (Option Value)} {oc3 kV3 dc3 pm3 cd3 ct3 : Value}
    (a3 : PySem.W.nsIn K mainGlobals "is_row" = some (some (.ref f3))) (l3 : K.lookup f3 = some ⟨oc3, od3, .func (PySem.W.fnOf "is_row" "is_row" (defArgs s_is_row) (defBody s_is_row) (defScope s_is_row) .none kV3 dc3 pm3 an3 (cd3) ct3), sl3⟩) (c3 : PySem.W.codeIn K (cd3) "is_row" = true) (k3 : PySem.W.keepIn K (.ref f3) = true)
    {f4 : Addr} {od4 an4 : Option Addr} {sl4 : Array (Option Value)} {oc4 kV4 dc4 pm4 cd4 ct4 : Value}
    (a4 : PySem.W.nsIn K mainGlobals "number_in" = some (some (.ref f4))) (l4 : K.lookup f4 = some ⟨oc4, od4, .func (PySem.W.fnOf "number_in" "number_in" (defArgs s_number_in) (defBody s_number_in) (defScope s_number_in) .none kV4 dc4 pm4 an4 (cd4) ct4), sl4⟩) (c4 : PySem.W.codeIn K (cd4) "number_in" = true) (k4 : PySem.W.keepIn K (.ref f4) = true)
    {f5 : Addr} {od5 an5 : Option Addr} {sl5 : Array (Option Value)} {oc5 kV5 dc5 pm5 cd5 ct5 : Value}
    (a5 : PySem.W.nsIn K mainGlobals "row_read" = some (some (.ref f5))) (l5 : K.lookup f5 = some ⟨oc5, od5, .func (PySem.W.fnOf "row_read" "row_read" (defArgs s_row_read) (defBody s_row_read) (defScope s_row_read) .none kV5 dc5 pm5 an5 (cd5) ct5), sl5⟩) (c5 : PySem.W.codeIn K (cd5) "row_read" = true) (k5 : PySem.W.keepIn K (.ref f5) = true)
    {f6 : Addr} {od6 an6 : Option Addr} {sl6 : Array (Option Value)} {oc6 kV6 dc6 pm6 cd6 ct6 : Value}
    (a6 : PySem.W.nsIn K mainGlobals "_law_cell_at" = some (some (.ref f6))) (l6 : K.lookup f6 = some ⟨oc6, od6, .func (PySem.W.fnOf "_law_cell_at" "_law_cell_at" (defArgs s_l_cell_at) (defBody s_l_cell_at) (defScope s_l_cell_at) .none kV6 dc6 pm6 an6 (cd6) ct6), sl6⟩) (c6 : PySem.W.codeIn K (cd6) "_law_cell_at" = true) (k6 : PySem.W.keepIn K (.ref f6) = true)
    {f7 : Addr} {od7 an7 : Option Addr} {sl7 : Array (Option Value)} {oc7 kV7 dc7 pm7 cd7 ct7 : Value}
    (a7 : PySem.W.nsIn K mainGlobals "_law_state" = some (some (.ref f7))) (l7 : K.lookup f7 = some ⟨oc7, od7, .func (PySem.W.fnOf "_law_state" "_law_state" (defArgs s_l_state) (defBody s_l_state) (defScope s_l_state) .none kV7 dc7 pm7 an7 (cd7) ct7), sl7⟩) (c7 : PySem.W.codeIn K (cd7) "_law_state" = true) (k7 : PySem.W.keepIn K (.ref f7) = true)
    {f8 : Addr} {od8 an8 : Option Addr} {sl8 : Array (Option Value)} {oc8 kV8 dc8 pm8 cd8 ct8 : Value}
    (a8 : PySem.W.nsIn K mainGlobals "_law_take" = some (some (.ref f8))) (l8 : K.lookup f8 = some ⟨oc8, od8, .func (PySem.W.fnOf "_law_take" "_law_take" (defArgs s_l_take) (defBody s_l_take) (defScope s_l_take) .none kV8 dc8 pm8 an8 (cd8) ct8), sl8⟩) (c8 : PySem.W.codeIn K (cd8) "_law_take" = true) (k8 : PySem.W.keepIn K (.ref f8) = true)
    {f9 : Addr} {od9 an9 : Option Addr} {sl9 : Array (Option Value)} {oc9 kV9 dc9 pm9 cd9 ct9 : Value}
    (a9 : PySem.W.nsIn K mainGlobals "_law_refused" = some (some (.ref f9))) (l9 : K.lookup f9 = some ⟨oc9, od9, .func (PySem.W.fnOf "_law_refused" "_law_refused" (defArgs s_l_refused) (defBody s_l_refused) (defScope s_l_refused) .none kV9 dc9 pm9 an9 (cd9) ct9), sl9⟩) (c9 : PySem.W.codeIn K (cd9) "_law_refused" = true) (k9 : PySem.W.keepIn K (.ref f9) = true)
    {f10 : Addr} {od10 an10 : Option Addr} {sl10 : Array (Option Value)} {oc10 kV10 dc10 pm10 cd10 ct10 : Value}
    (a10 : PySem.W.nsIn K mainGlobals "_law_row" = some (some (.ref f10))) (l10 : K.lookup f10 = some ⟨oc10, od10, .func (PySem.W.fnOf "_law_row" "_law_row" (defArgs s_l_row) (defBody s_l_row) (defScope s_l_row) .none kV10 dc10 pm10 an10 (cd10) ct10), sl10⟩) (c10 : PySem.W.codeIn K (cd10) "_law_row" = true) (k10 : PySem.W.keepIn K (.ref f10) = true)
    {f11 : Addr} {od11 an11 : Option Addr} {sl11 : Array (Option Value)} {oc11 kV11 dc11 pm11 cd11 ct11 : Value}
    (a11 : PySem.W.nsIn K mainGlobals "_law_row_text" = some (some (.ref f11))) (l11 : K.lookup f11 = some ⟨oc11, od11, .func (PySem.W.fnOf "_law_row_text" "_law_row_text" (defArgs s_l_row_text) (defBody s_l_row_text) (defScope s_l_row_text) .none kV11 dc11 pm11 an11 (cd11) ct11), sl11⟩) (c11 : PySem.W.codeIn K (cd11) "_law_row_text" = true) (k11 : PySem.W.keepIn K (.ref f11) = true)
    {f12 : Addr} {od12 an12 : Option Addr} {sl12 : Array (Option Value)} {oc12 kV12 dc12 pm12 cd12 ct12 : Value}
    (a12 : PySem.W.nsIn K mainGlobals "_law_same" = some (some (.ref f12))) (l12 : K.lookup f12 = some ⟨oc12, od12, .func (PySem.W.fnOf "_law_same" "_law_same" (defArgs s_l_same) (defBody s_l_same) (defScope s_l_same) .none kV12 dc12 pm12 an12 (cd12) ct12), sl12⟩) (c12 : PySem.W.codeIn K (cd12) "_law_same" = true) (k12 : PySem.W.keepIn K (.ref f12) = true)
    {f13 : Addr} {od13 an13 : Option Addr} {sl13 : Array (Option Value)} {oc13 kV13 dc13 pm13 cd13 ct13 : Value}
    (a13 : PySem.W.nsIn K mainGlobals "_law_due" = some (some (.ref f13))) (l13 : K.lookup f13 = some ⟨oc13, od13, .func (PySem.W.fnOf "_law_due" "_law_due" (defArgs s_l_due) (defBody s_l_due) (defScope s_l_due) .none kV13 dc13 pm13 an13 (cd13) ct13), sl13⟩) (c13 : PySem.W.codeIn K (cd13) "_law_due" = true) (k13 : PySem.W.keepIn K (.ref f13) = true)
    {f14 : Addr} {od14 an14 : Option Addr} {sl14 : Array (Option Value)} {oc14 kV14 dc14 pm14 cd14 ct14 : Value}
    (a14 : PySem.W.nsIn K mainGlobals "_law_bent" = some (some (.ref f14))) (l14 : K.lookup f14 = some ⟨oc14, od14, .func (PySem.W.fnOf "_law_bent" "_law_bent" (defArgs s_l_bent) (defBody s_l_bent) (defScope s_l_bent) .none kV14 dc14 pm14 an14 (cd14) ct14), sl14⟩) (c14 : PySem.W.codeIn K (cd14) "_law_bent" = true) (k14 : PySem.W.keepIn K (.ref f14) = true)
    {f15 : Addr} {od15 an15 : Option Addr} {sl15 : Array (Option Value)} {oc15 kV15 dc15 pm15 ct15 : Value} {cc15 P15 : Addr} {co15 : Value} {cp15 : Option Addr} {cs15 : Array (Option Value)} {cv15 : Array Value}
    (a15 : PySem.W.nsIn K mainGlobals "_law_right" = some (some (.ref f15))) (l15 : K.lookup f15 = some ⟨oc15, od15, .func (PySem.W.fnOf "_law_right" "_law_right" (defArgs s_l_right) (defBody s_l_right) (defScope s_l_right) .none kV15 dc15 pm15 an15 (.ref cc15) ct15), sl15⟩) (c15 : PySem.W.codeIn K (.ref cc15) "_law_right" = true) (k15 : PySem.W.keepIn K (.ref f15) = true)
    (lo15 : K.lookup cc15 = some ⟨co15, cp15, .fields cv15, cs15⟩) (lp15 : (cv15[11]? : Option Value) = some (.ref P15)) (lh15 : PySem.W.codeHdIn K cc15 P15 = true) (lt15 : h.get? P15 = some { cls := .none, data := .fields #[] }) (ln15 : K.lookup P15 = none)
    {f16 : Addr} {od16 an16 : Option Addr} {sl16 : Array (Option Value)} {oc16 kV16 dc16 pm16 ct16 : Value} {cc16 P16 : Addr} {co16 : Value} {cp16 : Option Addr} {cs16 : Array (Option Value)} {cv16 : Array Value}
    (a16 : PySem.W.nsIn K mainGlobals "law" = some (some (.ref f16))) (l16 : K.lookup f16 = some ⟨oc16, od16, .func (PySem.W.fnOf "law" "law" (defArgs s_law) (defBody s_law) (defScope s_law) .none kV16 dc16 pm16 an16 (.ref cc16) ct16), sl16⟩) (c16 : PySem.W.codeIn K (.ref cc16) "law" = true) (k16 : PySem.W.keepIn K (.ref f16) = true)
    (lo16 : K.lookup cc16 = some ⟨co16, cp16, .fields cv16, cs16⟩) (lp16 : (cv16[11]? : Option Value) = some (.ref P16)) (lh16 : PySem.W.codeHdIn K cc16 P16 = true) (lt16 : h.get? P16 = some { cls := .none, data := .fields #[] }) (ln16 : K.lookup P16 = none)
    (pn15_16 : P15 ≠ P16)
    (z0 : PySem.W.nsIn K mainGlobals "len" = some none) (z1 : PySem.W.nsIn K mainGlobals "max" = some none) (z2 : PySem.W.nsIn K mainGlobals "min" = some none) (z3 : PySem.W.nsIn K mainGlobals "abs" = some none) (z4 : PySem.W.nsIn K mainGlobals "int" = some none) (z5 : PySem.W.nsIn K mainGlobals "str" = some none) (z6 : PySem.W.nsIn K mainGlobals "tuple" = some none) (z7 : PySem.W.nsIn K mainGlobals "list" = some none) (z8 : PySem.W.nsIn K mainGlobals "sorted" = some none) (z9 : PySem.W.nsIn K mainGlobals "all" = some none) (z10 : PySem.W.nsIn K mainGlobals "any" = some none) (z11 : PySem.W.nsIn K mainGlobals "sum" = some none) (z12 : PySem.W.nsIn K mainGlobals "dict" = some none) (z13 : PySem.W.nsIn K mainGlobals "bool" = some none) (z14 : PySem.W.nsIn K mainGlobals "isinstance" = some none) (z15 : PySem.W.nsIn K mainGlobals "range" = some none) (z16 : PySem.W.nsIn K mainGlobals "zip" = some none) (z17 : PySem.W.nsIn K mainGlobals "enumerate" = some none) (z18 : PySem.W.nsIn K mainGlobals "set" = some none)
    {u0 : Tok} (y0 : PySem.W.nsIn K mainGlobals "MOST_BALLS" = some (some (.int (12) u0)))
    {u1 : Tok} (y1 : PySem.W.nsIn K mainGlobals "LEAST_PLACE" = some (some (.int (-1000000000) u1)))
    {u2 : Tok} (y2 : PySem.W.nsIn K mainGlobals "MOST_PLACE" = some (some (.int (1000000000) u2)))
    {u3 : Tok} (y3 : PySem.W.nsIn K mainGlobals "FIGURES" = some (some (.str ("0123456789" : Str) u3)))
    {u4 : Tok} (y4 : PySem.W.nsIn K mainGlobals "MOST_BOXES" = some (some (.int (200) u4)))
    {u5 : Tok} (y5 : PySem.W.nsIn K mainGlobals "MOST_FIGURES" = some (some (.int (30) u5)))
    (nl : K.all noLst = true) :
    LamX.LawAtS l w K (L2.CX l.prog w) 22 63 "_law_script" mg fa h := by
  letI : Tbs := ⟨[(P15, ("_law_right" : Str) ++ (".<locals>." : Str) ++ ("<lambda>" : Str)), (P16, ("law" : Str) ++ (".<locals>." : Str) ++ ("<lambda>" : Str))], clsOf mg⟩
  have e := hfa.symm.trans (PySem.W.mg_of X G a16)
  cases e
  have F1 := fun_mk (st := s_is_whole) l1 c1 k1
  have b1 := F1.binds (ps := ["thing"]) fun _ _ _ _ _ _ us hl => match us, hl with | [_], _ => rfl
  have F2 := fun_mk (st := s_is_between) l2 c2 k2
  have b2 := F2.binds (ps := ["thing", "least", "most"]) fun _ _ _ _ _ _ us hl => match us, hl with | [_, _, _], _ => rfl
  have F3 := fun_mk (st := s_is_row) l3 c3 k3
  have b3 := F3.binds (ps := ["thing"]) fun _ _ _ _ _ _ us hl => match us, hl with | [_], _ => rfl
  have F4 := fun_mk (st := s_number_in) l4 c4 k4
  have b4 := F4.binds (ps := ["word"]) fun _ _ _ _ _ _ us hl => match us, hl with | [_], _ => rfl
  have F5 := fun_mk (st := s_row_read) l5 c5 k5
  have b5 := F5.binds (ps := ["text"]) fun _ _ _ _ _ _ us hl => match us, hl with | [_], _ => rfl
  have F6 := fun_mk (st := s_l_cell_at) l6 c6 k6
  have b6 := F6.binds (ps := ["_law_script", "_law_k"]) fun _ _ _ _ _ _ us hl => match us, hl with | [_, _], _ => rfl
  have F7 := fun_mk (st := s_l_state) l7 c7 k7
  have b7 := F7.binds (ps := ["_law_script", "_law_k"]) fun _ _ _ _ _ _ us hl => match us, hl with | [_, _], _ => rfl
  have F8 := fun_mk (st := s_l_take) l8 c8 k8
  have b8 := F8.binds (ps := ["_law_state_here", "_law_many"]) fun _ _ _ _ _ _ us hl => match us, hl with | [_, _], _ => rfl
  have F9 := fun_mk (st := s_l_refused) l9 c9 k9
  have b9 := F9.binds (ps := ["_law_call"]) fun _ _ _ _ _ _ us hl => match us, hl with | [_], _ => rfl
  have F10 := fun_mk (st := s_l_row) l10 c10 k10
  have b10 := F10.binds (ps := ["_law_state_here", "_law_gaps"]) fun _ _ _ _ _ _ us hl => match us, hl with | [_, _], _ => rfl
  have F11 := fun_mk (st := s_l_row_text) l11 c11 k11
  have b11 := F11.binds (ps := ["_law_row_here"]) fun _ _ _ _ _ _ us hl => match us, hl with | [_], _ => rfl
  have F12 := fun_mk (st := s_l_same) l12 c12 k12
  have b12 := F12.binds (ps := ["_law_found", "_law_due_here"]) fun _ _ _ _ _ _ us hl => match us, hl with | [_, _], _ => rfl
  have F13 := fun_mk (st := s_l_due) l13 c13 k13
  have b13 := F13.binds (ps := ["_law_text"]) fun _ _ _ _ _ _ us hl => match us, hl with | [_], _ => rfl
  have F14 := fun_mk (st := s_l_bent) l14 c14 k14
  have b14 := F14.binds (ps := ["_law_state_here", "_law_text"]) fun _ _ _ _ _ _ us hl => match us, hl with | [_, _], _ => rfl
  have F15 := fun_mk (st := s_l_right) l15 c15 k15
  have b15 := F15.binds (ps := ["_law_text", "_law_due_here"]) fun _ _ _ _ _ _ us hl => match us, hl with | [_, _], _ => rfl
  have F16 := fun_mk (st := s_law) l16 c16 k16
  have b16 := F16.binds (ps := ["_law_script"]) fun _ _ _ _ _ _ us hl => match us, hl with | [_], _ => rfl
  have bl : ∀ x ∈ blts, mg x = none := by
    intro x hx
    simp only [blts, List.mem_cons, List.not_mem_nil, or_false] at hx
    rcases hx with rfl | rfl | rfl | rfl | rfl | rfl | rfl | rfl | rfl | rfl | rfl | rfl | rfl | rfl | rfl | rfl | rfl | rfl | rfl
    · exact PySem.W.mg_none_of X G z0
    · exact PySem.W.mg_none_of X G z1
    · exact PySem.W.mg_none_of X G z2
    · exact PySem.W.mg_none_of X G z3
    · exact PySem.W.mg_none_of X G z4
    · exact PySem.W.mg_none_of X G z5
    · exact PySem.W.mg_none_of X G z6
    · exact PySem.W.mg_none_of X G z7
    · exact PySem.W.mg_none_of X G z8
    · exact PySem.W.mg_none_of X G z9
    · exact PySem.W.mg_none_of X G z10
    · exact PySem.W.mg_none_of X G z11
    · exact PySem.W.mg_none_of X G z12
    · exact PySem.W.mg_none_of X G z13
    · exact PySem.W.mg_none_of X G z14
    · exact PySem.W.mg_none_of X G z15
    · exact PySem.W.mg_none_of X G z16
    · exact PySem.W.mg_none_of X G z17
    · exact PySem.W.mg_none_of X G z18
  have cs : ∀ x d, (([("MOST_BALLS", .int (12)), ("LEAST_PLACE", .int (-1000000000)), ("MOST_PLACE", .int (1000000000)), ("FIGURES", .str ("0123456789" : Str)), ("MOST_BOXES", .int (200)), ("MOST_FIGURES", .int (30))] : List (Str × D))).lookup x = some d → ∃ u v, mg x = some u ∧ RelV v u ∧ scV d = some v := by
    intro x d e
    rw [List.lookup_cons] at e
    split at e
    · rename_i h
      have h := eq_of_beq h
      subst h
      cases e
      exact ⟨_, .int (12), PySem.W.mg_of X G y0, ⟨_, rfl⟩, rfl⟩
    rw [List.lookup_cons] at e
    split at e
    · rename_i h
      have h := eq_of_beq h
      subst h
      cases e
      exact ⟨_, .int (-1000000000), PySem.W.mg_of X G y1, ⟨_, rfl⟩, rfl⟩
    rw [List.lookup_cons] at e
    split at e
    · rename_i h
      have h := eq_of_beq h
      subst h
      cases e
      exact ⟨_, .int (1000000000), PySem.W.mg_of X G y2, ⟨_, rfl⟩, rfl⟩
    rw [List.lookup_cons] at e
    split at e
    · rename_i h
      have h := eq_of_beq h
      subst h
      cases e
      exact ⟨_, .str ("0123456789" : Str), PySem.W.mg_of X G y3, ⟨_, rfl⟩, rfl⟩
    rw [List.lookup_cons] at e
    split at e
    · rename_i h
      have h := eq_of_beq h
      subst h
      cases e
      exact ⟨_, .int (200), PySem.W.mg_of X G y4, ⟨_, rfl⟩, rfl⟩
    rw [List.lookup_cons] at e
    split at e
    · rename_i h
      have h := eq_of_beq h
      subst h
      cases e
      exact ⟨_, .int (30), PySem.W.mg_of X G y5, ⟨_, rfl⟩, rfl⟩
    cases e
  have ec0 : clsOf mg "BallError" = .ref e0 := by unfold clsOf; rw [PySem.W.mg_of X G ga0]; rfl
  have ec1 : clsOf mg "NoNumber" = .ref e1 := by unfold clsOf; rw [PySem.W.mg_of X G ga1]; rfl
  have ec2 : clsOf mg "NotFree" = .ref e2 := by unfold clsOf; rw [PySem.W.mg_of X G ga2]; rfl
  have ec3 : clsOf mg "TooLong" = .ref e3 := by unfold clsOf; rw [PySem.W.mg_of X G ga3]; rfl
  have ec4 : clsOf mg "NoRow" = .ref e4 := by unfold clsOf; rw [PySem.W.mg_of X G ga4]; rfl
  have ec5 : clsOf mg "BadNote" = .ref e5 := by unfold clsOf; rw [PySem.W.mg_of X G ga5]; rfl
  have exs : ∀ x ∈ (["BallError", "NoNumber", "NotFree", "TooLong", "NoRow", "BadNote"] : List Str), nmOk x = true ∧ ∃ (C : Addr) (B newId initId : String) (bmB : List Value), ExcBaseFacts B newId initId bmB ∧ PySem.W.excIn K C bmB newId = true ∧ mg x = some (.ref C) ∧ PySem.W.keepIn K (.ref C) = true ∧ PySem.W.subIn K (.ref C) (.type "BaseException") = some true ∧ PySem.W.typeIn K (.ref C) = some (.type "type") := by
    intro x hx
    simp only [List.mem_cons, List.not_mem_nil, or_false] at hx
    rcases hx with rfl | rfl | rfl | rfl | rfl | rfl
    · exact ⟨by decide, e0, B, newId, initId, bmB, FB, gb0, PySem.W.mg_of X G ga0, gc0, gd0, ge0⟩
    · exact ⟨by decide, e1, B, newId, initId, bmB, FB, gb1, PySem.W.mg_of X G ga1, gc1, gd1, ge1⟩
    · exact ⟨by decide, e2, B, newId, initId, bmB, FB, gb2, PySem.W.mg_of X G ga2, gc2, gd2, ge2⟩
    · exact ⟨by decide, e3, B, newId, initId, bmB, FB, gb3, PySem.W.mg_of X G ga3, gc3, gd3, ge3⟩
    · exact ⟨by decide, e4, B, newId, initId, bmB, FB, gb4, PySem.W.mg_of X G ga4, gc4, gd4, ge4⟩
    · exact ⟨by decide, e5, B, newId, initId, bmB, FB, gb5, PySem.W.mg_of X G ga5, gc5, gd5, ge5⟩
  have xc0 : ExcC K e0 := ⟨gf0, gg0, gd0, gh0, gi0, gn, gt, gj0⟩
  have xc1 : ExcC K e1 := ⟨gf1, gg1, gd1, gh1, gi1, gn, gt, gj1⟩
  have xc2 : ExcC K e2 := ⟨gf2, gg2, gd2, gh2, gi2, gn, gt, gj2⟩
  have xc3 : ExcC K e3 := ⟨gf3, gg3, gd3, gh3, gi3, gn, gt, gj3⟩
  have xc4 : ExcC K e4 := ⟨gf4, gg4, gd4, gh4, gi4, gn, gt, gj4⟩
  have xc5 : ExcC K e5 := ⟨gf5, gg5, gd5, gh5, gi5, gn, gt, gj5⟩
  have isa : ∀ c y b, ((c, y), b) ∈ ([((("BallError" : Str), ("NoNumber" : Str)), false), ((("NoNumber" : Str), ("NoNumber" : Str)), true), ((("NotFree" : Str), ("NoNumber" : Str)), false), ((("TooLong" : Str), ("NoNumber" : Str)), false), ((("NoRow" : Str), ("NoNumber" : Str)), false), ((("BadNote" : Str), ("NoNumber" : Str)), false), ((("BallError" : Str), ("NotFree" : Str)), false), ((("NoNumber" : Str), ("NotFree" : Str)), false), ((("NotFree" : Str), ("NotFree" : Str)), true), ((("TooLong" : Str), ("NotFree" : Str)), false), ((("NoRow" : Str), ("NotFree" : Str)), false), ((("BadNote" : Str), ("NotFree" : Str)), false), ((("BallError" : Str), ("TooLong" : Str)), false), ((("NoNumber" : Str), ("TooLong" : Str)), false), ((("NotFree" : Str), ("TooLong" : Str)), false), ((("TooLong" : Str), ("TooLong" : Str)), true), ((("NoRow" : Str), ("TooLong" : Str)), false), ((("BadNote" : Str), ("TooLong" : Str)), false), ((("BallError" : Str), ("NoRow" : Str)), false), ((("NoNumber" : Str), ("NoRow" : Str)), false), ((("NotFree" : Str), ("NoRow" : Str)), false), ((("TooLong" : Str), ("NoRow" : Str)), false), ((("NoRow" : Str), ("NoRow" : Str)), true), ((("BadNote" : Str), ("NoRow" : Str)), false), ((("BallError" : Str), ("BadNote" : Str)), false), ((("NoNumber" : Str), ("BadNote" : Str)), false), ((("NotFree" : Str), ("BadNote" : Str)), false), ((("TooLong" : Str), ("BadNote" : Str)), false), ((("NoRow" : Str), ("BadNote" : Str)), false), ((("BadNote" : Str), ("BadNote" : Str)), true), ((("BallError" : Str), ("ValueError" : Str)), true), ((("NoNumber" : Str), ("ValueError" : Str)), true), ((("NotFree" : Str), ("ValueError" : Str)), true), ((("TooLong" : Str), ("ValueError" : Str)), true), ((("NoRow" : Str), ("ValueError" : Str)), true), ((("BadNote" : Str), ("ValueError" : Str)), true)] : List ((Str × Str) × Bool)) → IsaK K mg c y b := by
    intro c y b hx
    simp only [List.mem_cons, List.not_mem_nil, or_false, Prod.mk.injEq] at hx
    rcases hx with ⟨⟨rfl, rfl⟩, rfl⟩ | ⟨⟨rfl, rfl⟩, rfl⟩ | ⟨⟨rfl, rfl⟩, rfl⟩ | ⟨⟨rfl, rfl⟩, rfl⟩ | ⟨⟨rfl, rfl⟩, rfl⟩ | ⟨⟨rfl, rfl⟩, rfl⟩ | ⟨⟨rfl, rfl⟩, rfl⟩ | ⟨⟨rfl, rfl⟩, rfl⟩ | ⟨⟨rfl, rfl⟩, rfl⟩ | ⟨⟨rfl, rfl⟩, rfl⟩ | ⟨⟨rfl, rfl⟩, rfl⟩ | ⟨⟨rfl, rfl⟩, rfl⟩ | ⟨⟨rfl, rfl⟩, rfl⟩ | ⟨⟨rfl, rfl⟩, rfl⟩ | ⟨⟨rfl, rfl⟩, rfl⟩ | ⟨⟨rfl, rfl⟩, rfl⟩ | ⟨⟨rfl, rfl⟩, rfl⟩ | ⟨⟨rfl, rfl⟩, rfl⟩ | ⟨⟨rfl, rfl⟩, rfl⟩ | ⟨⟨rfl, rfl⟩, rfl⟩ | ⟨⟨rfl, rfl⟩, rfl⟩ | ⟨⟨rfl, rfl⟩, rfl⟩ | ⟨⟨rfl, rfl⟩, rfl⟩ | ⟨⟨rfl, rfl⟩, rfl⟩ | ⟨⟨rfl, rfl⟩, rfl⟩ | ⟨⟨rfl, rfl⟩, rfl⟩ | ⟨⟨rfl, rfl⟩, rfl⟩ | ⟨⟨rfl, rfl⟩, rfl⟩ | ⟨⟨rfl, rfl⟩, rfl⟩ | ⟨⟨rfl, rfl⟩, rfl⟩ | ⟨⟨rfl, rfl⟩, rfl⟩ | ⟨⟨rfl, rfl⟩, rfl⟩ | ⟨⟨rfl, rfl⟩, rfl⟩ | ⟨⟨rfl, rfl⟩, rfl⟩ | ⟨⟨rfl, rfl⟩, rfl⟩ | ⟨⟨rfl, rfl⟩, rfl⟩
    · exact ⟨e0, .ref e1, ec0, xc0, by decide, .inl (PySem.W.mg_of X G ga1), .inl ⟨_, rfl⟩, gk0⟩
    · exact ⟨e1, .ref e1, ec1, xc1, by decide, .inl (PySem.W.mg_of X G ga1), .inl ⟨_, rfl⟩, gk1⟩
    · exact ⟨e2, .ref e1, ec2, xc2, by decide, .inl (PySem.W.mg_of X G ga1), .inl ⟨_, rfl⟩, gk2⟩
    · exact ⟨e3, .ref e1, ec3, xc3, by decide, .inl (PySem.W.mg_of X G ga1), .inl ⟨_, rfl⟩, gk3⟩
    · exact ⟨e4, .ref e1, ec4, xc4, by decide, .inl (PySem.W.mg_of X G ga1), .inl ⟨_, rfl⟩, gk4⟩
    · exact ⟨e5, .ref e1, ec5, xc5, by decide, .inl (PySem.W.mg_of X G ga1), .inl ⟨_, rfl⟩, gk5⟩
    · exact ⟨e0, .ref e2, ec0, xc0, by decide, .inl (PySem.W.mg_of X G ga2), .inl ⟨_, rfl⟩, gk6⟩
    · exact ⟨e1, .ref e2, ec1, xc1, by decide, .inl (PySem.W.mg_of X G ga2), .inl ⟨_, rfl⟩, gk7⟩
    · exact ⟨e2, .ref e2, ec2, xc2, by decide, .inl (PySem.W.mg_of X G ga2), .inl ⟨_, rfl⟩, gk8⟩
    · exact ⟨e3, .ref e2, ec3, xc3, by decide, .inl (PySem.W.mg_of X G ga2), .inl ⟨_, rfl⟩, gk9⟩
    · exact ⟨e4, .ref e2, ec4, xc4, by decide, .inl (PySem.W.mg_of X G ga2), .inl ⟨_, rfl⟩, gk10⟩
    · exact ⟨e5, .ref e2, ec5, xc5, by decide, .inl (PySem.W.mg_of X G ga2), .inl ⟨_, rfl⟩, gk11⟩
    · exact ⟨e0, .ref e3, ec0, xc0, by decide, .inl (PySem.W.mg_of X G ga3), .inl ⟨_, rfl⟩, gk12⟩
    · exact ⟨e1, .ref e3, ec1, xc1, by decide, .inl (PySem.W.mg_of X G ga3), .inl ⟨_, rfl⟩, gk13⟩
    · exact ⟨e2, .ref e3, ec2, xc2, by decide, .inl (PySem.W.mg_of X G ga3), .inl ⟨_, rfl⟩, gk14⟩
    · exact ⟨e3, .ref e3, ec3, xc3, by decide, .inl (PySem.W.mg_of X G ga3), .inl ⟨_, rfl⟩, gk15⟩
    · exact ⟨e4, .ref e3, ec4, xc4, by decide, .inl (PySem.W.mg_of X G ga3), .inl ⟨_, rfl⟩, gk16⟩
    · exact ⟨e5, .ref e3, ec5, xc5, by decide, .inl (PySem.W.mg_of X G ga3), .inl ⟨_, rfl⟩, gk17⟩
    · exact ⟨e0, .ref e4, ec0, xc0, by decide, .inl (PySem.W.mg_of X G ga4), .inl ⟨_, rfl⟩, gk18⟩
    · exact ⟨e1, .ref e4, ec1, xc1, by decide, .inl (PySem.W.mg_of X G ga4), .inl ⟨_, rfl⟩, gk19⟩
    · exact ⟨e2, .ref e4, ec2, xc2, by decide, .inl (PySem.W.mg_of X G ga4), .inl ⟨_, rfl⟩, gk20⟩
    · exact ⟨e3, .ref e4, ec3, xc3, by decide, .inl (PySem.W.mg_of X G ga4), .inl ⟨_, rfl⟩, gk21⟩
    · exact ⟨e4, .ref e4, ec4, xc4, by decide, .inl (PySem.W.mg_of X G ga4), .inl ⟨_, rfl⟩, gk22⟩
    · exact ⟨e5, .ref e4, ec5, xc5, by decide, .inl (PySem.W.mg_of X G ga4), .inl ⟨_, rfl⟩, gk23⟩
    · exact ⟨e0, .ref e5, ec0, xc0, by decide, .inl (PySem.W.mg_of X G ga5), .inl ⟨_, rfl⟩, gk24⟩
    · exact ⟨e1, .ref e5, ec1, xc1, by decide, .inl (PySem.W.mg_of X G ga5), .inl ⟨_, rfl⟩, gk25⟩
    · exact ⟨e2, .ref e5, ec2, xc2, by decide, .inl (PySem.W.mg_of X G ga5), .inl ⟨_, rfl⟩, gk26⟩
    · exact ⟨e3, .ref e5, ec3, xc3, by decide, .inl (PySem.W.mg_of X G ga5), .inl ⟨_, rfl⟩, gk27⟩
    · exact ⟨e4, .ref e5, ec4, xc4, by decide, .inl (PySem.W.mg_of X G ga5), .inl ⟨_, rfl⟩, gk28⟩
    · exact ⟨e5, .ref e5, ec5, xc5, by decide, .inl (PySem.W.mg_of X G ga5), .inl ⟨_, rfl⟩, gk29⟩
    · exact ⟨e0, .type "ValueError", ec0, xc0, by decide, .inr ⟨PySem.W.mg_none_of X G gv, by decide +kernel, by decide⟩, .inr ⟨_, rfl⟩, gk30⟩
    · exact ⟨e1, .type "ValueError", ec1, xc1, by decide, .inr ⟨PySem.W.mg_none_of X G gv, by decide +kernel, by decide⟩, .inr ⟨_, rfl⟩, gk31⟩
    · exact ⟨e2, .type "ValueError", ec2, xc2, by decide, .inr ⟨PySem.W.mg_none_of X G gv, by decide +kernel, by decide⟩, .inr ⟨_, rfl⟩, gk32⟩
    · exact ⟨e3, .type "ValueError", ec3, xc3, by decide, .inr ⟨PySem.W.mg_none_of X G gv, by decide +kernel, by decide⟩, .inr ⟨_, rfl⟩, gk33⟩
    · exact ⟨e4, .type "ValueError", ec4, xc4, by decide, .inr ⟨PySem.W.mg_none_of X G gv, by decide +kernel, by decide⟩, .inr ⟨_, rfl⟩, gk34⟩
    · exact ⟨e5, .type "ValueError", ec5, xc5, by decide, .inr ⟨PySem.W.mg_none_of X G gv, by decide +kernel, by decide⟩, .inr ⟨_, rfl⟩, gk35⟩
  have catBallError : ∀ x ∈ (["BallError", "NoNumber", "NotFree", "TooLong", "NoRow", "BadNote"] : List Str), PySem.W.exmOne K (Tbs.cls x) (.ref e0) = some true := by
    intro x hx
    simp only [List.mem_cons, List.not_mem_nil, or_false] at hx
    rcases hx with rfl | rfl | rfl | rfl | rfl | rfl
    · show PySem.W.exmOne K (clsOf mg "BallError") _ = _
      rw [ec0]; exact gxBallError0
    · show PySem.W.exmOne K (clsOf mg "NoNumber") _ = _
      rw [ec1]; exact gxBallError1
    · show PySem.W.exmOne K (clsOf mg "NotFree") _ = _
      rw [ec2]; exact gxBallError2
    · show PySem.W.exmOne K (clsOf mg "TooLong") _ = _
      rw [ec3]; exact gxBallError3
    · show PySem.W.exmOne K (clsOf mg "NoRow") _ = _
      rw [ec4]; exact gxBallError4
    · show PySem.W.exmOne K (clsOf mg "BadNote") _ = _
      rw [ec5]; exact gxBallError5
  refine ⟨PySem.W.fnOf "law" "law" (defArgs s_law) (defBody s_law) (defScope s_law) .none kV16 dc16 pm16 an16 (.ref cc16) ct16, [(cc15, P15), (cc16, P16)], spL K, ?hq1, ?hq2, ?hq3, fun s v => .of_eq rfl, ?hq4, ?hq5⟩
  case hq1 =>
    intro p hp; simp only [List.mem_cons, List.not_mem_nil, or_false] at hp; rcases hp with rfl | rfl
    · exact lt15
    · exact lt16
  case hq2 =>
    intro p hp; simp only [List.mem_cons, List.not_mem_nil, or_false] at hp; rcases hp with rfl | rfl
    · exact ln15
    · exact ln16
  case hq3 =>
    intro p hp; simp only [List.mem_cons, List.not_mem_nil, or_false] at hp; rcases hp with rfl | rfl
    · exact PySem.W.codeHd_of_K X lh15
    · exact PySem.W.codeHd_of_K X lh16
  case hq4 =>
    intro H a ns hl _ hT hS
    refine ⟨a, ns, rfl, hS, hl, ?_, fun _ => rfl⟩
    show ∀ p ∈ ([(P15, ("_law_right" : Str) ++ (".<locals>." : Str) ++ ("<lambda>" : Str)), (P16, ("law" : Str) ++ (".<locals>." : Str) ++ ("<lambda>" : Str))] : List (Addr × Str)), LamX.TabS H p.1 p.2
    intro p hp; simp only [List.mem_cons, List.not_mem_nil, or_false] at hp; rcases hp with rfl | rfl
    · exact LamX.TabS.nil (hT (cc15, P15) (by simp))
    · exact LamX.TabS.nil (hT (cc16, P16) (by simp))
  intro base _ _ hTB
  have ld15 : LamD base mg "_law_right" (.ref cc15) := by
    refine ⟨cc15, P15, rfl, hTB (cc15, P15) (by simp), ?_, ?_⟩
    · show (P15, _) ∈ [(P15, ("_law_right" : Str) ++ (".<locals>." : Str) ++ ("<lambda>" : Str)), (P16, ("law" : Str) ++ (".<locals>." : Str) ++ ("<lambda>" : Str))]
      simp
    · show ∀ p ∈ ([(P15, ("_law_right" : Str) ++ (".<locals>." : Str) ++ ("<lambda>" : Str)), (P16, ("law" : Str) ++ (".<locals>." : Str) ++ ("<lambda>" : Str))] : List (Addr × Str)), _
      intro p hp e; simp only [List.mem_cons, List.not_mem_nil, or_false] at hp; rcases hp with rfl | rfl
      · rfl
      · exact absurd e.symm pn15_16
  have ld16 : LamD base mg "law" (.ref cc16) := by
    refine ⟨cc16, P16, rfl, hTB (cc16, P16) (by simp), ?_, ?_⟩
    · show (P16, _) ∈ [(P15, ("_law_right" : Str) ++ (".<locals>." : Str) ++ ("<lambda>" : Str)), (P16, ("law" : Str) ++ (".<locals>." : Str) ++ ("<lambda>" : Str))]
      simp
    · show ∀ p ∈ ([(P15, ("_law_right" : Str) ++ (".<locals>." : Str) ++ ("<lambda>" : Str)), (P16, ("law" : Str) ++ (".<locals>." : Str) ++ ("<lambda>" : Str))] : List (Addr × Str)), _
      intro p hp e; simp only [List.mem_cons, List.not_mem_nil, or_false] at hp; rcases hp with rfl | rfl
      · exact absurd e pn15_16
      · rfl
  have e0 : Glob l.prog w K mg base ⟨[], [], [("MOST_BALLS", .int (12)), ("LEAST_PLACE", .int (-1000000000)), ("MOST_PLACE", .int (1000000000)), ("FIGURES", .str ("0123456789" : Str)), ("MOST_BOXES", .int (200)), ("MOST_FIGURES", .int (30))], false, ["BallError", "NoNumber", "NotFree", "TooLong", "NoRow", "BadNote"], 0, isaL, [], false⟩ [] := ⟨bl, cs, (fun j x a e => nomatch e), exs, rfl, isa, (fun x k e => nomatch e)⟩
  have q1 : Glob l.prog w K mg base (G_is_whole 0) t_is_whole := e0.as rfl rfl rfl rfl rfl (by decide)
  have o1 : FnOk l.prog w K mg base (L2.CX l.prog w) 1 f1 (PySem.W.fnOf "is_whole" "is_whole" (defArgs s_is_whole) (defBody s_is_whole) (defScope s_is_whole) .none kV1 dc1 pm1 an1 (cd1) ct1) ["thing"] (spF 1 (clsOf mg) f_is_whole) := fn_rule F1 sc_is_whole q1 rfl (hc_is_whole 0)
  have e1 : Glob l.prog w K mg base ⟨[], [("is_whole", 1)], [("MOST_BALLS", .int (12)), ("LEAST_PLACE", .int (-1000000000)), ("MOST_PLACE", .int (1000000000)), ("FIGURES", .str ("0123456789" : Str)), ("MOST_BOXES", .int (200)), ("MOST_FIGURES", .int (30))], false, ["BallError", "NoNumber", "NotFree", "TooLong", "NoRow", "BadNote"], 1, isaL, [], false⟩ [⟨false, f_is_whole⟩] := e0.push (x := "is_whole") (a := 1) (fn := ⟨false, f_is_whole⟩) rfl rfl rfl rfl rfl rfl (by decide) rfl (by decide) F1 (PySem.W.mg_of X G a1) b1 o1
  have q2 : Glob l.prog w K mg base (G_is_between 1) t_is_between := e1.as rfl rfl rfl rfl rfl (by decide)
  have o2 : FnOk l.prog w K mg base (L2.CX l.prog w) 2 f2 (PySem.W.fnOf "is_between" "is_between" (defArgs s_is_between) (defBody s_is_between) (defScope s_is_between) .none kV2 dc2 pm2 an2 (cd2) ct2) ["thing", "least", "most"] (spF 3 (clsOf mg) f_is_between) := fn_rule F2 sc_is_between q2 rfl (hc_is_between 1)
  have e2 : Glob l.prog w K mg base ⟨[], [("is_whole", 1), ("is_between", 3)], [("MOST_BALLS", .int (12)), ("LEAST_PLACE", .int (-1000000000)), ("MOST_PLACE", .int (1000000000)), ("FIGURES", .str ("0123456789" : Str)), ("MOST_BOXES", .int (200)), ("MOST_FIGURES", .int (30))], false, ["BallError", "NoNumber", "NotFree", "TooLong", "NoRow", "BadNote"], 2, isaL, [], false⟩ [⟨false, f_is_whole⟩, ⟨false, f_is_between⟩] := e1.push (x := "is_between") (a := 3) (fn := ⟨false, f_is_between⟩) rfl rfl rfl rfl rfl rfl (by decide) rfl (by decide) F2 (PySem.W.mg_of X G a2) b2 o2
  have q3 : Glob l.prog w K mg base (G_is_row 2) t_is_row := e2.as rfl rfl rfl rfl rfl (by decide)
  have o3 : FnOk l.prog w K mg base (L2.CX l.prog w) 3 f3 (PySem.W.fnOf "is_row" "is_row" (defArgs s_is_row) (defBody s_is_row) (defScope s_is_row) .none kV3 dc3 pm3 an3 (cd3) ct3) ["thing"] (spF 1 (clsOf mg) f_is_row) := fn_rule F3 sc_is_row q3 rfl (hc_is_row 2)
  have e3 : Glob l.prog w K mg base ⟨[], [("is_whole", 1), ("is_between", 3), ("is_row", 1)], [("MOST_BALLS", .int (12)), ("LEAST_PLACE", .int (-1000000000)), ("MOST_PLACE", .int (1000000000)), ("FIGURES", .str ("0123456789" : Str)), ("MOST_BOXES", .int (200)), ("MOST_FIGURES", .int (30))], false, ["BallError", "NoNumber", "NotFree", "TooLong", "NoRow", "BadNote"], 3, isaL, [], false⟩ [⟨false, f_is_whole⟩, ⟨false, f_is_between⟩, ⟨false, f_is_row⟩] := e2.push (x := "is_row") (a := 1) (fn := ⟨false, f_is_row⟩) rfl rfl rfl rfl rfl rfl (by decide) rfl (by decide) F3 (PySem.W.mg_of X G a3) b3 o3
  have q4 : Glob l.prog w K mg base (G_number_in 3) t_number_in := e3.as rfl rfl rfl rfl rfl (by decide)
  have o4 : FnOk l.prog w K mg base (L2.CX l.prog w) 4 f4 (PySem.W.fnOf "number_in" "number_in" (defArgs s_number_in) (defBody s_number_in) (defScope s_number_in) .none kV4 dc4 pm4 an4 (cd4) ct4) ["word"] (spF 1 (clsOf mg) f_number_in) := fn_rule F4 sc_number_in q4 rfl (hc_number_in 3)
  have e4 : Glob l.prog w K mg base ⟨[], [("is_whole", 1), ("is_between", 3), ("is_row", 1), ("number_in", 1)], [("MOST_BALLS", .int (12)), ("LEAST_PLACE", .int (-1000000000)), ("MOST_PLACE", .int (1000000000)), ("FIGURES", .str ("0123456789" : Str)), ("MOST_BOXES", .int (200)), ("MOST_FIGURES", .int (30))], false, ["BallError", "NoNumber", "NotFree", "TooLong", "NoRow", "BadNote"], 4, isaL, [], false⟩ [⟨false, f_is_whole⟩, ⟨false, f_is_between⟩, ⟨false, f_is_row⟩, ⟨false, f_number_in⟩] := e3.push (x := "number_in") (a := 1) (fn := ⟨false, f_number_in⟩) rfl rfl rfl rfl rfl rfl (by decide) rfl (by decide) F4 (PySem.W.mg_of X G a4) b4 o4
  have q5 : Glob l.prog w K mg base (G_row_read 4) t_row_read := e4.as rfl rfl rfl rfl rfl (by decide)
  have o5 : FnOk l.prog w K mg base (L2.CX l.prog w) 5 f5 (PySem.W.fnOf "row_read" "row_read" (defArgs s_row_read) (defBody s_row_read) (defScope s_row_read) .none kV5 dc5 pm5 an5 (cd5) ct5) ["text"] (spF 1 (clsOf mg) f_row_read) := fn_rule F5 sc_row_read q5 rfl (hc_row_read 4)
  have e5 : Glob l.prog w K mg base ⟨[], [("is_whole", 1), ("is_between", 3), ("is_row", 1), ("number_in", 1), ("row_read", 1)], [("MOST_BALLS", .int (12)), ("LEAST_PLACE", .int (-1000000000)), ("MOST_PLACE", .int (1000000000)), ("FIGURES", .str ("0123456789" : Str)), ("MOST_BOXES", .int (200)), ("MOST_FIGURES", .int (30))], false, ["BallError", "NoNumber", "NotFree", "TooLong", "NoRow", "BadNote"], 5, isaL, [], false⟩ [⟨false, f_is_whole⟩, ⟨false, f_is_between⟩, ⟨false, f_is_row⟩, ⟨false, f_number_in⟩, ⟨false, f_row_read⟩] := e4.push (x := "row_read") (a := 1) (fn := ⟨false, f_row_read⟩) rfl rfl rfl rfl rfl rfl (by decide) rfl (by decide) F5 (PySem.W.mg_of X G a5) b5 o5
  have q6 : Glob l.prog w K mg base (G_l_cell_at 5) t_l_cell_at := e5.as rfl rfl rfl rfl rfl (by decide)
  have o6 : FnOk l.prog w K mg base (L2.CX l.prog w) 6 f6 (PySem.W.fnOf "_law_cell_at" "_law_cell_at" (defArgs s_l_cell_at) (defBody s_l_cell_at) (defScope s_l_cell_at) .none kV6 dc6 pm6 an6 (cd6) ct6) ["_law_script", "_law_k"] (spF 2 (clsOf mg) f_l_cell_at) := fn_rule F6 sc_l_cell_at q6 rfl (hc_l_cell_at 5)
  have e6 : Glob l.prog w K mg base ⟨[], [("is_whole", 1), ("is_between", 3), ("is_row", 1), ("number_in", 1), ("row_read", 1), ("_law_cell_at", 2)], [("MOST_BALLS", .int (12)), ("LEAST_PLACE", .int (-1000000000)), ("MOST_PLACE", .int (1000000000)), ("FIGURES", .str ("0123456789" : Str)), ("MOST_BOXES", .int (200)), ("MOST_FIGURES", .int (30))], false, ["BallError", "NoNumber", "NotFree", "TooLong", "NoRow", "BadNote"], 6, isaL, [], false⟩ [⟨false, f_is_whole⟩, ⟨false, f_is_between⟩, ⟨false, f_is_row⟩, ⟨false, f_number_in⟩, ⟨false, f_row_read⟩, ⟨false, f_l_cell_at⟩] := e5.push (x := "_law_cell_at") (a := 2) (fn := ⟨false, f_l_cell_at⟩) rfl rfl rfl rfl rfl rfl (by decide) rfl (by decide) F6 (PySem.W.mg_of X G a6) b6 o6
  have q7 : Glob l.prog w K mg base (G_l_state 6) t_l_state := e6.as rfl rfl rfl rfl rfl (by decide)
  have o7 : FnOk l.prog w K mg base (L2.CX l.prog w) 7 f7 (PySem.W.fnOf "_law_state" "_law_state" (defArgs s_l_state) (defBody s_l_state) (defScope s_l_state) .none kV7 dc7 pm7 an7 (cd7) ct7) ["_law_script", "_law_k"] (spF 2 (clsOf mg) f_l_state) := fn_rule F7 sc_l_state q7 rfl (hc_l_state 6)
  have e7 : Glob l.prog w K mg base ⟨[], [("is_whole", 1), ("is_between", 3), ("is_row", 1), ("number_in", 1), ("row_read", 1), ("_law_cell_at", 2), ("_law_state", 2)], [("MOST_BALLS", .int (12)), ("LEAST_PLACE", .int (-1000000000)), ("MOST_PLACE", .int (1000000000)), ("FIGURES", .str ("0123456789" : Str)), ("MOST_BOXES", .int (200)), ("MOST_FIGURES", .int (30))], false, ["BallError", "NoNumber", "NotFree", "TooLong", "NoRow", "BadNote"], 7, isaL, [], false⟩ [⟨false, f_is_whole⟩, ⟨false, f_is_between⟩, ⟨false, f_is_row⟩, ⟨false, f_number_in⟩, ⟨false, f_row_read⟩, ⟨false, f_l_cell_at⟩, ⟨false, f_l_state⟩] := e6.push (x := "_law_state") (a := 2) (fn := ⟨false, f_l_state⟩) rfl rfl rfl rfl rfl rfl (by decide) rfl (by decide) F7 (PySem.W.mg_of X G a7) b7 o7
  have q8 : Glob l.prog w K mg base (G_l_take 7) t_l_take := e7.as rfl rfl rfl rfl rfl (by decide)
  have o8 : FnOk l.prog w K mg base (L2.CX l.prog w) 8 f8 (PySem.W.fnOf "_law_take" "_law_take" (defArgs s_l_take) (defBody s_l_take) (defScope s_l_take) .none kV8 dc8 pm8 an8 (cd8) ct8) ["_law_state_here", "_law_many"] (spF 2 (clsOf mg) f_l_take) := fn_rule F8 sc_l_take q8 rfl (hc_l_take 7)
  have e8 : Glob l.prog w K mg base ⟨[], [("is_whole", 1), ("is_between", 3), ("is_row", 1), ("number_in", 1), ("row_read", 1), ("_law_cell_at", 2), ("_law_state", 2), ("_law_take", 2)], [("MOST_BALLS", .int (12)), ("LEAST_PLACE", .int (-1000000000)), ("MOST_PLACE", .int (1000000000)), ("FIGURES", .str ("0123456789" : Str)), ("MOST_BOXES", .int (200)), ("MOST_FIGURES", .int (30))], false, ["BallError", "NoNumber", "NotFree", "TooLong", "NoRow", "BadNote"], 8, isaL, [], false⟩ [⟨false, f_is_whole⟩, ⟨false, f_is_between⟩, ⟨false, f_is_row⟩, ⟨false, f_number_in⟩, ⟨false, f_row_read⟩, ⟨false, f_l_cell_at⟩, ⟨false, f_l_state⟩, ⟨true, f_l_take⟩] := e7.push (x := "_law_take") (a := 2) (fn := ⟨true, f_l_take⟩) rfl rfl rfl rfl rfl rfl (by decide) rfl (by decide) F8 (PySem.W.mg_of X G a8) b8 o8
  have q9 : Glob l.prog w K mg base (G_l_refused 3) t_l_refused := e0.as rfl rfl rfl rfl rfl (by decide)
  have ts9 : TkSyn (G_l_refused 3) (defScope s_l_refused) (defBody s_l_refused) "_law_call" "_law_error" "e" "BallError" 1 2 ((defBody s_l_refused).drop 2) := ⟨⟨_, _, _, _, _, _, _, _, _, _, _, _, default, default, default, _, rfl⟩, rfl, rfl, by decide, rfl, rfl, rfl, by decide⟩
  have o9 : TkOk l.prog w K mg base ["BallError", "NoNumber", "NotFree", "TooLong", "NoRow", "BadNote"] "_law_refused" f_l_refused := ⟨by decide, f9, _, _, _, _, _, _, _, _, _, _, _, _, _, N_l_refused, "_law_call", PySem.W.mg_of X G a9, k9, l9, c9, b9, sc_l_refused, rfl, .inl rfl, by decide, fun X1 x1 x2 x3 x4 x5 hr q => giv_ok sc_l_refused q9 rfl (by decide) ts9 (PySem.W.mg_of X G ga0) catBallError (hc_l_refused 3) X1 x1 x2 x3 x4 x5 hr q⟩
  have e9 : Glob l.prog w K mg base ⟨[], [("is_whole", 1), ("is_between", 3), ("is_row", 1), ("number_in", 1), ("row_read", 1), ("_law_cell_at", 2), ("_law_state", 2), ("_law_take", 2), ("", 0)], [("MOST_BALLS", .int (12)), ("LEAST_PLACE", .int (-1000000000)), ("MOST_PLACE", .int (1000000000)), ("FIGURES", .str ("0123456789" : Str)), ("MOST_BOXES", .int (200)), ("MOST_FIGURES", .int (30))], false, ["BallError", "NoNumber", "NotFree", "TooLong", "NoRow", "BadNote"], 8, isaL, [("_law_refused", 8)], false⟩ [⟨false, f_is_whole⟩, ⟨false, f_is_between⟩, ⟨false, f_is_row⟩, ⟨false, f_number_in⟩, ⟨false, f_row_read⟩, ⟨false, f_l_cell_at⟩, ⟨false, f_l_state⟩, ⟨true, f_l_take⟩, ⟨false, f_l_refused⟩] := e8.pushTk (x := "_law_refused") (fn := ⟨false, f_l_refused⟩) rfl rfl rfl rfl rfl rfl (by decide) rfl o9
  have q10 : Glob l.prog w K mg base (G_l_row 8) t_l_row := e9.as rfl rfl rfl rfl rfl (by decide)
  have o10 : FnOk l.prog w K mg base (L2.CX l.prog w) 9 f10 (PySem.W.fnOf "_law_row" "_law_row" (defArgs s_l_row) (defBody s_l_row) (defScope s_l_row) .none kV10 dc10 pm10 an10 (cd10) ct10) ["_law_state_here", "_law_gaps"] (spF 2 (clsOf mg) f_l_row) := fn_rule F10 sc_l_row q10 rfl (hc_l_row 8)
  have e10 : Glob l.prog w K mg base ⟨[], [("is_whole", 1), ("is_between", 3), ("is_row", 1), ("number_in", 1), ("row_read", 1), ("_law_cell_at", 2), ("_law_state", 2), ("_law_take", 2), ("", 0), ("_law_row", 2)], [("MOST_BALLS", .int (12)), ("LEAST_PLACE", .int (-1000000000)), ("MOST_PLACE", .int (1000000000)), ("FIGURES", .str ("0123456789" : Str)), ("MOST_BOXES", .int (200)), ("MOST_FIGURES", .int (30))], false, ["BallError", "NoNumber", "NotFree", "TooLong", "NoRow", "BadNote"], 9, isaL, [("_law_refused", 8)], false⟩ [⟨false, f_is_whole⟩, ⟨false, f_is_between⟩, ⟨false, f_is_row⟩, ⟨false, f_number_in⟩, ⟨false, f_row_read⟩, ⟨false, f_l_cell_at⟩, ⟨false, f_l_state⟩, ⟨true, f_l_take⟩, ⟨false, f_l_refused⟩, ⟨true, f_l_row⟩] := e9.push (x := "_law_row") (a := 2) (fn := ⟨true, f_l_row⟩) rfl rfl rfl rfl rfl rfl (by decide) rfl (by decide) F10 (PySem.W.mg_of X G a10) b10 o10
  have q11 : Glob l.prog w K mg base (G_l_row_text 9) t_l_row_text := e10.as rfl rfl rfl rfl rfl (by decide)
  have o11 : FnOk l.prog w K mg base (L2.CX l.prog w) 10 f11 (PySem.W.fnOf "_law_row_text" "_law_row_text" (defArgs s_l_row_text) (defBody s_l_row_text) (defScope s_l_row_text) .none kV11 dc11 pm11 an11 (cd11) ct11) ["_law_row_here"] (spF 1 (clsOf mg) f_l_row_text) := fn_rule F11 sc_l_row_text q11 rfl (hc_l_row_text 9)
  have e11 : Glob l.prog w K mg base ⟨[], [("is_whole", 1), ("is_between", 3), ("is_row", 1), ("number_in", 1), ("row_read", 1), ("_law_cell_at", 2), ("_law_state", 2), ("_law_take", 2), ("", 0), ("_law_row", 2), ("_law_row_text", 1)], [("MOST_BALLS", .int (12)), ("LEAST_PLACE", .int (-1000000000)), ("MOST_PLACE", .int (1000000000)), ("FIGURES", .str ("0123456789" : Str)), ("MOST_BOXES", .int (200)), ("MOST_FIGURES", .int (30))], false, ["BallError", "NoNumber", "NotFree", "TooLong", "NoRow", "BadNote"], 10, isaL, [("_law_refused", 8)], false⟩ [⟨false, f_is_whole⟩, ⟨false, f_is_between⟩, ⟨false, f_is_row⟩, ⟨false, f_number_in⟩, ⟨false, f_row_read⟩, ⟨false, f_l_cell_at⟩, ⟨false, f_l_state⟩, ⟨true, f_l_take⟩, ⟨false, f_l_refused⟩, ⟨true, f_l_row⟩, ⟨false, f_l_row_text⟩] := e10.push (x := "_law_row_text") (a := 1) (fn := ⟨false, f_l_row_text⟩) rfl rfl rfl rfl rfl rfl (by decide) rfl (by decide) F11 (PySem.W.mg_of X G a11) b11 o11
  have r12_0 : FnOk l.prog w K mg base (L2.CX l.prog w) 10 f12 (PySem.W.fnOf "_law_same" "_law_same" (defArgs s_l_same) (defBody s_l_same) (defScope s_l_same) .none kV12 dc12 pm12 an12 (cd12) ct12) ["_law_found", "_law_due_here"] (spF 2 (clsOf mg) (f_l_sameN 0)) := fn_bad
  have q12_0 : Glob l.prog w K mg base (G_l_same 10) (t_l_same ++ [⟨false, f_l_sameN 0⟩]) := e11.push (x := "_law_same") (a := 2) rfl rfl rfl rfl rfl rfl (by decide) rfl (by decide) F12 (PySem.W.mg_of X G a12) b12 r12_0
  have r12_1 : FnOk l.prog w K mg base (L2.CX l.prog w) 11 f12 (PySem.W.fnOf "_law_same" "_law_same" (defArgs s_l_same) (defBody s_l_same) (defScope s_l_same) .none kV12 dc12 pm12 an12 (cd12) ct12) ["_law_found", "_law_due_here"] (spF 2 (clsOf mg) (f_l_sameN 1)) := fn_rule F12 sc_l_same q12_0 rfl (hc_l_same 10)
  have q12_1 : Glob l.prog w K mg base (G_l_same 11) (t_l_same ++ [⟨false, f_l_sameN 1⟩]) := e11.push (x := "_law_same") (a := 2) rfl rfl rfl rfl rfl rfl (by decide) rfl (by decide) F12 (PySem.W.mg_of X G a12) b12 r12_1
  have r12_2 : FnOk l.prog w K mg base (L2.CX l.prog w) 12 f12 (PySem.W.fnOf "_law_same" "_law_same" (defArgs s_l_same) (defBody s_l_same) (defScope s_l_same) .none kV12 dc12 pm12 an12 (cd12) ct12) ["_law_found", "_law_due_here"] (spF 2 (clsOf mg) (f_l_sameN 2)) := fn_rule F12 sc_l_same q12_1 rfl (hc_l_same 11)
  have q12_2 : Glob l.prog w K mg base (G_l_same 12) (t_l_same ++ [⟨false, f_l_sameN 2⟩]) := e11.push (x := "_law_same") (a := 2) rfl rfl rfl rfl rfl rfl (by decide) rfl (by decide) F12 (PySem.W.mg_of X G a12) b12 r12_2
  have r12_3 : FnOk l.prog w K mg base (L2.CX l.prog w) 13 f12 (PySem.W.fnOf "_law_same" "_law_same" (defArgs s_l_same) (defBody s_l_same) (defScope s_l_same) .none kV12 dc12 pm12 an12 (cd12) ct12) ["_law_found", "_law_due_here"] (spF 2 (clsOf mg) (f_l_sameN 3)) := fn_rule F12 sc_l_same q12_2 rfl (hc_l_same 12)
  have q12_3 : Glob l.prog w K mg base (G_l_same 13) (t_l_same ++ [⟨false, f_l_sameN 3⟩]) := e11.push (x := "_law_same") (a := 2) rfl rfl rfl rfl rfl rfl (by decide) rfl (by decide) F12 (PySem.W.mg_of X G a12) b12 r12_3
  have r12_4 : FnOk l.prog w K mg base (L2.CX l.prog w) 14 f12 (PySem.W.fnOf "_law_same" "_law_same" (defArgs s_l_same) (defBody s_l_same) (defScope s_l_same) .none kV12 dc12 pm12 an12 (cd12) ct12) ["_law_found", "_law_due_here"] (spF 2 (clsOf mg) (f_l_sameN 4)) := fn_rule F12 sc_l_same q12_3 rfl (hc_l_same 13)
  have o12 : FnOk l.prog w K mg base (L2.CX l.prog w) 14 f12 (PySem.W.fnOf "_law_same" "_law_same" (defArgs s_l_same) (defBody s_l_same) (defScope s_l_same) .none kV12 dc12 pm12 an12 (cd12) ct12) ["_law_found", "_law_due_here"] (spF 2 (clsOf mg) f_l_same) := r12_4
  have e12 : Glob l.prog w K mg base ⟨[], [("is_whole", 1), ("is_between", 3), ("is_row", 1), ("number_in", 1), ("row_read", 1), ("_law_cell_at", 2), ("_law_state", 2), ("_law_take", 2), ("", 0), ("_law_row", 2), ("_law_row_text", 1), ("_law_same", 2)], [("MOST_BALLS", .int (12)), ("LEAST_PLACE", .int (-1000000000)), ("MOST_PLACE", .int (1000000000)), ("FIGURES", .str ("0123456789" : Str)), ("MOST_BOXES", .int (200)), ("MOST_FIGURES", .int (30))], false, ["BallError", "NoNumber", "NotFree", "TooLong", "NoRow", "BadNote"], 14, isaL, [("_law_refused", 8)], false⟩ [⟨false, f_is_whole⟩, ⟨false, f_is_between⟩, ⟨false, f_is_row⟩, ⟨false, f_number_in⟩, ⟨false, f_row_read⟩, ⟨false, f_l_cell_at⟩, ⟨false, f_l_state⟩, ⟨true, f_l_take⟩, ⟨false, f_l_refused⟩, ⟨true, f_l_row⟩, ⟨false, f_l_row_text⟩, ⟨false, f_l_same⟩] := e11.push (x := "_law_same") (a := 2) (fn := ⟨false, f_l_same⟩) rfl rfl rfl rfl rfl rfl (by decide) rfl (by decide) F12 (PySem.W.mg_of X G a12) b12 o12
  have q13 : Glob l.prog w K mg base (G_l_due 14) t_l_due := e12.as rfl rfl rfl rfl rfl (by decide)
  have o13 : FnOk l.prog w K mg base (L2.CX l.prog w) 15 f13 (PySem.W.fnOf "_law_due" "_law_due" (defArgs s_l_due) (defBody s_l_due) (defScope s_l_due) .none kV13 dc13 pm13 an13 (cd13) ct13) ["_law_text"] (spF 1 (clsOf mg) f_l_due) := fn_rule F13 sc_l_due q13 rfl (hc_l_due 14)
  have e13 : Glob l.prog w K mg base ⟨[], [("is_whole", 1), ("is_between", 3), ("is_row", 1), ("number_in", 1), ("row_read", 1), ("_law_cell_at", 2), ("_law_state", 2), ("_law_take", 2), ("", 0), ("_law_row", 2), ("_law_row_text", 1), ("_law_same", 2), ("_law_due", 1)], [("MOST_BALLS", .int (12)), ("LEAST_PLACE", .int (-1000000000)), ("MOST_PLACE", .int (1000000000)), ("FIGURES", .str ("0123456789" : Str)), ("MOST_BOXES", .int (200)), ("MOST_FIGURES", .int (30))], false, ["BallError", "NoNumber", "NotFree", "TooLong", "NoRow", "BadNote"], 15, isaL, [("_law_refused", 8)], false⟩ [⟨false, f_is_whole⟩, ⟨false, f_is_between⟩, ⟨false, f_is_row⟩, ⟨false, f_number_in⟩, ⟨false, f_row_read⟩, ⟨false, f_l_cell_at⟩, ⟨false, f_l_state⟩, ⟨true, f_l_take⟩, ⟨false, f_l_refused⟩, ⟨true, f_l_row⟩, ⟨false, f_l_row_text⟩, ⟨false, f_l_same⟩, ⟨false, f_l_due⟩] := e12.push (x := "_law_due") (a := 1) (fn := ⟨false, f_l_due⟩) rfl rfl rfl rfl rfl rfl (by decide) rfl (by decide) F13 (PySem.W.mg_of X G a13) b13 o13
  have q14 : Glob l.prog w K mg base (G_l_bent 15) t_l_bent := e13.as rfl rfl rfl rfl rfl (by decide)
  have o14 : FnOk l.prog w K mg base (L2.CX l.prog w) 16 f14 (PySem.W.fnOf "_law_bent" "_law_bent" (defArgs s_l_bent) (defBody s_l_bent) (defScope s_l_bent) .none kV14 dc14 pm14 an14 (cd14) ct14) ["_law_state_here", "_law_text"] (spF 2 (clsOf mg) f_l_bent) := fn_rule F14 sc_l_bent q14 rfl (hc_l_bent 15)
  have e14 : Glob l.prog w K mg base ⟨[], [("is_whole", 1), ("is_between", 3), ("is_row", 1), ("number_in", 1), ("row_read", 1), ("_law_cell_at", 2), ("_law_state", 2), ("_law_take", 2), ("", 0), ("_law_row", 2), ("_law_row_text", 1), ("_law_same", 2), ("_law_due", 1), ("_law_bent", 2)], [("MOST_BALLS", .int (12)), ("LEAST_PLACE", .int (-1000000000)), ("MOST_PLACE", .int (1000000000)), ("FIGURES", .str ("0123456789" : Str)), ("MOST_BOXES", .int (200)), ("MOST_FIGURES", .int (30))], false, ["BallError", "NoNumber", "NotFree", "TooLong", "NoRow", "BadNote"], 16, isaL, [("_law_refused", 8)], false⟩ [⟨false, f_is_whole⟩, ⟨false, f_is_between⟩, ⟨false, f_is_row⟩, ⟨false, f_number_in⟩, ⟨false, f_row_read⟩, ⟨false, f_l_cell_at⟩, ⟨false, f_l_state⟩, ⟨true, f_l_take⟩, ⟨false, f_l_refused⟩, ⟨true, f_l_row⟩, ⟨false, f_l_row_text⟩, ⟨false, f_l_same⟩, ⟨false, f_l_due⟩, ⟨true, f_l_bent⟩] := e13.push (x := "_law_bent") (a := 2) (fn := ⟨true, f_l_bent⟩) rfl rfl rfl rfl rfl rfl (by decide) rfl (by decide) F14 (PySem.W.mg_of X G a14) b14 o14
  have q15 : Glob l.prog w K mg base (G_l_right 16) t_l_right := e14.as rfl rfl rfl rfl rfl (by decide)
  have o15 : FnOk l.prog w K mg base (L2.CX l.prog w) 19 f15 (PySem.W.fnOf "_law_right" "_law_right" (defArgs s_l_right) (defBody s_l_right) (defScope s_l_right) .none kV15 dc15 pm15 an15 (.ref cc15) ct15) ["_law_text", "_law_due_here"] (spF 2 (clsOf mg) f_l_right) := fn_ruleL l15 c15 sc_l_right q15 (fun _ => ld15) (hc_l_right 12)
  have e15 : Glob l.prog w K mg base ⟨[], [("is_whole", 1), ("is_between", 3), ("is_row", 1), ("number_in", 1), ("row_read", 1), ("_law_cell_at", 2), ("_law_state", 2), ("_law_take", 2), ("", 0), ("_law_row", 2), ("_law_row_text", 1), ("_law_same", 2), ("_law_due", 1), ("_law_bent", 2), ("_law_right", 2)], [("MOST_BALLS", .int (12)), ("LEAST_PLACE", .int (-1000000000)), ("MOST_PLACE", .int (1000000000)), ("FIGURES", .str ("0123456789" : Str)), ("MOST_BOXES", .int (200)), ("MOST_FIGURES", .int (30))], false, ["BallError", "NoNumber", "NotFree", "TooLong", "NoRow", "BadNote"], 19, isaL, [("_law_refused", 8)], false⟩ [⟨false, f_is_whole⟩, ⟨false, f_is_between⟩, ⟨false, f_is_row⟩, ⟨false, f_number_in⟩, ⟨false, f_row_read⟩, ⟨false, f_l_cell_at⟩, ⟨false, f_l_state⟩, ⟨true, f_l_take⟩, ⟨false, f_l_refused⟩, ⟨true, f_l_row⟩, ⟨false, f_l_row_text⟩, ⟨false, f_l_same⟩, ⟨false, f_l_due⟩, ⟨true, f_l_bent⟩, ⟨false, f_l_right⟩] := e14.push (x := "_law_right") (a := 2) (fn := ⟨false, f_l_right⟩) rfl rfl rfl rfl rfl rfl (by decide) rfl (by decide) F15 (PySem.W.mg_of X G a15) b15 o15
  have q16 : Glob l.prog w K mg base (G_law 19) t_law := e15.as rfl rfl rfl rfl rfl (by decide)
  have o16 : FnOk l.prog w K mg base (L2.CX l.prog w) 22 fa (PySem.W.fnOf "law" "law" (defArgs s_law) (defBody s_law) (defScope s_law) .none kV16 dc16 pm16 an16 (.ref cc16) ct16) ["_law_script"] (spF 1 (clsOf mg) f_law) := fn_ruleL l16 c16 sc_law q16 (fun _ => ld16) (hc_law 15)
  exact o16.imp (law_sp nl main)
end
end BX.k92
open PySem PySem.W PyProof.Rows
set_option maxHeartbeats 0 in
theorem PySem.Challenge.cw_boxballs_k92_texts_that_write_none_holds : PySem.Challenge.rw_boxballs_k92_texts_that_write_none.Holds := by
  w_on; o_law; k_head; (case hw => w_witness2)
  k_fill
  refine LamX.walk_ofTs (l := PySem.Challenge.rw_boxballs_k92_texts_that_write_none) (n := 63) (k := 22) (x := "_law_script") (CX := fun w => L2.CX PySem.Challenge.pw_boxballs_k92_texts_that_write_none w) rfl (by decide) rfl ⟨rfl, by decide, by decide⟩ (fun w h Y => PySem.W.km_in_of Y) ?F (fun _ _ _ _ _ h => BX.cx_no h)
  case F =>
    intro w mg fa h Y KX G hmg
    refine' BX.k92.all_mk (l := PySem.Challenge.rw_boxballs_k92_texts_that_write_none) PySem.F.excBase_ValueError BX.k92.main KX G hmg ?ga0 ?gb0 ?gc0 ?gd0 ?ge0 ?gf0 ?gg0 ?gh0 ?gi0 ?gj0 ?ga1 ?gb1 ?gc1 ?gd1 ?ge1 ?gf1 ?gg1 ?gh1 ?gi1 ?gj1 ?ga2 ?gb2 ?gc2 ?gd2 ?ge2 ?gf2 ?gg2 ?gh2 ?gi2 ?gj2 ?ga3 ?gb3 ?gc3 ?gd3 ?ge3 ?gf3 ?gg3 ?gh3 ?gi3 ?gj3 ?ga4 ?gb4 ?gc4 ?gd4 ?ge4 ?gf4 ?gg4 ?gh4 ?gi4 ?gj4 ?ga5 ?gb5 ?gc5 ?gd5 ?ge5 ?gf5 ?gg5 ?gh5 ?gi5 ?gj5 ?gn ?gt ?gv ?gk0 ?gk1 ?gk2 ?gk3 ?gk4 ?gk5 ?gk6 ?gk7 ?gk8 ?gk9 ?gk10 ?gk11 ?gk12 ?gk13 ?gk14 ?gk15 ?gk16 ?gk17 ?gk18 ?gk19 ?gk20 ?gk21 ?gk22 ?gk23 ?gk24 ?gk25 ?gk26 ?gk27 ?gk28 ?gk29 ?gk30 ?gk31 ?gk32 ?gk33 ?gk34 ?gk35 ?gxBallError0 ?gxBallError1 ?gxBallError2 ?gxBallError3 ?gxBallError4 ?gxBallError5 ?a1 ?l1 ?c1 ?k1 ?a2 ?l2 ?c2 ?k2 ?a3 ?l3 ?c3 ?k3 ?a4 ?l4 ?c4 ?k4 ?a5 ?l5 ?c5 ?k5 ?a6 ?l6 ?c6 ?k6 ?a7 ?l7 ?c7 ?k7 ?a8 ?l8 ?c8 ?k8 ?a9 ?l9 ?c9 ?k9 ?a10 ?l10 ?c10 ?k10 ?a11 ?l11 ?c11 ?k11 ?a12 ?l12 ?c12 ?k12 ?a13 ?l13 ?c13 ?k13 ?a14 ?l14 ?c14 ?k14 ?a15 ?l15 ?c15 ?k15 ?lo15 ?lp15 ?lh15 ?lt15 ?ln15 ?a16 ?l16 ?c16 ?k16 ?lo16 ?lp16 ?lh16 ?lt16 ?ln16 ?pn15_16 ?z0 ?z1 ?z2 ?z3 ?z4 ?z5 ?z6 ?z7 ?z8 ?z9 ?z10 ?z11 ?z12 ?z13 ?z14 ?z15 ?z16 ?z17 ?z18 ?y0 ?y1 ?y2 ?y3 ?y4 ?y5 ?nl
    (case ga0 => k_is); (case gb0 => first | k_is | kernel_rfl); (case gc0 => k_is); (case gd0 => k_is); (case ge0 => k_is); (case gf0 => k_is); (case gg0 => k_is); (case gh0 => k_is); (case gi0 => k_is); (case gj0 => k_is); (case ga1 => k_is); (case gb1 => first | k_is | kernel_rfl); (case gc1 => k_is); (case gd1 => k_is); (case ge1 => k_is); (case gf1 => k_is); (case gg1 => k_is); (case gh1 => k_is); (case gi1 => k_is); (case gj1 => k_is); (case ga2 => k_is); (case gb2 => first | k_is | kernel_rfl); (case gc2 => k_is); (case gd2 => k_is); (case ge2 => k_is); (case gf2 => k_is); (case gg2 => k_is); (case gh2 => k_is); (case gi2 => k_is); (case gj2 => k_is); (case ga3 => k_is); (case gb3 => first | k_is | kernel_rfl); (case gc3 => k_is); (case gd3 => k_is); (case ge3 => k_is); (case gf3 => k_is); (case gg3 => k_is); (case gh3 => k_is); (case gi3 => k_is); (case gj3 => k_is); (case ga4 => k_is); (case gb4 => first | k_is | kernel_rfl); (case gc4 => k_is); (case gd4 => k_is); (case ge4 => k_is); (case gf4 => k_is); (case gg4 => k_is); (case gh4 => k_is); (case gi4 => k_is); (case gj4 => k_is); (case ga5 => k_is); (case gb5 => first | k_is | kernel_rfl); (case gc5 => k_is); (case gd5 => k_is); (case ge5 => k_is); (case gf5 => k_is); (case gg5 => k_is); (case gh5 => k_is); (case gi5 => k_is); (case gj5 => k_is); (case gn => k_is); (case gt => k_is); (case gv => k_is); (case gk0 => first | k_is | kernel_rfl); (case gk1 => first | k_is | kernel_rfl); (case gk2 => first | k_is | kernel_rfl); (case gk3 => first | k_is | kernel_rfl); (case gk4 => first | k_is | kernel_rfl); (case gk5 => first | k_is | kernel_rfl); (case gk6 => first | k_is | kernel_rfl); (case gk7 => first | k_is | kernel_rfl); (case gk8 => first | k_is | kernel_rfl); (case gk9 => first | k_is | kernel_rfl); (case gk10 => first | k_is | kernel_rfl); (case gk11 => first | k_is | kernel_rfl); (case gk12 => first | k_is | kernel_rfl); (case gk13 => first | k_is | kernel_rfl); (case gk14 => first | k_is | kernel_rfl); (case gk15 => first | k_is | kernel_rfl); (case gk16 => first | k_is | kernel_rfl); (case gk17 => first | k_is | kernel_rfl); (case gk18 => first | k_is | kernel_rfl); (case gk19 => first | k_is | kernel_rfl); (case gk20 => first | k_is | kernel_rfl); (case gk21 => first | k_is | kernel_rfl); (case gk22 => first | k_is | kernel_rfl); (case gk23 => first | k_is | kernel_rfl); (case gk24 => first | k_is | kernel_rfl); (case gk25 => first | k_is | kernel_rfl); (case gk26 => first | k_is | kernel_rfl); (case gk27 => first | k_is | kernel_rfl); (case gk28 => first | k_is | kernel_rfl); (case gk29 => first | k_is | kernel_rfl); (case gk30 => first | k_is | kernel_rfl); (case gk31 => first | k_is | kernel_rfl); (case gk32 => first | k_is | kernel_rfl); (case gk33 => first | k_is | kernel_rfl); (case gk34 => first | k_is | kernel_rfl); (case gk35 => first | k_is | kernel_rfl); (case gxBallError0 => first | k_is | kernel_rfl); (case gxBallError1 => first | k_is | kernel_rfl); (case gxBallError2 => first | k_is | kernel_rfl); (case gxBallError3 => first | k_is | kernel_rfl); (case gxBallError4 => first | k_is | kernel_rfl); (case gxBallError5 => first | k_is | kernel_rfl); (case a1 => k_is); (case l1 => k_is); (case c1 => k_is); (case k1 => k_is); (case a2 => k_is); (case l2 => k_is); (case c2 => k_is); (case k2 => k_is); (case a3 => k_is); (case l3 => k_is); (case c3 => k_is); (case k3 => k_is); (case a4 => k_is); (case l4 => k_is); (case c4 => k_is); (case k4 => k_is); (case a5 => k_is); (case l5 => k_is); (case c5 => k_is); (case k5 => k_is); (case a6 => k_is); (case l6 => k_is); (case c6 => k_is); (case k6 => k_is); (case a7 => k_is); (case l7 => k_is); (case c7 => k_is); (case k7 => k_is); (case a8 => k_is); (case l8 => k_is); (case c8 => k_is); (case k8 => k_is); (case a9 => k_is); (case l9 => k_is); (case c9 => k_is); (case k9 => k_is); (case a10 => k_is); (case l10 => k_is); (case c10 => k_is); (case k10 => k_is); (case a11 => k_is); (case l11 => k_is); (case c11 => k_is); (case k11 => k_is); (case a12 => k_is); (case l12 => k_is); (case c12 => k_is); (case k12 => k_is); (case a13 => k_is); (case l13 => k_is); (case c13 => k_is); (case k13 => k_is); (case a14 => k_is); (case l14 => k_is); (case c14 => k_is); (case k14 => k_is); (case a15 => k_is); (case l15 => k_is); (case c15 => k_is); (case k15 => k_is); (case lo15 => k_is); (case lp15 => first | rfl | with_unfolding_all rfl); (case lh15 => first | kernel_rfl | rfl); (case lt15 => exact PySem.W.km_tabs_of Y _ (by k_mem)); (case ln15 => first | kernel_rfl | rfl); (case a16 => k_is); (case l16 => k_is); (case c16 => k_is); (case k16 => k_is); (case lo16 => k_is); (case lp16 => first | rfl | with_unfolding_all rfl); (case lh16 => first | kernel_rfl | rfl); (case lt16 => exact PySem.W.km_tabs_of Y _ (by k_mem)); (case ln16 => first | kernel_rfl | rfl); (case pn15_16 => decide); (case z0 => k_is); (case z1 => k_is); (case z2 => k_is); (case z3 => k_is); (case z4 => k_is); (case z5 => k_is); (case z6 => k_is); (case z7 => k_is); (case z8 => k_is); (case z9 => k_is); (case z10 => k_is); (case z11 => k_is); (case z12 => k_is); (case z13 => k_is); (case z14 => k_is); (case z15 => k_is); (case z16 => k_is); (case z17 => k_is); (case z18 => k_is); (case y0 => k_is); (case y1 => k_is); (case y2 => k_is); (case y3 => k_is); (case y4 => k_is); (case y5 => k_is); (case nl => first | k_is | rfl)
