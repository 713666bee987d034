import PyProof.Rows.All
import Wide.All
import OpenK.AllK
import Wide.FinOn
import HandS.ForMost
import HandS.TupAny
import HandS.TupMul
import HandS.SortInts
import HandS.Flow
import HandS.Deep
import HandS.IsInst
import HandS.TupLe
import HandS.Style
import HandS.Zip
import HandS.Sort
import HandS.SetFor
import HandS.Exc
import HandS.Replace
import HandS.ExcOwn
import HandS.WordsExc
import KE.KIndexOf
import PyProof.ListCopy
import PyProof.StrOps2
import PyProof.EnumMake
import PyProof.Draws
import HandS.Strs
import HandS.SuiteRaise
import HandS.ExcIs
import KE.RegKIsAll
import HandS.DeepEq
import PySem.Challenge.RW_turnsieves_k20_sieves_apart
set_option Elab.async false
set_option linter.all false
set_option maxRecDepth 100000
set_option maxHeartbeats 8000000
/-! Tv: a layer of values over HandS: what Python data stands for (Rp), frames of owned things, expressions and statements as plain functions. -/
namespace Tv
open PySem PySem.Spec L2
abbrev D := PyData
/-- the script's own list -/
def scr (ns : List Int) : D := .dict [(.list (ns.map .int), .none)]
/-- a tuple whose object is known to the letter (it has no dict of its own) -/
def xtup (ds : List D) : D := .dict [(.tuple ds, .bool true)]
theorem _root_.L2.Rd.mono {H H' : Hp} {a : Addr} {u : HO} (s : Same H H') (r : Rd H a u) : Rd H' a u := r.imp (s _ _) fun ⟨o, e⟩ => ⟨o, s _ _ e⟩
/-- the exception at a, of which no more is known -/
def excD (a : Addr) : D := .dict [(.bool true, .int (Int.ofNat a))]
/-- a dict of int keys -/
def dks (ks : List Int) : D := .dict (ks.map fun k => (.int k, .none))
mutual
inductive Rp (K : PySem.W.Frag) (H : Hp) : V → D → Prop
  | non : Rp K H .non .none
  | bl (b : Bool) : Rp K H (.bl b) (.bool b)
  | int (i : Int) : Rp K H (.int i) (.int i)
  | str (x : Str) : Rp K H (.str x) (.str x)
  | lst {a : Addr} {xs : List V} {ds : List D} : H a = some (.lst xs) → RpA K H xs ds → Rp K H (.ref a) (.list ds)
  | tup {a : Addr} {xs : List V} {ds : List D} : Rd H a (.tup xs) → RpA K H xs ds → Rp K H (.ref a) (.tuple ds)
  | xtp {a : Addr} {o : Obj} {xs : List V} {ds : List D} : H a = some (.frz o (.tup xs)) → o.dict = Option.none → RpA K H xs ds → Rp K H (.ref a) (xtup ds)
  | dct {a : Addr} {o : Obj} {kvs : List (Key × V)} {ks : List Int} : H a = some (.frz o (.dK kvs)) → kvs = ks.map (fun k => (Sum.inl k, V.bl true)) → Rp K H (.ref a) (dks ks)
  | scr {a : Addr} {ns : List Int} : SqL K H a (ns.map V.int) → Rp K H (.ref a) (scr ns)
  | exc (a : Addr) : Rp K H (.ref a) (excD a)
inductive RpA (K : PySem.W.Frag) (H : Hp) : List V → List D → Prop
  | nil : RpA K H [] []
  | cons {v : V} {vs : List V} {d : D} {ds : List D} : Rp K H v d → RpA K H vs ds → RpA K H (v :: vs) (d :: ds)
end
section
variable {K : PySem.W.Frag} {H H' : Hp}
mutual
theorem Rp.mono (s : Same H H') : ∀ {v : V} {d : D}, Rp K H v d → Rp K H' v d
  | _, _, .non => .non
  | _, _, .bl b => .bl b
  | _, _, .int i => .int i
  | _, _, .str x => .str x
  | _, _, .lst h t => .lst (s _ _ h) (RpA.mono s t)
  | _, _, .tup h t => .tup (h.mono s) (RpA.mono s t)
  | _, _, .xtp h d t => .xtp (s _ _ h) d (RpA.mono s t)
  | _, _, .dct h e => .dct (s _ _ h) e
  | _, _, .scr h => .scr (s.seq h)
  | _, _, .exc a => .exc a
theorem RpA.mono (s : Same H H') : ∀ {vs : List V} {ds : List D}, RpA K H vs ds → RpA K H' vs ds
  | _, _, .nil => .nil
  | _, _, .cons h t => .cons (Rp.mono s h) (RpA.mono s t)
end
theorem RpA.length : ∀ {vs : List V} {ds : List D}, RpA K H vs ds → vs.length = ds.length
  | _, _, .nil => rfl
  | _, _, .cons _ t => by simp [RpA.length t]
theorem RpA.get : ∀ {vs : List V} {ds : List D} {i : Nat} {d : D}, RpA K H vs ds → ds[i]? = some d → ∃ v, vs[i]? = some v ∧ Rp K H v d
  | _, _, _, _, .nil, e => by simp at e
  | _, _, 0, _, .cons h _, e => by simp at e; subst e; exact ⟨_, rfl, h⟩
  | _, _, i + 1, d, .cons _ t, e => by
    obtain ⟨v, h1, h2⟩ := RpA.get (i := i) (d := d) t (by simpa using e)
    exact ⟨v, by simpa using h1, h2⟩
theorem RpA.append : ∀ {vs ws : List V} {ds es : List D}, RpA K H vs ds → RpA K H ws es → RpA K H (vs ++ ws) (ds ++ es)
  | _, _, _, _, .nil, s => s
  | _, _, _, _, .cons h t, s => .cons h (RpA.append t s)
theorem RpA.one {v : V} {d : D} (h : Rp K H v d) : RpA K H [v] [d] := .cons h .nil
theorem RpA.take : ∀ {vs : List V} {ds : List D} (n : Nat), RpA K H vs ds → RpA K H (vs.take n) (ds.take n)
  | _, _, 0, _ => .nil
  | _, _, _ + 1, .nil => .nil
  | _, _, n + 1, .cons h t => .cons h (RpA.take n t)
theorem RpA.drop : ∀ {vs : List V} {ds : List D} (n : Nat), RpA K H vs ds → RpA K H (vs.drop n) (ds.drop n)
  | _, _, 0, r => r
  | _, _, _ + 1, .nil => .nil
  | _, _, n + 1, .cons _ t => RpA.drop n t
theorem RpA.reverse : ∀ {vs : List V} {ds : List D}, RpA K H vs ds → RpA K H vs.reverse ds.reverse
  | _, _, .nil => .nil
  | _, _, .cons h t => by
    rw [List.reverse_cons, List.reverse_cons]
    exact (RpA.reverse t).append (.one h)
theorem RpA.set {v : V} {d : D} (h : Rp K H v d) : ∀ {vs : List V} {ds : List D} (i : Nat), RpA K H vs ds → RpA K H (vs.set i v) (ds.set i d)
  | _, _, _, .nil => .nil
  | _, _, 0, .cons _ t => .cons h t
  | _, _, i + 1, .cons q t => .cons q (RpA.set h i t)
theorem RpA.eraseIdx : ∀ {vs : List V} {ds : List D} (i : Nat), RpA K H vs ds → RpA K H (vs.eraseIdx i) (ds.eraseIdx i)
  | _, _, _, .nil => .nil
  | _, _, 0, .cons _ t => t
  | _, _, i + 1, .cons q t => .cons q (RpA.eraseIdx i t)
theorem RpA.rep {vs : List V} {ds : List D} (r : RpA K H vs ds) : ∀ k : Nat, RpA K H (List.replicate k vs).flatten (List.replicate k ds).flatten
  | 0 => .nil
  | k + 1 => by
    rw [List.replicate_succ, List.replicate_succ, List.flatten_cons, List.flatten_cons]
    exact r.append (RpA.rep r k)
theorem RpA.ints : ∀ {vs : List V} {ns : List Int}, RpA K H vs (ns.map .int) → vs = ns.map V.int
  | _, [], .nil => rfl
  | _, n :: ns, .cons h t => by
    cases h
    rw [RpA.ints t]; rfl
theorem RpA.of_ints : ∀ (ns : List Int), RpA K H (ns.map V.int) (ns.map .int)
  | [] => .nil
  | n :: ns => .cons (.int n) (RpA.of_ints ns)
theorem RpA.strs : ∀ {vs : List V} {ns : List Str}, RpA K H vs (ns.map .str) → vs = ns.map V.str
  | _, [], .nil => rfl
  | _, n :: ns, .cons h t => by
    cases h
    rw [RpA.strs t]; rfl
theorem RpA.of_strs : ∀ (ns : List Str), RpA K H (ns.map V.str) (ns.map .str)
  | [] => .nil
  | n :: ns => .cons (.str n) (RpA.of_strs ns)
theorem RpA.bls : ∀ {vs : List V} {ns : List Bool}, RpA K H vs (ns.map .bool) → vs = ns.map V.bl
  | _, [], .nil => rfl
  | _, n :: ns, .cons h t => by
    cases h
    rw [RpA.bls t]; rfl
theorem Rp.non_inv {v : V} (h : Rp K H v .none) : v = .non := by cases h; rfl
theorem Rp.bl_inv {v : V} {b : Bool} (h : Rp K H v (.bool b)) : v = .bl b := by cases h; rfl
theorem Rp.int_inv {v : V} {i : Int} (h : Rp K H v (.int i)) : v = .int i := by cases h; rfl
theorem Rp.str_inv {v : V} {x : Str} (h : Rp K H v (.str x)) : v = .str x := by cases h; rfl
theorem Rp.lst_inv {v : V} {ds : List D} (h : Rp K H v (.list ds)) : ∃ a xs, v = .ref a ∧ H a = some (.lst xs) ∧ RpA K H xs ds := by
  cases h with
  | lst h t => exact ⟨_, _, rfl, h, t⟩
theorem Rp.tup_inv {v : V} {ds : List D} (h : Rp K H v (.tuple ds)) : ∃ a xs, v = .ref a ∧ Rd H a (.tup xs) ∧ RpA K H xs ds := by
  cases h with
  | tup h t => exact ⟨_, _, rfl, h, t⟩
/-! what == is asked of -/
mutual
theorem Rp.dp : ∀ {d : D} {v : V}, d.canLay0 = true → Rp K H v d → Dp K H v d
  | .none, _, _, .non => .non
  | .bool _, _, _, .bl b => .bl b
  | .int _, _, _, .int i => .int i
  | .str _, _, _, .str x => .str x
  | .list _, _, c, .lst h t => .lst (.of h) (RpA.dp (by simpa [PyData.canLay0] using c) t)
  | .tuple _, _, c, .tup h t => .tup (.inl h) (RpA.dp (by simpa [PyData.canLay0] using c) t)
  | .dict _, _, c, _ => by simp [PyData.canLay0] at c
theorem RpA.dp : ∀ {ds : List D} {vs : List V}, PyData.canLayAll0 ds = true → RpA K H vs ds → DpAll K H vs ds
  | [], _, _, .nil => .nil
  | _ :: _, _, c, .cons h t => by
    have c' := c
    simp only [PyData.canLayAll0, Bool.and_eq_true] at c'
    exact .cons (Rp.dp c'.1 h) (RpA.dp c'.2 t)
end
end
/-! ### what stands apart while something runs -/
def frOk : HO → Prop
  | .lst _ => True
  | .dK _ => True
  | .ins _ _ _ => True
  | .own _ => True
  | _ => False
/-- H0 is H without the things at F -/
structure Frm (H H0 : Hp) (F : Addr → Bool) : Prop where
  off : ∀ b, F b = false → H0 b = H b
  on : ∀ b, F b = true → H0 b = none ∧ ∃ o, H b = some o ∧ frOk o
  own1 : ∀ a C dx fs, F a = true → H a = some (.ins C dx fs) → F dx = true
  own2 : ∀ a c, F a = false → H c = some (.own a) → F c = false
  ins : ∀ b a, F b = true → H b = some (.own a) → ∃ C fs, H a = some (.ins C b fs)
def back (H H0' : Hp) (F : Addr → Bool) : Hp := fun b => if F b = true then H b else H0' b
theorem Frm.sub {H H0 : Hp} {F : Addr → Bool} (f : Frm H H0 F) : Same H0 H := fun b o e => by
  cases q : F b with
  | false => rw [← f.off b q]; exact e
  | true => rw [(f.on b q).1] at e; cases e
theorem Frm.none {H H0 : Hp} {F : Addr → Bool} (f : Frm H H0 F) {b : Addr} (e : H b = none) : H0 b = none := by
  cases q : F b with
  | false => rw [f.off b q]; exact e
  | true => exact (f.on b q).1
theorem Frm.notF {H H0 : Hp} {F : Addr → Bool} (f : Frm H H0 F) {b : Addr} (e : H b = Option.none) : F b = false := by
  cases q : F b with
  | false => rfl
  | true =>
    obtain ⟨_, o, e', _⟩ := f.on b q
    rw [e] at e'; cases e'
theorem Frm.keep {H H0 : Hp} {F : Addr → Bool} (f : Frm H H0 F) {b : Addr} {o : HO} (e : H b = some o) (n : ¬ frOk o) : F b = false ∧ H0 b = some o := by
  cases q : F b with
  | false => exact ⟨rfl, by rw [f.off b q]; exact e⟩
  | true =>
    obtain ⟨_, o', e', h⟩ := f.on b q
    rw [e] at e'; cases e'
    exact absurd h n
section
variable {X : Cx} {pins : List (Addr × Obj)} {σ : St} {H H0 : Hp} {s : Shared} {F : Addr → Bool}
def pinsF (h : Heap) (F : Addr → Bool) : List (Addr × Obj) := pinsAt ((List.range h.objs.size).filter F) h
theorem Inv.front (I : Inv X pins σ H s) (f : Frm H H0 F) : Inv X (pins ++ pinsF s.heap F) σ H0 s := by
  refine ⟨I.ok, I.os, I.bare, ⟨I.base.keep, I.base.slot, fun b o q n hx => f.none (I.base.free b o q n hx), I.base.there, fun b xs q => (f.keep (I.base.tups b xs q) id).2, fun b o u q => (f.keep (I.base.frzs b o u q) id).2, fun b ps q => ?_⟩,
    I.loc, I.cell, f.none I.free, fun x c e => f.none (I.freeC x c e), fun p hp => ?_, fun b o e => ?_, I.len⟩
  · obtain ⟨m, e⟩ := I.base.tbls b ps q
    exact ⟨m, (f.keep e id).2⟩
  · rw [← List.append_assoc] at hp
    rcases List.mem_append.mp hp with hp | hp
    · obtain ⟨a, b, c⟩ := I.pin p hp
      exact ⟨a, f.none b, c⟩
    · obtain ⟨hb, e⟩ := of_pinsAt hp
      have hF : F p.1 = true := (List.mem_filter.mp hb).2
      obtain ⟨n0, o, eo, ok⟩ := f.on _ hF
      have hob := I.hok _ _ eo
      refine ⟨e, n0, fun z => ?_, fun z => ?_, fun v z => ?_⟩
      · rw [z, I.free] at eo; cases eo
      · obtain ⟨_, oz, hoz, _⟩ := I.ok.funs.mem z
        rw [I.base.free p.1 oz hoz (I.ok.frf _ z) (fun w => I.ok.exfs _ w z)] at eo
        cases eo
      · cases o with
        | lst xs =>
          obtain ⟨_, its, n, _, e'⟩ := hob
          rw [Option.some.inj (e.symm.trans e')] at z; cases z
        | dK kvs =>
          obtain ⟨_, _, vs, _, ob, es, ep, e', h1, h2, _⟩ := hob
          rw [Option.some.inj (e.symm.trans e'), h2] at z; cases z
        | ins C dx fs =>
          obtain ⟨_, _, _, e', _⟩ := hob
          rw [Option.some.inj (e.symm.trans e')] at z; cases z
        | own x =>
          obtain ⟨C, fs, ei⟩ := f.ins _ _ hF eo
          obtain ⟨_, _, _, _, mA, ⟨od, es, ep, e', h2, _⟩, _⟩ := I.hok _ _ ei
          rw [Option.some.inj (e.symm.trans e'), h2] at z; cases z
        | _ => exact ok
  · have e' := f.sub b o e
    have nF : F b = false := by
      cases q : F b with
      | false => rfl
      | true => rw [(f.on b q).1] at e; cases e
    have hok := I.hok b o e'
    refine hok.stay (fun c u _ q => q) (fun c q => ?_) fun c xs q => (f.keep q id).2
    rw [f.off c (f.own2 b c nF q)]
    exact q
theorem Inv.backF {s' : Shared} {σ' : St} {H0' : Hp} (I : Inv X pins σ H s) (f : Frm H H0 F) (I' : Inv X (pins ++ pinsF s.heap F) σ' H0' s') :
    (∀ b, F b = true → H0' b = none) ∧ Inv X pins σ' (back H H0' F) s' := by
  have at_ : ∀ b, F b = true → ∃ o, s.heap.get? b = some o ∧ s'.heap.get? b = some o ∧ H0' b = none := fun b hb => by
    obtain ⟨_, o, eo, ok⟩ := f.on b hb
    have hlt := (I.hok b o eo).lt
    obtain ⟨ob, hob⟩ : ∃ ob, s.heap.get? b = some ob := by
      have hok := I.hok b o eo
      cases o with
      | lst xs => obtain ⟨_, _, _, _, e⟩ := hok; exact ⟨_, e⟩
      | dK kvs => obtain ⟨_, _, _, _, ob, _, _, e, _⟩ := hok; exact ⟨_, e⟩
      | ins C dx fs => obtain ⟨_, _, _, e, _⟩ := hok; exact ⟨_, e⟩
      | own x => exact hok
      | _ => exact ok.elim
    have hm : (b, ob) ∈ pinsF s.heap F := mem_pinsAt (List.mem_filter.mpr ⟨List.mem_range.mpr hlt, hb⟩) hob
    obtain ⟨h1, h2, _⟩ := I'.pin (b, ob) (List.mem_append_right _ (List.mem_append_right _ hm))
    exact ⟨ob, hob, h1, h2⟩
  have hn : ∀ b, F b = true → H0' b = none := fun b hb => let ⟨_, _, _, h⟩ := at_ b hb; h
  have bF : ∀ b, F b = false → back H H0' F b = H0' b := fun b hb => by unfold back; rw [hb]; rfl
  have bT : ∀ b, F b = true → back H H0' F b = H b := fun b hb => by unfold back; rw [if_pos hb]
  have nfr : ∀ {b : Addr}, H b = none → F b = false := fun e => f.notF e
  refine ⟨hn, I'.ok, I'.os, I'.bare, ⟨I'.base.keep, I'.base.slot, fun b o q n hx => ?_, I'.base.there, fun b xs q => ?_, fun b o u q => ?_, fun b ps q => ?_⟩, I'.loc, I'.cell, ?_, fun x c e => ?_, fun p hp => ?_, fun b o e => ?_, I'.len⟩
  · rw [bF b (nfr (I.base.free b o q n hx))]
    exact I'.base.free b o q n hx
  · rw [bF b (f.keep (I.base.tups b xs q) id).1]
    exact I'.base.tups b xs q
  · rw [bF b (f.keep (I.base.frzs b o u q) id).1]
    exact I'.base.frzs b o u q
  · obtain ⟨m, e⟩ := I.base.tbls b ps q
    rw [bF b (f.keep e id).1]
    exact I'.base.tbls b ps q
  · rw [bF _ (nfr I.free)]; exact I'.free
  · rw [bF _ (nfr (I.freeC x c e))]; exact I'.freeC x c e
  · obtain ⟨h1, h2, h3⟩ := I'.pin p (by rw [← List.append_assoc]; exact List.mem_append_left _ hp)
    refine ⟨h1, ?_, h3⟩
    rw [bF _ (nfr (I.pin p hp).2.1)]
    exact h2
  · cases q : F b with
    | true =>
      rw [bT b q] at e
      have hF : ∀ c u, F c = true → s.heap.get? c = some u → s'.heap.get? c = some u := fun c u hc hu => by
        have hFc : F c = true := hc
        obtain ⟨o', h1, h2, _⟩ := at_ c hFc
        rw [hu] at h1; cases h1; exact h2
      have hok := I.hok b o e
      obtain ⟨_, o2, e2, ok⟩ := f.on b q
      rw [e] at e2; cases e2
      cases o with
      | lst xs => obtain ⟨z, its, n, r, e'⟩ := hok; exact ⟨z, its, n, r, hF _ _ q e'⟩
      | dK kvs => obtain ⟨z, y, vs, r, ob, es, ep, e', c⟩ := hok; exact ⟨z, y, vs, r, ob, es, ep, hF _ _ q e', c⟩
      | ins C dx fs =>
        obtain ⟨d, z, ne, e', mA, ⟨od, es, ep, e2, c⟩, r⟩ := hok
        have qd := f.own1 b C dx fs q e
        exact ⟨by rw [bT dx qd]; exact d, z, ne, hF _ _ q e', mA, ⟨od, es, ep, hF _ _ qd e2, c⟩, r⟩
      | own y => obtain ⟨ob, e'⟩ := hok; exact ⟨ob, hF _ _ q e'⟩
      | _ => exact ok.elim
    | false =>
      rw [bF b q] at e
      refine (I'.hok b o e).stay (fun c u _ h => h) (fun c hc => ?_) fun c xs hc => ?_
      · cases r : F c with
        | false => rw [bF c r]; exact hc
        | true => rw [hn c r] at hc; cases hc
      · cases r : F c with
        | false => rw [bF c r]; exact hc
        | true => rw [hn c r] at hc; cases hc
end
end Tv

namespace Tv
open PySem PySem.Spec L2
/-! ### running beside framed things -/
def tFr (t : TE) : TE := fun σ H Q => ∃ H0 F, Frm H H0 F ∧ t σ H0 fun v H0' => (∀ b, F b = true → H0' b = none) → Q v (back H H0' F)
def tFrT (t : TT) : TT := fun σ H Q => ∃ H0 F, Frm H H0 F ∧ t σ H0 fun v H0' => (∀ b, F b = true → H0' b = none) → Q v (back H H0' F)
def tFrI (w : TI) : TI := fun σ H R => ∃ H0 F, Frm H H0 F ∧ w σ H0 fun J H0' => (∀ b, F b = true → H0' b = none) → R J (back H H0' F)
section
variable {X : Cx} {e : Expr}
theorem fr_e {t : TE} (h : PE X e t) : PE X e (tFr t) := by
  refine ⟨fun pins s σ H Q I hw => ?_⟩
  obtain ⟨H0, F, f, hw⟩ := hw
  refine thn (h.run _ s σ H0 _ (Inv.front I f) hw) fun v s1 ⟨x, H1, I1, r1, q1⟩ => ?_
  obtain ⟨hn, I2⟩ := Inv.backF I f I1
  exact ⟨x, _, I2, r1, q1 hn⟩
theorem fr_t {t : TT} (h : PT X e t) : PT X e (tFrT t) := by
  refine ⟨fun pins s σ H Q I hw => ?_⟩
  obtain ⟨H0, F, f, hw⟩ := hw
  refine thn (h.run _ s σ H0 _ (Inv.front I f) hw) fun v s1 ⟨H1, I1, q1⟩ => ?_
  obtain ⟨hn, I2⟩ := Inv.backF I f I1
  exact ⟨_, I2, q1 hn⟩
theorem frts {ifs : List Expr} {t : TT} (h : PTs X ifs t) : PTs X ifs (tFrT t) := by
  refine ⟨fun pins s σ H Q I hw => ?_⟩
  obtain ⟨H0, F, f, hw⟩ := hw
  refine thn (h.run _ s σ H0 _ (Inv.front I f) hw) fun v s1 ⟨H1, I1, q1⟩ => ?_
  obtain ⟨hn, I2⟩ := Inv.backF I f I1
  exact ⟨_, I2, q1 hn⟩
theorem pinsF_at {pins : List (Addr × Obj)} {σ : L2.St} {H H0 : Hp} {s : Shared} {F : Addr → Bool} (I : L2.Inv X pins σ H s) (f : Frm H H0 F) {b : Addr} (hb : F b = true) : ∃ o, (b, o) ∈ pinsF s.heap F := by
  obtain ⟨_, o, eo, ok⟩ := f.on b hb
  have hlt := (I.hok b o eo).lt
  have hok := I.hok b o eo
  have : ∃ ob, s.heap.get? b = some ob := by
    cases o with
    | lst xs => obtain ⟨_, _, _, _, e⟩ := hok; exact ⟨_, e⟩
    | dK kvs => obtain ⟨_, _, _, _, ob, _, _, e, _⟩ := hok; exact ⟨_, e⟩
    | ins C dx fs => obtain ⟨_, _, _, e, _⟩ := hok; exact ⟨_, e⟩
    | own x => exact hok
    | _ => exact ok.elim
  obtain ⟨ob, hob⟩ := this
  exact ⟨ob, mem_pinsAt (List.mem_filter.mpr ⟨List.mem_range.mpr hlt, hb⟩) hob⟩
theorem fr_i {tg : Expr} {t : TI} (h : PI X tg e t) : PI X tg e (tFrI t) := by
  refine ⟨fun pins s σ H R I hw => ?_⟩
  obtain ⟨H0, F, f, hw⟩ := hw
  refine thn (h.run _ s σ H0 _ (Inv.front I f) hw) fun v s1 h1 => thn h1 fun itv s2 h2 => ?_
  obtain ⟨it, fp, tn, J, H1, e1, I1, T, st, fo, q1⟩ := h2
  obtain ⟨hn, I2⟩ := Inv.backF I f I1
  refine ⟨it, fp, tn, J, _, e1, I2, T, st, fun b hb => ?_, q1 hn⟩
  obtain ⟨f0, f1, f2, f3, f4, f5⟩ := fo b hb
  have nF : F b = false := by
    cases q : F b with
    | false => rfl
    | true =>
      obtain ⟨o, ho⟩ := pinsF_at I f q
      exact absurd rfl (f5 (b, o) (List.mem_append_right _ (List.mem_append_right _ ho)))
  refine ⟨by unfold back; rw [nF]; exact f0, f1, f2, f3, f4, fun p hp => f5 p ?_⟩
  rw [← List.append_assoc]
  exact List.mem_append_left _ hp
theorem _root_.L2.PE.imw {t t' : TE} (h : PE X e t) (w : ∀ σ H Q, t' σ H Q → t σ H Q) : PE X e t' := ⟨fun pins s σ H Q I hw => h.run pins s σ H Q I (w σ H Q hw)⟩
theorem _root_.L2.PT.imw {t t' : TT} (h : PT X e t) (w : ∀ σ H Q, t' σ H Q → t σ H Q) : PT X e t' := ⟨fun pins s σ H Q I hw => h.run pins s σ H Q I (w σ H Q hw)⟩
theorem _root_.L2.PTs.imw {ifs : List Expr} {t t' : TT} (h : PTs X ifs t) (w : ∀ σ H Q, t' σ H Q → t σ H Q) : PTs X ifs t' := ⟨fun pins s σ H Q I hw => h.run pins s σ H Q I (w σ H Q hw)⟩
theorem _root_.L2.PA.imw {es : List Expr} {t t' : TA} (h : PA X es t) (w : ∀ σ H Q, t' σ H Q → t σ H Q) : PA X es t' := ⟨fun pos pins s σ H Q I hw => h.run pos pins s σ H Q I (w σ H Q hw)⟩
theorem _root_.L2.PI.imw {tg : Expr} {t t' : TI} (h : PI X tg e t) (w : ∀ σ H Q, t' σ H Q → t σ H Q) : PI X tg e t' := ⟨fun pins s σ H Q I hw => h.run pins s σ H Q I (w σ H Q hw)⟩
theorem _root_.L2.PS.imw {st : Stmt} {t t' : TS} (h : PS X st t) (w : ∀ D σ H, t' D σ H → t D σ H) : PS X st t' := ⟨fun pins s σ H D I hw => h.run pins s σ H D I (w D σ H hw)⟩
theorem _root_.L2.PSs.imw {st : List Stmt} {t t' : TS} (h : PSs X st t) (w : ∀ D σ H, t' D σ H → t D σ H) : PSs X st t' := ⟨fun pins s σ H D I hw => h.run pins s σ H D I (w D σ H hw)⟩
end
/-! ### slots and what they stand for -/
inductive Sl where
  | un | val (d : D) | own (ds : List D) | sv (C : Addr) (d : D) | svF (C : Addr) (d : D)
abbrev Store := List Sl
/-- an instance at a, its strikes -/
def SvAt (K : PySem.W.Frag) (H : Hp) (C : Addr) (d : D) (v : V) : Prop := ∃ a dx w, v = .ref a ∧ a ≠ dx ∧ H a = some (.ins C dx [("strikes", w)]) ∧ H dx = some (.own a) ∧ Rp K H w d
theorem SvAt.mono {K : PySem.W.Frag} {H H' : Hp} {C : Addr} {d : D} {v : V} (s : Same H H') : SvAt K H C d v → SvAt K H' C d v := fun ⟨a, dx, w, e, n, h1, h2, r⟩ => ⟨a, dx, w, e, n, s _ _ h1, s _ _ h2, r.mono s⟩
structure EvV (K : PySem.W.Frag) (ρ : Store) (σ : L2.St) (H : Hp) : Prop where
  len : σ.length = ρ.length
  val : ∀ (i : Nat) (d : D), ρ[i]? = some (.val d) → ∃ v, σ[i]? = some (some v) ∧ Rp K H v d
  sv : ∀ (i : Nat) (C : Addr) (d : D), ρ[i]? = some (.svF C d) → ∃ v, σ[i]? = some (some v) ∧ SvAt K H C d v
theorem EvV.mono {K : PySem.W.Frag} {ρ : Store} {σ : L2.St} {H H' : Hp} (E : EvV K ρ σ H) (s : Same H H') : EvV K ρ σ H' :=
  ⟨E.len, fun i d h => let ⟨v, a, b⟩ := E.val i d h; ⟨v, a, b.mono s⟩, fun i C d h => let ⟨v, a, b⟩ := E.sv i C d h; ⟨v, a, b.mono s⟩⟩
theorem EvV.set {K : PySem.W.Frag} {ρ : Store} {σ : L2.St} {H : Hp} {v : V} {d : D} (E : EvV K ρ σ H) (i : Nat) (r : Rp K H v d) : EvV K (ρ.set i (.val d)) (σ.set i (some v)) H := by
  refine ⟨by simp [E.len], fun j e h => ?_, fun j C e h => ?_⟩
  · by_cases hj : i = j
    · subst hj
      rw [List.getElem?_set] at h
      simp only [if_true] at h
      split at h
      · cases h
        rename_i hi
        exact ⟨v, by rw [List.getElem?_set_self (by rw [E.len]; exact hi)], r⟩
      · cases h
    · rw [List.getElem?_set_ne hj] at h
      obtain ⟨w, a, b⟩ := E.val j e h
      exact ⟨w, by rw [List.getElem?_set_ne hj]; exact a, b⟩
  · by_cases hj : i = j
    · subst hj
      rw [List.getElem?_set] at h
      simp only [if_true] at h
      split at h <;> cases h
    · rw [List.getElem?_set_ne hj] at h
      obtain ⟨w, a, b⟩ := E.sv j C e h
      exact ⟨w, by rw [List.getElem?_set_ne hj]; exact a, b⟩
@[simp] def wipeS (ρ : Store) : List Nat → Store
  | [] => ρ
  | v :: vs => (wipeS ρ vs).set v .un
theorem EvV.unset {K : PySem.W.Frag} {ρ : Store} {σ : L2.St} {H : Hp} (E : EvV K ρ σ H) (i : Nat) (o : Option V) : EvV K (ρ.set i .un) (σ.set i o) H := by
  refine ⟨by simp [E.len], fun j e h => ?_, fun j C e h => ?_⟩
  · by_cases hj : i = j
    · subst hj
      rw [List.getElem?_set] at h
      simp only [if_true] at h
      split at h <;> cases h
    · rw [List.getElem?_set_ne hj] at h
      obtain ⟨w, a, b⟩ := E.val j e h
      exact ⟨w, by rw [List.getElem?_set_ne hj]; exact a, b⟩
  · by_cases hj : i = j
    · subst hj
      rw [List.getElem?_set] at h
      simp only [if_true] at h
      split at h <;> cases h
    · rw [List.getElem?_set_ne hj] at h
      obtain ⟨w, a, b⟩ := E.sv j C e h
      exact ⟨w, by rw [List.getElem?_set_ne hj]; exact a, b⟩
theorem EvV.wipe {K : PySem.W.Frag} {ρ : Store} {σ : L2.St} {H : Hp} (E : EvV K ρ σ H) : ∀ vs : List Nat, EvV K (wipeS ρ vs) (L2.wipe σ vs) H
  | [] => E
  | v :: vs => (EvV.wipe E vs).unset v none
/-! ### expressions as functions -/
abbrev Fn := Store → Option D
def tD (K : PySem.W.Frag) (f : Fn) : TE := fun σ H Q => ∃ ρ d, EvV K ρ σ H ∧ f ρ = some d ∧ ∀ v H', Same H H' → Rp K H' v d → Q v H'
def tT (K : PySem.W.Frag) (f : Store → Option Bool) : TT := fun σ H Q => ∃ ρ b, EvV K ρ σ H ∧ f ρ = some b ∧ ∀ H', Same H H' → Q b H'
def tA (K : PySem.W.Frag) (f : Store → Option (List D)) : TA := fun σ H Q => ∃ ρ ds, EvV K ρ σ H ∧ f ρ = some ds ∧ ∀ vs H', Same H H' → RpA K H' vs ds → Q vs H'
/-- a list newly made -/
def tL (K : PySem.W.Frag) (f : Store → Option (List D)) : TE := fun σ H Q => ∃ ρ ds, EvV K ρ σ H ∧ f ρ = some ds ∧ ∀ p vs H', Same H H' → H' p = none → RpA K H' vs ds → Q (.ref p) (upd H' p (.lst vs))
theorem same_upd {H : Hp} {p : Addr} {o : HO} (h : H p = none) : Same H (upd H p o) := fun b x e => by
  rw [upd_ne (ne_of_none e h)]; exact e
section
variable {X : Cx} {e : Expr}
@[simp] def lD (f : Store → Option (List D)) : Fn := fun ρ => (f ρ).map .list
theorem e_list {f : Store → Option (List D)} (h : PE X e (tL X.K f)) : PE X e (tD X.K (lD f)) := h.imw fun σ H Q ⟨ρ, d, E, hf, k⟩ => by
  unfold lD at hf
  cases q : f ρ with
  | none => rw [q] at hf; cases hf
  | some ds =>
    rw [q] at hf; cases hf
    exact ⟨ρ, ds, E, q, fun p vs H' s n r => k _ _ (s.trans (same_upd n)) (.lst upd_same (r.mono (same_upd n)))⟩
@[simp] def gv (i : Nat) : Fn := fun ρ => match ρ[i]? with
  | some (.val d) => some d
  | _ => none
theorem e_var (i : Nat) {x : Str} {pos : Pos} (hN : X.N[i]? = some x := by rfl) (hv : Vis X.env.scope x := by first | exact Or.inl rfl | exact Or.inr (Or.inl rfl) | exact Or.inr (Or.inr rfl))
    (hd : (x == ("__debug__" : Str)) = false := by decide) (hcd : (x == ("__classdict__" : Str)) = false := by decide) : PE X (.Name x pos) (tD X.K (gv i)) := (pe_var hN hv hd hcd).imw fun σ H Q ⟨ρ, d, E, hf, k⟩ => by
  unfold gv at hf
  split at hf
  · rename_i d' q
    cases hf
    obtain ⟨v, a, b⟩ := E.val i _ q
    exact ⟨v, a, k v H (Same.refl H) b⟩
  · cases hf
@[simp] def cn (d : D) : Fn := fun _ => some d
theorem e_int {i : Int} {j : Nat} {pos : Pos} : PE X (.Constant (.int i) j pos) (tD X.K (cn (.int i))) := pe_int.imw fun σ H Q ⟨ρ, d, E, hf, k⟩ => by
  cases hf; exact k _ H (Same.refl H) (.int i)
theorem e_bl {i : Bool} {j : Nat} {pos : Pos} : PE X (.Constant (.bool i) j pos) (tD X.K (cn (.bool i))) := pe_bl.imw fun σ H Q ⟨ρ, d, E, hf, k⟩ => by
  cases hf; exact k _ H (Same.refl H) (.bl i)
theorem e_non {j : Nat} {pos : Pos} : PE X (.Constant .none j pos) (tD X.K (cn .none)) := pe_non.imw fun σ H Q ⟨ρ, d, E, hf, k⟩ => by
  cases hf; exact k _ H (Same.refl H) .non
theorem e_str {x : Str} {j : Nat} {pos : Pos} : PE X (.Constant (.str x) j pos) (tD X.K (cn (.str x))) := pe_str.imw fun σ H Q ⟨ρ, d, E, hf, k⟩ => by
  cases hf; exact k _ H (Same.refl H) (.str x)
/-- a module's constant -/
theorem e_glob {x : Str} {v : V} {d : D} {u : Value} {pos : Pos} (r : RelV v u) (rp : ∀ H, Rp X.K H v d) (hm : X.mg x = some u) (hg : Gl X x := by rfl) (hd : (x == ("__debug__" : Str)) = false := by decide) : PE X (.Name x pos) (tD X.K (cn d)) :=
  (pe_glob hg hm r hd).imw fun σ H Q ⟨ρ, d', E, hf, k⟩ => by
    cases hf; exact k _ H (Same.refl H) (rp H)
/-! ### arguments -/
@[simp] def anil : Store → Option (List D) := fun _ => some []
@[simp] def acons (f : Fn) (r : Store → Option (List D)) : Store → Option (List D) := fun ρ => (f ρ).bind fun a => (r ρ).bind fun as => some (a :: as)
theorem a_nil : PA X [] (tA X.K anil) := pa_nil.imw fun σ H Q ⟨ρ, d, E, hf, k⟩ => by
  cases hf; exact k [] H (Same.refl H) .nil
theorem a_cons {es : List Expr} {f : Fn} {r : Store → Option (List D)} (he : PE X e (tD X.K f)) (hr : PA X es (tA X.K r)) (hs : starEach (e :: es) X.env = (false, eval e X.env) :: starEach es X.env := by rfl) : PA X (e :: es) (tA X.K (acons f r)) :=
  (pa_cons he hr hs).imw fun σ H Q ⟨ρ, d, E, hf, k⟩ => by
    unfold acons at hf
    cases q1 : f ρ with
    | none => rw [q1] at hf; cases hf
    | some a =>
      cases q2 : r ρ with
      | none => rw [q1, q2] at hf; cases hf
      | some as =>
        rw [q1, q2] at hf; cases hf
        exact ⟨ρ, a, E, q1, fun v H1 s1 r1 => ⟨ρ, as, E.mono s1, q2, fun vs H2 s2 r2 => k _ H2 (s1.trans s2) (.cons (r1.mono s2) r2)⟩⟩
def big : Nat := 16777216
theorem big_eq : sizeLine = big := rfl
@[simp] def ftup (f : Store → Option (List D)) : Fn := fun ρ => (f ρ).bind fun ds => if ds.length ≤ big then some (.tuple ds) else none
@[simp] def flst (f : Store → Option (List D)) : Store → Option (List D) := fun ρ => (f ρ).bind fun ds => if ds.length ≤ big then some ds else none
theorem e_tup {es : List Expr} {f : Store → Option (List D)} {x1 : Nat} {pos : Pos} (h : PA X es (tA X.K f)) : PE X (.Tuple es x1 pos) (tD X.K (ftup f)) := (pe_tup h).imw fun σ H Q ⟨ρ, d, E, hf, k⟩ => by
  unfold ftup at hf
  cases q : f ρ with
  | none => rw [q] at hf; cases hf
  | some ds =>
    rw [q] at hf
    simp only [Option.bind_some] at hf
    split at hf
    · cases hf
      rename_i hl
      refine ⟨ρ, ds, E, q, fun vs H1 s1 r1 => ⟨by rw [r1.length]; exact hl, fun p n => k _ _ (s1.trans (same_upd n)) (.tup (.inl upd_same) (r1.mono (same_upd n)))⟩⟩
    · cases hf
theorem l_lst {es : List Expr} {f : Store → Option (List D)} {pos : Pos} (h : PA X es (tA X.K f)) : PE X (.List es pos) (tL X.K (flst f)) := (pe_lst h).imw fun σ H Q ⟨ρ, d, E, hf, k⟩ => by
  unfold flst at hf
  cases q : f ρ with
  | none => rw [q] at hf; cases hf
  | some ds =>
    rw [q] at hf
    simp only [Option.bind_some] at hf
    split at hf
    · cases hf
      rename_i hl
      exact ⟨ρ, _, E, q, fun vs H1 s1 r1 => ⟨by rw [r1.length]; exact hl, fun p n => k p vs H1 s1 n r1⟩⟩
    · cases hf
/-! ### operators by values -/
def OpD (K : PySem.W.Frag) (r : R2) (g : D → D → Option D) : Prop := ∀ (H : Hp) (x y : V) (a b d : D) (Q : VK), Rp K H x a → Rp K H y b → g a b = some d → (∀ v H', Same H H' → Rp K H' v d → Q v H') → r x y H Q
@[simp] def b2 (g : D → D → Option D) (f1 f2 : Fn) : Fn := fun ρ => (f1 ρ).bind fun a => (f2 ρ).bind (g a)
theorem tOp_of {K : PySem.W.Frag} {r : R2} {g : D → D → Option D} {f1 f2 : Fn} (hr : OpD K r g) {σ : L2.St} {H : Hp} {Q : VK} (h : tD K (b2 g f1 f2) σ H Q) : tOp r (tD K f1) (tD K f2) σ H Q := by
  obtain ⟨ρ, d, E, hf, k⟩ := h
  unfold b2 at hf
  cases q1 : f1 ρ with
  | none => rw [q1] at hf; cases hf
  | some a =>
    cases q2 : f2 ρ with
    | none => rw [q1, q2] at hf; cases hf
    | some b =>
      rw [q1, q2] at hf
      exact ⟨ρ, a, E, q1, fun v H1 s1 r1 => ⟨ρ, b, E.mono s1, q2, fun w H2 s2 r2 => hr H2 v w a b d Q (r1.mono s2) r2 hf fun u H3 s3 r3 => k u H3 ((s1.trans s2).trans s3) r3⟩⟩
theorem e_op {a b : Expr} {op : Operator} {r : R2} {g : D → D → Option D} {f1 f2 : Fn} {pos : Pos} (ho : OpR X (binaryOp op) r) (hr : OpD X.K r g) (ha : PE X a (tD X.K f1)) (hb : PE X b (tD X.K f2)) : PE X (.BinOp a op b pos) (tD X.K (b2 g f1 f2)) :=
  (pe_op ho ha hb).imw fun _ _ _ h => tOp_of hr h
theorem e_ix {a b : Expr} {r : R2} {g : D → D → Option D} {f1 f2 : Fn} {pos : Pos} (ho : IxR X r) (hr : OpD X.K r g) (ha : PE X a (tD X.K f1)) (hb : PE X b (tD X.K f2)) (hs : PlainIx b) : PE X (.Subscript a b pos) (tD X.K (b2 g f1 f2)) :=
  (pe_ix ho ha hb hs).imw fun _ _ _ h => tOp_of hr h
@[simp] def toB (g : D → D → Option Bool) : D → D → Option D := fun a b => (g a b).map .bool
theorem e_cmp {a b : Expr} {op : CmpOp} {r : R2} {g : D → D → Option Bool} {f1 f2 : Fn} {pos : Pos} (ho : OpR X (compareOp op) r) (hr : OpD X.K r (toB g)) (ha : PE X a (tD X.K f1)) (hb : PE X b (tD X.K f2)) (hm : behindInMarks op b = false := by rfl) :
    PE X (.Compare a [op] [b] pos) (tD X.K (b2 (toB g) f1 f2)) := (pe_cmpR ho ha hb hm).imw fun _ _ _ h => tOp_of hr h
@[simp] def b2T (g : D → D → Option Bool) (f1 f2 : Fn) : Store → Option Bool := fun ρ => (f1 ρ).bind fun a => (f2 ρ).bind (g a)
theorem tD_bool {K : PySem.W.Frag} {g : D → D → Option Bool} {f1 f2 : Fn} {σ : L2.St} {H : Hp} {Q : Bool → Hp → Prop} (h : tT K (b2T g f1 f2) σ H Q) : tD K (b2 (toB g) f1 f2) σ H fun x H' => ∃ k, x = .bl k ∧ Q k H' := by
  obtain ⟨ρ, b, E, hf, k⟩ := h
  refine ⟨ρ, .bool b, E, ?_, fun v H' s r => ⟨b, r.bl_inv, k H' s⟩⟩
  unfold b2T at hf
  unfold b2 toB
  cases q1 : f1 ρ with
  | none => rw [q1] at hf; cases hf
  | some a =>
    cases q2 : f2 ρ with
    | none => rw [q1, q2] at hf; cases hf
    | some b =>
      rw [q1, q2] at hf
      simp only [Option.bind_some] at hf ⊢
      rw [hf]; rfl
theorem t_cmp {a b : Expr} {op : CmpOp} {r : R2} {g : D → D → Option Bool} {f1 f2 : Fn} {pos : Pos} (ho : OpR X (compareOp op) r) (hr : OpD X.K r (toB g)) (ha : PE X a (tD X.K f1)) (hb : PE X b (tD X.K f2)) (hm : behindInMarks op b = false := by rfl) :
    PT X (.Compare a [op] [b] pos) (tT X.K (b2T g f1 f2)) := (pt_cmpR ho ha hb hm).imw fun _ _ _ h => tOp_of hr (tD_bool h)
/-! a op b op' c -/
@[simp] def chT (g g' : D → D → Option Bool) (f1 f2 f3 : Fn) : Store → Option Bool := fun ρ => (f1 ρ).bind fun a => (f2 ρ).bind fun b => (g a b).bind fun k => if k = true then (f3 ρ).bind (g' b) else some false
@[simp] def chD (g g' : D → D → Option Bool) (f1 f2 f3 : Fn) : Fn := fun ρ => (chT g g' f1 f2 f3 ρ).map .bool
theorem tCh_of {K : PySem.W.Frag} {r r' : R2} {g g' : D → D → Option Bool} {f1 f2 f3 : Fn} (hr : OpD K r (toB g)) (hr' : OpD K r' (toB g')) {σ : L2.St} {H : Hp} {Q : VK} (h : tD K (chD g g' f1 f2 f3) σ H Q) :
    tChain r r' (tD K f1) (tD K f2) (tD K f3) σ H Q := by
  obtain ⟨ρ, d, E, hf, k⟩ := h
  unfold chD chT at hf
  cases q1 : f1 ρ with
  | none => rw [q1] at hf; cases hf
  | some a =>
    cases q2 : f2 ρ with
    | none => rw [q1, q2] at hf; cases hf
    | some b =>
      rw [q1, q2] at hf
      simp only [Option.bind_some] at hf
      cases q3 : g a b with
      | none => rw [q3] at hf; cases hf
      | some z =>
        rw [q3] at hf
        simp only [Option.bind_some] at hf
        refine ⟨ρ, a, E, q1, fun v H1 s1 r1 => ⟨ρ, b, E.mono s1, q2, fun w H2 s2 r2 => hr H2 v w a b (.bool z) _ (r1.mono s2) r2 (by unfold toB; rw [q3]; rfl) fun u H3 s3 r3 => ⟨z, r3.bl_inv, ?_⟩⟩⟩
        have s0 := (s1.trans s2).trans s3
        cases z with
        | false =>
          rw [if_neg Bool.false_ne_true] at hf ⊢
          cases hf
          exact k _ H3 s0 (.bl false)
        | true =>
          rw [if_pos rfl] at hf ⊢
          cases q4 : f3 ρ with
          | none => rw [q4] at hf; cases hf
          | some c =>
            rw [q4] at hf
            exact ⟨ρ, c, E.mono s0, q4, fun y H4 s4 r4 => hr' H4 w y b c d _ (r2.mono (s3.trans s4)) r4 hf fun u H5 s5 r5 => k u H5 ((s0.trans s4).trans s5) r5⟩
theorem e_chain {a b c : Expr} {op op' : CmpOp} {r r' : R2} {g g' : D → D → Option Bool} {f1 f2 f3 : Fn} {pos : Pos} (ho : OpR X (compareOp op) r) (hr : OpD X.K r (toB g)) (ho' : OpR X (compareOp op') r') (hr' : OpD X.K r' (toB g'))
    (ha : PE X a (tD X.K f1)) (hb : PE X b (tD X.K f2)) (hc : PE X c (tD X.K f3)) (hm : lastMarks [op, op'] [b, c] = false := by rfl) : PE X (.Compare a [op, op'] [b, c] pos) (tD X.K (chD g g' f1 f2 f3)) :=
  (pe_chain ho ho' ha hb hc hm).imw fun _ _ _ h => tCh_of hr hr' h
theorem t_chain {a b c : Expr} {op op' : CmpOp} {r r' : R2} {g g' : D → D → Option Bool} {f1 f2 f3 : Fn} {pos : Pos} (ho : OpR X (compareOp op) r) (hr : OpD X.K r (toB g)) (ho' : OpR X (compareOp op') r') (hr' : OpD X.K r' (toB g'))
    (ha : PE X a (tD X.K f1)) (hb : PE X b (tD X.K f2)) (hc : PE X c (tD X.K f3)) (hm : lastMarks [op, op'] [b, c] = false := by rfl) : PT X (.Compare a [op, op'] [b, c] pos) (tT X.K (chT g g' f1 f2 f3)) :=
  (pt_chain ho ho' ha hb hc hm).imw fun σ H Q h => by
    obtain ⟨ρ, b, E, hf, k⟩ := h
    exact tCh_of hr hr' ⟨ρ, .bool b, E, by unfold chD; rw [hf]; rfl, fun v H' s r => ⟨b, r.bl_inv, k H' s⟩⟩
/-! ### truth -/
@[simp] def truD : D → Option Bool
  | .none => some false
  | .bool b => some b
  | .int i => some (i != 0)
  | .str x => if x.length ≤ big then some ((x.length : Int) != 0) else none
  | .list ds => some (!ds.isEmpty)
  | .tuple ds => some (!ds.isEmpty)
  | .dict _ => none
theorem isEmpty_rp {K : PySem.W.Frag} {H : Hp} {xs : List V} {ds : List D} (r : RpA K H xs ds) : (!ds.isEmpty) = !xs.isEmpty := by
  cases r <;> rfl
theorem truD_ok {K : PySem.W.Frag} {H : Hp} {v : V} {d : D} {b : Bool} (r : Rp K H v d) (h : truD d = some b) : TruV K v H b := by
  cases r with
  | non => cases h; rfl
  | bl _ => cases h; rfl
  | int _ => cases h; rfl
  | str x =>
    simp only [truD] at h
    by_cases hl : x.length ≤ big
    · rw [if_pos hl] at h; cases h; exact ⟨hl, rfl⟩
    · rw [if_neg hl] at h; cases h
  | lst e t => cases h; exact .inl ⟨_, .of e, isEmpty_rp t⟩
  | tup e t => cases h; exact .inr (.inl ⟨_, .inl e, isEmpty_rp t⟩)
  | dct e _ => cases h
  | scr e => cases h
  | xtp _ _ _ => cases h
  | exc _ => cases h
@[simp] def truF (f : Fn) : Store → Option Bool := fun ρ => (f ρ).bind truD
theorem t_tru {f : Fn} (h : PE X e (tD X.K f)) (he : ∀ whole, isTrue e X.env whole = (do let v ← whole; standAt e.pos; holding [v] (truthy v)) := by intro _; rfl) : PT X e (tT X.K (truF f)) :=
  (pt_truth h he).imw fun σ H Q ⟨ρ, b, E, hf, k⟩ => by
    unfold truF at hf
    cases q : f ρ with
    | none => rw [q] at hf; cases hf
    | some d =>
      rw [q] at hf
      exact ⟨ρ, d, E, q, fun v H1 s1 r1 => ⟨b, truD_ok r1 hf, k H1 s1⟩⟩
@[simp] def andT (f1 f2 : Store → Option Bool) : Store → Option Bool := fun ρ => (f1 ρ).bind fun k => if k = true then f2 ρ else some false
@[simp] def orT (f1 f2 : Store → Option Bool) : Store → Option Bool := fun ρ => (f1 ρ).bind fun k => if k = true then some true else f2 ρ
@[simp] def notT (f1 : Store → Option Bool) : Store → Option Bool := fun ρ => (f1 ρ).map (!·)
theorem _root_.L2.PW.imw {t t' : TT} (h : PW X e t) (w : ∀ σ H Q, t' σ H Q → t σ H Q) : PW X e t' := ⟨fun wh pins s σ H Q I hw => h.run wh pins s σ H Q I (w σ H Q hw)⟩
theorem w_and {a b : Expr} {rest : List Expr} {pos : Pos} {f1 f2 : Store → Option Bool} (ha : PT X a (tT X.K f1)) (hb : PW X (.BoolOp .And (b :: rest) pos) (tT X.K f2)) : PW X (.BoolOp .And (a :: b :: rest) pos) (tT X.K (andT f1 f2)) :=
  PW.imw (pw_and ha hb) fun σ H Q ⟨ρ, b, E, hf, k⟩ => by
    unfold andT at hf
    cases q : f1 ρ with
    | none => rw [q] at hf; cases hf
    | some z =>
      rw [q] at hf
      refine ⟨ρ, z, E, q, fun H1 s1 => ?_⟩
      cases z with
      | false => cases hf; exact k H1 s1
      | true => exact ⟨ρ, b, E.mono s1, hf, fun H2 s2 => k H2 (s1.trans s2)⟩
theorem w_or {a b : Expr} {rest : List Expr} {pos : Pos} {f1 f2 : Store → Option Bool} (ha : PT X a (tT X.K f1)) (hb : PW X (.BoolOp .Or (b :: rest) pos) (tT X.K f2)) : PW X (.BoolOp .Or (a :: b :: rest) pos) (tT X.K (orT f1 f2)) :=
  PW.imw (pw_or ha hb) fun σ H Q ⟨ρ, b, E, hf, k⟩ => by
    unfold orT at hf
    cases q : f1 ρ with
    | none => rw [q] at hf; cases hf
    | some z =>
      rw [q] at hf
      refine ⟨ρ, z, E, q, fun H1 s1 => ?_⟩
      cases z with
      | true => cases hf; exact k H1 s1
      | false => exact ⟨ρ, b, E.mono s1, hf, fun H2 s2 => k H2 (s1.trans s2)⟩
theorem w_and1 {a : Expr} {pos : Pos} {f : Store → Option Bool} (ha : PT X a (tT X.K f)) : PW X (.BoolOp .And [a] pos) (tT X.K f) := pw_and1 ha
theorem w_or1 {a : Expr} {pos : Pos} {f : Store → Option Bool} (ha : PT X a (tT X.K f)) : PW X (.BoolOp .Or [a] pos) (tT X.K f) := pw_or1 ha
theorem t_not {a : Expr} {pos : Pos} {f : Store → Option Bool} (ha : PT X a (tT X.K f)) : PT X (.UnaryOp .Not a pos) (tT X.K (notT f)) := (pt_not ha).imw fun σ H Q ⟨ρ, b, E, hf, k⟩ => by
  unfold notT at hf
  cases q : f ρ with
  | none => rw [q] at hf; cases hf
  | some z => rw [q] at hf; cases hf; exact ⟨ρ, z, E, q, k⟩
/-! and, or, not as values -/
@[simp] def orD (f1 f2 : Fn) : Fn := fun ρ => (f1 ρ).bind fun a => (truD a).bind fun k => if k = true then some a else f2 ρ
@[simp] def andD (f1 f2 : Fn) : Fn := fun ρ => (f1 ρ).bind fun a => (truD a).bind fun k => if k = true then f2 ρ else some a
@[simp] def notD (f1 : Fn) : Fn := fun ρ => (f1 ρ).bind fun a => (truD a).map fun k => .bool (!k)
theorem e_or {a b : Expr} {rest : List Expr} {pos : Pos} {f1 f2 : Fn} (ha : PE X a (tD X.K f1)) (hb : PE X (.BoolOp .Or (b :: rest) pos) (tD X.K f2)) : PE X (.BoolOp .Or (a :: b :: rest) pos) (tD X.K (orD f1 f2)) :=
  (pe_orT ha hb).imw fun σ H Q ⟨ρ, d, E, hf, k⟩ => by
    unfold orD at hf
    cases q : f1 ρ with
    | none => rw [q] at hf; cases hf
    | some a =>
      rw [q] at hf
      simp only [Option.bind_some] at hf
      cases qt : truD a with
      | none => rw [qt] at hf; cases hf
      | some z =>
        rw [qt] at hf
        refine ⟨ρ, a, E, q, fun v H1 s1 r1 => ⟨z, truD_ok r1 qt, ?_⟩⟩
        cases z with
        | true => cases hf; exact k v H1 s1 r1
        | false => exact ⟨ρ, d, E.mono s1, hf, fun w H2 s2 r2 => k w H2 (s1.trans s2) r2⟩
theorem e_and {a b : Expr} {rest : List Expr} {pos : Pos} {f1 f2 : Fn} (ha : PE X a (tD X.K f1)) (hb : PE X (.BoolOp .And (b :: rest) pos) (tD X.K f2)) : PE X (.BoolOp .And (a :: b :: rest) pos) (tD X.K (andD f1 f2)) :=
  (pe_andT ha hb).imw fun σ H Q ⟨ρ, d, E, hf, k⟩ => by
    unfold andD at hf
    cases q : f1 ρ with
    | none => rw [q] at hf; cases hf
    | some a =>
      rw [q] at hf
      simp only [Option.bind_some] at hf
      cases qt : truD a with
      | none => rw [qt] at hf; cases hf
      | some z =>
        rw [qt] at hf
        refine ⟨ρ, a, E, q, fun v H1 s1 r1 => ⟨z, truD_ok r1 qt, ?_⟩⟩
        cases z with
        | false => cases hf; exact k v H1 s1 r1
        | true => exact ⟨ρ, d, E.mono s1, hf, fun w H2 s2 r2 => k w H2 (s1.trans s2) r2⟩
theorem e_one {a : Expr} {op : BoolOp} {pos : Pos} {f : Fn} (h : PE X a (tD X.K f)) : PE X (.BoolOp op [a] pos) (tD X.K f) := pe_one h
theorem e_not {a : Expr} {pos : Pos} {f : Fn} (ha : PE X a (tD X.K f)) : PE X (.UnaryOp .Not a pos) (tD X.K (notD f)) :=
  (pe_notT ha).imw fun σ H Q ⟨ρ, d, E, hf, k⟩ => by
    unfold notD at hf
    cases q : f ρ with
    | none => rw [q] at hf; cases hf
    | some a =>
      rw [q] at hf
      simp only [Option.bind_some] at hf
      cases qt : truD a with
      | none => rw [qt] at hf; cases hf
      | some z =>
        rw [qt] at hf; cases hf
        exact ⟨ρ, a, E, q, fun v H1 s1 r1 => ⟨z, truD_ok r1 qt, k _ H1 s1 (.bl _)⟩⟩
@[simp] def iteD (c : Store → Option Bool) (f1 f2 : Fn) : Fn := fun ρ => (c ρ).bind fun k => if k = true then f1 ρ else f2 ρ
theorem e_ite {c a b : Expr} {pos : Pos} {fc : Store → Option Bool} {f1 f2 : Fn} (hc : PT X c (tT X.K fc)) (ha : PE X a (tD X.K f1)) (hb : PE X b (tD X.K f2)) : PE X (.IfExp c a b pos) (tD X.K (iteD fc f1 f2)) :=
  (pe_ifExp hc ha hb).imw fun σ H Q ⟨ρ, d, E, hf, k⟩ => by
    unfold iteD at hf
    cases q : fc ρ with
    | none => rw [q] at hf; cases hf
    | some z =>
      rw [q] at hf
      refine ⟨ρ, z, E, q, fun H1 s1 => ?_⟩
      cases z with
      | true => exact ⟨ρ, d, E.mono s1, hf, fun w H2 s2 r2 => k w H2 (s1.trans s2) r2⟩
      | false => exact ⟨ρ, d, E.mono s1, hf, fun w H2 s2 r2 => k w H2 (s1.trans s2) r2⟩
/-! ### calls by values -/
def CallD (K : PySem.W.Frag) (r : List V → Hp → VK → Prop) (g : List D → Option D) : Prop := ∀ (H : Hp) (xs : List V) (ds : List D) (d : D) (Q : VK), RpA K H xs ds → g ds = some d → (∀ v H', Same H H' → Rp K H' v d → Q v H') → r xs H Q
def CallL (K : PySem.W.Frag) (r : List V → Hp → VK → Prop) (g : List D → Option (List D)) : Prop :=
  ∀ (H : Hp) (xs : List V) (ds ys : List D) (Q : VK), RpA K H xs ds → g ds = some ys → (∀ p vs H', Same H H' → H' p = none → RpA K H' vs ys → Q (.ref p) (upd H' p (.lst vs))) → r xs H Q
@[simp] def cf (g : List D → Option D) (f : Store → Option (List D)) : Fn := fun ρ => (f ρ).bind g
@[simp] def cfl (g : List D → Option (List D)) (f : Store → Option (List D)) : Store → Option (List D) := fun ρ => (f ρ).bind g
theorem tCB_of {K : PySem.W.Frag} {r : List V → Hp → VK → Prop} {g : List D → Option D} {f : Store → Option (List D)} (hr : CallD K r g) {σ : L2.St} {H : Hp} {Q : VK} (h : tD K (cf g f) σ H Q) : tCB r (tA K f) σ H Q := by
  obtain ⟨ρ, d, E, hf, k⟩ := h
  unfold cf at hf
  cases q : f ρ with
  | none => rw [q] at hf; cases hf
  | some ds =>
    rw [q] at hf
    exact ⟨ρ, ds, E, q, fun vs H1 s1 r1 => hr H1 vs ds d Q r1 hf fun v H2 s2 r2 => k v H2 (s1.trans s2) r2⟩
theorem tCB_ofL {K : PySem.W.Frag} {r : List V → Hp → VK → Prop} {g : List D → Option (List D)} {f : Store → Option (List D)} (hr : CallL K r g) {σ : L2.St} {H : Hp} {Q : VK} (h : tL K (cfl g f) σ H Q) : tCB r (tA K f) σ H Q := by
  obtain ⟨ρ, d, E, hf, k⟩ := h
  unfold cfl at hf
  cases q : f ρ with
  | none => rw [q] at hf; cases hf
  | some ds =>
    rw [q] at hf
    exact ⟨ρ, ds, E, q, fun vs H1 s1 r1 => hr H1 vs ds d Q r1 hf fun p vs2 H2 s2 n2 r2 => k p vs2 H2 (s1.trans s2) n2 r2⟩
variable {x : Str} {p pos : Pos} {es : List Expr} {id T : String} {f : Store → Option (List D)}
theorem e_blt {r : List V → Hp → VK → Prop} {g : List D → Option D} (hc : CallR X (.builtin id) r) (hr : CallD X.K r g) (hm : X.mg x = none) (ha : PA X (e :: es) (tA X.K f)) (hv : bootBuiltins x = some (.builtin id) := by decide +kernel) (hg : Gl X x := by rfl) (hn : x ≠ "__name__" := by decide) (hdb : (x == ("__debug__" : Str)) = false := by decide)
    (he : starEach (e :: es) X.env = (false, eval e X.env) :: starEach es X.env := by rfl) (hpl : (backTo pos (starEach es X.env)).any (·.1) = false := by rfl) : PE X (.Call (.Name x p) (e :: es) [] pos) (tD X.K (cf g f)) :=
  (pe_callB hc hg hm hv ha hn hdb he hpl).imw fun _ _ _ h => tCB_of hr h
theorem e_bty {r : List V → Hp → VK → Prop} {g : List D → Option D} (hc : CallR X (.type T) r) (hr : CallD X.K r g) (hm : X.mg x = none) (ha : PA X (e :: es) (tA X.K f)) (hv : bootBuiltins x = some (.type T) := by decide +kernel) (hg : Gl X x := by rfl) (hn : x ≠ "__name__" := by decide) (hdb : (x == ("__debug__" : Str)) = false := by decide)
    (he : starEach (e :: es) X.env = (false, eval e X.env) :: starEach es X.env := by rfl) (hpl : (backTo pos (starEach es X.env)).any (·.1) = false := by rfl) : PE X (.Call (.Name x p) (e :: es) [] pos) (tD X.K (cf g f)) :=
  (pe_callTy hc hg hm hv ha hn hdb he hpl).imw fun _ _ _ h => tCB_of hr h
theorem l_blt {r : List V → Hp → VK → Prop} {g : List D → Option (List D)} (hc : CallR X (.builtin id) r) (hr : CallL X.K r g) (hm : X.mg x = none) (ha : PA X (e :: es) (tA X.K f)) (hv : bootBuiltins x = some (.builtin id) := by decide +kernel) (hg : Gl X x := by rfl) (hn : x ≠ "__name__" := by decide) (hdb : (x == ("__debug__" : Str)) = false := by decide)
    (he : starEach (e :: es) X.env = (false, eval e X.env) :: starEach es X.env := by rfl) (hpl : (backTo pos (starEach es X.env)).any (·.1) = false := by rfl) : PE X (.Call (.Name x p) (e :: es) [] pos) (tL X.K (cfl g f)) :=
  (pe_callB hc hg hm hv ha hn hdb he hpl).imw fun _ _ _ h => tCB_ofL hr h
theorem l_bty {r : List V → Hp → VK → Prop} {g : List D → Option (List D)} (hc : CallR X (.type T) r) (hr : CallL X.K r g) (hm : X.mg x = none) (ha : PA X (e :: es) (tA X.K f)) (hv : bootBuiltins x = some (.type T) := by decide +kernel) (hg : Gl X x := by rfl) (hn : x ≠ "__name__" := by decide) (hdb : (x == ("__debug__" : Str)) = false := by decide)
    (he : starEach (e :: es) X.env = (false, eval e X.env) :: starEach es X.env := by rfl) (hpl : (backTo pos (starEach es X.env)).any (·.1) = false := by rfl) : PE X (.Call (.Name x p) (e :: es) [] pos) (tL X.K (cfl g f)) :=
  (pe_callTy hc hg hm hv ha hn hdb he hpl).imw fun _ _ _ h => tCB_ofL hr h
/-! ### a def of the text -/
def spD (K : PySem.W.Frag) (n : Nat) (fn : List D → Option D) : Sp := fun vs H Q _ => ∃ ds d, vs.length = n ∧ RpA K H vs ds ∧ fn ds = some d ∧ ∀ v H', Same H H' → Rp K H' v d → Q v H'
theorem e_call {k : Nat} {fa : Addr} {fd : FuncData} {ps : List Str} {fn : List D → Option D} (F : FnOk X.prog X.w X.K X.mg X.base CX0 k fa fd ps (spD X.K ps.length fn)) (hr : Room k X.A) (hm : X.mg x = some (.ref fa)) (hk : PySem.W.keepIn X.K (.ref fa) = true) (hb : Binds X.K fd ps [])
    (ha : PA X (e :: es) (tA X.K f)) (hfn : ∀ ds d, fn ds = some d → ds.length = ps.length) (hg : Gl X x := by rfl) (hdb : (x == ("__debug__" : Str)) = false := by decide) (he : starEach (e :: es) X.env = (false, eval e X.env) :: starEach es X.env := by rfl) (hpl : (backTo pos (starEach es X.env)).any (·.1) = false := by rfl) :
    PE X (.Call (.Name x p) (e :: es) [] pos) (tD X.K (cf fn f)) :=
  (pe_call F hr hg hm hk hb .nil pass0 ha hdb he hpl).imw fun σ H Q ⟨ρ, d, E, hf, k⟩ => by
    unfold cf at hf
    cases q : f ρ with
    | none => rw [q] at hf; cases hf
    | some ds =>
      rw [q] at hf
      refine ⟨ρ, ds, E, q, fun vs H1 s1 r1 => ⟨ds, d, ?_, ?_, hf, fun v H2 s2 r2 => k v H2 (s1.trans s2) r2⟩⟩
      · rw [List.append_nil, r1.length]; exact hfn ds d hf
      · rw [List.append_nil]; exact r1
end
end Tv

namespace Tv
open PySem PySem.Spec L2
/-! ### a frame's state: what is shared, what a slot owns -/
def SlOk (K : PySem.W.Frag) (H0 H : Hp) (s : Sl) (o : Option V) (L : List Addr) : Prop := match s with
  | .un => L = []
  | .val d => L = [] ∧ ∃ v, o = some v ∧ Rp K H0 v d
  | .svF C d => L = [] ∧ ∃ v, o = some v ∧ SvAt K H0 C d v
  | .own ds => ∃ l vs, o = some (.ref l) ∧ L = [l] ∧ H l = some (.lst vs) ∧ RpA K H0 vs ds
  | .sv C d => ∃ a dx w, o = some (.ref a) ∧ L = [a, dx] ∧ a ≠ dx ∧ H a = some (.ins C dx [("strikes", w)]) ∧ H dx = some (.own a) ∧ Rp K H0 w d
structure Ev (K : PySem.W.Frag) (Hb : Hp) (ρ : Store) (σ : L2.St) (H H0 : Hp) (L : Nat → List Addr) : Prop where
  base : Same Hb H0
  len : σ.length = ρ.length
  sl : ∀ (i : Nat) (s : Sl), ρ[i]? = some s → ∃ o, σ[i]? = some o ∧ SlOk K H0 H s o (L i)
  out : ∀ i, ρ.length ≤ i → L i = []
  no0 : ∀ i b, b ∈ L i → H0 b = none
  dj : ∀ i j b, b ∈ L i → b ∈ L j → i = j
  eq : ∀ b, (∀ i, b ∉ L i) → H b = H0 b
def ownB (ρ : Store) (L : Nat → List Addr) (b : Addr) : Bool := (List.range ρ.length).any fun i => (L i).contains b
section
variable {K : PySem.W.Frag} {Hb : Hp} {ρ : Store} {σ : L2.St} {H H0 H0' : Hp} {L : Nat → List Addr}
theorem Ev.own_iff (E : Ev K Hb ρ σ H H0 L) {b : Addr} : ownB ρ L b = true ↔ ∃ i, b ∈ L i := by
  unfold ownB
  rw [List.any_eq_true]
  constructor
  · rintro ⟨i, _, h⟩
    exact ⟨i, List.contains_iff_mem.mp h⟩
  · rintro ⟨i, h⟩
    refine ⟨i, List.mem_range.mpr ?_, List.contains_iff_mem.mpr h⟩
    by_cases hl : i < ρ.length
    · exact hl
    · rw [E.out i (by omega)] at h
      cases h
theorem Ev.own_not (E : Ev K Hb ρ σ H H0 L) {b : Addr} (h : ownB ρ L b = false) : ∀ i, b ∉ L i := fun i hi => by
  rw [E.own_iff.mpr ⟨i, hi⟩] at h; cases h
theorem Ev.at_ (E : Ev K Hb ρ σ H H0 L) {i : Nat} {b : Addr} (h : b ∈ L i) : ∃ s o, ρ[i]? = some s ∧ σ[i]? = some o ∧ SlOk K H0 H s o (L i) := by
  have hl : i < ρ.length := by
    by_cases hl : i < ρ.length
    · exact hl
    · rw [E.out i (by omega)] at h; cases h
  obtain ⟨o, h1, h2⟩ := E.sl i ρ[i] (List.getElem?_eq_getElem hl)
  exact ⟨_, o, List.getElem?_eq_getElem hl, h1, h2⟩
theorem Ev.frm (E : Ev K Hb ρ σ H H0 L) : Frm H H0 (ownB ρ L) := by
  refine ⟨fun b h => (E.eq b (E.own_not h)).symm, fun b h => ?_, fun a C dx fs ha e => ?_, fun a c ha e => ?_, fun b a hb e => ?_⟩
  · obtain ⟨i, hi⟩ := E.own_iff.mp h
    refine ⟨E.no0 i b hi, ?_⟩
    obtain ⟨s, o, h1, h2, ok⟩ := E.at_ hi
    cases s with
    | un => simp only [SlOk] at ok; rw [ok] at hi; cases hi
    | val d => obtain ⟨ok, _⟩ := ok; rw [ok] at hi; cases hi
    | svF C d => obtain ⟨ok, _⟩ := ok; rw [ok] at hi; cases hi
    | own ds =>
      obtain ⟨l, vs, _, eL, e, _⟩ := ok
      rw [eL] at hi
      have : b = l := by simpa using hi
      subst this
      exact ⟨_, e, trivial⟩
    | sv C d =>
      obtain ⟨a, dx, w, _, eL, _, e1, e2, _⟩ := ok
      rw [eL] at hi
      have : b = a ∨ b = dx := by simpa using hi
      rcases this with rfl | rfl
      · exact ⟨_, e1, trivial⟩
      · exact ⟨_, e2, trivial⟩
  · obtain ⟨i, hi⟩ := E.own_iff.mp ha
    obtain ⟨s, o, h1, h2, ok⟩ := E.at_ hi
    cases s with
    | un => simp only [SlOk] at ok; rw [ok] at hi; cases hi
    | val d => obtain ⟨ok, _⟩ := ok; rw [ok] at hi; cases hi
    | svF C d => obtain ⟨ok, _⟩ := ok; rw [ok] at hi; cases hi
    | own ds =>
      obtain ⟨l, vs, _, eL, e', _⟩ := ok
      rw [eL] at hi
      have : a = l := by simpa using hi
      subst this
      rw [e] at e'; cases e'
    | sv C' d =>
      obtain ⟨a', dx', w, _, eL, _, e1, e2, _⟩ := ok
      rw [eL] at hi
      have : a = a' ∨ a = dx' := by simpa using hi
      rcases this with rfl | rfl
      · rw [e] at e1; cases e1
        exact E.own_iff.mpr ⟨i, by rw [eL]; simp⟩
      · rw [e] at e2; cases e2
  · cases q : ownB ρ L c with
    | false => rfl
    | true =>
      obtain ⟨i, hi⟩ := E.own_iff.mp q
      obtain ⟨s, o, h1, h2, ok⟩ := E.at_ hi
      exfalso
      cases s with
      | un => simp only [SlOk] at ok; rw [ok] at hi; cases hi
      | val d => obtain ⟨ok, _⟩ := ok; rw [ok] at hi; cases hi
      | svF C d => obtain ⟨ok, _⟩ := ok; rw [ok] at hi; cases hi
      | own ds =>
        obtain ⟨l, vs, _, eL, e', _⟩ := ok
        rw [eL] at hi
        have : c = l := by simpa using hi
        subst this
        rw [e] at e'; cases e'
      | sv C' d =>
        obtain ⟨a', dx', w, _, eL, _, e1, e2, _⟩ := ok
        rw [eL] at hi
        have : c = a' ∨ c = dx' := by simpa using hi
        rcases this with rfl | rfl
        · rw [e] at e1; cases e1
        · rw [e] at e2; cases e2
          rw [E.own_iff.mpr ⟨i, by rw [eL]; simp⟩] at ha
          cases ha
  · obtain ⟨i, hi⟩ := E.own_iff.mp hb
    obtain ⟨s, o, h1, h2, ok⟩ := E.at_ hi
    cases s with
    | un => simp only [SlOk] at ok; rw [ok] at hi; cases hi
    | val d => obtain ⟨ok, _⟩ := ok; rw [ok] at hi; cases hi
    | svF C d => obtain ⟨ok, _⟩ := ok; rw [ok] at hi; cases hi
    | own ds =>
      obtain ⟨l, vs, _, eL, e', _⟩ := ok
      rw [eL] at hi
      have : b = l := by simpa using hi
      subst this
      rw [e] at e'; cases e'
    | sv C' d =>
      obtain ⟨a', dx', w, _, eL, _, e1, e2, _⟩ := ok
      rw [eL] at hi
      have : b = a' ∨ b = dx' := by simpa using hi
      rcases this with rfl | rfl
      · rw [e] at e1; cases e1
      · rw [e] at e2; cases e2
        exact ⟨_, _, e1⟩
theorem Ev.vv (E : Ev K Hb ρ σ H H0 L) : EvV K ρ σ H0 := ⟨E.len, fun i d h => by
  obtain ⟨o, h1, _, v, rfl, r⟩ := E.sl i _ h
  exact ⟨v, h1, r⟩, fun i C d h => by
  obtain ⟨o, h1, _, v, rfl, r⟩ := E.sl i _ h
  exact ⟨v, h1, r⟩⟩
theorem SlOk.mono {H' : Hp} {s : Sl} {o : Option V} {l : List Addr} (ok : SlOk K H0 H s o l) (s0 : Same H0 H0') (hh : ∀ b, b ∈ l → H' b = H b) : SlOk K H0' H' s o l := by
  cases s with
  | un => exact ok
  | val d => obtain ⟨a, v, b, r⟩ := ok; exact ⟨a, v, b, r.mono s0⟩
  | svF C d => obtain ⟨a, v, b, r⟩ := ok; exact ⟨a, v, b, r.mono s0⟩
  | own ds =>
    obtain ⟨a, vs, e1, e2, e3, r⟩ := ok
    exact ⟨a, vs, e1, e2, by rw [hh a (by rw [e2]; simp)]; exact e3, r.mono s0⟩
  | sv C d =>
    obtain ⟨a, dx, w, e1, e2, ne, e3, e4, r⟩ := ok
    exact ⟨a, dx, w, e1, e2, ne, by rw [hh a (by rw [e2]; simp)]; exact e3, by rw [hh dx (by rw [e2]; simp)]; exact e4, r.mono s0⟩
theorem Ev.go (E : Ev K Hb ρ σ H H0 L) (s : Same H0 H0') (n : ∀ b, ownB ρ L b = true → H0' b = none) : Ev K Hb ρ σ (back H H0' (ownB ρ L)) H0' L := by
  refine ⟨E.base.trans s, E.len, fun i sl h => ?_, E.out, fun i b h => n b (E.own_iff.mpr ⟨i, h⟩), E.dj, fun b h => ?_⟩
  · obtain ⟨o, h1, ok⟩ := E.sl i sl h
    refine ⟨o, h1, ok.mono s fun b hb => ?_⟩
    unfold back
    rw [if_pos (E.own_iff.mpr ⟨i, hb⟩)]
  · unfold back
    rw [if_neg]
    intro q
    obtain ⟨i, hi⟩ := E.own_iff.mp q
    exact h i hi
/-- the base may be any that stands in it -/
theorem Ev.rebase {Hc : Hp} (E : Ev K Hb ρ σ H H0 L) (s : Same Hc H0) : Ev K Hc ρ σ H H0 L := ⟨s, E.len, E.sl, E.out, E.no0, E.dj, E.eq⟩
/-- what a slot owned is shared from now on -/
theorem Ev.leak (E : Ev K Hb ρ σ H H0 L) (i : Nat) : ∃ H1, Same H0 H1 ∧ (∀ b, b ∈ L i → H1 b = H b) ∧ Ev K Hb (ρ.set i .un) σ H H1 (fun j => if j = i then [] else L j) := by
  have key : ∀ b, (if b ∈ L i then H b else H0 b) = H0 b ∨ b ∈ L i := fun b => by
    by_cases h : b ∈ L i
    · exact .inr h
    · rw [if_neg h]; exact .inl rfl
  have s1 : Same H0 (fun b => if b ∈ L i then H b else H0 b) := fun b o e => by
    show (if b ∈ L i then H b else H0 b) = some o
    rw [if_neg]
    · exact e
    · intro h
      rw [E.no0 i b h] at e; cases e
  refine ⟨fun b => if b ∈ L i then H b else H0 b, s1, fun b hb => if_pos hb, E.base.trans s1, by simp [E.len], fun j s h => ?_, fun j h => ?_, fun j b h => ?_, fun j k b h h' => ?_, fun b h => ?_⟩
  · by_cases hj : i = j
    · subst hj
      rw [List.getElem?_set] at h
      simp only [if_true] at h
      split at h
      · cases h
        rename_i hl
        obtain ⟨o, h1, _⟩ := E.sl i _ (List.getElem?_eq_getElem hl)
        exact ⟨o, h1, by simp [SlOk]⟩
      · cases h
    · rw [List.getElem?_set_ne hj] at h
      obtain ⟨o, h1, ok⟩ := E.sl j s h
      rw [if_neg (Ne.symm hj)]
      exact ⟨o, h1, ok.mono s1 fun b _ => rfl⟩
  · simp only [List.length_set] at h
    show (if j = i then [] else L j) = []
    split
    · rfl
    · exact E.out j h
  · by_cases hj : j = i
    · simp [hj] at h
    · simp only [hj, if_false] at h
      show (if b ∈ L i then H b else H0 b) = none
      rw [if_neg fun h' => hj (E.dj _ _ _ h h')]
      exact E.no0 j b h
  · by_cases hj : j = i
    · simp [hj] at h
    · by_cases hk : k = i
      · simp [hk] at h'
      · simp only [hj, hk, if_false] at h h'
        exact E.dj _ _ _ h h'
  · show H b = if b ∈ L i then H b else H0 b
    split
    · rfl
    · rename_i hb
      refine E.eq b fun j hj => ?_
      by_cases hji : j = i
      · exact hb (hji ▸ hj)
      · refine h j ?_
        rw [if_neg hji]; exact hj
theorem Ev.put {v : V} {d : D} (E : Ev K Hb ρ σ H H0 L) (i : Nat) (h0 : L i = []) (r : Rp K H0 v d) : Ev K Hb (ρ.set i (.val d)) (σ.set i (some v)) H H0 L := by
  refine ⟨E.base, by simp [E.len], fun j s h => ?_, fun j h => E.out j (by simpa using h), E.no0, E.dj, E.eq⟩
  by_cases hj : i = j
  · subst hj
    rw [List.getElem?_set] at h
    simp only [if_true] at h
    split at h
    · cases h
      rename_i hl
      exact ⟨some v, by rw [List.getElem?_set_self (by rw [E.len]; exact hl)], h0, v, rfl, r⟩
    · cases h
  · rw [List.getElem?_set_ne hj] at h
    obtain ⟨o, h1, ok⟩ := E.sl j s h
    exact ⟨o, by rw [List.getElem?_set_ne hj]; exact h1, ok⟩
theorem set_set {α : Type} (l : List α) (i : Nat) (a b : α) : (l.set i a).set i b = l.set i b := by simp
theorem Ev.setVal {v : V} {d : D} (E : Ev K Hb ρ σ H H0 L) (i : Nat) (r : Rp K H0 v d) : ∃ H1 L1, Same H0 H1 ∧ Ev K Hb (ρ.set i (.val d)) (σ.set i (some v)) H H1 L1 := by
  obtain ⟨H1, s1, _, E1⟩ := E.leak i
  have E2 := E1.put i (by simp) (r.mono s1)
  rw [set_set] at E2
  exact ⟨H1, _, s1, E2⟩
theorem Ev.setOwn {p : Addr} {vs : List V} {ds : List D} (E : Ev K Hb ρ σ H H0 L) (i : Nat) (hi : i < ρ.length) (hp : H p = none) (hp0 : H0 p = none) (r : RpA K H0 vs ds) :
    ∃ H1 L1, Same H0 H1 ∧ Ev K Hb (ρ.set i (.own ds)) (σ.set i (some (.ref p))) (upd H p (.lst vs)) H1 L1 := by
  obtain ⟨H1, s1, hk, E1⟩ := E.leak i
  have notL : ∀ j, p ∉ L j := fun j hj => by
    obtain ⟨s, o, h1, h2, ok⟩ := E.at_ hj
    have : ∃ o, H p = some o := by
      obtain ⟨_, o, e, _⟩ := E.frm.on p (E.own_iff.mpr ⟨j, hj⟩)
      exact ⟨o, e⟩
    obtain ⟨o, e⟩ := this
    rw [hp] at e; cases e
  have hp1 : H1 p = none := by
    rw [← E1.eq p fun j => by
      show p ∉ (if j = i then [] else L j)
      split
      · simp
      · exact notL j]
    exact hp
  refine ⟨H1, fun j => if j = i then [p] else L j, s1, E1.base, by simp [E.len], fun j s h => ?_, fun j h => ?_, fun j b h => ?_, fun j k b h h' => ?_, fun b h => ?_⟩
  · by_cases hj : i = j
    · subst hj
      rw [List.getElem?_set_self (by simpa using hi)] at h
      cases h
      refine ⟨some (.ref p), by rw [List.getElem?_set_self (by rw [E.len]; exact hi)], p, vs, rfl, by simp, upd_same, r.mono s1⟩
    · rw [List.getElem?_set_ne hj] at h
      obtain ⟨o, h1, ok⟩ := E1.sl j s (by rw [List.getElem?_set_ne hj]; exact h)
      rw [if_neg (Ne.symm hj)] at ok ⊢
      refine ⟨o, by rw [List.getElem?_set_ne hj]; exact h1, ok.mono (Same.refl H1) fun b hb => upd_ne fun q => notL j (q ▸ hb)⟩
  · have : j ≠ i := by simp only [List.length_set] at h; omega
    show (if j = i then [p] else L j) = []
    rw [if_neg this]
    exact E.out j (by simpa using h)
  · by_cases hj : j = i
    · simp only [hj, if_true, List.mem_singleton] at h
      rw [h]; exact hp1
    · simp only [hj, if_false] at h
      exact E1.no0 j b (by simp only [hj, if_false]; exact h)
  · by_cases hj : j = i
    · by_cases hk : k = i
      · rw [hj, hk]
      · simp only [hj, hk, if_true, if_false, List.mem_singleton] at h h'
        exact absurd (h ▸ h') (notL k)
    · by_cases hk : k = i
      · simp only [hj, hk, if_true, if_false, List.mem_singleton] at h h'
        exact absurd (h' ▸ h) (notL j)
      · simp only [hj, hk, if_false] at h h'
        exact E.dj _ _ _ h h'
  · have hb : b ≠ p := fun q => h i (by simp [q])
    rw [upd_ne hb]
    refine E1.eq b fun j hj => h j ?_
    by_cases hji : j = i
    · simp [hji] at hj
    · simp only [hji, if_false] at hj ⊢; exact hj
/-- an owned list is changed -/
theorem Ev.chg {l : Addr} {ws : List V} {ds es : List D} {i : Nat} (E : Ev K Hb ρ σ H H0 L) (hs : ρ[i]? = some (.own ds)) (hl : L i = [l]) (hσ : σ[i]? = some (some (.ref l))) (r : RpA K H0 ws es) :
    Ev K Hb (ρ.set i (.own es)) σ (upd H l (.lst ws)) H0 L := by
  have hi : i < ρ.length := (List.getElem?_eq_some_iff.mp hs).1
  refine ⟨E.base, by simp [E.len], fun j s h => ?_, fun j h => E.out j (by simpa using h), E.no0, E.dj, fun b h => ?_⟩
  · by_cases hj : i = j
    · subst hj
      rw [List.getElem?_set_self hi] at h
      cases h
      exact ⟨_, hσ, l, ws, rfl, hl, upd_same, r⟩
    · rw [List.getElem?_set_ne hj] at h
      obtain ⟨o, h1, ok⟩ := E.sl j s h
      refine ⟨o, h1, ok.mono (Same.refl H0) fun b hb => upd_ne fun q => hj ?_⟩
      exact E.dj i j b (by rw [hl, q]; simp) hb
  · have hb : b ≠ l := fun q => h i (by rw [hl, q]; simp)
    rw [upd_ne hb]
    exact E.eq b h
theorem Ev.ownAt {ds : List D} {i : Nat} (E : Ev K Hb ρ σ H H0 L) (hs : ρ[i]? = some (.own ds)) : ∃ l vs, σ[i]? = some (some (.ref l)) ∧ L i = [l] ∧ H l = some (.lst vs) ∧ RpA K H0 vs ds := by
  obtain ⟨o, h1, l, vs, rfl, h2, h3, h4⟩ := E.sl i _ hs
  exact ⟨l, vs, h1, h2, h3, h4⟩
/-- frozen -/
theorem Ev.freeze {ds : List D} {i : Nat} (E : Ev K Hb ρ σ H H0 L) (hs : ρ[i]? = some (.own ds)) : ∃ H1 L1, Same H0 H1 ∧ Ev K Hb (ρ.set i (.val (.list ds))) σ H H1 L1 := by
  obtain ⟨l, vs, h1, h2, h3, r⟩ := E.ownAt hs
  obtain ⟨H1, s1, hk, E1⟩ := E.leak i
  have hl : H1 l = some (.lst vs) := by rw [hk l (by rw [h2]; simp)]; exact h3
  have E2 := E1.put i (by simp) (Rp.lst hl (r.mono s1))
  rw [set_set] at E2
  have e : σ.set i (some (.ref l)) = σ := by
    obtain ⟨hi, e⟩ := List.getElem?_eq_some_iff.mp h1
    rw [← e]; exact List.set_getElem_self hi
  rw [e] at E2
  exact ⟨H1, _, s1, E2⟩
theorem use_e {f : Fn} {d : D} {Q : VK} (E : Ev K Hb ρ σ H H0 L) (hf : f ρ = some d) (k : ∀ v H' H0', Ev K Hb ρ σ H' H0' L → Same H0 H0' → Rp K H0' v d → Q v H') : tFr (tD K f) σ H Q :=
  ⟨H0, ownB ρ L, E.frm, ρ, d, E.vv, hf, fun v H0' s r n => k v _ H0' (E.go s n) s r⟩
theorem use_t {f : Store → Option Bool} {b : Bool} {Q : Bool → Hp → Prop} (E : Ev K Hb ρ σ H H0 L) (hf : f ρ = some b) (k : ∀ H' H0', Ev K Hb ρ σ H' H0' L → Same H0 H0' → Q b H') : tFrT (tT K f) σ H Q :=
  ⟨H0, ownB ρ L, E.frm, ρ, b, E.vv, hf, fun H0' s n => k _ H0' (E.go s n) s⟩
theorem use_l {f : Store → Option (List D)} {ds : List D} {Q : VK} (E : Ev K Hb ρ σ H H0 L) (hf : f ρ = some ds)
    (k : ∀ p vs H1 H1', Ev K Hb ρ σ H1 H1' L → Same H0 H1' → H1 p = none → H1' p = none → RpA K H1' vs ds → Q (.ref p) (upd H1 p (.lst vs))) : tFr (tL K f) σ H Q := by
  refine ⟨H0, ownB ρ L, E.frm, ρ, ds, E.vv, hf, fun p vs H0' s n r nn => ?_⟩
  have hp : ownB ρ L p = false := by
    cases q : ownB ρ L p with
    | false => rfl
    | true =>
      have := nn p q
      rw [upd_same] at this; cases this
  have nn' : ∀ b, ownB ρ L b = true → H0' b = none := fun b hb => by
    have hne : b ≠ p := fun z => by rw [z, hp] at hb; cases hb
    have := nn b hb
    rw [upd_ne hne] at this; exact this
  have e : back H (upd H0' p (.lst vs)) (ownB ρ L) = upd (back H H0' (ownB ρ L)) p (.lst vs) := by
    funext b
    unfold back upd
    by_cases hb : b = p
    · subst hb; simp [hp]
    · simp [hb]
  rw [e]
  refine k p vs _ H0' (E.go s nn') s ?_ n r
  unfold back
  rw [hp]; exact n
end
end Tv

namespace Tv
open PySem PySem.Spec L2
/-! ### borrowed: owned lists are read as shared ones; what comes of it holds no list -/
mutual
@[simp] def noL : D → Bool
  | .none => true
  | .bool _ => true
  | .int _ => true
  | .str _ => true
  | .tuple xs => noLs xs
  | .list _ => false
  | .dict _ => false
@[simp] def noLs : List D → Bool
  | [] => true
  | d :: ds => noL d && noLs ds
end
def frz1 : Sl → Sl
  | .own ds => .val (.list ds)
  | .sv C d => .svF C d
  | s => s
@[simp] theorem frz1_own (ds : List D) : frz1 (.own ds) = .val (.list ds) := rfl
@[simp] theorem frz1_val (d : D) : frz1 (.val d) = .val d := rfl
@[simp] theorem frz1_un : frz1 .un = .un := rfl
@[simp] theorem frz1_sv (C : Addr) (d : D) : frz1 (.sv C d) = .svF C d := rfl
@[simp] theorem frz1_svF (C : Addr) (d : D) : frz1 (.svF C d) = .svF C d := rfl
@[simp] theorem frz1_frz1 (s : Sl) : frz1 (frz1 s) = frz1 s := by cases s <;> rfl
@[simp] def frz (ρ : Store) : Store := ρ.map frz1
section
variable {K : PySem.W.Frag} {Hb : Hp} {ρ ρ' : Store} {σ : L2.St} {H H' H0 H0' : Hp} {L : Nat → List Addr}
mutual
theorem Rp.noL (h : ∀ b o, ¬ frOk o → H b = some o → H' b = some o) : ∀ {d : D} {v : V}, Tv.noL d = true → Rp K H v d → Rp K H' v d
  | .none, _, _, .non => .non
  | .bool _, _, _, .bl b => .bl b
  | .int _, _, _, .int i => .int i
  | .str _, _, _, .str x => .str x
  | .tuple _, _, c, .tup e t => .tup (e.imp (h _ _ id) fun ⟨o, e⟩ => ⟨o, h _ _ id e⟩) (RpA.noL h (by simpa [Tv.noL] using c) t)
  | .list _, _, c, _ => by simp [Tv.noL] at c
  | .dict _, _, c, _ => by simp [Tv.noL] at c
theorem RpA.noL (h : ∀ b o, ¬ frOk o → H b = some o → H' b = some o) : ∀ {ds : List D} {vs : List V}, Tv.noLs ds = true → RpA K H vs ds → RpA K H' vs ds
  | [], _, _, .nil => .nil
  | _ :: _, _, c, .cons e t => by
    have c' := c
    simp only [Tv.noLs, Bool.and_eq_true] at c'
    exact .cons (Rp.noL h c'.1 e) (RpA.noL h c'.2 t)
end
theorem Ev.sub (E : Ev K Hb ρ σ H H0 L) : Same H0 H := E.frm.sub
theorem Ev.vvF (E : Ev K Hb ρ σ H H0 L) : EvV K (frz ρ) σ H := by
  refine ⟨by simp [frz, E.len], fun i d h => ?_, fun i C d h => ?_⟩
  · unfold frz at h
    rw [List.getElem?_map] at h
    cases q : ρ[i]? with
    | none => rw [q] at h; cases h
    | some s =>
      rw [q] at h
      cases s with
      | un => cases h
      | sv C d => cases h
      | svF C d => cases h
      | val e =>
        cases h
        obtain ⟨o, h1, _, v, rfl, r⟩ := E.sl i _ q
        exact ⟨v, h1, r.mono E.sub⟩
      | own ds =>
        cases h
        obtain ⟨l, vs, h1, h2, h3, r⟩ := E.ownAt q
        exact ⟨_, h1, .lst h3 (r.mono E.sub)⟩
  · unfold frz at h
    rw [List.getElem?_map] at h
    cases q : ρ[i]? with
    | none => rw [q] at h; cases h
    | some s =>
      rw [q] at h
      cases s with
      | un => cases h
      | val e => cases h
      | own ds => cases h
      | svF C d =>
        cases h
        obtain ⟨o, h1, _, v, rfl, r⟩ := E.sl i _ q
        exact ⟨v, h1, r.mono E.sub⟩
      | sv C d =>
        cases h
        obtain ⟨o, h1, a, dx, w, rfl, _, n, h2, h3, r⟩ := E.sl i _ q
        exact ⟨_, h1, a, dx, w, rfl, n, h2, h3, r.mono E.sub⟩
/-- the shared part behind a borrowing -/
theorem Ev.lent (E : Ev K Hb ρ σ H H0 L) (s : Same H H') : ∃ H0', Same H0 H0' ∧ (∀ b o, ¬ frOk o → H' b = some o → H0' b = some o) ∧ Ev K Hb ρ σ H' H0' L := by
  have nt : ∀ b, ownB ρ L b = true → ∃ o, H b = some o ∧ frOk o := fun b hb => (E.frm.on b hb).2
  have e0 : Same H0 (fun b => if ownB ρ L b = true then none else H' b) := fun b o e => by
    show (if ownB ρ L b = true then none else H' b) = some o
    rw [if_neg]
    · exact s _ _ (E.sub _ _ e)
    · intro q
      rw [(E.frm.on b q).1] at e; cases e
  refine ⟨_, e0, fun b o no e => ?_, E.base.trans e0, E.len, fun i sl h => ?_, E.out, fun i b h => if_pos (E.own_iff.mpr ⟨i, h⟩), E.dj, fun b h => ?_⟩
  · show (if ownB ρ L b = true then none else H' b) = some o
    rw [if_neg]
    · exact e
    · intro q
      obtain ⟨o, e', ok⟩ := nt b q
      rw [s _ _ e'] at e
      cases e
      exact no ok
  · obtain ⟨o, h1, ok⟩ := E.sl i sl h
    refine ⟨o, h1, ok.mono e0 fun b hb => ?_⟩
    obtain ⟨o, e', _⟩ := nt b (E.own_iff.mpr ⟨i, hb⟩)
    rw [e', s _ _ e']
  · show H' b = if ownB ρ L b = true then none else H' b
    rw [if_neg]
    intro q
    obtain ⟨i, hi⟩ := E.own_iff.mp q
    exact h i hi
end
/-! ### expressions where they stand in a statement -/
abbrev FX := Store → Option (D × Store)
def UseX (K : PySem.W.Frag) (t : TE) (g : FX) : Prop := ∀ (Hb : Hp) (ρ : Store) (σ : L2.St) (H H0 : Hp) (L : Nat → List Addr) (d : D) (ρ' : Store) (Q : VK), Ev K Hb ρ σ H H0 L → g ρ = some (d, ρ') →
  (∀ v H' H0' L', Ev K Hb ρ' σ H' H0' L' → Same H0 H0' → Rp K H0' v d → Q v H') → t σ H Q
def PX (X : Cx) (e : Expr) (g : FX) : Prop := ∃ t, PE X e t ∧ UseX X.K t g
def UseT (K : PySem.W.Frag) (t : TT) (g : Store → Option Bool) : Prop := ∀ (Hb : Hp) (ρ : Store) (σ : L2.St) (H H0 : Hp) (L : Nat → List Addr) (b : Bool) (Q : Bool → Hp → Prop), Ev K Hb ρ σ H H0 L → g ρ = some b →
  (∀ H' H0', Ev K Hb ρ σ H' H0' L → Same H0 H0' → Q b H') → t σ H Q
def PTX (X : Cx) (e : Expr) (g : Store → Option Bool) : Prop := ∃ t, PT X e t ∧ UseT X.K t g
@[simp] def xp (f : Fn) : FX := fun ρ => (f ρ).bind fun d => some (d, ρ)
@[simp] def xb (f : Fn) : FX := fun ρ => (f (frz ρ)).bind fun d => if noL d = true then some (d, ρ) else none
@[simp] def xt (f : Store → Option Bool) : Store → Option Bool := fun ρ => f (frz ρ)
section
variable {X : Cx} {e : Expr}
theorem x_p {f : Fn} (h : PE X e (tD X.K f)) : PX X e (xp f) := ⟨_, fr_e h, fun Hb ρ σ H H0 L d ρ' Q E hg k => by
  unfold xp at hg
  cases q : f ρ with
  | none => rw [q] at hg; cases hg
  | some d' =>
    rw [q] at hg
    cases hg
    exact use_e E q fun v H' H0' E' s r => k v H' H0' L E' s r⟩
theorem x_b {f : Fn} (h : PE X e (tD X.K f)) : PX X e (xb f) := ⟨_, h, fun Hb ρ σ H H0 L d ρ' Q E hg k => by
  unfold xb at hg
  cases q : f (frz ρ) with
  | none => rw [q] at hg; cases hg
  | some d' =>
    rw [q] at hg
    simp only [Option.bind_some] at hg
    split at hg
    · rename_i hn
      cases hg
      refine ⟨frz ρ, d, E.vvF, q, fun v H' s r => ?_⟩
      obtain ⟨H0', s0, ht, E'⟩ := E.lent s
      exact k v H' H0' L E' s0 (Rp.noL ht hn r)
    · cases hg⟩
theorem x_t {f : Store → Option Bool} (h : PT X e (tT X.K f)) : PTX X e (xt f) := ⟨_, h, fun Hb ρ σ H H0 L b Q E hg k =>
  ⟨frz ρ, b, E.vvF, hg, fun H' s => let ⟨H0', s0, _, E'⟩ := E.lent s; k H' H0' E' s0⟩⟩
end
/-! ### what is walked -/
def Yld (K : PySem.W.Frag) (Hs H : Hp) (x : V) (H' : Hp) (d : D) : Prop :=
  (H' = H ∧ Rp K Hs x d) ∨ ∃ T xs es, H T = none ∧ x = .ref T ∧ H' = upd H T (.tup xs) ∧ d = .tuple es ∧ RpA K Hs xs es
def ItOk (K : PySem.W.Frag) (J : It) (ds : List D) (Hs : Hp) : Prop := ∀ (i : Nat) (H : Hp), Same Hs H → (i = ds.length → J.stop i H) ∧ ∀ d, ds[i]? = some d → J.go i H ∧ ∀ x H', J.yld i H x H' → Yld K Hs H x H' d
theorem ItOk.mono {K : PySem.W.Frag} {J : It} {ds : List D} {Hs Ht : Hp} (h : ItOk K J ds Hs) (s : Same Hs Ht) : ItOk K J ds Ht := fun i H s' => by
  obtain ⟨a, b⟩ := h i H (s.trans s')
  refine ⟨a, fun d hd => ⟨(b d hd).1, fun x H' y => ?_⟩⟩
  rcases (b d hd).2 x H' y with ⟨e, r⟩ | ⟨T, xs, es, h1, h2, h3, h4, r⟩
  · exact .inl ⟨e, r.mono s⟩
  · exact .inr ⟨T, xs, es, h1, h2, h3, h4, r.mono s⟩
def iD (K : PySem.W.Frag) (f : Store → Option (List D)) : TI := fun σ H R => ∃ ρ ds, EvV K ρ σ H ∧ f ρ = some ds ∧ ∀ J H', Same H H' → ItOk K J ds H' → R J H'
def UseI (K : PySem.W.Frag) (t : TI) (g : Store → Option (List D)) : Prop := ∀ (Hb : Hp) (ρ : Store) (σ : L2.St) (H H0 : Hp) (L : Nat → List Addr) (ds : List D) (R : It → Hp → Prop), Ev K Hb ρ σ H H0 L → g ρ = some ds →
  (∀ J H' H0', Ev K Hb ρ σ H' H0' L → Same H0 H0' → ItOk K J ds H0' → R J H') → t σ H R
def PIX (X : Cx) (tg e : Expr) (g : Store → Option (List D)) : Prop := ∃ t, PI X tg e t ∧ UseI X.K t g
theorem x_i {X : Cx} {tg e : Expr} {f : Store → Option (List D)} (h : PI X tg e (iD X.K f)) : PIX X tg e f := ⟨_, fr_i h, fun Hb ρ σ H H0 L ds R E hg k =>
  ⟨H0, ownB ρ L, E.frm, ρ, ds, E.vv, hg, fun J H0' s io n => k J _ H0' (E.go s n) s io⟩⟩
theorem SqL.uniq {K : PySem.W.Frag} {H : Hp} {a : Addr} {xs : List V} (h : H a = some (.lst xs)) (P : List V → Prop) (k : ∀ ys, SqL K H a ys → P ys) : P xs := k xs (.of h)
section
variable {X : Cx} {tg e : Expr}
/-- the list or tuple at a -/
theorem itl_ok {K : PySem.W.Frag} {Hs : Hp} {a : Addr} {xs : List V} {ds : List D} (h : Hs a = some (.lst xs)) (r : RpA K Hs xs ds) : ItOk K (Itl K a) ds Hs := fun i H s => by
  have hq : SqL K H a xs := .of (s _ _ h)
  refine ⟨fun hi => ⟨xs, hq, by rw [r.length, hi]; exact Nat.le_refl _⟩, fun d hd => ?_⟩
  obtain ⟨v, hv, rv⟩ := r.get hd
  exact ⟨⟨xs, v, hq, hv⟩, fun x H' ⟨e1, e2⟩ => .inl ⟨e1, by rw [Option.some.inj ((e2 xs hq).symm.trans hv)]; exact rv⟩⟩
theorem itt_ok {K : PySem.W.Frag} {Hs : Hp} {a : Addr} {xs : List V} {ds : List D} (h : Rd Hs a (.tup xs)) (r : RpA K Hs xs ds) : ItOk K (Itt K a) ds Hs := fun i H s => by
  have hq : SqT K H a xs := .inl (h.mono s)
  refine ⟨fun hi => ⟨xs, hq, by rw [r.length, hi]; exact Nat.le_refl _⟩, fun d hd => ?_⟩
  obtain ⟨v, hv, rv⟩ := r.get hd
  exact ⟨⟨xs, v, hq, hv⟩, fun x H' ⟨e1, e2⟩ => .inl ⟨e1, by rw [Option.some.inj ((e2 xs hq).symm.trans hv)]; exact rv⟩⟩
def chs (x : Str) : List D := x.cps.toList.map fun c => .str ⟨#[c]⟩
theorem its_ok {K : PySem.W.Frag} {Hs : Hp} {x : Str} : ItOk K (Its x) (chs x) Hs := fun i H s => by
  refine ⟨fun hi => ?_, fun d hd => ?_⟩
  · show x.cps.size ≤ i
    rw [hi]; simp [chs]
  · unfold chs at hd
    rw [List.getElem?_map] at hd
    cases q : x.cps.toList[i]? with
    | none => rw [q] at hd; cases hd
    | some c =>
      rw [q] at hd; cases hd
      have hi := (List.getElem?_eq_some_iff.mp q).1
      refine ⟨by show i < x.cps.size; simpa using hi, fun v H' ⟨e1, c', e2, e3⟩ => .inl ⟨e1, ?_⟩⟩
      have : c' = c := by
        have h2 : x.cps.toList[i]? = some c' := by rw [Array.getElem?_toList]; exact e2
        rw [q] at h2; exact (Option.some.inj h2).symm
      rw [e3, this]
      exact .str _
def iSeq (K : PySem.W.Frag) (tl : TE) : TI := fun σ H R => tl σ H fun x H1 => (∃ a, x = .ref a ∧ (∃ xs, SqL K H1 a xs) ∧ R (Itl K a) H1) ∨ (∃ a, x = .ref a ∧ (∃ xs, SqT K H1 a xs) ∧ R (Itt K a) H1) ∨ ∃ z, x = .str z ∧ R (Its z) H1
/-- the walk begins at a value that stands in a name's place: as if it were written -/
theorem pi_seq {tl : TE} (hl : PE X e tl) : PI X tg e (iSeq X.K tl) := by
  refine ⟨fun pins s σ H R I h => ?_⟩
  refine thn (hl.run pins s σ H _ I h) fun v s1 ⟨x, H1, I1, r1, q1⟩ => ?_
  rcases q1 with ⟨a, e1, ⟨xs, hq⟩, q⟩ | ⟨a, e1, ⟨xs, hq⟩, q⟩ | ⟨z, e1, q⟩
  · subst e1
    cases r1
    obtain ⟨its, rv, pl, hz⟩ := I1.list hq
    exact wpAny_pyIter_list pl.isList (pi_one (tk := s1.toks) I1 _ (turn_list a _) ⟨_, Heap.get?_push_size _ rfl, rfl, rfl⟩ q)
  · subst e1
    cases r1
    obtain ⟨its, rv, pl, hz⟩ := I1.tuple hq
    exact wpAny_pyIter_tuple (show s1.heap.IsTuple a its.toArray from pl) (pi_one (tk := s1.toks) I1 _ (turn_tuple a _) ⟨_, Heap.get?_push_size _ rfl, rfl, rfl⟩ q)
  · subst e1
    obtain ⟨t, rfl⟩ := r1
    cases ha : z.cps.all (· < 128) with
    | false => exact wpAny_pyIter_wide ha (pi_one (tk := s1.toks) I1 _ (turn_str _ z t _ (.inr rfl)) ⟨_, Heap.get?_push_size _ rfl, rfl, rfl⟩ q)
    | true => exact wpAny_pyIter_ascii ha (pi_one (tk := s1.toks) I1 _ (turn_str _ z t _ (.inl rfl)) ⟨_, Heap.get?_push_size _ rfl, rfl, rfl⟩ q)
@[simp] def seqD : D → Option (List D)
  | .list ds => some ds
  | .tuple ds => some ds
  | .str x => some (chs x)
  | _ => none
@[simp] def iseq (f : Fn) : Store → Option (List D) := fun ρ => (f ρ).bind seqD
theorem i_seq {f : Fn} (h : PE X e (tD X.K f)) : PI X tg e (iD X.K (iseq f)) := (pi_seq h).imw fun σ H R ⟨ρ, ds, E, hf, k⟩ => by
  unfold iseq at hf
  cases q : f ρ with
  | none => rw [q] at hf; cases hf
  | some d =>
    rw [q] at hf
    refine ⟨ρ, d, E, q, fun v H1 s1 r1 => ?_⟩
    cases d with
    | list xs =>
      cases hf
      obtain ⟨a, ys, rfl, h1, h2⟩ := r1.lst_inv
      exact .inl ⟨a, rfl, ⟨ys, .of h1⟩, k _ H1 s1 (itl_ok h1 h2)⟩
    | tuple xs =>
      cases hf
      obtain ⟨a, ys, rfl, h1, h2⟩ := r1.tup_inv
      exact .inr (.inl ⟨a, rfl, ⟨ys, .inl h1⟩, k _ H1 s1 (itt_ok h1 h2)⟩)
    | str x =>
      cases hf
      exact .inr (.inr ⟨x, r1.str_inv, k _ H1 s1 its_ok⟩)
    | _ => cases hf
/-! range -/
def rng (lo hi : Int) : List D := (List.range (hi - lo).toNat).map fun (k : Nat) => .int (lo + (k : Int))
def smI (i : Int) : Bool := decide (i.natAbs < 4611686018427387904)
@[simp] def rng1D : List D → Option (List D)
  | [.int j] => if smI j = true then some (rng 0 j) else none
  | _ => none
@[simp] def rng2D : List D → Option (List D)
  | [.int i, .int j] => if (smI i && smI j) = true then some (rng i j) else none
  | _ => none
@[simp] def irng1 (f : Store → Option (List D)) : Store → Option (List D) := fun ρ => (f ρ).bind rng1D
@[simp] def irng2 (f : Store → Option (List D)) : Store → Option (List D) := fun ρ => (f ρ).bind rng2D
theorem itr_ok {K : PySem.W.Frag} {Hs : Hp} {lo hi : Int} : ItOk K (Itr lo (hi - lo).toNat) (rng lo hi) Hs := fun i H s => by
  refine ⟨fun hh => ?_, fun d hd => ?_⟩
  · show (hi - lo).toNat ≤ i
    rw [hh]; simp [rng]
  · unfold rng at hd
    rw [List.getElem?_map] at hd
    cases q : (List.range (hi - lo).toNat)[i]? with
    | none => rw [q] at hd; cases hd
    | some c =>
      rw [q] at hd; cases hd
      obtain ⟨hl, e⟩ := List.getElem?_eq_some_iff.mp q
      rw [List.getElem_range] at e
      subst e
      refine ⟨by show i < (hi - lo).toNat; simpa using hl, fun v H' ⟨e1, e2⟩ => .inl ⟨e1, ?_⟩⟩
      rw [e2]; exact .int _
theorem smI_ok {i : Int} (h : smI i = true) : -(2 ^ 62) ≤ i ∧ i < 2 ^ 62 := by
  unfold smI at h
  have := of_decide_eq_true h
  omega
end
end Tv

namespace Tv
open PySem PySem.Spec L2
section
variable {X : Cx} {tg e : Expr}
theorem i_rng1 {a : Expr} {f : Store → Option (List D)} {p pos : Pos} (hm : X.mg "range" = none) (ha : PA X [a] (tA X.K f)) (hg : Gl X "range" := by rfl) (hs : starEach [a] X.env = [(false, eval a X.env)] := by rfl) :
    PI X tg (.Call (.Name "range" p) [a] [] pos) (iD X.K (irng1 f)) := (pi_range1 hg hm ha hs).imw fun σ H R ⟨ρ, ds, E, hf, k⟩ => by
  unfold irng1 at hf
  cases q : f ρ with
  | none => rw [q] at hf; cases hf
  | some as =>
    rw [q] at hf
    simp only [Option.bind_some] at hf
    refine ⟨ρ, as, E, q, fun vs H1 s1 r1 => ?_⟩
    unfold rng1D at hf
    split at hf
    · split at hf
      · rename_i j hj
        cases hf
        obtain ⟨h1, h2⟩ := smI_ok hj
        cases r1 with
        | cons r rr =>
          cases rr
          refine ⟨j, by rw [r.int_inv], h1, h2, k _ H1 s1 ?_⟩
          have := itr_ok (K := X.K) (Hs := H1) (lo := 0) (hi := j)
          rw [Int.sub_zero] at this
          exact this
      · cases hf
    · cases hf
theorem i_rng2 {a b : Expr} {f : Store → Option (List D)} {p pos : Pos} (hm : X.mg "range" = none) (ha : PA X [a, b] (tA X.K f)) (hg : Gl X "range" := by rfl) (hs : starEach [a, b] X.env = [(false, eval a X.env), (false, eval b X.env)] := by rfl) (hs2 : starEach [b] X.env = [(false, eval b X.env)] := by rfl) :
    PI X tg (.Call (.Name "range" p) [a, b] [] pos) (iD X.K (irng2 f)) := (pi_range2 hg hm ha hs hs2).imw fun σ H R ⟨ρ, ds, E, hf, k⟩ => by
  unfold irng2 at hf
  cases q : f ρ with
  | none => rw [q] at hf; cases hf
  | some as =>
    rw [q] at hf
    simp only [Option.bind_some] at hf
    refine ⟨ρ, as, E, q, fun vs H1 s1 r1 => ?_⟩
    unfold rng2D at hf
    split at hf
    · split at hf
      · rename_i i j hj
        cases hf
        rw [Bool.and_eq_true] at hj
        obtain ⟨h1, h2⟩ := smI_ok hj.1
        obtain ⟨h3, h4⟩ := smI_ok hj.2
        cases r1 with
        | cons r rr =>
          cases rr with
          | cons r' rr =>
            cases rr
            exact ⟨i, j, by rw [r.int_inv, r'.int_inv], ⟨h1, h2, h3, h4⟩, k _ H1 s1 itr_ok⟩
      · cases hf
    · cases hf
/-! enumerate, zip of lists -/
def enumL (ds : List D) : List D := (List.range ds.length).zipWith (fun (k : Nat) d => .tuple [.int (k : Int), d]) ds
@[simp] def enumD : List D → Option (List D)
  | [.list ds] => some (enumL ds)
  | _ => none
def zipL (xs ys : List D) : List D := xs.zipWith (fun x y => .tuple [x, y]) ys
@[simp] def zipD : List D → Option (List D)
  | [.list xs, .list ys] => some (zipL xs ys)
  | _ => none
@[simp] def ienum (f : Store → Option (List D)) : Store → Option (List D) := fun ρ => (f ρ).bind enumD
@[simp] def izip (f : Store → Option (List D)) : Store → Option (List D) := fun ρ => (f ρ).bind zipD
theorem ite_ok {K : PySem.W.Frag} {Hs : Hp} {a : Addr} {xs : List V} {ds : List D} (h : Hs a = some (.lst xs)) (r : RpA K Hs xs ds) : ItOk K (Ite K a) (enumL ds) Hs := fun i H s => by
  have hq : SqL K H a xs := .of (s _ _ h)
  refine ⟨fun hi => ⟨xs, hq, ?_⟩, fun d hd => ?_⟩
  · have : (enumL ds).length = ds.length := by simp [enumL]
    rw [r.length, hi, this]; exact Nat.le_refl _
  · unfold enumL at hd
    rw [List.getElem?_zipWith] at hd
    cases q : (List.range ds.length)[i]? with
    | none => rw [q] at hd; simp at hd
    | some c =>
      cases q2 : ds[i]? with
      | none => rw [q, q2] at hd; simp at hd
      | some e =>
        rw [q, q2] at hd
        obtain ⟨hl, e1⟩ := List.getElem?_eq_some_iff.mp q
        rw [List.getElem_range] at e1
        subst e1
        cases hd
        obtain ⟨v, hv, rv⟩ := r.get q2
        refine ⟨⟨xs, v, hq, hv⟩, fun x H' ⟨T, z, e1, e2, e3, e4⟩ => .inr ⟨T, [.int (i : Nat), z], _, e2, e1, e3, rfl, .cons (.int _) (.one ?_)⟩⟩
        rw [Option.some.inj ((e4 xs hq).symm.trans hv)]
        exact rv
theorem itz_ok {K : PySem.W.Frag} {Hs : Hp} {a b : Addr} {xs ys : List V} {ds es : List D} (h : Hs a = some (.lst xs)) (r : RpA K Hs xs ds) (h' : Hs b = some (.lst ys)) (r' : RpA K Hs ys es) : ItOk K (Itz K a b) (zipL ds es) Hs := fun i H s => by
  have hq : SqL K H a xs := .of (s _ _ h)
  have hq' : SqL K H b ys := .of (s _ _ h')
  refine ⟨fun hi => ⟨xs, ys, hq, hq', ?_⟩, fun d hd => ?_⟩
  · have : (zipL ds es).length = min ds.length es.length := by simp [zipL]
    rw [r.length, r'.length, hi, this]
    omega
  · unfold zipL at hd
    rw [List.getElem?_zipWith] at hd
    cases q : ds[i]? with
    | none => rw [q] at hd; simp at hd
    | some c =>
      cases q2 : es[i]? with
      | none => rw [q, q2] at hd; simp at hd
      | some e =>
        rw [q, q2] at hd
        cases hd
        obtain ⟨v, hv, rv⟩ := r.get q
        obtain ⟨u, hu, ru⟩ := r'.get q2
        refine ⟨⟨xs, ys, v, u, hq, hq', hv, hu⟩, fun x H' ⟨T, z, w, e1, e2, e3, e4, e5⟩ => .inr ⟨T, [z, w], _, e2, e1, e3, rfl, .cons ?_ (.one ?_)⟩⟩
        · rw [Option.some.inj ((e4 xs hq).symm.trans hv)]; exact rv
        · rw [Option.some.inj ((e5 ys hq').symm.trans hu)]; exact ru
theorem i_enum {a : Expr} {f : Store → Option (List D)} {p pos tpos : Pos} {elts : List Expr} {kk : Nat} (hm : X.mg "enumerate" = none) (ha : PA X [a] (tA X.K f)) (hg : Gl X "enumerate" := by rfl) (hs : starEach [a] X.env = [(false, eval a X.env)] := by rfl) :
    PI X (.Tuple elts kk tpos) (.Call (.Name "enumerate" p) [a] [] pos) (iD X.K (ienum f)) := (pi_enum hg hm ha hs).imw fun σ H R ⟨ρ, ds, E, hf, k⟩ => by
  unfold ienum at hf
  cases q : f ρ with
  | none => rw [q] at hf; cases hf
  | some as =>
    rw [q] at hf
    simp only [Option.bind_some] at hf
    refine ⟨ρ, as, E, q, fun vs H1 s1 r1 => ?_⟩
    unfold enumD at hf
    split at hf
    · cases hf
      cases r1 with
      | cons r rr =>
        cases rr
        obtain ⟨b, xs, rfl, h1, h2⟩ := r.lst_inv
        exact ⟨b, xs, rfl, .of h1, k _ H1 s1 (ite_ok h1 h2)⟩
    · cases hf
theorem i_zip {a b : Expr} {f : Store → Option (List D)} {p pos tpos : Pos} {elts : List Expr} {kk : Nat} (hm : X.mg "zip" = none) (ha : PA X [a, b] (tA X.K f)) (hg : Gl X "zip" := by rfl)
    (hs : starEach [a, b] X.env = (false, eval a X.env) :: starEach [b] X.env := by rfl) (hs2 : ((backTo pos (starEach [b] X.env)).any fun x => x.fst) = false := by rfl) :
    PI X (.Tuple elts kk tpos) (.Call (.Name "zip" p) [a, b] [] pos) (iD X.K (izip f)) := (pi_zip hg hm ha hs hs2).imw fun σ H R ⟨ρ, ds, E, hf, k⟩ => by
  unfold izip at hf
  cases q : f ρ with
  | none => rw [q] at hf; cases hf
  | some as =>
    rw [q] at hf
    simp only [Option.bind_some] at hf
    refine ⟨ρ, as, E, q, fun vs H1 s1 r1 => ?_⟩
    unfold zipD at hf
    split at hf
    · cases hf
      cases r1 with
      | cons r rr =>
        cases rr with
        | cons r' rr =>
          cases rr
          obtain ⟨c, xs, rfl, h1, h2⟩ := r.lst_inv
          obtain ⟨d, ys, rfl, h3, h4⟩ := r'.lst_inv
          exact ⟨c, d, xs, ys, rfl, .of h1, .of h3, k _ H1 s1 (itz_ok h1 h2 h3 h4)⟩
    · cases hf
end
/-! ### targets -/
inductive Tg where
  | nm (i : Nat) | tp (is : List Nat)
def gNs : List Nat → TGs
  | [] => gNil
  | i :: r => gCons (gName i) (gNs r)
def gT (K : PySem.W.Frag) : Tg → TG
  | .nm i => gName i
  | .tp is => gTup K is.length (gNs is)
@[simp] def bindS : List Nat → List D → Store → Option Store
  | [], [], ρ => some ρ
  | i :: is, d :: ds, ρ => bindS is ds (ρ.set i (.val d))
  | _, _, _ => none
@[simp] def bindT : Tg → D → Store → Option Store
  | .nm i, d, ρ => some (ρ.set i (.val d))
  | .tp is, .tuple ds, ρ => bindS is ds ρ
  | _, _, _ => none
def slots : Tg → List Nat
  | .nm i => [i]
  | .tp is => is
section
variable {X : Cx} {pos : Pos}
theorem g_nm {i : Nat} {x : Str} (hN : X.N.Nodup) (hi : X.N[i]? = some x := by rfl) (hx : Loc X.env.scope x := by first | exact .inl rfl | exact .inr rfl) (hf : X.fn x = true ∨ X.env.scope.names.lookup x = some .local := by first | exact .inl rfl | exact .inr rfl | assumption) :
    PG X (.Name x pos) (gT X.K (.nm i)) := pg_name hN hi hx hf
theorem gs_nil : PGs X [] (gNs []) := pgs_nil
theorem gs_cons {e : Expr} {es : List Expr} {i : Nat} {is : List Nat} (h1 : PG X e (gT X.K (.nm i))) (h2 : PGs X es (gNs is)) (hs : (assignEach (e :: es) X.env).map (·.2) = assign e X.env :: (assignEach es X.env).map (·.2) := by rfl) : PGs X (e :: es) (gNs (i :: is)) := pgs_cons h1 h2 hs
theorem g_tp {es : List Expr} {k : Nat} {is : List Nat} (h : PGs X es (gNs is)) (hc : X.calm = true := by rfl) (hn : (assignEach es X.env).length = is.length := by rfl) (hst : (assignEach es X.env).findIdx? (·.1) = none := by rfl) : PG X (.Tuple es k pos) (gT X.K (.tp is)) := pg_tup hc h hn hst
end
theorem wipe_set {σ : L2.St} {i : Nat} {o : Option V} : ∀ {vs : List Nat}, i ∈ vs → L2.wipe (σ.set i o) vs = L2.wipe σ vs
  | v :: vs, h => by
    by_cases hv : i ∈ vs
    · show (L2.wipe (σ.set i o) vs).set v none = (L2.wipe σ vs).set v none
      rw [wipe_set hv]
    · have e : i = v := by
        rcases List.mem_cons.mp h with h | h
        · exact h
        · exact absurd h hv
      subst e
      have key : ∀ (us : List Nat), i ∉ us → L2.wipe (σ.set i o) us = (L2.wipe σ us).set i o := by
        intro us
        induction us with
        | nil => intro _; rfl
        | cons u us ih =>
          intro hu
          have h1 : i ≠ u := fun q => hu (q ▸ List.mem_cons_self)
          show (L2.wipe (σ.set i o) us).set u none = ((L2.wipe σ us).set u none).set i o
          rw [ih fun q => hu (List.mem_cons_of_mem _ q), List.set_comm _ _ h1]
      show (L2.wipe (σ.set i o) vs).set i none = (L2.wipe σ vs).set i none
      rw [key vs hv]
      simp
section
variable {K : PySem.W.Frag} {Hb : Hp} {ρ ρ' : Store} {σ : L2.St} {H H0 : Hp} {L : Nat → List Addr}
theorem bindS_len : ∀ {is : List Nat} {ds : List D} {ρ ρ' : Store}, bindS is ds ρ = some ρ' → ds.length = is.length
  | [], [], _, _, _ => rfl
  | _ :: is, _ :: ds, _, _, h => by simp [bindS_len (is := is) (ds := ds) h]
  | [], _ :: _, _, _, h => by cases h
  | _ :: _, [], _, _, h => by cases h
theorem gNs_vv : ∀ {is : List Nat} {vs : List V} {ds : List D} {ρ ρ' : Store} {σ : L2.St} {Q : L2.St → Hp → Prop}, EvV K ρ σ H0 → RpA K H0 vs ds → bindS is ds ρ = some ρ' →
    (∀ σ', EvV K ρ' σ' H0 → (∀ us : List Nat, (∀ i ∈ is, i ∈ us) → L2.wipe σ' us = L2.wipe σ us) → Q σ' H) → gNs is vs σ H Q
  | [], _, [], _, _, _, _, E, .nil, hb, k => by
    cases hb
    exact ⟨rfl, k _ E fun us _ => rfl⟩
  | i :: is, _, d :: ds, ρ, ρ', σ, Q, E, .cons r rr, hb, k => by
    refine ⟨_, _, rfl, gNs_vv (E.set i r) rr hb fun σ' E' hw => k σ' E' fun us hu => ?_⟩
    rw [hw us fun j hj => hu j (List.mem_cons_of_mem _ hj), wipe_set (hu i List.mem_cons_self)]
  | [], _, _ :: _, _, _, _, _, _, _, hb, _ => by cases hb
  | _ :: _, _, [], _, _, _, _, _, _, hb, _ => by cases hb
theorem gT_vv {T : Tg} {v : V} {d : D} {Q : L2.St → Hp → Prop} (E : EvV K ρ σ H0) (s0 : Same H0 H) (r : Rp K H0 v d) (hb : bindT T d ρ = some ρ')
    (k : ∀ σ', EvV K ρ' σ' H0 → (∀ us : List Nat, (∀ i ∈ slots T, i ∈ us) → L2.wipe σ' us = L2.wipe σ us) → Q σ' H) : gT K T v σ H Q := by
  cases T with
  | nm i =>
    cases hb
    exact k _ (E.set i r) fun us hu => wipe_set (hu i (by simp [slots]))
  | tp is =>
    cases d with
    | tuple ds =>
      obtain ⟨a, xs, rfl, h1, h2⟩ := r.tup_inv
      exact ⟨a, xs, rfl, .inl (h1.mono s0), by rw [h2.length]; exact bindS_len hb, gNs_vv E h2 hb k⟩
    | _ => cases hb
theorem gNs_ev : ∀ {is : List Nat} {vs : List V} {ds : List D} {ρ ρ' : Store} {σ : L2.St} {H0 : Hp} {L : Nat → List Addr} {Q : L2.St → Hp → Prop}, Ev K Hb ρ σ H H0 L → RpA K H0 vs ds → bindS is ds ρ = some ρ' →
    (∀ σ' H0' L', Ev K Hb ρ' σ' H H0' L' → Same H0 H0' → Q σ' H) → gNs is vs σ H Q
  | [], _, [], _, _, _, _, _, _, E, .nil, hb, k => by
    cases hb
    exact ⟨rfl, k _ _ _ E (Same.refl _)⟩
  | i :: is, _, d :: ds, ρ, ρ', σ, H0, L, Q, E, .cons r rr, hb, k => by
    obtain ⟨H1, L1, s1, E1⟩ := E.setVal i r
    exact ⟨_, _, rfl, gNs_ev E1 (rr.mono s1) hb fun σ' H0' L' E' s => k σ' H0' L' E' (s1.trans s)⟩
  | [], _, _ :: _, _, _, _, _, _, _, _, _, hb, _ => by cases hb
  | _ :: _, _, [], _, _, _, _, _, _, _, _, hb, _ => by cases hb
theorem gT_ev {T : Tg} {v : V} {d : D} {Q : L2.St → Hp → Prop} (E : Ev K Hb ρ σ H H0 L) (r : Rp K H0 v d) (hb : bindT T d ρ = some ρ')
    (k : ∀ σ' H0' L', Ev K Hb ρ' σ' H H0' L' → Same H0 H0' → Q σ' H) : gT K T v σ H Q := by
  cases T with
  | nm i =>
    cases hb
    obtain ⟨H1, L1, s1, E1⟩ := E.setVal i r
    exact k _ _ _ E1 s1
  | tp is =>
    cases d with
    | tuple ds =>
      obtain ⟨a, xs, rfl, h1, h2⟩ := r.tup_inv
      exact ⟨a, xs, rfl, .inl (h1.mono E.sub), by rw [h2.length]; exact bindS_len hb, gNs_ev E h2 hb k⟩
    | _ => cases hb
/-- a new tuple that the walk has laid -/
theorem Ev.newTup {T : Addr} {o : HO} (E : Ev K Hb ρ σ H H0 L) (h : H T = none) : Ev K Hb ρ σ (upd H T o) (upd H0 T o) L := by
  have h0 : H0 T = none := E.frm.none h
  have nT : ∀ i, T ∉ L i := fun i hi => by
    obtain ⟨_, o, e, _⟩ := E.frm.on T (E.own_iff.mpr ⟨i, hi⟩)
    rw [h] at e; cases e
  refine ⟨E.base.trans (same_upd h0), E.len, fun i s hs => ?_, E.out, fun i b hb => ?_, E.dj, fun b hb => ?_⟩
  · obtain ⟨o', h1, ok⟩ := E.sl i s hs
    exact ⟨o', h1, ok.mono (same_upd h0) fun b hb => upd_ne fun q => nT i (q ▸ hb)⟩
  · rw [upd_ne (show b ≠ T from fun q => nT i (q ▸ hb))]
    exact E.no0 i b hb
  · unfold upd
    split
    · rfl
    · exact E.eq b hb
end
end Tv

namespace Tv
open PySem PySem.Spec L2
/-! ### statements as functions -/
inductive Out where
  | nx (ρ : Store) | rt (d : D) (ρ : Store) | bk (ρ : Store) | ct (ρ : Store) | ex (c : Value) (ρ : Store) | stuck
abbrev Fs := Store → Out
abbrev WXT := Value → Option Addr → L2.St → Hp → Prop
def PostO (K : PySem.W.Frag) (Hb : Hp) (W : WXT) (D : Ends) : Out → Prop
  | .nx ρ => ∀ σ H H0 L, Ev K Hb ρ σ H H0 L → D.nx σ H
  | .rt d ρ => ∀ v σ H H0 L, Ev K Hb ρ σ H H0 L → Rp K H0 v d → D.rt v H
  | .bk ρ => ∀ σ H H0 L, Ev K Hb ρ σ H H0 L → D.bk σ H
  | .ct ρ => ∀ σ H H0 L, Ev K Hb ρ σ H H0 L → D.ct σ H
  | .ex c ρ => ∀ σ H H0 L, Ev K Hb ρ σ H H0 L → W c none σ H
  | .stuck => False
def tS (K : PySem.W.Frag) (W : WXT) (g : Fs) : TS := fun D σ H => ∃ Hb ρ H0 L, Ev K Hb ρ σ H H0 L ∧ PostO K Hb W D (g ρ)
theorem PostO.rebase {K : PySem.W.Frag} {Hb Hc : Hp} {W : WXT} {D : Ends} (s : Same Hb Hc) : ∀ {o : Out}, PostO K Hb W D o → PostO K Hc W D o
  | .nx _, h => fun σ H H0 L E => h σ H H0 L (E.rebase (s.trans E.base))
  | .rt _ _, h => fun v σ H H0 L E r => h v σ H H0 L (E.rebase (s.trans E.base)) r
  | .bk _, h => fun σ H H0 L E => h σ H H0 L (E.rebase (s.trans E.base))
  | .ct _, h => fun σ H H0 L E => h σ H H0 L (E.rebase (s.trans E.base))
  | .ex _ _, h => fun σ H H0 L E => h σ H H0 L (E.rebase (s.trans E.base))
  | .stuck, h => h
@[simp] def seqS (g1 g2 : Fs) : Fs := fun ρ => match g1 ρ with
  | .nx ρ' => g2 ρ'
  | o => o
@[simp] def skipS : Fs := .nx
section
variable {X : Cx} {st : Stmt} {rest : List Stmt} {W : WXT} {e : Expr} {pos : Pos}
theorem ss_nil : PSs X [] (tS X.K W skipS) := pss_nil.imw fun D σ H ⟨Hb, ρ, H0, L, E, h⟩ => h σ H H0 L E
theorem ss_cons {g1 g2 : Fs} (h1 : PS X st (tS X.K W g1)) (h2 : PSs X rest (tS X.K W g2)) : PSs X (st :: rest) (tS X.K W (seqS g1 g2)) :=
  (pss_cons h1 h2).imw fun D σ H ⟨Hb, ρ, H0, L, E, h⟩ => by
    refine ⟨Hb, ρ, H0, L, E, ?_⟩
    unfold seqS at h
    cases q : g1 ρ with
    | nx ρ' => rw [q] at h; exact fun σ' H' H0' L' E' => ⟨Hb, ρ', H0', L', E', h⟩
    | rt d ρ' => rw [q] at h; exact h
    | bk ρ' => rw [q] at h; exact h
    | ct ρ' => rw [q] at h; exact h
    | ex c ρ' => rw [q] at h; exact h
    | stuck => rw [q] at h; exact h
theorem ss_one {g : Fs} (h : PS X st (tS X.K W g)) : PSs X [st] (tS X.K W g) := pss_one h
theorem s_pass : PS X (.Pass pos) (tS X.K W skipS) := ps_pass.imw fun D σ H ⟨Hb, ρ, H0, L, E, h⟩ => h σ H H0 L E
theorem s_break : PS X (.Break pos) (tS X.K W .bk) := ps_break.imw fun D σ H ⟨Hb, ρ, H0, L, E, h⟩ => h σ H H0 L E
theorem s_cont : PS X (.Continue pos) (tS X.K W .ct) := ps_continue.imw fun D σ H ⟨Hb, ρ, H0, L, E, h⟩ => h σ H H0 L E
/-- an owned list is shared from here on -/
@[simp] def frzAt (i : Nat) (ρ : Store) : Store := match ρ[i]? with
  | some (.own ds) => ρ.set i (.val (.list ds))
  | _ => ρ
@[simp] def frzS (i : Nat) (g : Fs) : Fs := fun ρ => g (frzAt i ρ)
theorem frz_ev {K : PySem.W.Frag} {Hb : Hp} {ρ : Store} {σ : L2.St} {H H0 : Hp} {L : Nat → List Addr} (E : Ev K Hb ρ σ H H0 L) (i : Nat) : ∃ H1 L1, Ev K Hb (frzAt i ρ) σ H H1 L1 := by
  unfold frzAt
  cases q : ρ[i]? with
  | none => exact ⟨H0, L, E⟩
  | some s =>
    cases s with
    | own ds =>
      obtain ⟨H1, L1, _, E1⟩ := E.freeze q
      exact ⟨H1, L1, E1⟩
    | _ => exact ⟨H0, L, E⟩
theorem s_frz (i : Nat) {g : Fs} (h : PS X st (tS X.K W g)) : PS X st (tS X.K W (frzS i g)) := h.imw fun D σ H ⟨Hb, ρ, H0, L, E, h⟩ => by
  obtain ⟨H1, L1, E1⟩ := frz_ev E i
  exact ⟨Hb, _, H1, L1, E1, h⟩
@[simp] def retS (g : FX) : Fs := fun ρ => match g ρ with
  | some (d, ρ') => .rt d ρ'
  | none => .stuck
theorem s_ret {g : FX} (h : PX X e g) : PS X (.Return (some e) pos) (tS X.K W (retS g)) := by
  obtain ⟨t, ht, use⟩ := h
  refine (ps_ret ht).imw fun D σ H ⟨Hb, ρ, H0, L, E, h⟩ => ?_
  unfold retS at h
  cases q : g ρ with
  | none => rw [q] at h; exact h.elim
  | some p =>
    obtain ⟨d, ρ'⟩ := p
    rw [q] at h
    exact use Hb ρ σ H H0 L d ρ' _ E q fun v H' H0' L' E' s r => h v σ H' H0' L' E' r
theorem s_retN : PS X (.Return none pos) (tS X.K W (.rt .none)) := ps_retN.imw fun D σ H ⟨Hb, ρ, H0, L, E, h⟩ => h .non σ H H0 L E .non
@[simp] def exprS (g : FX) : Fs := fun ρ => match g ρ with
  | some (_, ρ') => .nx ρ'
  | none => .stuck
theorem s_expr {g : FX} (h : PX X e g) (hs : swapsWith e none pos.line X.env = pure false := by rfl) : PS X (.Expr e pos) (tS X.K W (exprS g)) := by
  obtain ⟨t, ht, use⟩ := h
  refine (ps_expr ht hs).imw fun D σ H ⟨Hb, ρ, H0, L, E, h⟩ => ?_
  unfold exprS at h
  cases q : g ρ with
  | none => rw [q] at h; exact h.elim
  | some p =>
    obtain ⟨d, ρ'⟩ := p
    rw [q] at h
    exact use Hb ρ σ H H0 L d ρ' _ E q fun v H' H0' L' E' s r => h σ H' H0' L' E'
@[simp] def iteS (c : Store → Option Bool) (g1 g2 : Fs) : Fs := fun ρ => match c ρ with
  | some true => g1 ρ
  | some false => g2 ρ
  | none => .stuck
theorem s_if {c : Expr} {a b : List Stmt} {fc : Store → Option Bool} {g1 g2 : Fs} (hc : PTX X c fc) (h1 : PSs X a (tS X.K W g1)) (h2 : PSs X b (tS X.K W g2)) : PS X (.If c a b pos) (tS X.K W (iteS fc g1 g2)) := by
  obtain ⟨t, ht, use⟩ := hc
  refine (ps_if ht h1 h2).imw fun D σ H ⟨Hb, ρ, H0, L, E, h⟩ => ?_
  unfold iteS at h
  cases q : fc ρ with
  | none => rw [q] at h; exact h.elim
  | some b =>
    rw [q] at h
    refine use Hb ρ σ H H0 L b _ E q fun H' H0' E' s => ?_
    cases b with
    | true => exact ⟨Hb, ρ, H0', L, E', h⟩
    | false => exact ⟨Hb, ρ, H0', L, E', h⟩
@[simp] def asgS (g : FX) (T : Tg) : Fs := fun ρ => match g ρ with
  | some (d, ρ') => (match bindT T d ρ' with
    | some ρ2 => .nx ρ2
    | none => .stuck)
  | none => .stuck
theorem s_asg_aux {g : FX} {T : Tg} {t : TE} (use : UseX X.K t g) : ∀ (D : Ends) (σ : L2.St) (H : Hp), tS X.K W (asgS g T) D σ H → tAsg t (gT X.K T) D σ H := fun D σ H ⟨Hb, ρ, H0, L, E, h⟩ => by
  unfold asgS at h
  cases q : g ρ with
  | none => rw [q] at h; exact h.elim
  | some p =>
    obtain ⟨d, ρ'⟩ := p
    rw [q] at h
    simp only at h
    refine use Hb ρ σ H H0 L d ρ' _ E q fun v H' H0' L' E' s r => ?_
    cases q2 : bindT T d ρ' with
    | none => rw [q2] at h; exact h.elim
    | some ρ2 =>
      rw [q2] at h
      exact gT_ev E' r q2 fun σ' H1 L1 E1 s1 => h σ' H' H1 L1 E1
/-- name = e -/
theorem s_set {i : Nat} {x : Str} {pos' : Pos} {g : FX} (hN : X.N.Nodup) (he : PX X e g) (hi : X.N[i]? = some x := by rfl) (hx : Loc X.env.scope x := by first | exact .inl rfl | exact .inr rfl) (hs : swapsWith e (some (.Name x pos')) pos.line X.env = pure false := by rfl)
    (hf : X.fn x = true ∨ X.env.scope.names.lookup x = some .local := by first | exact .inl rfl | exact .inr rfl | assumption) : PS X (.Assign [.Name x pos'] e pos) (tS X.K W (asgS g (.nm i))) := by
  obtain ⟨t, ht, use⟩ := he
  exact (ps_set hN hi hx ht hs hf).imw (s_asg_aux use)
/-- a, b = e -/
theorem s_asg {tg : Expr} {T : Tg} {g : FX} (he : PX X e g) (hg : PG X tg (gT X.K T)) (hs : swapsWithSole [tg] e pos.line X.env = pure false := by rfl) (hw : swappedStores [tg] e X.env = pure none := by rfl)
    (h1 : (assignEach [tg] X.env).map (·.2) = [assign tg X.env] := by rfl) : PS X (.Assign [tg] e pos) (tS X.K W (asgS g T)) := by
  obtain ⟨t, ht, use⟩ := he
  exact (ps_asg ht hg hs hw h1).imw (s_asg_aux use)
/-- name = a new list, owned from then on -/
@[simp] def ownS (f : Store → Option (List D)) (i : Nat) : Fs := fun ρ => match f ρ with
  | some ds => if i < ρ.length then .nx (ρ.set i (.own ds)) else .stuck
  | none => .stuck
theorem s_own_aux {f : Store → Option (List D)} {i : Nat} {D : Ends} {σ : L2.St} {H : Hp} (h : tS X.K W (ownS f i) D σ H) : tFr (tL X.K f) σ H fun x H1 => gName i x σ H1 D.nx := by
  obtain ⟨Hb, ρ, H0, L, E, h⟩ := h
  unfold ownS at h
  cases q : f ρ with
  | none => rw [q] at h; exact h.elim
  | some ds =>
    rw [q] at h
    simp only at h
    split at h
    · rename_i hi
      refine use_l E q fun p vs H1 H1' E1 s n n' r => ?_
      obtain ⟨H2, L2, s2, E2⟩ := E1.setOwn i hi n n' r
      exact h _ _ H2 L2 E2
    · exact h.elim
theorem s_own {i : Nat} {x : Str} {pos' : Pos} {f : Store → Option (List D)} (hN : X.N.Nodup) (he : PE X e (tL X.K f)) (hi : X.N[i]? = some x := by rfl) (hx : Loc X.env.scope x := by first | exact .inl rfl | exact .inr rfl) (hs : swapsWith e (some (.Name x pos')) pos.line X.env = pure false := by rfl)
    (hf : X.fn x = true ∨ X.env.scope.names.lookup x = some .local := by first | exact .inl rfl | exact .inr rfl | assumption) : PS X (.Assign [.Name x pos'] e pos) (tS X.K W (ownS f i)) :=
  (ps_set hN hi hx (fr_e he) hs hf).imw fun D σ H h => s_own_aux h
/-! loops -/
def loopL (b : D → Store → Option Store) (g : Fs) : List D → Store → Out
  | [], ρ => .nx ρ
  | d :: ds, ρ => match b d ρ with
    | none => .stuck
    | some ρ1 => match g ρ1 with
      | .nx ρ2 => loopL b g ds ρ2
      | .ct ρ2 => loopL b g ds ρ2
      | .bk ρ2 => .nx ρ2
      | o => o
@[simp] def forS (f : Store → Option (List D)) (T : Tg) (g : Fs) : Fs := fun ρ => match f ρ with
  | none => .stuck
  | some ds => loopL (bindT T) g ds ρ
theorem s_for {tg iter : Expr} {body : List Stmt} {f : Store → Option (List D)} {T : Tg} {g : Fs} (hp : PassesOwn (model X.prog X.w) X.A X.env X.xe) (hi : PIX X tg iter f) (hg : PG X tg (gT X.K T)) (hb : PSs X body (tS X.K W g)) (hc : X.calm = true := by rfl)
    (hs : ∀ x, foldedSetIterable iter X.env x = pure x := by intro _; rfl) : PS X (.For tg iter body [] pos) (tS X.K W (forS f T g)) := by
  obtain ⟨ti, hi, use⟩ := hi
  refine (ps_for hp hc hi hg hb hs).imw fun D σ H ⟨Hb, ρ, H0, L, E, h⟩ => ?_
  unfold forS at h
  cases q : f ρ with
  | none => rw [q] at h; exact h.elim
  | some ds =>
    rw [q] at h
    simp only at h
    refine use Hb ρ σ H H0 L ds _ E q fun J H1 H1' E1 s1 io => ?_
    refine ⟨fun i m σ' H' => m = ds.length - i ∧ i ≤ ds.length ∧ ∃ ρi H0i Li, Ev X.K H1' ρi σ' H' H0i Li ∧ PostO X.K H1' W D (loopL (bindT T) g (ds.drop i) ρi), ⟨ds.length, by simp, Nat.zero_le _, ρ, H1', L, E1.rebase (Same.refl _), ?_⟩, ?_⟩
    · rw [List.drop_zero]; exact h.rebase E1.base
    · rintro i m σ' H' ⟨rfl, hi, ρi, H0i, Li, Ei, hpo⟩
      obtain ⟨io1, io2⟩ := io i H' (Ei.base.trans Ei.sub)
      by_cases hl : i < ds.length
      · right
        have hd : ds[i]? = some ds[i] := List.getElem?_eq_getElem hl
        obtain ⟨go, yl⟩ := io2 _ hd
        rw [List.drop_eq_getElem_cons hl] at hpo
        unfold loopL at hpo
        cases qb : bindT T ds[i] ρi with
        | none => rw [qb] at hpo; exact hpo.elim
        | some ρ1 =>
          rw [qb] at hpo
          simp only at hpo
          refine ⟨go, fun σ2 H2 => ∃ ρ2 H02 L2, Ev X.K H1' ρ2 σ2 H2 H02 L2 ∧ PostO X.K H1' W D (loopL (bindT T) g (ds.drop (i + 1)) ρ2), fun σ2 H2 ⟨ρ2, H02, L2, E2, p2⟩ => ⟨ds.length - (i + 1), by omega, rfl, hl, ρ2, H02, L2, E2, p2⟩, fun x H'' y => ?_⟩
          have fin : ∀ {H3 H03 : Hp} {L3 : Nat → List Addr}, Ev X.K H1' ρi σ' H3 H03 L3 → Rp X.K H03 x ds[i] → gT X.K T x σ' H3 fun σ2 H2 => tS X.K W g { D with nx := fun σ2 H2 => ∃ ρ2 H02 L2, Ev X.K H1' ρ2 σ2 H2 H02 L2 ∧ PostO X.K H1' W D (loopL (bindT T) g (ds.drop (i + 1)) ρ2), ct := fun σ2 H2 => ∃ ρ2 H02 L2, Ev X.K H1' ρ2 σ2 H2 H02 L2 ∧ PostO X.K H1' W D (loopL (bindT T) g (ds.drop (i + 1)) ρ2), bk := D.nx } σ2 H2 := fun {H3 H03 L3} E3 r3 => by
            refine gT_ev E3 r3 qb fun σ4 H4 L4 E4 s4 => ⟨H1', ρ1, H4, L4, E4, ?_⟩
            cases qg : g ρ1 with
            | nx ρ2 => rw [qg] at hpo; exact fun σ5 H5 H05 L5 E5 => ⟨ρ2, H05, L5, E5, hpo⟩
            | ct ρ2 => rw [qg] at hpo; exact fun σ5 H5 H05 L5 E5 => ⟨ρ2, H05, L5, E5, hpo⟩
            | bk ρ2 => rw [qg] at hpo; exact hpo
            | rt d ρ2 => rw [qg] at hpo; exact hpo
            | ex c ρ2 => rw [qg] at hpo; exact hpo
            | stuck => rw [qg] at hpo; exact hpo
          rcases yl x H'' y with ⟨rfl, r⟩ | ⟨Ta, xs, es, hT, rfl, rfl, hde, r⟩
          · exact fin Ei (r.mono Ei.base)
          · have hT0 : H0i Ta = none := Ei.frm.none hT
            refine fin (Ei.newTup hT) ?_
            rw [hde]
            exact .tup (.inl upd_same) (r.mono (Ei.base.trans (same_upd hT0)))
      · left
        have hil : i = ds.length := by omega
        refine ⟨io1 hil, ?_⟩
        rw [hil, List.drop_length] at hpo
        exact hpo σ' H' H0i Li Ei
def whileL (c : Store → Option Bool) (g : Fs) : Nat → Store → Out
  | 0, _ => .stuck
  | n + 1, ρ => match c ρ with
    | none => .stuck
    | some false => .nx ρ
    | some true => match g ρ with
      | .nx ρ2 => whileL c g n ρ2
      | .ct ρ2 => whileL c g n ρ2
      | .bk ρ2 => .nx ρ2
      | o => o
@[simp] def whileS (fuel : Nat) (c : Store → Option Bool) (g : Fs) : Fs := whileL c g fuel
theorem s_while (fuel : Nat) {c : Expr} {body : List Stmt} {fc : Store → Option Bool} {g : Fs} (hp : PassesOwn (model X.prog X.w) X.A X.env X.xe) (hc : PTX X c fc) (hb : PSs X body (tS X.K W g)) : PS X (.While c body [] pos) (tS X.K W (whileS fuel fc g)) := by
  obtain ⟨tc, hc, use⟩ := hc
  refine (ps_while hp hc hb).imw fun D σ H ⟨Hb, ρ, H0, L, E, h⟩ => ?_
  refine ⟨fun m σ' H' => ∃ ρi H0i Li, Ev X.K Hb ρi σ' H' H0i Li ∧ PostO X.K Hb W D (whileL fc g m ρi), ⟨fuel, ρ, H0, L, E, h⟩, ?_⟩
  rintro m σ' H' ⟨ρi, H0i, Li, Ei, hpo⟩
  cases m with
  | zero => exact hpo.elim
  | succ n =>
    unfold whileL at hpo
    cases q : fc ρi with
    | none => rw [q] at hpo; exact hpo.elim
    | some b =>
      rw [q] at hpo
      refine use Hb ρi σ' H' H0i Li b _ Ei q fun H2 H02 E2 s2 => ?_
      cases b with
      | false => rw [if_neg Bool.false_ne_true]; exact hpo σ' H2 H02 Li E2
      | true =>
        rw [if_pos rfl]
        simp only at hpo
        refine ⟨fun σ3 H3 => ∃ ρ3 H03 L3, Ev X.K Hb ρ3 σ3 H3 H03 L3 ∧ PostO X.K Hb W D (whileL fc g n ρ3), fun σ3 H3 h3 => ⟨n, Nat.lt_succ_self n, h3⟩, Hb, ρi, H02, Li, E2, ?_⟩
        cases qg : g ρi with
        | nx ρ2 => rw [qg] at hpo; exact fun σ5 H5 H05 L5 E5 => ⟨ρ2, H05, L5, E5, hpo⟩
        | ct ρ2 => rw [qg] at hpo; exact fun σ5 H5 H05 L5 E5 => ⟨ρ2, H05, L5, E5, hpo⟩
        | bk ρ2 => rw [qg] at hpo; exact hpo
        | rt d ρ2 => rw [qg] at hpo; exact hpo
        | ex c ρ2 => rw [qg] at hpo; exact hpo
        | stuck => rw [qg] at hpo; exact hpo
/-! owned lists changed -/
@[simp] def appS (i : Nat) (g : FX) : Fs := fun ρ => match ρ[i]?, g ρ with
  | some (.own _), some (d, ρ') => (match ρ'[i]? with
    | some (.own ds) => if ds.length < big then .nx (ρ'.set i (.own (ds ++ [d]))) else .stuck
    | _ => .stuck)
  | _, _ => .stuck
theorem s_app (i : Nat) {x : Str} {p ap cp : Pos} {g : FX} (he : PX X e g)
    (te : ∀ t, PE X e t → PE X (.Call (.Attribute (.Name x p) "append" ap) [e] [] cp) (tBM X.K "list" rAppend (tVar i) (tCons t tNil)) := by
      intro t ht; exact pe_bm PySem.F.plainAttrs_list PySem.F.slot_list_append PySem.F.type_list_append mt_append (pv _) (pa_cons ht pa_nil))
    (hs : swapsWith (.Call (.Attribute (.Name x p) "append" ap) [e] [] cp) none pos.line X.env = pure false := by rfl) :
    PS X (.Expr (.Call (.Attribute (.Name x p) "append" ap) [e] [] cp) pos) (tS X.K W (appS i g)) := by
  obtain ⟨t, ht, use⟩ := he
  refine (ps_expr (te t ht) hs).imw fun D σ H ⟨Hb, ρ, H0, L, E, h⟩ => ?_
  unfold appS at h
  cases q1 : ρ[i]? with
  | none => rw [q1] at h; exact h.elim
  | some s =>
    cases s with
    | own ds0 =>
      obtain ⟨l, vs, h1, h2, h3, h4⟩ := E.ownAt q1
      rw [q1] at h
      cases q2 : g ρ with
      | none => rw [q2] at h; exact h.elim
      | some pr =>
        obtain ⟨d, ρ'⟩ := pr
        rw [q2] at h
        simp only at h
        refine ⟨.ref l, h1, .inl ⟨rfl, _, .of h3⟩, use Hb ρ σ H H0 L d ρ' _ E q2 fun v H' H0' L' E' s r => ?_⟩
        cases q3 : ρ'[i]? with
        | none => rw [q3] at h; exact h.elim
        | some s' =>
          cases s' with
          | own ds =>
            rw [q3] at h
            simp only at h
            obtain ⟨l', vs', g1, g2, g3, g4⟩ := E'.ownAt q3
            have el : l' = l := by
              rw [h1] at g1
              cases g1; rfl
            subst el
            split at h
            · rename_i hl
              refine ⟨l', vs', v, rfl, rfl, g3, by rw [g4.length]; exact hl, ?_⟩
              exact h σ _ _ _ (E'.chg q3 g2 g1 (g4.append (.one r)))
            · exact h.elim
          | _ => rw [q3] at h; exact h.elim
    | _ => rw [q1] at h; exact h.elim
end
end Tv

namespace Tv
open PySem PySem.Spec L2
/-! ### comprehensions -/
def compL (b : D → Store → Option Store) (ft : Store → Option Bool) (fe : Fn) (ρ : Store) : List D → Option (List D)
  | [] => some []
  | d :: ds => (b d ρ).bind fun ρ1 => (ft ρ1).bind fun k => if k = true then (fe ρ1).bind fun y => (compL b ft fe ρ ds).bind fun ys => some (y :: ys) else compL b ft fe ρ ds
@[simp] def compF (f : Store → Option (List D)) (T : Tg) (vs : List Nat) (ft : Store → Option Bool) (fe : Fn) : Store → Option (List D) := fun ρ =>
  (f ρ).bind fun ds => if ds.length ≤ big then compL (bindT T) ft fe (wipeS ρ vs) ds else none
@[simp] def yesT : Store → Option Bool := fun _ => some true
theorem wipe_sub {σ : L2.St} {vs : List Nat} : ∀ {us : List Nat}, (∀ u ∈ us, u ∈ vs) → L2.wipe (L2.wipe σ us) vs = L2.wipe σ vs
  | [], _ => rfl
  | u :: us, h => by
    show L2.wipe ((L2.wipe σ us).set u none) vs = L2.wipe σ vs
    rw [wipe_set (h u List.mem_cons_self), wipe_sub fun w hw => h w (List.mem_cons_of_mem _ hw)]
theorem frmD {H0 : Hp} {p : Addr} {vs : List V} (h : H0 p = none) : Frm (upd H0 p (.lst vs)) H0 (fun b => decide (b = p)) := by
  refine ⟨fun b hb => ?_, fun b hb => ?_, fun a C dx fs ha e => ?_, fun a c ha e => ?_, fun b a hb e => ?_⟩
  · exact (upd_ne (of_decide_eq_false hb)).symm
  · have := of_decide_eq_true hb
    subst this
    exact ⟨h, _, upd_same, trivial⟩
  · have := of_decide_eq_true ha
    subst this
    rw [upd_same] at e; cases e
  · refine decide_eq_false fun q => ?_
    subst q
    rw [upd_same] at e; cases e
  · have := of_decide_eq_true hb
    subst this
    rw [upd_same] at e; cases e
theorem backD {H0 H0' : Hp} {p : Addr} {o : HO} : back (upd H0 p o) H0' (fun b => decide (b = p)) = upd H0' p o := by
  funext b
  unfold back
  by_cases hb : b = p
  · subst hb; simp [upd_same]
  · simp [hb, upd_ne hb]
theorem upd_comm {H : Hp} {a b : Addr} {o u : HO} (h : a ≠ b) : upd (upd H a o) b u = upd (upd H b u) a o := by
  funext c
  unfold upd
  by_cases h1 : c = a
  · subst h1; simp [h]
  · simp [h1]
theorem tLc_of {K : PySem.W.Frag} {f : Store → Option (List D)} {T : Tg} {vs : List Nat} {ft : Store → Option Bool} {fe : Fn} (hsub : ∀ i ∈ slots T, i ∈ vs) {σ : L2.St} {H : Hp} {Q : VK} (hh : tL K (compF f T vs ft fe) σ H Q) :
    tLc (iD K f) (gT K T) (tFrT (tT K ft)) (tFr (tD K fe)) vs σ H Q := by
  obtain ⟨ρ, res, E, hf, k⟩ := hh
  unfold compF at hf
  cases q : f ρ with
  | none => rw [q] at hf; cases hf
  | some ds =>
    rw [q] at hf
    simp only [Option.bind_some] at hf
    split at hf
    · rename_i hbig
      refine ⟨ρ, ds, E, q, fun J H1 s1 io => ?_⟩
      intro p hp
      have Ew : EvV K (wipeS ρ vs) (L2.wipe σ vs) H1 := (E.mono s1).wipe _
      refine ⟨fun i m H' => m = ds.length - i ∧ i ≤ ds.length ∧ ∃ H0 accv accd ys, Same H1 H0 ∧ H0 p = none ∧ H' = upd H0 p (.lst accv) ∧ RpA K H0 accv accd ∧ accd.length ≤ i ∧
        compL (bindT T) ft fe (wipeS ρ vs) (ds.drop i) = some ys ∧ accd ++ ys = res, ⟨ds.length, by simp, Nat.zero_le _, H1, [], [], res, Same.refl H1, hp, rfl, .nil, Nat.le_refl _, hf, rfl⟩, ?_⟩
      rintro i m H' ⟨rfl, hi, H0, accv, accd, ys, s0, hp0, rfl, racc, hal, hys, hres⟩
      have sH : Same H1 (upd H0 p (.lst accv)) := s0.trans (same_upd hp0)
      obtain ⟨io1, io2⟩ := io i _ sH
      by_cases hl : i < ds.length
      · right
        have hd : ds[i]? = some ds[i] := List.getElem?_eq_getElem hl
        obtain ⟨go, yl⟩ := io2 _ hd
        rw [List.drop_eq_getElem_cons hl] at hys
        unfold compL at hys
        cases qb : bindT T ds[i] (wipeS ρ vs) with
        | none => rw [qb] at hys; cases hys
        | some ρ1 =>
          rw [qb] at hys
          simp only [Option.bind_some] at hys
          cases qt : ft ρ1 with
          | none => rw [qt] at hys; cases hys
          | some kk =>
            rw [qt] at hys
            simp only [Option.bind_some] at hys
            refine ⟨go, fun H2 => ∃ H02 accv2 accd2 ys2, Same H1 H02 ∧ H02 p = none ∧ H2 = upd H02 p (.lst accv2) ∧ RpA K H02 accv2 accd2 ∧ accd2.length ≤ i + 1 ∧
              compL (bindT T) ft fe (wipeS ρ vs) (ds.drop (i + 1)) = some ys2 ∧ accd2 ++ ys2 = res, fun H2 h2 => ⟨ds.length - (i + 1), by omega, rfl, hl, h2⟩, fun x H'' y => ?_⟩
            have fin : ∀ {H03 : Hp}, Same H0 H03 → H03 p = none → Rp K H03 x ds[i] → gT K T x (L2.wipe σ vs) (upd H03 p (.lst accv)) fun σ2 H2 => L2.wipe σ2 vs = L2.wipe σ vs ∧
                tFrT (tT K ft) σ2 H2 fun b H3 => if b = true then tFr (tD K fe) σ2 H3 fun y H4 => ∃ acc, H4 p = some (.lst acc) ∧ acc.length < sizeLine ∧ (∃ H02 accv2 accd2 ys2, Same H1 H02 ∧ H02 p = none ∧ (upd H4 p (.lst (acc ++ [y]))) = upd H02 p (.lst accv2) ∧ RpA K H02 accv2 accd2 ∧ accd2.length ≤ i + 1 ∧
                  compL (bindT T) ft fe (wipeS ρ vs) (ds.drop (i + 1)) = some ys2 ∧ accd2 ++ ys2 = res)
                else (∃ H02 accv2 accd2 ys2, Same H1 H02 ∧ H02 p = none ∧ H3 = upd H02 p (.lst accv2) ∧ RpA K H02 accv2 accd2 ∧ accd2.length ≤ i + 1 ∧ compL (bindT T) ft fe (wipeS ρ vs) (ds.drop (i + 1)) = some ys2 ∧ accd2 ++ ys2 = res) := by
              intro H03 s3 hp3 r3
              refine gT_vv ((Ew.mono s0).mono s3) (same_upd hp3) r3 qb fun σ' E' hw => ⟨?_, ?_⟩
              · rw [hw _ hsub]
                exact wipe_sub fun u hu => hu
              · refine ⟨H03, _, frmD hp3, ρ1, kk, E', qt, fun H04 s4 n4 => ?_⟩
                have hp4 : H04 p = none := n4 p (by simp)
                rw [backD]
                show (if kk = true then _ else _)
                cases kk with
                | false =>
                  rw [if_neg Bool.false_ne_true] at hys ⊢
                  exact ⟨H04, accv, accd, ys, (s0.trans s3).trans s4, hp4, rfl, (racc.mono s3).mono s4, by omega, hys, hres⟩
                | true =>
                  rw [if_pos rfl] at hys ⊢
                  cases qe : fe ρ1 with
                  | none => rw [qe] at hys; cases hys
                  | some d' =>
                    rw [qe] at hys
                    simp only [Option.bind_some] at hys
                    cases qy : compL (bindT T) ft fe (wipeS ρ vs) (ds.drop (i + 1)) with
                    | none => rw [qy] at hys; cases hys
                    | some ys' =>
                      rw [qy] at hys
                      cases hys
                      refine ⟨H04, _, frmD hp4, ρ1, d', E'.mono s4, qe, fun v H05 s5 r5 n5 => ?_⟩
                      have hp5 : H05 p = none := n5 p (by simp)
                      rw [backD]
                      refine ⟨accv, upd_same, ?_, H05, accv ++ [v], accd ++ [d'], ys', ((s0.trans s3).trans s4).trans s5, hp5, upd_upd, (((racc.mono s3).mono s4).mono s5).append (.one r5), by simp; omega, rfl, by simp [hres.symm]⟩
                      rw [racc.length, big_eq]
                      omega
            rcases yl x H'' y with ⟨rfl, r⟩ | ⟨Ta, xs, es, hT, rfl, rfl, hde, r⟩
            · exact fin (Same.refl H0) hp0 (r.mono s0)
            · have hTp : Ta ≠ p := fun z => by rw [z, upd_same] at hT; cases hT
              have hT0 : H0 Ta = none := by rw [upd_ne hTp] at hT; exact hT
              rw [upd_comm (Ne.symm hTp)]
              refine fin (same_upd hT0) (by rw [upd_ne (Ne.symm hTp)]; exact hp0) ?_
              rw [hde]
              exact .tup (.inl upd_same) (r.mono (s0.trans (same_upd hT0)))
      · left
        have hil : i = ds.length := by omega
        refine ⟨io1 hil, ?_⟩
        rw [hil, List.drop_length] at hys
        cases hys
        rw [List.append_nil] at hres
        subst hres
        exact k p accv H0 (s1.trans s0) hp0 racc
    · cases hf
section
variable {X : Cx}
theorem ts_nil : PTs X [] (tT X.K yesT) := pts_nil.imw fun σ H Q ⟨ρ, b, E, hf, k⟩ => by
  cases hf; exact k H (Same.refl H)
theorem ts_one {c : Expr} {f : Store → Option Bool} (h : PT X c (tT X.K f)) : PTs X [c] (tT X.K f) := pts_one h
theorem l_comp {N : List Str} {sc : Scope} {elt tg iter : Expr} {ifs : List Expr} {scope : Scope} (own : List (Str × Nat)) {pos : Pos} {f : Store → Option (List D)} {T : Tg} {ft : Store → Option Bool} {fe : Fn} (hN : X.N.Nodup) (hi : PI X tg iter (iD X.K f))
    (hg : ∀ (s : Shared) (H : Hp) (C : Addr) (cl : List (Str × Addr)) (fp : List Addr), PG (X.blk s H scope (compEnvC scope cl C X.env) fp) tg (gT X.K T))
    (ht : ∀ (s : Shared) (H : Hp) (C : Addr) (cl : List (Str × Addr)) (fp : List Addr), PTs (X.blk s H scope (compEnvC scope cl C X.env) fp) ifs (tT X.K ft))
    (he : ∀ (s : Shared) (H : Hp) (C : Addr) (cl : List (Str × Addr)) (fp : List Addr), PE (X.blk s H scope (compEnvC scope cl C X.env) fp) elt (tD X.K fe))
    (eN : X.N = N := by rfl) (eS : X.env.scope = sc := by rfl) (ok : blkC N sc scope own = true := by decide +kernel) (sub : (slots T).all (fun i => (own.map (·.2)).contains i) = true := by rfl) (hc : X.calm = true := by rfl) (hs : ∀ x, foldedSetIterable iter X.env x = pure x := by intro _; rfl) :
    PE X (.ListComp elt [⟨tg, iter, ifs, 0⟩] scope pos) (tL X.K (compF f T (own.map (·.2)) ft fe)) := by
  have hsub : ∀ i ∈ slots T, i ∈ own.map (·.2) := fun i hi => List.contains_iff_mem.mp (List.all_eq_true.mp sub i hi)
  exact (pe_lc hc hN hi (blkOk_by (by rw [eN, eS]; exact ok)) hg (fun s H C cl fp => frts (ht s H C cl fp)) (fun s H C cl fp => fr_e (he s H C cl fp)) hs).imw fun σ H Q h => tLc_of hsub h
end
/-! ### a def of the text keeps the promise of its body's function -/
abbrev W0 : WXT := fun _ _ _ _ => False
@[simp] def fnOf (n N : Nat) (g : Fs) : List D → Option D := fun ds => if ds.length = n then (match g (ds.map Sl.val ++ List.replicate (N - n) .un) with
  | .rt d _ => some d
  | .nx _ => some .none
  | _ => none) else none
theorem fnOf_len {n N : Nat} {g : Fs} {ds : List D} {d : D} (h : fnOf n N g ds = some d) : ds.length = n := by
  unfold fnOf at h
  split at h
  · assumption
  · cases h
theorem ev_start {K : PySem.W.Frag} {H : Hp} {vs : List V} {ds : List D} (N : List Str) (r : RpA K H vs ds) : Ev K H (ds.map Sl.val ++ List.replicate (N.length - ds.length) .un) (L2.start N vs) H H (fun _ => []) := by
  have hl := r.length
  refine ⟨Same.refl H, by simp [L2.start, hl], fun i s hs => ?_, fun _ _ => rfl, fun _ _ h => (nomatch h), fun _ _ _ h _ => (nomatch h), fun _ _ => rfl⟩
  by_cases hi : i < ds.length
  · rw [List.getElem?_append_left (by simpa using hi), List.getElem?_map] at hs
    cases q : ds[i]? with
    | none => rw [q] at hs; cases hs
    | some d =>
      rw [q] at hs; cases hs
      obtain ⟨v, hv, rv⟩ := r.get q
      refine ⟨some v, ?_, rfl, v, rfl, rv⟩
      unfold L2.start
      rw [List.getElem?_append_left (by simpa [hl] using hi), List.getElem?_map, hv]
      rfl
  · rw [List.getElem?_append_right (by simpa using hi)] at hs
    obtain ⟨hj, e⟩ := List.getElem?_eq_some_iff.mp hs
    rw [List.getElem_replicate] at e
    subst e
    rw [List.length_replicate, List.length_map] at hj
    refine ⟨none, ?_, rfl⟩
    unfold L2.start
    rw [List.getElem?_append_right (by simpa [hl] using hi), List.getElem?_replicate]
    simp only [List.length_map]
    rw [if_pos (by rw [hl]; omega)]
section
variable {P : Program} {w : World} {K : PySem.W.Frag} {mg : Str → Option Value} {base : Heap}
theorem fn_ok {x qual : Str} {st : Stmt} {f : Addr} {fd : FuncData} {N ps : List Str} {k : Nat} {g : Fs} (F : Fun K x qual st f fd) (S : FnScope N ps (defScope st))
    (h : ∀ (cdv : Value) (A : Around) (outer : List Env) (s : Shared) (H : Hp) (E : XK), Room k (A.deeper (PyProof.Rows.envOfC qual (defScope st) s.heap.objs.size f cdv)) →
      PSs (cxOf CX0 P w K mg base N qual (defScope st) f cdv A outer s H E).nox (defBody st) (tS K W0 g)) : FnOk P w K mg base CX0 (k + 1) f fd ps (spD K ps.length (fnOf ps.length N.length g)) := by
  refine F.ok S (fun vs H Q E ⟨ds, d, hl, _⟩ => hl) (fun cdv A outer s H vs Q E hr ⟨ds, d, hl, r, hf, kk⟩ => ⟨_, h cdv A outer s H E hr, ?_⟩)
  have hds : ds.length = ps.length := by rw [← r.length]; exact hl
  unfold fnOf at hf
  rw [if_pos hds] at hf
  have E0 := ev_start N r
  rw [hds] at E0
  refine ⟨H, _, H, _, E0, ?_⟩
  cases q : g (ds.map Sl.val ++ List.replicate (N.length - ps.length) .un) with
  | rt d' ρ' =>
    rw [q] at hf
    cases hf
    exact fun v σ' H' H0 L E' r' => kk v H' (E'.base.trans E'.sub) (r'.mono E'.sub)
  | nx ρ' =>
    rw [q] at hf
    cases hf
    exact fun σ' H' H0 L E' => kk .non H' (E'.base.trans E'.sub) .non
  | _ => rw [q] at hf; cases hf
end
end Tv

namespace Tv
open PySem PySem.Spec L2
/-! ### the operators on data -/
@[simp] def addD : D → D → Option D
  | .int i, .int j => some (.int (i + j))
  | .str x, .str y => if x.length + y.length ≤ big then some (.str (x ++ y)) else none
  | .tuple x, .tuple y => if x.length + y.length ≤ big then some (.tuple (x ++ y)) else none
  | .list x, .list y => if x.length + y.length ≤ big then some (.list (x ++ y)) else none
  | _, _ => none
@[simp] def subD : D → D → Option D
  | .int i, .int j => some (.int (i - j))
  | _, _ => none
def sm64 (i : Int) : Bool := decide (i.natAbs < 18446744073709551616)
@[simp] def mulD : D → D → Option D
  | .int i, .int j => if (sm64 i || sm64 j) = true then some (.int (i * j)) else none
  | .list x, .int k => if 0 ≤ k ∧ k ≤ 100000 ∧ x.length * k.toNat ≤ big then some (.list (List.replicate k.toNat x).flatten) else none
  | .tuple x, .int k => if 2 ≤ k ∧ k ≤ 1000 ∧ x.length ≤ 1000 ∧ x ≠ [] then some (.tuple (List.replicate k.toNat x).flatten) else none
  | _, _ => none
@[simp] def fdivD : D → D → Option D
  | .int i, .int j => if j ≠ 0 ∧ j.natAbs < 1073741824 then some (.int (i.fdiv j)) else none
  | _, _ => none
@[simp] def modD : D → D → Option D
  | .int i, .int j => if j ≠ 0 then some (.int (i.fmod j)) else none
  | _, _ => none
@[simp] def powD : D → D → Option D
  | .int i, .int j => if 0 ≤ j ∧ j ≤ 1000 ∧ i.natAbs < 2 ^ 64 then some (.int (i ^ j.toNat)) else none
  | _, _ => none
@[simp] def eqD (a b : D) : Option Bool := if (SeqAt.shaped a && SeqAt.shaped b) = true then some (PyData.eqv a b) else none
@[simp] def neD (a b : D) : Option Bool := if (SeqAt.shaped a && SeqAt.shaped b) = true then some (!PyData.eqv a b) else none
@[simp] def cmpI (p : Int → Int → Bool) : D → D → Option Bool
  | .int i, .int j => some (p i j)
  | _, _ => none
@[simp] def ltD : D → D → Option Bool := cmpI fun i j => decide (i < j)
@[simp] def leD : D → D → Option Bool := cmpI fun i j => decide (i ≤ j)
@[simp] def gtD : D → D → Option Bool := cmpI fun i j => decide (j < i)
@[simp] def geD : D → D → Option Bool := cmpI fun i j => decide (j ≤ i)
@[simp] def isN : D → Bool
  | .none => true
  | _ => false
/-! a is None, a is True, a is False -/
@[simp] def isD : D → D → Option Bool
  | a, .none => some (isN a)
  | .bool a, .bool b => some (decide (a = b))
  | _, _ => none
@[simp] def isntD : D → D → Option Bool
  | a, .none => some (!isN a)
  | .bool a, .bool b => some (!decide (a = b))
  | _, _ => none
@[simp] def flatD : D → Bool
  | .none => true
  | .bool _ => true
  | .int _ => true
  | .str _ => true
  | _ => false
def isI : D → Bool
  | .int _ => true
  | _ => false
def eqI (k : Int) : D → Bool
  | .int j => decide (j = k)
  | _ => false
def inD : D → D → Option Bool
  | .str x, .str y => some (!(Builtin.Str.occurrences y x 0 y.length 1).isEmpty)
  | a, .list ds => if (SeqAt.shaped a && SeqAt.shaped (.list ds)) = true then some (ds.any fun z => PyData.eqv z a) else none
  | a, .tuple ds => if (flatD a && ds.all flatD) = true then some (ds.any fun z => PyData.eqv z a) else none
  | .int k, .dict kvs => if (kvs.all fun p => isI p.1) = true then some (kvs.any fun p => eqI k p.1) else none
  | _, _ => none
@[simp] def ninD (a b : D) : Option Bool := (inD a b).map (!·)
@[simp] def ixD : D → D → Option D
  | .list ds, .int i => atI ds i
  | .tuple ds, .int i => atI ds i
  | .str z, .int i => if z.length ≤ big then (atI z.cps.toList i).map fun c => .str ⟨#[c]⟩ else none
  | .dict [(.list ds, .none)], .int i => atI ds i
  | _, _ => none
section
variable {K : PySem.W.Frag}
theorem RpA.nil_iff {H : Hp} {vs : List V} {ds : List D} (r : RpA K H vs ds) : vs = [] ↔ ds = [] := by
  cases r <;> simp
def rAddD (K : PySem.W.Frag) : R2 := fun x y H Q => rI0 (fun i j => .int (i + j)) x y H Q ∨ (∃ i j, x = .str i ∧ y = .str j ∧ i.length + j.length ≤ sizeLine ∧ Q (.str (i ++ j)) H) ∨ rCatA K x y H Q ∨ rCat x y H Q
theorem or_add {X : Cx} : OpR X (binaryOp .Add) (rAddD X.K) := op_add.or (op_add_str.or (op_catA.or op_cat))
theorem od_add : OpD K (rAddD K) addD := by
  intro H x y a b d Q ra rb h k
  unfold addD at h
  split at h
  · cases h
    exact .inl ⟨_, _, ra.int_inv, rb.int_inv, k _ H (Same.refl H) (.int _)⟩
  · split at h
    · cases h
      rename_i hl
      exact .inr (.inl ⟨_, _, ra.str_inv, rb.str_inv, hl, k _ H (Same.refl H) (.str _)⟩)
    · cases h
  · rename_i xs ys
    split at h
    · cases h
      rename_i hl
      obtain ⟨p, vs, rfl, h1, r1⟩ := ra.tup_inv
      obtain ⟨q, ws, rfl, h2, r2⟩ := rb.tup_inv
      refine .inr (.inr (.inl ⟨p, q, vs, ws, rfl, rfl, .inl h1, .inl h2, by rw [r1.length, r2.length]; exact hl, fun e => ?_, fun e1 e2 => ?_, fun _ _ c hc => ?_⟩))
      · subst e
        cases r1
        exact k _ H (Same.refl H) rb
      · subst e2
        cases r2
        rw [List.append_nil] at k
        exact k _ H (Same.refl H) ra
      · exact k _ _ (same_upd hc) (.tup (.inl upd_same) ((r1.append r2).mono (same_upd hc)))
    · cases h
  · rename_i xs ys
    split at h
    · cases h
      rename_i hl
      obtain ⟨p, vs, rfl, h1, r1⟩ := ra.lst_inv
      obtain ⟨q, ws, rfl, h2, r2⟩ := rb.lst_inv
      exact .inr (.inr (.inr ⟨p, q, vs, ws, rfl, rfl, h1, h2, by rw [r1.length, r2.length]; exact hl, fun c hc => k _ _ (same_upd hc) (.lst upd_same ((r1.append r2).mono (same_upd hc)))⟩))
    · cases h
  · cases h
theorem od_sub : OpD K (rI0 fun i j => .int (i - j)) subD := by
  intro H x y a b d Q ra rb h k
  unfold subD at h
  split at h
  · cases h
    exact ⟨_, _, ra.int_inv, rb.int_inv, k _ H (Same.refl H) (.int _)⟩
  · cases h
theorem sm64_ok {i : Int} (h : sm64 i = true) : -(2 ^ 64) < i ∧ i < 2 ^ 64 := by
  unfold sm64 at h
  have := of_decide_eq_true h
  omega
def rMulD (K : PySem.W.Frag) : R2 := fun x y H Q => rI CMul (fun i j => .int (i * j)) x y H Q ∨ rRep x y H Q ∨ rRepT K x y H Q
theorem or_mul {X : Cx} : OpR X (binaryOp .Mult) (rMulD X.K) := op_mul.or (op_rep.or op_repT)
theorem od_mul : OpD K (rMulD K) mulD := by
  intro H x y a b d Q ra rb h k
  unfold mulD at h
  split at h
  · split at h
    · cases h
      rename_i i j hs
      rw [Bool.or_eq_true] at hs
      exact .inl ⟨i, j, ra.int_inv, rb.int_inv, hs.imp sm64_ok sm64_ok, k _ H (Same.refl H) (.int _)⟩
    · cases h
  · split at h
    · cases h
      rename_i xs j hs
      obtain ⟨p, vs, rfl, h1, r1⟩ := ra.lst_inv
      refine .inr (.inl ⟨p, j, vs, rfl, rb.int_inv, h1, by omega, by omega, by rw [r1.length]; exact hs.2.2, fun c hc => k _ _ (same_upd hc) (.lst upd_same ((r1.rep _).mono (same_upd hc)))⟩)
    · cases h
  · split at h
    · cases h
      rename_i xs j hs
      obtain ⟨p, vs, rfl, h1, r1⟩ := ra.tup_inv
      refine .inr (.inr ⟨p, j, vs, rfl, rb.int_inv, .inl h1, fun e => hs.2.2.2 (r1.nil_iff.mp e), hs.1, hs.2.1, by rw [r1.length]; exact hs.2.2.1, fun c hc => k _ _ (same_upd hc) (.tup (.inl upd_same) ((r1.rep _).mono (same_upd hc)))⟩)
    · cases h
  · cases h
theorem od_fdiv : OpD K (rI CDivN fun i j => .int (i.fdiv j)) fdivD := by
  intro H x y a b d Q ra rb h k
  unfold fdivD at h
  split at h
  · split at h
    · cases h
      rename_i hs
      exact ⟨_, _, ra.int_inv, rb.int_inv, hs, k _ H (Same.refl H) (.int _)⟩
    · cases h
  · cases h
theorem od_mod : OpD K (rI (fun _ j => j ≠ 0) fun i j => .int (i.fmod j)) modD := by
  intro H x y a b d Q ra rb h k
  unfold modD at h
  split at h
  · split at h
    · cases h
      rename_i hs
      exact ⟨_, _, ra.int_inv, rb.int_inv, hs, k _ H (Same.refl H) (.int _)⟩
    · cases h
  · cases h
theorem od_pow : OpD K (rI CPow fun i j => .int (i ^ j.toNat)) powD := by
  intro H x y a b d Q ra rb h k
  unfold powD at h
  split at h
  · split at h
    · cases h
      rename_i hs
      exact ⟨_, _, ra.int_inv, rb.int_inv, ⟨hs.1, by omega, hs.2.2⟩, k _ H (Same.refl H) (.int _)⟩
    · cases h
  · cases h
theorem shaped_lay {d : D} (h : SeqAt.shaped d = true) : d.canLay0 = true := SeqAt.canLay_of_shaped h
theorem od_eq : OpD K (rEqD K) (toB eqD) := by
  intro H x y a b d Q ra rb h k
  unfold toB eqD at h
  split at h
  · cases h
    rename_i hs
    rw [Bool.and_eq_true] at hs
    exact ⟨a, b, ra.dp (shaped_lay hs.1), rb.dp (shaped_lay hs.2), hs.1, hs.2, k _ H (Same.refl H) (.bl _)⟩
  · cases h
theorem od_ne : OpD K (rNeD K) (toB neD) := by
  intro H x y a b d Q ra rb h k
  unfold toB neD at h
  split at h
  · cases h
    rename_i hs
    rw [Bool.and_eq_true] at hs
    exact ⟨a, b, ra.dp (shaped_lay hs.1), rb.dp (shaped_lay hs.2), hs.1, hs.2, k _ H (Same.refl H) (.bl _)⟩
  · cases h
theorem od_cmp {p : Int → Int → Bool} : OpD K (rI0 fun i j => .bl (p i j)) (toB (cmpI p)) := by
  intro H x y a b d Q ra rb h k
  unfold toB cmpI at h
  split at h
  · cases h
    exact ⟨_, _, ra.int_inv, rb.int_inv, k _ H (Same.refl H) (.bl _)⟩
  · cases h
def rIsD : R2 := fun x y H Q => (y = .non ∧ Q (.bl (decide (x = .non))) H) ∨ ∃ a b, x = .bl a ∧ y = .bl b ∧ Q (.bl (decide (a = b))) H
def rIsntD : R2 := fun x y H Q => (y = .non ∧ Q (.bl (!decide (x = .non))) H) ∨ ∃ a b, x = .bl a ∧ y = .bl b ∧ Q (.bl (!decide (a = b))) H
theorem or_is {X : Cx} : OpR X (compareOp .Is) rIsD := op_isN.or op_is_bl
theorem or_isnt {X : Cx} : OpR X (compareOp .IsNot) rIsntD := op_notN.or op_isnot_bl
theorem non_iff {H : Hp} {x : V} {a : D} (r : Rp K H x a) : decide (x = .non) = (isN a) := by
  cases r <;> rfl
theorem od_is : OpD K rIsD (toB isD) := by
  intro H x y a b d Q ra rb h k
  unfold toB isD at h
  split at h
  · cases h
    refine .inl ⟨rb.non_inv, ?_⟩
    rw [non_iff ra]
    exact k _ H (Same.refl H) (.bl _)
  · cases h
    exact .inr ⟨_, _, ra.bl_inv, rb.bl_inv, k _ H (Same.refl H) (.bl _)⟩
  · cases h
theorem od_isnt : OpD K rIsntD (toB isntD) := by
  intro H x y a b d Q ra rb h k
  unfold toB isntD at h
  split at h
  · cases h
    refine .inl ⟨rb.non_inv, ?_⟩
    rw [non_iff ra]
    exact k _ H (Same.refl H) (.bl _)
  · cases h
    exact .inr ⟨_, _, ra.bl_inv, rb.bl_inv, k _ H (Same.refl H) (.bl _)⟩
  · cases h
end
end Tv

namespace Tv
open PySem PySem.Spec L2
/-! ### places, lengths -/
theorem RpA.getI {K : PySem.W.Frag} {H : Hp} {vs : List V} {ds : List D} {i : Int} {d : D} (r : RpA K H vs ds) (h : atI ds i = some d) : ∃ v, atI vs i = some v ∧ Rp K H v d := by
  unfold atI at h ⊢
  rw [r.length]
  cases q : ixN ds.length i with
  | none => rw [q] at h; cases h
  | some j =>
    rw [q] at h
    exact r.get (i := j) h
theorem scr_inv {K : PySem.W.Frag} {H : Hp} {v : V} {ds : List D} (r : Rp K H v (.dict [(.list ds, .none)])) : ∃ (a : Addr) (ns : List Int), v = .ref a ∧ ds = ns.map .int ∧ SqL K H a (ns.map V.int) := by
  generalize e : (PyData.dict [(.list ds, .none)]) = z at r
  cases r with
  | scr h =>
    unfold scr at e
    injection e with e
    injection e with e _
    injection e with e _
    injection e with e
    exact ⟨_, _, rfl, e, h⟩
  | xtp _ _ _ =>
    unfold xtup at e
    injection e with e
    injection e with e _
    injection e with e _
    cases e
  | dct h h2 =>
    rename_i ks
    unfold dks at e
    injection e with e
    cases ks with
    | nil => cases e
    | cons k ks =>
      rw [List.map_cons] at e
      injection e with e _
      injection e with e _
      cases e
  | exc a =>
    unfold excD at e
    injection e with e
    injection e with e _
    injection e with e _
    cases e
  | _ => cases e
theorem atI_map {α β : Type} (f : α → β) (xs : List α) (i : Int) : atI (xs.map f) i = (atI xs i).map f := by
  unfold atI
  rw [List.length_map]
  cases q : ixN xs.length i with
  | none => rfl
  | some j => simp
section
variable {K : PySem.W.Frag}
theorem od_ix : OpD K (rIx K) ixD := by
  intro H x y a b d Q ra rb h k
  unfold ixD at h
  split at h
  · obtain ⟨p, vs, rfl, h1, r1⟩ := ra.lst_inv
    obtain ⟨v, hv, rv⟩ := r1.getI h
    exact .inl ⟨p, vs, _, v, rfl, rb.int_inv, .of h1, hv, k v H (Same.refl H) rv⟩
  · obtain ⟨p, vs, rfl, h1, r1⟩ := ra.tup_inv
    obtain ⟨v, hv, rv⟩ := r1.getI h
    exact .inr (.inl ⟨p, vs, _, v, rfl, rb.int_inv, .inl h1, hv, k v H (Same.refl H) rv⟩)
  · split at h
    · rename_i z i hl
      cases q : atI z.cps.toList i with
      | none => rw [q] at h; cases h
      | some c =>
        rw [q] at h; cases h
        exact .inr (.inr ⟨z, i, c, ra.str_inv, rb.int_inv, hl, q, k _ H (Same.refl H) (.str _)⟩)
    · cases h
  · obtain ⟨p, ns, rfl, rfl, h1⟩ := scr_inv ra
    rename_i i
    rw [atI_map] at h
    cases q : atI ns i with
    | none => rw [q] at h; cases h
    | some z =>
      rw [q] at h; cases h
      exact .inl ⟨p, _, i, .int z, rfl, rb.int_inv, h1, by rw [atI_map, q]; rfl, k _ H (Same.refl H) (.int z)⟩
  · cases h
@[simp] def lenD : List D → Option D
  | [.str x] => if x.length ≤ big then some (.int (x.length : Int)) else none
  | [.list ds] => some (.int (ds.length : Int))
  | [.tuple ds] => some (.int (ds.length : Int))
  | [.dict [(.list ds, .none)]] => some (.int (ds.length : Int))
  | _ => none
theorem cd_len : CallD K (fun xs H Q => ∃ x n, xs = [x] ∧ LenV K x H n ∧ Q (.int (n : Int)) H) lenD := by
  intro H xs ds d Q r h k
  unfold lenD at h
  split at h
  · cases r with
    | cons r rr =>
      cases rr
      split at h
      · cases h
        rename_i hl
        rw [r.str_inv]
        exact ⟨_, _, rfl, ⟨hl, rfl⟩, k _ H (Same.refl H) (.int _)⟩
      · cases h
  · cases r with
    | cons r rr =>
      cases rr
      cases h
      obtain ⟨p, vs, rfl, h1, r1⟩ := r.lst_inv
      exact ⟨_, _, rfl, .inl ⟨vs, .of h1, r1.length.symm⟩, k _ H (Same.refl H) (.int _)⟩
  · cases r with
    | cons r rr =>
      cases rr
      cases h
      obtain ⟨p, vs, rfl, h1, r1⟩ := r.tup_inv
      exact ⟨_, _, rfl, .inr ⟨vs, .inl h1, r1.length.symm⟩, k _ H (Same.refl H) (.int _)⟩
  · cases r with
    | cons r rr =>
      cases rr
      cases h
      obtain ⟨p, ns, rfl, rfl, h1⟩ := scr_inv r
      exact ⟨_, _, rfl, .inl ⟨_, h1, by simp⟩, k _ H (Same.refl H) (.int _)⟩
  · cases h
@[simp] def absD : List D → Option D
  | [.int i] => some (.int (if i < 0 then -i else i))
  | _ => none
theorem cd_abs : CallD K (fun xs H Q => ∃ i, xs = [.int i] ∧ Q (.int (if i < 0 then -i else i)) H) absD := by
  intro H xs ds d Q r h k
  unfold absD at h
  split at h
  · cases r with
    | cons r rr =>
      cases rr
      cases h
      rw [r.int_inv]
      exact ⟨_, rfl, k _ H (Same.refl H) (.int _)⟩
  · cases h
@[simp] def intD : List D → Option D
  | [.int i] => some (.int i)
  | [.bool b] => some (.int (if b then 1 else 0))
  | [.str x] => if x.length ≤ 640 then (PySem.intText? x).map .int else none
  | _ => none
def rIntD (xs : List V) (H : Hp) (Q : VK) : Prop := ((∃ i, xs = [.int i] ∧ Q (.int i) H) ∨ ∃ k, xs = [.bl k] ∧ Q (.int (if k then 1 else 0)) H) ∨ ∃ a n, xs = [.str a] ∧ PySem.intText? a = some n ∧ a.length ≤ 640 ∧ Q (.int n) H
theorem cr_intD {X : Cx} : CallR X (.type "int") rIntD := call_int1.or call_int_str
theorem cd_int : CallD K rIntD intD := by
  intro H xs ds d Q r h k
  unfold intD at h
  split at h
  · cases r with
    | cons r rr =>
      cases rr
      cases h
      rw [r.int_inv]
      exact .inl (.inl ⟨_, rfl, k _ H (Same.refl H) (.int _)⟩)
  · cases r with
    | cons r rr =>
      cases rr
      cases h
      rw [r.bl_inv]
      exact .inl (.inr ⟨_, rfl, k _ H (Same.refl H) (.int _)⟩)
  · rename_i x
    cases r with
    | cons r rr =>
      cases rr
      split at h
      · rename_i hl
        cases q : PySem.intText? x with
        | none => rw [q] at h; cases h
        | some n =>
          rw [q] at h; cases h
          rw [r.str_inv]
          exact .inr ⟨_, _, rfl, q, hl, k _ H (Same.refl H) (.int _)⟩
      · cases h
  · cases h
@[simp] def strD : List D → Option D
  | [.int i] => if i.natAbs < 1000000 then some (.str (toString i)) else none
  | _ => none
theorem cd_str : CallD K (fun xs H Q => ∃ i, xs = [.int i] ∧ i.natAbs.log2 < 1920 ∧ Q (.str (toString i)) H) strD := by
  intro H xs ds d Q r h k
  unfold strD at h
  split at h
  · split at h
    · rename_i i hl
      cases r with
      | cons r rr =>
        cases rr
        cases h
        rw [r.int_inv]
        refine ⟨_, rfl, ?_, k _ H (Same.refl H) (.str _)⟩
        by_cases h0 : i.natAbs = 0
        · rw [h0]; decide
        · refine (Nat.log2_lt h0).mpr (Nat.lt_of_lt_of_le hl ?_)
          exact Nat.le_trans (by decide : 1000000 ≤ 2 ^ 20) (Nat.pow_le_pow_right (by decide) (by decide))
    · cases h
  · cases h
@[simp] def tupD : List D → Option D
  | [.list ds] => some (.tuple ds)
  | [.tuple ds] => some (.tuple ds)
  | _ => none
theorem cd_tup : CallD K (fun xs H Q => ∃ p ys, xs = [.ref p] ∧ ((SqL K H p ys ∧ ∀ l, H l = none → Q (.ref l) (upd H l (.tup ys))) ∨ (SqT K H p ys ∧ Q (.ref p) H))) tupD := by
  intro H xs ds d Q r h k
  unfold tupD at h
  split at h
  · cases r with
    | cons r rr =>
      cases rr
      cases h
      obtain ⟨p, vs, rfl, h1, r1⟩ := r.lst_inv
      exact ⟨p, vs, rfl, .inl ⟨.of h1, fun l hl => k _ _ (same_upd hl) (.tup (.inl upd_same) (r1.mono (same_upd hl)))⟩⟩
  · cases r with
    | cons r rr =>
      cases rr
      cases h
      obtain ⟨p, vs, rfl, h1, r1⟩ := r.tup_inv
      exact ⟨p, vs, rfl, .inr ⟨.inl h1, k _ H (Same.refl H) (.tup h1 r1)⟩⟩
  · cases h
@[simp] def lstD : List D → Option (List D)
  | [.list ds] => some ds
  | [.tuple ds] => some ds
  | _ => none
theorem cl_lst : CallL K (fun xs H Q => ∃ p ys, xs = [.ref p] ∧ (SqL K H p ys ∨ SqT K H p ys) ∧ ∀ l, H l = none → Q (.ref l) (upd H l (.lst ys))) lstD := by
  intro H xs ds d Q r h k
  unfold lstD at h
  split at h
  · cases r with
    | cons r rr =>
      cases rr
      cases h
      obtain ⟨p, vs, rfl, h1, r1⟩ := r.lst_inv
      exact ⟨p, vs, rfl, .inl (.of h1), fun l hl => k l vs H (Same.refl H) hl r1⟩
  · cases r with
    | cons r rr =>
      cases rr
      cases h
      obtain ⟨p, vs, rfl, h1, r1⟩ := r.tup_inv
      exact ⟨p, vs, rfl, .inr (.inl h1), fun l hl => k l vs H (Same.refl H) hl r1⟩
  · cases h
@[simp] def min2D : List D → Option D
  | [.int i, .int j] => some (.int (if j < i then j else i))
  | _ => none
@[simp] def max2D : List D → Option D
  | [.int i, .int j] => some (.int (if j > i then j else i))
  | _ => none
theorem cd_min2 : CallD K (fun xs H Q => ∃ i j, xs = [.int i, .int j] ∧ Q (.int (if j < i then j else i)) H) min2D := by
  intro H xs ds d Q r h k
  unfold min2D at h
  split at h
  · cases r with
    | cons r rr =>
      cases rr with
      | cons r' rr =>
        cases rr
        cases h
        rw [r.int_inv, r'.int_inv]
        exact ⟨_, _, rfl, k _ H (Same.refl H) (.int _)⟩
  · cases h
theorem cd_max2 : CallD K (fun xs H Q => ∃ i j, xs = [.int i, .int j] ∧ Q (.int (if j > i then j else i)) H) max2D := by
  intro H xs ds d Q r h k
  unfold max2D at h
  split at h
  · cases r with
    | cons r rr =>
      cases rr with
      | cons r' rr =>
        cases rr
        cases h
        rw [r.int_inv, r'.int_inv]
        exact ⟨_, _, rfl, k _ H (Same.refl H) (.int _)⟩
  · cases h
/-! any, all of a list of truths -/
def boolsOf : List D → Option (List Bool)
  | [] => some []
  | .bool b :: ds => (boolsOf ds).map (b :: ·)
  | _ => none
theorem boolsOf_map : ∀ {ds : List D} {bs : List Bool}, boolsOf ds = some bs → ds = bs.map .bool
  | [], _, h => by cases h; rfl
  | .bool b :: ds, bs, h => by
    unfold boolsOf at h
    cases q : boolsOf ds with
    | none => rw [q] at h; cases h
    | some cs => rw [q] at h; cases h; rw [boolsOf_map q]; rfl
  | .none :: _, _, h => by cases h
  | .int _ :: _, _, h => by cases h
  | .str _ :: _, _, h => by cases h
  | .list _ :: _, _, h => by cases h
  | .tuple _ :: _, _, h => by cases h
  | .dict _ :: _, _, h => by cases h
@[simp] def allD : List D → Option D
  | [.list ds] => (boolsOf ds).map fun bs => .bool (bs.all id)
  | _ => none
@[simp] def anyD : List D → Option D
  | [.list ds] => (boolsOf ds).map fun bs => .bool (bs.any id)
  | _ => none
theorem cd_all : CallD K (rAll K) allD := by
  intro H xs ds d Q r h k
  unfold allD at h
  split at h
  · rename_i es
    cases r with
    | cons r rr =>
      cases rr
      cases q : boolsOf es with
      | none => rw [q] at h; cases h
      | some bs =>
        rw [q] at h; cases h
        obtain ⟨p, vs, rfl, h1, r1⟩ := r.lst_inv
        rw [boolsOf_map q] at r1
        rw [r1.bls] at h1
        exact ⟨p, bs, rfl, .of h1, k _ H (Same.refl H) (.bl _)⟩
  · cases h
theorem cd_any : CallD K (rAny K) anyD := by
  intro H xs ds d Q r h k
  unfold anyD at h
  split at h
  · rename_i es
    cases r with
    | cons r rr =>
      cases rr
      cases q : boolsOf es with
      | none => rw [q] at h; cases h
      | some bs =>
        rw [q] at h; cases h
        obtain ⟨p, vs, rfl, h1, r1⟩ := r.lst_inv
        rw [boolsOf_map q] at r1
        rw [r1.bls] at h1
        exact ⟨p, bs, rfl, .of h1, k _ H (Same.refl H) (.bl _)⟩
  · cases h
end
/-! ### slices -/
def tOD (f : Store → Option (Option Int)) : PySem.W.Frag → TO := fun K σ H Q => ∃ ρ o, EvV K ρ σ H ∧ f ρ = some o ∧ ∀ H', Same H H' → Q o H'
@[simp] def onone : Store → Option (Option Int) := fun _ => some none
@[simp] def osome (f : Fn) : Store → Option (Option Int) := fun ρ => (f ρ).bind fun d => match d with
  | .int i => some (some i)
  | _ => none
def cutL {α : Type} (ds : List α) (lo hi : Option Int) : List α := (ds.drop (HT.sIx ds.length 0 lo)).take (HT.sIx ds.length ds.length hi - HT.sIx ds.length 0 lo)
@[simp] def cutD : D → Option Int → Option Int → Option D
  | .list ds, lo, hi => some (.list (cutL ds lo hi))
  | .tuple ds, lo, hi => some (.tuple (cutL ds lo hi))
  | .str z, lo, hi => if z.length ≤ big then some (.str (cutS z lo hi)) else none
  | _, _, _ => none
@[simp] def slF (f : Fn) (fl fh : Store → Option (Option Int)) : Fn := fun ρ => (f ρ).bind fun d => (fl ρ).bind fun lo => (fh ρ).bind fun hi => cutD d lo hi
theorem cutV_rp {K : PySem.W.Frag} {H : Hp} {vs : List V} {ds : List D} {lo hi : Option Int} (r : RpA K H vs ds) : RpA K H (cutV vs lo hi) (cutL ds lo hi) := by
  unfold cutV cutL
  rw [r.length]
  exact (r.drop _).take _
section
variable {X : Cx} {e : Expr} {pos p2 : Pos}
structure POd (X : Cx) (e : Option Expr) (f : Store → Option (Option Int)) : Prop where
  po : PO X e (tOD f X.K)
theorem o_none : POd X none onone := ⟨⟨fun pins s σ H Q I ⟨ρ, o, E, hf, k⟩ => po_none.run pins s σ H Q I (by cases hf; exact k H (Same.refl H))⟩⟩
theorem o_some {f : Fn} (h : PE X e (tD X.K f)) : POd X (some e) (osome f) := ⟨⟨fun pins s σ H Q I ⟨ρ, o, E, hf, k⟩ => (po_some h).run pins s σ H Q I (by
  unfold osome at hf
  cases q : f ρ with
  | none => rw [q] at hf; cases hf
  | some d =>
    rw [q] at hf
    simp only [Option.bind_some] at hf
    split at hf
    · cases hf
      exact ⟨ρ, _, E, q, fun v H' s r => ⟨_, r.int_inv, k H' s⟩⟩
    · cases hf)⟩⟩
theorem e_slice {lo hi : Option Expr} {f : Fn} {fl fh : Store → Option (Option Int)} (he : PE X e (tD X.K f)) (hl : POd X lo fl) (hh : POd X hi fh) : PE X (.Subscript e (.Slice lo hi none p2) pos) (tD X.K (slF f fl fh)) :=
  (pe_slice (sl_tupA.or (sl_list.or sl_str)) he hl.po hh.po).imw fun σ H Q ⟨ρ, d, E, hf, k⟩ => by
    unfold slF at hf
    cases q : f ρ with
    | none => rw [q] at hf; cases hf
    | some a =>
      cases ql : fl ρ with
      | none => rw [q, ql] at hf; cases hf
      | some lo =>
        cases qh : fh ρ with
        | none => rw [q, ql, qh] at hf; cases hf
        | some hi =>
          rw [q, ql, qh] at hf
          simp only [Option.bind_some] at hf
          refine ⟨ρ, a, E, q, fun v H1 s1 r1 => ⟨ρ, lo, E.mono s1, ql, fun H2 s2 => ⟨ρ, hi, (E.mono s1).mono s2, qh, fun H3 s3 => ?_⟩⟩⟩
          have r3 := (r1.mono s2).mono s3
          have s0 := (s1.trans s2).trans s3
          unfold cutD at hf
          split at hf
          · cases hf
            obtain ⟨p, vs, rfl, h1, ra⟩ := r3.lst_inv
            exact .inr (.inl ⟨p, vs, rfl, .of h1, fun c hc => k _ _ (s0.trans (same_upd hc)) (.lst upd_same ((cutV_rp ra).mono (same_upd hc)))⟩)
          · cases hf
            obtain ⟨p, vs, rfl, h1, ra⟩ := r3.tup_inv
            refine .inl ⟨p, vs, rfl, .inl h1, fun ⟨w1, w2⟩ => ?_, fun _ c hc => k _ _ (s0.trans (same_upd hc)) (.tup (.inl upd_same) ((cutV_rp ra).mono (same_upd hc)))⟩
            refine k _ H3 s0 (.tup h1 ?_)
            have := cutV_rp (lo := lo) (hi := hi) ra
            unfold cutV at this
            rw [w1, w2, List.drop_zero, Nat.sub_zero, List.take_length] at this
            exact this
          · split at hf
            · cases hf
              rename_i hz
              exact .inr (.inr ⟨_, r3.str_inv, hz, k _ H3 s0 (.str _)⟩)
            · cases hf
          · cases hf
end
end Tv

namespace Tv
open PySem PySem.Spec L2
/-! ### t[::-1] -/
section
variable {prog : Program} {w : World} {A : Around} {E : Value → Shared → Prop} {s : Shared}
theorem slapp_rev {sl : Addr} {vl vu vs : Value} {n : Nat} {Q : Int × Int × Nat → Shared → Prop} (hs : s.heap.IsSliceOf sl vl vu vs) (pl : IsPart vl none) (pu : IsPart vu none) (ps : IsPart vs (some (-1)))
    (h : Q ((n : Int) - 1, -1, n) s) : wpAny (model prog w) A (Builtin.Slice.sliceApplied (.ref sl) (pure (n : Int))) Q E s := by
  obtain ⟨ob, hob, hcl, hda⟩ := id hs
  unfold Builtin.Slice.sliceApplied Builtin.Slice.sliceFields
  refine wpAny_bind (wpAny_bind (wpAny_field hob hda (x := vl) rfl (wpAny_bind (wpAny_field hob hda (x := vu) rfl (wpAny_bind (wpAny_field hob hda (x := vs) rfl (wpAny_pure ?_)))))))
  refine wpAny_bind (HT.slicePart_ ps ?_)
  show wpAny _ _ (if ((-1 : Int) == 0) = true then _ else _) _ _ s
  rw [if_neg (by decide)]
  refine wpAny_bind (HT.slicePart_ pl (wpAny_bind (HT.slicePart_ pu (wpAny_bind (wpAny_pure ?_)))))
  have e : Builtin.Slice.slicePlaces ((n : Int) - 1) (-1) (-1) = n := by
    unfold Builtin.Slice.slicePlaces
    rw [if_neg (by decide)]
    by_cases hn : n = 0
    · subst hn; rfl
    · rw [if_pos (by omega)]
      show (((n : Int) - 1 - -1 - 1) / 1 + 1).toNat = n
      rw [Int.ediv_one]; omega
  show wpAny _ _ (pure ((n : Int) - 1, (-1 : Int), Builtin.Slice.slicePlaces ((n : Int) - 1) (-1) (-1))) _ _ s
  rw [e]
  exact wpAny_pure h
theorem pick_rev (xs : Array Value) : ((List.range xs.size).filterMap fun (m : Nat) => xs[((xs.size : Int) - 1 + (m : Int) * (-1)).toNat]?).toArray = xs.toList.reverse.toArray := by
  have e : (List.range xs.size).filterMap (fun (m : Nat) => xs[((xs.size : Int) - 1 + (m : Int) * (-1)).toNat]?) = (List.range xs.size).filterMap fun (m : Nat) => xs.toList.reverse[m]? := by
    have cg : ∀ (l : List Nat) (f g : Nat → Option Value), (∀ m ∈ l, f m = g m) → l.filterMap f = l.filterMap g := by
      intro l f g
      induction l with
      | nil => intro _; rfl
      | cons a l ih =>
        intro hh
        rw [List.filterMap_cons, List.filterMap_cons, hh a List.mem_cons_self, ih fun m hm => hh m (List.mem_cons_of_mem _ hm)]
    refine cg _ _ _ fun m hm => ?_
    have hlt := List.mem_range.mp hm
    rw [List.getElem?_reverse (by simpa using hlt), Array.getElem?_toList]
    congr 1
    simp only [Array.length_toList]
    omega
  rw [e]
  have : ∀ (l : List Value), (List.range l.length).filterMap (fun m => l[m]?) = l := by
    intro l
    induction l with
    | nil => rfl
    | cons a l ih =>
      rw [List.length_cons, List.range_succ_eq_map, List.filterMap_cons]
      simp only [List.getElem?_cons_zero, List.filterMap_map]
      congr 1
  have h2 := this xs.toList.reverse
  rw [List.length_reverse, Array.length_toList] at h2
  rw [h2]
theorem tuple_rev {t sl : Addr} {items : Array Value} {vl vu vs : Value} {Q : Value → Shared → Prop} (ht : PyProof.Rows.IsTup s.heap t items) (hs : s.heap.IsSliceOf sl vl vu vs) (pl : IsPart vl none) (pu : IsPart vu none) (ps : IsPart vs (some (-1)))
    (h : Q (.ref s.heap.objs.size) { s with heap := s.heap.push { cls := .type "tuple", data := .seq items.toList.reverse.toArray } })
    (hsz : items.size ≤ sizeLine) : wpAny (model prog w) A (getItem (.ref t) (.ref sl)) Q E s := by
  have hrev : sizeOk (.seq items.toList.reverse.toArray) := by
    show items.toList.reverse.toArray.size ≤ sizeLine
    simpa using hsz
  obtain ⟨ob, hob, hcl, hda⟩ := id hs
  have hTy : s.TypeIs (.ref sl) "slice" := ⟨ob, hob, hcl⟩
  unfold getItem
  try with_reducible refine wpAny_holding ?_
  first | refine wpAny_bind (wpAny_pure ?_) | skip
  refine wpAny_bind (wpAny_sequenceKey ht.typeIs (by decide) ?_)
  refine wpAny_bind (wpAny_callSpecial?_slot (name := Str.ofString "__getitem__") ht.typeIs PyProof.Rows.slot_tuple_getitem
    (wpAny_call_entry PyProof.Rows.slot_tuple_getitem ht.typeIs PyProof.Rows.entry_tuple_getitem ?_ (PyProof.Rows.args_tuple_getitem _ _)))
  show wpAny _ _ (Builtin.Tuple.tupleItemsOf (.ref t) >>= _) _ _ s
  refine wpAny_bind (PyProof.Rows.tupleItemsOf_ ht (wpAny_bind (wpAny_typeOf hTy ?_)))
  rw [if_pos (by decide)]
  refine wpAny_bind (slapp_rev hs pl pu ps ?_)
  have hfalse : ¬ ((((items.size : Nat) : Int) - 1 == 0 && (-1 : Int) == 1 && items.size == items.size) = true) := by
    intro q
    rw [Bool.and_eq_true, Bool.and_eq_true] at q
    exact absurd q.1.2 (by decide)
  show wpAny _ _ (if (((items.size : Nat) : Int) - 1 == 0 && (-1 : Int) == 1 && items.size == items.size) = true then _ else _) _ _ s
  rw [if_neg hfalse, pick_rev]
  first
    | exact wpAny_bind (m := Builtin.Tuple.tupleExact _) (wpAny_newObj_type (wpAny_pure ⟨_, rfl, wpAny_pure h⟩) hrev)
    | exact wpAny_bind (m := Builtin.Tuple.tupleExact _) (wpAny_newObj_type (wpAny_bind (wpAny_pure (wpAny_pure ⟨_, rfl, wpAny_pure h⟩))) hrev)
    | exact wpAny_bind (wpAny_bind (m := Builtin.Tuple.tupleExact _) (wpAny_newObj_type (wpAny_pure (wpAny_pure ⟨_, rfl, wpAny_pure h⟩)) hrev))
    | exact wpAny_bind (wpAny_bind (m := Builtin.Tuple.tupleExact _) (wpAny_newObj_type (wpAny_pure ⟨_, rfl, wpAny_pure h⟩) hrev))
end
@[simp] def revD : D → Option D
  | .tuple ds => some (.tuple ds.reverse)
  | _ => none
@[simp] def revF (f : Fn) : Fn := fun ρ => (f ρ).bind revD
section
variable {X : Cx} {e : Expr}
theorem e_rev {k : Nat} {p1 p2 p3 pos : Pos} {f : Fn} (he : PE X e (tD X.K f)) : PE X (.Subscript e (.Slice none none (some (.UnaryOp .USub (.Constant (.int 1) k p1) p2)) p3) pos) (tD X.K (revF f)) := by
  refine ⟨fun pins s σ H Q I ⟨ρ, d, E, hf, kk⟩ => ?_⟩
  unfold revF at hf
  cases q : f ρ with
  | none => rw [q] at hf; cases hf
  | some d0 =>
    rw [q] at hf
    simp only [Option.bind_some] at hf
    unfold revD at hf
    split at hf
    · rename_i ds
      cases hf
      refine PyProof.Rows.Subscript_ (thn (he.run pins s σ H (fun v H1 => Same H H1 ∧ Rp X.K H1 v (.tuple ds)) I ⟨ρ, _, E, q, fun v H1 s1 r1 => ⟨s1, r1⟩⟩) fun v s1 ⟨x, H1, I1, r1, sm1, rp1⟩ => ?_)
      obtain ⟨a, xs, rfl, hx, rx⟩ := rp1.tup_inv
      cases r1
      have step : PO X (some (.UnaryOp .USub (.Constant (.int 1) k p1) p2)) (tPart (tUn (rU fun i => .int (-i)) (tC (.int 1)))) := po_some (pe_un un_neg pe_int)
      refine wpAny_Slice (thn (po_none.run pins s1 σ H1 (fun o H2 => o = none ∧ H2 = H1) I1 ⟨rfl, rfl⟩) fun vl s2 ⟨l, H2, I2, pl, el, e2⟩ => ?_)
      subst el e2
      refine thn (po_none.run pins s2 σ H2 (fun o H3 => o = none ∧ H3 = H2) I2 ⟨rfl, rfl⟩) fun vu s3 ⟨u, H3, I3, pu, eu, e3⟩ => ?_
      subst eu e3
      refine thn (step.run pins s3 σ H3 (fun o H4 => o = some (-1) ∧ H4 = H3) I3 ⟨1, rfl, -1, rfl, rfl, rfl⟩) fun vs s4 ⟨o, H4, I4, ps, eo, e4⟩ => ?_
      subst eo e4
      have I5 : L2.Inv X pins σ H4 { s4 with heap := s4.heap.push { cls := .type "slice", data := .fields #[vl, vu, vs] } } := I4.kept (t' := s4.toks) fun b ob z => Heap.get?_push_of_some _ z
      obtain ⟨its, r, ht, hz⟩ := I5.tuple (.inl hx)
      show wpAny (model X.prog X.w) X.A (PyProof.Rows.subscriptTail e (.Slice none none (some (.UnaryOp .USub (.Constant (.int 1) k p1) p2)) p3) (.ref a) (.ref s4.heap.objs.size)) (EP X pins σ Q) X.xe { s4 with heap := s4.heap.push { cls := .type "slice", data := .fields #[vl, vu, vs] } }
      refine PyProof.Rows.tail_any (ops := [.ref a, .ref s4.heap.objs.size]) ht.typeIs (PyProof.Rows.slot_tuple_getitem.lookup) ?_ (by with_unfolding_all rfl)
      refine tuple_rev ht (Heap.IsSliceOf.new _ vl vu vs) pl pu ps ?_ (by rw [List.size_toArray, ← r.length]; exact hz)
      refine ⟨.ref _, _, I5.laid (t' := s4.toks) (o := .tup xs.reverse) (fun b ob z => Heap.get?_push_of_some _ z) (Nat.le_refl _) ?_, rfl, ?_⟩
      · exact ⟨by rw [List.length_reverse]; exact hz, _, r.reverse, PyProof.Rows.IsTup.new _ _⟩
      · have hn := I5.hok.fresh (Nat.le_refl _)
        exact kk _ _ (sm1.trans (same_upd hn)) (.tup (.inl upd_same) (rx.reverse.mono (same_upd hn)))
    · cases hf
end
end Tv

namespace Tv
open PySem PySem.Spec L2
@[simp] def notOwn : Sl → Bool
  | .un => true
  | .val _ => true
  | .svF _ _ => true
  | _ => false
section
variable {K : PySem.W.Frag} {Hb : Hp} {ρ : Store} {σ : L2.St} {H H' H0 : Hp} {L : Nat → List Addr}
theorem Ev.noOwn (E : Ev K Hb ρ σ H H0 L) (h : ρ.all notOwn = true) : ∀ i, L i = [] := fun i => by
  by_cases hi : i < ρ.length
  · obtain ⟨o, _, ok⟩ := E.sl i _ (List.getElem?_eq_getElem hi)
    have := List.all_eq_true.mp h ρ[i] (List.getElem_mem hi)
    cases q : ρ[i] with
    | un => rw [q] at ok; exact ok
    | val d => rw [q] at ok; exact ok.1
    | own ds => rw [q] at this; cases this
    | sv C d => rw [q] at this; cases this
    | svF C d => rw [q] at ok; exact ok.1
  · exact E.out i (by omega)
theorem noOwn_eq (E : Ev K Hb ρ σ H H0 L) (h : ρ.all notOwn = true) : H = H0 := by
  funext b
  exact E.eq b fun i hi => by rw [E.noOwn h i] at hi; cases hi
end
/-! a new list made while owned lists are looked at -/
@[simp] def xbl (f : Store → Option (List D)) : FX := fun ρ => (f (frz ρ)).bind fun ds => if (noLs ds || ρ.all notOwn) = true then some (.list ds, ρ) else none
theorem use_bl {K : PySem.W.Frag} {f : Store → Option (List D)} : UseX K (tL K f) (xbl f) := fun Hb ρ σ H H0 L d ρ' Q E hg k => by
  unfold xbl at hg
  cases q : f (frz ρ) with
  | none => rw [q] at hg; cases hg
  | some ds =>
    rw [q] at hg
    simp only [Option.bind_some] at hg
    split at hg
    · rename_i hn
      cases hg
      refine ⟨frz ρ, ds, E.vvF, q, fun p vs H' s n r => ?_⟩
      obtain ⟨H0', s0, ht, E'⟩ := E.lent (s.trans (same_upd n))
      have r' : RpA K (upd H' p (.lst vs)) vs ds := r.mono (same_upd n)
      have hp : H0' p = some (.lst vs) := by
        rw [← E'.eq p fun i hi => ?_]
        · exact upd_same
        · obtain ⟨_, o, e, _⟩ := E.frm.on p (E.own_iff.mpr ⟨i, hi⟩)
          rw [s _ _ e] at n
          cases n
      refine k _ _ H0' L E' s0 (.lst hp ?_)
      rw [Bool.or_eq_true] at hn
      rcases hn with hn | hn
      · exact RpA.noL ht hn r'
      · rw [← noOwn_eq E' hn]
        exact r'
    · cases hg
section
variable {X : Cx} {e : Expr} {W : WXT} {pos : Pos}
theorem x_bl {f : Store → Option (List D)} (h : PE X e (tL X.K f)) : PX X e (xbl f) := ⟨_, h, use_bl⟩
/-- name = [..] on one line, the name a plain local -/
theorem s_setLc {N : List Str} {sc : Scope} {i : Nat} {y : Str} {py pos' : Pos} {elt tg iter : Expr} {ifs : List Expr} {scope : Scope} (own : List (Str × Nat)) {f : Store → Option (List D)} {T : Tg} {ft : Store → Option Bool} {fe : Fn} (hN : X.N.Nodup) (hi : PI X tg iter (iD X.K f))
    (hg : ∀ (s : Shared) (H : Hp) (C : Addr) (cl : List (Str × Addr)) (fp : List Addr), PG (X.blk s H scope (compEnvC scope cl C X.env) fp) tg (gT X.K T))
    (ht : ∀ (s : Shared) (H : Hp) (C : Addr) (cl : List (Str × Addr)) (fp : List Addr), PTs (X.blk s H scope (compEnvC scope cl C X.env) fp) ifs (tT X.K ft))
    (he : ∀ (s : Shared) (H : Hp) (C : Addr) (cl : List (Str × Addr)) (fp : List Addr), PE (X.blk s H scope (compEnvC scope cl C X.env) fp) elt (tD X.K fe))
    (hy : X.N[i]? = some y := by rfl) (hyl : X.env.scope.names.lookup y = some .local := by rfl) (hsw : swapsWith (.ListComp elt [⟨tg, iter, ifs, 0⟩] scope pos') (some (.Name y py)) pos.line X.env = pure true := by exact sw_true rfl rfl rfl (by decide +kernel))
    (eN : X.N = N := by rfl) (eS : X.env.scope = sc := by rfl) (ok : blkC N sc scope own = true := by decide +kernel) (sub : (slots T).all (fun i => (own.map (·.2)).contains i) = true := by rfl) (hc : X.calm = true := by rfl) (hs : ∀ x, foldedSetIterable iter X.env x = pure x := by intro _; rfl) :
    PS X (.Assign [.Name y py] (.ListComp elt [⟨tg, iter, ifs, 0⟩] scope pos') pos) (tS X.K W (asgS (xbl (compF f T (own.map (·.2)) ft fe)) (.nm i))) := by
  have hsub : ∀ i ∈ slots T, i ∈ own.map (·.2) := fun i hi => List.contains_iff_mem.mp (List.all_eq_true.mp sub i hi)
  refine (ps_setLc hc hN hy hyl hsw hi (blkOk_by (by rw [eN, eS]; exact ok)) hg (fun s H C cl fp => frts (ht s H C cl fp)) (fun s H C cl fp => fr_e (he s H C cl fp)) hs).imw fun D σ H h => ?_
  exact tLc_of hsub (s_asg_aux use_bl D σ H h)
/-! a, b = x, y: two plain locals -/
@[simp] def parS (i j : Nat) (g1 g2 : FX) : Fs := fun ρ => match g1 ρ with
  | some (d1, ρ1) => (match g2 ρ1 with
    | some (d2, ρ2) => .nx ((ρ2.set i (.val d1)).set j (.val d2))
    | none => .stuck)
  | none => .stuck
theorem s_par {i j : Nat} {x y : Str} {a b : Expr} {g1 g2 : FX} {px py pt : Pos} {kt k2 : Nat} {pt2 : Pos} (hN : X.N.Nodup) (ha : PX X a g1) (hb : PX X b g2) (hi : X.N[i]? = some x := by rfl) (hj : X.N[j]? = some y := by rfl) (hij : i ≠ j := by decide)
    (hx : X.env.scope.names.lookup x = some .local := by rfl) (hy : X.env.scope.names.lookup y = some .local := by rfl) (hc : X.calm = true := by rfl)
    (hw : swappedStores [.Tuple [.Name x px, .Name y py] kt pt] (.Tuple [a, b] k2 pt2) X.env = pure (some [x, y]) := by rfl)
    (hs : swapsWithSole [.Tuple [.Name x px, .Name y py] kt pt] (.Tuple [a, b] k2 pt2) pos.line X.env = pure false := by rfl)
    (s1 : starEach [a, b] X.env = (false, eval a X.env) :: starEach [b] X.env := by rfl) (s2 : starEach [b] X.env = (false, eval b X.env) :: starEach [] X.env := by rfl) :
    PS X (.Assign [.Tuple [.Name x px, .Name y py] kt pt] (.Tuple [a, b] k2 pt2) pos) (tS X.K W (parS i j g1 g2)) := by
  obtain ⟨t1, h1, u1⟩ := ha
  obtain ⟨t2, h2, u2⟩ := hb
  refine (ps_par hc hN hi hj hij hx hy (pa_cons h1 (pa_cons h2 pa_nil s2) s1) hw hs).imw fun D σ H ⟨Hb, ρ, H0, L, E, h⟩ => ?_
  unfold parS at h
  cases q1 : g1 ρ with
  | none => rw [q1] at h; exact h.elim
  | some p1 =>
    obtain ⟨d1, ρ1⟩ := p1
    rw [q1] at h
    simp only at h
    cases q2 : g2 ρ1 with
    | none => rw [q2] at h; exact h.elim
    | some p2 =>
      obtain ⟨d2, ρ2⟩ := p2
      rw [q2] at h
      simp only at h
      refine u1 Hb ρ σ H H0 L d1 ρ1 _ E q1 fun v H1 H1' L1 E1 sm1 r1 => u2 Hb ρ1 σ H1 H1' L1 d2 ρ2 _ E1 q2 fun w H2 H2' L2' E2 sm2 r2 => ⟨v, w, rfl, ?_⟩
      obtain ⟨H3, L3, sm3, E3⟩ := E2.setVal i (r1.mono sm2)
      obtain ⟨H4, L4, sm4, E4⟩ := E3.setVal j (r2.mono sm3)
      exact h _ _ H4 L4 E4
/-- .. the second a new list, owned -/
@[simp] def parO (i j : Nat) (g1 : FX) (f2 : Store → Option (List D)) : Fs := fun ρ => match g1 ρ with
  | some (d1, ρ1) => (match f2 ρ1 with
    | some ds => if j < ρ1.length then .nx ((ρ1.set i (.val d1)).set j (.own ds)) else .stuck
    | none => .stuck)
  | none => .stuck
theorem s_parO {i j : Nat} {x y : Str} {a b : Expr} {g1 : FX} {f2 : Store → Option (List D)} {px py pt : Pos} {kt k2 : Nat} {pt2 : Pos} (hN : X.N.Nodup) (ha : PX X a g1) (hb : PE X b (tL X.K f2)) (hi : X.N[i]? = some x := by rfl) (hj : X.N[j]? = some y := by rfl) (hij : i ≠ j := by decide)
    (hx : X.env.scope.names.lookup x = some .local := by rfl) (hy : X.env.scope.names.lookup y = some .local := by rfl) (hc : X.calm = true := by rfl)
    (hw : swappedStores [.Tuple [.Name x px, .Name y py] kt pt] (.Tuple [a, b] k2 pt2) X.env = pure (some [x, y]) := by rfl)
    (hs : swapsWithSole [.Tuple [.Name x px, .Name y py] kt pt] (.Tuple [a, b] k2 pt2) pos.line X.env = pure false := by rfl)
    (s1 : starEach [a, b] X.env = (false, eval a X.env) :: starEach [b] X.env := by rfl) (s2 : starEach [b] X.env = (false, eval b X.env) :: starEach [] X.env := by rfl) :
    PS X (.Assign [.Tuple [.Name x px, .Name y py] kt pt] (.Tuple [a, b] k2 pt2) pos) (tS X.K W (parO i j g1 f2)) := by
  obtain ⟨t1, h1, u1⟩ := ha
  refine (ps_par hc hN hi hj hij hx hy (pa_cons h1 (pa_cons (fr_e hb) pa_nil s2) s1) hw hs).imw fun D σ H ⟨Hb, ρ, H0, L, E, h⟩ => ?_
  unfold parO at h
  cases q1 : g1 ρ with
  | none => rw [q1] at h; exact h.elim
  | some p1 =>
    obtain ⟨d1, ρ1⟩ := p1
    rw [q1] at h
    simp only at h
    cases q2 : f2 ρ1 with
    | none => rw [q2] at h; exact h.elim
    | some ds =>
      rw [q2] at h
      simp only at h
      split at h
      · rename_i hjl
        refine u1 Hb ρ σ H H0 L d1 ρ1 _ E q1 fun v H1 H1' L1 E1 sm1 r1 => use_l E1 q2 fun p vs H2 H2' E2 sm2 n n' r2 => ⟨v, _, rfl, ?_⟩
        obtain ⟨H3, L3, sm3, E3⟩ := E2.setOwn j hjl n n' r2
        obtain ⟨H4, L4, sm4, E4⟩ := E3.setVal i ((r1.mono sm2).mono sm3)
        rw [List.set_comm _ _ (Ne.symm hij), List.set_comm _ _ (Ne.symm hij)] at E4
        exact h _ _ H4 L4 E4
      · exact h.elim
/-! an owned list loses an item, gets another -/
@[simp] def popX (i : Nat) (f : Fn) : FX := fun ρ => match ρ[i]?, f (frz ρ) with
  | some (.own ds), some (.int k) => if smI k = true then (seqIndex? k ds.length).bind fun j => (ds[j]?).bind fun d => some (d, ρ.set i (.own (ds.eraseIdx j))) else none
  | _, _ => none
theorem x_pop (i : Nat) {x : Str} {p ap cp : Pos} {a : Expr} {f : Fn} (ha : PE X a (tD X.K f))
    (te : PE X (.Call (.Attribute (.Name x p) "pop" ap) [a] [] cp) (tBM X.K "list" rPopAt (tVar i) (tCons (tD X.K f) tNil)) := by exact pe_bm PySem.F.plainAttrs_list PySem.F.slot_list_pop PySem.F.type_list_pop mt_popAt (pv _) (pa_cons (by assumption) pa_nil)) :
    PX X (.Call (.Attribute (.Name x p) "pop" ap) [a] [] cp) (popX i f) := ⟨_, te, fun Hb ρ σ H H0 L d ρ' Q E hg k => by
  unfold popX at hg
  cases q1 : ρ[i]? with
  | none => rw [q1] at hg; cases hg
  | some sl =>
    cases sl with
    | own ds =>
      obtain ⟨l, vs, h1, h2, h3, h4⟩ := E.ownAt q1
      rw [q1] at hg
      cases q2 : f (frz ρ) with
      | none => rw [q2] at hg; cases hg
      | some dk =>
        cases dk with
        | int kk =>
          rw [q2] at hg
          simp only at hg
          split at hg
          · rename_i hb
            have hb := smI_ok hb
            cases q3 : seqIndex? kk ds.length with
            | none => rw [q3] at hg; cases hg
            | some j =>
              rw [q3] at hg
              simp only [Option.bind_some] at hg
              cases q4 : ds[j]? with
              | none => rw [q4] at hg; cases hg
              | some dd =>
                rw [q4] at hg
                cases hg
                refine ⟨.ref l, h1, .inl ⟨rfl, _, .of h3⟩, frz ρ, .int kk, E.vvF, q2, fun v H' s r => ?_⟩
                obtain ⟨H0', s0, ht, E'⟩ := E.lent s
                obtain ⟨w, hw, rw'⟩ := (h4.mono s0).get q4
                refine ⟨l, vs, kk, j, w, rfl, by rw [r.int_inv], s _ _ h3, by omega, by omega, by rw [h4.length]; exact q3, hw, ?_⟩
                exact k w _ H0' L (E'.chg q1 h2 h1 ((h4.mono s0).eraseIdx j)) s0 rw'
          · cases hg
        | _ => rw [q2] at hg; cases hg
    | _ => rw [q1] at hg; cases hg⟩
@[simp] def sitS (i : Nat) (g : FX) (f : Fn) : Fs := fun ρ => match g ρ with
  | some (d, ρ') => (match ρ'[i]?, f (frz ρ') with
    | some (.own ds), some (.int k) => (match ixN ds.length k with
      | some j => .nx (ρ'.set i (.own (ds.set j d)))
      | none => .stuck)
    | _, _ => .stuck)
  | none => .stuck
theorem s_sit (i : Nat) {x : Str} {p pb : Pos} {a : Expr} {g : FX} {f : Fn} (he : PX X e g) (ha : PE X a (tD X.K f)) (hv : PE X (.Name x p) (tVar i) := by exact pv _)
    (hs : swapsWithSole [.Subscript (.Name x p) a pb] e pos.line X.env = pure false := by rfl) (hw : swappedStores [.Subscript (.Name x p) a pb] e X.env = pure none := by rfl)
    (h1 : (assignEach [.Subscript (.Name x p) a pb] X.env).map (·.2) = [assign (.Subscript (.Name x p) a pb) X.env] := by rfl)
    (hsub : PG X (.Subscript (.Name x p) a pb) (gSub (tVar i) (tD X.K f) rSetL) := by exact pg_sub (by assumption) (by assumption) set_list) :
    PS X (.Assign [.Subscript (.Name x p) a pb] e pos) (tS X.K W (sitS i g f)) := by
  obtain ⟨t, ht, use⟩ := he
  refine (ps_asg ht hsub hs hw h1).imw fun D σ H ⟨Hb, ρ, H0, L, E, h⟩ => ?_
  unfold sitS at h
  cases q : g ρ with
  | none => rw [q] at h; exact h.elim
  | some pr =>
    obtain ⟨d, ρ'⟩ := pr
    rw [q] at h
    simp only at h
    refine use Hb ρ σ H H0 L d ρ' _ E q fun v H' H0' L' E' s r => ?_
    cases q1 : ρ'[i]? with
    | none => rw [q1] at h; exact h.elim
    | some sl =>
      cases sl with
      | own ds =>
        obtain ⟨l, vs, g1, g2, g3, g4⟩ := E'.ownAt q1
        rw [q1] at h
        cases q2 : f (frz ρ') with
        | none => rw [q2] at h; exact h.elim
        | some dk =>
          cases dk with
          | int kk =>
            rw [q2] at h
            simp only at h
            cases q3 : ixN ds.length kk with
            | none => rw [q3] at h; exact h.elim
            | some j =>
              rw [q3] at h
              refine ⟨.ref l, g1, frz ρ', .int kk, E'.vvF, q2, fun w H2 s2 r2 => ?_⟩
              obtain ⟨H02, s02, ht2, E2⟩ := E'.lent s2
              refine ⟨l, vs, kk, j, rfl, r2.int_inv, s2 _ _ g3, by rw [g4.length]; exact q3, ?_⟩
              exact h σ _ H02 L' (E2.chg q1 g2 g1 ((g4.mono s02).set (r.mono s02) j))
          | _ => rw [q2] at h; exact h.elim
      | _ => rw [q1] at h; exact h.elim
end
/-! ### a def by its name, its level, its function -/
def Def (P : Program) (w : World) (K : PySem.W.Frag) (mg : Str → Option Value) (base : Heap) (x : Str) (k : Nat) (fn : List D → Option D) : Prop :=
  ∃ (fa : Addr) (fd : FuncData) (ps : List Str), FnOk P w K mg base CX0 k fa fd ps (spD K ps.length fn) ∧ mg x = some (.ref fa) ∧ PySem.W.keepIn K (.ref fa) = true ∧ Binds K fd ps [] ∧ ∀ ds d, fn ds = some d → ds.length = ps.length
theorem e_def {X : Cx} {e : Expr} {es : List Expr} {x : Str} {p pos : Pos} {k j : Nat} {fn : List D → Option D} {f : Store → Option (List D)} (G : Def X.prog X.w X.K X.mg X.base x k fn) (hr : Room j X.A) (hk : k ≤ j) (ha : PA X (e :: es) (tA X.K f)) (hg : Gl X x := by rfl) (hdb : (x == ("__debug__" : Str)) = false := by decide)
    (he : starEach (e :: es) X.env = (false, eval e X.env) :: starEach es X.env := by rfl) (hpl : (backTo pos (starEach es X.env)).any (·.1) = false := by rfl) : PE X (.Call (.Name x p) (e :: es) [] pos) (tD X.K (cf fn f)) := by
  obtain ⟨fa, fd, ps, F, hm, hkp, hb, hl⟩ := G
  exact e_call F (hr.mono hk) hm hkp hb ha hl hg hdb he hpl
theorem def_mk {P : Program} {w : World} {K : PySem.W.Frag} {mg : Str → Option Value} {base : Heap} {x : Str} {k N : Nat} {g : Fs} {fa : Addr} {fd : FuncData} {ps : List Str} (F : FnOk P w K mg base CX0 k fa fd ps (spD K ps.length (fnOf ps.length N g))) (hm : mg x = some (.ref fa)) (hk : PySem.W.keepIn K (.ref fa) = true) (hb : Binds K fd ps []) :
    Def P w K mg base x k (fnOf ps.length N g) := ⟨fa, fd, ps, F, hm, hk, hb, fun _ _ h => fnOf_len h⟩
end Tv

namespace Tv
open PySem PySem.Spec L2
@[simp] def negF (f : Fn) : Fn := fun ρ => (f ρ).bind fun d => match d with
  | .int i => some (.int (-i))
  | _ => none
section
variable {X : Cx} {e : Expr}
theorem e_neg {pos : Pos} {f : Fn} (he : PE X e (tD X.K f)) : PE X (.UnaryOp .USub e pos) (tD X.K (negF f)) := (pe_un un_neg he).imw fun σ H Q ⟨ρ, d, E, hf, k⟩ => by
  unfold negF at hf
  cases q : f ρ with
  | none => rw [q] at hf; cases hf
  | some a =>
    rw [q] at hf
    simp only [Option.bind_some] at hf
    split at hf
    · cases hf
      exact ⟨ρ, _, E, q, fun v H' s r => ⟨_, r.int_inv, k _ H' s (.int _)⟩⟩
    · cases hf
end
theorem law_sp {K : PySem.W.Frag} {H : Hp} {a : Addr} {ns : List Int} {n : Nat} {E : XK} {fn : List D → Option D} (hl : ns.length ≤ n) (hS : SqL K H a (ns.map V.int)) (h : fn [scr ns] = some (.bool true)) : spD K 1 fn [.ref a] H (fun v _ => v = .bl true) E :=
  ⟨[scr ns], .bool true, rfl, .one (.scr hS), h, fun v H' s r => r.bl_inv⟩
end Tv

namespace Tv
open PySem PySem.Spec L2
theorem _root_.L2.Room.units65 {k : Nat} {A : Around} (r : Room k A) : A.units + 65 < cLine := by have := r.un; omega
/-! ### isinstance of a built-in class -/
def tyD : D → Option String
  | .none => some "NoneType"
  | .bool _ => some "bool"
  | .int _ => some "int"
  | .str _ => some "str"
  | .list _ => some "list"
  | .tuple _ => some "tuple"
  | .dict _ => none
theorem tyD_ok {K : PySem.W.Frag} {H : Hp} {v : V} {d : D} {T : String} (r : Rp K H v d) (h : tyD d = some T) : TyX K H v (.type T) := by
  cases r with
  | non => cases h; exact .base .non
  | bl b => cases h; exact .base (.bl b)
  | int i => cases h; exact .base (.int i)
  | str x => cases h; exact .base (.str x)
  | lst e _ => cases h; exact .base (.lst e)
  | tup e _ =>
    cases h
    rcases e with e | ⟨o, e⟩
    · exact .base (.tup e)
    · exact .fTuple e
  | dct _ _ => cases h
  | scr _ => cases h
  | xtp _ _ _ => cases h
  | exc _ => cases h
def isB (T : String) (d : D) : Option Bool := (tyD d).bind fun t => kitB t T
@[simp] theorem isB_int_int (i : Int) : isB "int" (.int i) = some true := by show kitB "int" "int" = _; decide +kernel
@[simp] theorem isB_int_bool (i : Bool) : isB "int" (.bool i) = some true := by show kitB "bool" "int" = _; decide +kernel
@[simp] theorem isB_int_none : isB "int" .none = some false := by show kitB "NoneType" "int" = _; decide +kernel
@[simp] theorem isB_int_str (i : Str) : isB "int" (.str i) = some false := by show kitB "str" "int" = _; decide +kernel
@[simp] theorem isB_int_list (i : List D) : isB "int" (.list i) = some false := by show kitB "list" "int" = _; decide +kernel
@[simp] theorem isB_int_tuple (i : List D) : isB "int" (.tuple i) = some false := by show kitB "tuple" "int" = _; decide +kernel
@[simp] theorem isB_bool_int (i : Int) : isB "bool" (.int i) = some false := by show kitB "int" "bool" = _; decide +kernel
@[simp] theorem isB_bool_bool (i : Bool) : isB "bool" (.bool i) = some true := by show kitB "bool" "bool" = _; decide +kernel
@[simp] theorem isB_bool_none : isB "bool" .none = some false := by show kitB "NoneType" "bool" = _; decide +kernel
@[simp] theorem isB_bool_str (i : Str) : isB "bool" (.str i) = some false := by show kitB "str" "bool" = _; decide +kernel
@[simp] theorem isB_bool_list (i : List D) : isB "bool" (.list i) = some false := by show kitB "list" "bool" = _; decide +kernel
@[simp] theorem isB_bool_tuple (i : List D) : isB "bool" (.tuple i) = some false := by show kitB "tuple" "bool" = _; decide +kernel
@[simp] theorem isB_str_int (i : Int) : isB "str" (.int i) = some false := by show kitB "int" "str" = _; decide +kernel
@[simp] theorem isB_str_bool (i : Bool) : isB "str" (.bool i) = some false := by show kitB "bool" "str" = _; decide +kernel
@[simp] theorem isB_str_none : isB "str" .none = some false := by show kitB "NoneType" "str" = _; decide +kernel
@[simp] theorem isB_str_str (i : Str) : isB "str" (.str i) = some true := by show kitB "str" "str" = _; decide +kernel
@[simp] theorem isB_str_list (i : List D) : isB "str" (.list i) = some false := by show kitB "list" "str" = _; decide +kernel
@[simp] theorem isB_str_tuple (i : List D) : isB "str" (.tuple i) = some false := by show kitB "tuple" "str" = _; decide +kernel
@[simp] theorem isB_tuple_int (i : Int) : isB "tuple" (.int i) = some false := by show kitB "int" "tuple" = _; decide +kernel
@[simp] theorem isB_tuple_bool (i : Bool) : isB "tuple" (.bool i) = some false := by show kitB "bool" "tuple" = _; decide +kernel
@[simp] theorem isB_tuple_none : isB "tuple" .none = some false := by show kitB "NoneType" "tuple" = _; decide +kernel
@[simp] theorem isB_tuple_str (i : Str) : isB "tuple" (.str i) = some false := by show kitB "str" "tuple" = _; decide +kernel
@[simp] theorem isB_tuple_list (i : List D) : isB "tuple" (.list i) = some false := by show kitB "list" "tuple" = _; decide +kernel
@[simp] theorem isB_tuple_tuple (i : List D) : isB "tuple" (.tuple i) = some true := by show kitB "tuple" "tuple" = _; decide +kernel
@[simp] def isA : List String → D → Option Bool
  | [], _ => some false
  | T :: Ts, d => (isB T d).bind fun k => if k = true then some true else isA Ts d
@[simp] def isiF (Ts : List String) (f : Fn) : Fn := fun ρ => (f ρ).bind fun d => (isA Ts d).map .bool
section
variable {X : Cx} {e : Expr} {pos p p2 : Pos}
theorem isB_kit {K : PySem.W.Frag} {T : String} {d : D} {b : Bool} (h : isB T d = some b) : ∃ t, tyD d = some t ∧ PySem.W.kitOne K (.type t) (.type T) = some b := by
  unfold isB at h
  cases q : tyD d with
  | none => rw [q] at h; cases h
  | some t => rw [q] at h; exact ⟨t, rfl, kit_ty h⟩
theorem e_isi {T : String} {x : Str} {f : Fn} (hm : X.mg "isinstance" = none) (hT : X.mg x = none) (he : PE X e (tD X.K f)) (hv : bootBuiltins x = some (.type T) := by decide +kernel) (hg : Gl X "isinstance" := by rfl) (hgT : Gl X x := by rfl) (hn : x ≠ "__name__" := by decide) (hdb : (x == ("__debug__" : Str)) = false := by decide)
    (s1 : starEach [e, .Name x p2] X.env = (false, eval e X.env) :: starEach [.Name x p2] X.env := by rfl) (s2 : starEach [.Name x p2] X.env = (false, eval (.Name x p2) X.env) :: starEach [] X.env := by rfl)
    (hpl : (backTo pos (starEach [.Name x p2] X.env)).any (·.1) = false := by rfl) :
    PE X (.Call (.Name "isinstance" p) [e, .Name x p2] [] pos) (tD X.K (isiF [T] f)) :=
  (pe_callB call_isi hg hm (by decide +kernel) (pa_cons he (pa_cons (pe_bltn (v := .ty T) hgT hT hv rfl hn hdb) pa_nil s2) s1) (by decide) (by decide) s1 hpl).imw fun σ H Q ⟨ρ, d, E, hf, k⟩ => by
    unfold isiF at hf
    cases q : f ρ with
    | none => rw [q] at hf; cases hf
    | some a =>
      rw [q] at hf
      simp only [Option.bind_some, isA] at hf
      cases q2 : isB T a with
      | none => rw [q2] at hf; cases hf
      | some b =>
        rw [q2] at hf
        have hd : d = .bool b := by cases b <;> (simp at hf; exact hf.symm)
        subst hd
        obtain ⟨t, ht, hk⟩ := isB_kit (K := X.K) q2
        exact ⟨ρ, a, E, q, fun v H1 s1 r1 => ⟨v, .ty T, .type t, .type T, b, rfl, .ty T, tyD_ok r1 ht, hk, k _ H1 s1 (.bl b)⟩⟩
theorem e_isiT2 {T T' : String} {x x' : Str} {kt : Nat} {p3 pt : Pos} {f : Fn} (hm : X.mg "isinstance" = none) (hT : X.mg x = none) (hT' : X.mg x' = none) (he : PE X e (tD X.K f)) (hv : bootBuiltins x = some (.type T) := by decide +kernel) (hv' : bootBuiltins x' = some (.type T') := by decide +kernel)
    (hg : Gl X "isinstance" := by rfl) (hgT : Gl X x := by rfl) (hgT' : Gl X x' := by rfl) (hn : x ≠ "__name__" := by decide) (hdb : (x == ("__debug__" : Str)) = false := by decide) (hn' : x' ≠ "__name__" := by decide) (hdb' : (x' == ("__debug__" : Str)) = false := by decide)
    (s1 : starEach [e, .Tuple [.Name x p2, .Name x' p3] kt pt] X.env = (false, eval e X.env) :: starEach [.Tuple [.Name x p2, .Name x' p3] kt pt] X.env := by rfl)
    (s2 : starEach [.Tuple [.Name x p2, .Name x' p3] kt pt] X.env = (false, eval (.Tuple [.Name x p2, .Name x' p3] kt pt) X.env) :: starEach [] X.env := by rfl)
    (s3 : starEach [.Name x p2, .Name x' p3] X.env = (false, eval (.Name x p2) X.env) :: starEach [.Name x' p3] X.env := by rfl) (s4 : starEach [.Name x' p3] X.env = (false, eval (.Name x' p3) X.env) :: starEach [] X.env := by rfl)
    (hpl : (backTo pos (starEach [.Tuple [.Name x p2, .Name x' p3] kt pt] X.env)).any (·.1) = false := by rfl) :
    PE X (.Call (.Name "isinstance" p) [e, .Tuple [.Name x p2, .Name x' p3] kt pt] [] pos) (tD X.K (isiF [T, T'] f)) :=
  (pe_callB call_isiT hg hm (by decide +kernel) (pa_cons he (pa_cons (pe_tup (pa_cons (pe_bltn (v := .ty T) hgT hT hv rfl hn hdb) (pa_cons (pe_bltn (v := .ty T') hgT' hT' hv' rfl hn' hdb') pa_nil s4) s3)) pa_nil s2) s1) (by decide) (by decide) s1 hpl).imw fun σ H Q ⟨ρ, d, E, hf, k⟩ => by
    unfold isiF at hf
    cases q : f ρ with
    | none => rw [q] at hf; cases hf
    | some a =>
      rw [q] at hf
      simp only [Option.bind_some, isA] at hf
      cases q2 : isB T a with
      | none => rw [q2] at hf; cases hf
      | some b =>
        rw [q2] at hf
        obtain ⟨t, ht, hk⟩ := isB_kit (K := X.K) q2
        refine ⟨ρ, a, E, q, fun v H1 s1 r1 => ⟨by show 2 ≤ sizeLine; decide, fun c hc => ?_⟩⟩
        have key : ∀ z, PySem.W.kitAny X.K (.type t) [.type T, .type T'] = some z → d = .bool z → rIsiT X.K [v, .ref c] (upd H1 c (.tup [.ty T, .ty T'])) Q := fun z hz hd => by
          subst hd
          exact ⟨v, c, [.ty T, .ty T'], .type t, [.type T, .type T'], z, rfl, upd_same, .cons (.ty T) (.cons (.ty T') .nil), tyD_ok (r1.mono (same_upd hc)) ht, hz, k _ _ (s1.trans (same_upd hc)) (.bl z)⟩
        cases b with
        | true =>
          simp at hf
          exact key true (kitAny_cons hk (fun z => nomatch z) fun _ => rfl) hf.symm
        | false =>
          simp only [Option.bind_some, Bool.false_eq_true, if_false] at hf
          cases q3 : isB T' a with
          | none => rw [q3] at hf; cases hf
          | some b' =>
            rw [q3] at hf
            obtain ⟨t', ht', hk'⟩ := isB_kit (K := X.K) q3
            rw [ht] at ht'; cases ht'
            have hd : d = .bool b' := by cases b' <;> (simp at hf; exact hf.symm)
            exact key b' (kitAny_cons hk (fun _ => kitAny_cons hk' (fun hb => by rw [hb]; exact kitAny_nil) fun hb => hb) fun z => nomatch z) hd
end
/-! ### in, not in -/
theorem flat_rp {K : PySem.W.Frag} {H : Hp} {v : V} {d : D} (r : Rp K H v d) (h : flatD d = true) : flatV v = true := by
  cases r <;> first | rfl | cases h
theorem flats_rp {K : PySem.W.Frag} {H : Hp} : ∀ {vs : List V} {ds : List D}, RpA K H vs ds → ds.all flatD = true → vs.all flatV = true
  | _, _, .nil, _ => rfl
  | _, _, .cons r t, h => by
    rw [List.all_cons, Bool.and_eq_true] at h ⊢
    exact ⟨flat_rp r h.1, flats_rp t h.2⟩
theorem eqv_flat {K : PySem.W.Frag} {H : Hp} {v w : V} {d e : D} (r : Rp K H v d) (r' : Rp K H w e) (h : flatD d = true) (h' : flatD e = true) : eqV v w = PyData.eqv d e := by
  cases r <;> first | cases h | skip
  all_goals (cases r' <;> first | rfl | cases h')
theorem inV_eq {K : PySem.W.Frag} {H : Hp} {w : V} {e : D} (r' : Rp K H w e) (h' : flatD e = true) : ∀ {vs : List V} {ds : List D}, RpA K H vs ds → ds.all flatD = true → inV w vs = ds.any fun z => PyData.eqv z e
  | _, _, .nil, _ => rfl
  | _, _, .cons r t, h => by
    rw [List.all_cons, Bool.and_eq_true] at h
    show (eqV _ w || inV w _) = (PyData.eqv _ e || _)
    rw [eqv_flat r r' h.1 h', inV_eq r' h' t h.2]
def rInAll (K : PySem.W.Frag) : R2 := fun x y H Q => (∃ i j, x = .str i ∧ y = .str j ∧ Q (.bl (!(Builtin.Str.occurrences j i 0 j.length 1).isEmpty)) H) ∨ rInD K x y H Q ∨ rIn K false x y H Q ∨ ∃ a o, y = .ref a ∧ DGet H a x o ∧ Q (.bl o.isSome) H
def rNinAll (K : PySem.W.Frag) : R2 := fun x y H Q => (∃ i j, x = .str i ∧ y = .str j ∧ Q (.bl (!(!(Builtin.Str.occurrences j i 0 j.length 1).isEmpty))) H) ∨ rNotInD K x y H Q ∨ rIn K true x y H Q ∨ ∃ a o, y = .ref a ∧ DGet H a x o ∧ Q (.bl (!o.isSome)) H
theorem op_in_dct {X : Cx} (hu : X.A.units + 65 < cLine) : OpR X (compareOp .In) (fun x y H Q => ∃ a o, y = .ref a ∧ DGet H a x o ∧ Q (.bl o.isSome) H) := by
  intro pins s σ H x y v u Q I rx ry h
  obtain ⟨a, o, rfl, g, q⟩ := h
  cases ry
  exact d_in (by omega) I g rx fun s' I' => ⟨.bl _, H, I', rfl, q⟩
theorem op_nin_dct {X : Cx} (hu : X.A.units + 65 < cLine) : OpR X (compareOp .NotIn) (fun x y H Q => ∃ a o, y = .ref a ∧ DGet H a x o ∧ Q (.bl (!o.isSome)) H) := by
  intro pins s σ H x y v u Q I rx ry h
  obtain ⟨a, o, rfl, g, q⟩ := h
  cases ry
  exact d_notIn (by omega) I g rx fun s' I' => ⟨.bl _, H, I', rfl, q⟩
theorem or_in {X : Cx} (hu : X.A.units + 65 < cLine) : OpR X (compareOp .In) (rInAll X.K) := op_in_str.or ((op_inD hu).or (op_in_seq.or (op_in_dct hu)))
theorem or_nin {X : Cx} (hu : X.A.units + 65 < cLine) : OpR X (compareOp .NotIn) (rNinAll X.K) := op_notin_str.or ((op_notInD hu).or (op_notIn_seq.or (op_nin_dct hu)))
theorem dct_inv {K : PySem.W.Frag} {H : Hp} {v : V} {kvs : List (D × D)} {k : Int} (r : Rp K H v (.dict kvs)) (ha : (kvs.all fun p => isI p.1) = true) :
    ∃ a o, v = .ref a ∧ DGet H a (.int k) o ∧ o.isSome = kvs.any fun p => eqI k p.1 := by
  generalize e : PyData.dict kvs = z at r
  cases r with
  | scr h =>
    unfold scr at e
    injection e with e
    subst e
    cases ha
  | xtp _ _ _ =>
    unfold xtup at e
    injection e with e
    subst e
    cases ha
  | exc a =>
    unfold excD at e
    injection e with e
    subst e
    cases ha
  | dct h h2 =>
    rename_i a o kv ks
    have h2 : kv.map (·.1) = ks.map Sum.inl := by rw [h2, List.map_map]; rfl
    unfold dks at e
    injection e with e
    refine ⟨a, _, rfl, .inl ⟨kv, Sum.inl k, .inr ⟨o, h⟩, rfl, rfl⟩, ?_⟩
    rw [← valV_any, e, List.any_map]
    have key : ∀ {l : List (Key × V)} {ks : List Int}, l.map (·.1) = ks.map Sum.inl → (l.any fun kv => decide (kv.1 = Sum.inl k)) = ks.any fun j => decide (j = k) := by
      intro l
      induction l with
      | nil => intro ks h; cases ks with
        | nil => rfl
        | cons _ _ => cases h
      | cons p l ih => intro ks h; cases ks with
        | nil => cases h
        | cons j ks =>
          rw [List.map_cons, List.map_cons] at h
          injection h with h1 h2
          rw [List.any_cons, List.any_cons, ih h2, h1]
          congr 1
          by_cases hj : j = k
          · subst hj; simp
          · rw [decide_eq_false hj]; exact decide_eq_false fun q => hj (Sum.inl.inj q)
    exact key h2
  | _ => cases e
section
variable {K : PySem.W.Frag}
theorem od_in : OpD K (rInAll K) (toB inD) := by
  intro H x y a b d Q ra rb h k
  unfold toB inD at h
  split at h
  · cases h
    exact .inl ⟨_, _, ra.str_inv, rb.str_inv, k _ H (Same.refl H) (.bl _)⟩
  · split at h
    · cases h
      rename_i hs
      rw [Bool.and_eq_true] at hs
      exact .inr (.inl ⟨a, _, ra.dp (shaped_lay hs.1), rb.dp (shaped_lay hs.2), hs.1, hs.2, k _ H (Same.refl H) (.bl _)⟩)
    · cases h
  · split at h
    · cases h
      rename_i hs
      rw [Bool.and_eq_true] at hs
      obtain ⟨p, vs, rfl, h1, r1⟩ := rb.tup_inv
      refine .inr (.inr (.inl ⟨p, vs, rfl, .inr (.inl h1), flat_rp ra hs.1, flats_rp r1 hs.2, ?_⟩))
      rw [if_neg Bool.false_ne_true, inV_eq ra hs.1 r1 hs.2]
      exact k _ H (Same.refl H) (.bl _)
    · cases h
  · split at h
    · cases h
      rename_i k' kvs hs
      obtain ⟨p, o, rfl, h1, h2⟩ := dct_inv (k := k') rb hs
      refine .inr (.inr (.inr ⟨p, o, rfl, by rw [ra.int_inv]; exact h1, ?_⟩))
      rw [h2]
      exact k _ H (Same.refl H) (.bl _)
    · cases h
  · cases h
theorem od_nin : OpD K (rNinAll K) (toB ninD) := by
  intro H x y a b d Q ra rb h k
  unfold toB ninD inD at h
  split at h
  · cases h
    exact .inl ⟨_, _, ra.str_inv, rb.str_inv, k _ H (Same.refl H) (.bl _)⟩
  · split at h
    · cases h
      rename_i hs
      rw [Bool.and_eq_true] at hs
      exact .inr (.inl ⟨a, _, ra.dp (shaped_lay hs.1), rb.dp (shaped_lay hs.2), hs.1, hs.2, k _ H (Same.refl H) (.bl _)⟩)
    · cases h
  · split at h
    · cases h
      rename_i hs
      rw [Bool.and_eq_true] at hs
      obtain ⟨p, vs, rfl, h1, r1⟩ := rb.tup_inv
      refine .inr (.inr (.inl ⟨p, vs, rfl, .inr (.inl h1), flat_rp ra hs.1, flats_rp r1 hs.2, ?_⟩))
      rw [if_pos rfl, inV_eq ra hs.1 r1 hs.2]
      exact k _ H (Same.refl H) (.bl _)
    · cases h
  · split at h
    · cases h
      rename_i k' kvs hs
      obtain ⟨p, o, rfl, h1, h2⟩ := dct_inv (k := k') rb hs
      refine .inr (.inr (.inr ⟨p, o, rfl, by rw [ra.int_inv]; exact h1, ?_⟩))
      rw [h2]
      exact k _ H (Same.refl H) (.bl _)
    · cases h
  · cases h
/-! ### lists made by an operator -/
def OpL (K : PySem.W.Frag) (r : R2) (g : D → D → Option (List D)) : Prop := ∀ (H : Hp) (x y : V) (a b : D) (ds : List D) (Q : VK), Rp K H x a → Rp K H y b → g a b = some ds →
  (∀ p vs H', Same H H' → H' p = none → RpA K H' vs ds → Q (.ref p) (upd H' p (.lst vs))) → r x y H Q
@[simp] def b2l (g : D → D → Option (List D)) (f1 f2 : Fn) : Store → Option (List D) := fun ρ => (f1 ρ).bind fun a => (f2 ρ).bind (g a)
@[simp] def catL : D → D → Option (List D)
  | .list x, .list y => if x.length + y.length ≤ big then some (x ++ y) else none
  | _, _ => none
@[simp] def repL : D → D → Option (List D)
  | .list x, .int k => if 0 ≤ k ∧ k ≤ 100000 ∧ x.length * k.toNat ≤ big then some (List.replicate k.toNat x).flatten else none
  | _, _ => none
theorem ol_cat : OpL K rCat catL := by
  intro H x y a b ds Q ra rb h k
  unfold catL at h
  split at h
  · split at h
    · cases h
      rename_i hl
      obtain ⟨p, vs, rfl, h1, r1⟩ := ra.lst_inv
      obtain ⟨q, ws, rfl, h2, r2⟩ := rb.lst_inv
      exact ⟨p, q, vs, ws, rfl, rfl, h1, h2, by rw [r1.length, r2.length]; exact hl, fun c hc => k c _ H (Same.refl H) hc (r1.append r2)⟩
    · cases h
  · cases h
theorem ol_rep : OpL K rRep repL := by
  intro H x y a b ds Q ra rb h k
  unfold repL at h
  split at h
  · split at h
    · cases h
      rename_i xs j hs
      obtain ⟨p, vs, rfl, h1, r1⟩ := ra.lst_inv
      exact ⟨p, j, vs, rfl, rb.int_inv, h1, by omega, by omega, by rw [r1.length]; exact hs.2.2, fun c hc => k c _ H (Same.refl H) hc (r1.rep _)⟩
    · cases h
  · cases h
end
theorem l_op {X : Cx} {a b : Expr} {op : Operator} {r : R2} {g : D → D → Option (List D)} {f1 f2 : Fn} {pos : Pos} (ho : OpR X (binaryOp op) r) (hr : OpL X.K r g) (ha : PE X a (tD X.K f1)) (hb : PE X b (tD X.K f2)) : PE X (.BinOp a op b pos) (tL X.K (b2l g f1 f2)) :=
  (pe_op ho ha hb).imw fun σ H Q ⟨ρ, d, E, hf, k⟩ => by
    unfold b2l at hf
    cases q1 : f1 ρ with
    | none => rw [q1] at hf; cases hf
    | some a =>
      cases q2 : f2 ρ with
      | none => rw [q1, q2] at hf; cases hf
      | some b =>
        rw [q1, q2] at hf
        exact ⟨ρ, a, E, q1, fun v H1 s1 r1 => ⟨ρ, b, E.mono s1, q2, fun w H2 s2 r2 => hr H2 v w a b d Q (r1.mono s2) r2 hf fun p vs H3 s3 n r3 => k p vs H3 ((s1.trans s2).trans s3) n r3⟩⟩
/-! ### list(range(a, b)) -/
theorem call_list_rng {X : Cx} (hc : X.calm = true) : CallR X (.type "list") (fun xs H Q => ∃ p i j, xs = [.ref p] ∧ H p = some (.rng i j) ∧ smI i = true ∧ smI j = true ∧ (j - i).toNat ≤ big ∧
    ∀ l, H l = none → Q (.ref l) (upd H l (.lst ((List.range (j - i).toNat).map fun (k : Nat) => V.int (i + k))))) := by
  intro pins s σ H xs us Q I r h
  obtain ⟨p, i, j, rfl, hp, hi, hj, hn, q⟩ := h
  obtain ⟨u1, rfl, r1⟩ := vals1 r
  cases r1
  obtain ⟨t, u, v, ho⟩ := I.hok p _ hp
  obtain ⟨i1, i2⟩ := smI_ok hi
  obtain ⟨j1, j2⟩ := smI_ok hj
  refine call_list_range (n := (j - i).toNat) (I.ok.hd hc) ho (small_one i1 i2 j1 j2) ?_ (by show (j - i).toNat ≤ 2 ^ 24; exact hn) fun h' tk acc c hk hS ⟨hsz, hit⟩ => ?_
  · rw [rangeSize_one]; split <;> omega
  · have hv : Vals ((List.range (j - i).toNat).map fun (k : Nat) => V.int (i + k)) acc.toList := by
      have gen : ∀ (n : Nat) (l : List Value), l.length = n → (∀ (m : Nat) (v : Value), l[m]? = some v → ∃ t, v = .int (i + (m : Int)) t) → Vals ((List.range n).map fun (k : Nat) => V.int (i + k)) l := by
        intro n
        induction n with
        | zero => intro l hl _; cases l with
          | nil => exact .nil
          | cons _ _ => cases hl
        | succ n ih =>
          intro l hl hm
          obtain ⟨l', x, rfl⟩ : ∃ l' x, l = l' ++ [x] := by
            refine ⟨l.dropLast, l.getLast (by intro z; rw [z] at hl; cases hl), ?_⟩
            exact (List.dropLast_concat_getLast _).symm
          rw [List.length_append, List.length_singleton] at hl
          have hl' : l'.length = n := by omega
          rw [List.range_succ, List.map_append]
          refine (ih l' hl' fun m v hv => hm m v ?_).append ?_
          · rw [List.getElem?_append_left (List.getElem?_eq_some_iff.mp hv).1]; exact hv
          · obtain ⟨t, ht⟩ := hm n x (by rw [List.getElem?_append_right (by omega), hl']; simp)
            exact .cons ⟨t, ht⟩ .nil
      refine gen _ _ (by simpa using hsz) fun m v hv => ?_
      obtain ⟨t, ht⟩ := hit m v (by rw [← Array.getElem?_toList]; exact hv)
      exact ⟨t, by rw [ht, Int.mul_one]⟩
    exact ⟨.ref _, _, I.laid (o := .lst ((List.range (j - i).toNat).map fun (k : Nat) => V.int (i + k))) (t' := tk) hk (Nat.le_refl _) ⟨by rw [List.length_map, List.length_range]; exact hn, acc.toList, c, hv, by simpa using hS⟩, rfl, q _ (I.hok.fresh (Nat.le_refl _))⟩
@[simp] def lrng2 (f : Store → Option (List D)) : Store → Option (List D) := fun ρ => (f ρ).bind fun ds => (rng2D ds).bind fun es => if es.length ≤ big then some es else none
theorem rng_rp {K : PySem.W.Frag} {H : Hp} (i j : Int) : RpA K H ((List.range (j - i).toNat).map fun (k : Nat) => V.int (i + k)) (rng i j) := by
  unfold rng
  generalize List.range (j - i).toNat = l
  induction l with
  | nil => exact .nil
  | cons a l ih => exact .cons (.int _) ih
theorem l_range2 {X : Cx} {a b : Expr} {f : Store → Option (List D)} {p p2 pos pos2 : Pos} (hl : X.mg "list" = none) (hm : X.mg "range" = none) (ha : PA X [a, b] (tA X.K f)) (hc : X.calm = true := by rfl) (hg : Gl X "list" := by rfl) (hg2 : Gl X "range" := by rfl)
    (he : starEach [a, b] X.env = (false, eval a X.env) :: starEach [b] X.env := by rfl) (hpl : (backTo pos2 (starEach [b] X.env)).any (·.1) = false := by rfl)
    (he2 : starEach [.Call (.Name "range" p2) [a, b] [] pos2] X.env = (false, eval (.Call (.Name "range" p2) [a, b] [] pos2) X.env) :: starEach [] X.env := by rfl) (hpl2 : (backTo pos (starEach [] X.env)).any (·.1) = false := by rfl) :
    PE X (.Call (.Name "list" p) [.Call (.Name "range" p2) [a, b] [] pos2] [] pos) (tL X.K (lrng2 f)) :=
  (pe_callTy (call_list_rng hc) hg hl (by decide +kernel) (pa_cons (pe_callTy cr_range2 hg2 hm (by decide +kernel) ha (by decide) (by decide) he hpl) pa_nil he2) (by decide) (by decide) he2 hpl2).imw fun σ H Q ⟨ρ, ds, E, hf, k⟩ => by
    unfold lrng2 at hf
    cases q : f ρ with
    | none => rw [q] at hf; cases hf
    | some as =>
      rw [q] at hf
      simp only [Option.bind_some] at hf
      unfold rng2D at hf
      split at hf
      · rename_i i j
        split at hf
        · rename_i hj
          simp only [Option.bind_some] at hf
          split at hf
          · cases hf
            rename_i hbig
            rw [Bool.and_eq_true] at hj
            refine ⟨ρ, _, E, q, fun vs H1 s1 r1 => ?_⟩
            cases r1 with
            | cons r rr =>
              cases rr with
              | cons r' rr =>
                cases rr
                refine ⟨i, j, by rw [r.int_inv, r'.int_inv], fun c hc => ?_⟩
                refine ⟨c, i, j, rfl, upd_same, hj.1, hj.2, by simpa [rng] using hbig, fun l hl => ?_⟩
                exact k l _ _ (s1.trans (same_upd hc)) hl (rng_rp i j)
          · cases hf
        · cases hf
      · cases hf
/-! ### zip of lists or of tuples -/
@[simp] def zipA : List D → Option (List D)
  | [.list xs, .list ys] => some (zipL xs ys)
  | [.tuple xs, .tuple ys] => some (zipL xs ys)
  | _ => none
@[simp] def izipA (f : Store → Option (List D)) : Store → Option (List D) := fun ρ => (f ρ).bind zipA
theorem itzT_ok {K : PySem.W.Frag} {Hs : Hp} {a b : Addr} {xs ys : List V} {ds es : List D} (h : Rd Hs a (.tup xs)) (r : RpA K Hs xs ds) (h' : Rd Hs b (.tup ys)) (r' : RpA K Hs ys es) : ItOk K (RZ.ItzT K a b) (zipL ds es) Hs := fun i H s => by
  have hq : SqT K H a xs := .inl (h.mono s)
  have hq' : SqT K H b ys := .inl (h'.mono s)
  refine ⟨fun hi => ⟨xs, ys, hq, hq', ?_⟩, fun d hd => ?_⟩
  · have : (zipL ds es).length = min ds.length es.length := by simp [zipL]
    rw [r.length, r'.length, hi, this]
    omega
  · unfold zipL at hd
    rw [List.getElem?_zipWith] at hd
    cases q : ds[i]? with
    | none => rw [q] at hd; simp at hd
    | some c =>
      cases q2 : es[i]? with
      | none => rw [q, q2] at hd; simp at hd
      | some e =>
        rw [q, q2] at hd
        cases hd
        obtain ⟨v, hv, rv⟩ := r.get q
        obtain ⟨u, hu, ru⟩ := r'.get q2
        refine ⟨⟨xs, ys, v, u, hq, hq', hv, hu⟩, fun x H' ⟨T, z, w, e1, e2, e3, e4, e5⟩ => .inr ⟨T, [z, w], _, e2, e1, e3, rfl, .cons ?_ (.one ?_)⟩⟩
        · rw [Option.some.inj ((e4 xs hq).symm.trans hv)]; exact rv
        · rw [Option.some.inj ((e5 ys hq').symm.trans hu)]; exact ru
theorem i_zipA {X : Cx} {a b : Expr} {f : Store → Option (List D)} {p pos tpos : Pos} {elts : List Expr} {kk : Nat} (hm : X.mg "zip" = none) (ha : PA X [a, b] (tA X.K f)) (hg : Gl X "zip" := by rfl)
    (hs : starEach [a, b] X.env = (false, eval a X.env) :: starEach [b] X.env := by rfl) (hs2 : ((backTo pos (starEach [b] X.env)).any fun x => x.fst) = false := by rfl) :
    PI X (.Tuple elts kk tpos) (.Call (.Name "zip" p) [a, b] [] pos) (iD X.K (izipA f)) := (RZ.pi_zipA hg hm ha hs hs2).imw fun σ H R ⟨ρ, ds, E, hf, k⟩ => by
  unfold izipA at hf
  cases q : f ρ with
  | none => rw [q] at hf; cases hf
  | some as =>
    rw [q] at hf
    simp only [Option.bind_some] at hf
    refine ⟨ρ, as, E, q, fun vs H1 s1 r1 => ?_⟩
    unfold zipA at hf
    split at hf
    · cases hf
      cases r1 with
      | cons r rr =>
        cases rr with
        | cons r' rr =>
          cases rr
          obtain ⟨c, xs, rfl, h1, h2⟩ := r.lst_inv
          obtain ⟨d, ys, rfl, h3, h4⟩ := r'.lst_inv
          exact ⟨c, d, xs, ys, rfl, .inl ⟨.of h1, .of h3, k _ H1 s1 (itz_ok h1 h2 h3 h4)⟩⟩
    · cases hf
      cases r1 with
      | cons r rr =>
        cases rr with
        | cons r' rr =>
          cases rr
          obtain ⟨c, xs, rfl, h1, h2⟩ := r.tup_inv
          obtain ⟨d, ys, rfl, h3, h4⟩ := r'.tup_inv
          exact ⟨c, d, xs, ys, rfl, .inr ⟨.inl h1, .inl h3, k _ H1 s1 (itzT_ok h1 h2 h3 h4)⟩⟩
    · cases hf
end Tv

namespace Tv
open PySem PySem.Spec L2
/-! ### a def that is called in itself -/
theorem def_none {P : Program} {w : World} {K : PySem.W.Frag} {mg : Str → Option Value} {base : Heap} {x : Str} {k : Nat} {fa : Addr} {fd : FuncData} {ps : List Str} (hm : mg x = some (.ref fa)) (hk : PySem.W.keepIn K (.ref fa) = true) (hb : Binds K fd ps []) :
    Def P w K mg base x k (fun _ => none) :=
  ⟨fa, fd, ps, ⟨fun _ _ _ _ ⟨_, _, h, _⟩ => h, fun _ _ _ _ _ _ _ _ _ _ _ _ _ ⟨_, _, _, _, h, _⟩ => nomatch h⟩, hm, hk, hb, fun _ _ h => nomatch h⟩
/-! ### xs[a::b] of a list -/
def stepL {α : Type} (ds : List α) (a b : Int) : List α := (sliceRange (PySem.sliceBounds (some a) none (some b) ds.length).1 (PySem.sliceBounds (some a) none (some b) ds.length).2.1 (PySem.sliceBounds (some a) none (some b) ds.length).2.2).filterMap (ds[·]?)
@[simp] def stepF (f fl fs : Fn) : Store → Option (List D) := fun ρ => (f ρ).bind fun d => (fl ρ).bind fun lo => (fs ρ).bind fun st => match d, lo, st with
  | .list ds, .int a, .int b => if b ≠ 0 ∧ ds.length ≤ big then some (stepL ds a b) else none
  | _, _, _ => none
theorem fm_rp {K : PySem.W.Frag} {H : Hp} {vs : List V} {ds : List D} (r : RpA K H vs ds) : ∀ l : List Nat, RpA K H (l.filterMap (vs[·]?)) (l.filterMap (ds[·]?))
  | [] => .nil
  | i :: l => by
    have ih := fm_rp r l
    cases q : ds[i]? with
    | none =>
      have q2 : vs[i]? = none := by
        rw [List.getElem?_eq_none_iff] at q ⊢
        rw [r.length]; exact q
      rw [List.filterMap_cons_none q, List.filterMap_cons_none q2]; exact ih
    | some d =>
      obtain ⟨v, hv, rv⟩ := r.get q
      rw [List.filterMap_cons_some q, List.filterMap_cons_some hv]
      exact .cons rv ih
theorem fm_vals {xs : List V} {us : List Value} (r : Vals xs us) : ∀ l : List Nat, Vals (l.filterMap (xs[·]?)) (l.filterMap (us[·]?))
  | [] => .nil
  | i :: l => by
    have ih := fm_vals r l
    cases q : xs[i]? with
    | none =>
      have q2 : us[i]? = none := by
        rw [List.getElem?_eq_none_iff] at q ⊢
        rw [← r.length]; exact q
      rw [List.filterMap_cons_none q, List.filterMap_cons_none q2]; exact ih
    | some d =>
      obtain ⟨v, hv, rv⟩ := r.get q
      rw [List.filterMap_cons_some q, List.filterMap_cons_some hv]
      exact .cons rv ih
section
variable {X : Cx} {e lo st : Expr}
theorem l_step {p3 pos : Pos} {f fl fs : Fn} (he : PE X e (tD X.K f)) (hl : PE X lo (tD X.K fl)) (hs : PE X st (tD X.K fs)) : PE X (.Subscript e (.Slice (some lo) none (some st) p3) pos) (tL X.K (stepF f fl fs)) := by
  refine ⟨fun pins s σ H Q I ⟨ρ, res, E, hf, kk⟩ => ?_⟩
  unfold stepF at hf
  cases q : f ρ with
  | none => rw [q] at hf; cases hf
  | some d0 =>
    cases ql : fl ρ with
    | none => rw [q, ql] at hf; cases hf
    | some d1 =>
      cases qs : fs ρ with
      | none => rw [q, ql, qs] at hf; cases hf
      | some d2 =>
        rw [q, ql, qs] at hf
        simp only [Option.bind_some] at hf
        split at hf
        · rename_i ds a b
          split at hf
          · rename_i hb
            cases hf
            refine PyProof.Rows.Subscript_ (thn (he.run pins s σ H (fun v H1 => Same H H1 ∧ Rp X.K H1 v (.list ds)) I ⟨ρ, _, E, q, fun v H1 s1 r1 => ⟨s1, r1⟩⟩) fun v s1 ⟨x, H1, I1, r1, sm1, rp1⟩ => ?_)
            obtain ⟨l, xs, rfl, hx, rx⟩ := rp1.lst_inv
            cases r1
            refine wpAny_Slice (thn ((po_some hl).run pins s1 σ H1 (fun o H2 => o = some a ∧ Same H1 H2) I1 ⟨ρ, _, E.mono sm1, ql, fun v H' s' r' => ⟨a, r'.int_inv, rfl, s'⟩⟩) fun vl s2 ⟨ol, H2, I2, pl, el, sm2⟩ => ?_)
            subst el
            refine thn (po_none.run pins s2 σ H2 (fun o H3 => o = none ∧ H3 = H2) I2 ⟨rfl, rfl⟩) fun vu s3 ⟨u, H3, I3, pu, eu, e3⟩ => ?_
            subst eu e3
            refine thn ((po_some hs).run pins s3 σ H3 (fun o H4 => o = some b ∧ Same H3 H4) I3 ⟨ρ, _, (E.mono sm1).mono sm2, qs, fun v H' s' r' => ⟨b, r'.int_inv, rfl, s'⟩⟩) fun vs s4 ⟨o, H4, I4, ps, eo, sm4⟩ => ?_
            subst eo
            have I5 : L2.Inv X pins σ H4 { s4 with heap := s4.heap.push { cls := .type "slice", data := .fields #[vl, vu, vs] } } := I4.kept (t' := s4.toks) fun b ob z => Heap.get?_push_of_some _ z
            have hx4 : H4 l = some (.lst xs) := sm4 _ _ (sm2 _ _ hx)
            obtain ⟨its, r, ⟨ob, nb, hob, hcl, hdn, hda⟩, hz⟩ := I5.list (.of hx4)
            have ht : ({ s4 with heap := s4.heap.push { cls := .type "slice", data := .fields #[vl, vu, vs] } } : Shared).heap.IsList l its.toArray := ⟨ob, hob, hcl, nb, hda⟩
            show wpAny (model X.prog X.w) X.A (PyProof.Rows.subscriptTail e (.Slice (some lo) none (some st) p3) (.ref l) (.ref s4.heap.objs.size)) (EP X pins σ Q) X.xe { s4 with heap := s4.heap.push { cls := .type "slice", data := .fields #[vl, vu, vs] } }
            refine PyProof.Rows.tail_any (ops := [.ref l, .ref s4.heap.objs.size]) ht.typeIs (PySem.list_getitem_lookup) ?_ (by with_unfolding_all rfl)
            have hlen := r.length
            refine PySem.wpAny_getItem_list_slice ht (Heap.IsSliceOf.new _ vl vu vs) pl pu ps (by simpa using hb.1) ?_ (by rw [List.size_toArray, ← r.length]; exact hz)
            have hle : (stepL xs a b).length ≤ xs.length := by
              have := PySem.slicePick_size_le its.toArray (some a) none (some b)
              have e2 := (fm_vals r (sliceRange (PySem.sliceBounds (some a) none (some b) its.length).1 (PySem.sliceBounds (some a) none (some b) its.length).2.1 (PySem.sliceBounds (some a) none (some b) its.length).2.2)).length
              unfold PySem.slicePick at this
              simp only [List.size_toArray, List.getElem?_toArray] at this
              unfold stepL
              rw [hlen, e2]
              omega
            refine ⟨.ref _, _, I5.laid (t' := s4.toks) (o := .lst (stepL xs a b)) (fun b ob z => Heap.get?_push_of_some _ z) (Nat.le_refl _) ?_, rfl, ?_⟩
            · refine ⟨Nat.le_trans hle hz, _, 0, ?_, Heap.get?_push_size _ rfl⟩
              have := fm_vals r (sliceRange (PySem.sliceBounds (some a) none (some b) its.length).1 (PySem.sliceBounds (some a) none (some b) its.length).2.1 (PySem.sliceBounds (some a) none (some b) its.length).2.2)
              unfold stepL
              rw [hlen]
              simpa using this
            · have hn := I5.hok.fresh (Nat.le_refl _)
              have hd := rx.length
              refine kk _ _ _ ((sm1.trans sm2).trans sm4) hn ?_
              have := fm_rp (rx.mono (sm2.trans sm4)) (sliceRange (PySem.sliceBounds (some a) none (some b) ds.length).1 (PySem.sliceBounds (some a) none (some b) ds.length).2.1 (PySem.sliceBounds (some a) none (some b) ds.length).2.2)
              unfold stepL
              rw [hd]
              exact this
          · cases hf
        · cases hf
end
end Tv

namespace Tv
open PySem PySem.Spec L2
/-! ### methods of built-in types -/
@[simp] def mf (g : D → List D → Option D) (f : Fn) (fa : Store → Option (List D)) : Fn := fun ρ => (f ρ).bind fun a => (fa ρ).bind (g a)
@[simp] def mfL (g : D → List D → Option (List D)) (f : Fn) (fa : Store → Option (List D)) : Store → Option (List D) := fun ρ => (f ρ).bind fun a => (fa ρ).bind (g a)
def MthD (K : PySem.W.Frag) (r : V → List V → Hp → VK → Prop) (g : D → List D → Option D) : Prop := ∀ (H : Hp) (x : V) (xs : List V) (a : D) (ds : List D) (d : D) (Q : VK), Rp K H x a → RpA K H xs ds → g a ds = some d →
  (∀ v H', Same H H' → Rp K H' v d → Q v H') → r x xs H Q
def MthL (K : PySem.W.Frag) (r : V → List V → Hp → VK → Prop) (g : D → List D → Option (List D)) : Prop := ∀ (H : Hp) (x : V) (xs : List V) (a : D) (ds es : List D) (Q : VK), Rp K H x a → RpA K H xs ds → g a ds = some es →
  (∀ p vs H', Same H H' → H' p = none → RpA K H' vs es → Q (.ref p) (upd H' p (.lst vs))) → r x xs H Q
section
variable {X : Cx} {o e : Expr} {es : List Expr} {name : Str} {apos cpos : Pos} {T id : String} {r : V → List V → Hp → VK → Prop}
theorem e_meth {g : D → List D → Option D} {f : Fn} {fa : Store → Option (List D)} (pa : PlainAttrs T) (slot : Slot T name id) (hty : typeOf (.builtin id) = pure (.type "method_descriptor")) (hm : MtR X id r) (hd : MthD X.K r g)
    (ty : ∀ (H : Hp) (x : V) (a : D) (ds : List D) (d : D), Rp X.K H x a → g a ds = some d → tyV X.K T x H) (ho : PE X o (tD X.K f)) (ha : PA X (e :: es) (tA X.K fa))
    (hbase : attributeBase o name X.env (eval o X.env) = eval o X.env := by rfl)
    (hfew : ((backTo cpos (starEach (e :: es) X.env)).all (fun x => !x.1) && (backToKw cpos (keywordEach [] X.env)).all (fun x => x.1.isSome)
      && decide ((e :: es).length + ([] : List Keyword).length + (if ([] : List Keyword).isEmpty then 0 else 1) < 30)) = true := by rfl)
    (hline : (apos.endLine == cpos.line) = true := by rfl) (hs : starEach (e :: es) X.env = (false, eval e X.env) :: starEach es X.env := by rfl) (hplain : (backTo cpos (starEach es X.env)).any (·.1) = false := by rfl) :
    PE X (.Call (.Attribute o name apos) (e :: es) [] cpos) (tD X.K (mf g f fa)) :=
  (pe_bm pa slot hty hm ho ha hbase hfew hline hs hplain).imw fun σ H Q ⟨ρ, d, E, hf, k⟩ => by
    unfold mf at hf
    cases q : f ρ with
    | none => rw [q] at hf; cases hf
    | some a =>
      cases q2 : fa ρ with
      | none => rw [q, q2] at hf; cases hf
      | some ds =>
        rw [q, q2] at hf
        exact ⟨ρ, a, E, q, fun v H1 s1 r1 => ⟨ty _ _ _ _ _ r1 hf, ρ, ds, E.mono s1, q2, fun vs H2 s2 r2 => hd H2 v vs a ds d Q (r1.mono s2) r2 hf fun v H' s => k v H' ((s1.trans s2).trans s)⟩⟩
theorem l_meth {g : D → List D → Option (List D)} {f : Fn} {fa : Store → Option (List D)} (pa : PlainAttrs T) (slot : Slot T name id) (hty : typeOf (.builtin id) = pure (.type "method_descriptor")) (hm : MtR X id r) (hd : MthL X.K r g)
    (ty : ∀ (H : Hp) (x : V) (a : D) (ds : List D) (d : List D), Rp X.K H x a → g a ds = some d → tyV X.K T x H) (ho : PE X o (tD X.K f)) (ha : PA X (e :: es) (tA X.K fa))
    (hbase : attributeBase o name X.env (eval o X.env) = eval o X.env := by rfl)
    (hfew : ((backTo cpos (starEach (e :: es) X.env)).all (fun x => !x.1) && (backToKw cpos (keywordEach [] X.env)).all (fun x => x.1.isSome)
      && decide ((e :: es).length + ([] : List Keyword).length + (if ([] : List Keyword).isEmpty then 0 else 1) < 30)) = true := by rfl)
    (hline : (apos.endLine == cpos.line) = true := by rfl) (hs : starEach (e :: es) X.env = (false, eval e X.env) :: starEach es X.env := by rfl) (hplain : (backTo cpos (starEach es X.env)).any (·.1) = false := by rfl) :
    PE X (.Call (.Attribute o name apos) (e :: es) [] cpos) (tL X.K (mfL g f fa)) :=
  (pe_bm pa slot hty hm ho ha hbase hfew hline hs hplain).imw fun σ H Q ⟨ρ, d, E, hf, k⟩ => by
    unfold mfL at hf
    cases q : f ρ with
    | none => rw [q] at hf; cases hf
    | some a =>
      cases q2 : fa ρ with
      | none => rw [q, q2] at hf; cases hf
      | some ds =>
        rw [q, q2] at hf
        exact ⟨ρ, a, E, q, fun v H1 s1 r1 => ⟨ty _ _ _ _ _ r1 hf, ρ, ds, E.mono s1, q2, fun vs H2 s2 r2 => hd H2 v vs a ds d Q (r1.mono s2) r2 hf fun p vs H' s n => k p vs H' ((s1.trans s2).trans s) n⟩⟩
end
/-! list.index -/
def idxL (ds : List D) (d : D) : Option Nat := ds.findIdx? fun z => PyData.eqv z d
@[simp] def idxD : D → List D → Option D
  | .list ds, [d] => if (SeqAt.shaped (.list ds) && SeqAt.shaped d) = true then (idxL ds d).map fun j => .int (j : Int) else none
  | _, _ => none
theorem idx_find {ds : List D} {d : D} {j : Nat} (h : idxL ds d = some j) : ∃ z, ds[j]? = some z ∧ PyData.eqv z d = true ∧ ∀ (m : Nat) (z' : D), m < j → ds[m]? = some z' → PyData.eqv z' d = false := by
  unfold idxL at h
  rw [List.findIdx?_eq_some_iff_getElem] at h
  obtain ⟨hl, h1, h2⟩ := h
  refine ⟨ds[j], List.getElem?_eq_getElem hl, h1, fun m z' hm hz => ?_⟩
  have := h2 m hm
  obtain ⟨hml, e⟩ := List.getElem?_eq_some_iff.mp hz
  rw [← e]
  simpa using this
theorem md_idx {K : PySem.W.Frag} : MthD K (rIndexD K) idxD := by
  intro H x xs a ds d Q r rs h k
  unfold idxD at h
  split at h
  · rename_i es d0
    split at h
    · rename_i hs
      rw [Bool.and_eq_true] at hs
      cases q : idxL es d0 with
      | none => rw [q] at h; cases h
      | some j =>
        rw [q] at h
        cases h
        obtain ⟨z, h1, h2, h3⟩ := idx_find q
        cases rs with
        | cons r0 rr =>
          cases rr
          obtain ⟨p, vs, rfl, hp, rv⟩ := r.lst_inv
          exact ⟨p, _, d0, es, j, z, rfl, rfl, (r.dp (SeqAt.canLay_of_shaped hs.1)), (r0.dp (SeqAt.canLay_of_shaped hs.2)), hs.1, hs.2, h1, h2, h3, k _ H (Same.refl H) (.int _)⟩
    · cases h
  · cases h
theorem ty_idx {K : PySem.W.Frag} (H : Hp) (x : V) (a : D) (ds : List D) (d : D) (r : Rp K H x a) (h : idxD a ds = some d) : tyV K "list" x H := by
  unfold idxD at h
  split at h
  · obtain ⟨p, vs, rfl, hp, rv⟩ := r.lst_inv
    exact .inl ⟨rfl, vs, .of hp⟩
  · cases h
section
variable {X : Cx} {o e : Expr} {apos cpos : Pos}
theorem e_m_index {f : Fn} {fa : Store → Option (List D)} (hu : X.A.units + 65 < cLine) (ho : PE X o (tD X.K f)) (ha : PA X [e] (tA X.K fa))
    (hbase : attributeBase o "index" X.env (eval o X.env) = eval o X.env := by rfl)
    (hfew : ((backTo cpos (starEach [e] X.env)).all (fun x => !x.1) && (backToKw cpos (keywordEach [] X.env)).all (fun x => x.1.isSome)
      && decide ([e].length + ([] : List Keyword).length + (if ([] : List Keyword).isEmpty then 0 else 1) < 30)) = true := by rfl)
    (hline : (apos.endLine == cpos.line) = true := by rfl) (hs : starEach [e] X.env = (false, eval e X.env) :: starEach [] X.env := by rfl) (hplain : (backTo cpos (starEach [] X.env)).any (·.1) = false := by rfl) :
    PE X (.Call (.Attribute o "index" apos) [e] [] cpos) (tD X.K (mf idxD f fa)) :=
  e_meth PySem.F.plainAttrs_list PySem.F.slot_list_index rfl (mt_indexD hu) md_idx ty_idx ho ha hbase hfew hline hs hplain
end
end Tv

namespace Tv
open PySem PySem.Spec L2
section
variable {X : Cx} {W : WXT} {pos : Pos}
/-! a, b = x, [..]: over a tuple (the names are no plain locals) -/
theorem s_tupO {i j : Nat} {x y : Str} {a b : Expr} {g1 : FX} {f2 : Store → Option (List D)} {px py pt : Pos} {kt k2 : Nat} {pt2 : Pos} (ha : PX X a g1) (hb : PE X b (tL X.K f2))
    (gi : PG X (.Name x px) (gT X.K (.nm i))) (gj : PG X (.Name y py) (gT X.K (.nm j))) (hij : i ≠ j := by decide) (hc : X.calm = true := by rfl)
    (hs : swapsWithSole [.Tuple [.Name x px, .Name y py] kt pt] (.Tuple [a, b] k2 pt2) pos.line X.env = pure false := by rfl)
    (hw : swappedStores [.Tuple [.Name x px, .Name y py] kt pt] (.Tuple [a, b] k2 pt2) X.env = pure none := by rfl)
    (h1 : (assignEach [.Tuple [.Name x px, .Name y py] kt pt] X.env).map (·.2) = [assign (.Tuple [.Name x px, .Name y py] kt pt) X.env] := by rfl)
    (a1 : (assignEach [.Name x px, .Name y py] X.env).map (·.2) = assign (.Name x px) X.env :: (assignEach [.Name y py] X.env).map (·.2) := by rfl) (a2 : (assignEach [.Name y py] X.env).map (·.2) = assign (.Name y py) X.env :: (assignEach [] X.env).map (·.2) := by rfl)
    (hn : (assignEach [.Name x px, .Name y py] X.env).length = [i, j].length := by rfl) (hst : (assignEach [.Name x px, .Name y py] X.env).findIdx? (·.1) = none := by rfl)
    (s1 : starEach [a, b] X.env = (false, eval a X.env) :: starEach [b] X.env := by rfl) (s2 : starEach [b] X.env = (false, eval b X.env) :: starEach [] X.env := by rfl) :
    PS X (.Assign [.Tuple [.Name x px, .Name y py] kt pt] (.Tuple [a, b] k2 pt2) pos) (tS X.K W (parO i j g1 f2)) := by
  obtain ⟨t1, ht1, u1⟩ := ha
  refine (ps_asg (pe_tup (pa_cons ht1 (pa_cons (fr_e hb) pa_nil s2) s1)) (pg_tup hc (gs_cons gi (gs_cons gj gs_nil a2) a1) hn hst) hs hw h1).imw fun D σ H ⟨Hb, ρ, H0, L, E, h⟩ => ?_
  unfold parO at h
  cases q1 : g1 ρ with
  | none => rw [q1] at h; exact h.elim
  | some p1 =>
    obtain ⟨d1, ρ1⟩ := p1
    rw [q1] at h
    simp only at h
    cases q2 : f2 ρ1 with
    | none => rw [q2] at h; exact h.elim
    | some ds =>
      rw [q2] at h
      simp only at h
      split at h
      · rename_i hjl
        refine u1 Hb ρ σ H H0 L d1 ρ1 _ E q1 fun v H1 H1' L1 E1 sm1 r1 => use_l E1 q2 fun p vs H2 H2' E2 sm2 n n' r2 => ⟨by show 2 ≤ sizeLine; rw [sizeLine_eq]; omega, fun T hT => ?_⟩
        have hTp : T ≠ p := fun e => by rw [e, upd_same] at hT; cases hT
        rw [upd_ne hTp] at hT
        have E3 := E2.newTup (o := .tup [v, .ref p]) hT
        have hT' : H2' T = none := E2.frm.none hT
        refine ⟨T, [v, .ref p], rfl, .of upd_same, rfl, _, _, rfl, _, _, rfl, rfl, ?_⟩
        rw [upd_comm (Ne.symm hTp)]
        obtain ⟨H3, L3, sm3, E4⟩ := E3.setOwn j hjl (by rw [upd_ne (Ne.symm hTp)]; exact n) (by rw [upd_ne (Ne.symm hTp)]; exact n') (r2.mono (same_upd hT'))
        obtain ⟨H4, L4, sm4, E5⟩ := E4.setVal i (((r1.mono sm2).mono (same_upd hT')).mono sm3)
        rw [List.set_comm _ _ (Ne.symm hij), List.set_comm _ _ (Ne.symm hij)] at E5
        exact h _ _ H4 L4 E5
      · exact h.elim
end
/-- turns enough for each while of these texts -/
@[irreducible] def fuelW : Nat := 1000000
theorem fuelW_eq : fuelW = 1000000 := by unfold fuelW; rfl
end Tv

namespace Tv
open PySem PySem.Spec L2
/-! ### constants of the module, the same def by another name -/
def Cst (K : PySem.W.Frag) (mg : Str → Option Value) (x : Str) (d : D) : Prop := ∃ v u, mg x = some u ∧ RelV v u ∧ ∀ H, Rp K H v d
theorem cst_int {K : PySem.W.Frag} {mg : Str → Option Value} {x : Str} {i : Int} {t : Tok} (h : mg x = some (.int i t)) : Cst K mg x (.int i) := ⟨.int i, _, h, ⟨t, rfl⟩, fun _ => .int i⟩
theorem cst_str {K : PySem.W.Frag} {mg : Str → Option Value} {x : Str} {i : Str} {t : Tok} (h : mg x = some (.str i t)) : Cst K mg x (.str i) := ⟨.str i, _, h, ⟨t, rfl⟩, fun _ => .str i⟩
theorem e_cst {X : Cx} {x : Str} {d : D} {pos : Pos} (c : Cst X.K X.mg x d) (hg : Gl X x := by rfl) (hd : (x == ("__debug__" : Str)) = false := by decide) : PE X (.Name x pos) (tD X.K (cn d)) := by
  obtain ⟨v, u, h, r, rp⟩ := c
  exact e_glob r rp h hg hd
theorem def_alias {P : Program} {w : World} {K : PySem.W.Frag} {mg : Str → Option Value} {base : Heap} {x y : Str} {k : Nat} {fn : List D → Option D} (G : Def P w K mg base x k fn) (e : mg y = mg x) : Def P w K mg base y k fn := by
  obtain ⟨fa, fd, ps, F, hm, r⟩ := G
  exact ⟨fa, fd, ps, F, e.trans hm, r⟩
/-! ### text.upper() -/
@[simp] def uprD : D → Option D
  | .str a => if a.length ≤ 5592405 then some (.str (Txt.upper a)) else none
  | _ => none
@[simp] def uprF (f : Fn) : Fn := fun ρ => (f ρ).bind uprD
section
variable {X : Cx} {o : Expr} {apos pos : Pos}
theorem e_upper {f : Fn} (ho : PE X o (tD X.K f)) (hbase : attributeBase o "upper" X.env (eval o X.env) = eval o X.env := by rfl) (hline : (apos.endLine == pos.line) = true := by rfl) :
    PE X (.Call (.Attribute o "upper" apos) [] [] pos) (tD X.K (uprF f)) := (pe_upper ho hbase hline).imw fun σ H Q ⟨ρ, d, E, hf, k⟩ => by
  unfold uprF at hf
  cases q : f ρ with
  | none => rw [q] at hf; cases hf
  | some a =>
    rw [q] at hf
    simp only [Option.bind_some] at hf
    unfold uprD at hf
    split at hf
    · rename_i s
      split at hf
      · rename_i hl
        cases hf
        refine ⟨ρ, _, E, q, fun v H1 s1 r1 => ?_⟩
        have e := r1.str_inv
        subst e
        exact ⟨⟨s, rfl⟩, s, rfl, rfl, hl, k _ H1 s1 (.str _)⟩
      · cases hf
    · cases hf
end
end Tv

namespace Tv
open PySem PySem.Spec L2
/-! ### raise that is never reached, a try that nothing leaves -/
section
variable {X : Cx} {W W' : WXT} {pos : Pos}
theorem s_raise_never {e : Expr} : PS X (.Raise (some e) none pos) (tS X.K W (fun _ => .stuck)) := ⟨fun pins s σ H D I ⟨_, _, _, _, _, h⟩ => h.elim⟩
theorem s_try_thru {body : List Stmt} {h₀ : ExceptHandler} {hs : List ExceptHandler} {g : Fs} (hb : PSs X.nox body (tS X.K W g)) : PS X (.Try body (h₀ :: hs) [] [] pos) (tS X.K W g) := ps_try_thru0 hb
end
/-! ### methods of texts -/
def strsOf : List D → Option (List Str)
  | [] => some []
  | .str x :: ds => (strsOf ds).map (x :: ·)
  | _ => none
theorem strsOf_map : ∀ {ds : List D} {ys : List Str}, strsOf ds = some ys → ds = ys.map .str
  | [], _, h => by cases h; rfl
  | .str b :: ds, bs, h => by
    unfold strsOf at h
    cases q : strsOf ds with
    | none => rw [q] at h; cases h
    | some cs => rw [q] at h; cases h; rw [strsOf_map q]; rfl
  | .none :: _, _, h => by cases h
  | .int _ :: _, _, h => by cases h
  | .bool _ :: _, _, h => by cases h
  | .list _ :: _, _, h => by cases h
  | .tuple _ :: _, _, h => by cases h
  | .dict _ :: _, _, h => by cases h
@[simp] theorem strsOf_mk : ∀ ys : List Str, strsOf (ys.map .str) = some ys
  | [] => rfl
  | y :: ys => by
    show (strsOf (ys.map .str)).map (y :: ·) = _
    rw [strsOf_mk ys]; rfl
@[simp] def joinD : D → List D → Option D
  | .str a, [.list ds] => (strsOf ds).bind fun ys => if (ys.map (·.length)).sum + ys.length * a.length ≤ big then some (.str (Txt.join a ys)) else none
  | _, _ => none
@[simp] def splitD : D → List D → Option (List D)
  | .str a, [.str b] => if b.length ≠ 0 ∧ a.length + 2 ≤ big then some ((Txt.split a b).map .str) else none
  | _, _ => none
@[simp] def countD : D → List D → Option D
  | .str a, [.str b] => some (.int (Txt.count a b))
  | _, _ => none
@[simp] def sidxD : D → List D → Option D
  | .str a, [.str b] => (match Builtin.Str.occurrences a b 0 a.length 1 with
    | i :: _ => some (.int (i : Nat))
    | [] => none)
  | _, _ => none
section
variable {X : Cx} {K : PySem.W.Frag}
theorem md_join : MthD X.K (fun x xs H Q => ∃ a p, ∃ ys : List Str, x = .str a ∧ xs = [.ref p] ∧ (SqL X.K H p (ys.map V.str) ∨ SqT X.K H p (ys.map V.str)) ∧
    (ys.map (·.length)).sum + ys.length * a.length ≤ 16777216 ∧ Q (.str (Txt.join a ys)) H) joinD := by
  intro H x xs a ds d Q r rs h k
  unfold joinD at h
  split at h
  · rename_i a es
    cases q : strsOf es with
    | none => rw [q] at h; cases h
    | some ys =>
      rw [q] at h
      simp only [Option.bind_some] at h
      split at h
      · rename_i hl
        cases h
        have e := strsOf_map q
        subst e
        cases rs with
        | cons r1 rr =>
          cases rr
          obtain ⟨p, vs, rfl, hp, rv⟩ := r1.lst_inv
          have ev := rv.strs
          subst ev
          exact ⟨a, p, ys, r.str_inv, rfl, .inl (.of hp), hl, k _ H (Same.refl H) (.str _)⟩
      · cases h
  · cases h
theorem ml_split : MthL X.K (fun x xs H Q => ∃ a b, x = .str a ∧ xs = [.str b] ∧ (b.length == 0) = false ∧ a.length + 2 ≤ sizeLine ∧ rNewStrs (Txt.split a b) H Q) splitD := by
  intro H x xs a ds es Q r rs h k
  unfold splitD at h
  split at h
  · split at h
    · rename_i a b hl
      cases h
      cases rs with
      | cons r1 rr =>
        cases rr
        exact ⟨a, b, r.str_inv, by rw [r1.str_inv], by rw [beq_eq_false_iff_ne]; exact hl.1, hl.2, fun p hp => k p _ H (Same.refl H) hp (RpA.of_strs _)⟩
    · cases h
  · cases h
theorem md_count : MthD X.K (fun x xs H Q => ∃ a b, x = .str a ∧ xs = [.str b] ∧ Q (.int (Txt.count a b)) H) countD := by
  intro H x xs a ds d Q r rs h k
  unfold countD at h
  split at h
  · rename_i a b
    cases h
    cases rs with
    | cons r1 rr =>
      cases rr
      exact ⟨a, b, r.str_inv, by rw [r1.str_inv], k _ H (Same.refl H) (.int _)⟩
  · cases h
theorem md_sidx : MthD X.K (fun x xs H Q => ∃ a b i rest, x = .str a ∧ xs = [.str b] ∧ Builtin.Str.occurrences a b 0 a.length 1 = i :: rest ∧ Q (.int (i : Nat)) H) sidxD := by
  intro H x xs a ds d Q r rs h k
  unfold sidxD at h
  split at h
  · rename_i a b
    split at h
    · rename_i i rest q
      cases h
      cases rs with
      | cons r1 rr =>
        cases rr
        exact ⟨a, b, i, rest, r.str_inv, by rw [r1.str_inv], q, k _ H (Same.refl H) (.int _)⟩
    · cases h
  · cases h
theorem ty_str {g : D → List D → Option D} (hg : ∀ a ds d, g a ds = some d → ∃ x, a = .str x) (H : Hp) (x : V) (a : D) (ds : List D) (d : D) (r : Rp K H x a) (h : g a ds = some d) : tyV K "str" x H := by
  obtain ⟨z, rfl⟩ := hg a ds d h
  rw [r.str_inv]; rfl
theorem ty_strL {g : D → List D → Option (List D)} (hg : ∀ a ds d, g a ds = some d → ∃ x, a = .str x) (H : Hp) (x : V) (a : D) (ds : List D) (d : List D) (r : Rp K H x a) (h : g a ds = some d) : tyV K "str" x H := by
  obtain ⟨z, rfl⟩ := hg a ds d h
  rw [r.str_inv]; rfl
variable {o e : Expr} {apos cpos : Pos}
theorem e_m_join {f : Fn} {fa : Store → Option (List D)} (ho : PE X o (tD X.K f)) (ha : PA X [e] (tA X.K fa))
    (hbase : attributeBase o "join" X.env (eval o X.env) = eval o X.env := by rfl)
    (hfew : ((backTo cpos (starEach [e] X.env)).all (fun x => !x.1) && (backToKw cpos (keywordEach [] X.env)).all (fun x => x.1.isSome)
      && decide ([e].length + ([] : List Keyword).length + (if ([] : List Keyword).isEmpty then 0 else 1) < 30)) = true := by rfl)
    (hline : (apos.endLine == cpos.line) = true := by rfl) (hs : starEach [e] X.env = (false, eval e X.env) :: starEach [] X.env := by rfl) (hplain : (backTo cpos (starEach [] X.env)).any (·.1) = false := by rfl) :
    PE X (.Call (.Attribute o "join" apos) [e] [] cpos) (tD X.K (mf joinD f fa)) :=
  e_meth PySem.F.plainAttrs_str PySem.F.slot_str_join PySem.F.type_str_join mt_join md_join (ty_str fun a ds d h => by unfold joinD at h; split at h <;> first | exact ⟨_, rfl⟩ | cases h) ho ha hbase hfew hline hs hplain
theorem l_m_split {f : Fn} {fa : Store → Option (List D)} (ho : PE X o (tD X.K f)) (ha : PA X [e] (tA X.K fa))
    (hbase : attributeBase o "split" X.env (eval o X.env) = eval o X.env := by rfl)
    (hfew : ((backTo cpos (starEach [e] X.env)).all (fun x => !x.1) && (backToKw cpos (keywordEach [] X.env)).all (fun x => x.1.isSome)
      && decide ([e].length + ([] : List Keyword).length + (if ([] : List Keyword).isEmpty then 0 else 1) < 30)) = true := by rfl)
    (hline : (apos.endLine == cpos.line) = true := by rfl) (hs : starEach [e] X.env = (false, eval e X.env) :: starEach [] X.env := by rfl) (hplain : (backTo cpos (starEach [] X.env)).any (·.1) = false := by rfl) :
    PE X (.Call (.Attribute o "split" apos) [e] [] cpos) (tL X.K (mfL splitD f fa)) :=
  l_meth PySem.F.plainAttrs_str PySem.F.slot_str_split PySem.F.type_str_split mt_split ml_split (ty_strL fun a ds d h => by unfold splitD at h; split at h <;> first | exact ⟨_, rfl⟩ | cases h) ho ha hbase hfew hline hs hplain
theorem e_m_count {f : Fn} {fa : Store → Option (List D)} (ho : PE X o (tD X.K f)) (ha : PA X [e] (tA X.K fa))
    (hbase : attributeBase o "count" X.env (eval o X.env) = eval o X.env := by rfl)
    (hfew : ((backTo cpos (starEach [e] X.env)).all (fun x => !x.1) && (backToKw cpos (keywordEach [] X.env)).all (fun x => x.1.isSome)
      && decide ([e].length + ([] : List Keyword).length + (if ([] : List Keyword).isEmpty then 0 else 1) < 30)) = true := by rfl)
    (hline : (apos.endLine == cpos.line) = true := by rfl) (hs : starEach [e] X.env = (false, eval e X.env) :: starEach [] X.env := by rfl) (hplain : (backTo cpos (starEach [] X.env)).any (·.1) = false := by rfl) :
    PE X (.Call (.Attribute o "count" apos) [e] [] cpos) (tD X.K (mf countD f fa)) :=
  e_meth PySem.F.plainAttrs_str PySem.F.slot_str_count PySem.F.type_str_count mt_count md_count (ty_str fun a ds d h => by unfold countD at h; split at h <;> first | exact ⟨_, rfl⟩ | cases h) ho ha hbase hfew hline hs hplain
theorem e_m_sindex {f : Fn} {fa : Store → Option (List D)} (ho : PE X o (tD X.K f)) (ha : PA X [e] (tA X.K fa))
    (hbase : attributeBase o "index" X.env (eval o X.env) = eval o X.env := by rfl)
    (hfew : ((backTo cpos (starEach [e] X.env)).all (fun x => !x.1) && (backToKw cpos (keywordEach [] X.env)).all (fun x => x.1.isSome)
      && decide ([e].length + ([] : List Keyword).length + (if ([] : List Keyword).isEmpty then 0 else 1) < 30)) = true := by rfl)
    (hline : (apos.endLine == cpos.line) = true := by rfl) (hs : starEach [e] X.env = (false, eval e X.env) :: starEach [] X.env := by rfl) (hplain : (backTo cpos (starEach [] X.env)).any (·.1) = false := by rfl) :
    PE X (.Call (.Attribute o "index" apos) [e] [] cpos) (tD X.K (mf sidxD f fa)) :=
  e_meth PySem.F.plainAttrs_str PySem.F.slot_str_index PySem.F.type_str_index mt_sindex md_sidx (ty_str fun a ds d h => by unfold sidxD at h; split at h <;> first | exact ⟨_, rfl⟩ | cases h) ho ha hbase hfew hline hs hplain
end
end Tv

namespace Tv
open PySem PySem.Spec L2
/-! ### instances of a class with one attribute: read -/
structure SvC (K : PySem.W.Frag) (C : Addr) : Prop where
  cl : Cls K C
  na : NoAttr K C "strikes"
@[simp] def fldF (C : Addr) (i : Nat) : Fn := fun ρ => match ρ[i]? with
  | some (.svF C' d) => if C' = C then some d else none
  | _ => none
/-- nothing of the store's kind .val, but instances -/
theorem ev_start2 {K : PySem.W.Frag} {H : Hp} {vs : List V} {sls : List Sl} (N : List Str) (hl : sls.length = vs.length) (h : ∀ (i : Nat) (s : Sl), sls[i]? = some s → ∃ v : V, vs[i]? = some v ∧ SlOk K H H s (some v) []) :
    Ev K H (sls ++ List.replicate (N.length - sls.length) .un) (L2.start N vs) H H (fun _ => []) := by
  refine ⟨Same.refl H, by simp [L2.start, hl], fun i s hs => ?_, fun _ _ => rfl, fun _ _ h => (nomatch h), fun _ _ _ h _ => (nomatch h), fun _ _ => rfl⟩
  by_cases hi : i < sls.length
  · rw [List.getElem?_append_left hi] at hs
    obtain ⟨v, hv, ok⟩ := h i s hs
    refine ⟨some v, ?_, ok⟩
    unfold L2.start
    rw [List.getElem?_append_left (by simpa [← hl] using hi), List.getElem?_map, hv]
    rfl
  · rw [List.getElem?_append_right (by omega)] at hs
    obtain ⟨hj, e⟩ := List.getElem?_eq_some_iff.mp hs
    rw [List.getElem_replicate] at e
    subst e
    rw [List.length_replicate] at hj
    refine ⟨none, ?_, rfl⟩
    unfold L2.start
    rw [List.getElem?_append_right (by simpa [← hl] using hi), List.getElem?_replicate]
    simp only [List.length_map]
    rw [if_pos (by rw [← hl]; omega)]
theorem ev_startR {K : PySem.W.Frag} {H : Hp} {x : V} {vs : List V} {C : Addr} {d : D} {ds : List D} (N : List Str) (r0 : SvAt K H C d x) (r : RpA K H vs ds) :
    Ev K H (.svF C d :: ds.map Sl.val ++ List.replicate (N.length - (ds.length + 1)) .un) (L2.start N (x :: vs)) H H (fun _ => []) := by
  have := ev_start2 (K := K) (H := H) (vs := x :: vs) (sls := .svF C d :: ds.map Sl.val) N (by simp [r.length]) fun i s hs => by
    cases i with
    | zero =>
      simp at hs
      subst hs
      exact ⟨x, rfl, rfl, x, rfl, r0⟩
    | succ i =>
      simp only [List.getElem?_cons_succ, List.getElem?_map] at hs
      cases q : ds[i]? with
      | none => rw [q] at hs; cases hs
      | some d =>
        rw [q] at hs; cases hs
        obtain ⟨v, hv, rv⟩ := r.get q
        exact ⟨v, by simpa using hv, rfl, v, rfl, rv⟩
  simpa using this
section
variable {X : Cx} {C : Addr}
theorem e_fld (T : SvC X.K C) (i : Nat) {x : Str} {p pos : Pos} (hN : X.N[i]? = some x := by rfl) (hv : Vis X.env.scope x := by first | exact Or.inl rfl | exact Or.inr (Or.inl rfl) | exact Or.inr (Or.inr rfl))
    (hd : (x == ("__debug__" : Str)) = false := by decide) (hcd : (x == ("__classdict__" : Str)) = false := by decide) (hb : attributeBase (.Name x p) "strikes" X.env (eval (.Name x p) X.env) = eval (.Name x p) X.env := by rfl) :
    PE X (.Attribute (.Name x p) "strikes" pos) (tD X.K (fldF C i)) := (pe_fld (pe_var hN hv hd hcd) hb).imw fun σ H Q ⟨ρ, d, E, hf, k⟩ => by
  unfold fldF at hf
  split at hf
  · rename_i C' d' q
    split at hf
    · rename_i e
      subst e
      cases hf
      obtain ⟨v, h1, a, dx, w, rfl, ne, h2, h3, r⟩ := E.sv i _ _ q
      exact ⟨_, h1, a, C', dx, _, w, rfl, h2, T.cl, T.na, rfl, k w H (Same.refl H) r⟩
    · cases hf
  · cases hf
end
/-- a method that only reads: the instance's strikes, the arguments, what it tells -/
def spR (K : PySem.W.Frag) (C : Addr) (n : Nat) (fr : D → List D → Option D) : Sp := fun vs H Q _ => ∃ x args d ds res, vs = x :: args ∧ vs.length = n ∧ SvAt K H C d x ∧ RpA K H args ds ∧ fr d ds = some res ∧ ∀ v H', Same H H' → Rp K H' v res → Q v H'
@[simp] def fnR (C : Addr) (n N : Nat) (g : Fs) : D → List D → Option D := fun d ds => if ds.length + 1 = n then (match g (.svF C d :: ds.map Sl.val ++ List.replicate (N - n) .un) with
  | .rt d _ => some d
  | .nx _ => some .none
  | _ => none) else none
theorem fnR_len {C : Addr} {n N : Nat} {g : Fs} {d : D} {ds : List D} {r : D} (h : fnR C n N g d ds = some r) : ds.length + 1 = n := by
  unfold fnR at h
  split at h
  · assumption
  · cases h
section
variable {P : Program} {w : World} {K : PySem.W.Frag} {mg : Str → Option Value} {base : Heap}
theorem mr_ok {C : Addr} {x qual : Str} {st : Stmt} {f : Addr} {fd : FuncData} {N ps : List Str} {k : Nat} {g : Fs} (F : Fun K x qual st f fd) (S : FnScope N ps (defScope st))
    (h : ∀ (cdv : Value) (A : Around) (outer : List Env) (s : Shared) (H : Hp) (E : XK), Room k (A.deeper (PyProof.Rows.envOfC qual (defScope st) s.heap.objs.size f cdv)) →
      PSs (cxOf CX0 P w K mg base N qual (defScope st) f cdv A outer s H E).nox (defBody st) (tS K W0 g)) : FnOk P w K mg base CX0 (k + 1) f fd ps (spR K C ps.length (fnR C ps.length N.length g)) := by
  refine F.ok S (fun vs H Q E ⟨x, args, d, ds, res, e, hl, _⟩ => hl) (fun cdv A outer s H vs Q E hr ⟨x, args, d, ds, res, e, hl, r0, r, hf, kk⟩ => ⟨_, h cdv A outer s H E hr, ?_⟩)
  have hds := fnR_len hf
  unfold fnR at hf
  rw [if_pos hds] at hf
  have E0 := ev_startR N r0 r
  rw [hds] at E0
  subst e
  refine ⟨H, _, H, _, E0, ?_⟩
  cases q : g (.svF C d :: ds.map Sl.val ++ List.replicate (N.length - ps.length) .un) with
  | rt d' ρ' =>
    rw [q] at hf
    cases hf
    exact fun v σ' H' H0 L E' r' => kk v H' (E'.base.trans E'.sub) (r'.mono E'.sub)
  | nx ρ' =>
    rw [q] at hf
    cases hf
    exact fun σ' H' H0 L E' => kk .non H' (E'.base.trans E'.sub) .non
  | _ => rw [q] at hf; cases hf
end
def MdR (P : Program) (w : World) (K : PySem.W.Frag) (mg : Str → Option Value) (base : Heap) (C : Addr) (m : Str) (k : Nat) (fr : D → List D → Option D) : Prop :=
  ∃ (fa : Addr) (fd : FuncData) (ps : List Str), FnOk P w K mg base CX0 k fa fd ps (spR K C ps.length fr) ∧ Meth K C m fa ∧ Binds K fd ps [] ∧ ∀ d ds r, fr d ds = some r → ds.length + 1 = ps.length
theorem mdR_mk {P : Program} {w : World} {K : PySem.W.Frag} {mg : Str → Option Value} {base : Heap} {C : Addr} {m : Str} {k N : Nat} {g : Fs} {fa : Addr} {fd : FuncData} {ps : List Str} (F : FnOk P w K mg base CX0 k fa fd ps (spR K C ps.length (fnR C ps.length N g))) (hm : Meth K C m fa) (hb : Binds K fd ps []) :
    MdR P w K mg base C m k (fnR C ps.length N g) := ⟨fa, fd, ps, F, hm, hb, fun _ _ _ h => fnR_len h⟩
@[simp] def smF (C : Addr) (i : Nat) (fr : D → List D → Option D) (fa : Store → Option (List D)) : Fn := fun ρ => match ρ[i]? with
  | some (.svF C' d) => if C' = C then (fa ρ).bind (fr d) else none
  | _ => none
section
variable {X : Cx} {C : Addr}
theorem smF_tMeth {m : Str} {i n : Nat} {fr : D → List D → Option D} {fa : Store → Option (List D)} (hm : (m == ("strikes" : Str)) = false) (hl : ∀ d ds r, fr d ds = some r → ds.length + 1 = n) {E : XK} {σ : L2.St} {H : Hp} {Q : VK} (h : tD X.K (smF C i fr fa) σ H Q) :
    tMeth C m (spR X.K C n fr) [] E (tVar i) (tA X.K fa) σ H Q := by
  obtain ⟨ρ, d, Ev, hf, k⟩ := h
  unfold smF at hf
  split at hf
  · rename_i C' d' q
    split at hf
    · rename_i e
      subst e
      cases q2 : fa ρ with
      | none => rw [q2] at hf; cases hf
      | some ds =>
        rw [q2] at hf
        simp only [Option.bind_some] at hf
        obtain ⟨v, h1, a, dx, w, rfl, ne, h2, h3, r⟩ := Ev.sv i _ _ q
        refine ⟨_, h1, a, dx, _, rfl, h2, by simp [List.lookup, hm], ρ, ds, Ev, q2, fun vs H1 s1 r1 => ⟨_, vs, d', ds, d, by rw [List.append_nil], ?_, SvAt.mono s1 ⟨a, dx, w, rfl, ne, h2, h3, r⟩, r1, hf, fun v H' s' r' => k v H' (s1.trans s') r'⟩⟩
        have := hl _ _ _ hf
        have h5 := r1.length
        simp; omega
    · cases hf
  · cases hf
theorem e_smeth {m x : Str} {k j : Nat} {fr : D → List D → Option D} {fa : Store → Option (List D)} {e : Expr} {es : List Expr} {p apos pos : Pos} {pl : Sem Bool} (T : SvC X.K C) (M : MdR X.prog X.w X.K X.mg X.base C m k fr) (hr : Room j X.A) (hk : k ≤ j) (i : Nat) (ha : PA X (e :: es) (tA X.K fa))
    (hN : X.N[i]? = some x := by rfl) (hv : Vis X.env.scope x := by first | exact Or.inl rfl | exact Or.inr (Or.inl rfl) | exact Or.inr (Or.inr rfl)) (hd : (x == ("__debug__" : Str)) = false := by decide) (hcd : (x == ("__classdict__" : Str)) = false := by decide) (hms : (m == ("strikes" : Str)) = false := by decide)
    (hst : starEach (e :: es) X.env = (false, eval e X.env) :: starEach es X.env := by rfl) (hpl : (backTo pos (starEach es X.env)).any (·.1) = false := by rfl)
    (ht : eval (.Call (.Attribute (.Name x p) m apos) (e :: es) [] pos) X.env = (do
      let ov ← eval (.Name x p) X.env
      standAt apos.atName
      let (f, first) ← holding [ov] (getMethod ov m pl)
      callWith pos f first (backTo pos (starEach (e :: es) X.env)) (backToKw pos (keywordEach [] X.env))) := by rfl) :
    PE X (.Call (.Attribute (.Name x p) m apos) (e :: es) [] pos) (tD X.K (smF C i fr fa)) := by
  obtain ⟨fa', fd, ps, F, hm, hb, hl⟩ := M
  exact (pe_meth (pe_var hN hv hd hcd) T.cl hm F (hr.mono hk) hb .nil pass0 ha hst hpl ht).imw fun σ H Q h => smF_tMeth hms hl h
theorem e_smeth0 {m x : Str} {k j : Nat} {fr : D → List D → Option D} {p apos pos : Pos} {pl : Sem Bool} (T : SvC X.K C) (M : MdR X.prog X.w X.K X.mg X.base C m k fr) (hr : Room j X.A) (hk : k ≤ j) (i : Nat)
    (hN : X.N[i]? = some x := by rfl) (hv : Vis X.env.scope x := by first | exact Or.inl rfl | exact Or.inr (Or.inl rfl) | exact Or.inr (Or.inr rfl)) (hd : (x == ("__debug__" : Str)) = false := by decide) (hcd : (x == ("__classdict__" : Str)) = false := by decide) (hms : (m == ("strikes" : Str)) = false := by decide)
    (ht : eval (.Call (.Attribute (.Name x p) m apos) [] [] pos) X.env = (do
      let ov ← eval (.Name x p) X.env
      standAt apos.atName
      let (f, first) ← holding [ov] (getMethod ov m pl)
      callWith pos f first (backTo pos (starEach [] X.env)) (backToKw pos (keywordEach [] X.env))) := by rfl) :
    PE X (.Call (.Attribute (.Name x p) m apos) [] [] pos) (tD X.K (smF C i fr anil)) := by
  obtain ⟨fa', fd, ps, F, hm, hb, hl⟩ := M
  refine (pe_meth0 (pe_var hN hv hd hcd) T.cl hm F (hr.mono hk) hb .nil pass0 ht).imw fun σ H Q h => ?_
  obtain ⟨v, h1, a, dx, fs, e, h2, h3, ρ, ds, E, h4, h5⟩ := smF_tMeth (X := X) (E := fun _ _ _ => False) hms hl h
  cases h4
  exact ⟨v, h1, a, dx, fs, e, h2, h3, h5 [] H (Same.refl H) .nil⟩
end
end Tv

namespace Tv
open PySem PySem.Spec L2
/-! ### instances of a class with one attribute: changed -/
inductive MO where
  | ok (d : D) | ex (c : Value)
def spM (K : PySem.W.Frag) (C : Addr) (n : Nat) (fm : D → List D → Option MO) : Sp := fun vs H Q E => ∃ a dx w args d ds o, vs = .ref a :: args ∧ vs.length = n ∧ a ≠ dx ∧ H a = some (.ins C dx [("strikes", w)]) ∧ H dx = some (.own a) ∧ Rp K H w d ∧ RpA K H args ds ∧ fm d ds = some o ∧
  match o with
  | .ok d' => ∀ w' H', Same H H' → Rp K H' w' d' → Q .non (upd H' a (.ins C dx [("strikes", w')]))
  | .ex c => ∀ H', Same H H' → E c none H'
@[simp] def fnM (CE C : Addr) (n N : Nat) (fc : Store → Option Bool) (f : Fn) : D → List D → Option MO := fun d ds => if ds.length + 1 = n then
    (fc (.svF C d :: ds.map Sl.val ++ List.replicate (N - n) .un)).bind fun b => if b = true then some (.ex (.ref CE)) else (f (.svF C d :: ds.map Sl.val ++ List.replicate (N - n) .un)).map .ok
  else none
theorem fnM_len {CE C : Addr} {n N : Nat} {fc : Store → Option Bool} {f : Fn} {d : D} {ds : List D} {o : MO} (h : fnM CE C n N fc f d ds = some o) : ds.length + 1 = n := by
  unfold fnM at h
  split at h
  · assumption
  · cases h
theorem put_one (w w' : V) : putF "strikes" w' [(("strikes" : Str), w)] = [(("strikes" : Str), w')] := by
  show (if ("strikes" : Str) = "strikes" then _ else _) = _
  rw [if_pos rfl]
section
variable {P : Program} {w : World} {K : PySem.W.Frag} {mg : Str → Option Value} {base : Heap}
theorem mm_ok {C CE : Addr} {x qual : Str} {st : Stmt} {f : Addr} {fd : FuncData} {N ps : List Str} {k : Nat} {fc : Store → Option Bool} {fv : Fn} {c er e : Expr} {p1 p2 p3 p4 p5 : Pos} (T : SvC K C) (F : Fun K x qual st f fd) (S : FnScope N ps (defScope st))
    (hbody : defBody st = [.If c [.Raise (some er) none p1] [] p2, .Assign [.Attribute (.Name "self" p3) "strikes" p4] e p5])
    (hc : ∀ (cdv : Value) (A : Around) (outer : List Env) (s : Shared) (H : Hp) (E : XK), Room k (A.deeper (PyProof.Rows.envOfC qual (defScope st) s.heap.objs.size f cdv)) → PT (cxOf (L2.CX P w) P w K mg base N qual (defScope st) f cdv A outer s H E) c (tT K fc))
    (hr : ∀ (cdv : Value) (A : Around) (outer : List Env) (s : Shared) (H : Hp) (E : XK), Room k (A.deeper (PyProof.Rows.envOfC qual (defScope st) s.heap.objs.size f cdv)) → PMk (cxOf (L2.CX P w) P w K mg base N qual (defScope st) f cdv A outer s H E) er (fun _ H Q => Q (.ref CE) none H))
    (he : ∀ (cdv : Value) (A : Around) (outer : List Env) (s : Shared) (H : Hp) (E : XK), Room k (A.deeper (PyProof.Rows.envOfC qual (defScope st) s.heap.objs.size f cdv)) → PE (cxOf (L2.CX P w) P w K mg base N qual (defScope st) f cdv A outer s H E) e (tD K fv))
    (hs : ∀ (cdv : Value) (A : Around) (outer : List Env) (s : Shared) (H : Hp) (E : XK), swapsWith e (some (.Attribute (.Name "self" p3) "strikes" p4)) p5.line (cxOf (L2.CX P w) P w K mg base N qual (defScope st) f cdv A outer s H E).env = pure false)
    (hn : N[0]? = some ("self" : Str)) (hv : ∀ (cdv : Value) (A : Around) (outer : List Env) (s : Shared) (H : Hp) (E : XK), Vis (cxOf (L2.CX P w) P w K mg base N qual (defScope st) f cdv A outer s H E).env.scope "self") :
    FnOk P w K mg base (L2.CX P w) (k + 1) f fd ps (spM K C ps.length (fnM CE C ps.length N.length fc fv)) := by
  refine F.okX S (fun vs H Q E ⟨a, dx, w, args, d, ds, o, e, hl, _⟩ => hl) (fun cdv A outer s H vs Q E hrr ⟨a, dx, w0, args, d, ds, o, e0, hl, ne, h1, h2, r0, r, hf, kk⟩ => ⟨_, by
    rw [hbody]
    exact pss_cons (ps_if (hc cdv A outer s H E hrr) (pss_one (ps_raise rfl (takes_of rfl rfl rfl rfl) (hr cdv A outer s H E hrr))) pss_nil) (pss_one (ps_fld (pe_var (i := 0) hn (hv cdv A outer s H E)) (he cdv A outer s H E hrr) (hs cdv A outer s H E))), ?_⟩)
  have hds := fnM_len hf
  unfold fnM at hf
  rw [if_pos hds] at hf
  have E0 := ev_startR N (C := C) (x := .ref a) ⟨a, dx, w0, rfl, ne, h1, h2, r0⟩ r
  rw [hds] at E0
  subst e0
  cases q : fc (.svF C d :: ds.map Sl.val ++ List.replicate (N.length - ps.length) .un) with
  | none => rw [q] at hf; cases hf
  | some b =>
    rw [q] at hf
    simp only [Option.bind_some] at hf
    refine ⟨_, b, E0.vv, q, fun H1 s1 => ?_⟩
    cases b with
    | true =>
      rw [if_pos rfl] at hf
      cases hf
      rw [if_pos rfl]
      exact kk H1 s1
    | false =>
      rw [if_neg Bool.false_ne_true] at hf
      rw [if_neg Bool.false_ne_true]
      cases q2 : fv (.svF C d :: ds.map Sl.val ++ List.replicate (N.length - ps.length) .un) with
      | none => rw [q2] at hf; cases hf
      | some d' =>
        rw [q2] at hf
        cases hf
        refine ⟨_, d', E0.vv.mono s1, q2, fun w' H2 s2 r2 => ⟨.ref a, rfl, a, C, dx, _, rfl, s2 _ _ (s1 _ _ h1), T.cl, T.na, by show 1 < 1000; decide, ?_⟩⟩
        rw [put_one]
        exact kk w' H2 (s1.trans s2) r2
/-- __init__ -/
def spI (K : PySem.W.Frag) (C : Addr) (d0 : D) : Sp := fun vs H Q _ => ∃ a dx, vs = [.ref a] ∧ H a = some (.ins C dx []) ∧ ∀ w' H', Same H H' → Rp K H' w' d0 → Q .non (upd H' a (.ins C dx [("strikes", w')]))
theorem mi_ok {C : Addr} {x qual : Str} {st : Stmt} {f : Addr} {fd : FuncData} {k : Nat} {d0 : D} {fv : Fn} {e : Expr} {p3 p4 p5 : Pos} (T : SvC K C) (F : Fun K x qual st f fd) (S : FnScope ["self"] ["self"] (defScope st))
    (hbody : defBody st = [.Assign [.Attribute (.Name "self" p3) "strikes" p4] e p5])
    (he : ∀ (cdv : Value) (A : Around) (outer : List Env) (s : Shared) (H : Hp) (E : XK), Room k (A.deeper (PyProof.Rows.envOfC qual (defScope st) s.heap.objs.size f cdv)) → PE (cxOf CX0 P w K mg base ["self"] qual (defScope st) f cdv A outer s H E).nox e (tD K fv))
    (hs : ∀ (cdv : Value) (A : Around) (outer : List Env) (s : Shared) (H : Hp) (E : XK), swapsWith e (some (.Attribute (.Name "self" p3) "strikes" p4)) p5.line (cxOf CX0 P w K mg base ["self"] qual (defScope st) f cdv A outer s H E).nox.env = pure false)
    (hv : ∀ (cdv : Value) (A : Around) (outer : List Env) (s : Shared) (H : Hp) (E : XK), Vis (cxOf CX0 P w K mg base ["self"] qual (defScope st) f cdv A outer s H E).nox.env.scope "self") (hf : fv [.un] = some d0) :
    FnOk P w K mg base CX0 (k + 1) f fd ["self"] (spI K C d0) := by
  refine F.ok S (fun vs H Q E ⟨a, dx, e, _⟩ => by rw [e]; rfl) (fun cdv A outer s H vs Q E hrr ⟨a, dx, e0, h1, kk⟩ => ⟨_, by
    rw [hbody]
    exact pss_one (ps_fld (pe_var (i := 0) rfl (hv cdv A outer s H E)) (he cdv A outer s H E hrr) (hs cdv A outer s H E)), ?_⟩)
  subst e0
  have E0 : EvV K [.un] (L2.start ["self"] [.ref a]) H := ⟨rfl, fun i d h => by cases i <;> simp at h, fun i C d h => by cases i <;> simp at h⟩
  refine ⟨_, d0, E0, hf, fun w' H2 s2 r2 => ⟨.ref a, rfl, a, C, dx, [], rfl, s2 _ _ h1, T.cl, T.na, by show 0 < 1000; decide, ?_⟩⟩
  exact kk w' H2 s2 r2
end
def MdM (P : Program) (w : World) (K : PySem.W.Frag) (mg : Str → Option Value) (base : Heap) (C : Addr) (m : Str) (k : Nat) (fm : D → List D → Option MO) : Prop :=
  ∃ (fa : Addr) (fd : FuncData) (ps : List Str), FnOk P w K mg base (L2.CX P w) k fa fd ps (spM K C ps.length fm) ∧ Meth K C m fa ∧ Binds K fd ps [] ∧ ∀ d ds o, fm d ds = some o → ds.length + 1 = ps.length
theorem mdM_mk {P : Program} {w : World} {K : PySem.W.Frag} {mg : Str → Option Value} {base : Heap} {C CE : Addr} {m : Str} {k N : Nat} {fc : Store → Option Bool} {f : Fn} {fa : Addr} {fd : FuncData} {ps : List Str} (F : FnOk P w K mg base (L2.CX P w) k fa fd ps (spM K C ps.length (fnM CE C ps.length N fc f))) (hm : Meth K C m fa) (hb : Binds K fd ps []) :
    MdM P w K mg base C m k (fnM CE C ps.length N fc f) := ⟨fa, fd, ps, F, hm, hb, fun _ _ _ h => fnM_len h⟩
def MkS (P : Program) (w : World) (K : PySem.W.Frag) (mg : Str → Option Value) (base : Heap) (C : Addr) (x : Str) (k : Nat) (d0 : D) : Prop :=
  ∃ (fI : Addr) (fdI : FuncData), Mk K C fI ∧ FnOk P w K mg base CX0 k fI fdI ["self"] (spI K C d0) ∧ mg x = some (.ref C) ∧ Binds K fdI ["self"] []
theorem pass_no {X : Cx} : Passes (L2.CX X.prog X.w) X (fun _ _ _ => False) := fun _ _ _ _ _ _ _ ⟨_, _, _, _, _, _, _, _, _, _, _, _, h⟩ => h.elim
section
variable {K : PySem.W.Frag} {Hb : Hp} {ρ : Store} {σ : L2.St} {H H0 : Hp} {L : Nat → List Addr} {C : Addr}
theorem Ev.chgSv {i : Nat} {d d' : D} {a dx : Addr} {w' : V} (E : Ev K Hb ρ σ H H0 L) (hs : ρ[i]? = some (.sv C d)) (hl : L i = [a, dx]) (ne : a ≠ dx) (hσ : σ[i]? = some (some (.ref a))) (hdx : H dx = some (.own a)) (r : Rp K H0 w' d') :
    Ev K Hb (ρ.set i (.sv C d')) σ (upd H a (.ins C dx [("strikes", w')])) H0 L := by
  have hi : i < ρ.length := (List.getElem?_eq_some_iff.mp hs).1
  refine ⟨E.base, by simp [E.len], fun j s h => ?_, fun j h => E.out j (by simpa using h), E.no0, E.dj, fun b h => ?_⟩
  · by_cases hj : i = j
    · subst hj
      rw [List.getElem?_set_self hi] at h
      cases h
      exact ⟨_, hσ, a, dx, w', rfl, hl, ne, upd_same, by rw [upd_ne (Ne.symm ne)]; exact hdx, r⟩
    · rw [List.getElem?_set_ne hj] at h
      obtain ⟨o, h1, ok⟩ := E.sl j s h
      refine ⟨o, h1, ok.mono (Same.refl H0) fun b hb => upd_ne fun q => hj ?_⟩
      exact E.dj i j b (by rw [hl, q]; simp) hb
  · have hb : b ≠ a := fun q => h i (by rw [hl, q]; simp)
    rw [upd_ne hb]
    exact E.eq b h
theorem Ev.svAt {i : Nat} {d : D} (E : Ev K Hb ρ σ H H0 L) (hs : ρ[i]? = some (.sv C d)) : ∃ a dx w, σ[i]? = some (some (.ref a)) ∧ L i = [a, dx] ∧ a ≠ dx ∧ H a = some (.ins C dx [("strikes", w)]) ∧ H dx = some (.own a) ∧ Rp K H0 w d := by
  obtain ⟨o, h1, a, dx, w, rfl, h2, h3, h4, h5, h6⟩ := E.sl i _ hs
  exact ⟨a, dx, w, h1, h2, h3, h4, h5, h6⟩
/-- a new instance in a slot -/
theorem Ev.setSv {x dx : Addr} {H2 : Hp} {w : V} {d : D} (E : Ev K Hb ρ σ H H0 L) (i : Nat) (hi : i < ρ.length) (hx : H x = none) (hdx : H dx = none) (ne : dx ≠ x) (s2 : Same (upd (upd H dx (.own x)) x (.ins C dx [])) H2) (r : Rp K H2 w d) (hn : noL d = true) :
    ∃ H1 L1, Ev K Hb (ρ.set i (.sv C d)) (σ.set i (some (.ref x))) (upd H2 x (.ins C dx [("strikes", w)])) H1 L1 := by
  have e2x : H2 x = some (.ins C dx []) := s2 _ _ upd_same
  have e2d : H2 dx = some (.own x) := s2 _ _ (by rw [upd_ne ne, upd_same])
  obtain ⟨H3, h3x, h3d, e3⟩ : ∃ H3 : Hp, H3 x = none ∧ H3 dx = none ∧ ∀ b, b ≠ x → b ≠ dx → H3 b = H2 b :=
    ⟨fun b => if b = x ∨ b = dx then none else H2 b, if_pos (.inl rfl), if_pos (.inr rfl), fun b h1 h2 => if_neg (by intro q; rcases q with q | q; exact h1 q; exact h2 q)⟩
  have s3 : Same H H3 := fun b o e => by
    have h1 : b ≠ x := fun q => by rw [q, hx] at e; cases e
    have h2 : b ≠ dx := fun q => by rw [q, hdx] at e; cases e
    rw [e3 b h1 h2]
    exact s2 _ _ (by rw [upd_ne h1, upd_ne h2]; exact e)
  obtain ⟨H0', s0, ht, E'⟩ := E.lent s3
  obtain ⟨H1, s1, hk, E1⟩ := E'.leak i
  have notL : ∀ b, H3 b = none → ∀ j, b ∉ L j := fun b hb j hj => by
    obtain ⟨_, o, e, _⟩ := E'.frm.on b (E'.own_iff.mpr ⟨j, hj⟩)
    rw [hb] at e; cases e
  have hL0 : ∀ b, (∀ j, b ∉ L j) → ∀ j, b ∉ (if j = i then [] else L j) := fun b h j => by
    split
    · simp
    · exact h j
  have h1x : H1 x = none := by rw [← E1.eq x (hL0 x (notL x h3x))]; exact h3x
  have h1d : H1 dx = none := by rw [← E1.eq dx (hL0 dx (notL dx h3d))]; exact h3d
  have r1 : Rp K H1 w d := (Rp.noL (fun b o no e => ht b o no (by
    rw [e3 b]
    · exact e
    · intro q
      rw [q, e2x] at e; cases e; exact no trivial
    · intro q
      rw [q, e2d] at e; cases e; exact no trivial)) hn r).mono s1
  have eH : ∀ b, b ≠ x → b ≠ dx → (upd H2 x (.ins C dx [("strikes", w)])) b = H3 b := fun b h1 h2 => by
    rw [upd_ne h1, e3 b h1 h2]
  refine ⟨H1, fun j => if j = i then [x, dx] else L j, E1.base, by simp [E.len], fun j s h => ?_, fun j h => ?_, fun j b h => ?_, fun j k b h h' => ?_, fun b h => ?_⟩
  · by_cases hj : i = j
    · subst hj
      rw [List.getElem?_set_self (by simpa using hi)] at h
      cases h
      exact ⟨some (.ref x), by rw [List.getElem?_set_self (by rw [E.len]; exact hi)], x, dx, w, rfl, by simp, Ne.symm ne, upd_same, by rw [upd_ne ne]; exact e2d, r1⟩
    · rw [List.getElem?_set_ne hj] at h
      obtain ⟨o, h1, ok⟩ := E1.sl j s (by rw [List.getElem?_set_ne hj]; exact h)
      rw [if_neg (Ne.symm hj)] at ok ⊢
      refine ⟨o, by rw [List.getElem?_set_ne hj]; exact h1, ok.mono (Same.refl H1) fun b hb => eH b ?_ ?_⟩
      · exact fun q => notL x h3x j (q ▸ hb)
      · exact fun q => notL dx h3d j (q ▸ hb)
  · have : j ≠ i := by simp only [List.length_set] at h; omega
    show (if j = i then [x, dx] else L j) = []
    rw [if_neg this]
    exact E.out j (by simpa using h)
  · by_cases hj : j = i
    · simp only [hj, if_true, List.mem_cons, List.not_mem_nil, or_false] at h
      rcases h with rfl | rfl
      · exact h1x
      · exact h1d
    · simp only [hj, if_false] at h
      exact E1.no0 j b (by simp only [hj, if_false]; exact h)
  · have two : ∀ j, b ∈ (if j = i then [x, dx] else L j) → (j = i ∧ (b = x ∨ b = dx)) ∨ (j ≠ i ∧ b ∈ L j) := fun j hh => by
      by_cases hj : j = i
      · simp only [hj, if_true, List.mem_cons, List.not_mem_nil, or_false] at hh
        exact .inl ⟨hj, hh⟩
      · simp only [hj, if_false] at hh
        exact .inr ⟨hj, hh⟩
    rcases two j h with ⟨a1, a2⟩ | ⟨a1, a2⟩
    · rcases two k h' with ⟨b1, b2⟩ | ⟨b1, b2⟩
      · rw [a1, b1]
      · exfalso
        rcases a2 with rfl | rfl
        · exact notL _ h3x k b2
        · exact notL _ h3d k b2
    · rcases two k h' with ⟨b1, b2⟩ | ⟨b1, b2⟩
      · exfalso
        rcases b2 with rfl | rfl
        · exact notL _ h3x j a2
        · exact notL _ h3d j a2
      · exact E.dj _ _ _ a2 b2
  · have hb1 : b ≠ x := fun q => h i (by simp [q])
    have hb2 : b ≠ dx := fun q => h i (by simp [q])
    rw [eH b hb1 hb2]
    refine E1.eq b fun j hj => h j ?_
    by_cases hji : j = i
    · simp [hji] at hj
    · simp only [hji, if_false] at hj ⊢; exact hj
end
@[simp] def mcS (C : Addr) (i : Nat) (fm : D → List D → Option MO) (fa : Store → Option (List D)) : Fs := fun ρ => match ρ[i]?, fa (frz ρ) with
  | some (.sv C' d), some ds => if C' = C then (match fm d ds with
    | some (.ok d') => if noL d' = true then .nx (ρ.set i (.sv C d')) else .stuck
    | _ => .stuck) else .stuck
  | _, _ => .stuck
@[simp] def newS (C : Addr) (i : Nat) (d0 : D) : Fs := fun ρ => if i < ρ.length ∧ noL d0 = true then .nx (ρ.set i (.sv C d0)) else .stuck
section
variable {X : Cx} {C : Addr} {W : WXT}
theorem mcS_t {m : Str} {i n : Nat} {fm : D → List D → Option MO} {fa : Store → Option (List D)} (hm : (m == ("strikes" : Str)) = false) (hl : ∀ d ds o, fm d ds = some o → ds.length + 1 = n) {D : Ends} {σ : L2.St} {H : Hp} (h : tS X.K W (mcS C i fm fa) D σ H) :
    tMeth C m (spM X.K C n fm) [] (fun _ _ _ => False) (tVar i) (tA X.K fa) σ H (fun _ H1 => D.nx σ H1) := by
  obtain ⟨Hb, ρ, H0, L, E, h⟩ := h
  unfold mcS at h
  split at h
  · rename_i C' d ds q1 q2
    split at h
    · rename_i e
      subst e
      split at h
      · rename_i d' q3
        split at h
        · rename_i hn
          obtain ⟨a, dx, w, h1, h2, h3, h4, h5, r⟩ := E.svAt q1
          refine ⟨_, h1, a, dx, _, rfl, h4, by simp [List.lookup, hm], frz ρ, ds, E.vvF, q2, fun vs H1 s1 r1 => ⟨a, dx, w, vs, d, ds, _, by rw [List.append_nil], ?_, h3, s1 _ _ h4, s1 _ _ h5, (r.mono E.sub).mono s1, r1, q3, fun w' H2 s2 r2 => ?_⟩⟩
          · have := hl _ _ _ q3
            have h5 := r1.length
            simp; omega
          · obtain ⟨H0', s0, ht, E'⟩ := E.lent (s1.trans s2)
            exact h σ _ H0' L (E'.chgSv q1 h2 h3 h1 (s2 _ _ (s1 _ _ h5)) (Rp.noL ht hn r2))
        · exact h.elim
      · exact h.elim
    · exact h.elim
  · exact h.elim
theorem s_mcall {m x : Str} {k j : Nat} {fm : D → List D → Option MO} {fa : Store → Option (List D)} {e : Expr} {es : List Expr} {p apos pos pos2 : Pos} {pl : Sem Bool} (T : SvC X.K C) (M : MdM X.prog X.w X.K X.mg X.base C m k fm) (hr : Room j X.A) (hk : k ≤ j) (i : Nat) (ha : PA X (e :: es) (tA X.K fa))
    (hN : X.N[i]? = some x := by rfl) (hv : Vis X.env.scope x := by first | exact Or.inl rfl | exact Or.inr (Or.inl rfl) | exact Or.inr (Or.inr rfl)) (hd : (x == ("__debug__" : Str)) = false := by decide) (hcd : (x == ("__classdict__" : Str)) = false := by decide) (hms : (m == ("strikes" : Str)) = false := by decide)
    (hsw : swapsWith (.Call (.Attribute (.Name x p) m apos) (e :: es) [] pos) none pos2.line X.env = pure false := by rfl)
    (hst : starEach (e :: es) X.env = (false, eval e X.env) :: starEach es X.env := by rfl) (hpl : (backTo pos (starEach es X.env)).any (·.1) = false := by rfl)
    (ht : eval (.Call (.Attribute (.Name x p) m apos) (e :: es) [] pos) X.env = (do
      let ov ← eval (.Name x p) X.env
      standAt apos.atName
      let (f, first) ← holding [ov] (getMethod ov m pl)
      callWith pos f first (backTo pos (starEach (e :: es) X.env)) (backToKw pos (keywordEach [] X.env))) := by rfl) :
    PS X (.Expr (.Call (.Attribute (.Name x p) m apos) (e :: es) [] pos) pos2) (tS X.K W (mcS C i fm fa)) := by
  obtain ⟨fa', fd, ps, F, hm, hb, hl⟩ := M
  exact (ps_expr (pe_meth (pe_var hN hv hd hcd) T.cl hm F (hr.mono hk) hb .nil pass_no ha hst hpl ht) hsw).imw fun D σ H h => mcS_t hms hl h
theorem s_mcall0 {m x : Str} {k j : Nat} {fm : D → List D → Option MO} {p apos pos pos2 : Pos} {pl : Sem Bool} (T : SvC X.K C) (M : MdM X.prog X.w X.K X.mg X.base C m k fm) (hr : Room j X.A) (hk : k ≤ j) (i : Nat)
    (hN : X.N[i]? = some x := by rfl) (hv : Vis X.env.scope x := by first | exact Or.inl rfl | exact Or.inr (Or.inl rfl) | exact Or.inr (Or.inr rfl)) (hd : (x == ("__debug__" : Str)) = false := by decide) (hcd : (x == ("__classdict__" : Str)) = false := by decide) (hms : (m == ("strikes" : Str)) = false := by decide)
    (hsw : swapsWith (.Call (.Attribute (.Name x p) m apos) [] [] pos) none pos2.line X.env = pure false := by rfl)
    (ht : eval (.Call (.Attribute (.Name x p) m apos) [] [] pos) X.env = (do
      let ov ← eval (.Name x p) X.env
      standAt apos.atName
      let (f, first) ← holding [ov] (getMethod ov m pl)
      callWith pos f first (backTo pos (starEach [] X.env)) (backToKw pos (keywordEach [] X.env))) := by rfl) :
    PS X (.Expr (.Call (.Attribute (.Name x p) m apos) [] [] pos) pos2) (tS X.K W (mcS C i fm anil)) := by
  obtain ⟨fa', fd, ps, F, hm, hb, hl⟩ := M
  refine (ps_expr (pe_meth0 (pe_var hN hv hd hcd) T.cl hm F (hr.mono hk) hb .nil pass_no ht) hsw).imw fun D σ H h => ?_
  obtain ⟨v, h1, a, dx, fs, e, h2, h3, ρ, ds, E, h4, h5⟩ := mcS_t (X := X) hms hl h
  cases h4
  exact ⟨v, h1, a, dx, fs, e, h2, h3, h5 [] H (Same.refl H) .nil⟩
theorem s_new {x y : Str} {k j : Nat} {d0 : D} {p py pos pos2 : Pos} (M : MkS X.prog X.w X.K X.mg X.base C x k d0) (hN : X.N.Nodup) (hr : Room j X.A) (hk : k + 1 ≤ j) (i : Nat) (hi : X.N[i]? = some y := by rfl) (hx : Loc X.env.scope y := by first | exact .inl rfl | exact .inr rfl) (hg : Gl X x := by rfl) (hdb : (x == ("__debug__" : Str)) = false := by decide)
    (hs : swapsWith (.Call (.Name x p) [] [] pos) (some (.Name y py)) pos2.line X.env = pure false := by rfl) (hf : X.fn y = true ∨ X.env.scope.names.lookup y = some .local := by first | exact .inl rfl | exact .inr rfl | assumption) :
    PS X (.Assign [.Name y py] (.Call (.Name x p) [] [] pos) pos2) (tS X.K W (newS C i d0)) := by
  obtain ⟨fI, fdI, Mk, F, hm, hb⟩ := M
  refine (ps_set hN hi hx (pe_make0 Mk F (hr.mono hk) hg hm hb .nil pass0 hdb) hs hf).imw fun D σ H ⟨Hb, ρ, H0, L, E, h⟩ => ?_
  unfold newS at h
  split at h
  · rename_i hc
    intro a dx hx hdx ne
    refine ⟨a, dx, rfl, upd_same, fun w' H2 s2 r2 => ⟨rfl, ?_⟩⟩
    obtain ⟨H1, L1, E1⟩ := E.setSv i hc.1 hx hdx ne s2 r2 hc.2
    exact h _ _ H1 L1 E1
  · exact h.elim
/-! name = [..], owned, made while owned things are looked at -/
@[simp] def ownBS (f : Store → Option (List D)) (i : Nat) : Fs := fun ρ => match f (frz ρ) with
  | some ds => if i < ρ.length ∧ noLs ds = true then .nx (ρ.set i (.own ds)) else .stuck
  | none => .stuck
theorem s_ownB {e : Expr} {pos : Pos} {i : Nat} {x : Str} {pos' : Pos} {f : Store → Option (List D)} (hN : X.N.Nodup) (he : PE X e (tL X.K f)) (hi : X.N[i]? = some x := by rfl) (hx : Loc X.env.scope x := by first | exact .inl rfl | exact .inr rfl) (hs : swapsWith e (some (.Name x pos')) pos.line X.env = pure false := by rfl)
    (hf : X.fn x = true ∨ X.env.scope.names.lookup x = some .local := by first | exact .inl rfl | exact .inr rfl | assumption) : PS X (.Assign [.Name x pos'] e pos) (tS X.K W (ownBS f i)) :=
  (ps_set hN hi hx he hs hf).imw fun D σ H ⟨Hb, ρ, H0, L, E, h⟩ => by
    unfold ownBS at h
    cases q : f (frz ρ) with
    | none => rw [q] at h; exact h.elim
    | some ds =>
      rw [q] at h
      simp only at h
      split at h
      · rename_i hc
        refine ⟨frz ρ, ds, E.vvF, q, fun p vs H' s n r => ?_⟩
        obtain ⟨H0', s0, ht, E'⟩ := E.lent s
        obtain ⟨H2, L2, s2, E2⟩ := E'.setOwn i hc.1 n (E'.frm.none n) (RpA.noL ht hc.2 r)
        exact h _ _ H2 L2 E2
      · exact h.elim
end
end Tv

namespace Tv
open PySem PySem.Spec L2
/-! ### the end of a law over instances -/
structure ExT (K : PySem.W.Frag) (mg : Str → Option Value) (x : Str) (CE : Addr) : Prop where
  g : mg x = some (.ref CE)
  x : PySem.W.excIn K CE [.type "ValueError", .type "Exception", .type "BaseException", .type "object"] "ValueError.__new__" = true
  k : PySem.W.keepIn K (.ref CE) = true
  b : PySem.W.subIn K (.ref CE) (.type "BaseException") = some true
  t : PySem.W.typeIn K (.ref CE) = some (.type "type")
def spA (K : PySem.W.Frag) (fn : Addr → Addr → List D → Option D) : Sp := fun vs H Q E => ∀ CE C, spD K 1 (fn CE C) vs H Q E
theorem law_spA {K : PySem.W.Frag} {H : Hp} {a : Addr} {ns : List Int} {n : Nat} {E : XK} {fn : Addr → Addr → List D → Option D} (hl : ns.length ≤ n) (hS : SqL K H a (ns.map V.int)) (h : ∀ CE C, fn CE C [scr ns] = some (.bool true)) : spA K fn [.ref a] H (fun v _ => v = .bl true) E :=
  fun CE C => law_sp hl hS (h CE C)
theorem all_mkA {P : Program} {w : World} {K : PySem.W.Frag} {mg : Str → Option Value} {k : Nat} {fa CE C : Addr} {ps : List Str} {A : FuncData → Prop} {A1 A2 : Heap → Prop} {fn : Addr → Addr → List D → Option D}
    (h : ∃ fd : FuncData, A fd ∧ ∀ base : Heap, A1 base → A2 base → FnOk P w K mg base CX0 k fa fd ps (spD K 1 (fn CE C))) : ∃ fd : FuncData, A fd ∧ ∀ base : Heap, A1 base → A2 base → FnOk P w K mg base CX0 k fa fd ps (spA K fn) := by
  obtain ⟨fd, h1, h2⟩ := h
  refine ⟨fd, h1, fun base a1 a2 => ?_⟩
  have F := h2 base a1 a2
  exact ⟨fun vs H Q E h => F.len vs H Q E (h CE C), fun A outer s H args us vs Q E hr e0 hb r hsp => F.run A outer s H args us vs Q E hr e0 hb r (hsp CE C)⟩
/-! ### tuples whose object is known to the letter -/
theorem xtup_inv {K : PySem.W.Frag} {H : Hp} {v : V} {ds : List D} (r : Rp K H v (xtup ds)) : ∃ a o xs, v = .ref a ∧ H a = some (.frz o (.tup xs)) ∧ o.dict = none ∧ RpA K H xs ds := by
  generalize e : xtup ds = z at r
  cases r with
  | xtp h d t =>
    unfold xtup at e
    injection e with e
    injection e with e _
    injection e with e _
    injection e with e
    subst e
    exact ⟨_, _, _, rfl, h, d, t⟩
  | scr h =>
    unfold xtup scr at e
    injection e with e
    injection e with e _
    injection e with e _
    cases e
  | dct h h2 =>
    rename_i ks
    unfold xtup dks at e
    injection e with e
    cases ks with
    | nil => cases e
    | cons k ks =>
      rw [List.map_cons] at e
      injection e with e _
      injection e with e _
      cases e
  | exc a =>
    unfold xtup excD at e
    injection e with e
    injection e with e _
    injection e with e _
    cases e
  | _ => cases e
theorem call_tuple_x {X : Cx} : CallR X (.type "tuple") (fun xs H Q => ∃ p ys, xs = [.ref p] ∧ SqL X.K H p ys ∧ ∀ l (o : Obj), H l = none → o.dict = none → Q (.ref l) (upd H l (.frz o (.tup ys)))) := by
  intro pins s σ H xs us Q I r h
  obtain ⟨p, ys, rfl, hq, q⟩ := h
  obtain ⟨u, rfl, rx⟩ := vals1 r
  cases rx
  obtain ⟨its, r', pl, hz⟩ := I.list hq
  have hlen := r'.length
  refine call_tuple_list pl.isList (fun h' kp => ?_) (by simp only [List.size_toArray] <;> omega)
  have I1 : L2.Inv X pins σ H { s with heap := h' } := I.kept (t' := s.toks) kp
  have I2 : L2.Inv X pins σ (upd H h'.objs.size (.frz { cls := .type "tuple", data := .seq its.toArray } (.tup ys))) { s with heap := h'.push { cls := .type "tuple", data := .seq its.toArray } } :=
    I1.laid (t' := s.toks) (fun b o e => Heap.get?_push_of_some _ e) (Nat.le_refl _) ⟨Heap.get?_push_size _ rfl, hz, its, r', PyProof.Rows.IsTup.new _ _⟩
  exact ⟨.ref h'.objs.size, _, I2, rfl, q _ _ (I1.hok.fresh (Nat.le_refl _)) rfl⟩
@[simp] def xtupD : List D → Option D
  | [.list ds] => some (xtup ds)
  | _ => none
theorem cd_xtup {K : PySem.W.Frag} : CallD K (fun xs H Q => ∃ p ys, xs = [.ref p] ∧ SqL K H p ys ∧ ∀ l (o : Obj), H l = none → o.dict = none → Q (.ref l) (upd H l (.frz o (.tup ys)))) xtupD := by
  intro H xs ds d Q r h k
  unfold xtupD at h
  split at h
  · cases r with
    | cons r rr =>
      cases rr
      cases h
      obtain ⟨p, vs, rfl, h1, r1⟩ := r.lst_inv
      exact ⟨p, vs, rfl, .of h1, fun l o hl ho => k _ _ (same_upd hl) (.xtp upd_same ho (r1.mono (same_upd hl)))⟩
  · cases h
def plainD : D → Option D
  | .dict [(.tuple ds, .bool true)] => some (.tuple ds)
  | _ => none
@[simp] theorem plainD_x (ds : List D) : plainD (xtup ds) = some (.tuple ds) := rfl
@[simp] def plF (f : Fn) : Fn := fun ρ => (f ρ).bind plainD
theorem plainD_inv {d e : D} (h : plainD d = some e) : ∃ ds, d = xtup ds ∧ e = .tuple ds := by
  unfold plainD at h
  split at h
  · cases h; exact ⟨_, rfl, rfl⟩
  · cases h
theorem e_plain {X : Cx} {e : Expr} {f : Fn} (he : PE X e (tD X.K f)) : PE X e (tD X.K (plF f)) := he.imw fun σ H Q ⟨ρ, d, E, hf, k⟩ => by
  unfold plF at hf
  cases q : f ρ with
  | none => rw [q] at hf; cases hf
  | some a =>
    rw [q] at hf
    obtain ⟨ds, rfl, rfl⟩ := plainD_inv hf
    refine ⟨ρ, _, E, q, fun v H' s r => k v H' s ?_⟩
    obtain ⟨p, o, xs, rfl, h1, h2, h3⟩ := xtup_inv r
    exact .tup (.inr ⟨o, h1⟩) h3
/-! .. returned while owned lists are looked at -/
@[simp] def xbT (f : Fn) : FX := fun ρ => (f (frz ρ)).bind fun d => (plainD d).bind fun e => if noL e = true then some (d, ρ) else none
theorem x_bT {X : Cx} {e : Expr} {f : Fn} (h : PE X e (tD X.K f)) : PX X e (xbT f) := ⟨_, h, fun Hb ρ σ H H0 L d ρ' Q E hg k => by
  unfold xbT at hg
  cases q : f (frz ρ) with
  | none => rw [q] at hg; cases hg
  | some d' =>
    rw [q] at hg
    simp only [Option.bind_some] at hg
    cases q2 : plainD d' with
    | none => rw [q2] at hg; cases hg
    | some e' =>
      rw [q2] at hg
      simp only [Option.bind_some] at hg
      split at hg
      · rename_i hn
        cases hg
        obtain ⟨ds, rfl, rfl⟩ := plainD_inv q2
        refine ⟨frz ρ, xtup ds, E.vvF, q, fun v H' s r => ?_⟩
        obtain ⟨H0', s0, ht, E'⟩ := E.lent s
        obtain ⟨p, o, xs, rfl, h1, h2, h3⟩ := xtup_inv r
        exact k _ H' H0' L E' s0 (.xtp (ht _ _ id h1) h2 (RpA.noL ht (by simpa using hn) h3))
      · cases hg⟩
/-! t.index(x) -/
def intsOf : List D → Option (List Int)
  | [] => some []
  | .int i :: ds => (intsOf ds).map (i :: ·)
  | _ => none
@[simp] theorem intsOf_mk : ∀ ns : List Int, intsOf (ns.map .int) = some ns
  | [] => rfl
  | n :: ns => by
    show (intsOf (ns.map .int)).map (n :: ·) = _
    rw [intsOf_mk ns]; rfl
theorem intsOf_map : ∀ {ds : List D} {ns : List Int}, intsOf ds = some ns → ds = ns.map .int
  | [], _, h => by cases h; rfl
  | .int b :: ds, bs, h => by
    unfold intsOf at h
    cases q : intsOf ds with
    | none => rw [q] at h; cases h
    | some cs => rw [q] at h; cases h; rw [intsOf_map q]; rfl
  | .none :: _, _, h => by cases h
  | .str _ :: _, _, h => by cases h
  | .bool _ :: _, _, h => by cases h
  | .list _ :: _, _, h => by cases h
  | .tuple _ :: _, _, h => by cases h
  | .dict _ :: _, _, h => by cases h
def tidxD (a : D) (l : List D) : Option D := (plainD a).bind fun e => match e, l with
  | .tuple ds, [.int k] => (intsOf ds).bind fun ns => if k ∈ ns then some (.int (ns.idxOf k : Nat)) else none
  | _, _ => none
@[simp] theorem tidxD_x (ns : List Int) (k : Int) : tidxD (xtup (ns.map .int)) [.int k] = if k ∈ ns then some (.int (ns.idxOf k : Nat)) else none := by
  unfold tidxD
  simp
theorem e_m_tidx {X : Cx} {o e : Expr} {apos cpos : Pos} {f fe : Fn} (ho : PE X o (tD X.K f)) (he : PE X e (tD X.K fe)) (hbase : attributeBase o "index" X.env (eval o X.env) = eval o X.env := by rfl) (hs : starEach [e] X.env = [(false, eval e X.env)] := by rfl) (hline : (apos.endLine == cpos.line) = true := by rfl) :
    PE X (.Call (.Attribute o "index" apos) [e] [] cpos) (tD X.K (mf tidxD f (acons fe anil))) := by
  refine ⟨fun pins s σ H Q I ⟨ρ, d, E, hf, k⟩ => ?_⟩
  unfold mf at hf
  cases q : f ρ with
  | none => rw [q] at hf; cases hf
  | some a =>
    cases q2 : fe ρ with
    | none => rw [q] at hf; simp [q2] at hf
    | some b =>
      rw [q] at hf
      simp only [Option.bind_some, acons, q2, anil] at hf
      refine PySem.Call_method1 hbase hs hline (thn (ho.run pins s σ H (fun v H1 => Same H H1 ∧ Rp X.K H1 v a) I ⟨ρ, a, E, q, fun v H' s' r => ⟨s', r⟩⟩) fun v s1 ⟨x, H1, I1, r1, s01, rp1⟩ => ?_)
      unfold tidxD at hf
      cases q3 : plainD a with
      | none => rw [q3] at hf; cases hf
      | some a' =>
        rw [q3] at hf
        obtain ⟨ds, rfl, rfl⟩ := plainD_inv q3
        simp only [Option.bind_some] at hf
        split at hf
        · rename_i ds' kk e1 e2
          cases e1
          cases e2
          cases q4 : intsOf ds with
          | none => rw [q4] at hf; cases hf
          | some ns =>
            rw [q4] at hf
            simp only [Option.bind_some] at hf
            have en := intsOf_map q4
            subst en
            split at hf
            · rename_i hk
              cases hf
              obtain ⟨p, ob, xs, rfl, h1, h2, h3⟩ := xtup_inv rp1
              have ex := h3.ints
              subst ex
              cases r1
              obtain ⟨ho1, ho2⟩ := I1.hok p _ h1
              obtain ⟨its0, rv0, pl0, hz0⟩ := I1.tuple (.inr ⟨ob, h1⟩ |> Or.inl)
              refine ⟨"tuple", _, PySem.F.plainAttrs_tuple, PySem.F.slot_tuple_index, PySem.F.type_tuple_index, pl0.typeIs, (fun a0 e0 => by cases e0; exact ⟨ob, ho1, h2⟩), Calls.callWith_builtin rfl (Calls.evalArgs_plain (Calls.spliced_cons ?_))⟩
              refine thn (he.run pins s1 σ H1 (fun v H2 => Same H1 H2 ∧ Rp X.K H2 v (.int kk)) I1 ⟨ρ, .int kk, E.mono s01, q2, fun v H' s' r => ⟨s', r⟩⟩) fun u s2 ⟨y, H2, I2, r2, s12, rp2⟩ => Calls.spliced_nil ?_
              have ey := rp2.int_inv
              subst ey
              obtain ⟨t, rfl⟩ := r2
              obtain ⟨its, rv, pl, hz⟩ := I2.tuple (a := p) (xs := ns.map V.int) (.inl (.inr ⟨ob, s12 _ _ h1⟩))
              exact PySem.SeqAt.tuple_index_ints pl (intsAre_of rv) hk ⟨.int _, H2, I2.tok _, ⟨_, rfl⟩, k _ H2 (s01.trans s12) (.int _)⟩
            · cases hf
        · cases hf
end Tv

/-! ### sorted of a tuple -/
namespace SrtT
open PySem PyProof.Rows Srt SrtO
section
variable {prog : Program} {w : World} {A : Around} {E : Value → Shared → Prop} {s : Shared}
theorem collect_tup {l : Addr} {o : Obj} {vs : List Value} {n : Nat} {Q : List Value → Shared → Prop} (ho : s.heap.get? l = some o) (hc : o.cls = .type "tuple") (hd : o.data = .seq vs.toArray n)
    (h : Q vs { s with heap := (s.heap.push (seqObj "list" #[] 0)).update s.heap.objs.size (Obj.mapSeq (· ++ vs.toArray)) }) (hsz : vs.length ≤ sizeLine) :
    wpAny (model prog w) A (collect (.ref l)) Q E s := by
  unfold collect
  refine wpAny_bind (wpAny_runValue (codeAny_builtin entry_proto_collect' ?_))
  show wpAny _ _ (do again (.builtin "list.__iadd__" ⟨[← newList [], .ref l], []⟩)) _ _ s
  refine wpAny_bind (wpAny_newList (wpAny_pure ⟨Code.quiet_builtin _ (by decide +kernel), codeAny_builtin entry_list_iadd' ?_⟩))
  show wpAny _ _ (Builtin.List.listExtendWith (.ref s.heap.objs.size) (.ref l) (.ref s.heap.objs.size)) _ _ { s with heap := s.heap.push (seqObj "list" #[] 0) }
  unfold Builtin.List.listExtendWith
  have ho' : (s.heap.push (seqObj "list" #[] 0)).get? l = some o := Heap.get?_push_of_some _ ho
  refine wpAny_bind (wpAny_typeOf (T := "tuple") ⟨o, ho', hc⟩ ?_)
  have ht : (Value.type "tuple" == Value.type "tuple") = true := by rfl
  rw [if_pos (by rw [ht]; simp)]
  refine wpAny_bind (listItems_at ho' hd ?_)
  refine wpAny_bind (listItems_at (xs := #[]) (n := 0) (Heap.get?_push_size _ rfl) rfl ?_)
  rw [if_neg (by simp)]
  refine wpAny_bind (listUpdate_at (xs := #[]) (n := 0) (Heap.get?_push_size _ rfl) rfl ?_ (Nat.zero_le _) (by show (#[] ++ vs.toArray).size ≤ sizeLine + 1; simp only [Array.size_append, List.size_toArray, List.length_nil]; omega))
  refine wpAny_pure ?_
  show wpAny (model prog w) A (do
      let o ← load s.heap.objs.size
      match o.data with
      | .seq xs _ => pure xs.toList
      | _ => unsupported "internal:collect") Q E { s with heap := (s.heap.push (seqObj "list" #[] 0)).update s.heap.objs.size (Obj.mapSeq (· ++ vs.toArray)) }
  refine wpAny_bind (wpAny_load (get?_update_seq (Heap.get?_push_size _ rfl) _) ?_)
  show wpAny _ _ (pure ((#[] : Array Value) ++ vs.toArray).toList) Q E _
  rw [show ((#[] : Array Value) ++ vs.toArray).toList = vs by simp]
  exact wpAny_pure h
theorem sorted_ordT {l : Addr} {o : Obj} {n : Nat} {vs : List Value} {ltv : Value → Value → Bool} {Q : Value → Shared → Prop} (O : Swo ltv) (ho : s.heap.get? l = some o) (hc : o.cls = .type "tuple") (hd : o.data = .seq vs.toArray n) (hz : vs.length ≤ sizeLine)
    (hS : 2 ≤ vs.length → ∀ (h₁ : Heap) (a : Addr), h₁.get? a = some (seqObj "list" vs.toArray 0) → (∀ b o, s.heap.get? b = some o → b ≠ a ∧ h₁.get? b = some o) → SortableO prog w A.in1.in1 { s with heap := h₁ } a vs ltv)
    (h : ∀ out : List Value, Srtd ltv out → Stb ltv out vs → Q (.ref (s.heap.objs.size + 1)) { s with heap := sortedAll s.heap vs out.toArray }) :
    wpAny (model prog w) A (call (.builtin "sorted") [.ref l]) Q E s := by
  refine Calls.call_function_entry kind_sorted plain_sorted entry_sorted (args_sorted1 _) ?_
  unfold Builtin.«sorted»
  refine wpAny_bind (m := checkCount "sorted" 1 1 _) (wpAny_pure ?_)
  refine wpAny_bind (collect_tup ho hc hd ?_ hz)
  refine wpAny_bind (wpAny_newList ?_ hz)
  have hsz : ((s.heap.push (seqObj "list" #[] 0)).update s.heap.objs.size (Obj.mapSeq (· ++ vs.toArray))).objs.size = s.heap.objs.size + 1 := by
    rw [Heap.size_update, size_push']
  have hoL : (((s.heap.push (seqObj "list" #[] 0)).update s.heap.objs.size (Obj.mapSeq (· ++ vs.toArray))).push (seqObj "list" vs.toArray 0)).get? (s.heap.objs.size + 1) = some (seqObj "list" vs.toArray 0) := by
    rw [← hsz]; exact Heap.get?_push_size _ rfl
  have keep : ∀ b o, s.heap.get? b = some o → b ≠ s.heap.objs.size + 1 ∧ (((s.heap.push (seqObj "list" #[] 0)).update s.heap.objs.size (Obj.mapSeq (· ++ vs.toArray))).push (seqObj "list" vs.toArray 0)).get? b = some o := fun b o q => by
    have hlt : b < s.heap.objs.size := Heap.lt_size q
    refine ⟨Nat.ne_of_lt (Nat.lt_succ_of_lt hlt), Heap.get?_push_of_some _ ?_⟩
    rw [Heap.get?_update_ne _ _ _ _ (Nat.ne_of_lt hlt)]
    exact Heap.get?_push_of_some _ q
  show wpAny _ _ _ _ _ { s with heap := ((s.heap.push (seqObj "list" #[] 0)).update s.heap.objs.size (Obj.mapSeq (· ++ vs.toArray))).push (seqObj "list" vs.toArray 0) }
  rw [hsz]
  refine wpAny_bind (wpAny_holding (wpAny_call_entry slot_list_sort ⟨_, hoL, rfl⟩ entry_list_sort (list_sort_ord O hoL hz (fun h2 => hS h2 _ _ hoL keep) fun out hs hb => ⟨_, rfl, ?_⟩) (args_list_sort _)))
  exact wpAny_pure ⟨_, rfl, h out hs hb⟩
end
end SrtT
namespace Tv
open PySem PySem.Spec L2
def rSortedTI (K : PySem.W.Frag) : List V → Hp → VK → Prop := fun vs H Q => ∃ (a : Addr) (ns : List Int), vs = [V.ref a] ∧ SqT K H a (ns.map V.int) ∧
  ∀ (ns' : List Int) (p : Addr), ns'.Perm ns → ns'.Pairwise (· ≤ ·) → H p = none → Q (.ref p) (upd H p (.lst (ns'.map V.int)))
theorem cr_sortedTI {X : Cx} : CallR X (.builtin "sorted") (rSortedTI X.K) := by
  intro pins s σ H vs us Q I r h
  obtain ⟨a, ns, rfl, hs, q⟩ := h
  obtain ⟨its, rv, ⟨o, ho, hc, n, hd⟩, hz⟩ := I.tuple hs
  rw [Vals.ref1 r]
  have hi := rv.ints
  refine SrtT.sorted_ordT SrtO.swo_int ho hc hd (by rw [← rv.length]; exact hz) (fun h2 h₁ a' _ _ => SrtO.ints_sortable hi h2) fun out h1 h2 => ?_
  obtain ⟨k1, k2, k3⟩ := SrtO.ints_out hi h1 h2
  obtain ⟨ep, he'⟩ := PyProof.Rows.sortedAll_at s.heap its out.toArray
  have hlen : ((out.map SrtO.iv).map V.int).length ≤ sizeLine := by
    rw [List.length_map, k2.length_eq]
    rw [List.length_map] at hz
    exact hz
  exact ⟨.ref _, upd H (s.heap.objs.size + 1) (.lst ((out.map SrtO.iv).map V.int)), I.laid (t' := s.toks) (fun _ _ => PyProof.Rows.sortedAll_old) (Nat.le_succ _) ⟨hlen, out, ep, vals_of_ints k1, he'⟩, rfl, q _ _ k2 k3 (I.hok.fresh (Nat.le_succ _))⟩
/-- in rising order -/
def insI (x : Int) : List Int → List Int
  | [] => [x]
  | y :: l => if x ≤ y then x :: y :: l else y :: insI x l
def srtI : List Int → List Int
  | [] => []
  | x :: l => insI x (srtI l)
theorem insI_perm (x : Int) : ∀ l, (insI x l).Perm (x :: l)
  | [] => List.Perm.refl _
  | y :: l => by
    unfold insI
    split
    · exact List.Perm.refl _
    · exact ((insI_perm x l).cons y).trans (List.Perm.swap _ _ _)
theorem srtI_perm : ∀ l, (srtI l).Perm l
  | [] => List.Perm.refl _
  | x :: l => (insI_perm x _).trans ((srtI_perm l).cons x)
theorem insI_sorted (x : Int) : ∀ l : List Int, l.Pairwise (· ≤ ·) → (insI x l).Pairwise (· ≤ ·)
  | [], _ => by simp [insI]
  | y :: l, h => by
    rw [List.pairwise_cons] at h
    unfold insI
    split
    · rename_i c
      refine List.pairwise_cons.mpr ⟨fun z hz => ?_, List.pairwise_cons.mpr h⟩
      rcases List.mem_cons.mp hz with rfl | hz
      · exact c
      · exact Int.le_trans c (h.1 z hz)
    · rename_i c
      refine List.pairwise_cons.mpr ⟨fun z hz => ?_, insI_sorted x l h.2⟩
      rcases List.mem_cons.mp ((insI_perm x l).mem_iff.mp hz) with rfl | hz
      · omega
      · exact h.1 z hz
theorem srtI_sorted : ∀ l, (srtI l).Pairwise (· ≤ ·)
  | [] => List.Pairwise.nil
  | x :: l => insI_sorted x _ (srtI_sorted l)
theorem sorted_uniq : ∀ {a b : List Int}, a.Perm b → a.Pairwise (· ≤ ·) → b.Pairwise (· ≤ ·) → a = b
  | [], b, p, _, _ => (List.Perm.nil_eq p)
  | x :: a, [], p, _, _ => absurd p.symm.nil_eq (by simp)
  | x :: a, y :: b, p, ha, hb => by
    have h1 := (List.pairwise_cons.mp ha)
    have h2 := (List.pairwise_cons.mp hb)
    have e : x = y := by
      have m1 : x ∈ y :: b := p.mem_iff.mp List.mem_cons_self
      have m2 : y ∈ x :: a := p.mem_iff.mpr List.mem_cons_self
      rcases List.mem_cons.mp m1 with e | m1
      · exact e
      · rcases List.mem_cons.mp m2 with e | m2
        · exact e.symm
        · have := h1.1 y m2
          have := h2.1 x m1
          omega
    subst e
    rw [sorted_uniq ((List.perm_cons x).mp p) h1.2 h2.2]
@[simp] def srtD : List D → Option (List D)
  | [.list ds] => (intsOf ds).map fun ns => (srtI ns).map .int
  | [.tuple ds] => (intsOf ds).map fun ns => (srtI ns).map .int
  | _ => none
theorem cr_sortD {X : Cx} : CallR X (.builtin "sorted") (fun vs H Q => rSortedI X.K vs H Q ∨ rSortedTI X.K vs H Q) := cr_sortedI.or cr_sortedTI
theorem cl_srt {K : PySem.W.Frag} : CallL K (fun vs H Q => rSortedI K vs H Q ∨ rSortedTI K vs H Q) srtD := by
  intro H xs ds es Q r h k
  unfold srtD at h
  split at h
  · rename_i ds'
    cases q : intsOf ds' with
    | none => rw [q] at h; cases h
    | some ns =>
      rw [q] at h
      cases h
      have e := intsOf_map q
      subst e
      cases r with
      | cons r rr =>
        cases rr
        obtain ⟨p, vs, rfl, h1, r1⟩ := r.lst_inv
        have ev := r1.ints
        subst ev
        refine .inl ⟨p, ns, rfl, .of h1, fun ns' p' hp hs hn => ?_⟩
        rw [sorted_uniq (hp.trans (srtI_perm ns).symm) hs (srtI_sorted ns)]
        exact k p' _ H (Same.refl H) hn (RpA.of_ints _)
  · rename_i ds'
    cases q : intsOf ds' with
    | none => rw [q] at h; cases h
    | some ns =>
      rw [q] at h
      cases h
      have e := intsOf_map q
      subst e
      cases r with
      | cons r rr =>
        cases rr
        obtain ⟨p, vs, rfl, h1, r1⟩ := r.tup_inv
        have ev := r1.ints
        subst ev
        refine .inr ⟨p, ns, rfl, .inl h1, fun ns' p' hp hs hn => ?_⟩
        rw [sorted_uniq (hp.trans (srtI_perm ns).symm) hs (srtI_sorted ns)]
        exact k p' _ H (Same.refl H) hn (RpA.of_ints _)
  · cases h
end Tv

/-! Tv23: a text times a number; enumerate over a text. -/
namespace Tv
open PySem PySem.Spec L2
/-! ### a text k times -/
def repS (z : Str) (k : Nat) : Str := ⟨((List.replicate k z.cps.toList).flatten).toArray⟩
theorem repS_fold (z : Str) (k : Nat) : (⟨(List.replicate k z.cps).foldl (· ++ ·) #[]⟩ : Str) = repS z k := by
  have h : ∀ (k : Nat) (acc : Array Nat), (List.replicate k z.cps).foldl (· ++ ·) acc = acc ++ ((List.replicate k z.cps.toList).flatten).toArray := by
    intro k
    induction k with
    | zero => intro acc; simp
    | succ k ih =>
      intro acc
      rw [List.replicate_succ, List.foldl_cons, ih, List.replicate_succ, List.flatten_cons]
      apply Array.ext'
      simp
  unfold repS
  rw [h]
  simp
def rMulS : R2 := fun x y H Q => ∃ z k, x = .str z ∧ y = .int k ∧ 1 ≤ k ∧ k ≤ 100000 ∧ z.length * k.toNat ≤ big ∧ Q (.str (repS z k.toNat)) H
theorem op_mulS {X : Cx} : OpR X (binaryOp .Mult) rMulS := by
  intro pins s σ H x y v u Q I rx ry h
  obtain ⟨z, k, rfl, rfl, h1, h2, h3, q⟩ := h
  obtain ⟨t, rfl⟩ := rx
  obtain ⟨t2, rfl⟩ := ry
  refine PySem.P.mul_str (by
      have a1 : ¬ k < -(2 ^ 63 : Int) := by omega
      have a2 : ¬ k ≥ 2 ^ 63 := by omega
      rw [decide_eq_false a1, decide_eq_false a2]; rfl) (fun _ hb => ?_) (fun _ hb => ?_) ?_
  · have hb2 : (z.length * k.toNat : Int) ≤ 16777216 := by
      have := h3
      rw [show big = 16777216 by decide] at this
      omega
    have e : ((k.toNat : Nat) : Int) = k := by omega
    rw [e] at hb2
    have : ¬ ((z.length : Int) > (2 ^ 63 - 1) / k) := by
      have h4 : (z.length : Int) ≤ (2 ^ 63 - 1) / k := by
        rw [Int.le_ediv_iff_mul_le (by omega)]
        omega
      omega
    exact this
  · unfold Builtin.Str.tooLong
    exact decide_eq_false (Nat.not_lt.mpr h3)
  · rw [if_neg (by omega)]
    split
    · rename_i hb
      rw [Bool.or_eq_true] at hb
      have e : repS z k.toNat = z := by
        rcases hb with hb | hb
        · have : k = 1 := by simpa using hb
          subst this
          unfold repS
          simp
        · have hz : z.length = 0 := by simpa using hb
          have hz2 : z.cps = #[] := Array.size_eq_zero_iff.mp hz
          unfold repS
          cases z
          simp at hz2
          subst hz2
          simp
      rw [e] at q
      exact ⟨.str z, H, I, ⟨t, rfl⟩, q⟩
    · rw [repS_fold]
      have hl : (repS z k.toNat).length = z.length * k.toNat := by
        show (repS z k.toNat).cps.size = _
        unfold repS
        rw [List.size_toArray, List.length_flatten, List.map_replicate, List.sum_replicate_nat, Array.length_toList, Nat.mul_comm]
        rfl
      exact ⟨by rw [hl]; exact h3, .str _, H, I.tok _, ⟨_, rfl⟩, q⟩
def rMulX (K : PySem.W.Frag) : R2 := fun x y H Q => rMulD K x y H Q ∨ rMulS x y H Q
theorem or_mulX {X : Cx} : OpR X (binaryOp .Mult) (rMulX X.K) := or_mul.or op_mulS
/-- *, of texts, too -/
@[simp] def mulX : D → D → Option D
  | .str z, .int k => if 1 ≤ k ∧ k ≤ 100000 ∧ z.length * k.toNat ≤ big then some (.str (repS z k.toNat)) else none
  | a, b => mulD a b
theorem od_mulX {K : PySem.W.Frag} : OpD K (rMulX K) mulX := by
  intro H x y a b d Q ra rb h k
  unfold mulX at h
  split at h
  · split at h
    · cases h
      rename_i hs
      exact .inr ⟨_, _, ra.str_inv, rb.int_inv, hs.1, hs.2.1, hs.2.2, k _ H (Same.refl H) (.str _)⟩
    · cases h
  · exact .inl (od_mul H x y _ _ d Q ra rb h k)
/-! ### enumerate of a text -/
def ItS (x : Str) : It :=
  ⟨fun i _ => i < x.cps.size, fun i H v H' => ∃ T c, v = .ref T ∧ H T = none ∧ H' = upd H T (.tup [.int (i : Nat), .str ⟨#[c]⟩]) ∧ x.cps[i]? = some c, fun i _ => i = x.cps.size⟩
theorem drawsU {prog : Program} {w : World} {A : Around} (hh : A.handled = none) (it : Addr) (x : Str) (t : Tok) :
    Draws prog w A it [it] x.cps.size (fun i v => ∃ c u, x.cps[i]? = some c ∧ v = .str ⟨#[c]⟩ u) (fun i h => h.IsStrIter it (strIterType x) x t i) := by
  unfold strIterType
  split
  · exact Draws.strAscii hh it x t
  · exact Draws.strWide hh it x t
theorem turn_enumS {P : Program} {w : World} {K : PySem.W.Frag} {elts : List Expr} {kk : Nat} {tpos : Pos} (x : Str) (t : Tok) (e it : Addr) :
    Turn P w K (.Tuple elts kk tpos) (ItS x) [e, it] e (fun i h => (∃ old, IsEnum h e it ((i : Nat) : Int) old) ∧ h.IsStrIter it (strIterType x) x t i ∧ e ≠ it) where
  mem := by simp
  obj := fun i h st b hb => by
    obtain ⟨⟨old, he⟩, ⟨o, ho, hc, hd⟩, _⟩ := st
    have e' : b = e ∨ b = it := by simpa using hb
    rcases e' with z | z
    · rw [z]; exact ⟨_, he, fun v q => nomatch q⟩
    · rw [z]; exact ⟨o, ho, fun v q => by rw [hd] at q; cases q⟩
  keep := fun i h h' st k => let ⟨⟨old, he⟩, ⟨o, ho, hr⟩, hne⟩ := st; ⟨⟨old, k e (by simp) _ he⟩, ⟨o, k it (by simp) _ ho, hr⟩, hne⟩
  item := by
    intro X hP hw hK hc i pins s σ H E I hf st hg
    subst hP hw hK
    obtain ⟨⟨old, he⟩, hit, hne⟩ := st
    have hel : e < s.heap.objs.size := Heap.lt_size he
    have hil : it < s.heap.objs.size := by obtain ⟨_, q, _⟩ := hit; exact Heap.lt_size q
    have hh : X.A.in1.handled = none := by simp [I.ok.hd hc]
    refine wpAny_pyNext_enum_itemD (drawsU hh it x t) he hit hg hne (by simpa using hne) fun u h' tk hP ho hit' hT hsz hk => ?_
    obtain ⟨c, ut, hx, rfl⟩ := hP
    refine ⟨_, rfl, wpAny_letOwnedTupleGo_enum (s := { s with heap := h', toks := tk + 1 }) ho fun h'' he' sb => ?_⟩
    have hT2 : h''.get? s.heap.objs.size = some { cls := .type "tuple", data := .seq #[.int i tk, .str ⟨#[c]⟩ ut] } := (sb.2 _ (Nat.ne_of_gt hel)).trans hT
    have new : ObjOk X.prog X.w (upd H s.heap.objs.size (.tup [.int (i : Nat), .str ⟨#[c]⟩])) h'' s.heap.objs.size (.tup [.int (i : Nat), .str ⟨#[c]⟩]) :=
      ⟨by show 2 ≤ sizeLine; decide, [.int i tk, .str ⟨#[c]⟩ ut], .cons ⟨_, rfl⟩ (.cons ⟨_, rfl⟩ .nil), ⟨_, hT2, rfl, _, rfl⟩⟩
    have I1 : Inv X pins σ (upd H s.heap.objs.size (.tup [.int (i : Nat), .str ⟨#[c]⟩])) { s with heap := h'', toks := tk + 1 } :=
      I.turnedNew (ch := [e, it]) (fun b ob hb q => (sb.2 b (fun z => hb (by simp [z]))).trans (hk b ob (fun z => hb (by simp [z])) (fun z => hb (by simp [z])) q)) hf (Nat.le_refl _) new
    refine ⟨.ref s.heap.objs.size, _, I1, rfl, ⟨_, c, rfl, I.hok.fresh (Nat.le_refl _), rfl, hx⟩, ⟨⟨.str ⟨#[c]⟩ ut, ?_⟩, ?_, hne⟩, fun b hb => ?_⟩
    · have e1 : ((i + 1 : Nat) : Int) = (i : Int) + 1 := by omega
      rw [e1]; exact he'
    · obtain ⟨o2, ho2, hr2⟩ := hit'
      exact ⟨o2, (sb.2 it (Ne.symm hne)).trans ho2, hr2⟩
    · have hb' : b < s.heap.objs.size := by
        have e' : b = e ∨ b = it := by simpa using hb
        rcases e' with z | z
        · rw [z]; exact hel
        · rw [z]; exact hil
      rw [upd_ne (Nat.ne_of_lt hb')]
      exact (hf b hb).1
  done := by
    intro X hP hw hK hc i pins s σ H E I hf st hg
    subst hP hw hK
    obtain ⟨⟨old, he⟩, hit, hne⟩ := st
    obtain ⟨f0, f1, f2, f3, f4, f5⟩ := hf it (by simp)
    have hh : X.A.in1.handled = none := by simp [I.ok.hd hc]
    rw [show i = x.cps.size from hg] at hit
    exact wpAny_pyNext_enum_endD (drawsU hh it x t) he hit fun h' eb => ⟨rfl, I.turned (t' := s.toks) (fun b o hb q => eb b o hb q) f0 f1 f3 f4 f5⟩
  self := fun A i s Q E st h => let ⟨⟨_, he⟩, _⟩ := st; wpAny_pyIter_enum he h
def iEnumS (ta : TA) : TI := fun σ H R => ta σ H fun vs H1 => ∃ x, vs = [.str x] ∧ R (ItS x) H1
theorem pi_enumS {X : Cx} {e : Expr} {ta : TA} {p pos tpos : Pos} {elts : List Expr} {kk : Nat} (hg : Gl X "enumerate") (hm : X.mg "enumerate" = none) (ha : PA X [e] ta) (hs : starEach [e] X.env = [(false, eval e X.env)] := by rfl) :
    PI X (.Tuple elts kk tpos) (.Call (.Name "enumerate" p) [e] [] pos) (iEnumS ta) := by
  refine ⟨fun pins s σ H R I h => ?_⟩
  refine PyProof.Rows.Call_ (ld_blt I hg hm PyProof.Rows.boot_enumerate (PyProof.Rows.callWith_type1 (thn (ha.run pos pins s σ H _ I h) fun us s1 ⟨vs, H1, I1, r1, q1⟩ => ?_) hs rfl))
  obtain ⟨x, ex, q⟩ := q1
  subst ex
  cases r1 with
  | cons r rr =>
    cases rr
    obtain ⟨t, rfl⟩ := r
    refine call_enumerate_str fun h' he hit hsz hk => wpAny_pyIter_enum he ?_
    have I2 : Inv X pins σ H1 { s1 with heap := h' } := I1.kept (t' := s1.toks) hk
    refine ⟨s1.heap.objs.size + 1, [s1.heap.objs.size + 1, s1.heap.objs.size], _, _, H1, rfl, I2, turn_enumS x t (s1.heap.objs.size + 1) s1.heap.objs.size, ⟨⟨.none, he⟩, hit, Nat.succ_ne_self _⟩, fun b hb => ?_, q⟩
    have e' : b = s1.heap.objs.size + 1 ∨ b = s1.heap.objs.size := by simpa using hb
    have hle : s1.heap.objs.size ≤ b := by
      rcases e' with z | z
      · rw [z]; exact Nat.le_add_right _ _
      · rw [z]; exact Nat.le_refl _
    exact I1.fpOk hle (I1.hok.fresh hle)
def enumSD : List D → Option (List D)
  | [.str x] => some (enumL (chs x))
  | _ => none
@[simp] def ienumS (f : Store → Option (List D)) : Store → Option (List D) := fun ρ => (f ρ).bind enumSD
theorem itS_ok {K : PySem.W.Frag} {Hs : Hp} {x : Str} : ItOk K (ItS x) (enumL (chs x)) Hs := fun i H s => by
  refine ⟨fun hi => ?_, fun d hd => ?_⟩
  · have : (enumL (chs x)).length = x.cps.size := by simp [enumL, chs]
    exact hi.trans this
  · unfold enumL at hd
    rw [List.getElem?_zipWith] at hd
    cases q : (List.range (chs x).length)[i]? with
    | none => rw [q] at hd; simp at hd
    | some c =>
      cases q2 : (chs x)[i]? with
      | none => rw [q, q2] at hd; simp at hd
      | some e =>
        rw [q, q2] at hd
        obtain ⟨hl, e1⟩ := List.getElem?_eq_some_iff.mp q
        rw [List.getElem_range] at e1
        subst e1
        cases hd
        unfold chs at q2
        rw [List.getElem?_map] at q2
        cases q3 : x.cps.toList[i]? with
        | none => rw [q3] at q2; cases q2
        | some z =>
          rw [q3] at q2
          cases q2
          have hi : i < x.cps.size := by
            have := (List.getElem?_eq_some_iff.mp q3).1
            simpa using this
          refine ⟨hi, fun y H' ⟨T, c, e1, e2, e3, e4⟩ => .inr ⟨T, [.int (i : Nat), .str ⟨#[c]⟩], _, e2, e1, e3, rfl, .cons (.int _) (.one ?_)⟩⟩
          rw [Array.getElem?_toList] at q3
          rw [q3] at e4
          cases e4
          exact .str _
theorem i_enumS {X : Cx} {a : Expr} {f : Store → Option (List D)} {p pos tpos : Pos} {elts : List Expr} {kk : Nat} (hm : X.mg "enumerate" = none) (ha : PA X [a] (tA X.K f)) (hg : Gl X "enumerate" := by rfl) (hs : starEach [a] X.env = [(false, eval a X.env)] := by rfl) :
    PI X (.Tuple elts kk tpos) (.Call (.Name "enumerate" p) [a] [] pos) (iD X.K (ienumS f)) := (pi_enumS hg hm ha hs).imw fun σ H R ⟨ρ, ds, E, hf, k⟩ => by
  unfold ienumS at hf
  cases q : f ρ with
  | none => rw [q] at hf; cases hf
  | some as =>
    rw [q] at hf
    simp only [Option.bind_some] at hf
    refine ⟨ρ, as, E, q, fun vs H1 s1 r1 => ?_⟩
    unfold enumSD at hf
    split at hf
    · cases hf
      cases r1 with
      | cons r rr =>
        cases rr
        exact ⟨_, by rw [r.str_inv], k _ H1 s1 itS_ok⟩
    · cases hf
end Tv

/-! Tv24: sorted(set(list of ints)). -/
namespace SetL
open PySem PySem.Spec PyProof.Rows L2
section
variable {P : Program} {w : World} {A : Around} {E : Value → Shared → Prop} {s : Shared}
set_option maxHeartbeats 3200000 in
theorem call_set_lstI {l : Addr} {items : Array Value} (ns : List Int) {Q : Value → Shared → Prop} (hh : A.handled = none) (hl : s.heap.IsList l items) (hit : IntsAre items.toList ns) (hb : ns.length + 1 < scanBound)
    (h : ∀ (h' : Heap) (tk c : Nat), SetR w h' s.heap.objs.size (fun j => decide (j ∈ ns)) c → c ≤ ns.length → (∀ b o, s.heap.get? b = some o → h'.get? b = some o) → Q (.ref s.heap.objs.size) { s with heap := h', toks := tk }) :
    wpAny (model P w) A (call (.type "set") [.ref l]) Q E s := by
  have hisz : items.size = ns.length := by
    have q := IntsAre.length hit
    rw [Array.length_toList] at q
    exact q
  obtain ⟨c, tl, hmro⟩ := F.called_set.mro
  have hmade := F.called_set.made
  have hsub := F.called_set.sub
  refine wpAny_call (codeAny_of_tree ?_)
  show wpAny _ _ (callAny (.type "set") _) _ _ _
  refine wpAny_pure ⟨Code.quiet_builtin _ (by decide +kernel), codeAny_builtin F.entry_type_call ?_⟩
  rw [Around.under_plain (weight_type_call_type "set" [.ref l] []) rfl]
  have h1 := F.called_set.notType
  have h2 := F.called_set.canCreate
  have hct := F.typeCall_set_1 (.ref l)
  repeat (any_goals (first | assumption | wp_step))

  refine codeAny_mono (code_set_led1 (.ref l) (E := E) (Q₁ := fun obj s₁ => obj = .ref s.heap.objs.size ∧ s₁ = { s with heap := s.heap.push { cls := .type "set", dict := none, data := .set #[] 0 (.fresh 0 0 (!w.params.followText "set-order")) } }) ⟨rfl, rfl⟩) fun r s₁ hr => ?_
  cases r with
  | error e => exact hr
  | ok fl =>
    cases fl with
    | ret obj =>
      obtain ⟨rfl, rfl⟩ := hr
      have hS : (s.heap.push { cls := .type "set", dict := none, data := .set #[] 0 (.fresh 0 0 (!w.params.followText "set-order")) }).get? s.heap.objs.size = some { cls := .type "set", dict := none, data := .set #[] 0 (.fresh 0 0 (!w.params.followText "set-order")) } := Heap.get?_push_size _ rfl
      have hT : Shared.TypeIs { s with heap := s.heap.push { cls := .type "set", dict := none, data := .set #[] 0 (.fresh 0 0 (!w.params.followText "set-order")) } } (.ref s.heap.objs.size) "set" := ⟨_, hS, rfl⟩
      have hli := F.called_set.init.lookup
      have hbi := F.called_set.init.bind (.ref s.heap.objs.size)
      repeat (any_goals (first | assumption | wp_step))

      refine codeAny_mono (codeAny_call_builtin (R := wants (fun r s₂ => r = .none ∧ ∃ h' tk c, s₂ = { s with heap := h', toks := tk } ∧ SetR w h' s.heap.objs.size (fun j => decide (j ∈ ns)) c ∧ c ≤ ns.length ∧
          (∀ b o, s.heap.get? b = some o → h'.get? b = some o)) E) F.called_set.init.plain F.entry_set_init (check_set_init_1 hT ?_)) fun r₂ s₂ hr₂ => ?_
      · obtain ⟨ol, hol, hcl, nl, hdl⟩ := hl
        obtain ⟨ocls, odict, odata, oslots⟩ := ol
        simp only at hcl hdl
        subst hcl; subst hdl
        have hol' : (s.heap.push { cls := .type "set", dict := none, data := .set #[] 0 (.fresh 0 0 (!w.params.followText "set-order")) }).get? l = some { cls := .type "list", dict := odict, data := .seq items nl, slots := oslots } := Heap.get?_push_of_some _ hol
        have hsls := F.sub_list_set
        have hslf := F.sub_list_frozenset
        have hne : (Value.type "list" == Value.type "dict") = false := by decide
        have hl1 : (s.heap.push { cls := .type "set", dict := none, data := .set #[] 0 (.fresh 0 0 (!w.params.followText "set-order")) }).IsList l items := ⟨_, hol', rfl, nl, rfl⟩
        unfold Builtin.«set.__init__» noKeywords Builtin.Frozenset.updateFrom
        generalize hPI : pyIter = PI
        wp_walk
        subst hPI

        refine wpAny_pyIter_list hl1 ?_
        refine wpAny_bind (wpAny_runValue ?_)
        have hlS : l < s.heap.objs.size := Heap.lt_size hol
        have hh3 : A.in1.in1.in1.handled = none := by simp [hh]
        have hneI : l ≠ (s.heap.push { cls := .type "set", dict := none, data := .set #[] 0 (.fresh 0 0 (!w.params.followText "set-order")) }).objs.size := by
          rw [Heap.size_push]; exact Nat.ne_of_lt (Nat.lt_succ_of_lt hlS)
        have hSf : s.heap.objs.size ∉ [(s.heap.push { cls := .type "set", dict := none, data := .set #[] 0 (.fresh 0 0 (!w.params.followText "set-order")) }).objs.size, l] := by
          rw [Heap.size_push]; simp only [List.mem_cons, List.mem_singleton, List.not_mem_nil, or_false, not_or]
          exact ⟨Nat.ne_of_lt (Nat.lt_succ_self _), Nat.ne_of_gt hlS⟩
        have hval : ∀ (i : Nat) (v : Value), items[i]? = some v → ∃ k t, ns[i]? = some k ∧ v = .int k t := fun i v hv => by
          have hi : i < ns.length := by rw [← hisz]; exact (Array.getElem?_eq_some_iff.mp hv).1
          obtain ⟨t, e⟩ := PyProof.Rows.IntsAre.int_at hit i v (by rw [Array.getElem?_toList]; exact hv)
          refine ⟨ns[i], t, List.getElem?_eq_getElem hi, ?_⟩
          rw [e, List.getD_eq_getElem?_getD, List.getElem?_eq_getElem hi] <;> rfl
        refine set_update_ints ((Walks.list hh3 _ l hneI items).toS) s.heap.objs.size
          hSf ns hisz hb hval (items.size - 0) 0 _ (by omega) (Nat.zero_le _)
          ⟨⟨_, Heap.get?_push_size _ rfl, rfl, rfl⟩, (hl1.push _)⟩ ?hS0 ?hR
        case hS0 =>
          have hget : ((s.heap.push { cls := .type "set", dict := none, data := .set #[] 0 (.fresh 0 0 (!w.params.followText "set-order")) }).push { cls := .type "list_iterator", data := .fields #[.ref l, .int 0 0] }).get? s.heap.objs.size
              = some { cls := .type "set", dict := none, data := .set #[] 0 (.fresh 0 0 (!w.params.followText "set-order")) } := Heap.get?_push_of_some _ hS
          exact ⟨0, Nat.le_refl 0, setR_new_at hget⟩
        case hR =>
          intro s' c' hm hc' hS'
          obtain ⟨h', g2, d', tk', os'⟩ := s'
          have eg : g2 = s.gens := hm.gens
          have ed : d' = s.drawn := hm.drawn
          have eo : os' = s.os := hm.os
          subst eg; subst ed; subst eo
          show wpAny _ _ _ _ _ _
          refine wpAny_pure ?_
          show wpAny _ _ (ret Value.none) _ _ _
          rw [hisz] at hc'
          refine wpAny_pure ⟨rfl, h', tk', c', rfl, hS', hc', fun b o e => ?_⟩
          have hb0 : b < s.heap.objs.size := Heap.lt_size e
          have hb1 : b ≠ s.heap.objs.size := Nat.ne_of_lt hb0
          have hb2 : b ≠ (s.heap.push { cls := .type "set", dict := none, data := .set #[] 0 (.fresh 0 0 (!w.params.followText "set-order")) }).objs.size := by
            rw [Heap.size_push]; exact Nat.ne_of_lt (Nat.lt_succ_of_lt hb0)
          exact hm.heap b o (by simp only [List.mem_cons, List.mem_singleton, List.not_mem_nil, or_false, not_or]; exact ⟨hb1, hb2⟩) (Heap.get?_push_of_some _ (Heap.get?_push_of_some _ e))

      · cases r₂ with
        | error e => exact hr₂
        | ok fl₂ =>
          cases fl₂ with
          | ret r =>
            obtain ⟨rfl, h', tk, c', rfl, hS', hc', hk'⟩ := hr₂
            repeat (any_goals (first | assumption | wp_step))
            exact h _ _ _ hS' hc' hk'
          | _ => exact hr₂.elim
    | _ => exact hr.elim
end
end SetL
namespace Tv
open PySem PySem.Spec L2
theorem few_of {N : Nat} : ∀ {l : List Int}, l.Nodup → (∀ k ∈ l, 1 ≤ k ∧ k ≤ (N : Int)) → l.length ≤ N := by
  induction N with
  | zero =>
    intro l _ h
    cases l with
    | nil => simp
    | cons a l => have := h a List.mem_cons_self; omega
  | succ N ih =>
    intro l nd h
    have h1 : (l.erase ((N : Int) + 1)).length ≤ N := ih (nd.erase _) fun k hk => by
      have m := (nd.mem_erase_iff).mp hk
      have := h k m.2
      have := m.1
      omega
    have h2 := List.length_erase (l := l) (a := ((N : Int) + 1))
    split at h2 <;> omega
theorem setR_few {w : World} {h : Heap} {a : Addr} {S : Int → Bool} {n N : Nat} (R : L2.SetR w h a S n) (hS : ∀ k, S k = true → 1 ≤ k ∧ k ≤ (N : Int)) : n ≤ N := by
  obtain ⟨o, es, ep, t, ho, hx, hd, g, nd, hm, hb, hf, hn, _⟩ := R
  have := few_of nd fun k hk => hS k ((hm k).mpr hk)
  rw [List.length_map, Array.length_toList] at this
  omega
def rSetL (K : PySem.W.Frag) (w : World) : List V → Hp → VK → Prop := fun vs H Q => ∃ (a : Addr) (ns : List Int), vs = [V.ref a] ∧ SqL K H a (ns.map V.int) ∧ ns.length ≤ 4000 ∧ (∀ k ∈ ns, 1 ≤ k ∧ k ≤ 63) ∧
  ∀ (p : Addr) (c : Nat), H p = none → c < 64 → Q (.ref p) (upd H p (SetO w p (fun j => decide (j ∈ ns)) c))
theorem cr_setL {X : Cx} (hc : X.calm = true) : CallR X (.type "set") (rSetL X.K X.w) := by
  intro pins s σ H xs us Q I r h
  obtain ⟨l, ns, rfl, hl, hk, hf, q⟩ := h
  rw [Vals.ref1 r]
  obtain ⟨its, rv, pl, hz⟩ := I.list hl
  have hn : H s.heap.objs.size = none := I.hok.fresh (Nat.le_refl _)
  refine SetL.call_set_lstI ns (I.ok.hd hc) pl.isList (by simpa using ints_of_vals rv) (by rw [show scanBound = 4096 from rfl]; omega) fun h' tk c R _ k => ?_
  have h64 : c ≤ 63 := setR_few R fun j hj => hf j (of_decide_eq_true hj)
  exact ⟨.ref s.heap.objs.size, upd H s.heap.objs.size (SetO X.w s.heap.objs.size (fun j => decide (j ∈ ns)) c), I.laid (t' := tk) k (Nat.le_refl _) (setO_new R), rfl, q _ c hn (by omega)⟩
/-- each once -/
def ddI : List Int → List Int
  | [] => []
  | x :: l => if x ∈ l then ddI l else x :: ddI l
theorem mem_ddI {k : Int} : ∀ {l : List Int}, k ∈ ddI l ↔ k ∈ l
  | [] => Iff.rfl
  | x :: l => by
    unfold ddI
    split
    · rename_i h
      rw [mem_ddI, List.mem_cons]
      exact ⟨.inr, fun h2 => h2.elim (fun e => e ▸ h) id⟩
    · rw [List.mem_cons, List.mem_cons, mem_ddI]
theorem ddI_nodup : ∀ l : List Int, (ddI l).Nodup
  | [] => List.nodup_nil
  | x :: l => by
    unfold ddI
    split
    · exact ddI_nodup l
    · rename_i h
      exact List.nodup_cons.mpr ⟨fun h2 => h (mem_ddI.mp h2), ddI_nodup l⟩
/-- in rising order, each once -/
def ssI (l : List Int) : List Int := srtI (ddI l)
theorem mem_ssI {k : Int} {l : List Int} : k ∈ ssI l ↔ k ∈ l := ((srtI_perm _).mem_iff).trans mem_ddI
theorem ssI_lt (l : List Int) : (ssI l).Pairwise (· < ·) := by
  have h1 := srtI_sorted (ddI l)
  have h2 : (ssI l).Nodup := ((srtI_perm _).nodup_iff).mpr (ddI_nodup l)
  exact (h1.and h2).imp fun h => by have := h.1; have := h.2; omega
theorem lt_uniq : ∀ {a b : List Int}, a.Pairwise (· < ·) → b.Pairwise (· < ·) → (∀ k, k ∈ a ↔ k ∈ b) → a = b
  | [], [], _, _, _ => rfl
  | [], y :: b, _, _, h => absurd ((h y).mpr List.mem_cons_self) (by simp)
  | x :: a, [], _, _, h => absurd ((h x).mp List.mem_cons_self) (by simp)
  | x :: a, y :: b, ha, hb, h => by
    have h1 := List.pairwise_cons.mp ha
    have h2 := List.pairwise_cons.mp hb
    have e : x = y := by
      rcases List.mem_cons.mp ((h x).mp List.mem_cons_self) with e | m1
      · exact e
      · rcases List.mem_cons.mp ((h y).mpr List.mem_cons_self) with e | m2
        · exact e.symm
        · have := h1.1 y m2
          have := h2.1 x m1
          omega
    subst e
    rw [lt_uniq h1.2 h2.2 fun k => ?_]
    constructor
    · intro hk
      rcases List.mem_cons.mp ((h k).mp (List.mem_cons_of_mem _ hk)) with e | m
      · have := h1.1 k hk; omega
      · exact m
    · intro hk
      rcases List.mem_cons.mp ((h k).mpr (List.mem_cons_of_mem _ hk)) with e | m
      · have := h2.1 k hk; omega
      · exact m
def ssD : List D → Option (List D)
  | [.list ds] => (intsOf ds).bind fun ns => if (decide (ns.length ≤ 4000) && ns.all fun k => decide (1 ≤ k) && decide (k ≤ 63)) = true then some ((ssI ns).map .int) else none
  | _ => none
theorem l_sset {X : Cx} {e : Expr} {f : Store → Option (List D)} {p p2 pos pos2 : Pos} (hs : X.mg "sorted" = none) (hm : X.mg "set" = none) (ha : PA X [e] (tA X.K f)) (hc : X.calm = true := by rfl) (hg : Gl X "sorted" := by rfl) (hg2 : Gl X "set" := by rfl)
    (he : starEach [e] X.env = (false, eval e X.env) :: starEach [] X.env := by rfl)
    (he2 : starEach [.Call (.Name "set" p2) [e] [] pos2] X.env = (false, eval (.Call (.Name "set" p2) [e] [] pos2) X.env) :: starEach [] X.env := by rfl) :
    PE X (.Call (.Name "sorted" p) [.Call (.Name "set" p2) [e] [] pos2] [] pos) (tL X.K (cfl ssD f)) :=
  (pe_callB (cr_sortedSet hc) hg hs (by decide +kernel) (pa_cons (pe_callTy (cr_setL hc) hg2 hm (by decide +kernel) ha (by decide) (by decide) he rfl) pa_nil he2) (by decide) (by decide) he2 rfl).imw fun σ H Q ⟨ρ, d, E, hf, k⟩ => by
    unfold cfl at hf
    cases q : f ρ with
    | none => rw [q] at hf; cases hf
    | some as =>
      rw [q] at hf
      simp only [Option.bind_some] at hf
      unfold ssD at hf
      split at hf
      · rename_i ds
        cases q2 : intsOf ds with
        | none => rw [q2] at hf; cases hf
        | some ns =>
          rw [q2] at hf
          simp only [Option.bind_some] at hf
          split at hf
          · rename_i hb
            cases hf
            have hm := intsOf_map q2
            subst hm
            simp only [Bool.and_eq_true, decide_eq_true_eq, List.all_eq_true] at hb
            refine ⟨ρ, _, E, q, fun vs H1 s1 r1 => ?_⟩
            cases r1 with
            | cons r rr =>
              cases rr
              obtain ⟨a, xs, rfl, h1, h2⟩ := r.lst_inv
              have ev := h2.ints
              subst ev
              refine ⟨a, ns, rfl, .of h1, hb.1, hb.2, fun p c hp h64 => ⟨p, _, c, rfl, upd_same, h64, fun ns' p' hs hm hl hn => ?_⟩⟩
              have e : ns' = ssI ns := lt_uniq hs (ssI_lt ns) fun j => by rw [hm, mem_ssI, decide_eq_true_eq]
              subst e
              exact k p' _ _ (s1.trans (same_upd hp)) hn (RpA.of_ints _)
          · cases hf
      · cases hf
end Tv

/-! Tv25: dict of a list of pairs (int, thing). -/
namespace Tv
open PySem PySem.Spec L2
def pairK : D → Option Int
  | .tuple [.int k, .bool true] => some k
  | _ => none
def addK (acc : List Int) (k : Int) : List Int := if k ∈ acc then acc else acc ++ [k]
def dkI (ks : List Int) : List Int := ks.foldl addK []
theorem mem_addK {acc : List Int} {k j : Int} : j ∈ addK acc k ↔ j ∈ acc ∨ j = k := by
  unfold addK
  split
  · rename_i h
    exact ⟨.inl, fun h2 => h2.elim id fun e => e ▸ h⟩
  · simp
theorem mem_foldK {j : Int} : ∀ {ks acc : List Int}, j ∈ ks.foldl addK acc ↔ j ∈ acc ∨ j ∈ ks
  | [], acc => by simp
  | k :: ks, acc => by
    rw [List.foldl_cons, mem_foldK, mem_addK, List.mem_cons, or_assoc]
theorem mem_dkI {j : Int} {ks : List Int} : j ∈ dkI ks ↔ j ∈ ks := by
  unfold dkI
  rw [mem_foldK]
  simp
def pairKs : List D → Option (List Int)
  | [] => some []
  | d :: ds => (pairK d).bind fun k => (pairKs ds).map (k :: ·)
theorem pairKs_mk : ∀ ks : List Int, pairKs (ks.map fun k => .tuple [.int k, .bool true]) = some ks
  | [] => rfl
  | k :: ks => by
    show ((pairKs (ks.map fun k => (.tuple [.int k, .bool true] : D))).map (k :: ·)) = _
    rw [pairKs_mk ks]; rfl
@[simp] def dictD : List D → Option D
  | [.list ds] => (pairKs ds).map fun ks => dks (dkI ks)
  | _ => none
def kTr (ks : List Int) : List (Key × V) := ks.map fun k => (Sum.inl k, V.bl true)
theorem putK_kTr (ks : List Int) (k : Int) : putK (kTr ks) (.inl k) (.bl true) = kTr (addK ks k) := by
  have e : ((kTr ks).any fun kv => decide (kv.1 = Sum.inl k)) = decide (k ∈ ks) := by
    unfold kTr
    rw [List.any_map, Bool.eq_iff_iff, List.any_eq_true, decide_eq_true_eq]
    constructor
    · rintro ⟨x, hx, e⟩
      have e := of_decide_eq_true e
      injection e with e
      exact e ▸ hx
    · intro hk
      exact ⟨k, hk, decide_eq_true rfl⟩
  unfold putK addK
  rw [e]
  by_cases hk : k ∈ ks
  · rw [if_pos (decide_eq_true hk), if_pos hk]
    unfold kTr
    rw [List.map_map]
    refine List.map_congr_left fun j _ => ?_
    show (if (Sum.inl j : Key) = Sum.inl k then ((Sum.inl j : Key), V.bl true) else (Sum.inl j, V.bl true)) = _
    split <;> rfl
  · rw [if_neg (by simpa using hk), if_neg hk]
    unfold kTr
    rw [List.map_append]
    rfl
theorem mergeK_kTr : ∀ (ms ks : List Int), mergeK (kTr ks) (kTr ms) = kTr (ms.foldl addK ks)
  | [], ks => rfl
  | m :: ms, ks => by
    show mergeK (putK (kTr ks) (.inl m) (.bl true)) (kTr ms) = _
    rw [putK_kTr, mergeK_kTr ms, List.foldl_cons]
theorem pairs_rp {K : PySem.W.Frag} {H : Hp} : ∀ {ds : List D} {xs : List V} {ks : List Int}, RpA K H xs ds → pairKs ds = some ks →
    ∃ (ps : List Addr), xs = ps.map V.ref ∧ Paired (fun p kv => SqT K H p [kV kv.1, kv.2]) ps (kTr ks)
  | [], _, ks, .nil, h => by cases h; exact ⟨[], rfl, .nil⟩
  | d :: ds, _, ks, .cons r t, h => by
    unfold pairKs at h
    cases q : pairK d with
    | none => rw [q] at h; cases h
    | some k =>
      rw [q] at h
      cases q2 : pairKs ds with
      | none => rw [q2] at h; cases h
      | some ks' =>
        rw [q2] at h
        cases h
        obtain ⟨ps, rfl, h3⟩ := pairs_rp t q2
        unfold pairK at q
        split at q
        · cases q
          obtain ⟨p, ys, rfl, h4, h5⟩ := r.tup_inv
          cases h5 with
          | cons r1 rr =>
            cases rr with
            | cons r2 rr =>
              cases rr
              have e := r1.int_inv
              subst e
              have e := r2.bl_inv
              subst e
              exact ⟨p :: ps, rfl, .cons (.inl h4) h3⟩
        · cases q
def rDictP (K : PySem.W.Frag) : List V → Hp → VK → Prop := fun xs H Q => ∃ (a : Addr) (ps : List Addr) (kvs : List (Key × V)), xs = [.ref a] ∧ SqL K H a (ps.map V.ref) ∧ Paired (fun p kv => SqT K H p [kV kv.1, kv.2]) ps kvs ∧
    ∀ p o, H p = none → Q (.ref p) (upd H p (.frz o (.dK (mergeK [] kvs))))
theorem upd_two {H : Hp} {p : Addr} {x y : HO} : upd (upd H p x) p y = upd H p y := by
  funext b
  by_cases h : b = p
  · subst h; rw [upd_same, upd_same]
  · rw [upd_ne h, upd_ne h, upd_ne h]
theorem cr_dictP {X : Cx} (hc : X.calm = true) : CallR X (.type "dict") (rDictP X.K) := by
  intro pins s σ H xs us Q I r h
  obtain ⟨a, ps, kvs, e, h1, h2, q⟩ := h
  refine thn (call_dictP hc pins s σ H xs us (fun v H' => ∃ p, v = .ref p ∧ H p = none ∧ H' = upd H p (.dK (mergeK [] kvs))) I r ⟨a, ps, kvs, e, h1, h2, fun p hp => ⟨p, rfl, hp, rfl⟩⟩) fun u s1 ⟨v, H1, I1, rv, p, ev, hp, eH⟩ => ?_
  subst ev eH
  obtain ⟨od, I2⟩ := I1.lock upd_same trivial
  rw [upd_two] at I2
  exact ⟨.ref p, _, I2, rv, q p od hp⟩
theorem cd_dictP {K : PySem.W.Frag} : CallD K (rDictP K) dictD := by
  intro H xs ds d Q r h k
  unfold dictD at h
  split at h
  · rename_i ds'
    cases q : pairKs ds' with
    | none => rw [q] at h; cases h
    | some ks =>
      rw [q] at h
      cases h
      cases r with
      | cons r rr =>
        cases rr
        obtain ⟨a, vs, rfl, h1, h2⟩ := r.lst_inv
        obtain ⟨ps, rfl, h4⟩ := pairs_rp h2 q
        refine ⟨a, ps, _, rfl, .of h1, h4, fun p o hp => k _ _ (same_upd hp) (.dct upd_same ?_)⟩
        exact mergeK_kTr ks []
  · cases h
/-! ### for k in d -/
def keysD : D → Option (List D)
  | .dict kvs => if (kvs.all fun p => isI p.1) = true then some (kvs.map (·.1)) else none
  | _ => none
@[simp] def ikeys (f : Fn) : Store → Option (List D) := fun ρ => (f ρ).bind keysD
theorem itk_ok {K : PySem.W.Frag} {Hs : Hp} {a : Addr} {o : Obj} {ks : List Int} (h : Hs a = some (.frz o (.dK (kTr ks)))) : ItOk K (Itk a o (kTr ks)) (ks.map .int) Hs := fun i H s => by
  have hl : (kTr ks).length = ks.length := List.length_map ..
  refine ⟨fun hi => ⟨s _ _ h, by rw [hl, hi, List.length_map]; exact Nat.le_refl _⟩, fun d hd => ?_⟩
  rw [List.getElem?_map] at hd
  cases q : ks[i]? with
  | none => rw [q] at hd; cases hd
  | some k =>
    rw [q] at hd; cases hd
    have hi := (List.getElem?_eq_some_iff.mp q).1
    refine ⟨⟨s _ _ h, by rw [hl]; exact hi⟩, fun x H' ⟨e1, k', v, e2, e3⟩ => .inl ⟨e1, ?_⟩⟩
    unfold kTr at e2
    rw [List.getElem?_map, q] at e2
    cases e2
    rw [e3]
    exact .int k
theorem i_keys {X : Cx} {tg e : Expr} {f : Fn} (h : PE X e (tD X.K f)) : PI X tg e (iD X.K (ikeys f)) := (pi_keys h).imw fun σ H R ⟨ρ, ds, E, hf, k⟩ => by
  unfold ikeys at hf
  cases q : f ρ with
  | none => rw [q] at hf; cases hf
  | some d =>
    rw [q] at hf
    refine ⟨ρ, d, E, q, fun v H1 s1 r1 => ?_⟩
    unfold keysD at hf
    simp only [Option.bind_some] at hf
    split at hf
    · rename_i kvs
      split at hf
      · rename_i ha
        cases hf
        generalize e : PyData.dict kvs = z at r1
        cases r1 with
        | scr h =>
          unfold scr at e
          injection e with e
          subst e
          cases ha
        | xtp _ _ _ =>
          unfold xtup at e
          injection e with e
          subst e
          cases ha
        | exc a =>
          unfold excD at e
          injection e with e
          subst e
          cases ha
        | dct h h2 =>
          rename_i a o kv ks
          unfold dks at e
          injection e with e
          subst e
          have h2 : kv = kTr ks := h2
          subst h2
          refine ⟨a, o, rfl, .inl ⟨_, h, k _ H1 s1 ?_⟩⟩
          have e2 : (ks.map fun k => (PyData.int k, PyData.none)).map (·.1) = ks.map .int := by rw [List.map_map]; rfl
          rw [e2]
          exact itk_ok h
        | _ => cases e
      · cases hf
    · cases hf
/-! ### min of a list of ints -/
def minI : List Int → Int
  | [] => 0
  | [x] => x
  | x :: y :: l => if minI (y :: l) ≤ x then minI (y :: l) else x
theorem minI_ok : ∀ {l : List Int}, l ≠ [] → minI l ∈ l ∧ ∀ y ∈ l, minI l ≤ y
  | [], h => absurd rfl h
  | [x], _ => ⟨List.mem_singleton.mpr rfl, fun y hy => by rw [List.mem_singleton.mp hy]; exact Int.le_refl _⟩
  | x :: y :: l, _ => by
    obtain ⟨h1, h2⟩ := minI_ok (l := y :: l) (by simp)
    unfold minI
    split
    · rename_i c
      exact ⟨List.mem_cons_of_mem _ h1, fun z hz => by
        rcases List.mem_cons.mp hz with rfl | hz
        · exact c
        · exact h2 z hz⟩
    · rename_i c
      exact ⟨List.mem_cons_self, fun z hz => by
        rcases List.mem_cons.mp hz with rfl | hz
        · exact Int.le_refl _
        · have := h2 z hz
          omega⟩
theorem minI_uniq {l : List Int} {m : Int} (h1 : m ∈ l) (h2 : ∀ y ∈ l, m ≤ y) : m = minI l := by
  obtain ⟨a, b⟩ := minI_ok (List.ne_nil_of_mem h1)
  have := h2 _ a
  have := b _ h1
  omega
def minLD : List D → Option D
  | [.list ds] => (intsOf ds).bind fun ns => if ns = [] then none else some (.int (minI ns))
  | _ => none
theorem cr_mnD {X : Cx} (hc : X.calm = true) : CallR X (.builtin "min") (rMin X.K) := cr_min hc
theorem cd_minL {K : PySem.W.Frag} : CallD K (rMin K) minLD := by
  intro H xs ds d Q r h k
  unfold minLD at h
  split at h
  · rename_i ds'
    cases q : intsOf ds' with
    | none => rw [q] at h; cases h
    | some ns =>
      rw [q] at h
      simp only [Option.bind_some] at h
      split at h
      · cases h
      · rename_i hne
        cases h
        have e := intsOf_map q
        subst e
        cases r with
        | cons r rr =>
          cases rr
          obtain ⟨p, vs, rfl, h1, r1⟩ := r.lst_inv
          have ev := r1.ints
          subst ev
          exact ⟨p, ns, rfl, .of h1, List.length_pos_iff.mpr hne, fun m hm hy => by rw [minI_uniq hm hy]; exact k _ H (Same.refl H) (.int _)⟩
  · cases h
end Tv

/-! Tv26: max of a tuple or a list of ints. -/
namespace MaxT
open PySem PySem.Spec PyProof.Rows L2
section
variable {prog : Program} {w : World} {A : Around} {E : Value → Shared → Prop} {s : Shared} {l : Addr} {xs : Array (Int × Tok)}
theorem max_intTup {Q : Value → Shared → Prop} (hh : A.handled = none) (hl : s.heap.IsTuple l (intItems xs)) (hne : 0 < xs.size)
    (h : ∀ v h' tk, (intItems xs)[argBest (fun i j => decide (numAt xs i > numAt xs j)) (xs.size - 1)]? = some v → (∀ b o, s.heap.get? b = some o → h'.get? b = some o) → Q v { s with heap := h', toks := tk }) :
    wpAny (model prog w) A (call (.builtin "max") [.ref l]) Q E s := by
  have hlt : l < s.heap.objs.size := by obtain ⟨_, e, _⟩ := hl; exact Heap.lt_size e
  refine call_max_walk (wpAny_pyIter_tuple hl ⟨_, _, _, _, _, _, _, rfl, Walks.tuple (A := A.in1) hh _ l (Nat.ne_of_lt hlt) (intItems xs), ⟨⟨_, Heap.get?_push_size _ rfl, rfl, rfl⟩, hl.push _⟩, fun b hb => ?_, by simpa [intItems] using hne, CmpOf.ints_gt (numAt xs) (fun _ _ => intItems_at), fun v h' tk hP hk => ?_⟩)
  · show b < (s.heap.push _).objs.size
    rw [Heap.size_push]
    rcases List.mem_cons.mp hb with rfl | hb
    · exact Nat.lt_succ_self _
    · rcases List.mem_cons.mp hb with rfl | hb
      · exact Nat.lt_succ_of_lt hlt
      · cases hb
  · refine h v h' tk (by simpa [intItems] using hP) fun b o e => hk b o (fun hm => ?_) (Heap.get?_push_of_some _ e)
    rcases List.mem_cons.mp hm with e1 | hm
    · exact absurd (e1 ▸ Heap.lt_size e) (Nat.lt_irrefl _)
    · cases hm
theorem max_rawT {its : List Value} {ns : List Int} {Q : Value → Shared → Prop} (hh : A.handled = none) (hl : s.heap.IsTuple l its.toArray) (hi : IntsAre its ns) (hne : 0 < ns.length)
    (h : ∀ h' tk M t', (∀ b o, s.heap.get? b = some o → h'.get? b = some o) → M ∈ ns → (∀ a, a ∈ ns → a ≤ M) → Q (.int M t') { s with heap := h', toks := tk }) : wpAny (model prog w) A (call (.builtin "max") [.ref l]) Q E s := by
  obtain ⟨xs, e⟩ := hi.allInts.items
  have hn : numsOf (intItems xs).toList = ns := by rw [← e]; exact hi.numsOf
  rw [nums_intItems] at hn
  subst hn
  rw [e] at hl
  have hsz : 0 < xs.size := by simpa using hne
  refine max_intTup hh hl hsz fun v h' tk hv hk => ?_
  obtain ⟨t, rfl⟩ := intItems_at hv
  obtain ⟨h1, h2⟩ := argBest_gt (numAt xs) (xs.size - 1)
  refine h h' tk _ t hk ?_ fun a ha => ?_
  · rw [numAt_eq]; exact PySem.getD_mem (by rw [List.length_map, Array.length_toList]; omega)
  · obtain ⟨j, hj, rfl⟩ := mem_getD ha
    rw [List.length_map, Array.length_toList] at hj
    rw [← numAt_eq]; exact h2 j (by omega)
end
end MaxT
namespace Tv
open PySem PySem.Spec L2
def rMaxT (K : PySem.W.Frag) : List V → Hp → VK → Prop := fun vs H Q => ∃ (a : Addr) (ns : List Int), vs = [V.ref a] ∧ SqT K H a (ns.map V.int) ∧ 0 < ns.length ∧ ∀ m, m ∈ ns → (∀ y, y ∈ ns → y ≤ m) → Q (.int m) H
theorem cr_maxT {X : Cx} (hc : X.calm = true) : CallR X (.builtin "max") (rMaxT X.K) := by
  intro pins s σ H vs us Q I r h
  obtain ⟨a, ns, rfl, hs, hne, q⟩ := h
  obtain ⟨its, rv, hl, _⟩ := I.tuple hs
  rw [Vals.ref1 r]
  exact MaxT.max_rawT (I.ok.hd hc) hl rv.ints hne fun h' tk m t' hk h1 h2 => ⟨.int _, H, I.kept hk, ⟨_, rfl⟩, q m h1 h2⟩
/-- the greatest -/
def maxI : List Int → Int
  | [] => 0
  | [x] => x
  | x :: y :: l => if x ≤ maxI (y :: l) then maxI (y :: l) else x
theorem maxI_ok : ∀ {l : List Int}, l ≠ [] → maxI l ∈ l ∧ ∀ y ∈ l, y ≤ maxI l
  | [], h => absurd rfl h
  | [x], _ => ⟨List.mem_singleton.mpr rfl, fun y hy => by rw [List.mem_singleton.mp hy]; exact Int.le_refl _⟩
  | x :: y :: l, _ => by
    obtain ⟨h1, h2⟩ := maxI_ok (l := y :: l) (by simp)
    unfold maxI
    split
    · rename_i c
      exact ⟨List.mem_cons_of_mem _ h1, fun z hz => by
        rcases List.mem_cons.mp hz with rfl | hz
        · exact c
        · exact h2 z hz⟩
    · rename_i c
      exact ⟨List.mem_cons_self, fun z hz => by
        rcases List.mem_cons.mp hz with rfl | hz
        · exact Int.le_refl _
        · have := h2 z hz
          omega⟩
theorem maxI_uniq {l : List Int} {m : Int} (h1 : m ∈ l) (h2 : ∀ y ∈ l, y ≤ m) : m = maxI l := by
  obtain ⟨a, b⟩ := maxI_ok (List.ne_nil_of_mem h1)
  have := h2 _ a
  have := b _ h1
  omega
def maxLD : List D → Option D
  | [.tuple ds] => (intsOf ds).bind fun ns => if ns = [] then none else some (.int (maxI ns))
  | [.list ds] => (intsOf ds).bind fun ns => if ns = [] then none else some (.int (maxI ns))
  | _ => none
theorem cr_mxD {X : Cx} (hc : X.calm = true) : CallR X (.builtin "max") (fun vs H Q => rMax X.K vs H Q ∨ rMaxT X.K vs H Q) := (cr_max hc).or (cr_maxT hc)
theorem cd_maxL {K : PySem.W.Frag} : CallD K (fun vs H Q => rMax K vs H Q ∨ rMaxT K vs H Q) maxLD := by
  intro H xs ds d Q r h k
  unfold maxLD at h
  split at h
  · rename_i ds'
    cases q : intsOf ds' with
    | none => rw [q] at h; cases h
    | some ns =>
      rw [q] at h
      simp only [Option.bind_some] at h
      split at h
      · cases h
      · rename_i hne
        cases h
        have e := intsOf_map q
        subst e
        cases r with
        | cons r rr =>
          cases rr
          obtain ⟨p, vs, rfl, h1, r1⟩ := r.tup_inv
          have ev := r1.ints
          subst ev
          exact .inr ⟨p, ns, rfl, .inl h1, List.length_pos_iff.mpr hne, fun m hm hy => by rw [maxI_uniq hm hy]; exact k _ H (Same.refl H) (.int _)⟩
  · rename_i ds'
    cases q : intsOf ds' with
    | none => rw [q] at h; cases h
    | some ns =>
      rw [q] at h
      simp only [Option.bind_some] at h
      split at h
      · cases h
      · rename_i hne
        cases h
        have e := intsOf_map q
        subst e
        cases r with
        | cons r rr =>
          cases rr
          obtain ⟨p, vs, rfl, h1, r1⟩ := r.lst_inv
          have ev := r1.ints
          subst ev
          exact .inl ⟨p, ns, rfl, .of h1, List.length_pos_iff.mpr hne, fun m hm hy => by rw [maxI_uniq hm hy]; exact k _ H (Same.refl H) (.int _)⟩
  · cases h
end Tv

/-! Tv27: defs that raise; a def that is told the exception that is handled. -/
namespace Tv
open PySem PySem.Spec L2
theorem okN {P : Program} {w : World} {K : PySem.W.Frag} {mg : Str → Option Value} {base : Heap} {x qual : Str} {st : Stmt} {f : Addr} {fd : FuncData} {N ps : List Str} {k : Nat} {sp : Sp} (F : Fun K x qual st f fd) (S : FnScope N ps (defScope st)) (len : ∀ vs H Q E, sp vs H Q E → vs.length = ps.length)
    (hbody : ∀ (cdv : Value) (A : Around) (outer : List Env) (s : Shared) (H : Hp) (vs : List V) (Q : VK) (E : XK), Room k (A.deeper (PyProof.Rows.envOfC qual (defScope st) s.heap.objs.size f cdv)) → sp vs H Q E →
      ∃ t, PSs (cxOf (L2N.CX P w) P w K mg base N qual (defScope st) f cdv A outer s H E) (defBody st) t ∧ t { nx := fun _ H' => Q .non H', rt := Q } (L2.start N vs) H) : FnOk P w K mg base (L2N.CX P w) (k + 1) f fd ps sp := by
  obtain ⟨oc, od, kV, doc, pm, an, cdv, ct, osl, rfl, lk, hcd⟩ := F.ex
  exact fn_of lk hcd S len fun A outer s H vs Q E hr hsp => hbody cdv A outer s H vs Q E hr hsp
/-! ### a def that raises, or returns -/
inductive XO where
  | ok (d : D) | ex (c : Value)
def spX (K : PySem.W.Frag) (n : Nat) (fm : List D → Option XO) : Sp := fun vs H Q E => ∃ ds o, vs.length = n ∧ RpA K H vs ds ∧ fm ds = some o ∧
  match o with
  | .ok d => ∀ v H', Same H H' → Rp K H' v d → Q v H'
  | .ex c => ∀ H', Same H H' → E c none H'
@[simp] def fnX (CE : Addr) (n N : Nat) (fc : Store → Option Bool) (f : Fn) : List D → Option XO := fun ds => if ds.length = n then
    (fc (ds.map Sl.val ++ List.replicate (N - n) .un)).bind fun b => if b = true then some (.ex (.ref CE)) else (f (ds.map Sl.val ++ List.replicate (N - n) .un)).map .ok
  else none
section
variable {P : Program} {w : World} {K : PySem.W.Frag} {mg : Str → Option Value} {base : Heap}
theorem mx_ok {CE : Addr} {x qual : Str} {st : Stmt} {f : Addr} {fd : FuncData} {N ps : List Str} {k : Nat} {fc : Store → Option Bool} {fv : Fn} {c er e : Expr} {p1 p2 p5 : Pos} (F : Fun K x qual st f fd) (S : FnScope N ps (defScope st))
    (hbody : defBody st = [.If c [.Raise (some er) none p1] [] p2, .Return (some e) p5])
    (hc : ∀ (cdv : Value) (A : Around) (outer : List Env) (s : Shared) (H : Hp) (E : XK), Room k (A.deeper (PyProof.Rows.envOfC qual (defScope st) s.heap.objs.size f cdv)) → PT (cxOf (L2N.CX P w) P w K mg base N qual (defScope st) f cdv A outer s H E) c (tT K fc))
    (hr : ∀ (cdv : Value) (A : Around) (outer : List Env) (s : Shared) (H : Hp) (E : XK), Room k (A.deeper (PyProof.Rows.envOfC qual (defScope st) s.heap.objs.size f cdv)) → L2N.PMk (cxOf (L2N.CX P w) P w K mg base N qual (defScope st) f cdv A outer s H E) er (fun _ H Q => Q (.ref CE) none H))
    (he : ∀ (cdv : Value) (A : Around) (outer : List Env) (s : Shared) (H : Hp) (E : XK), Room k (A.deeper (PyProof.Rows.envOfC qual (defScope st) s.heap.objs.size f cdv)) → PE (cxOf (L2N.CX P w) P w K mg base N qual (defScope st) f cdv A outer s H E) e (tD K fv)) :
    FnOk P w K mg base (L2N.CX P w) (k + 1) f fd ps (spX K ps.length (fnX CE ps.length N.length fc fv)) := by
  refine okN F S (fun vs H Q E ⟨ds, o, hl, _⟩ => hl) (fun cdv A outer s H vs Q E hrr ⟨ds, o, hl, r, hf, kk⟩ => ⟨_, by
    rw [hbody]
    exact pss_cons (ps_if (hc cdv A outer s H E hrr) (pss_one (L2N.ps_raise rfl (L2N.takes_of rfl rfl rfl rfl) (hr cdv A outer s H E hrr))) pss_nil) (pss_one (ps_ret (he cdv A outer s H E hrr))), ?_⟩)
  have hds : ds.length = ps.length := by rw [← r.length]; exact hl
  unfold fnX at hf
  rw [if_pos hds] at hf
  have E0 := ev_start N r
  rw [hds] at E0
  cases q : fc (ds.map Sl.val ++ List.replicate (N.length - ps.length) .un) with
  | none => rw [q] at hf; cases hf
  | some b =>
    rw [q] at hf
    simp only [Option.bind_some] at hf
    refine ⟨_, b, E0.vv, q, fun H1 s1 => ?_⟩
    cases b with
    | true =>
      rw [if_pos rfl] at hf
      cases hf
      rw [if_pos rfl]
      exact kk H1 s1
    | false =>
      rw [if_neg Bool.false_ne_true] at hf
      rw [if_neg Bool.false_ne_true]
      cases q2 : fv (ds.map Sl.val ++ List.replicate (N.length - ps.length) .un) with
      | none => rw [q2] at hf; cases hf
      | some d' =>
        rw [q2] at hf
        cases hf
        exact ⟨_, d', E0.vv.mono s1, q2, fun v H2 s2 r2 => kk v H2 (s1.trans s2) r2⟩
end
def DefX (P : Program) (w : World) (K : PySem.W.Frag) (mg : Str → Option Value) (base : Heap) (x : Str) (k : Nat) (fm : List D → Option XO) : Prop :=
  ∃ (fa : Addr) (fd : FuncData) (ps : List Str), FnOk P w K mg base (L2N.CX P w) k fa fd ps (spX K ps.length fm) ∧ mg x = some (.ref fa) ∧ PySem.W.keepIn K (.ref fa) = true ∧ Binds K fd ps [] ∧ ∀ ds o, fm ds = some o → ds.length = ps.length
theorem defX_mk {P : Program} {w : World} {K : PySem.W.Frag} {mg : Str → Option Value} {base : Heap} {x : Str} {CE : Addr} {k N : Nat} {fc : Store → Option Bool} {f : Fn} {fa : Addr} {fd : FuncData} {ps : List Str} (F : FnOk P w K mg base (L2N.CX P w) k fa fd ps (spX K ps.length (fnX CE ps.length N fc f))) (hm : mg x = some (.ref fa)) (hk : PySem.W.keepIn K (.ref fa) = true) (hb : Binds K fd ps []) :
    DefX P w K mg base x k (fnX CE ps.length N fc f) := ⟨fa, fd, ps, F, hm, hk, hb, fun ds o h => by
      unfold fnX at h
      split at h
      · assumption
      · cases h⟩
/-- the call within a try's body -/
theorem e_callX {X : Cx} {W : WX} {e : Expr} {es : List Expr} {x : Str} {p pos : Pos} {k j : Nat} {fm : List D → Option XO} {f : Store → Option (List D)} (G : DefX X.prog X.w X.K X.mg X.base x k fm) (hr : Room j X.A) (hk : k ≤ j) (tk : L2N.Takes X W) (ha : PA X (e :: es) (tA X.K f)) (hg : Gl X x := by rfl) (hdb : (x == ("__debug__" : Str)) = false := by decide)
    (he : starEach (e :: es) X.env = (false, eval e X.env) :: starEach es X.env := by rfl) (hpl : (backTo pos (starEach es X.env)).any (·.1) = false := by rfl) :
    PE X (.Call (.Name x p) (e :: es) [] pos) (fun σ H Q => ∃ ρ ds o, EvV X.K ρ σ H ∧ f ρ = some ds ∧ fm ds = some o ∧ match o with | .ok d => ∀ v H', Same H H' → Rp X.K H' v d → Q v H' | .ex c => ∀ H', Same H H' → W c none σ H') := by
  obtain ⟨fa, fd, ps, F, hm, hkp, hb, hl⟩ := G
  refine (pe_callS (E := WE W) F (hr.mono hk) hg hm hkp hb (L2N.passAt tk) ha hdb he hpl).imw fun σ H Q ⟨ρ, ds, o, E, hf, ho, k⟩ => ?_
  refine ⟨ρ, ds, E, hf, fun vs H1 s1 r1 => ⟨ds, o, by rw [r1.length]; exact hl ds o ho, r1, ho, ?_⟩⟩
  cases o with
  | ok d => exact fun v H2 s2 r2 => k v H2 (s1.trans s2) r2
  | ex c => exact fun H2 s2 => k H2 (s1.trans s2)
end Tv

namespace Tv
open PySem PySem.Spec PyProof.Rows L2 L2H
/-! ### a def that is told the exception that is handled -/
structure FnE (P : Program) (w : World) (K : PySem.W.Frag) (mg : Str → Option Value) (base : Heap) (k : Nat) (f : Addr) (fd : FuncData) (ps : List Str) (sp : Addr × Obj → Sp) : Prop where
  len : ∀ p vs H Q E, sp p vs H Q E → vs.length = ps.length
  run : ∀ (A : Around) (outer : List Env) (s : Shared) (H : Hp) (args : Args) (us : List Value) (vs : List V) (Q : VK) (E : XK) (p : Addr × Obj), RoomH k A → Hot1 A p → PinOk outer H s p → Env0 P w K mg base A outer s H → BindsTo s fd args (ps.zip us) → Vals vs us → sp p vs H Q E →
    codeAny (model P w) A (.call (.ref f) args) (CR CX0 outer P w H s Q E) s
theorem fn_ofE {P : Program} {w : World} {K : PySem.W.Frag} {mg : Str → Option Value} {base : Heap} {k : Nat} {f : Addr} {name qual : Str} {params : Arguments} {body : List Stmt} {scope : Scope} {dV kV doc pm cdv ct oc : Value} {an od : Option Addr}
    {osl : Array (Option Value)} {N ps : List Str} {sp : Addr × Obj → Sp} (lk : K.lookup f = some ⟨oc, od, .func (PySem.W.fnOf name qual params body scope dV kV doc pm an cdv ct), osl⟩) (hcd : PySem.W.codeIn K cdv qual = true) (S : FnScope N ps scope)
    (len : ∀ p vs H Q E, sp p vs H Q E → vs.length = ps.length)
    (hbody : ∀ (A : Around) (outer : List Env) (s : Shared) (H : Hp) (vs : List V) (Q : VK) (E : XK) (p : Addr × Obj), Hot1 A p → RoomH k (A.deeper (PyProof.Rows.envOfC qual scope s.heap.objs.size f cdv)) → sp p vs H Q E →
      ∃ t, PSs (cxH CX0 P w K mg base N qual scope f cdv A outer s H E p) body t ∧ t { nx := fun _ H' => Q .non H', rt := Q } (L2.start N vs) H) :
    FnE P w K mg base (k + 1) f (PySem.W.fnOf name qual params body scope dV kV doc pm an cdv ct) ps sp := by
  refine ⟨len, fun A outer s H args us vs Q E p hr hot hpin e0 hb r hsp => ?_⟩
  have hl := len _ _ _ _ _ hsp
  have KX : K.In s.heap := e0.mod.kin.keeps fun b o e => (e0.bs b o e).1
  have lim : s.heap.NoLimit := e0.mod.nolimit.keeps fun b o e => (e0.bs b o e).1
  have hkind : ∀ y ∈ ps.zip us, scope.names.lookup y.1 = some .local ∨ (scope.names.lookup y.1 = some .cell ∧ ((cellsFrom (s.heap.objs.size + 1) scope.names []).lookup y.1).isSome = true) := fun ⟨n, v⟩ hy => by
    rcases S.par n (List.of_mem_zip hy).1 with q | q
    · exact .inl q
    · exact .inr ⟨q, PySem.W.cellsFrom_some _ _ _ (.inl q)⟩
  refine codeAny_call_function hr.depth (KX _ _ lk) rfl S.co S.gen rfl (PySem.W.codeRec_of KX hcd) (hb _ _ _ _ ?_)
  refine wpAny_newFunctionEnv_cells S.kind hkind fun env he s1 x => ?_
  subst he
  refine ⟨lim.keeps x.toInCall.keep, codeAny_func ?_⟩
  obtain ⟨t, ht, hq⟩ := hbody A outer s H vs Q E p hot (hr.deeper _) hsp
  have I : Inv (cxH CX0 P w K mg base N qual scope f cdv A outer s H E p) [] (L2.start N vs) H s1 := inv_startH S hpin e0 hl r x
  refine wpAny_mono (ht.run [] s1 (L2.start N vs) H _ I hq) (fun fl s' hs => ?_) fun e s' hs => hs
  have fin : ∀ {σ' : L2.St} {H' : Hp} {v : V} {u : Value}, Inv (cxH CX0 P w K mg base N qual scope f cdv A outer s H E p) [] σ' H' s' → RelV v u → Q v H' → CE outer P w H s Q u s' :=
    fun {σ' H' v u} J rv q => ⟨v, H', J.os, J.bare, J.base, J.hok, rv, q⟩
  cases fl with
  | ret u =>
    obtain ⟨v, σ', H', J, rv, q⟩ := hs
    exact fin J rv q
  | next =>
    obtain ⟨σ', H', J, q⟩ := hs
    exact fin (v := V.non) (u := Value.none) J rfl q
  | brk =>
    obtain ⟨_, _, _, q⟩ := hs
    exact False.elim q
  | cont =>
    obtain ⟨_, _, _, q⟩ := hs
    exact False.elim q
/-- what such a def answers, whatever exception of the class CE it is told -/
def spW (K : PySem.W.Frag) (CE : Addr) (d : D) : Addr × Obj → Sp := fun p vs H Q _ => vs = [.ref p.1] ∧ Zc (.ref CE) none p.2 ∧ (∃ vs' : Array Value, p.2.data = .fields vs') ∧ ∀ v H', Same H H' → Rp K H' v d → Q v H'
theorem fe_ok {P : Program} {w : World} {K : PySem.W.Frag} {mg : Str → Option Value} {base : Heap} {CE : Addr} {x qual n : Str} {st : Stmt} {f : Addr} {fd : FuncData} {N : List Str} {k : Nat} {g : Addr → Fs} {d : D} (F : Fun K x qual st f fd) (S : FnScope N [n] (defScope st))
    (h : ∀ (cdv : Value) (A : Around) (outer : List Env) (s : Shared) (H : Hp) (E : XK) (p : Addr × Obj), RoomH k (A.deeper (PyProof.Rows.envOfC qual (defScope st) s.heap.objs.size f cdv)) → Zc (.ref CE) none p.2 → (∃ vs' : Array Value, p.2.data = .fields vs') →
      PSs (cxH CX0 P w K mg base N qual (defScope st) f cdv A outer s H E p) (defBody st) (tS K W0 (g p.1)))
    (hg : ∀ a, ∃ ρ', g a (.val (excD a) :: List.replicate (N.length - 1) .un) = .rt d ρ') : FnE P w K mg base (k + 1) f fd [n] (spW K CE d) := by
  obtain ⟨oc, od, kV, doc, pm, an, cdv, ct, osl, rfl, lk, hcd⟩ := F.ex
  refine fn_ofE lk hcd S (fun p vs H Q E ⟨e, _⟩ => by rw [e]; rfl) fun A outer s H vs Q E p hot hr ⟨e, hz, hf, kk⟩ => ⟨_, h cdv A outer s H E p hr hz hf, ?_⟩
  subst e
  obtain ⟨ρ', hgp⟩ := hg p.1
  have E0 := ev_start (K := K) (H := H) (vs := [.ref p.1]) (ds := [excD p.1]) N (.cons (.exc p.1) .nil)
  refine ⟨H, _, H, _, E0, ?_⟩
  have e1 : ([excD p.1].map Sl.val ++ List.replicate (N.length - [excD p.1].length) .un) = Sl.val (excD p.1) :: List.replicate (N.length - 1) .un := rfl
  rw [e1, hgp]
  exact fun v σ' H' H0 L E' r' => kk v H' (E'.base.trans E'.sub) (r'.mono E'.sub)
/-! ### isinstance of it -/
theorem call_isP {X : Cx} {a D0 : Addr} {oe : Obj} (C : ExcC X.K D0) (hz : Zc (.ref D0) none oe) (hf : ∃ vs : Array Value, oe.data = .fields vs) (hp : (a, oe) ∈ X.pn) : CallR X (.builtin "isinstance") (rIsE X.K D0 a) := by
  intro pins s σ H xs us Q I r h
  obtain ⟨c, cv, b, rfl, hcv, e, q⟩ := h
  cases r with
  | cons rx rr =>
    cases rr with
    | cons rt rr =>
      cases rr
      cases rx
      have ec := hcv _ rt
      subst ec
      obtain ⟨hget, _⟩ := I.pin (a, oe) (List.mem_append.mpr (.inl hp))
      obtain ⟨vs, hv⟩ := hf
      have J : PySem.W.InstAt s.heap a oe D0 none := by
        obtain ⟨oc, od, oda, osl⟩ := oe
        obtain ⟨h1, h2⟩ := hz
        dsimp only at h1 h2 hv
        subst h1 h2 hv
        exact ⟨hget, rfl, rfl, trivial⟩
      exact PySem.W.kia_one (PySem.W.handS_kitx_exc C.hg C.hk C.hs C.hd C.ha C.hn C.ht C.hm) I.kIn J e (fun z => nomatch z) fun tk => ⟨.bl b, H, I.kept (t' := tk) fun _ _ z => z, rfl, q⟩
theorem exc_inv {K : PySem.W.Frag} {H : Hp} {v : V} {i : Int} (r : Rp K H v (.dict [(.bool true, .int i)])) : ∃ a : Addr, v = .ref a ∧ i = Int.ofNat a := by
  generalize e : PyData.dict [(.bool true, .int i)] = z at r
  cases r with
  | exc a =>
    unfold excD at e
    injection e with e
    injection e with e _
    injection e with _ e
    injection e with e
    exact ⟨a, rfl, e⟩
  | scr h =>
    unfold scr at e
    injection e with e
    injection e with e _
    injection e with e _
    cases e
  | xtp _ _ _ =>
    unfold xtup at e
    injection e with e
    injection e with e _
    injection e with e _
    cases e
  | dct h h2 =>
    rename_i ks
    unfold dks at e
    injection e with e
    cases ks with
    | nil => cases e
    | cons k ks =>
      rw [List.map_cons] at e
      injection e with e _
      injection e with e _
      cases e
  | _ => cases e
@[simp] def isEF (a : Addr) (b : Bool) (f : Fn) : Fn := fun ρ => (f ρ).bind fun d => match d with
  | .dict [(.bool true, .int i)] => if i = Int.ofNat a then some (.bool b) else none
  | _ => none
theorem e_isE {X : Cx} {a D0 : Addr} {oe : Obj} {e ec : Expr} {c : V} {cv : Value} {b : Bool} {p pos : Pos} {f : Fn} (C : ExcC X.K D0) (hz : Zc (.ref D0) none oe) (hf : ∃ vs : Array Value, oe.data = .fields vs) (hp : (a, oe) ∈ X.pn) (hm : X.mg "isinstance" = none)
    (he : PE X e (tD X.K f)) (hc : PE X ec (tC c)) (hcv : ∀ u, RelV c u → u = cv) (hk : PySem.W.kitOne X.K (.ref D0) cv = some b) (hg : Gl X "isinstance" := by rfl)
    (s1 : starEach [e, ec] X.env = (false, eval e X.env) :: starEach [ec] X.env := by rfl) (s2 : starEach [ec] X.env = (false, eval ec X.env) :: starEach [] X.env := by rfl) (hpl : (backTo pos (starEach [ec] X.env)).any (·.1) = false := by rfl) :
    PE X (.Call (.Name "isinstance" p) [e, ec] [] pos) (tD X.K (isEF a b f)) :=
  (pe_callB (call_isP C hz hf hp) hg hm (by decide +kernel) (pa_cons he (pa_cons hc pa_nil s2) s1) (by decide) (by decide) s1 hpl).imw fun σ H Q ⟨ρ, d, E, hfd, k⟩ => by
    unfold isEF at hfd
    cases q : f ρ with
    | none => rw [q] at hfd; cases hfd
    | some d0 =>
      rw [q] at hfd
      simp only [Option.bind_some] at hfd
      split at hfd
      · split at hfd
        · rename_i hi
          cases hfd
          refine ⟨ρ, _, E, q, fun v H1 s1 r1 => ?_⟩
          obtain ⟨a', rfl, e2⟩ := exc_inv r1
          have ea : a' = a := by rw [hi] at e2; exact (Int.ofNat.inj e2).symm
          subst ea
          exact ⟨c, cv, b, rfl, hcv, hk, k _ H1 s1 (.bl b)⟩
        · cases hfd
      · cases hfd
end Tv

namespace Tv
open PySem PySem.Spec PyProof.Rows L2 L2H
theorem run_fnE {X : Cx} {k : Nat} {f : Addr} {fd : FuncData} {ps : List Str} {sp : Addr × Obj → Sp} {E : XK} {p : Addr × Obj} {pins : List (Addr × Obj)} {σ : L2.St} {H : Hp} {s : Shared} {Q : VK} {us : List Value} {vs : List V} (F : FnE X.prog X.w X.K X.mg X.base k f fd ps sp) (hr : RoomH k X.A) (hot : Hot1 X.A p) (hp : p ∈ X.pn) (hb : Binds X.K fd ps [])
    (I : Inv X pins σ H s) (r : Vals vs us) (h : sp p vs H Q E) : wpAny (model X.prog X.w) X.A (call (.ref f) us) (EP X pins σ Q) X.xe s := by
  have hl : us.length = ps.length := by rw [← r.length]; exact F.len _ _ _ _ _ h
  have b := hb s us I.kIn (by rw [List.append_nil]; exact hl)
  rw [List.append_nil] at b
  have P1 := I.pin p (List.mem_append_left _ hp)
  have hpin : PinOk X.stack H s p := ⟨P1.1, P1.2.1, fun hm => (List.mem_cons.mp (I.stkSub p.1 hm)).elim P1.2.2.1 P1.2.2.2.1, P1.2.2.2.2⟩
  refine wpAny_call (codeAny_mono (F.run X.A X.stack s H ⟨us, []⟩ us vs Q E p hr hot hpin I.env0 b r h) fun r s' hq => ?_)
  cases r with
  | error e => exact False.elim hq
  | ok fl =>
    cases fl with
    | ret u => exact I.after hq
    | next => exact False.elim hq
    | brk => exact False.elim hq
    | cont => exact False.elim hq
theorem pe_callE {X : Cx} {k : Nat} {f : Addr} {fd : FuncData} {ps : List Str} {sp : Addr × Obj → Sp} {x : Str} {q pos : Pos} {e : Expr} {es : List Expr} {t : TA} {p : Addr × Obj} (F : FnE X.prog X.w X.K X.mg X.base k f fd ps sp) (hr : RoomH k X.A) (hot : Hot1 X.A p) (hp : p ∈ X.pn) (hg : Gl X x) (hm : X.mg x = some (.ref f)) (hk : PySem.W.keepIn X.K (.ref f) = true) (hb : Binds X.K fd ps [])
    (ha : PA X (e :: es) t) (hdb : (x == ("__debug__" : Str)) = false := by decide) (he : starEach (e :: es) X.env = (false, eval e X.env) :: starEach es X.env := by rfl) (hpl : (backTo pos (starEach es X.env)).any (·.1) = false := by rfl) :
    PE X (.Call (.Name x q) (e :: es) [] pos) (fun σ H Q => t σ H fun vs H1 => sp p vs H1 Q E0) := by
  refine ⟨fun pins s σ H Q I h => ?_⟩
  refine wpAny_Call_Name_kw (ld_glob I hg hm ?_ hdb)
  refine PySem.W.callWith_K (h₀ := X.base) I.ok.mod.kin hk (thn (ha.run pos pins s σ H _ I h) fun us s1 ⟨vs, H1, I1, r, q⟩ => ⟨I1.kIn, ?_⟩) he hpl
  exact run_fnE F hr hot hp hb I1 r q
def DefE (P : Program) (w : World) (K : PySem.W.Frag) (mg : Str → Option Value) (base : Heap) (x : Str) (k : Nat) (CE : Addr) (d : D) : Prop :=
  ∃ (fa : Addr) (fd : FuncData) (n : Str), FnE P w K mg base k fa fd [n] (spW K CE d) ∧ mg x = some (.ref fa) ∧ PySem.W.keepIn K (.ref fa) = true ∧ Binds K fd [n] []
/-! ### try: return f(..) except C as e: return g(e) -/
@[simp] def toldF (n N : Nat) (f : Store → Option (List D)) (fm : List D → Option XO) (dw : D) : List D → Option D := fun ds => if ds.length = n then
    (f (ds.map Sl.val ++ List.replicate (N - n) .un)).bind fun as => (fm as).bind fun o => match o with | .ok d => some d | .ex _ => some dw
  else none
section
variable {P : Program} {w : World} {K : PySem.W.Frag} {mg : Str → Option Value} {base : Heap}
theorem told_ok {CE CB : Addr} {x qual xx xw xc n : Str} {st : Stmt} {fa : Addr} {fd : FuncData} {N ps : List Str} {k kx kw i : Nat} {f : Store → Option (List D)} {fm : List D → Option XO} {dw : D} {e : Expr} {es : List Expr} {np p0 p1 p2 p3 p4 p5 p6 p7 p8 : Pos} (F : Fun K x qual st fa fd) (S : FnScope N ps (defScope st))
    (G : DefX P w K mg base xx kx fm) (D : DefE P w K mg base xw kw CE dw) (hkx : kx ≤ k) (hkw : kw ≤ k) (hex : ∀ as c, fm as = some (.ex c) → c = .ref CE)
    (hbody : defBody st = [.Try [.Return (some (.Call (.Name xx p0) (e :: es) [] p1)) p2] [.ExceptHandler (some (.Name xc np)) (some n) [.Return (some (.Call (.Name xw p3) [.Name n p4] [] p5)) p6] p7] [] [] p8])
    (ha : ∀ (cdv : Value) (A : Around) (outer : List Env) (s : Shared) (H : Hp) (E : XK) (pn : List (Addr × Obj)) (xe : Value → Shared → Prop), Room k (A.deeper (PyProof.Rows.envOfC qual (defScope st) s.heap.objs.size fa cdv)) → PA ((cxOf CX0 P w K mg base N qual (defScope st) fa cdv A outer s H E).nox.tr pn xe) (e :: es) (tA K f))
    (hdb : (xc == ("__debug__" : Str)) = false) (hdx : (xx == ("__debug__" : Str)) = false) (hdw : (xw == ("__debug__" : Str)) = false) (hdn : (n == ("__debug__" : Str)) = false) (hcd : (n == ("__classdict__" : Str)) = false) (hse : ∀ env, starEach (e :: es) env = (false, eval e env) :: starEach es env) (hpl : ∀ env, (backTo p1 (starEach es env)).any (·.1) = false) (hi : N[i]? = some n) (hln : (defScope st).names.lookup n = some .local) (hcb : mg xc = some (.ref CB)) (hm : PySem.W.exmOne K (.ref CE) (.ref CB) = some true)
    (hg1 : ∀ (cdv : Value) (A : Around) (outer : List Env) (s : Shared) (H : Hp) (E : XK), Gl (cxOf CX0 P w K mg base N qual (defScope st) fa cdv A outer s H E).nox xx ∧ Gl (cxOf CX0 P w K mg base N qual (defScope st) fa cdv A outer s H E).nox xw ∧ Gl (cxOf CX0 P w K mg base N qual (defScope st) fa cdv A outer s H E).nox xc) :
    FnOk P w K mg base CX0 (k + 1) fa fd ps (spD K ps.length (toldF ps.length N.length f fm dw)) := by
  obtain ⟨fw, fdw, nw, Fw, hmw, hkpw, hbw⟩ := D
  refine F.ok S (fun vs H Q E ⟨ds, d, hl, _⟩ => hl) (fun cdv A outer s H vs Q E hr ⟨ds, d, hl, r, hf, kk⟩ => ⟨_, by
    rw [hbody]
    exact pss_one (L2N.ps_try_as (i := i) (c := .ref CB) (Wout := fun _ _ _ _ => False) rfl rfl S.nd hi hln ⟨(hg1 cdv A outer s H E).2.2, hdb, .inl hcb⟩ (fun _ _ ⟨_, _, _, _, _, _, _, _, _, _, _, _, _, _, _, _, z⟩ => z.elim)
      (tb := fun W => tRet fun σ H Q => ∃ ρ ds o, EvV K ρ σ H ∧ f ρ = some ds ∧ fm ds = some o ∧ match o with | .ok d => ∀ v H', Same H H' → Rp K H' v d → Q v H' | .ex c => ∀ H', Same H H' → W c none σ H')
      (fun W pn xe tk _ => pss_one (ps_ret (e_callX (X := (cxOf CX0 P w K mg base N qual (defScope st) fa cdv A outer s H E).nox.tr pn xe) (W := W) G hr hkx tk (ha cdv A outer s H E pn xe hr) (hg1 cdv A outer s H E).1 hdx (hse _) (hpl _))))
      (ts := fun a cls d D σ H => cls = .ref CE ∧ d = none ∧ σ[i]? = some (some (.ref a)) ∧ ∀ v H', Same H H' → Rp K H' v dw → D.rt v H')
      (fun a oe cls d pn hz hfl => pss_one (ps_ret (te := fun σ' H' Q' => cls = .ref CE ∧ d = none ∧ σ'[i]? = some (some (.ref a)) ∧ ∀ v H'', Same H' H'' → Rp K H'' v dw → Q' v H'') ((pe_callE (X := (cxOf CX0 P w K mg base N qual (defScope st) fa cdv A outer s H E).nox.suite a ((a, oe) :: pn)) (p := (a, oe)) Fw ((show RoomH k ((cxOf CX0 P w K mg base N qual (defScope st) fa cdv A outer s H E).nox.suite a ((a, oe) :: pn)).A from ⟨hr.dp, hr.un⟩).mono hkw) (by
        obtain ⟨vs', hd⟩ := hfl
        exact ⟨rfl, vs', hd, hz.2.2 vs' hd⟩) List.mem_cons_self (hg1 cdv A outer s H E).2.1 hmw hkpw hbw (pa_cons (pe_var (i := i) hi (.inl hln) hdn hcd) pa_nil) hdw).imw fun σ' H' Q' ⟨e1, e2, hσ, kq⟩ => by
          subst e1 e2
          exact ⟨.ref a, hσ, rfl, hz.zc, hfl, kq⟩))))
    , ?_⟩)
  have hds : ds.length = ps.length := by rw [← r.length]; exact hl
  unfold toldF at hf
  rw [if_pos hds] at hf
  have E0 := ev_start N r
  rw [hds] at E0
  have hil : i < N.length := (List.getElem?_eq_some_iff.mp hi).1
  have hsl : i < (L2.start N vs).length := by
    unfold L2.start
    rw [List.length_append, List.length_map, List.length_replicate]
    omega
  cases q : f (ds.map Sl.val ++ List.replicate (N.length - ps.length) .un) with
  | none => rw [q] at hf; cases hf
  | some as =>
    rw [q] at hf
    simp only [Option.bind_some] at hf
    cases q2 : fm as with
    | none => rw [q2] at hf; cases hf
    | some o =>
      rw [q2] at hf
      simp only [Option.bind_some] at hf
      refine ⟨_, as, o, E0.vv, q, q2, ?_⟩
      cases o with
      | ok d' =>
        cases hf
        exact fun v H' s1 r1 => kk v H' s1 r1
      | ex c =>
        cases hf
        have hcE := hex as c q2
        subst hcE
        exact fun H' s1 => ⟨true, hm, fun _ a ha => ⟨rfl, rfl, by rw [List.getElem?_set_self hsl], fun v H'' s2 r2 => kk v H'' (s1.trans s2) r2⟩, fun h => nomatch h⟩
end
end Tv

namespace Tv
open PySem PySem.Spec PyProof.Rows L2
/-! ### l.count(x) -/
def rCountD (K : PySem.W.Frag) : V → List V → Hp → VK → Prop := fun x xs H Q => ∃ (a : Addr) (y : V) (d : PyData) (ds : List PyData), x = V.ref a ∧ xs = [y] ∧ Dp K H (V.ref a) (.list ds) ∧ Dp K H y d ∧
  SeqAt.shaped (.list ds) = true ∧ SeqAt.shaped d = true ∧ Q (.int (ds.countP fun z => PyData.eqv z d : Nat)) H
theorem mt_countD {X : Cx} (hu : X.A.units + 65 < cLine) : MtR X "list.count" (rCountD X.K) := by
  intro pins s σ H x xs v us Q I rx rxs h
  obtain ⟨a, y, d, ds, rfl, rfl, hl, hy, sl, sd, q⟩ := h
  cases rx
  cases rxs with
  | cons ry rt =>
    rename_i uy ut
    cases rt
    obtain ⟨bs, r1⟩ := Dp.reads I d y uy hy ry
    have hxs : PyData.canLayAll0 ds = true := SeqAt.canLay_of_shaped sl
    have hroom : X.A.units + 1 + min (PyData.depthAll ds) d.depth < cLine := room_in_shaped sd hu
    cases hl with
    | lst hs ha =>
      obtain ⟨its, rv, ⟨⟨cls, dd, data, sls⟩, n, ho, hc, hdn, hdt⟩, hlen⟩ := I.list hs
      simp only at hc hdt
      subst hc hdt
      obtain ⟨as, h4⟩ := Dp.readsAll I ds _ its ha rv
      have hmap : its.map (SeqAt.readOf s.heap) = ds := SeqAt.readsAll_map ds its as hxs h4
      refine call_meets PySem.F.slot_list_count ⟨_, ho, rfl⟩ PySem.F.entry_list_count (PySem.F.args_list_count_2 _ _)
        (SeqAt.list_countAt a its.toArray n dd sls uy (fun u => PyData.eqv (SeqAt.readOf s.heap u) d)) ⟨ho, SeqAt.items_eqAt (vs := its.toArray) (show ReadsAll s.heap its.toArray.toList ds as from h4) r1 hxs (SeqAt.canLay_of_shaped sd) hroom, ?_⟩
      have e : its.toArray.toList.countP (fun u => PyData.eqv (SeqAt.readOf s.heap u) d) = ds.countP fun z => PyData.eqv z d := by
        rw [← hmap, List.countP_map]
        rfl
      refine ⟨.int (ds.countP fun z => PyData.eqv z d : Nat), H, I.tok _, ⟨s.toks, ?_⟩, q⟩
      show Value.int ((its.toArray.toList.countP (fun u => PyData.eqv (SeqAt.readOf s.heap u) d) : Nat) : Int) s.toks = _
      rw [e]
@[simp] def lcntD : D → List D → Option D
  | .list ds, [d] => if (SeqAt.shaped (.list ds) && SeqAt.shaped d) = true then some (.int (ds.countP fun z => PyData.eqv z d : Nat)) else none
  | _, _ => none
theorem md_lcnt {K : PySem.W.Frag} : MthD K (rCountD K) lcntD := by
  intro H x xs a ds d Q r rs h k
  unfold lcntD at h
  split at h
  · rename_i es d0
    split at h
    · rename_i hs
      rw [Bool.and_eq_true] at hs
      cases h
      cases rs with
      | cons r0 rr =>
        cases rr
        obtain ⟨p, vs, rfl, hp, rv⟩ := r.lst_inv
        exact ⟨p, _, d0, es, rfl, rfl, (r.dp (SeqAt.canLay_of_shaped hs.1)), (r0.dp (SeqAt.canLay_of_shaped hs.2)), hs.1, hs.2, k _ H (Same.refl H) (.int _)⟩
    · cases h
  · cases h
theorem ty_lcnt {K : PySem.W.Frag} (H : Hp) (x : V) (a : D) (ds : List D) (d : D) (r : Rp K H x a) (h : lcntD a ds = some d) : tyV K "list" x H := by
  unfold lcntD at h
  split at h
  · obtain ⟨p, vs, rfl, hp, rv⟩ := r.lst_inv
    exact .inl ⟨rfl, vs, .of hp⟩
  · cases h
theorem e_m_lcount {X : Cx} {o e : Expr} {apos cpos : Pos} {f : Fn} {fa : Store → Option (List D)} (hu : X.A.units + 65 < cLine) (ho : PE X o (tD X.K f)) (ha : PA X [e] (tA X.K fa))
    (hbase : attributeBase o "count" X.env (eval o X.env) = eval o X.env := by rfl)
    (hfew : ((backTo cpos (starEach [e] X.env)).all (fun x => !x.1) && (backToKw cpos (keywordEach [] X.env)).all (fun x => x.1.isSome)
      && decide ([e].length + ([] : List Keyword).length + (if ([] : List Keyword).isEmpty then 0 else 1) < 30)) = true := by rfl)
    (hline : (apos.endLine == cpos.line) = true := by rfl) (hs : starEach [e] X.env = (false, eval e X.env) :: starEach [] X.env := by rfl) (hplain : (backTo cpos (starEach [] X.env)).any (·.1) = false := by rfl) :
    PE X (.Call (.Attribute o "count" apos) [e] [] cpos) (tD X.K (mf lcntD f fa)) :=
  e_meth PySem.F.plainAttrs_list PySem.F.slot_list_count rfl (mt_countD hu) md_lcnt ty_lcnt ho ha hbase hfew hline hs hplain
/-! ### the same without the class's address -/
@[simp] def fnO (n N : Nat) (fc : Store → Option Bool) (f : Fn) : List D → Option (Option D) := fun ds => if ds.length = n then
    (fc (ds.map Sl.val ++ List.replicate (N - n) .un)).bind fun b => if b = true then some none else (f (ds.map Sl.val ++ List.replicate (N - n) .un)).map some
  else none
@[simp] def toldG (n N : Nat) (f : Store → Option (List D)) (fo : List D → Option (Option D)) (dw : D) : List D → Option D := fun ds => if ds.length = n then
    (f (ds.map Sl.val ++ List.replicate (N - n) .un)).bind fun as => (fo as).map fun o => o.getD dw
  else none
theorem told_eq {CE : Addr} {n N nx Nx : Nat} {f : Store → Option (List D)} {fc : Store → Option Bool} {fv : Fn} {dw : D} : toldF n N f (fnX CE nx Nx fc fv) dw = toldG n N f (fnO nx Nx fc fv) dw := by
  funext ds
  unfold toldF toldG
  split
  · cases f (ds.map Sl.val ++ List.replicate (N - n) .un) with
    | none => rfl
    | some as =>
      simp only [Option.bind_some]
      unfold fnX fnO
      split
      · cases fc (as.map Sl.val ++ List.replicate (Nx - nx) .un) with
        | none => rfl
        | some b =>
          simp only [Option.bind_some]
          cases b with
          | true => rfl
          | false =>
            rw [if_neg Bool.false_ne_true, if_neg Bool.false_ne_true]
            cases fv (as.map Sl.val ++ List.replicate (Nx - nx) .un) <;> rfl
      · rfl
  · rfl
theorem fnX_ex {CE : Addr} {nx Nx : Nat} {fc : Store → Option Bool} {fv : Fn} : ∀ as c, fnX CE nx Nx fc fv as = some (.ex c) → c = .ref CE := fun as c h => by
  unfold fnX at h
  split at h
  · cases q : fc (as.map Sl.val ++ List.replicate (Nx - nx) .un) with
    | none => rw [q] at h; cases h
    | some b =>
      rw [q] at h
      simp only [Option.bind_some] at h
      cases b with
      | true => rw [if_pos rfl] at h; cases h; rfl
      | false =>
        rw [if_neg Bool.false_ne_true] at h
        cases q2 : fv (as.map Sl.val ++ List.replicate (Nx - nx) .un) with
        | none => rw [q2] at h; cases h
        | some d => rw [q2] at h; cases h
  · cases h
theorem _root_.L2H.RoomH.units {k : Nat} {A : Around} (r : L2H.RoomH k A) : A.units + 64 < cLine := by have := r.un; omega
theorem _root_.L2H.RoomH.units65 {k : Nat} {A : Around} (r : L2H.RoomH k A) : A.units + 65 < cLine := by have := r.un; omega
/-! ### the defs as facts -/
theorem told_def {P : Program} {w : World} {K : PySem.W.Frag} {mg : Str → Option Value} {base : Heap} {x : Str} {k N : Nat} {f : Store → Option (List D)} {fm : List D → Option XO} {dw : D} {fa : Addr} {fd : FuncData} {ps : List Str} (F : FnOk P w K mg base CX0 k fa fd ps (spD K ps.length (toldF ps.length N f fm dw))) (hm : mg x = some (.ref fa)) (hk : PySem.W.keepIn K (.ref fa) = true) (hb : Binds K fd ps []) :
    Def P w K mg base x k (toldF ps.length N f fm dw) := ⟨fa, fd, ps, F, hm, hk, hb, fun ds d h => by
      unfold toldF at h
      split at h
      · assumption
      · cases h⟩
end Tv

/-! Tv31: == of two dicts (int: True). -/
namespace Tv
open PySem PySem.Spec PyProof.Rows L2
theorem valV_kTr (ks : List Int) (k : Int) : valV (kTr ks) (Sum.inl k) = if k ∈ ks then some (V.bl true) else none := by
  induction ks with
  | nil => rfl
  | cons j ks ih =>
    show valV ((Sum.inl j, V.bl true) :: kTr ks) (Sum.inl k) = _
    by_cases h : j = k
    · subst h
      rw [valV_pos rfl]; simp
    · have h' : ¬ ((Sum.inl j : Key) = Sum.inl k) := fun e => h (Sum.inl.inj e)
      rw [valV_neg (p := ((Sum.inl j : Key), V.bl true)) h', ih]
      have h2 : ¬ k = j := fun e => h e.symm
      by_cases hk : k ∈ ks
      · simp [hk]
      · simp [hk, h2]
theorem hits_kTr {P : Program} {w : World} {A : Around} {s : Shared} {js : List Int} {vb : List (Key × Value)} (rb : KV (kTr js) vb) : ∀ {ks : List Int} {va : List (Key × Value)}, KV (kTr ks) va → PySem.W.KeqHitsP P w A s vb va (ks.all fun k => decide (k ∈ js))
  | [], va, ra => by
    cases ra
    exact .nil
  | k :: ks, va, ra => by
    cases ra with
    | cons h t =>
      rename_i q qs
      obtain ⟨h1, h2⟩ := h
      obtain ⟨key, v⟩ := q
      have h1' : (Sum.inl k : Key) = key := h1
      subst h1'
      have h2' : v = .bool true := h2
      subst h2'
      have rr : RelO (valV (kTr js) (Sum.inl k)) (valueAt vb (Sum.inl k)) := rb.val (Sum.inl k)
      rw [valV_kTr] at rr
      rw [List.all_cons]
      by_cases hk : k ∈ js
      · rw [if_pos hk] at rr
        obtain ⟨y, hy, ry⟩ := rr.some_of
        have ry' : y = .bool true := ry
        subst ry'
        rw [decide_eq_true hk]
        exact .hit hy (SeqAt.EqAt.same _).eqP (hits_kTr rb t)
      · rw [if_neg hk] at rr
        rw [decide_eq_false hk, Bool.false_and]
        refine .miss ?_
        cases q : valueAt vb (Sum.inl k) with
        | none => rfl
        | some y => rw [q] at rr; exact (show False from rr).elim
def rEqK : R2 := fun x y H Q => ∃ a b o1 o2 ks js, x = .ref a ∧ y = .ref b ∧ H a = some (.frz o1 (.dK (kTr ks))) ∧ H b = some (.frz o2 (.dK (kTr js))) ∧ Q (.bl (decide (ks.length = js.length) && ks.all fun k => decide (k ∈ js))) H
theorem op_eqK {X : Cx} (hu : X.A.units + 64 < cLine) : OpR X (compareOp .Eq) rEqK := by
  intro pins s σ H x y v u Q I rx ry h
  obtain ⟨a, b, o1, o2, ks, js, rfl, rfl, ha, hb, q⟩ := h
  cases rx
  cases ry
  obtain ⟨ya, _, _, _, _, va, _, _, ra, da⟩ := I.frzK ha
  obtain ⟨yb, _, _, _, _, vb, _, _, rb, db⟩ := I.frzK hb
  have la : ks.length = va.length := by have := ra.length; rwa [kTr, List.length_map] at this
  have lb : js.length = vb.length := by have := rb.length; rwa [kTr, List.length_map] at this
  refine PySem.W.rcP_dicts (knd := mixKind X.prog X.w) (r := ks.all fun k => decide (k ∈ js)) ya yb da.dictOf db.dictOf (by omega) (fun _ => hits_kTr rb ra) X.xe _ ⟨.bl _, H, I, rfl, ?_⟩
  have e : (va.length == vb.length) = decide (ks.length = js.length) := by
    rw [← la, ← lb]
    rfl
  rw [e]
  exact q
/-- one == other, of dicts of numbers -/
@[simp] def eqK : D → D → Option Bool
  | .dict xs, .dict ys => (keysD (.dict xs)).bind fun a => (keysD (.dict ys)).bind fun b => (intsOf a).bind fun ks => (intsOf b).bind fun js => some (decide (ks.length = js.length) && ks.all fun k => decide (k ∈ js))
  | _, _ => none
theorem dks_inv {K : PySem.W.Frag} {H : Hp} {v : V} {kvs : List (D × D)} {ds : List D} (r : Rp K H v (.dict kvs)) (h : keysD (.dict kvs) = some ds) : ∃ a o ks, v = .ref a ∧ H a = some (.frz o (.dK (kTr ks))) ∧ ds = ks.map .int := by
  unfold keysD at h
  simp only at h
  split at h
  · rename_i ha
    cases h
    generalize e : PyData.dict kvs = z at r
    cases r with
    | scr h =>
      unfold scr at e
      injection e with e
      subst e
      cases ha
    | xtp _ _ _ =>
      unfold xtup at e
      injection e with e
      subst e
      cases ha
    | exc a =>
      unfold excD at e
      injection e with e
      subst e
      cases ha
    | dct h h2 =>
      rename_i a o kv ks
      unfold dks at e
      injection e with e
      subst e
      have h2 : kv = kTr ks := h2
      subst h2
      exact ⟨a, o, ks, rfl, h, by rw [List.map_map]; rfl⟩
    | _ => cases e
  · cases h
theorem od_eqK {K : PySem.W.Frag} : OpD K rEqK (toB eqK) := by
  intro H x y a b d Q ra rb h k
  unfold toB eqK at h
  split at h
  · rename_i xs ys
    cases q1 : keysD (.dict xs) with
    | none => rw [q1] at h; cases h
    | some A =>
      cases q2 : keysD (.dict ys) with
      | none => rw [q1, q2] at h; cases h
      | some B =>
        rw [q1, q2] at h
        obtain ⟨p, o1, ks, rfl, h1, rfl⟩ := dks_inv ra q1
        obtain ⟨p2, o2, js, rfl, h2, rfl⟩ := dks_inv rb q2
        rw [Option.bind_some, Option.bind_some, intsOf_mk, intsOf_mk] at h
        cases h
        exact ⟨p, p2, o1, o2, ks, js, rfl, rfl, h1, h2, k _ H (Same.refl H) (.bl _)⟩
  · cases h
end Tv

/-! Tv32: methods that raise within a try; a def that is handed an instance and changes it. -/
namespace Tv
open PySem PySem.Spec PyProof.Rows L2
section
variable {P : Program} {w : World} {K : PySem.W.Frag} {mg : Str → Option Value} {base : Heap}
theorem mn_ok {C CE : Addr} {x qual : Str} {st : Stmt} {f : Addr} {fd : FuncData} {N ps : List Str} {k : Nat} {fc : Store → Option Bool} {fv : Fn} {c er e : Expr} {p1 p2 p3 p4 p5 : Pos} (T : SvC K C) (F : Fun K x qual st f fd) (S : FnScope N ps (defScope st))
    (hbody : defBody st = [.If c [.Raise (some er) none p1] [] p2, .Assign [.Attribute (.Name "self" p3) "strikes" p4] e p5])
    (hc : ∀ (cdv : Value) (A : Around) (outer : List Env) (s : Shared) (H : Hp) (E : XK), Room k (A.deeper (PyProof.Rows.envOfC qual (defScope st) s.heap.objs.size f cdv)) → PT (cxOf (L2N.CX P w) P w K mg base N qual (defScope st) f cdv A outer s H E) c (tT K fc))
    (hr : ∀ (cdv : Value) (A : Around) (outer : List Env) (s : Shared) (H : Hp) (E : XK), Room k (A.deeper (PyProof.Rows.envOfC qual (defScope st) s.heap.objs.size f cdv)) → L2N.PMk (cxOf (L2N.CX P w) P w K mg base N qual (defScope st) f cdv A outer s H E) er (fun _ H Q => Q (.ref CE) none H))
    (he : ∀ (cdv : Value) (A : Around) (outer : List Env) (s : Shared) (H : Hp) (E : XK), Room k (A.deeper (PyProof.Rows.envOfC qual (defScope st) s.heap.objs.size f cdv)) → PE (cxOf (L2N.CX P w) P w K mg base N qual (defScope st) f cdv A outer s H E) e (tD K fv))
    (hs : ∀ (cdv : Value) (A : Around) (outer : List Env) (s : Shared) (H : Hp) (E : XK), swapsWith e (some (.Attribute (.Name "self" p3) "strikes" p4)) p5.line (cxOf (L2N.CX P w) P w K mg base N qual (defScope st) f cdv A outer s H E).env = pure false)
    (hn : N[0]? = some ("self" : Str)) (hv : ∀ (cdv : Value) (A : Around) (outer : List Env) (s : Shared) (H : Hp) (E : XK), Vis (cxOf (L2N.CX P w) P w K mg base N qual (defScope st) f cdv A outer s H E).env.scope "self") :
    FnOk P w K mg base (L2N.CX P w) (k + 1) f fd ps (spM K C ps.length (fnM CE C ps.length N.length fc fv)) := by
  refine okN F S (fun vs H Q E ⟨a, dx, w, args, d, ds, o, e, hl, _⟩ => hl) (fun cdv A outer s H vs Q E hrr ⟨a, dx, w0, args, d, ds, o, e0, hl, ne, h1, h2, r0, r, hf, kk⟩ => ⟨_, by
    rw [hbody]
    exact pss_cons (ps_if (hc cdv A outer s H E hrr) (pss_one (L2N.ps_raise rfl (L2N.takes_of rfl rfl rfl rfl) (hr cdv A outer s H E hrr))) pss_nil) (pss_one (ps_fld (pe_var (i := 0) hn (hv cdv A outer s H E)) (he cdv A outer s H E hrr) (hs cdv A outer s H E))), ?_⟩)
  have hds := fnM_len hf
  unfold fnM at hf
  rw [if_pos hds] at hf
  have E0 := ev_startR N (C := C) (x := .ref a) ⟨a, dx, w0, rfl, ne, h1, h2, r0⟩ r
  rw [hds] at E0
  subst e0
  cases q : fc (.svF C d :: ds.map Sl.val ++ List.replicate (N.length - ps.length) .un) with
  | none => rw [q] at hf; cases hf
  | some b =>
    rw [q] at hf
    simp only [Option.bind_some] at hf
    refine ⟨_, b, E0.vv, q, fun H1 s1 => ?_⟩
    cases b with
    | true =>
      rw [if_pos rfl] at hf
      cases hf
      rw [if_pos rfl]
      exact kk H1 s1
    | false =>
      rw [if_neg Bool.false_ne_true] at hf
      rw [if_neg Bool.false_ne_true]
      cases q2 : fv (.svF C d :: ds.map Sl.val ++ List.replicate (N.length - ps.length) .un) with
      | none => rw [q2] at hf; cases hf
      | some d' =>
        rw [q2] at hf
        cases hf
        refine ⟨_, d', E0.vv.mono s1, q2, fun w' H2 s2 r2 => ⟨.ref a, rfl, a, C, dx, _, rfl, s2 _ _ (s1 _ _ h1), T.cl, T.na, by show 1 < 1000; decide, ?_⟩⟩
        rw [put_one]
        exact kk w' H2 (s1.trans s2) r2
end
def MdN (P : Program) (w : World) (K : PySem.W.Frag) (mg : Str → Option Value) (base : Heap) (C : Addr) (m : Str) (k : Nat) (fm : D → List D → Option MO) : Prop :=
  ∃ (fa : Addr) (fd : FuncData) (ps : List Str), FnOk P w K mg base (L2N.CX P w) k fa fd ps (spM K C ps.length fm) ∧ Meth K C m fa ∧ Binds K fd ps [] ∧ ∀ d ds o, fm d ds = some o → ds.length + 1 = ps.length
theorem mdN_mk {P : Program} {w : World} {K : PySem.W.Frag} {mg : Str → Option Value} {base : Heap} {C CE : Addr} {m : Str} {k N : Nat} {fc : Store → Option Bool} {f : Fn} {fa : Addr} {fd : FuncData} {ps : List Str} (F : FnOk P w K mg base (L2N.CX P w) k fa fd ps (spM K C ps.length (fnM CE C ps.length N fc f))) (hm : Meth K C m fa) (hb : Binds K fd ps []) :
    MdN P w K mg base C m k (fnM CE C ps.length N fc f) := ⟨fa, fd, ps, F, hm, hb, fun _ _ _ h => fnM_len h⟩
theorem fnM_ex {CE C : Addr} {n N : Nat} {fc : Store → Option Bool} {f : Fn} : ∀ d ds c, fnM CE C n N fc f d ds = some (.ex c) → c = .ref CE := fun d ds c h => by
  unfold fnM at h
  split at h
  · cases q : fc (.svF C d :: ds.map Sl.val ++ List.replicate (N - n) .un) with
    | none => rw [q] at h; cases h
    | some b =>
      rw [q] at h
      simp only [Option.bind_some] at h
      cases b with
      | true => rw [if_pos rfl] at h; cases h; rfl
      | false =>
        rw [if_neg Bool.false_ne_true] at h
        cases q2 : f (.svF C d :: ds.map Sl.val ++ List.replicate (N - n) .un) with
        | none => rw [q2] at h; cases h
        | some d => rw [q2] at h; cases h
  · cases h
/-! ### a def that is handed an instance, and changes it -/
def But (a : Addr) (H H' : Hp) : Prop := ∀ b o, b ≠ a → H b = some o → H' b = some o
def spV (K : PySem.W.Frag) (C : Addr) (n : Nat) (fv : D → List D → Option (D × D)) : Sp := fun vs H Q _ => ∃ a dx w args d ds r d', vs = .ref a :: args ∧ vs.length = n ∧ a ≠ dx ∧ H a = some (.ins C dx [("strikes", w)]) ∧ H dx = some (.own a) ∧ Rp K H w d ∧ RpA K H args ds ∧ fv d ds = some (r, d') ∧
  ∀ v w' H', But a H H' → H' a = some (.ins C dx [("strikes", w')]) → Rp K H' w' d' → Rp K H' v r → Q v H'
def moT (dw d : D) : Option MO → Option (D × D)
  | some (.ok d') => if noL d' = true then some (.none, d') else none
  | some (.ex _) => some (dw, d)
  | none => none
@[simp] def toldV (C : Addr) (n N : Nat) (fc : Store → Option Bool) (fb fs : D → List D → Option MO) (fa : Store → Option (List D)) (dw : D) : D → List D → Option (D × D) := fun d ds => if ds.length + 1 = n then
    (fc (.svF C d :: ds.map Sl.val ++ List.replicate (N - n) .un)).bind fun b => if b = true then moT dw d (fb d []) else (fa (.svF C d :: ds.map Sl.val ++ List.replicate (N - n) .un)).bind fun as => moT dw d (fs d as)
  else none
theorem toldV_len {C : Addr} {n N : Nat} {fc : Store → Option Bool} {fb fs : D → List D → Option MO} {fa : Store → Option (List D)} {dw d : D} {ds : List D} {o : D × D} (h : toldV C n N fc fb fs fa dw d ds = some o) : ds.length + 1 = n := by
  unfold toldV at h
  split at h
  · assumption
  · cases h
def EW (W : WX) (n : Nat) : XK := fun cls d H => ∀ σ : L2.St, σ.length = n → W cls d σ H
theorem passW {X : Cx} {W : WX} (tk : L2N.Takes X W) : Passes (L2N.CX X.prog X.w) X (EW W X.N.length) := fun pins σ H s e s' I c => tk e s' (L2N.XE.of_call I (fun cls d H' h => h σ I.len) c)
def DefV (P : Program) (w : World) (K : PySem.W.Frag) (mg : Str → Option Value) (base : Heap) (x : Str) (k : Nat) (C : Addr) (fv : D → List D → Option (D × D)) : Prop :=
  ∃ (fa : Addr) (fd : FuncData) (ps : List Str), FnOk P w K mg base CX0 k fa fd ps (spV K C ps.length fv) ∧ mg x = some (.ref fa) ∧ PySem.W.keepIn K (.ref fa) = true ∧ Binds K fd ps [] ∧ ∀ d ds o, fv d ds = some o → ds.length + 1 = ps.length
section
variable {P : Program} {w : World} {K : PySem.W.Frag} {mg : Str → Option Value} {base : Heap}
theorem But.upd {H H' : Hp} {a : Addr} {o : HO} (s : Same H H') : But a H (L2.upd H' a o) := fun b u ne e => by rw [upd_ne ne]; exact s _ _ e
theorem toldV_ok {CE CB C : Addr} {x qual xs mb mt xw xc n : Str} {st : Stmt} {fa : Addr} {fd : FuncData} {N ps : List Str} {k kb ks kw i : Nat} {fc : Store → Option Bool} {fb fs : D → List D → Option MO} {fas : Store → Option (List D)} {dw : D} {c e : Expr} {es : List Expr}
    {q1 q2 q3 q4 q5 q6 q7 np p2 p3 p4 p5 p6 p7 p8 : Pos} {plb plt : Env → Sem Bool} (T : SvC K C) (F : Fun K x qual st fa fd) (S : FnScope N ps (defScope st))
    (Mb : MdN P w K mg base C mb kb fb) (Mt : MdN P w K mg base C mt ks fs) (D : DefE P w K mg base xw kw CE dw) (hkb : kb ≤ k) (hks : ks ≤ k) (hkw : kw ≤ k) (hexb : ∀ d ds c, fb d ds = some (.ex c) → c = .ref CE) (hext : ∀ d ds c, fs d ds = some (.ex c) → c = .ref CE)
    (hbody : defBody st = [.Try [.Return (some (.IfExp c (.Call (.Attribute (.Name xs q1) mb q2) [] [] q3) (.Call (.Attribute (.Name xs q4) mt q5) (e :: es) [] q6) q7)) p2] [.ExceptHandler (some (.Name xc np)) (some n) [.Return (some (.Call (.Name xw p3) [.Name n p4] [] p5)) p6] p7] [] [] p8])
    (hc : ∀ (cdv : Value) (A : Around) (outer : List Env) (s : Shared) (H : Hp) (E : XK) (pn : List (Addr × Obj)) (xe : Value → Shared → Prop), Room k (A.deeper (PyProof.Rows.envOfC qual (defScope st) s.heap.objs.size fa cdv)) → PT ((cxOf CX0 P w K mg base N qual (defScope st) fa cdv A outer s H E).nox.tr pn xe) c (tT K fc))
    (ha : ∀ (cdv : Value) (A : Around) (outer : List Env) (s : Shared) (H : Hp) (E : XK) (pn : List (Addr × Obj)) (xe : Value → Shared → Prop), Room k (A.deeper (PyProof.Rows.envOfC qual (defScope st) s.heap.objs.size fa cdv)) → PA ((cxOf CX0 P w K mg base N qual (defScope st) fa cdv A outer s H E).nox.tr pn xe) (e :: es) (tA K fas))
    (hdb : (xc == ("__debug__" : Str)) = false) (hds : (xs == ("__debug__" : Str)) = false) (hcs : (xs == ("__classdict__" : Str)) = false) (hdw : (xw == ("__debug__" : Str)) = false) (hdn : (n == ("__debug__" : Str)) = false) (hcd : (n == ("__classdict__" : Str)) = false)
    (hmb : (mb == ("strikes" : Str)) = false) (hmt : (mt == ("strikes" : Str)) = false) (hse : ∀ env, starEach (e :: es) env = (false, eval e env) :: starEach es env) (hpl : ∀ env, (backTo q6 (starEach es env)).any (·.1) = false)
    (htb : ∀ env, eval (.Call (.Attribute (.Name xs q1) mb q2) [] [] q3) env = (do
      let ov ← eval (.Name xs q1) env
      standAt q2.atName
      let (f, first) ← holding [ov] (getMethod ov mb (plb env))
      callWith q3 f first (backTo q3 (starEach [] env)) (backToKw q3 (keywordEach [] env))))
    (htt : ∀ env, eval (.Call (.Attribute (.Name xs q4) mt q5) (e :: es) [] q6) env = (do
      let ov ← eval (.Name xs q4) env
      standAt q5.atName
      let (f, first) ← holding [ov] (getMethod ov mt (plt env))
      callWith q6 f first (backTo q6 (starEach (e :: es) env)) (backToKw q6 (keywordEach [] env))))
    (hi0 : N[0]? = some xs) (hi : N[i]? = some n) (hln : (defScope st).names.lookup n = some .local) (hls : (defScope st).names.lookup xs = some .local) (hcb : mg xc = some (.ref CB)) (hm : PySem.W.exmOne K (.ref CE) (.ref CB) = some true)
    (hg1 : ∀ (cdv : Value) (A : Around) (outer : List Env) (s : Shared) (H : Hp) (E : XK), Gl (cxOf CX0 P w K mg base N qual (defScope st) fa cdv A outer s H E).nox xw ∧ Gl (cxOf CX0 P w K mg base N qual (defScope st) fa cdv A outer s H E).nox xc) :
    FnOk P w K mg base CX0 (k + 1) fa fd ps (spV K C ps.length (toldV C ps.length N.length fc fb fs fas dw)) := by
  obtain ⟨fw, fdw, nw, Fw, hmw, hkpw, hbw⟩ := D
  obtain ⟨fab, fdb, psb, Fb, hmtb, hbb, hlb⟩ := Mb
  obtain ⟨fat, fdt, pst, Ft, hmtt, hbt, hlt⟩ := Mt
  refine F.ok S (fun vs H Q E ⟨a, dx, w0, args, d, ds, r, d', e0, hl, _⟩ => hl) (fun cdv A outer s H vs Q E hr ⟨a, dx, w0, args, d, ds, r, d', e0, hl, ne, h1, h2, r0, ra, hf, kk⟩ => ⟨_, by
    rw [hbody]
    exact pss_one (L2N.ps_try_as (i := i) (c := .ref CB) (Wout := fun _ _ _ _ => False) rfl rfl S.nd hi hln ⟨(hg1 cdv A outer s H E).2, hdb, .inl hcb⟩ (fun _ _ ⟨_, _, _, _, _, _, _, _, _, _, _, _, _, _, _, _, z⟩ => z.elim)
      (tb := fun W => tRet (tIf (tT K fc) (tMeth C mb (spM K C psb.length fb) [] (EW W N.length) (tVar 0) tNil) (tMeth C mt (spM K C pst.length fs) [] (EW W N.length) (tVar 0) (tA K fas))))
      (fun W pn xe tk _ => pss_one (ps_ret (pe_ifExp (hc cdv A outer s H E pn xe hr)
        (pe_meth0 (X := (cxOf CX0 P w K mg base N qual (defScope st) fa cdv A outer s H E).nox.tr pn xe) (pe_var (i := 0) hi0 (.inl hls) hds hcs) T.cl hmtb Fb (hr.mono hkb) hbb .nil (passW tk) (htb _))
        (pe_meth (X := (cxOf CX0 P w K mg base N qual (defScope st) fa cdv A outer s H E).nox.tr pn xe) (pe_var (i := 0) hi0 (.inl hls) hds hcs) T.cl hmtt Ft (hr.mono hks) hbt .nil (passW tk) (ha cdv A outer s H E pn xe hr) (hse _) (hpl _) (htt _)))))
      (ts := fun a cls d D σ H => cls = .ref CE ∧ d = none ∧ σ[i]? = some (some (.ref a)) ∧ ∀ v H', Same H H' → Rp K H' v dw → D.rt v H')
      (fun a oe cls d pn hz hfl => pss_one (ps_ret (te := fun σ' H' Q' => cls = .ref CE ∧ d = none ∧ σ'[i]? = some (some (.ref a)) ∧ ∀ v H'', Same H' H'' → Rp K H'' v dw → Q' v H'') ((pe_callE (X := (cxOf CX0 P w K mg base N qual (defScope st) fa cdv A outer s H E).nox.suite a ((a, oe) :: pn)) (p := (a, oe)) Fw ((show L2H.RoomH k ((cxOf CX0 P w K mg base N qual (defScope st) fa cdv A outer s H E).nox.suite a ((a, oe) :: pn)).A from ⟨hr.dp, hr.un⟩).mono hkw) (by
        obtain ⟨vs', hd⟩ := hfl
        exact ⟨rfl, vs', hd, hz.2.2 vs' hd⟩) List.mem_cons_self (hg1 cdv A outer s H E).1 hmw hkpw hbw (pa_cons (pe_var (i := i) hi (.inl hln) hdn hcd) pa_nil) hdw).imw fun σ' H' Q' ⟨e1, e2, hσ, kq⟩ => by
          subst e1 e2
          exact ⟨.ref a, hσ, rfl, hz.zc, hfl, kq⟩))))
    , ?_⟩)
  have hds' := toldV_len hf
  unfold toldV at hf
  rw [if_pos hds'] at hf
  have E0 := ev_startR N (C := C) (x := .ref a) ⟨a, dx, w0, rfl, ne, h1, h2, r0⟩ ra
  rw [hds'] at E0
  subst e0
  have hil : i < N.length := (List.getElem?_eq_some_iff.mp hi).1
  have hσ0 : (L2.start N (.ref a :: args))[0]? = some (some (.ref a)) := by
    unfold L2.start
    rfl
  -- what the handler tells
  have wex : ∀ (c : Value) (D' : Ends), c = .ref CE → (∀ v H', Same H H' → Rp K H' v dw → D'.rt v H') → ∀ H', Same H H' → EW (wAs K (.ref CB) i (fun a cls d D σ H => cls = .ref CE ∧ d = none ∧ σ[i]? = some (some (.ref a)) ∧ ∀ v H', Same H H' → Rp K H' v dw → D.rt v H') (fun _ _ _ _ => False) D') N.length c none H' := by
    intro c D' hcE kd H' s1 σ hσl
    subst hcE
    exact ⟨true, hm, fun _ a ha => ⟨rfl, rfl, by rw [List.getElem?_set_self (by rw [hσl]; exact hil)], fun v H'' s2 r2 => kd v H'' (s1.trans s2) r2⟩, fun h => nomatch h⟩
  have kold : ∀ v H', Same H H' → Rp K H' v r → d' = d → Q v H' := fun v H' s1 rv ed => kk v w0 H' (fun b o _ e => s1 _ _ e) (s1 _ _ h1) (by rw [ed]; exact r0.mono s1) rv
  have knew : ∀ w' H', Same H H' → Rp K H' w' d' → noL d' = true → r = .none → Q .non (upd H' a (.ins C dx [("strikes", w')])) := fun w' H' s1 rw' hn er => by
    refine kk .non w' _ (But.upd s1) upd_same (Rp.noL (fun b o no e => ?_) hn rw') (by rw [er]; exact .non)
    have hb : b ≠ a := fun q => by
      rw [q, s1 _ _ h1] at e
      cases e; exact no trivial
    rw [upd_ne hb]; exact e
  cases q : fc (.svF C d :: ds.map Sl.val ++ List.replicate (N.length - ps.length) .un) with
  | none => rw [q] at hf; cases hf
  | some b =>
    rw [q] at hf
    simp only [Option.bind_some] at hf
    refine ⟨_, b, E0.vv, q, fun H1 s1 => ?_⟩
    cases b with
    | true =>
      rw [if_pos rfl] at hf
      rw [if_pos rfl]
      cases q3 : fb d [] with
      | none => rw [q3] at hf; cases hf
      | some o =>
        rw [q3] at hf
        refine ⟨.ref a, hσ0, a, dx, _, rfl, s1 _ _ h1, by simp [List.lookup, hmb], a, dx, w0, [], d, [], o, rfl, ?_, ne, s1 _ _ h1, s1 _ _ h2, r0.mono s1, .nil, q3, ?_⟩
        · have := hlb _ _ _ q3
          simpa using this
        · cases o with
          | ok d1 =>
            unfold moT at hf
            simp only at hf
            split at hf
            · rename_i hn
              cases hf
              exact fun w' H' s2 r2 => knew w' H' (s1.trans s2) r2 hn rfl
            · cases hf
          | ex c =>
            cases hf
            exact fun H' s2 => wex c _ (hexb _ _ _ q3) (fun v H'' s3 r3 => kold v H'' s3 r3 rfl) H' (s1.trans s2)
    | false =>
      rw [if_neg Bool.false_ne_true] at hf
      rw [if_neg Bool.false_ne_true]
      cases q4 : fas (.svF C d :: ds.map Sl.val ++ List.replicate (N.length - ps.length) .un) with
      | none => rw [q4] at hf; cases hf
      | some as =>
        rw [q4] at hf
        simp only [Option.bind_some] at hf
        cases q3 : fs d as with
        | none => rw [q3] at hf; cases hf
        | some o =>
          rw [q3] at hf
          refine ⟨.ref a, hσ0, a, dx, _, rfl, s1 _ _ h1, by simp [List.lookup, hmt], _, as, E0.vv.mono s1, q4, fun vs2 H2 s2 r2 => ⟨a, dx, w0, vs2, d, as, o, by rw [List.append_nil], ?_, ne, s2 _ _ (s1 _ _ h1), s2 _ _ (s1 _ _ h2), (r0.mono s1).mono s2, r2, q3, ?_⟩⟩
          · have := hlt _ _ _ q3
            have h5 := r2.length
            simp; omega
          · cases o with
            | ok d1 =>
              unfold moT at hf
              simp only at hf
              split at hf
              · rename_i hn
                cases hf
                exact fun w' H' s3 r3 => knew w' H' ((s1.trans s2).trans s3) r3 hn rfl
              · cases hf
            | ex c =>
              cases hf
              exact fun H' s3 => wex c _ (hext _ _ _ q3) (fun v H'' s4 r4 => kold v H'' s4 r4 rfl) H' ((s1.trans s2).trans s3)
end
/-! ### the call, where an instance is owned -/
@[simp] def callVX (C : Addr) (i : Nat) (fv : D → List D → Option (D × D)) (fa : Store → Option (List D)) : FX := fun ρ => match ρ[i]?, fa (frz ρ) with
  | some (.sv C' d), some ds => if C' = C then (match fv d ds with
    | some (r, d') => if (noL d' && noL r) = true then some (r, ρ.set i (.sv C d')) else none
    | none => none) else none
  | _, _ => none
section
variable {X : Cx} {C : Addr} {W : WXT}
theorem x_callV {x y : Str} {k j : Nat} {fv : D → List D → Option (D × D)} {fa : Store → Option (List D)} {e : Expr} {es : List Expr} {p py pos : Pos} (G : DefV X.prog X.w X.K X.mg X.base x k C fv) (hr : Room j X.A) (hk : k ≤ j) (i : Nat) (ha : PA X (e :: es) (tA X.K fa))
    (hN : X.N[i]? = some y := by rfl) (hv : Vis X.env.scope y := by first | exact Or.inl rfl | exact Or.inr (Or.inl rfl) | exact Or.inr (Or.inr rfl)) (hd : (y == ("__debug__" : Str)) = false := by decide) (hcd : (y == ("__classdict__" : Str)) = false := by decide)
    (hg : Gl X x := by rfl) (hdb : (x == ("__debug__" : Str)) = false := by decide) (he : starEach (.Name y py :: e :: es) X.env = (false, eval (.Name y py) X.env) :: starEach (e :: es) X.env := by rfl) (hpl : (backTo pos (starEach (e :: es) X.env)).any (·.1) = false := by rfl) :
    PX X (.Call (.Name x p) (.Name y py :: e :: es) [] pos) (callVX C i fv fa) := by
  obtain ⟨fa', fd, ps, F, hm, hkp, hb, hl⟩ := G
  refine ⟨_, pe_call F (hr.mono hk) hg hm hkp hb .nil pass0 (pa_cons (pe_var hN hv hd hcd) ha he) hdb he hpl, fun Hb ρ σ H H0 L d ρ' Q E hf kq => ?_⟩
  unfold callVX at hf
  split at hf
  · rename_i C' d0 ds z1 z2
    split at hf
    · rename_i e1
      subst e1
      split at hf
      · rename_i r d' z3
        split at hf
        · rename_i hn
          rw [Bool.and_eq_true] at hn
          cases hf
          obtain ⟨a, dx, w, h1, h2, ne, h4, h5, rw0⟩ := E.svAt z1
          refine ⟨_, h1, frz ρ, ds, E.vvF, z2, fun vs H1 s1 r1 => ⟨a, dx, w, vs, d0, ds, d, d', by rw [List.append_nil], ?_, ne, s1 _ _ h4, s1 _ _ h5, (rw0.mono E.sub).mono s1, r1, z3, fun v w' H' but hH' rw' rv => ?_⟩⟩
          · have := hl _ _ _ z3
            have h7 := r1.length
            simp; omega
          · have sm : Same H (upd H' a (.ins C' dx [("strikes", w)])) := fun b o e => by
              by_cases hb : b = a
              · subst hb
                rw [h4] at e
                rw [upd_same]; exact e
              · rw [upd_ne hb]; exact but b o hb (s1 _ _ e)
            obtain ⟨H0', s0, ht, E'⟩ := E.lent sm
            have ht' : ∀ b o, ¬ frOk o → H' b = some o → H0' b = some o := fun b o no e => by
              refine ht b o no ?_
              have hb : b ≠ a := fun q => by
                rw [q, hH'] at e
                cases e; exact no trivial
              rw [upd_ne hb]; exact e
            have E2 := E'.chgSv z1 h2 ne h1 (sm _ _ h5) (Rp.noL ht' hn.1 rw')
            have eH : upd (upd H' a (.ins C' dx [("strikes", w)])) a (.ins C' dx [("strikes", w')]) = H' := by
              rw [upd_upd]
              funext b
              unfold upd
              split
              · rename_i hb; rw [hb, hH']
              · rfl
            rw [eH] at E2
            exact kq v H' H0' L E2 s0 (Rp.noL ht' hn.2 rv)
        · cases hf
      · cases hf
    · cases hf
  · cases hf
/-! ### a test that changes what is owned -/
def PTM (X : Cx) (e : Expr) (g : Store → Option (Bool × Store)) : Prop := ∃ t, PT X e t ∧ ∀ (Hb : Hp) (ρ : Store) (σ : L2.St) (H H0 : Hp) (L : Nat → List Addr) (b : Bool) (ρ' : Store) (Q : Bool → Hp → Prop), Ev X.K Hb ρ σ H H0 L → g ρ = some (b, ρ') →
  (∀ H' H0' L', Ev X.K Hb ρ' σ H' H0' L' → Same H0 H0' → Q b H') → t σ H Q
@[simp] def cmpM (g : D → D → Option Bool) (g1 : FX) (f2 : Fn) : Store → Option (Bool × Store) := fun ρ => (g1 ρ).bind fun p => (f2 p.2).bind fun d2 => (g p.1 d2).bind fun b => some (b, p.2)
theorem tm_cmp {a b : Expr} {op : CmpOp} {r : R2} {g : D → D → Option Bool} {g1 : FX} {f2 : Fn} {pos : Pos} (ho : OpR X (compareOp op) r) (hr : OpD X.K r (toB g)) (ha : PX X a g1) (hb : PE X b (tD X.K f2)) (hm : behindInMarks op b = false := by rfl) :
    PTM X (.Compare a [op] [b] pos) (cmpM g g1 f2) := by
  obtain ⟨t1, h1, use⟩ := ha
  refine ⟨_, pt_cmpR ho h1 (fr_e hb) hm, fun Hb ρ σ H H0 L b ρ' Q E hf kq => ?_⟩
  unfold cmpM at hf
  cases q1 : g1 ρ with
  | none => rw [q1] at hf; cases hf
  | some p =>
    obtain ⟨d1, ρ1⟩ := p
    rw [q1] at hf
    simp only [Option.bind_some] at hf
    cases q2 : f2 ρ1 with
    | none => rw [q2] at hf; cases hf
    | some d2 =>
      rw [q2] at hf
      simp only [Option.bind_some] at hf
      cases q3 : g d1 d2 with
      | none => rw [q3] at hf; cases hf
      | some b' =>
        rw [q3] at hf
        cases hf
        refine use Hb ρ σ H H0 L d1 _ _ E q1 fun v H1 H1' L1 E1 s1 r1 => use_e E1 q2 fun w H2 H2' E2 s2 r2 => ?_
        refine hr H2 v w d1 d2 (.bool _) _ ((r1.mono s2).mono E2.sub) (r2.mono E2.sub) (by unfold toB; rw [q3]; rfl) fun u H3 s3 r3 => ⟨_, r3.bl_inv, ?_⟩
        obtain ⟨H3', s0, _, E3⟩ := E2.lent s3
        exact kq H3 H3' L1 E3 ((s1.trans s2).trans s0)
@[simp] def orM (g1 : Store → Option (Bool × Store)) (g2 : Store → Option Bool) : Store → Option (Bool × Store) := fun ρ => (g1 ρ).bind fun p => if p.1 = true then some p else (g2 p.2).map fun b => (b, p.2)
theorem tm_or {a b : Expr} {rest : List Expr} {pos : Pos} {g1 : Store → Option (Bool × Store)} {f2 : Store → Option Bool} (ha : PTM X a g1) (hb : PW X (.BoolOp .Or (b :: rest) pos) (tT X.K f2)) : PTM X (.BoolOp .Or (a :: b :: rest) pos) (orM g1 (xt f2)) := by
  obtain ⟨t1, h1, use1⟩ := ha
  refine ⟨_, (pw_or h1 hb).pt, fun Hb ρ σ H H0 L b ρ' Q E hf kq => ?_⟩
  unfold orM at hf
  cases q1 : g1 ρ with
  | none => rw [q1] at hf; cases hf
  | some p =>
    obtain ⟨b1, ρ1⟩ := p
    rw [q1] at hf
    simp only [Option.bind_some] at hf
    refine use1 Hb ρ σ H H0 L b1 ρ1 _ E q1 fun H1 H1' L1 E1 s1 => ?_
    cases b1 with
    | true =>
      rw [if_pos rfl] at hf
      cases hf
      exact kq H1 H1' L1 E1 s1
    | false =>
      rw [if_neg Bool.false_ne_true] at hf
      cases q2 : xt f2 ρ1 with
      | none => rw [q2] at hf; cases hf
      | some b2 =>
        rw [q2] at hf
        cases hf
        exact ⟨frz _, _, E1.vvF, q2, fun H2 s2 => let ⟨H2', s0, _, E2⟩ := E1.lent s2; kq H2 H2' L1 E2 (s1.trans s0)⟩
@[simp] def iteM (c : Store → Option (Bool × Store)) (g1 g2 : Fs) : Fs := fun ρ => match c ρ with
  | some (true, ρ') => g1 ρ'
  | some (false, ρ') => g2 ρ'
  | none => .stuck
theorem s_ifM {c : Expr} {a b : List Stmt} {fc : Store → Option (Bool × Store)} {g1 g2 : Fs} {pos : Pos} (hc : PTM X c fc) (h1 : PSs X a (tS X.K W g1)) (h2 : PSs X b (tS X.K W g2)) : PS X (.If c a b pos) (tS X.K W (iteM fc g1 g2)) := by
  obtain ⟨t, ht, use⟩ := hc
  refine (ps_if ht h1 h2).imw fun D σ H ⟨Hb, ρ, H0, L, E, h⟩ => ?_
  unfold iteM at h
  cases q : fc ρ with
  | none => rw [q] at h; exact h.elim
  | some p =>
    obtain ⟨b, ρ'⟩ := p
    rw [q] at h
    refine use Hb ρ σ H H0 L b ρ' _ E q fun H' H0' L' E' s => ?_
    cases b with
    | true => exact ⟨Hb, ρ', H0', L', E', h⟩
    | false => exact ⟨Hb, ρ', H0', L', E', h⟩
/-! ### a, b = C(), e -/
@[simp] def newP (C : Addr) (i j : Nat) (d0 : D) (f : Fn) : Fs := fun ρ => match f (frz ρ) with
  | some d => if i < ρ.length ∧ noL d0 = true ∧ noL d = true then .nx ((ρ.set i (.sv C d0)).set j (.val d)) else .stuck
  | none => .stuck
theorem same_made {H H2 : Hp} {x dx C : Addr} {w : V} (hx : H x = none) (hdx : H dx = none) (s2 : Same (upd (upd H dx (.own x)) x (.ins C dx [])) H2) : Same H (upd H2 x (.ins C dx [("strikes", w)])) := fun b o e => by
  have h1 : b ≠ x := fun q => by rw [q, hx] at e; cases e
  have h2 : b ≠ dx := fun q => by rw [q, hdx] at e; cases e
  rw [upd_ne h1]
  exact s2 _ _ (by rw [upd_ne h1, upd_ne h2]; exact e)
theorem s_newP {x y z : Str} {k r : Nat} {d0 : D} {b : Expr} {f : Fn} {p py pz pt pt2 pos pos2 : Pos} {kt k2 : Nat} (M : MkS X.prog X.w X.K X.mg X.base C x k d0) (hN : X.N.Nodup) (hr : Room r X.A) (hk : k + 1 ≤ r) (i j : Nat) (hb : PE X b (tD X.K f)) (hij : i ≠ j := by decide) (hi : X.N[i]? = some y := by rfl) (hj : X.N[j]? = some z := by rfl)
    (hy : X.env.scope.names.lookup y = some .local := by rfl) (hz : X.env.scope.names.lookup z = some .local := by rfl) (hc : X.calm = true := by rfl) (hg : Gl X x := by rfl) (hdb : (x == ("__debug__" : Str)) = false := by decide)
    (hw : swappedStores [.Tuple [.Name y py, .Name z pz] kt pt] (.Tuple [.Call (.Name x p) [] [] pos, b] k2 pt2) X.env = pure (some [y, z]) := by rfl)
    (hs : swapsWithSole [.Tuple [.Name y py, .Name z pz] kt pt] (.Tuple [.Call (.Name x p) [] [] pos, b] k2 pt2) pos2.line X.env = pure false := by rfl)
    (s1 : starEach [.Call (.Name x p) [] [] pos, b] X.env = (false, eval (.Call (.Name x p) [] [] pos) X.env) :: starEach [b] X.env := by rfl) (s2 : starEach [b] X.env = (false, eval b X.env) :: starEach [] X.env := by rfl) :
    PS X (.Assign [.Tuple [.Name y py, .Name z pz] kt pt] (.Tuple [.Call (.Name x p) [] [] pos, b] k2 pt2) pos2) (tS X.K W (newP C i j d0 f)) := by
  obtain ⟨fI, fdI, Mk, F, hm, hbI⟩ := M
  refine (ps_par hc hN hi hj hij hy hz (pa_cons (pe_make0 Mk F (hr.mono hk) hg hm hbI .nil pass0 hdb) (pa_cons hb pa_nil s2) s1) hw hs).imw fun D σ H ⟨Hb, ρ, H0, L, E, h⟩ => ?_
  unfold newP at h
  cases q : f (frz ρ) with
  | none => rw [q] at h; exact h.elim
  | some d =>
    rw [q] at h
    simp only at h
    split at h
    · rename_i hc
      intro a dx hx hdx ne
      refine ⟨a, dx, rfl, upd_same, fun w' H2 s2 r2 => ⟨rfl, ?_⟩⟩
      have sm := same_made (w := w') hx hdx s2
      obtain ⟨H1, L1, E1⟩ := E.setSv i hc.1 hx hdx ne s2 r2 hc.2.1
      refine ⟨frz ρ, d, E.vvF.mono sm, q, fun v H3 s3 r3 => ⟨_, _, rfl, ?_⟩⟩
      obtain ⟨H3', s0, ht, E3⟩ := E1.lent s3
      obtain ⟨H4, L4, s4, E4⟩ := E3.setVal j (Rp.noL ht hc.2.2 r3)
      exact h _ _ H4 L4 E4
    · exact h.elim
/-! ### C().m(..) -/
@[simp] def tmpF (d0 : D) (fr : D → List D → Option D) (fa : Store → Option (List D)) : Fn := fun ρ => (fa ρ).bind (fr d0)
theorem tmp_sem {K : PySem.W.Frag} {m : Str} {n : Nat} {d0 : D} {fr : D → List D → Option D} {fa : Store → Option (List D)} (hn : noL d0 = true) (hms : (m == ("strikes" : Str)) = false) (hl : ∀ d ds r, fr d ds = some r → ds.length + 1 = n) {E E' : XK} {σ : L2.St} {H : Hp} {Q : VK} (h : tD K (tmpF d0 fr fa) σ H Q) :
    tMeth C m (spR K C n fr) [] E (tMake C (spI K C d0) [] E' tNil) (tA K fa) σ H Q := by
  obtain ⟨ρ, d, Ev, hf, k⟩ := h
  unfold tmpF at hf
  cases q : fa ρ with
  | none => rw [q] at hf; cases hf
  | some ds =>
    rw [q] at hf
    simp only [Option.bind_some] at hf
    intro x dx hx hdx ne
    refine ⟨x, dx, rfl, upd_same, fun w' H2 s2 r2 => ⟨rfl, ?_⟩⟩
    have sm := same_made (w := w') hx hdx s2
    have e2x : H2 x = some (.ins C dx []) := s2 _ _ upd_same
    have e2d : H2 dx = some (.own x) := s2 _ _ (by rw [upd_ne ne, upd_same])
    have r2' : Rp K (upd H2 x (.ins C dx [("strikes", w')])) w' d0 := Rp.noL (fun b o no e => by
      rw [upd_ne]
      · exact e
      · intro q
        rw [q, e2x] at e; cases e; exact no trivial) hn r2
    refine ⟨x, dx, _, rfl, upd_same, by simp [List.lookup, hms], ρ, ds, Ev.mono sm, q, fun vs H3 s3 r3 => ⟨_, vs, d0, ds, d, by rw [List.append_nil], ?_, SvAt.mono s3 ⟨x, dx, w', rfl, Ne.symm ne, upd_same, by rw [upd_ne ne]; exact e2d, r2'⟩, r3, hf, fun v H' s' r' => k v H' ((sm.trans s3).trans s') r'⟩⟩
    have := hl _ _ _ hf
    have h5 := r3.length
    simp; omega
theorem e_tmp {m x : Str} {k kI j : Nat} {d0 : D} {fr : D → List D → Option D} {fa : Store → Option (List D)} {e : Expr} {es : List Expr} {p pc apos pos : Pos} {pl : Sem Bool} (T : SvC X.K C) (MI : MkS X.prog X.w X.K X.mg X.base C x kI d0) (M : MdR X.prog X.w X.K X.mg X.base C m k fr) (hr : Room j X.A) (hkI : kI + 1 ≤ j) (hk : k ≤ j) (ha : PA X (e :: es) (tA X.K fa))
    (hn : noL d0 = true := by rfl) (hg : Gl X x := by rfl) (hdb : (x == ("__debug__" : Str)) = false := by decide) (hms : (m == ("strikes" : Str)) = false := by decide)
    (hst : starEach (e :: es) X.env = (false, eval e X.env) :: starEach es X.env := by rfl) (hpl : (backTo pos (starEach es X.env)).any (·.1) = false := by rfl)
    (ht : eval (.Call (.Attribute (.Call (.Name x p) [] [] pc) m apos) (e :: es) [] pos) X.env = (do
      let ov ← eval (.Call (.Name x p) [] [] pc) X.env
      standAt apos.atName
      let (f, first) ← holding [ov] (getMethod ov m pl)
      callWith pos f first (backTo pos (starEach (e :: es) X.env)) (backToKw pos (keywordEach [] X.env))) := by rfl) :
    PE X (.Call (.Attribute (.Call (.Name x p) [] [] pc) m apos) (e :: es) [] pos) (tD X.K (tmpF d0 fr fa)) := by
  obtain ⟨fI, fdI, Mk, FI, hmI, hbI⟩ := MI
  obtain ⟨fa', fd, ps, F, hm, hb, hl⟩ := M
  exact (pe_meth (pe_make0 Mk FI (hr.mono hkI) hg hmI hbI .nil pass0 hdb) T.cl hm F (hr.mono hk) hb .nil pass0 ha hst hpl ht).imw fun σ H Q h => tmp_sem hn hms hl h
theorem e_tmp0 {m x : Str} {k kI j : Nat} {d0 : D} {fr : D → List D → Option D} {p pc apos pos : Pos} {pl : Sem Bool} (T : SvC X.K C) (MI : MkS X.prog X.w X.K X.mg X.base C x kI d0) (M : MdR X.prog X.w X.K X.mg X.base C m k fr) (hr : Room j X.A) (hkI : kI + 1 ≤ j) (hk : k ≤ j)
    (hn : noL d0 = true := by rfl) (hg : Gl X x := by rfl) (hdb : (x == ("__debug__" : Str)) = false := by decide) (hms : (m == ("strikes" : Str)) = false := by decide)
    (ht : eval (.Call (.Attribute (.Call (.Name x p) [] [] pc) m apos) [] [] pos) X.env = (do
      let ov ← eval (.Call (.Name x p) [] [] pc) X.env
      standAt apos.atName
      let (f, first) ← holding [ov] (getMethod ov m pl)
      callWith pos f first (backTo pos (starEach [] X.env)) (backToKw pos (keywordEach [] X.env))) := by rfl) :
    PE X (.Call (.Attribute (.Call (.Name x p) [] [] pc) m apos) [] [] pos) (tD X.K (tmpF d0 fr anil)) := by
  obtain ⟨fI, fdI, Mk, FI, hmI, hbI⟩ := MI
  obtain ⟨fa', fd, ps, F, hm, hb, hl⟩ := M
  refine (pe_meth0 (pe_make0 Mk FI (hr.mono hkI) hg hmI hbI .nil pass0 hdb) T.cl hm F (hr.mono hk) hb .nil pass0 ht).imw fun σ H Q h => ?_
  have h := tmp_sem (C := C) (E := fun _ _ _ => False) (E' := fun _ _ _ => False) hn hms hl h
  intro x dx hx hdx ne
  obtain ⟨a, dx', e1, h1, h2⟩ := h x dx hx hdx ne
  refine ⟨a, dx', e1, h1, fun w' H2 s2 r2 => ?_⟩
  obtain ⟨e3, a', dx2, fs, e4, h3, h4, ρ, ds, E, h5, h6⟩ := h2 w' H2 s2 r2
  cases h5
  exact ⟨e3, a', dx2, fs, e4, h3, h4, h6 [] _ (Same.refl _) .nil⟩
end
end Tv

/-! Tv33: an exception that leaves a list comprehension. -/
namespace Tv
open PySem PySem.Spec PyProof.Rows L2
theorem note_same {u : Value} {e1 e2 : Env} (h : e1.frame = e2.frame) : noteFrame u e1 = noteFrame u e2 := by
  unfold noteFrame PySem.frameOf
  rw [h]
theorem frames_at {h h' B B' : Heap} : ∀ {l : List Env}, h.FunFrames B l → (∀ b ∈ frs l, B'.get? b = none) → (∀ b ∈ frs l, h'.get? b = h.get? b) → h'.FunFrames B' l
  | [], _, _, _ => trivial
  | en :: l, ff, g1, g2 => by
    obtain ⟨kd, ⟨L, ob, ef, _, eo, nf⟩, more⟩ := ff
    have mem : L ∈ frs (en :: l) := List.mem_filterMap.mpr ⟨en, List.mem_cons_self, ef⟩
    have up : ∀ b ∈ frs l, b ∈ frs (en :: l) := fun b hb => by
      obtain ⟨x, hx, q⟩ := List.mem_filterMap.mp hb
      exact List.mem_filterMap.mpr ⟨x, List.mem_cons_of_mem _ hx, q⟩
    exact ⟨kd, ⟨L, ob, ef, g1 L mem, (g2 L mem).trans eo, nf⟩, frames_at more (fun b hb => g1 b (up b hb)) fun b hb => g2 b (up b hb)⟩
/-- what is asked where the block's code has let an exception out -/
def CompOut (X : Cx) (ce : Env) (u : Value) (s' : Shared) : Prop :=
  ∃ m, s'.heap.Ns ce.locals m ∧ ∀ h', Heap.SameBut ce.locals s'.heap h' → wpAny (model X.prog X.w) X.A (PySem.passOn "comprehension.variables-let-go" u ce : Sem Value) (fun _ _ => False) X.xe { s' with heap := h' }
section
variable {X : Cx} {W : WX} {pins : List (Addr × Obj)} {σ : L2.St}
theorem comp_lands {H3 H10 : Hp} {s3 s10 s11 : Shared} {fp : List Addr} {ce : Env} {E : XK} {u : Value} {E1 : Value → Shared → Prop} {m : Str → Option Value} (hs : X.stack = X.env :: X.outer) (hf : X.env.frame = some X.env.locals) (hcf : ce.frame = X.env.frame) (tk : L2N.Takes X W)
    (I : Inv X pins σ H3 s3) (os : s10.os = s3.os) (un : Un (frs X.stack) fp H3 H10 s3.heap s10.heap) (hfp : ∀ b ∈ fp, FpOk X pins H3 b) (hC : s3.heap.objs.size ≤ ce.locals) (hC0 : H10 ce.locals = none) (hCf : ce.locals ∉ frs X.stack) (hn : s10.heap.Ns ce.locals m)
    (hE : ∀ cls d H', E cls d H' → W cls d σ H') (c : L2N.CX X.prog X.w X.stack H10 s10 E u s11) : wpAny (model X.prog X.w) X.A (noteFrame u ce) (fun _ s12 => CompOut X ce u s12) E1 s11 := by
  obtain ⟨a, B, H', cls, d, rfl, fl, hok, ub, na, os1, ag, hEc⟩ := c
  have fro : X.A.frames = some (X.env :: X.outer) := by rw [I.ok.frames, hs]
  have frm1 := fl.2.2.1
  rw [note_same hcf]
  have fl' := fl
  rw [hs] at fl'
  refine PXN.looks_onZ L2N.Zn.steady fro hf fl' fun h12 held up => ?_
  obtain ⟨o, es, ep, ho, hrest⟩ := hn
  have hBC : B.get? ce.locals = some o := ub.keep _ _ ho hC0 hCf
  have atC : h12.get? ce.locals = some o := held.1 _ _ hBC
  refine ⟨m, ⟨o, es, ep, atC, hrest⟩, fun h1 sb => ?_⟩
  obtain ⟨k1, k2, k3, oe, vs, T, oT, ts, ea, za, da, va, nT, Ta, eT, dT, vT⟩ := held
  have aC : a ≠ ce.locals := fun z => by rw [z, hBC] at k2; cases k2
  have tC : T ≠ ce.locals := fun z => by rw [z, hBC] at nT; cases nT
  have ea1 : h1.get? a = some oe := (sb.2 a aC).trans ea
  have eT1 : h1.get? T = some oT := (sb.2 T tC).trans eT
  -- the ground without the block's dict
  obtain ⟨G0, eG0⟩ : ∃ G0, G0 = PySem.W.hideAll B [ce.locals] := ⟨_, rfl⟩
  have g0 : ∀ {b ob}, B.get? b = some ob → b ≠ ce.locals → G0.get? b = some ob := fun {b ob} e ne => by
    rw [eG0]; exact PySem.W.hideAll_get _ e (by simpa using ne)
  have g1 : ∀ {b ob}, G0.get? b = some ob → B.get? b = some ob ∧ b ≠ ce.locals := fun {b ob} e => by
    rw [eG0] at e
    refine ⟨PySem.W.of_hideAll _ e, fun z => ?_⟩
    rw [PySem.W.hideAll_none [ce.locals] (by simp [z])] at e
    cases e
  have gn : ∀ {b}, B.get? b = none → G0.get? b = none := fun {b} e => by
    cases q : G0.get? b with
    | none => rfl
    | some ob => rw [(g1 q).1] at e; cases e
  have frB : ∀ b ∈ frs X.stack, B.get? b = none := fun b hb => (frm1.mem hb).1
  have hld : HandSPX.HeldZ G0 (X.env :: X.outer) a (L2N.Zn cls d) X.env.locals h1 := by
    refine ⟨fun b ob e => ?_, gn k2, frames_at k3 (fun b hb => gn (frB b (by rw [hs]; exact hb))) (fun b hb => sb.2 b fun z => hCf (by rw [hs, ← z]; exact hb)), oe, vs, T, oT, ts, ea1, za, da, va, gn nT, Ta, eT1, dT, vT⟩
    obtain ⟨q1, q2⟩ := g1 e
    exact (sb.2 b q2).trans (k1 b ob q1)
  have last : ∀ {Q : Value → Shared → Prop}, wpAny (model X.prog X.w) X.A (setFlight (.ref a) ce.frame) (fun _ t => wpAny (model X.prog X.w) X.A (throw (.ref a) : Sem Value) Q X.xe t) X.xe { s11 with heap := h1 } := fun {Q} => by
    rw [hcf, hf]
    refine HandSPX.setFlight_onZ hld fun h2 held2 up2 => wpAny_throw (tk _ _ ?_)
    obtain ⟨G, r1, r2⟩ := restrict h2 fun b => (G0.get? b).isSome || decide (b ∈ frs X.stack)
    have gG : ∀ {b ob}, G0.get? b = some ob → G.get? b = some ob := fun {b ob} e => by
      rw [r1 b (by simp [e])]
      exact held2.1 b ob e
    have gF : ∀ {b}, b ∈ frs X.stack → G.get? b = h2.get? b := fun {b} hb => r1 b (by simp [hb])
    have og : ∀ {b ob}, G.get? b = some ob → h2.get? b = some ob ∧ ((G0.get? b).isSome = true ∨ b ∈ frs X.stack) := fun {b ob} e => by
      cases q : ((G0.get? b).isSome || decide (b ∈ frs X.stack)) with
      | false => rw [r2 b q] at e; cases e
      | true =>
        rw [r1 b q] at e
        exact ⟨e, by simpa [Bool.or_eq_true] using q⟩
    -- a frame's object, from the call to here
    have fro1 : ∀ {b ob}, b ∈ frs X.stack → s10.heap.get? b = some ob → ∃ sl, G.get? b = some { ob with slots := sl } := fun {b ob} hb e => by
      obtain ⟨sl, e1⟩ := ub.slot b ob e hb
      obtain ⟨_, ow, ew, nf⟩ := frm1.mem hb
      rw [e1] at ew
      cases ew
      obtain ⟨sl2, e2⟩ := up b _ e1 nf
      have ne : b ≠ ce.locals := fun z => hCf (z ▸ hb)
      have e3 : h1.get? b = _ := (sb.2 b ne).trans e2
      obtain ⟨sl3, e4⟩ := up2 b _ e3 nf
      exact ⟨sl3, by rw [gF hb]; exact e4⟩
    have low : ∀ {b ob}, s3.heap.get? b = some ob → b ≠ ce.locals := fun {b ob} e z => by
      have h5 := Heap.lt_size e
      rw [z] at h5
      exact absurd (Nat.lt_of_lt_of_le h5 hC) (Nat.lt_irrefl _)
    have J : Inv X pins σ H' { s3 with heap := G, gens := s11.gens, drawn := s11.drawn, toks := s11.toks } := by
      refine I.call' (ch := fp) rfl ⟨fun b ob e n hb hx => ?_, fun b ob e n hb hx => ?_, fun b ob e n hx => ?_, fun b ob e hx => ?_, fun b xs e => ub.tups _ _ (un.tups _ _ e), fun b ow xs e => ub.frzs _ _ _ (un.frzs _ _ _ e), fun b ps e => ?_⟩ (fun b w q => ?_) ag fun b hb => ?_
      · exact gG (g0 (ub.keep _ _ (un.keep b ob e n hb hx) (un.free b ob e n hx) hb) (low e))
      · obtain ⟨sl, e1⟩ := un.slot b ob e n hb hx
        obtain ⟨sl2, e2⟩ := fro1 hb e1
        exact ⟨sl2, e2⟩
      · obtain ⟨ow, e1⟩ := un.there b ob e hx
        exact ub.free b ow e1 (un.free b ob e n hx)
      · obtain ⟨ow, e1⟩ := un.there b ob e hx
        by_cases hb : b ∈ frs X.stack
        · obtain ⟨sl, e2⟩ := fro1 hb e1
          exact ⟨_, e2⟩
        · obtain ⟨oz, e2⟩ := ub.there b ow e1 hb
          exact ⟨oz, gG (g0 e2 (low e))⟩
      · obtain ⟨m1, e1⟩ := un.tbls b ps e
        obtain ⟨m2, e2⟩ := ub.tbls b _ e1
        exact ⟨m1 ++ m2, by rw [e2, Array.append_assoc]⟩
      · have nC : H' ce.locals = none := ub.free _ _ ho hC0
        refine (hok b w q).stay (fun x y hx r => gG (g0 r fun z => ?_)) (fun _ r => r) fun _ _ r => r
        rcases hx with hx | hx
        · rw [hx] at z
          rw [z, nC] at q; cases q
        · rw [z, nC] at hx; cases hx
      · obtain ⟨_, f1, _, f3, f4, f5⟩ := hfp b hb
        exact ⟨f3, f1, f4, f5⟩
    refine ⟨a, G0, _, pins, σ, H', cls, d, rfl, J, fun b ob e hb => ?_, Heap.UpToSlots.of_keeps fun b ob e => (og e).1, .inr (.inr (by rw [hs]; exact held2)), na, os1.trans os, ag, hE _ _ _ hEc⟩
    obtain ⟨e1, e2⟩ := og e
    rcases e2 with e2 | e2
    · obtain ⟨ow, q⟩ := Option.isSome_iff_exists.mp e2
      have z := held2.1 b ow q
      rw [e1] at z
      cases z
      exact q
    · exact absurd e2 hb
  unfold PySem.passOn
  refine wpAny_bind (wpAny_field ea1 da va ?_)
  have nn : ¬ ((Value.ref T == Value.none) = true) := by simp
  rw [if_neg nn]
  first
    | exact wpAny_bind last
    | exact wpAny_bind (wpAny_pure (wpAny_bind last))
end
/-! ### the comprehension as a whole -/
def PostX (M : Model) (A : Around) (E Q : Value → Shared → Prop) (acc : Value) (ce : Env) (r : Result) (t : Shared) : Prop := match r with
  | .ok _ => ∃ m, t.heap.Ns ce.locals m ∧ ∀ h', Heap.SameBut ce.locals t.heap h' → Q acc { t with heap := h' }
  | .error u => ∃ m, t.heap.Ns ce.locals m ∧ ∀ h', Heap.SameBut ce.locals t.heap h' → wpAny M A (PySem.passOn "comprehension.variables-let-go" u ce : Sem Value) (fun _ _ => False) E { t with heap := h' }
theorem comp_goes {M : Model} {A : Around} {E Q : Value → Shared → Prop} {s : Shared} {env : Env} {e : Expr} {scope : Scope} {pos : Pos} {acc0 src : Sem Value} {g : Comprehension} {gs : List Comprehension} {cl : List (Str × Addr)} (h1 : clausesOf e = g :: gs) (h2 : ∀ x, foldedSetIterable g.iter env x = pure x)
    (h3 : closureFor scope env = pure cl) (h4 : scope.kind = .function) (h5 : ∀ x ∈ scope.names, x.2 = .local → scope.names.lookup x.1 = some .local)
    (h : wpAny M A src (fun x t1 => wpAny M A (pyIter x) (fun it t2 => wpAny M A acc0 (fun ac t3 => wpAny M A (newFunctionEnv scope env.globals cl [] env.qual none .none (some env)) (fun ce t4 =>
      codeAny M A (.compStart e 0 it ac { ce with scope := relabel scope env }) (PostX M A E Q ac { ce with scope := relabel scope env }) t4) E t3) E t2) E t1) E s) :
    wpAny M A (comprehension e scope env pos acc0 false src none) Q E s := by
  unfold comprehension
  rw [h3, h1]
  refine wpAny_bind (wpAny_mono h (fun x t1 q1 => wpAny_bind (wpAny_standAt ?_)) fun _ _ z => z)
  refine wpAny_bind (wpAny_of_eq (h2 x) (wpAny_bind (wpAny_holding (wpAny_mono q1 (fun it t2 q2 => ?_) fun _ _ z => z))))
  refine wpAny_standIf (wpAny_bind (wpAny_mono q2 (fun ac t3 q3 => ?_) fun _ _ z => z))
  refine wpAny_bind (wpAny_pure (wpAny_bind (wpAny_mono q3 (fun ce t4 q4 => ?_) fun _ _ z => z)))
  dsimp only
  have loc : ∀ y ∈ (scope.names.filter fun x => (x.2 == .local || x.2 == .cell) && x.1 != (".0" : Str)).reverse, y.2 = .local → Env.kindOf { ce with scope := relabel scope env } y.1 = some .local := fun y hy hl =>
    lookup_relabel_local (h5 y (List.mem_filter.mp (List.mem_reverse.mp hy)).1 hl)
  refine wpAny_holding (wpAny_bind (wpAny_attempt ?_))
  refine wpAny_holding (wpAny_run (codeAny_mono q4 fun r t5 q5 => ?_))
  cases r with
  | error u =>
    obtain ⟨m, ns, q6⟩ := q5
    refine wpAny_bind (wpAny_holding (wpAny_comp_letGo (cenv := { ce with scope := relabel scope env }) h4 _ t5 m loc ns fun h' m' _ sb => ?_))
    exact wpAny_mono (q6 h' sb) (fun _ _ z => z.elim) fun _ _ z => z
  | ok fl =>
    obtain ⟨m, ns, q6⟩ := q5
    exact wpAny_bind (wpAny_holding (wpAny_comp_letGo (cenv := { ce with scope := relabel scope env }) h4 _ t5 m loc ns fun h' m' _ sb => wpAny_pure (q6 h' sb)))
abbrev blkX (X : Cx) (s : Shared) (H : Hp) (scope : Scope) (ce : Env) (fp : List Addr) (xe : Value → Shared → Prop) : Cx := (X.blk s H scope ce fp).wish xe
def tLcX (wi : TI) (g : TG) (te : L2.St → TE) (vs : List Nat) : TE := fun σ H Q => wi σ H fun J H1 => ∀ D, H1 D = none → ∃ V : Nat → Nat → Hp → Prop, (∃ m, V 0 m (upd H1 D (.lst []))) ∧ ∀ i m Hi, V i m Hi →
  (J.stop i Hi ∧ Q (.ref D) Hi) ∨ (J.go i Hi ∧ ∃ Nx : Hp → Prop, (∀ Hn, Nx Hn → ∃ k, k < m ∧ V (i + 1) k Hn) ∧ ∀ x Hx, J.yld i Hi x Hx → g x (L2.wipe σ vs) Hx fun σ2 Hg => L2.wipe σ2 vs = L2.wipe σ vs ∧
    te σ σ2 Hg fun y He => ∃ acc, He D = some (.lst acc) ∧ acc.length < sizeLine ∧ Nx (upd He D (.lst (acc ++ [y]))))
section
variable {X : Cx} {W : WX}
theorem pe_lcX {elt tg iter : Expr} {scope : Scope} {own : List (Str × Nat)} {pos : Pos} {wi : TI} {g : TG} {te : L2.St → TE} (hc : X.calm = true) (hst : X.stack = X.env :: X.outer) (hfr : X.env.frame = some X.env.locals) (hN : X.N.Nodup) (tk : L2N.Takes X W) (hi : PI X tg iter wi) (ok : BlkOk X.N X.env.scope scope own)
    (hg : ∀ (s : Shared) (H : Hp) (C : Addr) (cl : List (Str × Addr)) (fp : List Addr), PG (X.blk s H scope (compEnvC scope cl C X.env) fp) tg g)
    (he : ∀ (σ : L2.St) (s : Shared) (H : Hp) (C : Addr) (cl : List (Str × Addr)) (fp : List Addr) (xe : Value → Shared → Prop), Passes (L2N.CX X.prog X.w) (blkX X s H scope (compEnvC scope cl C X.env) fp xe) (fun cls d H' => W cls d σ H') → PE (blkX X s H scope (compEnvC scope cl C X.env) fp xe) elt (te σ))
    (hs : ∀ x, foldedSetIterable iter X.env x = pure x := by intro _; rfl) : PE X (.ListComp elt [⟨tg, iter, [], 0⟩] scope pos) (tLcX wi g te (own.map (·.2))) := by
  refine ⟨fun pins s σ H Q I h => ?_⟩
  rw [eval_ListComp]
  have clo : ∀ y ∈ scope.names, y.2 = .free → ∃ c, X.env.cells.lookup y.1 = some c := fun y hy z =>
    (ok.free y hy z).elim (fun k => I.ok.has _ (.inl k)) fun k => I.ok.has _ (.inr k)
  refine comp_goes rfl hs (closure_ok clo) ok.kind (fun y hy z => by rw [ok.uniq y hy, z]) (thn (hi.run pins s σ H _ I h) fun xv t1 p1 => thn p1 fun iv t2 p2 => ?_)
  obtain ⟨it, fp, tn, J, H2, rfl, I2, T, st2, f2, q⟩ := p2
  refine wpAny_newObj_type (newEnv_comp ?_) (by show 0 ≤ sizeLine; decide)
  obtain ⟨D, hD⟩ : ∃ D, D = t2.heap.objs.size := ⟨_, rfl⟩
  rw [← hD]
  obtain ⟨V, ⟨m0, v0⟩, turn⟩ := q D (I2.hok.fresh (Nat.le_of_eq hD.symm))
  -- the new list lies
  obtain ⟨t3, ht3⟩ : ∃ t3 : Shared, t3 = { t2 with heap := t2.heap.push { cls := .type "list", data := .seq ([] : List Value).toArray } } := ⟨_, rfl⟩
  rw [← ht3]
  have I3 : Inv X pins σ (upd H2 D (.lst [])) t3 := by
    rw [ht3]
    exact I2.laid (t' := t2.toks) (fun b o e => Heap.get?_push_of_some _ e) (Nat.le_of_eq hD.symm) ⟨Nat.zero_le _, [], 0, .nil, by rw [hD]; exact Heap.get?_push_size _ rfl⟩
  have hh3 : t3.heap = t2.heap.push { cls := .type "list", data := .seq ([] : List Value).toArray } := by rw [ht3]
  have small : ∀ b ∈ fp, b < t2.heap.objs.size := fun b hb => let ⟨_, e, _⟩ := T.obj _ _ st2 b hb; Heap.lt_size e
  have f3 : ∀ b ∈ fp, FpOk X pins (upd H2 D (.lst [])) b ∧ b < t3.heap.objs.size := fun b hb =>
    ⟨⟨by rw [upd_ne (show b ≠ D from fun z => absurd (small b hb) (by rw [z, hD]; exact Nat.lt_irrefl _))]; exact (f2 b hb).1, (f2 b hb).2⟩, by rw [hh3, Heap.size_push]; exact Nat.lt_succ_of_lt (small b hb)⟩
  have st3 : tn 0 t3.heap := T.keep _ _ _ st2 fun b _ o e => by rw [hh3]; exact Heap.get?_push_of_some _ e
  have I4 := block_start I3 ok hN f3
  obtain ⟨cl, hcl⟩ : ∃ cl, cl = cellsFrom (t3.heap.objs.size + 1) scope.names (cloFrom X.env.cells scope.names []) := ⟨_, rfl⟩
  rw [← hcl] at I4
  obtain ⟨H3, hH3⟩ : ∃ H3, H3 = upd H2 D (.lst []) := ⟨_, rfl⟩
  rw [← hH3] at I3 I4 f3 v0
  have pg := hg t3 H3 t3.heap.objs.size cl fp
  obtain ⟨ce, hce⟩ : ∃ ce, ce = compEnvC scope cl t3.heap.objs.size X.env := ⟨_, rfl⟩
  have goal : codeAny (model X.prog X.w) X.A (.compStart (.ListComp elt [⟨tg, iter, [], 0⟩] scope pos) 0 (.ref it) (.ref D) ce) (PostX (model X.prog X.w) X.A X.xe (EP X pins σ Q) (.ref D) ce) { t3 with heap := pushCells (t3.heap.push { cls := .type "dict", data := .dict #[] }) scope.names } := ?_
  · rw [hce, hcl] at goal
    exact goal
  have ceL : ce.locals = t3.heap.objs.size := by rw [hce]; rfl
  have ceF : ce.frame = X.env.frame := by rw [hce]; rfl
  rw [← hce] at I4 pg
  have okE : ∀ xe, Passes (L2N.CX X.prog X.w) (blkX X t3 H3 scope ce fp xe) (fun cls d H' => W cls d σ H') → PE (blkX X t3 H3 scope ce fp xe) elt (te σ) := fun xe => by
    rw [hce]
    exact he σ t3 H3 t3.heap.objs.size cl fp xe
  obtain ⟨t4, ht4⟩ : ∃ t4 : Shared, t4 = { t3 with heap := pushCells (t3.heap.push { cls := .type "dict", data := .dict #[] }) scope.names } := ⟨_, rfl⟩
  rw [← ht4] at I4 ⊢
  have st4 : tn 0 t4.heap := T.keep _ _ _ st3 fun b _ o e => by rw [ht4]; exact pushCells_keeps _ _ _ _ (Heap.get?_push_of_some _ e)
  have stays : ∀ {σ' : L2.St} {H' : Hp} {t : Shared}, Inv (X.blk t3 H3 scope ce fp) [] σ' H' t → (∀ b ∈ fp, H' b = none) → ∀ b ∈ fp, FpOk (X.blk t3 H3 scope ce fp) [] H' b := fun {σ' H' t} Ib nb b hb =>
    ⟨nb b hb, (Ib.ok.exf b hb).1, Ib.ok.exfs b hb, .inl hb, fun x c e => (Ib.ok.exf b hb).2 x c e, fun p hp => absurd (show p ∈ ([] : List (Addr × Obj)) ++ [] from hp) (by simp)⟩
  have nst : ce.locals ∉ frs X.stack := fun z => by
    obtain ⟨_, o, e, _⟩ := I3.stack.mem z
    have := Heap.lt_size e
    rw [ceL] at this
    exact absurd this (Nat.lt_irrefl _)
  -- what an exception of the element meets
  have pass : Passes (L2N.CX X.prog X.w) (blkX X t3 H3 scope ce fp (notedBy (model X.prog X.w) X.A ce fun u t => PostX (model X.prog X.w) X.A X.xe (EP X pins σ Q) (.ref D) ce (.error u) t)) (fun cls d H' => W cls d σ H') := fun pn σ' H' t u t' Ib c => by
    have Ic : Inv (X.blk t3 H3 scope ce fp) pn σ' H' t := Ib.unwish
    obtain ⟨m, ns, _⟩ := Ic.loc
    exact comp_lands hst hfr ceF tk I3 Ic.os Ic.base (fun b hb => (f3 b hb).1) (Nat.le_of_eq ceL.symm) Ic.free nst ns (fun _ _ _ z => z) c
  have pe := okE _ pass
  have loop : codeAny (model X.prog X.w) X.A (.compLoop (.ListComp elt [⟨tg, iter, [], 0⟩] scope pos) 0 (.ref it) (.ref D) ce) (PostX (model X.prog X.w) X.A X.xe (EP X pins σ Q) (.ref D) ce) t4 := by
    refine compLoop_any (fun n t => ∃ i Hi, Inv (X.blk t3 H3 scope ce fp) [] (L2.wipe σ (own.map (·.2))) Hi t ∧ tn i t.heap ∧ (∀ b ∈ fp, Hi b = none) ∧ V i n Hi) ?_ m0 ⟨0, H3, I4, st4, fun b hb => (f3 b hb).1.1, v0⟩
    rintro n t5 ⟨i, H5, I5, st5, n5, v5⟩
    rcases turn i n H5 v5 with ⟨stop, fin⟩ | ⟨go, Nx, onw, step⟩
    · refine thnF (T.done (X.blk t3 H3 scope ce fp) rfl rfl rfl hc i [] t5 _ H5 (fun _ _ => False) I5 (stays I5 n5) st5 stop) fun r t6 ⟨hr, I6⟩ => ?_
      subst hr
      have I7 : Inv X pins σ H5 t6 := I3.call' (ch := fp) I6.os I6.base I6.hok I6.bare fun b hb => let ⟨_, g1, _, g3, g4, g5⟩ := (f3 b hb).1; ⟨g3, g1, g4, g5⟩
      have nC : H5 ce.locals = none := I6.free
      obtain ⟨m, ns, _⟩ := I6.loc
      refine ⟨m, ns, fun h' sb => ?_⟩
      obtain ⟨g0, g1, g2, g3, g4, g5⟩ := I3.fpOk (b := ce.locals) (Nat.le_of_eq ceL.symm) nC
      exact ⟨.ref D, H5, I7.turned (t' := t6.toks) (fun b o ne e => (sb.2 b ne).trans e) g0 g1 g3 g4 g5, rfl, fin⟩
    · refine thnF (T.item (X.blk t3 H3 scope ce fp) rfl rfl rfl hc i [] t5 _ H5 (fun _ _ => False) I5 (stays I5 n5) st5 go) fun r t6 ⟨u, hr, p6⟩ => ?_
      subst hr
      refine thnF p6 fun _ t7 ⟨x, H7, I7, r7, y7, st7, n7⟩ => ?_
      refine thnF (pg.run _ t7 _ H7 x u _ (I7.pinned (stays I7 n7) (T.obj _ _ st7)) r7 (step x H7 y7)) fun _ t8 ⟨σ8, H8, I8, same8, q8⟩ => wpAny_tests_nil ?_
      simp only [if_true]
      refine wpAny_mono (pe.run _ t8 σ8 H8 _ (I8.wish _) q8) (fun z t9 ⟨yv, H9, I9', r9, acc, lD, room, nx⟩ => ?_) fun _ _ z => z
      have I9 : Inv (X.blk t3 H3 scope ce fp) ([] ++ pinsAt fp t7.heap) σ8 H9 t9 := I9'.unwish
      refine app_ok (X := X.blk t3 H3 scope ce fp) I9 lD room r9 fun t10 I10 => ?_
      obtain ⟨k, hk, vk⟩ := onw _ nx
      have pin' : ∀ b ∈ fp, ∀ o, t7.heap.get? b = some o → t10.heap.get? b = some o ∧ (upd H9 D (.lst (acc ++ [yv]))) b = none := fun b hb o e =>
        let z := I10.pin (b, o) (List.mem_append_right _ (List.mem_append_right _ (mem_pinsAt hb e)))
        ⟨z.1, z.2.1⟩
      have ll : (L2.wipe σ (own.map (·.2))).length = σ8.length := by rw [← same8, wipe_length]
      refine ⟨k, hk, i + 1, _, (I10.unpinned (pins := [])).weak ll (fun j v e => ?_), T.keep _ _ _ st7 fun b hb o e => (pin' b hb o e).1, fun b hb => ?_, vk⟩
      · rw [← same8] at e
        exact (wipe_some e).1
      · obtain ⟨o, e, _⟩ := T.obj _ _ st7 b hb
        exact (pin' b hb o e).2
  exact codeAny_compStart_list loop (T.self X.A 0 _ _ _ st4 loop)
end
end Tv

/-! Tv34: defs that raise out of any statement; comprehensions whose element raises. -/
namespace Tv
open PySem PySem.Spec PyProof.Rows L2
inductive XL where
  | ok (ds : List D) | ex (c : Value)
def compXL (b : D → Store → Option Store) (fa : Store → Option (List D)) (fm : List D → Option XO) (ρ : Store) : List D → Option XL
  | [] => some (.ok [])
  | d :: ds => (b d ρ).bind fun ρ1 => (fa ρ1).bind fun as => match fm as with
    | some (.ok r) => if noL r = true then (match compXL b fa fm ρ ds with
      | some (.ok rs) => some (.ok (r :: rs))
      | some (.ex c) => some (.ex c)
      | none => none) else none
    | some (.ex c) => some (.ex c)
    | none => none
def compXF (f : Store → Option (List D)) (T : Tg) (vs : List Nat) (fa : Store → Option (List D)) (fm : List D → Option XO) : Store → Option XL := fun ρ =>
  (f ρ).bind fun ds => if ds.length ≤ big then compXL (bindT T) fa fm (wipeS ρ vs) ds else none
def tLX (K : PySem.W.Frag) (W : WX) (f : Store → Option XL) : TE := fun σ H Q => ∃ ρ x, EvV K ρ σ H ∧ f ρ = some x ∧ match x with
  | .ok ds => ∀ p vs H', Same H H' → H' p = none → RpA K H' vs ds → Q (.ref p) (upd H' p (.lst vs))
  | .ex c => ∀ H', Same H H' → W c none σ H'
theorem upd_back {H : Hp} {p : Addr} {o : HO} (h : H p = some o) : upd (fun b => if b = p then none else H b) p o = H := by
  funext b
  unfold upd
  by_cases hb : b = p
  · rw [if_pos hb, hb, h]
  · rw [if_neg hb]
    show (if b = p then none else H b) = H b
    rw [if_neg hb]
/-- a raising def's call, its exception wished for by E -/
def tXc (K : PySem.W.Frag) (fm : List D → Option XO) (E : XK) (fa : Store → Option (List D)) : TE := fun σ H Q => tA K fa σ H fun vs H1 => ∃ ds o, RpA K H1 vs ds ∧ fm ds = some o ∧ match o with
  | .ok d => ∀ v H', Same H1 H' → Rp K H' v d → Q v H'
  | .ex c => ∀ H', Same H1 H' → E c none H'
theorem tLX_of {K : PySem.W.Frag} {W : WX} {f : Store → Option (List D)} {T : Tg} {vs : List Nat} {fa : Store → Option (List D)} {fm : List D → Option XO} (hsub : ∀ i ∈ slots T, i ∈ vs) {σ : L2.St} {H : Hp} {Q : VK} (hh : tLX K W (compXF f T vs fa fm) σ H Q) :
    tLcX (iD K f) (gT K T) (fun σ0 => tXc K fm (fun cls d H' => W cls d σ0 H') fa) vs σ H Q := by
  obtain ⟨ρ, res, E, hf, k⟩ := hh
  unfold compXF at hf
  cases q : f ρ with
  | none => rw [q] at hf; cases hf
  | some ds =>
    rw [q] at hf
    simp only [Option.bind_some] at hf
    split at hf
    · rename_i hbig
      refine ⟨ρ, ds, E, q, fun J H1 s1 io => ?_⟩
      intro p hp
      have Ew : EvV K (wipeS ρ vs) (L2.wipe σ vs) H1 := (E.mono s1).wipe _
      -- what is left: the answer so far is accd, the rest's is y
      let joins : List D → XL → XL := fun acc y => match y with
        | .ok rs => .ok (acc ++ rs)
        | .ex c => .ex c
      refine ⟨fun i m H' => m = ds.length - i ∧ i ≤ ds.length ∧ ∃ H0 accv accd y, Same H1 H0 ∧ H0 p = none ∧ H' = upd H0 p (.lst accv) ∧ RpA K H0 accv accd ∧ accd.length ≤ i ∧
        compXL (bindT T) fa fm (wipeS ρ vs) (ds.drop i) = some y ∧ joins accd y = res, ⟨ds.length, by simp, Nat.zero_le _, H1, [], [], res, Same.refl H1, hp, rfl, .nil, Nat.le_refl _, hf, by cases res <;> rfl⟩, ?_⟩
      rintro i m H' ⟨rfl, hi, H0, accv, accd, y, s0, hp0, rfl, racc, hal, hy, hres⟩
      have sH : Same H1 (upd H0 p (.lst accv)) := s0.trans (same_upd hp0)
      obtain ⟨io1, io2⟩ := io i _ sH
      by_cases hlt : i < ds.length
      · right
        have hd : ds[i]? = some ds[i] := List.getElem?_eq_getElem hlt
        obtain ⟨go, yl⟩ := io2 _ hd
        rw [List.drop_eq_getElem_cons hlt] at hy
        unfold compXL at hy
        cases qb : bindT T ds[i] (wipeS ρ vs) with
        | none => rw [qb] at hy; cases hy
        | some ρ1 =>
          rw [qb] at hy
          simp only [Option.bind_some] at hy
          cases qa : fa ρ1 with
          | none => rw [qa] at hy; cases hy
          | some as =>
            rw [qa] at hy
            simp only [Option.bind_some] at hy
            refine ⟨go, fun H2 => ∃ H02 accv2 accd2 y2, Same H1 H02 ∧ H02 p = none ∧ H2 = upd H02 p (.lst accv2) ∧ RpA K H02 accv2 accd2 ∧ accd2.length ≤ i + 1 ∧
              compXL (bindT T) fa fm (wipeS ρ vs) (ds.drop (i + 1)) = some y2 ∧ joins accd2 y2 = res, fun H2 h2 => ⟨ds.length - (i + 1), by omega, rfl, hlt, h2⟩, fun x H'' yy => ?_⟩
            have fin : ∀ {H03 : Hp}, Same H0 H03 → H03 p = none → Rp K H03 x ds[i] → gT K T x (L2.wipe σ vs) (upd H03 p (.lst accv)) fun σ2 H2 => L2.wipe σ2 vs = L2.wipe σ vs ∧
                tXc K fm (fun cls d H' => W cls d σ H') fa σ2 H2 fun y H4 => ∃ acc, H4 p = some (.lst acc) ∧ acc.length < sizeLine ∧ (∃ H02 accv2 accd2 y2, Same H1 H02 ∧ H02 p = none ∧ (upd H4 p (.lst (acc ++ [y]))) = upd H02 p (.lst accv2) ∧ RpA K H02 accv2 accd2 ∧ accd2.length ≤ i + 1 ∧
                  compXL (bindT T) fa fm (wipeS ρ vs) (ds.drop (i + 1)) = some y2 ∧ joins accd2 y2 = res) := by
              intro H03 s3 hp3 r3
              refine gT_vv ((Ew.mono s0).mono s3) (same_upd hp3) r3 qb fun σ' E' hw => ⟨?_, ?_⟩
              · rw [hw _ hsub]
                exact wipe_sub fun u hu => hu
              · refine ⟨ρ1, as, E'.mono (same_upd hp3), qa, fun vs4 H4 s4 r4 => ?_⟩
                have sam : Same H H4 := (((s1.trans s0).trans s3).trans (same_upd hp3)).trans s4
                cases qm : fm as with
                | none => rw [qm] at hy; cases hy
                | some o =>
                  rw [qm] at hy
                  refine ⟨as, o, r4, qm, ?_⟩
                  cases o with
                  | ex c =>
                    cases hy
                    have er : res = .ex c := hres.symm
                    subst er
                    exact fun H5 s5 => k H5 (sam.trans s5)
                  | ok r =>
                    simp only at hy
                    split at hy
                    · rename_i hn
                      cases qr : compXL (bindT T) fa fm (wipeS ρ vs) (ds.drop (i + 1)) with
                      | none => rw [qr] at hy; cases hy
                      | some y2 =>
                        rw [qr] at hy
                        intro v H5 s5 rv
                        have hp5 : H5 p = some (.lst accv) := s5 _ _ (s4 _ _ upd_same)
                        have far : ∀ b o, b ≠ p → H5 b = some o → (fun b => if b = p then none else H5 b) b = some o := fun b o hb e => by
                          show (if b = p then none else H5 b) = some o
                          rw [if_neg hb]; exact e
                        have s35 : Same H03 (fun b => if b = p then none else H5 b) := fun b o e => by
                          have hb : b ≠ p := fun z => by rw [z, hp3] at e; cases e
                          exact far b o hb (s5 _ _ (s4 _ _ (by rw [upd_ne hb]; exact e)))
                        refine ⟨accv, hp5, by rw [racc.length]; have := hbig; rw [big_eq]; omega, fun b => if b = p then none else H5 b, accv ++ [v], accd ++ [r], y2, (s0.trans s3).trans s35, if_pos rfl, ?_, ((racc.mono s3).mono s35).append (.one (Rp.noL (fun b o no e => ?_) hn rv)), by simp; omega, rfl, ?_⟩
                        · have e := upd_back hp5
                          conv => lhs; rw [← e, upd_upd]
                        · refine far b o (fun z => ?_) e
                          rw [z, hp5] at e
                          cases e; exact no trivial
                        · rw [← hres]
                          cases y2 with
                          | ok rs => cases hy; show XL.ok _ = XL.ok _; rw [List.append_assoc]; rfl
                          | ex c => cases hy; rfl
                    · cases hy
            rcases yl x H'' yy with ⟨rfl, r⟩ | ⟨Ta, xs, es, hT, rfl, rfl, hde, r⟩
            · exact fin (Same.refl H0) hp0 (r.mono s0)
            · have hTp : Ta ≠ p := fun z => by rw [z, upd_same] at hT; cases hT
              have hT0 : H0 Ta = none := by rw [upd_ne hTp] at hT; exact hT
              rw [upd_comm (Ne.symm hTp)]
              refine fin (same_upd hT0) (by rw [upd_ne (Ne.symm hTp)]; exact hp0) ?_
              rw [hde]
              exact .tup (.inl upd_same) (r.mono (s0.trans (same_upd hT0)))
      · left
        have hil : i = ds.length := by omega
        refine ⟨io1 hil, ?_⟩
        rw [hil, List.drop_length] at hy
        cases hy
        have er : res = .ok accd := by rw [← hres]; show XL.ok (accd ++ []) = _; rw [List.append_nil]
        subst er
        exact k p accv H0 (s1.trans s0) hp0 racc
    · cases hf
section
variable {X : Cx} {W : WX}
theorem e_callP {E : XK} {e : Expr} {es : List Expr} {x : Str} {p pos : Pos} {k j : Nat} {fm : List D → Option XO} {fa : Store → Option (List D)} (G : DefX X.prog X.w X.K X.mg X.base x k fm) (hr : Room j X.A) (hk : k ≤ j) (hp : Passes (L2N.CX X.prog X.w) X E) (ha : PA X (e :: es) (tA X.K fa)) (hg : Gl X x := by rfl) (hdb : (x == ("__debug__" : Str)) = false := by decide)
    (he : starEach (e :: es) X.env = (false, eval e X.env) :: starEach es X.env := by rfl) (hpl : (backTo pos (starEach es X.env)).any (·.1) = false := by rfl) : PE X (.Call (.Name x p) (e :: es) [] pos) (tXc X.K fm E fa) := by
  obtain ⟨f, fd, ps, F, hm, hkp, hb, hl⟩ := G
  refine (pe_call (E := E) F (hr.mono hk) hg hm hkp hb .nil hp ha hdb he hpl).imw fun σ H Q ⟨ρ, ds, Ev, hf, kk⟩ => ⟨ρ, ds, Ev, hf, fun vs H1 s1 r1 => ?_⟩
  obtain ⟨ds', o, r', ho, k'⟩ := kk vs H1 s1 r1
  rw [List.append_nil]
  exact ⟨ds', o, by rw [r'.length]; exact hl _ _ ho, r', ho, k'⟩
theorem l_compX {N : List Str} {sc : Scope} {elt tg iter : Expr} {scope : Scope} (own : List (Str × Nat)) {pos : Pos} {f : Store → Option (List D)} {T : Tg} {fa : Store → Option (List D)} {fm : List D → Option XO} (hN : X.N.Nodup) (tk : L2N.Takes X W) (hi : PI X tg iter (iD X.K f))
    (hg : ∀ (s : Shared) (H : Hp) (C : Addr) (cl : List (Str × Addr)) (fp : List Addr), PG (X.blk s H scope (compEnvC scope cl C X.env) fp) tg (gT X.K T))
    (he : ∀ (σ : L2.St) (s : Shared) (H : Hp) (C : Addr) (cl : List (Str × Addr)) (fp : List Addr) (xe : Value → Shared → Prop), Passes (L2N.CX X.prog X.w) (blkX X s H scope (compEnvC scope cl C X.env) fp xe) (fun cls d H' => W cls d σ H') → PE (blkX X s H scope (compEnvC scope cl C X.env) fp xe) elt (tXc X.K fm (fun cls d H' => W cls d σ H') fa))
    (eN : X.N = N := by rfl) (eS : X.env.scope = sc := by rfl) (ok : blkC N sc scope own = true := by decide +kernel) (sub : (slots T).all (fun i => (own.map (·.2)).contains i) = true := by rfl) (hc : X.calm = true := by rfl) (hst : X.stack = X.env :: X.outer := by rfl) (hfr : X.env.frame = some X.env.locals := by rfl) (hs : ∀ x, foldedSetIterable iter X.env x = pure x := by intro _; rfl) :
    PE X (.ListComp elt [⟨tg, iter, [], 0⟩] scope pos) (tLX X.K W (compXF f T (own.map (·.2)) fa fm)) := by
  have hsub : ∀ i ∈ slots T, i ∈ own.map (·.2) := fun i hi => List.contains_iff_mem.mp (List.all_eq_true.mp sub i hi)
  exact (pe_lcX hc hst hfr hN tk hi (blkOk_by (by rw [eN, eS]; exact ok)) hg he hs).imw fun σ H Q h => tLX_of hsub h
/-- tuple([..]) -/
def tTX (K : PySem.W.Frag) (W : WX) (f : Store → Option XL) : TE := fun σ H Q => ∃ ρ x, EvV K ρ σ H ∧ f ρ = some x ∧ match x with
  | .ok ds => ∀ v H', Same H H' → Rp K H' v (.tuple ds) → Q v H'
  | .ex c => ∀ H', Same H H' → W c none σ H'
theorem e_tupX {e : Expr} {p pos : Pos} {f : Store → Option XL} (hm : X.mg "tuple" = none) (h : PE X e (tLX X.K W f)) (hg : Gl X "tuple" := by rfl) (he : starEach [e] X.env = (false, eval e X.env) :: starEach [] X.env := by rfl) (hpl : (backTo pos (starEach [] X.env)).any (·.1) = false := by rfl) :
    PE X (.Call (.Name "tuple" p) [e] [] pos) (tTX X.K W f) :=
  (pe_callTy call_tuple_of hg hm (by decide +kernel) (pa_cons h pa_nil he) (by decide) (by decide) he hpl).imw fun σ H Q ⟨ρ, x, E, hf, k⟩ => by
    refine ⟨ρ, x, E, hf, ?_⟩
    cases x with
    | ex c => exact k
    | ok ds => exact fun q vs H' s n r => cd_tup _ _ [.list ds] (.tuple ds) _ (.one (.lst upd_same (r.mono (same_upd n)))) rfl fun v H2 s2 r2 => k v H2 ((s.trans (same_upd n)).trans s2) r2
@[simp] def asgX (f : Store → Option XL) (i : Nat) : Fs := fun ρ => match f (frz ρ) with
  | some (.ok ds) => if noLs ds = true then .nx (ρ.set i (.val (.tuple ds))) else .stuck
  | some (.ex c) => .ex c ρ
  | none => .stuck
theorem s_setX {i : Nat} {x : Str} {e : Expr} {pos pos' : Pos} {f : Store → Option XL} (hN : X.N.Nodup) (h : PE X e (tTX X.K W f)) (hi : X.N[i]? = some x := by rfl) (hx : Loc X.env.scope x := by first | exact .inl rfl | exact .inr rfl) (hs : swapsWith e (some (.Name x pos')) pos.line X.env = pure false := by rfl)
    (hf : X.fn x = true ∨ X.env.scope.names.lookup x = some .local := by first | exact .inl rfl | exact .inr rfl | assumption) : PS X (.Assign [.Name x pos'] e pos) (tS X.K W (asgX f i)) :=
  (ps_set hN hi hx h hs hf).imw fun D σ H ⟨Hb, ρ, H0, L, E, h⟩ => by
    unfold asgX at h
    cases q : f (frz ρ) with
    | none => rw [q] at h; exact h.elim
    | some x =>
      rw [q] at h
      refine ⟨frz ρ, x, E.vvF, q, ?_⟩
      cases x with
      | ok ds =>
        simp only at h
        split at h
        · rename_i hn
          intro v H' s r
          obtain ⟨H0', s0, ht, E'⟩ := E.lent s
          obtain ⟨H1, L1, s1, E1⟩ := E'.setVal i (Rp.noL ht (by simpa using hn) r)
          exact h _ _ _ _ E1
        · exact h.elim
      | ex c => exact fun H' s => let ⟨H0', _, _, E'⟩ := E.lent s; h _ _ _ _ E'
/-- f(..), thrown away -/
@[simp] def callXS (fm : List D → Option XO) (fa : Store → Option (List D)) : Fs := fun ρ => match fa (frz ρ) with
  | some ds => (match fm ds with
    | some (.ok _) => .nx ρ
    | some (.ex c) => .ex c ρ
    | none => .stuck)
  | none => .stuck
theorem s_callX {e : Expr} {es : List Expr} {x : Str} {p pos pos2 : Pos} {k j : Nat} {fm : List D → Option XO} {fa : Store → Option (List D)} (G : DefX X.prog X.w X.K X.mg X.base x k fm) (hr : Room j X.A) (hk : k ≤ j) (tk : L2N.Takes X W) (ha : PA X (e :: es) (tA X.K fa)) (hg : Gl X x := by rfl) (hdb : (x == ("__debug__" : Str)) = false := by decide)
    (hsw : swapsWith (.Call (.Name x p) (e :: es) [] pos) none pos2.line X.env = pure false := by rfl) (he : starEach (e :: es) X.env = (false, eval e X.env) :: starEach es X.env := by rfl) (hpl : (backTo pos (starEach es X.env)).any (·.1) = false := by rfl) :
    PS X (.Expr (.Call (.Name x p) (e :: es) [] pos) pos2) (tS X.K W (callXS fm fa)) :=
  (ps_expr (e_callX G hr hk tk ha hg hdb he hpl) hsw).imw fun D σ H ⟨Hb, ρ, H0, L, E, h⟩ => by
    unfold callXS at h
    cases q : fa (frz ρ) with
    | none => rw [q] at h; exact h.elim
    | some ds =>
      rw [q] at h
      simp only at h
      cases q2 : fm ds with
      | none => rw [q2] at h; exact h.elim
      | some o =>
        rw [q2] at h
        refine ⟨frz ρ, ds, o, E.vvF, q, q2, ?_⟩
        cases o with
        | ok d => exact fun v H' s _ => let ⟨H0', _, _, E'⟩ := E.lent s; h _ _ _ _ E'
        | ex c => exact fun H' s => let ⟨H0', _, _, E'⟩ := E.lent s; h _ _ _ _ E'
theorem s_raiseX {er : Expr} {pos : Pos} {CE : Addr} (hc : X.calm = true) (tk : L2N.Takes X W) (he : L2N.PMk X er (fun _ H Q => Q (.ref CE) none H)) : PS X (.Raise (some er) none pos) (tS X.K W (fun ρ => .ex (.ref CE) ρ)) :=
  (L2N.ps_raise hc tk he).imw fun D σ H ⟨Hb, ρ, H0, L, E, h⟩ => h σ H H0 L E
end
/-! ### defs -/
@[simp] def fnXS (n N : Nat) (g : Fs) : List D → Option XO := fun ds => if ds.length = n then (match g (ds.map Sl.val ++ List.replicate (N - n) .un) with
  | .rt d _ => some (.ok d)
  | .nx _ => some (.ok .none)
  | .ex c _ => some (.ex c)
  | _ => none) else none
theorem fnXS_len {n N : Nat} {g : Fs} {ds : List D} {o : XO} (h : fnXS n N g ds = some o) : ds.length = n := by
  unfold fnXS at h
  split at h
  · assumption
  · cases h
section
variable {P : Program} {w : World} {K : PySem.W.Frag} {mg : Str → Option Value} {base : Heap}
theorem fnx_ok {x qual : Str} {st : Stmt} {f : Addr} {fd : FuncData} {N ps : List Str} {k : Nat} {g : Fs} (F : Fun K x qual st f fd) (S : FnScope N ps (defScope st))
    (h : ∀ (cdv : Value) (A : Around) (outer : List Env) (s : Shared) (H : Hp) (E : XK), Room k (A.deeper (PyProof.Rows.envOfC qual (defScope st) s.heap.objs.size f cdv)) → L2N.Takes (cxOf (L2N.CX P w) P w K mg base N qual (defScope st) f cdv A outer s H E) (fun cls d _ H' => E cls d H') →
      PSs (cxOf (L2N.CX P w) P w K mg base N qual (defScope st) f cdv A outer s H E) (defBody st) (tS K (fun cls d _ H' => E cls d H') g)) : FnOk P w K mg base (L2N.CX P w) (k + 1) f fd ps (spX K ps.length (fnXS ps.length N.length g)) := by
  refine okN F S (fun vs H Q E ⟨ds, o, hl, _⟩ => hl) (fun cdv A outer s H vs Q E hr ⟨ds, o, hl, r, hf, kk⟩ => ⟨_, h cdv A outer s H E hr (L2N.takes_of rfl rfl rfl rfl), ?_⟩)
  have hds := fnXS_len hf
  unfold fnXS at hf
  rw [if_pos hds] at hf
  have E0 := ev_start N r
  rw [hds] at E0
  refine ⟨H, _, H, _, E0, ?_⟩
  cases q : g (ds.map Sl.val ++ List.replicate (N.length - ps.length) .un) with
  | rt d' ρ' =>
    rw [q] at hf
    cases hf
    exact fun v σ' H' H0 L E' r' => kk v H' (E'.base.trans E'.sub) (r'.mono E'.sub)
  | nx ρ' =>
    rw [q] at hf
    cases hf
    exact fun σ' H' H0 L E' => kk .non H' (E'.base.trans E'.sub) .non
  | ex c ρ' =>
    rw [q] at hf
    cases hf
    exact fun σ' H' H0 L E' => kk H' (E'.base.trans E'.sub)
  | _ => rw [q] at hf; cases hf
theorem defXS_mk {x : Str} {k N : Nat} {g : Fs} {fa : Addr} {fd : FuncData} {ps : List Str} (F : FnOk P w K mg base (L2N.CX P w) k fa fd ps (spX K ps.length (fnXS ps.length N g))) (hm : mg x = some (.ref fa)) (hk : PySem.W.keepIn K (.ref fa) = true) (hb : Binds K fd ps []) :
    DefX P w K mg base x k (fnXS ps.length N g) := ⟨fa, fd, ps, F, hm, hk, hb, fun _ _ h => fnXS_len h⟩
end
/-! ### a raising def whose exceptions are all of one class -/
def chkX (CE : Addr) (fm : List D → Option XO) : List D → Option XO := fun ds => match fm ds with
  | some (.ex (.ref a)) => if a = CE then some (.ex (.ref a)) else none
  | some (.ok d) => some (.ok d)
  | _ => none
theorem chkX_sub {CE : Addr} {fm : List D → Option XO} {ds : List D} {o : XO} (h : chkX CE fm ds = some o) : fm ds = some o := by
  unfold chkX at h
  split at h
  · rename_i a q
    split at h
    · cases h; exact q
    · cases h
  · rename_i d q
    cases h; exact q
  · cases h
theorem chkX_ex {CE : Addr} {fm : List D → Option XO} : ∀ as c, chkX CE fm as = some (.ex c) → c = .ref CE := fun as c h => by
  unfold chkX at h
  split at h
  · split at h
    · rename_i e
      cases h; rw [e]
    · cases h
  · cases h
  · cases h
theorem defX_chk {P : Program} {w : World} {K : PySem.W.Frag} {mg : Str → Option Value} {base : Heap} {x : Str} {k : Nat} {CE : Addr} {fm : List D → Option XO} (G : DefX P w K mg base x k fm) : DefX P w K mg base x k (chkX CE fm) := by
  obtain ⟨fa, fd, ps, F, hm, hk, hb, hl⟩ := G
  exact ⟨fa, fd, ps, F.imp fun vs H Q E ⟨ds, o, h1, h2, h3, h4⟩ => ⟨ds, o, h1, h2, chkX_sub h3, h4⟩, hm, hk, hb, fun ds o h => hl ds o (chkX_sub h)⟩
end Tv

/-! Tv35: a def that hands an instance on to one that changes it, and reads it then. -/
namespace Tv
open PySem PySem.Spec PyProof.Rows L2
/-- what holds no list -/
def noSl : Sl → Bool
  | .val d => noL d
  | .un => true
  | .svF _ _ => true
  | _ => false
def st0 (C : Addr) (n N : Nat) (d : D) (ds : List D) : Store := .svF C d :: ds.map Sl.val ++ List.replicate (N - n) .un
def livesV (C : Addr) (n N i1 i2 i3 : Nat) (f1 f2 : Fn) (fv : D → List D → Option (D × D)) (f4 : Fn) : D → List D → Option (D × D) := fun d ds => if ds.length + 1 = n then
    (f1 (st0 C n N d ds)).bind fun d1 => (f2 ((st0 C n N d ds).set i1 (.val d1))).bind fun d2 =>
      if (((st0 C n N d ds).set i1 (.val d1)).set i2 (.val d2)).all noSl = true then (fv d [d2]).bind fun p =>
        (f4 (((((st0 C n N d ds).set i1 (.val d1)).set i2 (.val d2)).set 0 (.svF C p.2)).set i3 (.val p.1))).map fun v => (v, p.2) else none
  else none
theorem livesV_len {C : Addr} {n N i1 i2 i3 : Nat} {f1 f2 f4 : Fn} {fv : D → List D → Option (D × D)} {d : D} {ds : List D} {o : D × D} (h : livesV C n N i1 i2 i3 f1 f2 fv f4 d ds = some o) : ds.length + 1 = n := by
  unfold livesV at h
  split at h
  · assumption
  · cases h
/-- the values of a store stand, where one instance is changed -/
theorem EvV.but {K : PySem.W.Frag} {ρ : Store} {σ : L2.St} {H H' : Hp} {C a dx : Addr} {d d' : D} {w w' : V} (E : EvV K ρ σ H) (hn : ρ.all noSl = true) (h0 : ρ[0]? = some (.svF C d)) (hs : ∀ i C' d, i ≠ 0 → ρ[i]? ≠ some (.svF C' d)) (hσ : σ[0]? = some (some (.ref a))) (ne : a ≠ dx)
    (ha : H a = some (.ins C dx [("strikes", w)])) (hd : H dx = some (.own a)) (but : But a H H') (ha' : H' a = some (.ins C dx [("strikes", w')])) (r : Rp K H' w' d') : EvV K (ρ.set 0 (.svF C d')) σ H' := by
  have far : ∀ b o, ¬ frOk o → H b = some o → H' b = some o := fun b o no e => but b o (fun z => by
    rw [z, ha] at e
    cases e; exact no trivial) e
  have hl : 0 < ρ.length := (List.getElem?_eq_some_iff.mp h0).1
  refine ⟨by simp [E.len], fun i e h => ?_, fun i C' e h => ?_⟩
  · cases i with
    | zero => rw [List.getElem?_set_self hl] at h; cases h
    | succ i =>
      rw [List.getElem?_set_ne (by omega)] at h
      obtain ⟨v, h1, h2⟩ := E.val _ _ h
      have : noL e = true := List.all_eq_true.mp hn _ (List.mem_of_getElem? h)
      exact ⟨v, h1, Rp.noL far this h2⟩
  · cases i with
    | zero =>
      rw [List.getElem?_set_self hl] at h
      cases h
      exact ⟨.ref a, hσ, a, dx, w', rfl, ne, ha', but dx _ (Ne.symm ne) hd, r⟩
    | succ i =>
      rw [List.getElem?_set_ne (by omega)] at h
      exact absurd h (hs _ _ _ (by omega))
/-- x(y, z) with names alone -/
def tCallV (K : PySem.W.Frag) (C : Addr) (fv : D → List D → Option (D × D)) (i j : Nat) : TE := fun σ H Q => ∃ a x dx w d d2 r d', σ[i]? = some (some (.ref a)) ∧ σ[j]? = some (some x) ∧ a ≠ dx ∧ H a = some (.ins C dx [("strikes", w)]) ∧ H dx = some (.own a) ∧ Rp K H w d ∧ Rp K H x d2 ∧ fv d [d2] = some (r, d') ∧
  ∀ v w' H', But a H H' → H' a = some (.ins C dx [("strikes", w')]) → Rp K H' w' d' → Rp K H' v r → Q v H'
theorem e_callVV {X : Cx} {C : Addr} {x y z : Str} {k r i j : Nat} {fv : D → List D → Option (D × D)} {p py pz pos : Pos} (G : DefV X.prog X.w X.K X.mg X.base x k C fv) (hr : Room r X.A) (hk : k ≤ r) (hi : X.N[i]? = some y := by rfl) (hj : X.N[j]? = some z := by rfl)
    (hvy : Vis X.env.scope y := by first | exact Or.inl rfl | exact Or.inr (Or.inl rfl) | exact Or.inr (Or.inr rfl)) (hvz : Vis X.env.scope z := by first | exact Or.inl rfl | exact Or.inr (Or.inl rfl) | exact Or.inr (Or.inr rfl)) (hy : (y == ("__debug__" : Str)) = false := by decide) (hy2 : (y == ("__classdict__" : Str)) = false := by decide)
    (hz : (z == ("__debug__" : Str)) = false := by decide) (hz2 : (z == ("__classdict__" : Str)) = false := by decide) (hg : Gl X x := by rfl) (hdb : (x == ("__debug__" : Str)) = false := by decide)
    (he : starEach [.Name y py, .Name z pz] X.env = (false, eval (.Name y py) X.env) :: starEach [.Name z pz] X.env := by rfl) (he2 : starEach [.Name z pz] X.env = (false, eval (.Name z pz) X.env) :: starEach [] X.env := by rfl) (hpl : (backTo pos (starEach [.Name z pz] X.env)).any (·.1) = false := by rfl) :
    PE X (.Call (.Name x p) [.Name y py, .Name z pz] [] pos) (tCallV X.K C fv i j) := by
  obtain ⟨fa, fd, ps, F, hm, hkp, hb, hl⟩ := G
  refine (pe_call F (hr.mono hk) hg hm hkp hb .nil pass0 (pa_cons (pe_var hi hvy hy hy2) (pa_cons (pe_var hj hvz hz hz2) pa_nil he2) he) hdb he hpl).imw fun σ H Q ⟨a, v, dx, w, d, d2, r, d', h1, h2, ne, h3, h4, r0, r1, hf, kk⟩ => ⟨_, h1, _, h2, ?_⟩
  refine ⟨a, dx, w, [v], d, [d2], r, d', rfl, ?_, ne, h3, h4, r0, .one r1, hf, kk⟩
  exact hl _ _ _ hf
section
variable {P : Program} {w : World} {K : PySem.W.Frag} {mg : Str → Option Value} {base : Heap}
theorem lives_ok {C : Addr} {x qual : Str} {st s1 s2 s3 s4 : Stmt} {fa : Addr} {fd : FuncData} {N ps : List Str} {k i1 i2 i3 : Nat} {f1 f2 f4 : Fn} {fv : D → List D → Option (D × D)} (F : Fun K x qual st fa fd) (S : FnScope N ps (defScope st))
    (hbody : defBody st = [s1, s2, s3, s4]) (h : ∀ (cdv : Value) (A : Around) (outer : List Env) (s : Shared) (H : Hp) (E : XK), Room k (A.deeper (PyProof.Rows.envOfC qual (defScope st) s.heap.objs.size fa cdv)) →
      PS (cxOf CX0 P w K mg base N qual (defScope st) fa cdv A outer s H E).nox s1 (tAsg (tD K f1) (gName i1)) ∧ PS (cxOf CX0 P w K mg base N qual (defScope st) fa cdv A outer s H E).nox s2 (tAsg (tD K f2) (gName i2)) ∧
      PS (cxOf CX0 P w K mg base N qual (defScope st) fa cdv A outer s H E).nox s3 (tAsg (tCallV K C fv 0 i2) (gName i3)) ∧ PS (cxOf CX0 P w K mg base N qual (defScope st) fa cdv A outer s H E).nox s4 (tRet (tD K f4)))
    (hi1 : 0 < i1) (hi2 : 0 < i2) (hl2 : i2 < N.length) :
    FnOk P w K mg base CX0 (k + 1) fa fd ps (spV K C ps.length (livesV C ps.length N.length i1 i2 i3 f1 f2 fv f4)) := by
  refine F.ok S (fun vs H Q E ⟨a, dx, w0, args, d, ds, r, d', e0, hl, _⟩ => hl) (fun cdv A outer s H vs Q E hr ⟨a, dx, w0, args, d, ds, r, d', e0, hl, ne, h1, h2, r0, ra, hf, kk⟩ => ⟨_, by
    rw [hbody]
    obtain ⟨p1, p2, p3, p4⟩ := h cdv A outer s H E hr
    exact pss_cons p1 (pss_cons p2 (pss_cons p3 (pss_one p4))), ?_⟩)
  have hds := livesV_len hf
  unfold livesV at hf
  rw [if_pos hds] at hf
  have E0 := (ev_startR N (C := C) (x := .ref a) ⟨a, dx, w0, rfl, ne, h1, h2, r0⟩ ra).vv
  rw [hds] at E0
  subst e0
  have E0 : EvV K (st0 C ps.length N.length d ds) (L2.start N (.ref a :: args)) H := E0
  have hρ0 : (st0 C ps.length N.length d ds)[0]? = some (.svF C d) := rfl
  have hσ0 : (L2.start N (.ref a :: args))[0]? = some (some (.ref a)) := rfl
  have hno : ∀ i C' e, i ≠ 0 → (st0 C ps.length N.length d ds)[i]? ≠ some (.svF C' e) := fun i C' e hi hh => by
    cases i with
    | zero => exact hi rfl
    | succ i =>
      have hm := List.mem_of_getElem? hh
      have hh' : (ds.map Sl.val ++ List.replicate (N.length - ps.length) Sl.un)[i]? = some (.svF C' e) := hh
      have hm := List.mem_of_getElem? hh'
      rcases List.mem_append.mp hm with hm | hm
      · obtain ⟨_, _, z⟩ := List.mem_map.mp hm; cases z
      · have := (List.mem_replicate.mp hm).2; cases this
  have hlen : N.length ≤ (st0 C ps.length N.length d ds).length := by rw [← E0.len]; simp [L2.start]; omega
  generalize st0 C ps.length N.length d ds = ρ0 at *
  generalize L2.start N (.ref a :: args) = σ0 at *
  cases q1 : f1 ρ0 with
  | none => rw [q1] at hf; cases hf
  | some d1 =>
    rw [q1] at hf
    simp only [Option.bind_some] at hf
    cases q2 : f2 (ρ0.set i1 (.val d1)) with
    | none => rw [q2] at hf; cases hf
    | some d2 =>
      rw [q2] at hf
      simp only [Option.bind_some] at hf
      split at hf
      · rename_i hn
        cases q3 : fv d [d2] with
        | none => rw [q3] at hf; cases hf
        | some p =>
          obtain ⟨t, dn⟩ := p
          rw [q3] at hf
          simp only [Option.bind_some] at hf
          cases q4 : f4 ((((ρ0.set i1 (.val d1)).set i2 (.val d2)).set 0 (.svF C dn)).set i3 (.val t)) with
          | none => rw [q4] at hf; cases hf
          | some v4 =>
            rw [q4] at hf
            cases hf
            refine ⟨_, d1, E0, q1, fun v1 H1 t1 g1 => ?_⟩
            have E1 := (E0.mono t1).set i1 g1
            refine ⟨_, d2, E1, q2, fun v2 H2 t2 g2 => ?_⟩
            have E2 := (E1.mono t2).set i2 g2
            have n0 : (((ρ0.set i1 (.val d1)).set i2 (.val d2)))[0]? = some (.svF C d) := by
              rw [List.getElem?_set_ne (by omega), List.getElem?_set_ne (by omega)]; exact hρ0
            have s0 : ((σ0.set i1 (some v1)).set i2 (some v2))[0]? = some (some (.ref a)) := by
              rw [List.getElem?_set_ne (by omega), List.getElem?_set_ne (by omega)]; exact hσ0
            have s2 : ((σ0.set i1 (some v1)).set i2 (some v2))[i2]? = some (some v2) := List.getElem?_set_self (by rw [List.length_set, E0.len]; omega)
            have n1 : ∀ i C' e, i ≠ 0 → ((ρ0.set i1 (.val d1)).set i2 (.val d2))[i]? ≠ some (.svF C' e) := fun i C' e hi hh => by
              by_cases z2 : i2 = i
              · rw [z2, List.getElem?_set] at hh
                simp only [if_true] at hh
                split at hh <;> cases hh
              · rw [List.getElem?_set_ne z2] at hh
                by_cases z1 : i1 = i
                · rw [z1, List.getElem?_set] at hh
                  simp only [if_true] at hh
                  split at hh <;> cases hh
                · rw [List.getElem?_set_ne z1] at hh
                  exact hno i C' e hi hh
            have a2 := (t2 _ _ (t1 _ _ h1))
            have b2 := (t2 _ _ (t1 _ _ h2))
            refine ⟨a, v2, dx, w0, d, d2, t, _, s0, s2, ne, a2, b2, (r0.mono t1).mono t2, g2, q3, fun v3 w3 H3 bt ha3 rw3 rv3 => ?_⟩
            have E3 := (E2.but hn n0 n1 s0 ne a2 b2 bt ha3 rw3).set i3 rv3
            refine ⟨_, _, E3, q4, fun v H4 t4 g4 => kk v w3 H4 (fun b o nb e => t4 _ _ (bt b o nb (t2 _ _ (t1 _ _ e)))) (t4 _ _ ha3) (rw3.mono t4) ?_⟩
            exact g4
      · cases hf
end
end Tv

/-! Tv36: things that are handed about by their places (instances and lists in a list), beside the store: triples over both. -/
namespace Tv
open PySem PySem.Spec PyProof.Rows L2
inductive Pc where
  | ins (dx : Addr) (d : D) | own (a : Addr) | lst (ds : List D)
abbrev Pf := Addr → Option Pc
def hid (p : Pf) (H : Hp) : Hp := fun b => if (p b).isSome = true then none else H b
def setP (p : Pf) (b : Addr) (c : Pc) : Pf := fun x => if x = b then some c else p x
theorem setP_same {p : Pf} {b : Addr} {c : Pc} : setP p b c b = some c := if_pos rfl
theorem setP_ne {p : Pf} {b x : Addr} {c : Pc} (h : x ≠ b) : setP p b c x = p x := if_neg h
structure PlOk (K : PySem.W.Frag) (C : Addr) (p : Pf) (H : Hp) : Prop where
  ins : ∀ a dx d, p a = some (.ins dx d) → p dx = some (.own a) ∧ ∃ w, H a = some (.ins C dx [("strikes", w)]) ∧ Rp K (hid p H) w d
  own : ∀ b a, p b = some (.own a) → H b = some (.own a) ∧ ∃ d, p a = some (.ins b d)
  lst : ∀ b ds, p b = some (.lst ds) → ∃ vs, H b = some (.lst vs) ∧ RpA K (hid p H) vs ds
section
variable {K : PySem.W.Frag} {C : Addr} {p : Pf} {H H' H1 : Hp} {b : Addr}
theorem hid_out (h : p b = none) : hid p H b = H b := by
  unfold hid
  rw [h]; rfl
theorem hid_in {c : Pc} (h : p b = some c) : hid p H b = none := by
  unfold hid
  rw [h]; rfl
theorem hid_sub : Same (hid p H) H := fun b o e => by
  cases q : p b with
  | none => rw [hid_out q] at e; exact e
  | some c => rw [hid_in q] at e; cases e
theorem PlOk.there (k : PlOk K C p H) {c : Pc} (h : p b = some c) : ∃ o, H b = some o ∧ frOk o := by
  cases c with
  | ins dx d => obtain ⟨_, w, e, _⟩ := k.ins _ _ _ h; exact ⟨_, e, trivial⟩
  | own a => obtain ⟨e, _⟩ := k.own _ _ h; exact ⟨_, e, trivial⟩
  | lst ds => obtain ⟨vs, e, _⟩ := k.lst _ _ h; exact ⟨_, e, trivial⟩
theorem PlOk.out (k : PlOk K C p H) (h : H b = none) : p b = none := by
  cases q : p b with
  | none => rfl
  | some c =>
    obtain ⟨o, e, _⟩ := k.there q
    rw [h] at e; cases e
theorem PlOk.far (k : PlOk K C p H) {o : HO} (no : ¬ frOk o) (e : H b = some o) : hid p H b = some o := by
  cases q : p b with
  | none => rw [hid_out q]; exact e
  | some c =>
    obtain ⟨o', e', f⟩ := k.there q
    rw [e] at e'; cases e'
    exact absurd f no
theorem PlOk.frm (k : PlOk K C p H) : Frm H (hid p H) (fun b => (p b).isSome) := by
  refine ⟨fun b h => ?_, fun b h => ?_, fun a C' dx fs h e => ?_, fun a c h e => ?_, fun b a h e => ?_⟩
  · cases q : p b with
    | none => exact hid_out q
    | some c => rw [q] at h; cases h
  · cases q : p b with
    | none => rw [q] at h; cases h
    | some c => exact ⟨hid_in q, k.there q⟩
  · cases q : p a with
    | none => rw [q] at h; cases h
    | some c =>
      cases c with
      | ins dx' d =>
        obtain ⟨h1, w, h2, _⟩ := k.ins _ _ _ q
        rw [e] at h2; cases h2
        show (p _).isSome = true
        rw [h1]; rfl
      | own a' => obtain ⟨h1, _⟩ := k.own _ _ q; rw [e] at h1; cases h1
      | lst ds => obtain ⟨vs, h1, _⟩ := k.lst _ _ q; rw [e] at h1; cases h1
  · cases q : p c with
    | none => rfl
    | some cc =>
      exfalso
      cases cc with
      | ins dx' d => obtain ⟨_, w, h2, _⟩ := k.ins _ _ _ q; rw [e] at h2; cases h2
      | own a' =>
        obtain ⟨h1, d, h2⟩ := k.own _ _ q
        rw [e] at h1; cases h1
        rw [h2] at h; cases h
      | lst ds => obtain ⟨vs, h1, _⟩ := k.lst _ _ q; rw [e] at h1; cases h1
  · cases q : p b with
    | none => rw [q] at h; cases h
    | some cc =>
      cases cc with
      | ins dx' d => obtain ⟨_, w, h2, _⟩ := k.ins _ _ _ q; rw [e] at h2; cases h2
      | own a' =>
        obtain ⟨h1, d, h2⟩ := k.own _ _ q
        rw [e] at h1; cases h1
        obtain ⟨_, w, h3, _⟩ := k.ins _ _ _ h2
        exact ⟨_, _, h3⟩
      | lst ds => obtain ⟨vs, h1, _⟩ := k.lst _ _ q; rw [e] at h1; cases h1
theorem PlOk.move (k : PlOk K C p H) (h : ∀ b c, p b = some c → H' b = H b) (s : Same (hid p H) (hid p H')) : PlOk K C p H' :=
  ⟨fun a dx d q => let ⟨h1, w, h2, r⟩ := k.ins a dx d q; ⟨h1, w, (h _ _ q).trans h2, r.mono s⟩, fun b a q => let ⟨h1, h2⟩ := k.own b a q; ⟨(h _ _ q).trans h1, h2⟩, fun b ds q => let ⟨vs, h1, r⟩ := k.lst b ds q; ⟨vs, (h _ _ q).trans h1, r.mono s⟩⟩
theorem PlOk.same (k : PlOk K C p H) (s : Same H H') : Same (hid p H) (hid p H') ∧ PlOk K C p H' := by
  have s1 : Same (hid p H) (hid p H') := fun b o e => by
    cases q : p b with
    | none => rw [hid_out q] at e ⊢; exact s _ _ e
    | some c => rw [hid_in q] at e; cases e
  refine ⟨s1, k.move (fun b c q => ?_) s1⟩
  obtain ⟨o, e, _⟩ := k.there q
  rw [e, s _ _ e]
theorem PlOk.rp (k : PlOk K C p H) {v : V} {d : D} (hn : noL d = true) (r : Rp K H v d) : Rp K (hid p H) v d := Rp.noL (fun _ _ no e => k.far no e) hn r
end
structure Rel (K : PySem.W.Frag) (C : Addr) (Hb : Hp) (S : Store × Pf) (σ : L2.St) (H : Hp) : Prop where
  base : Same Hb (hid S.2 H)
  ev : EvV K S.1 σ (hid S.2 H)
  ok : PlOk K C S.2 H
section
variable {K : PySem.W.Frag} {C : Addr} {Hb : Hp} {S : Store × Pf} {σ : L2.St} {H H' : Hp}
theorem Rel.same (R : Rel K C Hb S σ H) (s : Same H H') : Rel K C Hb S σ H' := let ⟨s1, k⟩ := R.ok.same s; ⟨R.base.trans s1, R.ev.mono s1, k⟩
theorem Rel.go (R : Rel K C Hb S σ H) {H1 : Hp} (s : Same (hid S.2 H) H1) (n : ∀ b, (S.2 b).isSome = true → H1 b = none) : hid S.2 (back H H1 (fun b => (S.2 b).isSome)) = H1 ∧ Rel K C Hb S σ (back H H1 (fun b => (S.2 b).isSome)) := by
  have e : hid S.2 (back H H1 (fun b => (S.2 b).isSome)) = H1 := by
    funext b
    cases q : S.2 b with
    | none =>
      rw [hid_out q]
      show (if (S.2 b).isSome = true then H b else H1 b) = H1 b
      rw [q]; rfl
    | some c => rw [hid_in q, n b (by rw [q]; rfl)]
  refine ⟨e, ⟨by rw [e]; exact R.base.trans s, by rw [e]; exact R.ev.mono s, R.ok.move (fun b c q => ?_) (by rw [e]; exact s)⟩⟩
  show (if (S.2 b).isSome = true then H b else H1 b) = H b
  rw [q]; rfl
theorem Rel.set (R : Rel K C Hb S σ H) {v : V} {d : D} (i : Nat) (r : Rp K (hid S.2 H) v d) : Rel K C Hb (S.1.set i (.val d), S.2) (σ.set i (some v)) H := ⟨R.base, R.ev.set i r, R.ok⟩
theorem use_p {f : Fn} {d : D} {Q : VK} (R : Rel K C Hb S σ H) (hf : f S.1 = some d) (k : ∀ v H', Rel K C Hb S σ H' → Rp K (hid S.2 H') v d → Q v H') : tFr (tD K f) σ H Q :=
  ⟨hid S.2 H, _, R.ok.frm, S.1, d, R.ev, hf, fun v H1 s r n => by
    obtain ⟨e, R'⟩ := R.go s n
    exact k v _ R' (by rw [e]; exact r)⟩
/-- a new tuple of the walk -/
theorem Rel.newTup {T : Addr} {o : HO} (R : Rel K C Hb S σ H) (h : H T = none) : Rel K C Hb S σ (upd H T o) := R.same (same_upd h)
end
/-! ### triples -/
def tH (K : PySem.W.Frag) (C : Addr) {ι : Type} (I J : ι → Store × Pf → Prop) : TS := fun D σ H => ∃ Hb x S, I x S ∧ Rel K C Hb S σ H ∧ ∀ S' σ' H', J x S' → Rel K C Hb S' σ' H' → D.nx σ' H'
section
variable {X : Cx} {C : Addr} {st : Stmt} {rest : List Stmt} {ι : Type} {I J L : ι → Store × Pf → Prop}
theorem h_seq (h1 : PS X st (tH X.K C I J)) (h2 : PSs X rest (tH X.K C J L)) : PSs X (st :: rest) (tH X.K C I L) :=
  (pss_cons h1 h2).imw fun D σ H ⟨Hb, x, S, hI, R, k⟩ => ⟨Hb, x, S, hI, R, fun S' σ' H' hJ R' => ⟨Hb, x, S', hJ, R', k⟩⟩
theorem h_one (h1 : PS X st (tH X.K C I J)) : PSs X [st] (tH X.K C I J) := pss_one h1
theorem h_con {κ : Type} {I' J' : κ → Store × Pf → Prop} (h : PS X st (tH X.K C I J)) (hc : ∀ x S, I' x S → ∃ y, I y S ∧ ∀ S', J y S' → J' x S') : PS X st (tH X.K C I' J') :=
  h.imw fun D σ H ⟨Hb, x, S, hI, R, k⟩ => let ⟨y, h1, h2⟩ := hc x S hI; ⟨Hb, y, S, h1, R, fun S' σ' H' hJ R' => k S' σ' H' (h2 S' hJ) R'⟩
theorem h_cons {κ : Type} {I' J' : κ → Store × Pf → Prop} {b : List Stmt} (h : PSs X b (tH X.K C I J)) (hc : ∀ x S, I' x S → ∃ y, I y S ∧ ∀ S', J y S' → J' x S') : PSs X b (tH X.K C I' J') :=
  h.imw fun D σ H ⟨Hb, x, S, hI, R, k⟩ => let ⟨y, h1, h2⟩ := hc x S hI; ⟨Hb, y, S, h1, R, fun S' σ' H' hJ R' => k S' σ' H' (h2 S' hJ) R'⟩
/-- name = e -/
theorem h_set {i : Nat} {x : Str} {e : Expr} {pos pos' : Pos} {f : Fn} (hN : X.N.Nodup) (he : PE X e (tD X.K f)) (hJ : ∀ y S, I y S → ∃ d, f S.1 = some d ∧ J y (S.1.set i (.val d), S.2)) (hi : X.N[i]? = some x := by rfl) (hx : Loc X.env.scope x := by first | exact .inl rfl | exact .inr rfl) (hs : swapsWith e (some (.Name x pos')) pos.line X.env = pure false := by rfl)
    (hf : X.fn x = true ∨ X.env.scope.names.lookup x = some .local := by first | exact .inl rfl | exact .inr rfl | assumption) : PS X (.Assign [.Name x pos'] e pos) (tH X.K C I J) :=
  (ps_set hN hi hx (fr_e he) hs hf).imw fun D σ H ⟨Hb, y, S, hI, R, k⟩ => by
    obtain ⟨d, h1, h2⟩ := hJ y S hI
    exact use_p R h1 fun v H' R' r => k _ _ _ h2 (R'.set i r)
/-- for name in .. -/
theorem h_for {tg iter : Expr} {body : List Stmt} {pos : Pos} {f : Store → Option (List D)} {i : Nat} {ds : List D} {Jn : ι → Nat → Store × Pf → Prop} (hp : PassesOwn (model X.prog X.w) X.A X.env X.xe) (hi : PI X tg iter (iD X.K f)) (hg : PG X tg (gT X.K (.nm i))) (hf : ∀ x S, Jn x 0 S → f S.1 = some ds)
    (hb : PSs X body (tH X.K C (ι := ι × Nat) (fun y S => ∃ S0 d, ds[y.2]? = some d ∧ Jn y.1 y.2 S0 ∧ S = (S0.1.set i (.val d), S0.2)) (fun y S => Jn y.1 (y.2 + 1) S))) (hc : X.calm = true := by rfl) (hs : ∀ x, foldedSetIterable iter X.env x = pure x := by intro _; rfl) :
    PS X (.For tg iter body [] pos) (tH X.K C (fun x S => Jn x 0 S) (fun x S => Jn x ds.length S)) := by
  refine (ps_for hp hc (fr_i hi) hg hb hs).imw fun D σ H ⟨Hb, x, S, hI, R, k⟩ => ?_
  refine ⟨hid S.2 H, _, R.ok.frm, S.1, ds, R.ev, hf x S hI, fun J0 H1 s io n => ?_⟩
  obtain ⟨e1, R1⟩ := R.go s n
  generalize back H H1 (fun b => (S.2 b).isSome) = Hs at e1 R1
  subst e1
  refine ⟨fun j m σ' H' => m = ds.length - j ∧ j ≤ ds.length ∧ ∃ S', Jn x j S' ∧ Rel X.K C (hid S.2 Hs) S' σ' H', ⟨ds.length, by simp, Nat.zero_le _, S, hI, ⟨Same.refl _, R1.ev, R1.ok⟩⟩, ?_⟩
  rintro j m σ' H' ⟨rfl, hj, S', hS, R'⟩
  obtain ⟨io1, io2⟩ := io j H' (R'.base.trans hid_sub)
  by_cases hl : j < ds.length
  · right
    have hd : ds[j]? = some ds[j] := List.getElem?_eq_getElem hl
    obtain ⟨go, yl⟩ := io2 _ hd
    refine ⟨go, fun σ2 H2 => ∃ S2, Jn x (j + 1) S2 ∧ Rel X.K C (hid S.2 Hs) S2 σ2 H2, fun σ2 H2 ⟨S2, h2, R2⟩ => ⟨ds.length - (j + 1), by omega, rfl, hl, S2, h2, R2⟩, fun v H'' y => ?_⟩
    have fin : ∀ {H3 : Hp}, Rel X.K C (hid S.2 Hs) S' σ' H3 → Rp X.K (hid S'.2 H3) v ds[j] → gT X.K (.nm i) v σ' H3 fun σ2 H2 => tH X.K C (ι := ι × Nat) (fun y S => ∃ S0 d, ds[y.2]? = some d ∧ Jn y.1 y.2 S0 ∧ S = (S0.1.set i (.val d), S0.2)) (fun y S => Jn y.1 (y.2 + 1) S)
        { D with nx := fun σ2 H2 => ∃ S2, Jn x (j + 1) S2 ∧ Rel X.K C (hid S.2 Hs) S2 σ2 H2, ct := fun σ2 H2 => ∃ S2, Jn x (j + 1) S2 ∧ Rel X.K C (hid S.2 Hs) S2 σ2 H2, bk := D.nx } σ2 H2 := fun {H3} R3 r3 =>
      ⟨_, (x, j), _, ⟨S', _, hd, hS, rfl⟩, R3.set i r3, fun S2 σ2 H2 h2 R2 => ⟨S2, h2, R2⟩⟩
    rcases yl v H'' y with ⟨rfl, r⟩ | ⟨Ta, xs, es, hT, rfl, rfl, hde, r⟩
    · exact fin R' (r.mono R'.base)
    · have R3 := R'.newTup (o := .tup xs) hT
      refine fin R3 ?_
      rw [hde]
      have hTp := R'.ok.out hT
      refine .tup (.inl ?_) (r.mono R3.base)
      rw [hid_out hTp, upd_same]
  · left
    have hjl : j = ds.length := by omega
    refine ⟨io1 hjl, ?_⟩
    rw [hjl] at hS
    exact k S' σ' H' hS ⟨R.base.trans (s.trans R'.base), R'.ev, R'.ok⟩
end
end Tv

/-! Tv37: what changes the things beside the store. -/
namespace Tv
open PySem PySem.Spec PyProof.Rows L2
section
variable {K : PySem.W.Frag} {C : Addr} {Hb : Hp} {S : Store × Pf} {σ : L2.St} {H H' : Hp}
theorem exc_ref {v : V} {a : Addr} (r : Rp K H v (excD a)) : v = .ref a := by
  obtain ⟨b, e1, e2⟩ := exc_inv r
  rw [e1, Int.ofNat.inj e2]
theorem Rel.newLst (R : Rel K C Hb S σ H) {l : Addr} {vs : List V} {ds : List D} (h : H l = none) (r : RpA K (hid S.2 H) vs ds) : hid (setP S.2 l (.lst ds)) (upd H l (.lst vs)) = hid S.2 H ∧ Rel K C Hb (S.1, setP S.2 l (.lst ds)) σ (upd H l (.lst vs)) := by
  have hp := R.ok.out h
  have e : hid (setP S.2 l (.lst ds)) (upd H l (.lst vs)) = hid S.2 H := by
    funext b
    by_cases hb : b = l
    · subst hb; rw [hid_in setP_same, hid_out hp, h]
    · unfold hid
      rw [setP_ne hb, upd_ne hb]
  refine ⟨e, ⟨by rw [e]; exact R.base, by rw [e]; exact R.ev, ?_⟩⟩
  show PlOk K C (setP S.2 l (.lst ds)) (upd H l (.lst vs))
  have ne : ∀ {b c}, S.2 b = some c → b ≠ l := fun {b c} q z => by rw [z, hp] at q; cases q
  refine ⟨fun a dx d q => ?_, fun b a q => ?_, fun b es q => ?_⟩
  · by_cases ha : a = l
    · subst ha; rw [setP_same] at q; cases q
    · rw [setP_ne ha] at q
      obtain ⟨h1, w, h2, r2⟩ := R.ok.ins _ _ _ q
      exact ⟨by rw [setP_ne (ne h1)]; exact h1, w, by rw [upd_ne ha]; exact h2, by rw [e]; exact r2⟩
  · by_cases ha : b = l
    · subst ha; rw [setP_same] at q; cases q
    · rw [setP_ne ha] at q
      obtain ⟨h1, d, h2⟩ := R.ok.own _ _ q
      exact ⟨by rw [upd_ne ha]; exact h1, d, by rw [setP_ne (ne h2)]; exact h2⟩
  · by_cases ha : b = l
    · subst ha; rw [setP_same] at q; cases q
      exact ⟨vs, upd_same, by rw [e]; exact r⟩
    · rw [setP_ne ha] at q
      obtain ⟨ws, h1, r2⟩ := R.ok.lst _ _ q
      exact ⟨ws, by rw [upd_ne ha]; exact h1, by rw [e]; exact r2⟩
theorem Rel.chgLst (R : Rel K C Hb S σ H) {l : Addr} {vs : List V} {ds es : List D} (h : S.2 l = some (.lst ds)) (r : RpA K (hid S.2 H) vs es) : hid (setP S.2 l (.lst es)) (upd H l (.lst vs)) = hid S.2 H ∧ Rel K C Hb (S.1, setP S.2 l (.lst es)) σ (upd H l (.lst vs)) := by
  have e : hid (setP S.2 l (.lst es)) (upd H l (.lst vs)) = hid S.2 H := by
    funext b
    by_cases hb : b = l
    · subst hb; rw [hid_in setP_same, hid_in h]
    · unfold hid
      rw [setP_ne hb, upd_ne hb]
  refine ⟨e, ⟨by rw [e]; exact R.base, by rw [e]; exact R.ev, ?_⟩⟩
  show PlOk K C (setP S.2 l (.lst es)) (upd H l (.lst vs))
  have neI : ∀ {b dx d}, S.2 b = some (.ins dx d) → b ≠ l := fun {b dx d} q z => by rw [z, h] at q; cases q
  have neO : ∀ {b a}, S.2 b = some (.own a) → b ≠ l := fun {b a} q z => by rw [z, h] at q; cases q
  refine ⟨fun a dx d q => ?_, fun b a q => ?_, fun b fs q => ?_⟩
  · by_cases ha : a = l
    · subst ha; rw [setP_same] at q; cases q
    · rw [setP_ne ha] at q
      obtain ⟨h1, w, h2, r2⟩ := R.ok.ins _ _ _ q
      exact ⟨by rw [setP_ne (neO h1)]; exact h1, w, by rw [upd_ne ha]; exact h2, by rw [e]; exact r2⟩
  · by_cases ha : b = l
    · subst ha; rw [setP_same] at q; cases q
    · rw [setP_ne ha] at q
      obtain ⟨h1, d, h2⟩ := R.ok.own _ _ q
      exact ⟨by rw [upd_ne ha]; exact h1, d, by rw [setP_ne (neI h2)]; exact h2⟩
  · by_cases ha : b = l
    · subst ha; rw [setP_same] at q; cases q
      exact ⟨vs, upd_same, by rw [e]; exact r⟩
    · rw [setP_ne ha] at q
      obtain ⟨ws, h1, r2⟩ := R.ok.lst _ _ q
      exact ⟨ws, by rw [upd_ne ha]; exact h1, by rw [e]; exact r2⟩
theorem Rel.newIns (R : Rel K C Hb S σ H) {x dx : Addr} {w : V} {d0 : D} (hx : H x = none) (hdx : H dx = none) (ne : dx ≠ x) (s : Same H H') (h1 : H' x = some (.ins C dx [("strikes", w)])) (h2 : H' dx = some (.own x)) (hn : noL d0 = true) (r : Rp K H' w d0) :
    Same (hid S.2 H) (hid (setP (setP S.2 dx (.own x)) x (.ins dx d0)) H') ∧ Rel K C Hb (S.1, setP (setP S.2 dx (.own x)) x (.ins dx d0)) σ H' := by
  have px := R.ok.out hx
  have pdx := R.ok.out hdx
  have old : ∀ {b c}, S.2 b = some c → setP (setP S.2 dx (.own x)) x (.ins dx d0) b = some c := fun {b c} q => by
    rw [setP_ne (fun z => by rw [z, px] at q; cases q), setP_ne (fun z => by rw [z, pdx] at q; cases q)]; exact q
  have new : ∀ {b}, b ≠ x → b ≠ dx → setP (setP S.2 dx (.own x)) x (.ins dx d0) b = S.2 b := fun {b} n1 n2 => by rw [setP_ne n1, setP_ne n2]
  have pdx' : setP (setP S.2 dx (.own x)) x (.ins dx d0) dx = some (.own x) := by rw [setP_ne ne, setP_same]
  have keep : ∀ {b c}, S.2 b = some c → H' b = H b := fun {b c} q => by
    obtain ⟨o, e, _⟩ := R.ok.there q
    rw [e]; exact s _ _ e
  have sm : Same (hid S.2 H) (hid (setP (setP S.2 dx (.own x)) x (.ins dx d0)) H') := fun b o e => by
    have eb := hid_sub _ _ e
    have n1 : b ≠ x := fun z => by rw [z, hx] at eb; cases eb
    have n2 : b ≠ dx := fun z => by rw [z, hdx] at eb; cases eb
    cases q : S.2 b with
    | none => rw [hid_out ((new n1 n2).trans q)]; exact s _ _ eb
    | some c => rw [hid_in q] at e; cases e
  have far : ∀ b o, ¬ frOk o → H' b = some o → hid (setP (setP S.2 dx (.own x)) x (.ins dx d0)) H' b = some o := fun b o no e => by
    have n1 : b ≠ x := fun z => by rw [z, h1] at e; cases e; exact no trivial
    have n2 : b ≠ dx := fun z => by rw [z, h2] at e; cases e; exact no trivial
    cases q : S.2 b with
    | none => rw [hid_out ((new n1 n2).trans q)]; exact e
    | some c =>
      obtain ⟨o', e', f⟩ := R.ok.there q
      rw [keep q, e'] at e
      cases e
      exact absurd f no
  refine ⟨sm, ⟨R.base.trans sm, R.ev.mono sm, ?_⟩⟩
  show PlOk K C (setP (setP S.2 dx (.own x)) x (.ins dx d0)) H'
  refine ⟨fun a dy d q => ?_, fun b a q => ?_, fun b fs q => ?_⟩
  · by_cases ha : a = x
    · subst ha
      rw [setP_same] at q
      cases q
      exact ⟨pdx', w, h1, Rp.noL far hn r⟩
    · by_cases hd : a = dx
      · subst hd; rw [pdx'] at q; cases q
      · rw [new ha hd] at q
        obtain ⟨g1, w', g2, r2⟩ := R.ok.ins _ _ _ q
        exact ⟨old g1, w', (keep q).trans g2, r2.mono sm⟩
  · by_cases ha : b = x
    · subst ha; rw [setP_same] at q; cases q
    · by_cases hd : b = dx
      · subst hd
        rw [pdx'] at q
        cases q
        exact ⟨h2, d0, setP_same⟩
      · rw [new ha hd] at q
        obtain ⟨g1, d, g2⟩ := R.ok.own _ _ q
        exact ⟨(keep q).trans g1, d, old g2⟩
  · by_cases ha : b = x
    · subst ha; rw [setP_same] at q; cases q
    · by_cases hd : b = dx
      · subst hd; rw [pdx'] at q; cases q
      · rw [new ha hd] at q
        obtain ⟨ws, g1, r2⟩ := R.ok.lst _ _ q
        exact ⟨ws, (keep q).trans g1, r2.mono sm⟩
theorem Rel.chgIns (R : Rel K C Hb S σ H) {a dx : Addr} {w : V} {d d' : D} (h : S.2 a = some (.ins dx d)) (bt : But a H H') (h1 : H' a = some (.ins C dx [("strikes", w)])) (hn : noL d' = true) (r : Rp K H' w d') :
    Same (hid S.2 H) (hid (setP S.2 a (.ins dx d')) H') ∧ Rel K C Hb (S.1, setP S.2 a (.ins dx d')) σ H' ∧ ∀ b o, ¬ frOk o → H' b = some o → H b = some o ∨ hid (setP S.2 a (.ins dx d')) H' b = some o := by
  have keep : ∀ {b c}, b ≠ a → S.2 b = some c → H' b = H b := fun {b c} nb q => by
    obtain ⟨o, e, _⟩ := R.ok.there q
    rw [e]; exact bt _ _ nb e
  have sm : Same (hid S.2 H) (hid (setP S.2 a (.ins dx d')) H') := fun b o e => by
    cases q : S.2 b with
    | none =>
      have nb : b ≠ a := fun z => by rw [z, h] at q; cases q
      rw [hid_out ((setP_ne nb).trans q)]
      exact bt _ _ nb (by rw [hid_out q] at e; exact e)
    | some c => rw [hid_in q] at e; cases e
  have far : ∀ b o, ¬ frOk o → H' b = some o → hid (setP S.2 a (.ins dx d')) H' b = some o := fun b o no e => by
    have nb : b ≠ a := fun z => by rw [z, h1] at e; cases e; exact no trivial
    cases q : S.2 b with
    | none => rw [hid_out ((setP_ne nb).trans q)]; exact e
    | some c =>
      obtain ⟨o', e', f⟩ := R.ok.there q
      rw [keep nb q, e'] at e
      cases e
      exact absurd f no
  refine ⟨sm, ⟨R.base.trans sm, R.ev.mono sm, ?_⟩, fun b o no e => .inr (far b o no e)⟩
  have hdx := (R.ok.ins _ _ _ h).1
  show PlOk K C (setP S.2 a (.ins dx d')) H'
  refine ⟨fun x dy e q => ?_, fun b x q => ?_, fun b fs q => ?_⟩
  · by_cases hx : x = a
    · subst hx
      rw [setP_same] at q
      cases q
      exact ⟨by rw [setP_ne (fun z => by rw [z, h] at hdx; cases hdx)]; exact hdx, w, h1, Rp.noL far hn r⟩
    · rw [setP_ne hx] at q
      obtain ⟨g1, w', g2, r2⟩ := R.ok.ins _ _ _ q
      exact ⟨by rw [setP_ne (fun z => by rw [z, h] at g1; cases g1)]; exact g1, w', (keep hx q).trans g2, r2.mono sm⟩
  · by_cases hx : b = a
    · subst hx; rw [setP_same] at q; cases q
    · rw [setP_ne hx] at q
      obtain ⟨g1, e, g2⟩ := R.ok.own _ _ q
      refine ⟨(keep hx q).trans g1, ?_⟩
      by_cases hy : x = a
      · subst hy
        rw [h] at g2
        cases g2
        exact ⟨d', setP_same⟩
      · exact ⟨e, by rw [setP_ne hy]; exact g2⟩
  · by_cases hx : b = a
    · subst hx; rw [setP_same] at q; cases q
    · rw [setP_ne hx] at q
      obtain ⟨ws, g1, r2⟩ := R.ok.lst _ _ q
      exact ⟨ws, (keep hx q).trans g1, r2.mono sm⟩
end
/-! ### expressions -/
def XH (X : Cx) (C : Addr) (e : Expr) (g : Store × Pf → D → Store × Pf → Prop) : Prop := ∃ t, PE X e t ∧ ∀ (Hb : Hp) (S : Store × Pf) (σ : L2.St) (H : Hp) (d : D) (S' : Store × Pf) (Q : VK), Rel X.K C Hb S σ H → g S d S' →
  (∀ v H', Rel X.K C Hb S' σ H' → Rp X.K (hid S'.2 H') v d → Q v H') → t σ H Q
section
variable {X : Cx} {C : Addr}
def gP (f : Fn) : Store × Pf → D → Store × Pf → Prop := fun S d S' => f S.1 = some d ∧ S' = S
theorem xh_p {e : Expr} {f : Fn} (h : PE X e (tD X.K f)) : XH X C e (gP f) := ⟨_, fr_e h, fun Hb S σ H d S' Q R ⟨hf, e⟩ k => by
  subst e
  exact use_p R hf k⟩
/-- lives(o, c) -/
def gV (fv : D → List D → Option (D × D)) (fo fc : Fn) : Store × Pf → D → Store × Pf → Prop := fun S r S' => ∃ a dx d d2 d', fo S.1 = some (excD a) ∧ fc S.1 = some d2 ∧ S.2 a = some (.ins dx d) ∧ fv d [d2] = some (r, d') ∧ noL d' = true ∧ noL r = true ∧ S' = (S.1, setP S.2 a (.ins dx d'))
theorem useV {fv : D → List D → Option (D × D)} {a dx : Addr} {n : Nat} {d d2 d' r : D} {Hb : Hp} {S : Store × Pf} {σ : L2.St} {H : Hp} {x : V} {Q : VK} {E : XK} (hl : ∀ d ds o, fv d ds = some o → ds.length + 1 = n) (R : Rel X.K C Hb S σ H) (h : S.2 a = some (.ins dx d)) (rx : Rp X.K (hid S.2 H) x d2) (hf : fv d [d2] = some (r, d')) (hn : noL d' = true) (hr : noL r = true)
    (k : ∀ v H', Same (hid S.2 H) (hid (setP S.2 a (.ins dx d')) H') → Rel X.K C Hb (S.1, setP S.2 a (.ins dx d')) σ H' → Rp X.K (hid (setP S.2 a (.ins dx d')) H') v r → But a H H' → Q v H') : spV X.K C n fv [.ref a, x] H Q E := by
  obtain ⟨h1, w, h2, r2⟩ := R.ok.ins _ _ _ h
  obtain ⟨h3, _⟩ := R.ok.own _ _ h1
  refine ⟨a, dx, w, [x], d, [d2], r, d', rfl, by have := hl _ _ _ hf; simpa using this, fun z => ?_, h2, h3, r2.mono hid_sub, .one (rx.mono hid_sub), hf, fun v w' H' bt ha rw' rv => ?_⟩
  · rw [z] at h; rw [h] at h1; cases h1
  · obtain ⟨sm, R', _⟩ := R.chgIns h bt ha hn rw'
    exact k v H' sm R' (R'.ok.rp hr rv) bt
theorem xh_v {x : Str} {k j : Nat} {fv : D → List D → Option (D × D)} {fo fc : Fn} {o c : Expr} {p pos : Pos} (G : DefV X.prog X.w X.K X.mg X.base x k C fv) (hr : Room j X.A) (hk : k ≤ j) (ho : PE X o (tD X.K fo)) (hc : PE X c (tD X.K fc)) (hg : Gl X x := by rfl) (hdb : (x == ("__debug__" : Str)) = false := by decide)
    (he : starEach [o, c] X.env = (false, eval o X.env) :: starEach [c] X.env := by rfl) (he2 : starEach [c] X.env = (false, eval c X.env) :: starEach [] X.env := by rfl) (hpl : (backTo pos (starEach [c] X.env)).any (·.1) = false := by rfl) : XH X C (.Call (.Name x p) [o, c] [] pos) (gV fv fo fc) := by
  obtain ⟨fa, fd, ps, F, hm, hkp, hb, hl⟩ := G
  refine ⟨_, pe_call F (hr.mono hk) hg hm hkp hb .nil pass0 (pa_cons (fr_e ho) (pa_cons (fr_e hc) pa_nil he2) he) hdb he hpl, fun Hb S σ H r S' Q R ⟨a, dx, d, d2, d', h1, h2, h3, h4, h5, h6, e⟩ kk => ?_⟩
  subst e
  refine use_p R h1 fun v H1 R1 r1 => use_p R1 h2 fun u H2 R2 r2 => ?_
  have ev := exc_ref r1
  subst ev
  exact useV (E := fun _ _ _ => False) hl R2 h3 r2 h4 h5 h6 fun v H' _ R' rv _ => kk v H' R' rv
/-- tuple(o), o a list beside -/
def gTup (fo : Fn) : Store × Pf → D → Store × Pf → Prop := fun S d S' => ∃ l ds, fo S.1 = some (excD l) ∧ S.2 l = some (.lst ds) ∧ d = .tuple ds ∧ S' = S
theorem xh_tup {o : Expr} {fo : Fn} {p pos : Pos} (hm : X.mg "tuple" = none) (ho : PE X o (tD X.K fo)) (hg : Gl X "tuple" := by rfl) (he : starEach [o] X.env = (false, eval o X.env) :: starEach [] X.env := by rfl) (hpl : (backTo pos (starEach [] X.env)).any (·.1) = false := by rfl) :
    XH X C (.Call (.Name "tuple" p) [o] [] pos) (gTup fo) :=
  ⟨_, pe_callTy call_tuple_of hg hm (by decide +kernel) (pa_cons (fr_e ho) pa_nil he) (by decide) (by decide) he hpl, fun Hb S σ H d S' Q R ⟨l, ds, h1, h2, e1, e2⟩ k => by
    subst e1 e2
    refine use_p R h1 fun v H1 R1 r1 => ?_
    have ev := exc_ref r1
    subst ev
    obtain ⟨vs, h3, r3⟩ := R1.ok.lst _ _ h2
    refine ⟨l, vs, rfl, .inl ⟨.of h3, fun q hq => ?_⟩⟩
    have R2 := R1.newTup (o := .tup vs) hq
    refine k _ _ R2 (.tup (.inl ?_) (r3.mono (fun b o e => ?_)))
    · rw [hid_out (R1.ok.out hq), upd_same]
    · exact (R1.ok.same (same_upd hq)).1 b o e⟩
/-- f(e1, e2), a def that answers from data -/
def gC2 (fn : List D → Option D) (g1 g2 : Store × Pf → D → Store × Pf → Prop) : Store × Pf → D → Store × Pf → Prop := fun S d S' => ∃ d1 S1 d2, g1 S d1 S1 ∧ g2 S1 d2 S' ∧ fn [d1, d2] = some d ∧ noL d = true
theorem xh_c2 {x : Str} {k j : Nat} {fn : List D → Option D} {g1 g2 : Store × Pf → D → Store × Pf → Prop} {e1 e2 : Expr} {p pos : Pos} (G : Def X.prog X.w X.K X.mg X.base x k fn) (hr : Room j X.A) (hk : k ≤ j) (h1 : XH X C e1 g1) (h2 : XH X C e2 g2) (hg : Gl X x := by rfl) (hdb : (x == ("__debug__" : Str)) = false := by decide)
    (he : starEach [e1, e2] X.env = (false, eval e1 X.env) :: starEach [e2] X.env := by rfl) (he2 : starEach [e2] X.env = (false, eval e2 X.env) :: starEach [] X.env := by rfl) (hpl : (backTo pos (starEach [e2] X.env)).any (·.1) = false := by rfl) : XH X C (.Call (.Name x p) [e1, e2] [] pos) (gC2 fn g1 g2) := by
  obtain ⟨fa, fd, ps, F, hm, hkp, hb, hl⟩ := G
  obtain ⟨t1, p1, u1⟩ := h1
  obtain ⟨t2, p2, u2⟩ := h2
  refine ⟨_, pe_call F (hr.mono hk) hg hm hkp hb .nil pass0 (pa_cons p1 (pa_cons p2 pa_nil he2) he) hdb he hpl, fun Hb S σ H d S' Q R ⟨d1, S1, d2, a1, a2, hf, hn⟩ kk => ?_⟩
  refine u1 Hb S σ H d1 S1 _ R a1 fun v H1 R1 r1 => ?_
  refine u2 (hid S1.2 H1) S1 σ H1 d2 S' _ ⟨Same.refl _, R1.ev, R1.ok⟩ a2 fun u H2 R2 r2 => ?_
  have R2' : Rel X.K C Hb S' σ H2 := ⟨R1.base.trans R2.base, R2.ev, R2.ok⟩
  refine ⟨[d1, d2], d, by have := hl _ _ hf; simpa using this, .cons ((r1.mono R2.base).mono hid_sub) (.one (r2.mono hid_sub)), hf, fun z H3 s3 r3 => ?_⟩
  have R3 := R2'.same s3
  exact kk z H3 R3 (R3.ok.rp hn r3)
end
/-! ### statements -/
section
variable {X : Cx} {C : Addr} {ι : Type} {I J : ι → Store × Pf → Prop}
theorem h_app {o e : Expr} {ap cp pos : Pos} {fo : Fn} {g : Store × Pf → D → Store × Pf → Prop} (ho : PE X o (tD X.K fo)) (he : XH X C e g)
    (te : ∀ t, PE X e t → PE X (.Call (.Attribute o "append" ap) [e] [] cp) (tBM X.K "list" rAppend (tFr (tD X.K fo)) (tCons t tNil)))
    (hJ : ∀ y S, I y S → ∃ l es ds d S1, fo S.1 = some (excD l) ∧ S.2 l = some (.lst es) ∧ g S d S1 ∧ S1.2 l = some (.lst ds) ∧ ds.length < big ∧ J y (S1.1, setP S1.2 l (.lst (ds ++ [d])))) (hs : swapsWith (.Call (.Attribute o "append" ap) [e] [] cp) none pos.line X.env = pure false := by rfl) :
    PS X (.Expr (.Call (.Attribute o "append" ap) [e] [] cp) pos) (tH X.K C I J) := by
  obtain ⟨t, ht, use⟩ := he
  refine (ps_expr (te t ht) hs).imw fun D σ H ⟨Hb, y, S, hI, R, k⟩ => ?_
  obtain ⟨l, es, ds, d, S1, h1, h2, h3, h4, h5, h6⟩ := hJ y S hI
  unfold tDrop tBM
  refine use_p R h1 fun v H1 R1 r1 => ?_
  have ev := exc_ref r1
  subst ev
  obtain ⟨vs, g1, _⟩ := R1.ok.lst _ _ h2
  refine ⟨.inl ⟨rfl, vs, .of g1⟩, use Hb S σ H1 d S1 _ R1 h3 fun u H2 R2 r2 => ?_⟩
  obtain ⟨ws, g2, rw2⟩ := R2.ok.lst _ _ h4
  refine ⟨l, ws, u, rfl, rfl, g2, by rw [rw2.length]; exact h5, ?_⟩
  obtain ⟨_, R3⟩ := R2.chgLst h4 (rw2.append (.one r2))
  exact k _ _ _ h6 R3
/-- name = C() -/
theorem h_new {x y : Str} {k r : Nat} {d0 : D} {p py pos pos2 : Pos} (M : MkS X.prog X.w X.K X.mg X.base C x k d0) (hN : X.N.Nodup) (hr : Room r X.A) (hk : k + 1 ≤ r) (i : Nat) (hn : noL d0 = true) (hJ : ∀ y S, I y S → ∀ a dx, a ≠ dx → S.2 a = none → S.2 dx = none → J y (S.1.set i (.val (excD a)), setP (setP S.2 dx (.own a)) a (.ins dx d0)))
    (hi : X.N[i]? = some y := by rfl) (hx : Loc X.env.scope y := by first | exact .inl rfl | exact .inr rfl) (hg : Gl X x := by rfl) (hdb : (x == ("__debug__" : Str)) = false := by decide)
    (hs : swapsWith (.Call (.Name x p) [] [] pos) (some (.Name y py)) pos2.line X.env = pure false := by rfl) (hf : X.fn y = true ∨ X.env.scope.names.lookup y = some .local := by first | exact .inl rfl | exact .inr rfl | assumption) :
    PS X (.Assign [.Name y py] (.Call (.Name x p) [] [] pos) pos2) (tH X.K C I J) := by
  obtain ⟨fI, fdI, Mk, F, hm, hb⟩ := M
  refine (ps_set hN hi hx (pe_make0 Mk F (hr.mono hk) hg hm hb .nil pass0 hdb) hs hf).imw fun D σ H ⟨Hb, y, S, hI, R, kk⟩ => ?_
  intro a dx ha hdx ne
  refine ⟨a, dx, rfl, upd_same, fun w' H2 s2 r2 => ⟨rfl, ?_⟩⟩
  have e2d : H2 dx = some (.own a) := s2 _ _ (by rw [upd_ne ne, upd_same])
  have e2a : H2 a = some (.ins C dx []) := s2 _ _ upd_same
  have sm : Same H (upd H2 a (.ins C dx [("strikes", w')])) := same_made ha hdx s2
  have rr : Rp X.K (upd H2 a (.ins C dx [("strikes", w')])) w' d0 := Rp.noL (fun b o no e => by
    rw [upd_ne]
    · exact e
    · intro z
      rw [z, e2a] at e; cases e; exact no trivial) hn r2
  obtain ⟨_, R'⟩ := R.newIns ha hdx ne sm upd_same (by rw [upd_ne ne]; exact e2d) hn rr
  exact kk _ _ _ (hJ y S hI a dx (Ne.symm ne) (R.ok.out ha) (R.ok.out hdx)) (R'.set i (.exc a))
/-- if not e: return False, where it never is -/
theorem h_ifNot {e : Expr} {pos p1 p2 p3 : Pos} {b : Bool} {j : Nat} {g : Store × Pf → D → Store × Pf → Prop} (he : XH X C e g) (hJ : ∀ y S, I y S → ∃ S', g S (.bool true) S' ∧ J y S') (ht : ∀ whole, isTrue e X.env whole = (do let v ← whole; standAt e.pos; holding [v] (truthy v)) := by intro _; rfl) :
    PS X (.If (.UnaryOp .Not e pos) [.Return (some (.Constant (.bool b) j p1)) p2] [] p3) (tH X.K C I J) := by
  obtain ⟨t, h, use⟩ := he
  refine (ps_if (pt_not (pt_truth h ht)) (pss_one (ps_ret pe_bl)) pss_nil).imw fun D σ H ⟨Hb, y, S, hI, R, k⟩ => ?_
  obtain ⟨S', h1, h2⟩ := hJ y S hI
  refine use Hb S σ H _ S' _ R h1 fun v H' R' r => ⟨true, truD_ok (d := .bool true) (r.mono hid_sub) rfl, ?_⟩
  exact k _ _ _ h2 R'
end
end Tv

/-! Tv38: comprehensions over things beside the store. -/
namespace Tv
open PySem PySem.Spec PyProof.Rows L2
/-- new instances at as -/
structure NI (p0 p : Pf) (as : List Addr) : Prop where
  nd : as.Nodup
  at_ : ∀ a ∈ as, ∃ dx, p a = some (.ins dx (.tuple []))
  old : ∀ b c, p0 b = some c → p b = some c
  new : ∀ a ∈ as, p0 a = none
theorem rpa_exc {K : PySem.W.Frag} {H : Hp} : ∀ as : List Addr, RpA K H (as.map V.ref) (as.map excD)
  | [] => .nil
  | a :: as => .cons (.exc a) (rpa_exc as)
theorem upd_out {H : Hp} {p : Addr} {o : HO} : upd (fun b => if b = p then none else H b) p o = upd H p o := by
  funext b
  unfold upd
  split
  · rfl
  · rename_i hb
    show (if b = p then none else H b) = H b
    rw [if_neg hb]
section
variable {X : Cx} {C : Addr} {ι : Type} {I J : ι → Store × Pf → Prop}
theorem h_things {N : List Str} {sc : Scope} {i n : Nat} {x y v : Str} {py p2 pos' pos pv : Pos} {p1 : Pos} {iter : Expr} {scope : Scope} {k r : Nat} {f : Store → Option (List D)} {ds : List D} (M : MkS X.prog X.w X.K X.mg X.base C x k (.tuple [])) (hN : X.N.Nodup) (hr : Room r X.A) (hk : k + 1 ≤ r)
    (hi : PI X (.Name v pv) iter (iD X.K f)) (hg : ∀ (s : Shared) (H : Hp) (C : Addr) (cl : List (Str × Addr)) (fp : List Addr), PG (X.blk s H scope (compEnvC scope cl C X.env) fp) (.Name v pv) (gT X.K (.nm n)))
    (hgb : ∀ (s : Shared) (H : Hp) (C : Addr) (cl : List (Str × Addr)) (fp : List Addr), Gl (X.blk s H scope (compEnvC scope cl C X.env) fp) x) (hf : ∀ z S, I z S → f S.1 = some ds) (hds : ds.length ≤ big)
    (hJ : ∀ z S, I z S → ∀ p as, as.length = ds.length → NI S.2 p as → J z (S.1.set i (.val (.list (as.map excD))), p)) (hdb : (x == ("__debug__" : Str)) = false := by decide)
    (hy : X.N[i]? = some y := by rfl) (hyl : X.env.scope.names.lookup y = some .local := by rfl) (hsw : swapsWith (.ListComp (.Call (.Name x p1) [] [] p2) [⟨.Name v pv, iter, [], 0⟩] scope pos') (some (.Name y py)) pos.line X.env = pure true := by exact sw_true rfl rfl rfl (by decide +kernel))
    (eN : X.N = N := by rfl) (eS : X.env.scope = sc := by rfl) (ok : blkC N sc scope [(v, n)] = true := by decide +kernel) (hc : X.calm = true := by rfl) (hs : ∀ x, foldedSetIterable iter X.env x = pure x := by intro _; rfl) :
    PS X (.Assign [.Name y py] (.ListComp (.Call (.Name x p1) [] [] p2) [⟨.Name v pv, iter, [], 0⟩] scope pos') pos) (tH X.K C I J) := by
  obtain ⟨fI, fdI, Mk, F, hm, hb⟩ := M
  refine (ps_setLc hc hN hy hyl hsw hi (blkOk_by (by rw [eN, eS]; exact ok)) hg (fun _ _ _ _ _ => pts_nil) (fun s H C' cl fp => pe_make0 (X := X.blk s H scope (compEnvC scope cl C' X.env) fp) Mk F (hr.mono hk) (hgb s H C' cl fp) hm hb .nil pass0 hdb) hs).imw fun D σ H ⟨Hb, z, S, hI, R, kk⟩ => ?_
  refine ⟨S.1, ds, R.ev.mono hid_sub, hf z S hI, fun J0 H1 s1 io => ?_⟩
  intro p hp
  have R1 := R.same s1
  refine ⟨fun j m Hx => m = ds.length - j ∧ j ≤ ds.length ∧ ∃ as p' Hy, as.length = j ∧ NI S.2 p' as ∧ Rel X.K C Hb (S.1, p') σ Hy ∧ Same H1 Hy ∧ Hy p = none ∧ Hx = upd Hy p (.lst (as.map V.ref)),
    ⟨ds.length, by simp, Nat.zero_le _, [], S.2, H1, rfl, ⟨.nil, fun a ha => (by cases ha), fun _ _ h => h, fun a ha => (by cases ha)⟩, R1, Same.refl _, hp, rfl⟩, ?_⟩
  rintro j m Hx ⟨rfl, hj, as, p', Hy, hal, ni, Ry, sy, hyp, rfl⟩
  obtain ⟨io1, io2⟩ := io j _ (sy.trans (same_upd hyp))
  by_cases hl : j < ds.length
  · right
    obtain ⟨go, yl⟩ := io2 _ (List.getElem?_eq_getElem hl)
    refine ⟨go, fun Hn => ∃ as p' Hy, as.length = j + 1 ∧ NI S.2 p' as ∧ Rel X.K C Hb (S.1, p') σ Hy ∧ Same H1 Hy ∧ Hy p = none ∧ Hn = upd Hy p (.lst (as.map V.ref)), fun Hn hn => ⟨ds.length - (j + 1), by omega, rfl, hl, hn⟩, fun xv Hx' yy => ?_⟩
    have fin : ∀ {Hz : Hp}, Rel X.K C Hb (S.1, p') σ Hz → Same H1 Hz → Hz p = none → gT X.K (.nm n) xv (L2.wipe σ [n]) (upd Hz p (.lst (as.map V.ref))) fun σ2 H2 => L2.wipe σ2 [n] = L2.wipe σ [n] ∧ tYes σ2 H2 fun b H3 =>
        if b = true then tMake C (spI X.K C (.tuple [])) [] (fun _ _ _ => False) tNil σ2 H3 fun y H4 => ∃ acc, H4 p = some (.lst acc) ∧ acc.length < sizeLine ∧ (∃ as p' Hy, as.length = j + 1 ∧ NI S.2 p' as ∧ Rel X.K C Hb (S.1, p') σ Hy ∧ Same H1 Hy ∧ Hy p = none ∧ upd H4 p (.lst (acc ++ [y])) = upd Hy p (.lst (as.map V.ref)))
        else (∃ as p' Hy, as.length = j + 1 ∧ NI S.2 p' as ∧ Rel X.K C Hb (S.1, p') σ Hy ∧ Same H1 Hy ∧ Hy p = none ∧ H3 = upd Hy p (.lst (as.map V.ref))) := by
      intro Hz Rz sz hzp
      refine ⟨by rw [wipe_set (List.mem_singleton.mpr rfl)]; exact wipe_sub fun u hu => hu, ?_⟩
      simp only [tYes, if_true]
      intro a dx ha hdx ne
      have nap : a ≠ p := fun q => by rw [q, upd_same] at ha; cases ha
      have ndp : dx ≠ p := fun q => by rw [q, upd_same] at hdx; cases hdx
      have hza : Hz a = none := by rw [upd_ne nap] at ha; exact ha
      have hzd : Hz dx = none := by rw [upd_ne ndp] at hdx; exact hdx
      refine ⟨a, dx, rfl, upd_same, fun w' H2 s2 r2 => ⟨rfl, ?_⟩⟩
      have e2a : H2 a = some (.ins C dx []) := s2 _ _ upd_same
      have e2d : H2 dx = some (.own a) := s2 _ _ (by rw [upd_ne ne, upd_same])
      have e2p : H2 p = some (.lst (as.map V.ref)) := s2 _ _ (by rw [upd_ne (Ne.symm nap), upd_ne (Ne.symm ndp), upd_same])
      have sm : Same (upd Hz p (.lst (as.map V.ref))) (upd H2 a (.ins C dx [("strikes", w')])) := same_made ha hdx s2
      have offp : ∀ {b}, b ≠ p → (fun b => if b = p then none else upd H2 a (.ins C dx [("strikes", w')]) b) b = upd H2 a (.ins C dx [("strikes", w')]) b := fun {b} hb => if_neg hb
      have sz2 : Same Hz (fun b => if b = p then none else upd H2 a (.ins C dx [("strikes", w')]) b) := fun b o e => by
        have hb : b ≠ p := fun q => by rw [q, hzp] at e; cases e
        exact (offp hb).trans (sm _ _ (by rw [upd_ne hb]; exact e))
      obtain ⟨_, R2⟩ := Rz.newIns hza hzd ne sz2 ((offp nap).trans upd_same) ((offp ndp).trans (by rw [upd_ne ne]; exact e2d)) rfl (Rp.noL (fun b o no e => by
        have hb : b ≠ p := fun q => by rw [q, e2p] at e; cases e; exact no trivial
        exact (offp hb).trans ((upd_ne (fun q => by rw [q, e2a] at e; cases e; exact no trivial)).trans e)) rfl r2)
      have pa : p' a = none := Rz.ok.out hza
      have pdx : p' dx = none := Rz.ok.out hzd
      have old : ∀ b c, p' b = some c → setP (setP p' dx (.own a)) a (.ins dx (.tuple [])) b = some c := fun b c q => by
        rw [setP_ne (fun z => by rw [z, pa] at q; cases q), setP_ne (fun z => by rw [z, pdx] at q; cases q)]; exact q
      refine ⟨as.map V.ref, by rw [upd_ne (Ne.symm nap)]; exact e2p, by rw [List.length_map, hal]; have := hds; rw [big_eq]; omega, as ++ [a], _, _, by simp [hal], ⟨?_, fun b hb => ?_, fun b c q => old b c (ni.old b c q), fun b hb => ?_⟩, R2, sz.trans sz2, if_pos rfl, by rw [upd_out, List.map_append]; rfl⟩
      · refine List.nodup_append.mpr ⟨ni.nd, by simp, fun u hu w hw => ?_⟩
        rw [List.mem_singleton.mp hw]
        intro q
        obtain ⟨dy, e⟩ := ni.at_ u hu
        rw [q, pa] at e; cases e
      · rcases List.mem_append.mp hb with hb | hb
        · obtain ⟨dy, e⟩ := ni.at_ b hb
          exact ⟨dy, old _ _ e⟩
        · rw [List.mem_singleton.mp hb]
          exact ⟨dx, setP_same⟩
      · rcases List.mem_append.mp hb with hb | hb
        · exact ni.new b hb
        · rw [List.mem_singleton.mp hb]
          cases q : S.2 a with
          | none => rfl
          | some c => have := ni.old _ _ q; rw [pa] at this; cases this
    rcases yl xv Hx' yy with ⟨rfl, _⟩ | ⟨Ta, xs, es, hT, _, rfl, _, _⟩
    · exact fin Ry sy hyp
    · have hTp : Ta ≠ p := fun q => by rw [q, upd_same] at hT; cases hT
      have hTy : Hy Ta = none := by rw [upd_ne hTp] at hT; exact hT
      rw [upd_comm (Ne.symm hTp)]
      exact fin (Ry.newTup hTy) (sy.trans (same_upd hTy)) (by rw [upd_ne (Ne.symm hTp)]; exact hyp)
  · left
    have hjl : j = ds.length := by omega
    refine ⟨io1 hjl, ?_⟩
    have R3 := Ry.same (same_upd (o := .lst (as.map V.ref)) hyp)
    refine kk _ _ _ (hJ z S hI p' as (by omega) ni) (R3.set i (.lst ?_ (rpa_exc as)))
    rw [hid_out (Ry.ok.out hyp), upd_same]
/-! ### three empty lists in a list -/
def t3 : TE := tLst (tCons (tLst tNil) (tCons (tLst tNil) (tCons (tLst tNil) tNil)))
theorem use3 {K : PySem.W.Frag} {Hb : Hp} {S : Store × Pf} {σ : L2.St} {H : Hp} {Q : VK} (R : Rel K C Hb S σ H)
    (k : ∀ l0 l1 l2 v H', l0 ≠ l1 → l0 ≠ l2 → l1 ≠ l2 → S.2 l0 = none → S.2 l1 = none → S.2 l2 = none → Rel K C Hb (S.1, setP (setP (setP S.2 l0 (.lst [])) l1 (.lst [])) l2 (.lst [])) σ H' → Same (hid S.2 H) (hid (setP (setP (setP S.2 l0 (.lst [])) l1 (.lst [])) l2 (.lst [])) H') → Rp K (hid (setP (setP (setP S.2 l0 (.lst [])) l1 (.lst [])) l2 (.lst [])) H') v (.list [excD l0, excD l1, excD l2]) → Q v H') : t3 σ H Q := by
  refine ⟨Nat.zero_le _, fun l0 h0 => ⟨Nat.zero_le _, fun l1 h1 => ⟨Nat.zero_le _, fun l2 h2 => ⟨by show 3 ≤ sizeLine; decide, fun q hq => ?_⟩⟩⟩⟩
  obtain ⟨e0, R0⟩ := R.newLst (ds := []) h0 .nil
  obtain ⟨e1, R1⟩ := R0.newLst (ds := []) h1 .nil
  obtain ⟨e2, R2⟩ := R1.newLst (ds := []) h2 .nil
  have n01 : l0 ≠ l1 := fun z => by rw [← z, upd_same] at h1; cases h1
  have n12 : l1 ≠ l2 := fun z => by rw [← z, upd_same] at h2; cases h2
  have n02 : l0 ≠ l2 := fun z => by rw [← z, upd_ne n01, upd_same] at h2; cases h2
  have g1 : H l1 = none := by rw [upd_ne (Ne.symm n01)] at h1; exact h1
  have g2 : H l2 = none := by rw [upd_ne (Ne.symm n12), upd_ne (Ne.symm n02)] at h2; exact h2
  have R3 := R2.same (same_upd (o := .lst [.ref l0, .ref l1, .ref l2]) hq)
  refine k l0 l1 l2 _ _ n01 n02 n12 (R.ok.out h0) (R.ok.out g1) (R.ok.out g2) R3 (fun b o e => ?_) (.lst ?_ (rpa_exc [l0, l1, l2]))
  · exact (R2.ok.same (same_upd hq)).1 b o (by rw [e2, e1, e0]; exact e)
  · rw [hid_out (R2.ok.out hq), upd_same]; rfl
structure Three (p0 p : Pf) (l0 l1 l2 : Addr) : Prop where
  n01 : l0 ≠ l1
  n02 : l0 ≠ l2
  n12 : l1 ≠ l2
  z0 : p0 l0 = none
  z1 : p0 l1 = none
  z2 : p0 l2 = none
  eq : p = setP (setP (setP p0 l0 (.lst [])) l1 (.lst [])) l2 (.lst [])
theorem h_rows {i j : Nat} {x y : Str} {px py pt pt2 pos : Pos} {a b : Expr} {kt k2 : Nat} (hN : X.N.Nodup) (ha : PE X a t3) (hb : PE X b t3) (hJ : ∀ z S, I z S → ∀ p1 p2 r0 r1 r2 c0 c1 c2, Three S.2 p1 r0 r1 r2 → Three p1 p2 c0 c1 c2 → J z ((S.1.set i (.val (.list [excD r0, excD r1, excD r2]))).set j (.val (.list [excD c0, excD c1, excD c2])), p2))
    (hi : X.N[i]? = some x := by rfl) (hj : X.N[j]? = some y := by rfl) (hij : i ≠ j := by decide) (hx : X.env.scope.names.lookup x = some .local := by rfl) (hy : X.env.scope.names.lookup y = some .local := by rfl) (hc : X.calm = true := by rfl)
    (hw : swappedStores [.Tuple [.Name x px, .Name y py] kt pt] (.Tuple [a, b] k2 pt2) X.env = pure (some [x, y]) := by rfl)
    (hs : swapsWithSole [.Tuple [.Name x px, .Name y py] kt pt] (.Tuple [a, b] k2 pt2) pos.line X.env = pure false := by rfl)
    (s1 : starEach [a, b] X.env = (false, eval a X.env) :: starEach [b] X.env := by rfl) (s2 : starEach [b] X.env = (false, eval b X.env) :: starEach [] X.env := by rfl) :
    PS X (.Assign [.Tuple [.Name x px, .Name y py] kt pt] (.Tuple [a, b] k2 pt2) pos) (tH X.K C I J) :=
  (ps_par hc hN hi hj hij hx hy (pa_cons ha (pa_cons hb pa_nil s2) s1) hw hs).imw fun D σ H ⟨Hb, z, S, hI, R, kk⟩ => by
    simp only [tPar, tCons, tNil]
    refine use3 R fun r0 r1 r2 v H1 n1 n2 n3 z0 z1 z2 R1 _ rv => use3 R1 fun c0 c1 c2 u H2 m1 m2 m3 y0 y1 y2 R2 sm ru => ⟨v, u, rfl, ?_⟩
    exact kk _ _ _ (hJ z S hI _ _ r0 r1 r2 c0 c1 c2 ⟨n1, n2, n3, z0, z1, z2, rfl⟩ ⟨m1, m2, m3, y0, y1, y2, rfl⟩) ((R2.set i (rv.mono sm)).set j ru)
/-! ### tuple([f(lone, c) for c in o]) -/
def runV (fv : D → List D → Option (D × D)) : D → List D → Option (List D × D)
  | d, [] => some ([], d)
  | d, c :: cs => match fv d [c] with
    | some (r, d1) => if (noL r && noL d1) = true then (runV fv d1 cs).map fun p => (r :: p.1, p.2) else none
    | none => none
theorem setP_set {p : Pf} {b : Addr} {c c' : Pc} : setP (setP p b c) b c' = setP p b c' := by
  funext x
  unfold setP
  split <;> rfl
theorem setP_id {p : Pf} {b : Addr} {c : Pc} (h : p b = some c) : setP p b c = p := by
  funext x
  by_cases hx : x = b
  · rw [hx, setP_same, h]
  · rw [setP_ne hx]
def gTC (fv : D → List D → Option (D × D)) (fo : Fn) (iL iC : Nat) : Store × Pf → D → Store × Pf → Prop := fun S d S' => ∃ l la dx d0 cs rs d', fo S.1 = some (excD l) ∧ S.1[iL]? = some (.val (excD la)) ∧ iC < S.1.length ∧ S.2 l = some (.lst cs) ∧ S.2 la = some (.ins dx d0) ∧ cs.length ≤ big ∧ runV fv d0 cs = some (rs, d') ∧ d = .tuple rs ∧ S' = (S.1, setP S.2 la (.ins dx d'))
theorem xh_tupC {N : List Str} {sc : Scope} {iL iC : Nat} {v : Str} {fv : D → List D → Option (D × D)} {fo : Fn} {o elt : Expr} {scope : Scope} {pos' pv p pos : Pos} (hm : X.mg "tuple" = none) (hN : X.N.Nodup) (ho : PE X o (tD X.K fo)) (hLC : iL ≠ iC)
    (hg' : ∀ (s : Shared) (H : Hp) (C : Addr) (cl : List (Str × Addr)) (fp : List Addr), PG (X.blk s H scope (compEnvC scope cl C X.env) fp) (.Name v pv) (gT X.K (.nm iC)))
    (he' : ∀ (s : Shared) (H : Hp) (C' : Addr) (cl : List (Str × Addr)) (fp : List Addr), PE (X.blk s H scope (compEnvC scope cl C' X.env) fp) elt (tCallV X.K C fv iL iC))
    (eN : X.N = N := by rfl) (eS : X.env.scope = sc := by rfl) (ok : blkC N sc scope [(v, iC)] = true := by decide +kernel) (hc : X.calm = true := by rfl) (hs : ∀ x, foldedSetIterable o X.env x = pure x := by intro _; rfl)
    (hg : Gl X "tuple" := by rfl) (he : starEach [.ListComp elt [⟨.Name v pv, o, [], 0⟩] scope pos'] X.env = (false, eval (.ListComp elt [⟨.Name v pv, o, [], 0⟩] scope pos') X.env) :: starEach [] X.env := by rfl) (hpl : (backTo pos (starEach [] X.env)).any (·.1) = false := by rfl) :
    XH X C (.Call (.Name "tuple" p) [.ListComp elt [⟨.Name v pv, o, [], 0⟩] scope pos'] [] pos) (gTC fv fo iL iC) := by
  refine ⟨_, pe_callTy call_tuple_of hg hm (by decide +kernel) (pa_cons (pe_lc hc hN (pi_seq (fr_e ho)) (blkOk_by (by rw [eN, eS]; exact ok)) hg' (fun _ _ _ _ _ => pts_nil) he' hs) pa_nil he) (by decide) (by decide) he hpl, fun Hb S σ H d S' Q R ⟨l, la, dx, d0, cs, rs, d', h1, h2, hiC, h3, h4, hbig, hrun, e1, e2⟩ k => ?_⟩
  subst e1 e2
  unfold tCB tCons tNil tLc iSeq
  refine use_p R h1 fun v0 H1 R1 r1 => ?_
  have ev := exc_ref r1
  subst ev
  have nla : l ≠ la := fun z => by rw [z, h4] at h3; cases h3
  obtain ⟨cvs, hl1, _⟩ := R1.ok.lst _ _ h3
  refine .inl ⟨l, rfl, ⟨cvs, .of hl1⟩, ?_⟩
  intro q hq
  refine ⟨fun j m Hx => m = cs.length - j ∧ j ≤ cs.length ∧ ∃ accv accd dj Hy rs', Rel X.K C Hb (S.1, setP S.2 la (.ins dx dj)) σ Hy ∧ Hy q = none ∧ Hx = upd Hy q (.lst accv) ∧ RpA X.K (hid (setP S.2 la (.ins dx dj)) Hy) accv accd ∧ accd.length ≤ j ∧ runV fv dj (cs.drop j) = some (rs', d') ∧ accd ++ rs' = rs,
    ⟨cs.length, by simp, Nat.zero_le _, [], [], d0, H1, rs, by rw [setP_id h4]; exact R1, hq, rfl, .nil, Nat.le_refl _, hrun, rfl⟩, ?_⟩
  rintro j m Hx ⟨rfl, hj, accv, accd, dj, Hy, rs', Ry, hyq, rfl, racc, hal, hrj, hres⟩
  have pl : setP S.2 la (.ins dx dj) l = some (.lst cs) := by rw [setP_ne nla]; exact h3
  obtain ⟨ws, hly, rws⟩ := Ry.ok.lst _ _ pl
  have nlq : l ≠ q := fun z => by rw [z, hyq] at hly; cases hly
  have hlx : upd Hy q (.lst accv) l = some (.lst ws) := by rw [upd_ne nlq]; exact hly
  by_cases hlt : j < cs.length
  · right
    obtain ⟨c, hcj⟩ : ∃ c, cs[j]? = some c := ⟨_, List.getElem?_eq_getElem hlt⟩
    obtain ⟨cv, hcv, rcv⟩ := rws.get hcj
    refine ⟨⟨ws, cv, .of hlx, hcv⟩, fun Hn => ∃ accv accd dj Hy rs', Rel X.K C Hb (S.1, setP S.2 la (.ins dx dj)) σ Hy ∧ Hy q = none ∧ Hn = upd Hy q (.lst accv) ∧ RpA X.K (hid (setP S.2 la (.ins dx dj)) Hy) accv accd ∧ accd.length ≤ j + 1 ∧ runV fv dj (cs.drop (j + 1)) = some (rs', d') ∧ accd ++ rs' = rs,
      fun Hn hn => ⟨cs.length - (j + 1), by omega, rfl, hlt, hn⟩, fun xv Hx' ⟨e1, e2⟩ => ?_⟩
    subst e1
    have exv : xv = cv := Option.some.inj ((e2 ws (.of hlx)).symm.trans hcv)
    subst exv
    refine ⟨show L2.wipe ((L2.wipe σ [iC]).set iC (some xv)) [iC] = L2.wipe σ [iC] from by rw [wipe_set (List.mem_singleton.mpr rfl)]; exact wipe_sub fun u hu => hu, ?_⟩
    simp only [tYes, if_true]
    have hdj : cs.drop j = c :: cs.drop (j + 1) := by
      rw [List.drop_eq_getElem_cons hlt]
      congr 1
      exact Option.some.inj ((List.getElem?_eq_getElem hlt).symm.trans hcj)
    rw [hdj] at hrj
    unfold runV at hrj
    cases qf : fv dj [c] with
    | none => rw [qf] at hrj; cases hrj
    | some p =>
      obtain ⟨r, d1⟩ := p
      rw [qf] at hrj
      simp only at hrj
      split at hrj
      · rename_i hn
        rw [Bool.and_eq_true] at hn
        cases qr : runV fv d1 (cs.drop (j + 1)) with
        | none => rw [qr] at hrj; cases hrj
        | some p2 =>
          obtain ⟨rs2, d2⟩ := p2
          rw [qr] at hrj
          cases hrj
          obtain ⟨vl, hvl, rvl⟩ := Ry.ev.val iL _ h2
          have evl := exc_ref rvl
          subst evl
          have hlen : iC < σ.length := by rw [Ry.ev.len]; exact hiC
          have s1 : ((L2.wipe σ [iC]).set iC (some xv))[iL]? = some (some (.ref la)) := by
            rw [List.getElem?_set_ne (Ne.symm hLC), wipe_out (by simpa using hLC)]; exact hvl
          have s2 : ((L2.wipe σ [iC]).set iC (some xv))[iC]? = some (some xv) := List.getElem?_set_self (by rw [wipe_length]; exact hlen)
          have pla : setP S.2 la (.ins dx dj) la = some (.ins dx dj) := setP_same
          obtain ⟨g1, w, g2, rw2⟩ := Ry.ok.ins _ _ _ pla
          obtain ⟨g3, _⟩ := Ry.ok.own _ _ g1
          have laq : la ≠ q := fun z => by rw [z, hyq] at g2; cases g2
          have dxq : dx ≠ q := fun z => by rw [z, hyq] at g3; cases g3
          have lad : la ≠ dx := fun z => by
            have q : setP S.2 la (.ins dx dj) dx = some (.own la) := g1
            rw [← z, setP_same] at q; cases q
          have subq : Same (hid (setP S.2 la (.ins dx dj)) Hy) (upd Hy q (.lst accv)) := fun b o e => same_upd hyq _ _ (hid_sub _ _ e)
          refine ⟨la, xv, dx, w, dj, c, r, d1, s1, s2, lad, by rw [upd_ne laq]; exact g2, by rw [upd_ne dxq]; exact g3, rw2.mono subq, rcv.mono subq, qf, fun vr w' H' bt hla rw' rv => ?_⟩
          have hqH : H' q = some (.lst accv) := bt _ _ (Ne.symm laq) upd_same
          have offq : ∀ {b}, b ≠ q → (fun b => if b = q then none else H' b) b = H' b := fun {b} hb => if_neg hb
          have bt2 : But la Hy (fun b => if b = q then none else H' b) := fun b o nb e => by
            have hb : b ≠ q := fun z => by rw [z, hyq] at e; cases e
            exact (offq hb).trans (bt _ _ nb (by rw [upd_ne hb]; exact e))
          have far : ∀ b o, ¬ frOk o → H' b = some o → (fun b => if b = q then none else H' b) b = some o := fun b o no e => by
            have hb : b ≠ q := fun z => by rw [z, hqH] at e; cases e; exact no trivial
            exact (offq hb).trans e
          obtain ⟨sm, R2, _⟩ := Ry.chgIns pla bt2 ((offq laq).trans hla) hn.2 (Rp.noL far hn.2 rw')
          rw [setP_set] at sm R2
          refine ⟨accv, hqH, by rw [racc.length]; have := hbig; rw [big_eq]; omega, accv ++ [vr], accd ++ [r], d1, _, rs2, R2, if_pos rfl, by rw [upd_out], (racc.mono sm).append (.one (R2.ok.rp hn.1 (Rp.noL far hn.1 rv))), by simp; omega, qr, ?_⟩
          rw [← hres, List.append_assoc]; rfl
      · cases hrj
  · left
    have hjl : j = cs.length := by omega
    have wl : ws.length ≤ j := by rw [rws.length]; omega
    refine ⟨⟨ws, .of hlx, wl⟩, ?_⟩
    rw [hjl, List.drop_length] at hrj
    cases hrj
    rw [List.append_nil] at hres
    subst hres
    refine ⟨q, accv, rfl, .inl ⟨.of upd_same, fun u hu => ?_⟩⟩
    have huq : u ≠ q := fun z => by rw [z, upd_same] at hu; cases hu
    have huy : Hy u = none := by rw [upd_ne huq] at hu; exact hu
    have R3 := (Ry.same (same_upd (o := .lst accv) hyq))
    have R4 := R3.same (same_upd (o := .tup accv) hu)
    refine k _ _ R4 (.tup (.inl ?_) (racc.mono fun b o e => (R3.ok.same (same_upd hu)).1 _ _ ((Ry.ok.same (same_upd hyq)).1 _ _ e)))
    rw [hid_out (Ry.ok.out huy), upd_same]
end
end Tv

namespace Mt
/-! ### one strike -/
abbrev Stk := Int × Int
structure GoodS (s : Stk) : Prop where
  two : 2 ≤ s.1
  sm : s.1 ≤ 1000000
  one : 1 ≤ s.2
  le : s.2 ≤ s.1
def takesB (s : Stk) (p : Int) : Bool := p.fmod s.1 == s.2.fmod s.1
def below (s : Stk) (p : Int) : Int := if p < s.2 then 0 else (p - s.2).fdiv s.1 + 1
def before (s : Stk) (p : Int) : Int := if (p - 1).fmod (s.1 - 1) < s.2 - 1 then (p - 1).fdiv (s.1 - 1) * s.1 + (p - 1).fmod (s.1 - 1) + 1 else (p - 1).fdiv (s.1 - 1) * s.1 + (p - 1).fmod (s.1 - 1) + 2
def left1 (s : Stk) (p : Int) : Int := p - below s p
theorem fdiv_rep {b q t : Int} (hb : 0 < b) (h0 : 0 ≤ t) (h1 : t < b) : (q * b + t).fdiv b = q := by
  rw [Int.fdiv_eq_ediv_of_nonneg _ (Int.le_of_lt hb), Int.add_comm, Int.add_mul_ediv_right _ _ (by omega), Int.ediv_eq_zero_of_lt h0 h1, Int.zero_add]
theorem fmod_rep {b q t : Int} (hb : 0 < b) (h0 : 0 ≤ t) (h1 : t < b) : (q * b + t).fmod b = t := by
  rw [Int.fmod_eq_emod_of_nonneg _ (Int.le_of_lt hb), Int.add_comm, Int.add_mul_emod_self_right, Int.emod_eq_of_lt h0 h1]
/-- every number from 1 on as q blocks of b and a place t from 1 to b in the next -/
theorem rep {b : Int} (hb : 0 < b) (n : Int) (hn : 1 ≤ n) : ∃ q t, 0 ≤ q ∧ 1 ≤ t ∧ t ≤ b ∧ n = q * b + t := by
  refine ⟨(n - 1) / b, (n - 1) % b + 1, Int.ediv_nonneg (by omega) (by omega), ?_, ?_, ?_⟩
  · have := Int.emod_nonneg (n - 1) (by omega : b ≠ 0); omega
  · have := Int.emod_lt_of_pos (n - 1) hb; omega
  · have := Int.mul_ediv_add_emod (n - 1) b
    rw [Int.mul_comm] at this; omega
theorem mul_nn {q b : Int} (hq : 0 ≤ q) (hb : 0 ≤ b) : 0 ≤ q * b := Int.mul_nonneg hq hb
theorem below_rep {s : Stk} (g : GoodS s) {q t : Int} (hq : 0 ≤ q) (h1 : 1 ≤ t) (h2 : t ≤ s.1) : below s (q * s.1 + t) = q + (if s.2 ≤ t then 1 else 0) := by
  obtain ⟨g1, g2, g3, g4⟩ := g
  have hqb := mul_nn hq (by omega : 0 ≤ s.1)
  unfold below
  by_cases h : s.2 ≤ t
  · rw [if_neg (by omega), if_pos h]
    rw [show q * s.1 + t - s.2 = q * s.1 + (t - s.2) by omega, fdiv_rep (by omega) (by omega) (by omega)]
  · rw [if_neg h]
    by_cases h0 : q = 0
    · subst h0
      rw [if_pos (by omega)]; rfl
    · have : s.1 ≤ q * s.1 := by
        have := Int.mul_le_mul_of_nonneg_right (show 1 ≤ q by omega) (show 0 ≤ s.1 by omega)
        omega
      rw [if_neg (by omega)]
      have e : q * s.1 + t - s.2 = (q - 1) * s.1 + (s.1 + t - s.2) := by rw [Int.sub_mul]; omega
      rw [e, fdiv_rep (by omega) (by omega) (by omega)]
      omega
theorem takes_rep {s : Stk} (g : GoodS s) {q t : Int} (h1 : 1 ≤ t) (h2 : t ≤ s.1) : takesB s (q * s.1 + t) = decide (t = s.2) := by
  obtain ⟨g1, g2, g3, g4⟩ := g
  have key : ∀ (q u : Int), 1 ≤ u → u ≤ s.1 → (q * s.1 + u).fmod s.1 = if u = s.1 then 0 else u := by
    intro q u hu1 hu2
    split
    · rename_i hu
      rw [show q * s.1 + u = (q + 1) * s.1 + 0 by rw [Int.add_mul]; omega, fmod_rep (by omega) (by omega) (by omega)]
    · rw [fmod_rep (by omega) (by omega) (by omega)]
  unfold takesB
  have k2 := key 0 s.2 g3 g4
  rw [Int.zero_mul, Int.zero_add] at k2
  rw [key q t h1 h2, k2]
  by_cases h : t = s.2
  · rw [h]; simp
  · rw [decide_eq_false h, beq_eq_false_iff_ne]
    split <;> split <;> omega
theorem before_rep {s : Stk} (g : GoodS s) {q t : Int} (h1 : 1 ≤ t) (h2 : t ≤ s.1 - 1) : before s (q * (s.1 - 1) + t) = q * s.1 + t + (if t < s.2 then 0 else 1) := by
  obtain ⟨g1, g2, g3, g4⟩ := g
  unfold before
  rw [show q * (s.1 - 1) + t - 1 = q * (s.1 - 1) + (t - 1) by omega, fdiv_rep (by omega) (by omega) (by omega), fmod_rep (by omega) (by omega) (by omega)]
  split <;> split <;> omega
theorem left1_rep {s : Stk} (g : GoodS s) {q t : Int} (hq : 0 ≤ q) (h1 : 1 ≤ t) (h2 : t ≤ s.1) : left1 s (q * s.1 + t) = q * (s.1 - 1) + (t - (if s.2 ≤ t then 1 else 0)) := by
  unfold left1
  rw [below_rep g hq h1 h2, Int.mul_sub]
  omega
/-- the number ahead of a strike: it isn't taken, and has that place behind it -/
theorem before_ok {s : Stk} (g : GoodS s) {p : Int} (hp : 1 ≤ p) : 1 ≤ before s p ∧ takesB s (before s p) = false ∧ left1 s (before s p) = p := by
  obtain ⟨q, t, hq, h1, h2, rfl⟩ := rep (b := s.1 - 1) (by have := g.two; omega) p hp
  have g2 := g.two
  have hqb := mul_nn hq (by omega : 0 ≤ s.1)
  rw [before_rep g h1 h2]
  by_cases h : t < s.2
  · rw [if_pos h, Int.add_zero]
    refine ⟨by omega, ?_, ?_⟩
    · rw [takes_rep g h1 (by omega)]; exact decide_eq_false (by omega)
    · rw [left1_rep g hq h1 (by omega), if_neg (by omega)]; omega
  · rw [if_neg h, Int.add_assoc]
    refine ⟨by omega, ?_, ?_⟩
    · rw [takes_rep g (by omega) (by omega)]; exact decide_eq_false (by omega)
    · rw [left1_rep g hq (by omega) (by omega), if_pos (by omega)]; omega
/-- a number that isn't taken: its place, and back -/
theorem left_back {s : Stk} (g : GoodS s) {n : Int} (hn : 1 ≤ n) (ht : takesB s n = false) : 1 ≤ left1 s n ∧ before s (left1 s n) = n := by
  obtain ⟨q, t, hq, h1, h2, rfl⟩ := rep (b := s.1) (by have := g.two; omega) n hn
  have g2 := g.two
  have g3 := g.one
  have hqb := mul_nn hq (by omega : 0 ≤ s.1 - 1)
  rw [takes_rep g h1 h2] at ht
  have hne : t ≠ s.2 := of_decide_eq_false ht
  rw [left1_rep g hq h1 h2]
  by_cases h : s.2 ≤ t
  · rw [if_pos h]
    refine ⟨by omega, ?_⟩
    rw [before_rep g (by omega) (by omega), if_neg (by omega)]; omega
  · rw [if_neg h]
    refine ⟨by omega, ?_⟩
    rw [before_rep g (by omega) (by have := g.le; omega), if_pos (by omega)]; omega
theorem below0 {s : Stk} (g : GoodS s) : below s 0 = 0 := by
  unfold below; rw [if_pos (by have := g.one; omega)]
theorem left1_0 {s : Stk} (g : GoodS s) : left1 s 0 = 0 := by
  unfold left1; rw [below0 g]; rfl
/-- one number more: one more is left, if it isn't taken -/
theorem left1_step {s : Stk} (g : GoodS s) {n : Int} (hn : 1 ≤ n) : left1 s n = left1 s (n - 1) + (if takesB s n = true then 0 else 1) := by
  obtain ⟨q, t, hq, h1, h2, rfl⟩ := rep (b := s.1) (by have := g.two; omega) n hn
  have g2 := g.two
  have g3 := g.one
  have g4 := g.le
  rw [takes_rep g h1 h2, left1_rep g hq h1 h2]
  by_cases ht : t = 1
  · by_cases h0 : q = 0
    · subst h0
      subst ht
      rw [show (0 : Int) * s.1 + 1 - 1 = 0 by omega, left1_0 g]
      by_cases h : s.2 = 1
      · rw [if_pos (by omega), if_pos (by rw [decide_eq_true_eq]; omega)]; omega
      · rw [if_neg (by omega), if_neg (by rw [decide_eq_true_eq]; omega)]; omega
    · subst ht
      rw [show q * s.1 + 1 - 1 = (q - 1) * s.1 + s.1 by rw [Int.sub_mul]; omega, left1_rep g (by omega) (by omega) (Int.le_refl _), if_pos g4]
      have e : (q - 1) * (s.1 - 1) = q * (s.1 - 1) - (s.1 - 1) := by rw [Int.sub_mul]; omega
      by_cases h : s.2 = 1
      · rw [if_pos (by omega), if_pos (by rw [decide_eq_true_eq]; omega), e]; omega
      · rw [if_neg (by omega), if_neg (by rw [decide_eq_true_eq]; omega), e]; omega
  · rw [show q * s.1 + t - 1 = q * s.1 + (t - 1) by omega, left1_rep g hq (by omega) (by omega)]
    by_cases h : t = s.2
    · rw [if_pos (by omega), if_neg (by omega), if_pos (by rw [decide_eq_true_eq]; omega)]; omega
    · rw [if_neg (show ¬ decide (t = s.2) = true by rw [decide_eq_true_eq]; exact h)]
      split <;> split <;> omega
theorem left1_nn {s : Stk} (g : GoodS s) {n : Int} (hn : 0 ≤ n) : 0 ≤ left1 s n := by
  by_cases h : n = 0
  · subst h; rw [left1_0 g]; exact Int.le_refl 0
  · obtain ⟨q, t, hq, h1, h2, rfl⟩ := rep (b := s.1) (by have := g.two; omega) n (by omega)
    have g2 := g.two
    have hqb := mul_nn hq (by omega : 0 ≤ s.1 - 1)
    rw [left1_rep g hq h1 h2]
    split <;> omega
theorem left1_le {s : Stk} (g : GoodS s) {n : Int} (hn : 0 ≤ n) : left1 s n ≤ n := by
  by_cases h : n = 0
  · subst h; rw [left1_0 g]; exact Int.le_refl 0
  · obtain ⟨q, t, hq, h1, h2, rfl⟩ := rep (b := s.1) (by have := g.two; omega) n (by omega)
    rw [left1_rep g hq h1 h2, Int.mul_sub]
    split <;> omega
theorem left1_mono {s : Stk} (g : GoodS s) {m n : Int} (hm : 0 ≤ m) (h : m ≤ n) : left1 s m ≤ left1 s n := by
  obtain ⟨k, rfl⟩ : ∃ k : Nat, n = m + k := ⟨(n - m).toNat, by omega⟩
  clear h
  induction k with
  | zero => simp
  | succ k ih =>
    have := left1_step g (n := m + ((k + 1 : Nat) : Int)) (by omega)
    rw [show m + ((k + 1 : Nat) : Int) - 1 = m + k by omega] at this
    split at this <;> omega
/-- further by whole blocks -/
theorem left1_add {s : Stk} (g : GoodS s) {n c : Int} (hn : 0 ≤ n) (hc : 0 ≤ c) : left1 s (n + c * s.1) = left1 s n + c * (s.1 - 1) := by
  have g2 := g.two
  by_cases h : n = 0
  · subst h
    rw [left1_0 g, Int.zero_add, Int.zero_add]
    by_cases h0 : c = 0
    · subst h0; rw [Int.zero_mul, Int.zero_mul, left1_0 g]
    · rw [show c * s.1 = (c - 1) * s.1 + s.1 by rw [Int.sub_mul]; omega, left1_rep g (by omega) (by omega) (Int.le_refl _), if_pos g.le, show c * (s.1 - 1) = (c - 1) * (s.1 - 1) + (s.1 - 1) by rw [Int.sub_mul c 1]; omega]
  · obtain ⟨q, t, hq, h1, h2, rfl⟩ := rep (b := s.1) (by omega) n (by omega)
    rw [show q * s.1 + t + c * s.1 = (q + c) * s.1 + t by rw [Int.add_mul]; omega, left1_rep g (by omega) h1 h2, left1_rep g hq h1 h2, Int.add_mul]
    omega
theorem takes_add {s : Stk} (g : GoodS s) {n c : Int} (hn : 1 ≤ n) : takesB s (n + c * s.1) = takesB s n := by
  have g2 := g.two
  obtain ⟨q, t, hq, h1, h2, rfl⟩ := rep (b := s.1) (by omega) n hn
  rw [show q * s.1 + t + c * s.1 = (q + c) * s.1 + t by rw [Int.add_mul]; omega, takes_rep g h1 h2, takes_rep g h1 h2]
theorem before_add {s : Stk} (g : GoodS s) {p c : Int} (hp : 1 ≤ p) : before s (p + c * (s.1 - 1)) = before s p + c * s.1 := by
  have g2 := g.two
  obtain ⟨q, t, hq, h1, h2, rfl⟩ := rep (b := s.1 - 1) (by omega) p hp
  rw [show q * (s.1 - 1) + t + c * (s.1 - 1) = (q + c) * (s.1 - 1) + t by rw [Int.add_mul]; omega, before_rep g h1 h2, before_rep g h1 h2, Int.add_mul]
  omega
theorem before_mono {s : Stk} (g : GoodS s) {m n : Int} (hm : 1 ≤ m) (h : m < n) : before s m < before s n := by
  obtain ⟨a1, a2, a3⟩ := before_ok g hm
  obtain ⟨b1, b2, b3⟩ := before_ok g (show 1 ≤ n by omega)
  by_cases c : before s m < before s n
  · exact c
  · have := left1_mono g (show 0 ≤ before s n by omega) (show before s n ≤ before s m by omega)
    omega
end Mt

namespace Mt
/-! ### strikes one behind the other -/
abbrev Rl := List Stk
def GoodR (r : Rl) : Prop := ∀ s ∈ r, GoodS s
theorem GoodR.head {s : Stk} {r : Rl} (g : GoodR (s :: r)) : GoodS s := g s List.mem_cons_self
theorem GoodR.tail {s : Stk} {r : Rl} (g : GoodR (s :: r)) : GoodR r := fun t h => g t (List.mem_cons_of_mem _ h)
def numAt : Rl → Int → Int
  | [], p => p
  | s :: r, p => before s (numAt r p)
def cnt : Rl → Int → Int
  | [], n => n
  | s :: r, n => cnt r (left1 s n)
def way : Rl → Int → List Int
  | [], n => [n]
  | s :: r, n => if takesB s n = true then [n] else n :: way r (left1 s n)
def plOf : Rl → Int → Option Int
  | [], n => some n
  | s :: r, n => if takesB s n = true then none else plOf r (left1 s n)
def stBy : Rl → Int → Option Nat
  | [], _ => none
  | s :: r, n => if takesB s n = true then some 0 else (stBy r (left1 s n)).map (· + 1)
def allBy : Rl → Int
  | [] => 1
  | s :: r => s.1 * allBy r
def keptBy : Rl → Int
  | [] => 1
  | s :: r => (s.1 - 1) * keptBy r
def nextL (r : Rl) (n : Int) : Int := numAt r (cnt r (n - 1) + 1)
theorem numAt_ok : ∀ {r : Rl} (_ : GoodR r) {p : Int} (_ : 1 ≤ p), 1 ≤ numAt r p ∧ plOf r (numAt r p) = some p ∧ stBy r (numAt r p) = none ∧ cnt r (numAt r p) = p
  | [], _, p, hp => ⟨hp, rfl, rfl, rfl⟩
  | s :: r, g, p, hp => by
    obtain ⟨h1, h2, h3, h4⟩ := numAt_ok g.tail hp
    obtain ⟨b1, b2, b3⟩ := before_ok g.head h1
    refine ⟨b1, ?_, ?_, ?_⟩
    · show (if takesB s (before s (numAt r p)) = true then none else plOf r (left1 s (before s (numAt r p)))) = some p
      rw [b2, b3, if_neg Bool.false_ne_true]; exact h2
    · show (if takesB s (before s (numAt r p)) = true then some 0 else (stBy r (left1 s (before s (numAt r p)))).map (· + 1)) = none
      rw [b2, b3, if_neg Bool.false_ne_true, h3]; rfl
    · show cnt r (left1 s (before s (numAt r p))) = p
      rw [b3]; exact h4
theorem plOf_back : ∀ {r : Rl} (_ : GoodR r) {n p : Int} (_ : 1 ≤ n), plOf r n = some p → 1 ≤ p ∧ numAt r p = n ∧ cnt r n = p
  | [], _, n, p, hn, h => by cases h; exact ⟨hn, rfl, rfl⟩
  | s :: r, g, n, p, hn, h => by
    unfold plOf at h
    split at h
    · cases h
    · rename_i ht
      obtain ⟨l1, l2⟩ := left_back g.head hn (by simpa using ht)
      obtain ⟨p1, p2, p3⟩ := plOf_back g.tail l1 h
      exact ⟨p1, by show before s (numAt r p) = n; rw [p2, l2], p3⟩
theorem pl_st : ∀ (r : Rl) (n : Int), (plOf r n).isSome = (stBy r n).isNone
  | [], _ => rfl
  | s :: r, n => by
    unfold plOf stBy
    split
    · rfl
    · rw [pl_st r]; cases stBy r (left1 s n) <;> rfl
theorem cnt_step : ∀ {r : Rl} (_ : GoodR r) {n : Int} (_ : 1 ≤ n), cnt r n = cnt r (n - 1) + (if (plOf r n).isSome = true then 1 else 0)
  | [], _, n, hn => by
    show n = n - 1 + 1
    omega
  | s :: r, g, n, hn => by
    have st := left1_step g.head hn
    unfold plOf
    show cnt r (left1 s n) = cnt r (left1 s (n - 1)) + _
    by_cases ht : takesB s n = true
    · rw [if_pos ht] at st ⊢
      rw [st, Int.add_zero]; simp
    · rw [if_neg ht] at st ⊢
      obtain ⟨l1, _⟩ := left_back g.head hn (by simpa using ht)
      have := cnt_step g.tail l1
      rw [show left1 s n - 1 = left1 s (n - 1) by omega] at this
      exact this
theorem cnt_nn : ∀ {r : Rl} (_ : GoodR r) {n : Int} (_ : 0 ≤ n), 0 ≤ cnt r n
  | [], _, _, h => h
  | _ :: _, g, _, h => cnt_nn g.tail (left1_nn g.head h)
theorem cnt_le : ∀ {r : Rl} (_ : GoodR r) {n : Int} (_ : 0 ≤ n), cnt r n ≤ n
  | [], _, _, _ => Int.le_refl _
  | _ :: _, g, _, h => Int.le_trans (cnt_le g.tail (left1_nn g.head h)) (left1_le g.head h)
theorem cnt_zero {r : Rl} (g : GoodR r) : cnt r 0 = 0 := by
  have h1 := cnt_nn g (Int.le_refl 0)
  have h2 := cnt_le g (Int.le_refl 0)
  omega
theorem cnt_mono : ∀ {r : Rl} (_ : GoodR r) {m n : Int} (_ : 0 ≤ m) (_ : m ≤ n), cnt r m ≤ cnt r n
  | [], _, _, _, _, h => h
  | _ :: _, g, _, _, hm, h => cnt_mono g.tail (left1_nn g.head hm) (left1_mono g.head hm h)
theorem numAt_mono : ∀ {r : Rl} (_ : GoodR r) {m n : Int} (_ : 1 ≤ m) (_ : m < n), numAt r m < numAt r n
  | [], _, _, _, _, h => h
  | s :: r, g, m, n, hm, h => before_mono g.head (numAt_ok g.tail hm).1 (numAt_mono g.tail hm h)
theorem next_ok {r : Rl} (g : GoodR r) {n : Int} (hn : 1 ≤ n) : n ≤ nextL r n ∧ plOf r (nextL r n) = some (cnt r (n - 1) + 1) ∧ cnt r (nextL r n) = cnt r (n - 1) + 1 := by
  have h0 := cnt_nn g (show 0 ≤ n - 1 by omega)
  obtain ⟨h1, h2, h3, h4⟩ := numAt_ok g (show 1 ≤ cnt r (n - 1) + 1 by omega)
  refine ⟨?_, h2, h4⟩
  by_cases c : n ≤ nextL r n
  · exact c
  · have := cnt_mono g (show 0 ≤ nextL r n by unfold nextL; omega) (show nextL r n ≤ n - 1 by omega)
    have e : cnt r (nextL r n) = cnt r (n - 1) + 1 := h4
    omega
theorem next_self {r : Rl} (g : GoodR r) {n p : Int} (hn : 1 ≤ n) (h : plOf r n = some p) : nextL r n = n := by
  obtain ⟨p1, p2, p3⟩ := plOf_back g hn h
  have st := cnt_step g hn
  rw [h] at st
  simp only [Option.isSome_some, if_true] at st
  unfold nextL
  rw [show cnt r (n - 1) + 1 = p by omega]
  exact p2
/-- none between is left -/
theorem next_least {r : Rl} (g : GoodR r) {n m : Int} (hn : 1 ≤ n) (h1 : n ≤ m) (h2 : m < nextL r n) : plOf r m = none := by
  obtain ⟨a, b, c⟩ := next_ok g hn
  cases q : plOf r m with
  | none => rfl
  | some p =>
    obtain ⟨p1, p2, p3⟩ := plOf_back g (show 1 ≤ m by omega) q
    have st := cnt_step g (show 1 ≤ m by omega)
    rw [q] at st
    simp only [Option.isSome_some, if_true] at st
    have e1 := cnt_mono g (show 0 ≤ n - 1 by omega) (show n - 1 ≤ m - 1 by omega)
    have e3 := cnt_step g (show 1 ≤ nextL r n by omega)
    rw [b] at e3
    simp only [Option.isSome_some, if_true] at e3
    have e2 := cnt_mono g (show 0 ≤ m by omega) (show m ≤ nextL r n - 1 by omega)
    omega
theorem st_take : ∀ {r : Rl} {n : Int} {k : Nat}, stBy r n = some k → (plOf (r.take k) n).isSome = true ∧ plOf (r.take (k + 1)) n = none
  | [], _, _, h => by cases h
  | s :: r, n, k, h => by
    unfold stBy at h
    split at h
    · rename_i ht
      cases h
      refine ⟨rfl, ?_⟩
      show (if takesB s n = true then none else _) = none
      rw [if_pos ht]
    · rename_i ht
      cases q : stBy r (left1 s n) with
      | none => rw [q] at h; cases h
      | some j =>
        rw [q] at h; cases h
        obtain ⟨a, b⟩ := st_take q
        refine ⟨?_, ?_⟩
        · show (if takesB s n = true then none else plOf (r.take j) (left1 s n)).isSome = true
          rw [if_neg ht]; exact a
        · show (if takesB s n = true then none else plOf (r.take (j + 1)) (left1 s n)) = none
          rw [if_neg ht]; exact b
theorem allBy_nn : ∀ {r : Rl}, GoodR r → 1 ≤ allBy r
  | [], _ => Int.le_refl _
  | s :: r, g => by
    have h1 := allBy_nn g.tail
    have h2 := g.head.two
    show 1 ≤ s.1 * allBy r
    have := Int.mul_le_mul (show 1 ≤ s.1 by omega) h1 (by omega) (by omega)
    omega
theorem keptBy_nn : ∀ {r : Rl}, GoodR r → 1 ≤ keptBy r
  | [], _ => Int.le_refl _
  | s :: r, g => by
    have h1 := keptBy_nn g.tail
    have h2 := g.head.two
    show 1 ≤ (s.1 - 1) * keptBy r
    have := Int.mul_le_mul (show 1 ≤ s.1 - 1 by omega) h1 (by omega) (by omega)
    omega
theorem numAt_add : ∀ {r : Rl} (_ : GoodR r) {p c : Int} (_ : 1 ≤ p) (_ : 0 ≤ c), numAt r (p + c * keptBy r) = numAt r p + c * allBy r
  | [], _, p, c, _, _ => rfl
  | s :: r, g, p, c, hp, hc => by
    have h2 := g.head.two
    have ih := numAt_add g.tail (c := c * (s.1 - 1)) hp (Int.mul_nonneg hc (by omega))
    show before s (numAt r (p + c * ((s.1 - 1) * keptBy r))) = before s (numAt r p) + c * (s.1 * allBy r)
    rw [← Int.mul_assoc, ih, show c * (s.1 - 1) * allBy r = (c * allBy r) * (s.1 - 1) by rw [Int.mul_assoc, Int.mul_assoc, Int.mul_comm (s.1 - 1)], before_add g.head (numAt_ok g.tail hp).1]
    rw [Int.mul_assoc c, Int.mul_comm (allBy r)]
theorem cnt_add : ∀ {r : Rl} (_ : GoodR r) {n c : Int} (_ : 0 ≤ n) (_ : 0 ≤ c), cnt r (n + c * allBy r) = cnt r n + c * keptBy r
  | [], _, _, _, _, _ => rfl
  | s :: r, g, n, c, hn, hc => by
    have h2 := g.head.two
    have ha := allBy_nn g.tail
    have ih := cnt_add g.tail (c := c * (s.1 - 1)) (left1_nn g.head hn) (Int.mul_nonneg hc (by omega))
    show cnt r (left1 s (n + c * (s.1 * allBy r))) = cnt r (left1 s n) + c * ((s.1 - 1) * keptBy r)
    rw [show c * (s.1 * allBy r) = (c * allBy r) * s.1 by rw [Int.mul_assoc, Int.mul_comm s.1], left1_add g.head hn (Int.mul_nonneg hc (by omega)),
      show (c * allBy r) * (s.1 - 1) = c * (s.1 - 1) * allBy r by rw [Int.mul_assoc, Int.mul_assoc, Int.mul_comm (s.1 - 1)], ih, Int.mul_assoc]
theorem plOf_add : ∀ {r : Rl} (_ : GoodR r) {n c : Int} (_ : 1 ≤ n) (_ : 0 ≤ c), plOf r (n + c * allBy r) = (plOf r n).map (· + c * keptBy r)
  | [], _, _, _, _, _ => rfl
  | s :: r, g, n, c, hn, hc => by
    have h2 := g.head.two
    have ha := allBy_nn g.tail
    unfold plOf
    show (if takesB s (n + c * (s.1 * allBy r)) = true then none else plOf r (left1 s (n + c * (s.1 * allBy r)))) = _
    rw [show c * (s.1 * allBy r) = (c * allBy r) * s.1 by rw [Int.mul_assoc, Int.mul_comm s.1], takes_add g.head hn, left1_add g.head (by omega) (Int.mul_nonneg hc (by omega)),
      show (c * allBy r) * (s.1 - 1) = c * (s.1 - 1) * allBy r by rw [Int.mul_assoc, Int.mul_assoc, Int.mul_comm (s.1 - 1)]]
    by_cases ht : takesB s n = true
    · rw [if_pos ht, if_pos ht]; rfl
    · rw [if_neg ht, if_neg ht, plOf_add g.tail (left_back g.head hn (by simpa using ht)).1 (Int.mul_nonneg hc (by omega))]
      show _ = (plOf r (left1 s n)).map (· + c * ((s.1 - 1) * keptBy r))
      rw [Int.mul_assoc]
theorem numAt_app : ∀ (r q : Rl) (p : Int), numAt (r ++ q) p = numAt r (numAt q p)
  | [], _, _ => rfl
  | s :: r, q, p => by show before s (numAt (r ++ q) p) = before s (numAt r (numAt q p)); rw [numAt_app r q p]
theorem numAt_rev (p : Int) (r : Rl) : numAt r p = r.reverse.foldl (fun a s => before s a) p := by
  rw [List.foldl_reverse]
  induction r with
  | nil => rfl
  | cons s r ih => show before s (numAt r p) = _; rw [ih]; rfl
theorem cnt_fold : ∀ (r : Rl) (n : Int), cnt r n = r.foldl (fun a s => left1 s a) n
  | [], _ => rfl
  | s :: r, n => cnt_fold r (left1 s n)
theorem way_len : ∀ (r : Rl) (n : Int), (way r n).length = (match stBy r n with | none => r.length | some k => k) + 1
  | [], _ => rfl
  | s :: r, n => by
    unfold way stBy
    split
    · rfl
    · rw [List.length_cons, way_len r]
      cases stBy r (left1 s n) <;> rfl
theorem st_lt : ∀ {r : Rl} {n : Int} {k : Nat}, stBy r n = some k → k < r.length
  | [], _, _, h => by cases h
  | s :: r, n, k, h => by
    unfold stBy at h
    split at h
    · cases h; simp
    · cases q : stBy r (left1 s n) with
      | none => rw [q] at h; cases h
      | some j => rw [q] at h; cases h; have := st_lt q; simp; omega
theorem way_ne : ∀ (r : Rl) (n : Int), way r n ≠ []
  | [], _ => by simp [way]
  | s :: r, n => by unfold way; split <;> simp
theorem way_last : ∀ {r : Rl} {n p : Int}, plOf r n = some p → (way r n).getLast? = some p
  | [], _, _, h => by cases h; rfl
  | s :: r, n, p, h => by
    unfold plOf at h
    unfold way
    split at h
    · cases h
    · rename_i ht
      rw [if_neg ht, List.getLast?_cons, way_last h]; rfl
end Mt

namespace Mt
/-! ### ways -/
theorem way_head (r : Rl) (n : Int) : ∃ l, way r n = n :: l := by
  cases r with
  | nil => exact ⟨[], rfl⟩
  | cons s r => unfold way; split <;> exact ⟨_, rfl⟩
theorem way_pos : ∀ {r : Rl} (_ : GoodR r) {n : Int} (_ : 1 ≤ n), ∀ x ∈ way r n, 1 ≤ x
  | [], _, n, hn, x, hx => by simp [way] at hx; omega
  | s :: r, g, n, hn, x, hx => by
    unfold way at hx
    split at hx
    · simp at hx; omega
    · rename_i ht
      rcases List.mem_cons.mp hx with rfl | hx
      · exact hn
      · exact way_pos g.tail (left_back g.head hn (by simpa using ht)).1 x hx
theorem way_le (r : Rl) (n : Int) : (way r n).length ≤ r.length + 1 := by
  rw [way_len]
  cases q : stBy r n with
  | none => exact Nat.le_refl _
  | some k => have := st_lt q; simp only; omega
theorem way_fall : ∀ {r : Rl} (_ : GoodR r) {n : Int} (_ : 1 ≤ n) {i : Nat} {a b : Int}, (way r n)[i]? = some a → (way r n)[i + 1]? = some b → b ≤ a
  | [], _, n, hn, i, a, b, ha, hb => by simp [way] at hb
  | s :: r, g, n, hn, i, a, b, ha, hb => by
    unfold way at ha hb
    split at ha
    · rename_i ht
      rw [if_pos ht] at hb; simp at hb
    · rename_i ht
      rw [if_neg ht] at hb
      have hp := (left_back g.head hn (by simpa using ht)).1
      cases i with
      | zero =>
        obtain ⟨l, e⟩ := way_head r (left1 s n)
        rw [e] at hb
        simp at ha hb
        subst ha; subst hb
        exact left1_le g.head (by omega)
      | succ i => exact way_fall g.tail hp ha hb
theorem way_drop : ∀ {r : Rl} {n : Int} {i : Nat} {a : Int}, (way r n)[i]? = some a → way (r.drop i) a = (way r n).drop i
  | [], n, i, a, h => by
    cases i with
    | zero => simp [way] at h; subst h; rfl
    | succ i => simp [way] at h
  | s :: r, n, 0, a, h => by
    obtain ⟨l, e⟩ := way_head (s :: r) n
    rw [e] at h
    simp at h
    subst h; rfl
  | s :: r, n, i + 1, a, h => by
    have e : way (s :: r) n = if takesB s n = true then [n] else n :: way r (left1 s n) := rfl
    rw [e] at h ⊢
    split at h
    · simp at h
    · rename_i ht
      rw [if_neg ht, List.drop_succ_cons, List.drop_succ_cons]
      exact way_drop h
theorem left1_lt {s : Stk} (g : GoodS s) {m n : Int} (hm : 1 ≤ m) (h : m < n) (h1 : takesB s m = false) (h2 : takesB s n = false) : left1 s m < left1 s n := by
  obtain ⟨a1, a2⟩ := left_back g hm h1
  obtain ⟨b1, b2⟩ := left_back g (show 1 ≤ n by omega) h2
  have := left1_mono g (show 0 ≤ m by omega) (Int.le_of_lt h)
  by_cases c : left1 s m = left1 s n
  · rw [c, b2] at a2; omega
  · omega
theorem way_zip : ∀ {r : Rl} (_ : GoodR r) {m n : Int} (_ : 1 ≤ m) (_ : m < n), ∀ p ∈ (way r m).zip (way r n), p.1 < p.2
  | [], _, m, n, hm, h, p, hp => by simp [way] at hp; rw [hp]; exact h
  | s :: r, g, m, n, hm, h, p, hp => by
    unfold way at hp
    by_cases h1 : takesB s m = true
    · rw [if_pos h1] at hp
      by_cases h2 : takesB s n = true
      · rw [if_pos h2] at hp; simp at hp; rw [hp]; exact h
      · rw [if_neg h2] at hp; simp at hp; rw [hp]; exact h
    · rw [if_neg h1] at hp
      by_cases h2 : takesB s n = true
      · rw [if_pos h2] at hp; simp at hp; rw [hp]; exact h
      · rw [if_neg h2, List.zip_cons_cons] at hp
        rcases List.mem_cons.mp hp with rfl | hp
        · exact h
        · exact way_zip g.tail (left_back g.head hm (by simpa using h1)).1 (left1_lt g.head hm h (by simpa using h1) (by simpa using h2)) p hp
end Mt

namespace Mt
/-! ### rows struck by places -/
def selP {α : Type} (P : Nat → Bool) : Nat → List α → List α
  | _, [] => []
  | i, x :: t => if P i = true then x :: selP P (i + 1) t else selP P (i + 1) t
theorem selP_cons {α : Type} (P : Nat → Bool) (i : Nat) (x : α) (t : List α) : selP P i (x :: t) = if P i = true then x :: selP P (i + 1) t else selP P (i + 1) t := rfl
theorem selP_snoc {α : Type} (P : Nat → Bool) (x : α) : ∀ (i : Nat) (l : List α), selP P i (l ++ [x]) = selP P i l ++ (if P (i + l.length) = true then [x] else [])
  | i, [] => by simp [selP]
  | i, y :: t => by
    simp only [List.cons_append, selP, selP_snoc P x (i + 1) t, List.length_cons]
    rw [show i + 1 + t.length = i + (t.length + 1) by omega]
    by_cases h : P i = true
    · rw [if_pos h, if_pos h]; rfl
    · rw [if_neg h, if_neg h]
theorem selP_sub {α : Type} (P : Nat → Bool) : ∀ (i : Nat) (l : List α), (selP P i l).Sublist l
  | _, [] => List.Sublist.slnil
  | i, x :: t => by
    unfold selP
    split
    · exact (selP_sub P (i + 1) t).cons₂ x
    · exact (selP_sub P (i + 1) t).cons x
/-- no twice the same: those that aren't among the chosen ones -/
theorem selP_not {α : Type} [DecidableEq α] (P : Nat → Bool) : ∀ (i : Nat) (l : List α), l.Nodup → l.filter (fun x => !decide (x ∈ selP P i l)) = selP (fun j => !P j) i l
  | _, [], _ => rfl
  | i, x :: t, h => by
    have hx := (List.nodup_cons.mp h).1
    have ht := (List.nodup_cons.mp h).2
    have ih := selP_not P (i + 1) t ht
    have hn : x ∉ selP P (i + 1) t := fun hm => hx ((selP_sub P (i + 1) t).subset hm)
    have key : ∀ y ∈ t, (!decide (y ∈ selP P i (x :: t))) = (!decide (y ∈ selP P (i + 1) t)) := fun y hy => by
      have hyx : y ≠ x := fun e => hx (e ▸ hy)
      rw [selP_cons]
      split <;> simp [hyx]
    rw [List.filter_cons, List.filter_congr key, ih, selP_cons, selP_cons]
    by_cases hp : P i = true
    · simp [hp]
    · simp [hp, hn]
def keepP {α : Type} (s : Stk) (l : List α) : List α := selP (fun i => !takesB s ((i : Int) + 1)) 0 l
def goneP {α : Type} (s : Stk) (l : List α) : List α := selP (fun i => takesB s ((i : Int) + 1)) 0 l
theorem snoc_rec {α : Type} {C : List α → Prop} (h0 : C []) (h1 : ∀ l x, C l → C (l ++ [x])) (l : List α) : C l := by
  rw [← List.reverse_reverse l]
  induction l.reverse with
  | nil => exact h0
  | cons x t ih => rw [List.reverse_cons]; exact h1 _ _ ih
def getP {α : Type} (l : List α) (p : Int) : Option α := if 1 ≤ p then l[(p - 1).toNat]? else none
theorem getP_snoc {α : Type} (l : List α) (x : α) {p : Int} (hp : 1 ≤ p) : getP (l ++ [x]) p = if p ≤ l.length then getP l p else if p = l.length + 1 then some x else none := by
  unfold getP
  rw [if_pos hp, if_pos hp]
  split
  · rw [List.getElem?_append_left (by omega)]
  · rw [List.getElem?_append_right (by omega)]
    split
    · rename_i h1 h2
      rw [show (p - 1).toNat - l.length = 0 by omega]; rfl
    · rename_i h1 h2
      rw [List.getElem?_eq_none]; simp; omega
theorem getP_none {α : Type} (l : List α) {p : Int} (hp : (l.length : Int) < p) : getP l p = none := by
  unfold getP
  split
  · rw [List.getElem?_eq_none]; omega
  · rfl
theorem keepP_all {α : Type} {s : Stk} (g : GoodS s) (l : List α) : ((keepP s l).length : Int) = left1 s l.length ∧ ∀ p : Int, 1 ≤ p → getP (keepP s l) p = getP l (before s p) := by
  induction l using snoc_rec with
  | h0 =>
    refine ⟨?_, fun p hp => ?_⟩
    · show (0 : Int) = left1 s 0
      rw [left1_0 g]
    · rw [getP_none _ (by simp [keepP, selP]; omega), getP_none]
      have := (before_ok g hp).1
      simp; omega
  | h1 l x ih =>
    obtain ⟨ih1, ih2⟩ := ih
    have st := left1_step g (n := (l.length : Int) + 1) (by omega)
    rw [show (l.length : Int) + 1 - 1 = l.length by omega] at st
    have e : keepP s (l ++ [x]) = keepP s l ++ (if takesB s ((l.length : Int) + 1) = true then [] else [x]) := by
      unfold keepP
      rw [selP_snoc]
      congr 1
      rw [Nat.zero_add]
      cases takesB s ((l.length : Int) + 1) <;> rfl
    rw [e]
    by_cases ht : takesB s ((l.length : Int) + 1) = true
    · rw [if_pos ht] at st ⊢
      rw [List.append_nil]
      refine ⟨by rw [ih1, List.length_append]; simp; omega, fun p hp => ?_⟩
      rw [ih2 p hp]
      obtain ⟨b1, b2, b3⟩ := before_ok g hp
      rw [getP_snoc _ _ b1]
      split
      · rfl
      · split
        · rename_i h1 h2
          rw [h2, ht] at b2; cases b2
        · exact getP_none _ (by omega)
    · rw [if_neg ht] at st ⊢
      refine ⟨by rw [List.length_append, List.length_append]; simp; omega, fun p hp => ?_⟩
      obtain ⟨b1, b2, b3⟩ := before_ok g hp
      obtain ⟨l1, l2⟩ := left_back g (n := (l.length : Int) + 1) (by omega) (by simpa using ht)
      rw [getP_snoc _ _ hp, getP_snoc _ _ b1, ih2 p hp, ih1]
      by_cases h1 : before s p ≤ l.length
      · have := left1_mono g (show 0 ≤ before s p by omega) h1
        rw [if_pos h1, if_pos (by omega)]
      · rw [if_neg h1]
        by_cases h2 : before s p = (l.length : Int) + 1
        · rw [h2] at b3
          rw [if_neg (by omega), if_pos h2, if_pos (by omega)]
        · rw [if_neg h2]
          by_cases h3 : p = left1 s l.length + 1
          · exfalso
            rw [show left1 s ((l.length : Int) + 1) = p by omega] at l2
            exact h2 l2
          · by_cases h4 : p ≤ left1 s l.length
            · rw [if_pos h4]
              exact getP_none _ (by omega)
            · rw [if_neg h4, if_neg h3]
def rowM {α : Type} (r : Rl) (l : List α) : List α := r.foldl (fun a s => keepP s a) l
theorem rowM_cons {α : Type} (s : Stk) (r : Rl) (l : List α) : rowM (s :: r) l = rowM r (keepP s l) := rfl
theorem rowM_all {α : Type} : ∀ {r : Rl} (_ : GoodR r) (l : List α), ((rowM r l).length : Int) = cnt r l.length ∧ ∀ p : Int, 1 ≤ p → getP (rowM r l) p = getP l (numAt r p)
  | [], _, l => ⟨rfl, fun _ _ => rfl⟩
  | s :: r, g, l => by
    obtain ⟨a1, a2⟩ := keepP_all g.head l
    obtain ⟨b1, b2⟩ := rowM_all g.tail (keepP s l)
    refine ⟨by rw [rowM_cons, b1, a1]; rfl, fun p hp => ?_⟩
    rw [rowM_cons, b2 p hp, a2 _ (numAt_ok g.tail hp).1]; rfl
/-- the numbers up to a bound -/
def upT (n : Nat) : List Int := (List.range n).map fun (k : Nat) => (k : Int) + 1
theorem upT_len (n : Nat) : (upT n).length = n := by simp [upT]
theorem upT_get (n : Nat) (p : Int) : getP (upT n) p = if 1 ≤ p ∧ p ≤ n then some p else none := by
  unfold getP upT
  by_cases h : 1 ≤ p
  · rw [if_pos h, List.getElem?_map]
    by_cases h2 : p ≤ n
    · rw [if_pos ⟨h, h2⟩, List.getElem?_range (by omega)]
      show some ((((p - 1).toNat : Nat) : Int) + 1) = some p
      congr 1; omega
    · rw [if_neg (fun q => h2 q.2), List.getElem?_eq_none (by simp; omega)]; rfl
  · rw [if_neg h, if_neg (fun q => h q.1)]
theorem numAt_le {r : Rl} (g : GoodR r) {p n : Int} (hp : 1 ≤ p) (hn : 0 ≤ n) : numAt r p ≤ n ↔ p ≤ cnt r n := by
  obtain ⟨a1, a2, a3, a4⟩ := numAt_ok g hp
  constructor
  · intro h
    have := cnt_mono g (show 0 ≤ numAt r p by omega) h
    omega
  · intro h
    by_cases c : numAt r p ≤ n
    · exact c
    · have m := cnt_mono g hn (show n ≤ numAt r p - 1 by omega)
      have st := cnt_step g a1
      rw [a2] at st
      simp only [Option.isSome_some, if_true] at st
      omega
/-- the row that is left up to a bound: the numbers at the places -/
def lefts (r : Rl) (n : Nat) : List Int := (List.range (cnt r n).toNat).map fun (k : Nat) => numAt r ((k : Int) + 1)
theorem rowM_upT {r : Rl} (g : GoodR r) (n : Nat) : rowM r (upT n) = lefts r n := by
  obtain ⟨h1, h2⟩ := rowM_all g (upT n)
  rw [upT_len] at h1
  apply List.ext_getElem?
  intro i
  have h3 := h2 ((i : Int) + 1) (by omega)
  unfold getP at h3
  rw [if_pos (by omega), show ((i : Int) + 1 - 1).toNat = i by omega] at h3
  rw [h3]
  have h4 := upT_get n (numAt r ((i : Int) + 1))
  unfold getP at h4
  rw [h4]
  have a1 := (numAt_ok g (show 1 ≤ (i : Int) + 1 by omega)).1
  have hc := numAt_le g (p := (i : Int) + 1) (n := n) (by omega) (by omega)
  unfold lefts
  rw [List.getElem?_map]
  by_cases h : (i : Int) + 1 ≤ cnt r n
  · rw [if_pos ⟨a1, hc.mpr h⟩, List.getElem?_range (by omega)]; rfl
  · rw [if_neg (fun q => h (hc.mp q.2)), List.getElem?_eq_none (by simp; omega)]; rfl
theorem lefts_mem {r : Rl} (g : GoodR r) {n : Nat} {x : Int} : x ∈ lefts r n ↔ 1 ≤ x ∧ x ≤ n ∧ (plOf r x).isSome = true := by
  unfold lefts
  rw [List.mem_map]
  constructor
  · rintro ⟨k, hk, rfl⟩
    rw [List.mem_range] at hk
    obtain ⟨a1, a2, _, _⟩ := numAt_ok g (show 1 ≤ (k : Int) + 1 by omega)
    exact ⟨a1, (numAt_le g (by omega) (by omega)).mpr (by omega), by rw [a2]; rfl⟩
  · rintro ⟨h1, h2, h3⟩
    obtain ⟨p, hp⟩ := Option.isSome_iff_exists.mp h3
    obtain ⟨p1, p2, p3⟩ := plOf_back g h1 hp
    have := (numAt_le g p1 (n := n) (by omega)).mp (by omega)
    exact ⟨(p - 1).toNat, List.mem_range.mpr (by omega), by rw [show ((p - 1).toNat : Int) + 1 = p by omega]; exact p2⟩
theorem lefts_get {r : Rl} (g : GoodR r) {n : Nat} {x p : Int} (h1 : 1 ≤ x) (h2 : x ≤ n) (h : plOf r x = some p) : 1 ≤ p ∧ (lefts r n)[(p - 1).toNat]? = some x := by
  obtain ⟨p1, p2, p3⟩ := plOf_back g h1 h
  have := (numAt_le g p1 (n := n) (by omega)).mp (by omega)
  refine ⟨p1, ?_⟩
  unfold lefts
  rw [List.getElem?_map, List.getElem?_range (by omega)]
  show some (numAt r (((p - 1).toNat : Int) + 1)) = some x
  rw [show ((p - 1).toNat : Int) + 1 = p by omega, p2]
theorem lefts_lt {r : Rl} (g : GoodR r) (n : Nat) : (lefts r n).Pairwise (· < ·) := by
  unfold lefts
  rw [List.pairwise_map]
  exact List.pairwise_lt_range.imp fun h => numAt_mono g (by omega) (by omega)
theorem lefts_nodup {r : Rl} (g : GoodR r) (n : Nat) : (lefts r n).Nodup := (lefts_lt g n).imp fun h => by omega
theorem upT_nodup (n : Nat) : (upT n).Nodup := by
  unfold upT
  unfold List.Nodup
  rw [List.pairwise_map]
  exact List.pairwise_lt_range.imp fun h => by omega
theorem keepP_sub {α : Type} (s : Stk) (l : List α) : (keepP s l).Sublist l := selP_sub _ _ _
theorem keepP_not {s : Stk} {l : List Int} (h : l.Nodup) : l.filter (fun x => !decide (x ∈ goneP s l)) = keepP s l := selP_not _ 0 l h
/-- those of a row up to a bound -/
theorem filter_le {α : Type} {P : α → Bool} : ∀ {l : List α} {k : Nat}, (∀ i x, l[i]? = some x → P x = decide (i < k)) → l.filter P = l.take k
  | [], _, _ => by simp
  | x :: t, 0, h => by
    rw [List.take_zero, List.filter_eq_nil_iff]
    intro y hy
    obtain ⟨i, hi⟩ := List.mem_iff_getElem?.mp hy
    have := h i y hi
    simp at this
    simp [this]
  | x :: t, k + 1, h => by
    have h0 := h 0 x rfl
    rw [List.filter_cons, h0, if_pos (by simp), List.take_succ_cons, filter_le (l := t) (k := k) fun i y hi => by
      have := h (i + 1) y hi
      rw [this]; simp]
theorem filter_ge {α : Type} {P : α → Bool} : ∀ {l : List α} {k : Nat}, (∀ i x, l[i]? = some x → P x = decide (k ≤ i)) → l.filter P = l.drop k
  | [], _, _ => by simp
  | x :: t, 0, h => by
    rw [List.drop_zero, List.filter_eq_self]
    intro y hy
    obtain ⟨i, hi⟩ := List.mem_iff_getElem?.mp hy
    rw [h i y hi]; simp
  | x :: t, k + 1, h => by
    have h0 := h 0 x rfl
    rw [List.filter_cons, h0, if_neg (by simp), List.drop_succ_cons, filter_ge (l := t) (k := k) fun i y hi => by
      have := h (i + 1) y hi
      rw [this]; simp]
theorem lefts_at {r : Rl} {n i : Nat} {x : Int} (h : (lefts r n)[i]? = some x) : x = numAt r ((i : Int) + 1) ∧ (i : Int) < cnt r n := by
  unfold lefts at h
  rw [List.getElem?_map] at h
  cases q : (List.range (cnt r n).toNat)[i]? with
  | none => rw [q] at h; cases h
  | some k =>
    rw [q] at h
    obtain ⟨hl, e⟩ := List.getElem?_eq_some_iff.mp q
    rw [List.getElem_range] at e
    subst e
    simp at hl
    cases h
    exact ⟨rfl, by omega⟩
theorem lefts_le {r : Rl} (g : GoodR r) {n : Nat} {b : Int} (hb : 0 ≤ b) : (lefts r n).filter (fun x => decide (x ≤ b)) = (lefts r n).take (cnt r b).toNat :=
  filter_le fun i x h => by
    obtain ⟨rfl, _⟩ := lefts_at h
    have := numAt_le g (p := (i : Int) + 1) (n := b) (by omega) hb
    have hn := cnt_nn g hb
    rw [Bool.eq_iff_iff]
    simp
    omega
theorem lefts_ge {r : Rl} (g : GoodR r) {n : Nat} {b : Int} (hb : 1 ≤ b) : (lefts r n).filter (fun x => decide (b ≤ x)) = (lefts r n).drop (cnt r (b - 1)).toNat :=
  filter_ge fun i x h => by
    obtain ⟨rfl, _⟩ := lefts_at h
    have := numAt_le g (p := (i : Int) + 1) (n := b - 1) (by omega) (by omega)
    have hn := cnt_nn g (n := b - 1) (by omega)
    rw [Bool.eq_iff_iff]
    simp
    omega
theorem lefts_len {r : Rl} (n : Nat) : (lefts r n).length = (cnt r n).toNat := by simp [lefts]
end Mt
namespace Mt
theorem left1_half {s : Stk} (g : GoodS s) {n : Int} (hn : 0 ≤ n) : n + 1 ≤ 2 * (left1 s n + 1) := by
  by_cases h : n = 0
  · subst h; rw [left1_0 g]; omega
  · obtain ⟨q, t, hq, h1, h2, rfl⟩ := rep (b := s.1) (by have := g.two; omega) n (by omega)
    have g2 := g.two
    have hm := Int.mul_le_mul_of_nonneg_left g2 hq
    rw [left1_rep g hq h1 h2, Int.mul_sub]
    split <;> omega
theorem cnt_half : ∀ {r : Rl} (_ : GoodR r) {n : Int} (_ : 0 ≤ n), n + 1 ≤ (cnt r n + 1) * 2 ^ r.length
  | [], _, n, hn => by simp [cnt]
  | s :: r, g, n, hn => by
    have h1 := left1_half g.head hn
    have h2 := cnt_half g.tail (left1_nn g.head hn)
    show n + 1 ≤ (cnt r (left1 s n) + 1) * 2 ^ (r.length + 1)
    rw [Int.pow_succ, ← Int.mul_assoc]; omega
end Mt

namespace Lw
open PySem PySem.Spec L2 Tv Mt
abbrev sD (s : Stk) : D := .tuple [.int s.1, .int s.2]
abbrev rD (r : Rl) : D := .tuple (r.map sD)
def oD : Option Int → D
  | none => .none
  | some i => .int i
@[simp] theorem sh_int (i : Int) : SeqAt.shaped (.int i) = true := rfl
@[simp] theorem sh_bool (i : Bool) : SeqAt.shaped (.bool i) = true := rfl
@[simp] theorem sh_none : SeqAt.shaped .none = true := rfl
@[simp] theorem eqv_int (i j : Int) : PyData.eqv (.int i) (.int j) = (i == j) := rfl
@[simp] theorem eqv_bool (i j : Bool) : PyData.eqv (.bool i) (.bool j) = (i == j) := rfl
@[simp] theorem big_val : big = 16777216 := (show big = 16777216 from rfl).trans (Eq.refl _)
/-- a loop over the items of a list that a map has made, its state told by the items gone through -/
theorem loop_fold {α β : Type} {b : D → Store → Option Store} {g : Fs} (enc : α → D) (S : β → Store → Prop) (step : β → α → β) (ok : α → Prop)
    (h : ∀ a, ok a → ∀ x ρ, S x ρ → ∃ ρ1 ρ2, b (enc a) ρ = some ρ1 ∧ g ρ1 = .nx ρ2 ∧ S (step x a) ρ2) :
    ∀ (l : List α) (x : β) (ρ : Store), (∀ a ∈ l, ok a) → S x ρ → ∃ ρ', loopL b g (l.map enc) ρ = .nx ρ' ∧ S (l.foldl step x) ρ'
  | [], x, ρ, _, hs => ⟨ρ, rfl, hs⟩
  | a :: l, x, ρ, hl, hs => by
    obtain ⟨ρ1, ρ2, h1, h2, h3⟩ := h a (hl a List.mem_cons_self) x ρ hs
    obtain ⟨ρ', h4, h5⟩ := loop_fold enc S step ok h l (step x a) ρ2 (fun a ha => hl a (List.mem_cons_of_mem _ ha)) h3
    refine ⟨ρ', ?_, h5⟩
    rw [List.map_cons]
    unfold loopL
    rw [h1]
    simp only [h2]
    exact h4
abbrev iL (l : List Int) : List D := l.map .int
theorem noLs_iL : ∀ l : List Int, noLs (iL l) = true
  | [] => rfl
  | i :: l => by simp [noLs_iL l]
@[simp] theorem last_iL (l : List Int) (n : Int) : atI (iL (l ++ [n])) (-1) = some (.int n) := by
  rw [iL, List.map_append]
  exact atI_last _ _
theorem iL_len (l : List Int) : (iL l).length = l.length := by simp
theorem loop_ix {α β : Type} {b : D → Store → Option Store} {g : Fs} (enc : α → D) (S : Nat → β → Store → Prop) (step : β → α → β) (ok : α → Prop) (n : Nat)
    (h : ∀ a, ok a → ∀ i x ρ, i < n → S i x ρ → ∃ ρ1 ρ2, b (enc a) ρ = some ρ1 ∧ g ρ1 = .nx ρ2 ∧ S (i + 1) (step x a) ρ2) :
    ∀ (l : List α) (i : Nat) (x : β) (ρ : Store), i + l.length ≤ n → (∀ a ∈ l, ok a) → S i x ρ → ∃ ρ', loopL b g (l.map enc) ρ = .nx ρ' ∧ S (i + l.length) (l.foldl step x) ρ'
  | [], i, x, ρ, _, _, hs => ⟨ρ, rfl, hs⟩
  | a :: l, i, x, ρ, hn, hl, hs => by
    simp only [List.length_cons] at hn
    obtain ⟨ρ1, ρ2, h1, h2, h3⟩ := h a (hl a List.mem_cons_self) i x ρ (by omega) hs
    obtain ⟨ρ', h4, h5⟩ := loop_ix enc S step ok n h l (i + 1) (step x a) ρ2 (by omega) (fun a ha => hl a (List.mem_cons_of_mem _ ha)) h3
    refine ⟨ρ', ?_, by rw [List.length_cons, show i + (l.length + 1) = i + 1 + l.length by omega]; exact h5⟩
    rw [List.map_cons]
    unfold loopL
    rw [h1]
    simp only [h2]
    exact h4
theorem loop_all {α : Type} {b : D → Store → Option Store} {g : Fs} (enc : α → D) (S : Store → Prop) (ok : α → Prop)
    (h : ∀ a, ok a → ∀ ρ, S ρ → ∃ ρ1 ρ2, b (enc a) ρ = some ρ1 ∧ g ρ1 = .nx ρ2 ∧ S ρ2) (l : List α) (ρ : Store) (hl : ∀ a ∈ l, ok a) (hs : S ρ) : ∃ ρ', loopL b g (l.map enc) ρ = .nx ρ' ∧ S ρ' := by
  obtain ⟨ρ', h1, h2⟩ := loop_fold enc (fun (_ : Unit) ρ => S ρ) (fun x _ => x) ok (fun a ha x ρ hs => h a ha ρ hs) l () ρ hl hs
  exact ⟨ρ', h1, h2⟩
theorem foldl_app {α β : Type} (f : α → β) : ∀ (l : List α) (acc : List β), l.foldl (fun a k => a ++ [f k]) acc = acc ++ l.map f
  | [], acc => by simp
  | a :: l, acc => by simp [foldl_app f l]
theorem rng_map (lo hi : Int) : rng lo hi = (List.range (hi - lo).toNat).map fun (k : Nat) => PyData.int (lo + (k : Int)) := rfl
def cellM (ns : List Int) (k : Int) : Int := ns.getD k.toNat 0
def mixM (c p m : Int) : Int := (((c * 48271).fmod p * ((c * 48271).fmod p + 7)).fmod p).fmod m
theorem fmod_lt {a b : Int} (hb : 0 < b) : 0 ≤ a.fmod b ∧ a.fmod b < b := by
  rw [Int.fmod_eq_emod_of_nonneg _ (Int.le_of_lt hb)]
  exact ⟨Int.emod_nonneg _ (by omega), Int.emod_lt_of_pos _ hb⟩
theorem mixM_lt {c p m : Int} (hm : 0 < m) : 0 ≤ mixM c p m ∧ mixM c p m < m := fmod_lt hm
def ruleM (c m : Int) : Rl := (List.range (mixM c 9973 (m + 1)).toNat).map fun (k : Nat) => (2 + mixM (c + 17 * k) 9967 5, 1 + mixM (c + 17 * k) 9949 (2 + mixM (c + 17 * k) 9967 5))
theorem ruleM_good (c m : Int) : GoodR (ruleM c m) := fun s hs => by
  obtain ⟨k, _, rfl⟩ := List.mem_map.mp hs
  have h1 := @mixM_lt (c + 17 * k) 9967 5 (by omega)
  have h2 := @mixM_lt (c + 17 * k) 9949 (2 + mixM (c + 17 * k) 9967 5) (by omega)
  exact ⟨by dsimp only; omega, by dsimp only; omega, by dsimp only; omega, by dsimp only; omega⟩
theorem ruleM_six (c m : Int) : ∀ s ∈ ruleM c m, s.1 ≤ 6 := fun s hs => by
  obtain ⟨k, _, rfl⟩ := List.mem_map.mp hs
  have h1 := @mixM_lt (c + 17 * k) 9967 5 (by omega)
  dsimp only; omega
theorem ruleM_len (c : Int) {m : Int} (hm : 0 ≤ m) : (ruleM c m).length ≤ m.toNat := by
  have := @mixM_lt c 9973 (m + 1) (by omega)
  simp [ruleM]; omega
theorem noLs_rD : ∀ l : Rl, noLs (l.map sD) = true
  | [] => rfl
  | s :: l => by simp [noLs_rD l]
@[simp] theorem oD_some (i : Int) : oD (some i) = .int i := rfl
@[simp] theorem oD_none : oD none = .none := rfl
theorem all_fold : ∀ (r : Rl) (a b : Int), r.foldl (fun (x : Int × Int) s => (x.1 * s.1, x.2 * (s.1 - 1))) (a, b) = (a * allBy r, b * keptBy r)
  | [], a, b => by simp [allBy, keptBy]
  | s :: r, a, b => by
    rw [List.foldl_cons, all_fold r]
    simp [allBy, keptBy, Int.mul_assoc]
theorem eqv_refl_iL {α : Type} (f : α → D) (h : ∀ a, PyData.eqv (f a) (f a) = true) : ∀ l : List α, PyData.eqvAll (l.map f) (l.map f) = true
  | [] => rfl
  | a :: l => by
    show (PyData.eqv (f a) (f a) && PyData.eqvAll (l.map f) (l.map f)) = true
    rw [h a, eqv_refl_iL f h l]; rfl
theorem eqvAll_nil (r : Rl) : PyData.eqvAll (r.map sD) [] = r.isEmpty := by cases r <;> rfl
@[simp] theorem eqv_tup (a b : List D) : PyData.eqv (.tuple a) (.tuple b) = PyData.eqvAll a b := rfl
theorem depth_rD : ∀ r : Rl, PyData.depthAll (r.map sD) ≤ 2
  | [] => by show 0 ≤ 2; omega
  | s :: r => by
    show max (PyData.depth (sD s)) (PyData.depthAll (r.map sD)) ≤ 2
    have := depth_rD r
    have h : PyData.depth (sD s) = 1 := rfl
    omega
theorem lay_rD : ∀ r : Rl, PyData.canLayAll0 (r.map sD) = true
  | [] => rfl
  | s :: r => by
    show (PyData.canLay0 (sD s) && PyData.canLayAll0 (r.map sD)) = true
    rw [lay_rD r]; rfl
@[simp] theorem sh_rD (r : Rl) : SeqAt.shaped (.tuple (r.map sD)) = true := by
  unfold SeqAt.shaped
  have h1 : PyData.canLay0 (.tuple (r.map sD)) = true := lay_rD r
  have h2 : PyData.depth (.tuple (r.map sD)) ≤ 64 := by
    show PyData.depthAll (r.map sD) + 1 ≤ 64
    have := depth_rD r; omega
  rw [h1, decide_eq_true h2]; rfl
@[simp] theorem sh_tnil : SeqAt.shaped (.tuple []) = true := rfl
theorem cut_take {α : Type} (l : List α) (k : Nat) : cutL l none (some (k : Int)) = l.take k := by
  unfold cutL
  rw [HT.sIx_none, HT.sIx_nat, List.drop_zero, Nat.sub_zero]
  by_cases h : k ≤ l.length
  · rw [Nat.min_eq_left h]
  · rw [Nat.min_eq_right (by omega), List.take_of_length_le (by simp), List.take_of_length_le (by omega)]
theorem cut_drop {α : Type} (l : List α) (k : Nat) : cutL l (some (k : Int)) none = l.drop k := by
  unfold cutL
  rw [HT.sIx_none, HT.sIx_nat]
  by_cases h : k ≤ l.length
  · rw [Nat.min_eq_left h, List.take_of_length_le (by simp)]
  · rw [Nat.min_eq_right (by omega), Nat.sub_self, List.take_zero, List.drop_of_length_le (by omega)]
theorem seq_nx {g1 g2 : Fs} {ρ ρ' : Store} {o : Out} (h1 : g1 ρ = .nx ρ') (h2 : g2 ρ' = o) : seqS g1 g2 ρ = o := by
  unfold seqS; rw [h1]; exact h2
end Lw

namespace Lw
open PySem PySem.Spec L2 Tv Mt
@[simp] theorem len1_ne (n : Nat) : ((n : Int) + 1 == 0) = false := by rw [beq_eq_false_iff_ne]; omega
@[simp] theorem atI_c0 {α : Type} (a : α) (l : List α) : atI (a :: l) 0 = some a := atI_nat (j := 0) rfl
@[simp] theorem atI_c1 {α : Type} (a b : α) (l : List α) : atI (a :: b :: l) 1 = some b := atI_nat (j := 1) rfl
@[simp] theorem rng_len (a b : Int) : (rng a b).length = (b - a).toNat := by simp [rng]
@[simp] theorem eqv_none_none   : PyData.eqv (.none) (.none) = true := by simp [PyData.eqv]
@[simp] theorem eqv_none_bool  (y : Bool) : PyData.eqv (.none) (.bool y) = false := by simp [PyData.eqv]
@[simp] theorem eqv_none_int  (y : Int) : PyData.eqv (.none) (.int y) = false := by simp [PyData.eqv]
@[simp] theorem eqv_none_str  (y : Str) : PyData.eqv (.none) (.str y) = false := by simp [PyData.eqv]
@[simp] theorem eqv_none_list  (y : List D) : PyData.eqv (.none) (.list y) = false := by simp [PyData.eqv]
@[simp] theorem eqv_none_tuple  (y : List D) : PyData.eqv (.none) (.tuple y) = false := by simp [PyData.eqv]
@[simp] theorem eqv_bool_none (x : Bool)  : PyData.eqv (.bool x) (.none) = false := by simp [PyData.eqv]
@[simp] theorem eqv_bool_str (x : Bool) (y : Str) : PyData.eqv (.bool x) (.str y) = false := by simp [PyData.eqv]
@[simp] theorem eqv_bool_list (x : Bool) (y : List D) : PyData.eqv (.bool x) (.list y) = false := by simp [PyData.eqv]
@[simp] theorem eqv_bool_tuple (x : Bool) (y : List D) : PyData.eqv (.bool x) (.tuple y) = false := by simp [PyData.eqv]
@[simp] theorem eqv_int_none (x : Int)  : PyData.eqv (.int x) (.none) = false := by simp [PyData.eqv]
@[simp] theorem eqv_int_str (x : Int) (y : Str) : PyData.eqv (.int x) (.str y) = false := by simp [PyData.eqv]
@[simp] theorem eqv_int_list (x : Int) (y : List D) : PyData.eqv (.int x) (.list y) = false := by simp [PyData.eqv]
@[simp] theorem eqv_int_tuple (x : Int) (y : List D) : PyData.eqv (.int x) (.tuple y) = false := by simp [PyData.eqv]
@[simp] theorem eqv_str_none (x : Str)  : PyData.eqv (.str x) (.none) = false := by simp [PyData.eqv]
@[simp] theorem eqv_str_bool (x : Str) (y : Bool) : PyData.eqv (.str x) (.bool y) = false := by simp [PyData.eqv]
@[simp] theorem eqv_str_int (x : Str) (y : Int) : PyData.eqv (.str x) (.int y) = false := by simp [PyData.eqv]
@[simp] theorem eqv_str_list (x : Str) (y : List D) : PyData.eqv (.str x) (.list y) = false := by simp [PyData.eqv]
@[simp] theorem eqv_str_tuple (x : Str) (y : List D) : PyData.eqv (.str x) (.tuple y) = false := by simp [PyData.eqv]
@[simp] theorem eqv_list_none (x : List D)  : PyData.eqv (.list x) (.none) = false := by simp [PyData.eqv]
@[simp] theorem eqv_list_bool (x : List D) (y : Bool) : PyData.eqv (.list x) (.bool y) = false := by simp [PyData.eqv]
@[simp] theorem eqv_list_int (x : List D) (y : Int) : PyData.eqv (.list x) (.int y) = false := by simp [PyData.eqv]
@[simp] theorem eqv_list_str (x : List D) (y : Str) : PyData.eqv (.list x) (.str y) = false := by simp [PyData.eqv]
@[simp] theorem eqv_list_tuple (x : List D) (y : List D) : PyData.eqv (.list x) (.tuple y) = false := by simp [PyData.eqv]
@[simp] theorem eqv_tuple_none (x : List D)  : PyData.eqv (.tuple x) (.none) = false := by simp [PyData.eqv]
@[simp] theorem eqv_tuple_bool (x : List D) (y : Bool) : PyData.eqv (.tuple x) (.bool y) = false := by simp [PyData.eqv]
@[simp] theorem eqv_tuple_int (x : List D) (y : Int) : PyData.eqv (.tuple x) (.int y) = false := by simp [PyData.eqv]
@[simp] theorem eqv_tuple_str (x : List D) (y : Str) : PyData.eqv (.tuple x) (.str y) = false := by simp [PyData.eqv]
@[simp] theorem eqv_tuple_list (x : List D) (y : List D) : PyData.eqv (.tuple x) (.list y) = false := by simp [PyData.eqv]
@[simp] theorem eqv_str_str (x y : Str) : PyData.eqv (.str x) (.str y) = (x == y) := by simp [PyData.eqv]
@[simp] theorem eqv_bool_int (x : Bool) (y : Int) : PyData.eqv (.bool x) (.int y) = ((if x then 1 else 0) == y) := by simp [PyData.eqv]
@[simp] theorem eqv_int_bool (y : Int) (x : Bool) : PyData.eqv (.int y) (.bool x) = (y == (if x then 1 else 0)) := by simp [PyData.eqv]
@[simp] theorem eqvA_nn : PyData.eqvAll [] [] = true := rfl
@[simp] theorem eqvA_nc (a : D) (l : List D) : PyData.eqvAll [] (a :: l) = false := rfl
@[simp] theorem eqvA_cn (a : D) (l : List D) : PyData.eqvAll (a :: l) [] = false := rfl
@[simp] theorem eqvA_cc (a b : D) (l m : List D) : PyData.eqvAll (a :: l) (b :: m) = (PyData.eqv a b && PyData.eqvAll l m) := rfl
theorem cut_init {α : Type} (l : List α) : cutL l none (some (-1)) = l.dropLast := by
  unfold cutL
  rw [HT.sIx_none, List.drop_zero, Nat.sub_zero, List.dropLast_eq_take]
  congr 1
  unfold HT.sIx
  simp; omega
theorem cut_seg {α : Type} (l : List α) (i j : Nat) : cutL l (some (i : Int)) (some (j : Int)) = (l.drop i).take (j - i) := by
  unfold cutL
  rw [HT.sIx_nat, HT.sIx_nat]
  by_cases h : i ≤ l.length
  · rw [Nat.min_eq_left h]
    by_cases h2 : j ≤ l.length
    · rw [Nat.min_eq_left h2]
    · rw [Nat.min_eq_right (show l.length ≤ j by omega), List.take_of_length_le (by simp), List.take_of_length_le (by rw [List.length_drop]; omega)]
  · rw [Nat.min_eq_right (show l.length ≤ i by omega), List.drop_of_length_le (Nat.le_refl _), List.drop_of_length_le (show l.length ≤ i by omega)]; simp
theorem comp_fm {α : Type} {b : D → Store → Option Store} {ft : Store → Option Bool} {fe : Fn} (enc : α → D) (p : α → Bool) (f : α → D) (ρ : Store) :
    ∀ (l : List α), (∀ a ∈ l, ∃ ρ1, b (enc a) ρ = some ρ1 ∧ ft ρ1 = some (p a) ∧ (p a = true → fe ρ1 = some (f a))) → compL b ft fe ρ (l.map enc) = some ((l.filter p).map f)
  | [], _ => rfl
  | a :: l, h => by
    obtain ⟨ρ1, h1, h2, h3⟩ := h a List.mem_cons_self
    have ih := comp_fm enc p f ρ l fun x hx => h x (List.mem_cons_of_mem _ hx)
    rw [List.map_cons]
    unfold compL
    rw [h1]
    simp only [Option.bind_some, h2]
    cases hp : p a with
    | false => simp [hp, ih]
    | true => simp [hp, ih, h3 hp]
theorem comp_map {α : Type} {b : D → Store → Option Store} {fe : Fn} (enc : α → D) (f : α → D) (ρ : Store) (l : List α) (h : ∀ a ∈ l, ∃ ρ1, b (enc a) ρ = some ρ1 ∧ fe ρ1 = some (f a)) :
    compL b yesT fe ρ (l.map enc) = some (l.map f) := by
  rw [comp_fm enc (fun _ => true) f ρ l fun a ha => by
    obtain ⟨ρ1, h1, h2⟩ := h a ha
    exact ⟨ρ1, h1, rfl, fun _ => h2⟩]
  rw [List.filter_eq_self.mpr (fun _ _ => rfl)]
@[simp] theorem boolsOf_mk {α : Type} (p : α → Bool) : ∀ l : List α, boolsOf (l.map fun a => PyData.bool (p a)) = some (l.map p)
  | [] => rfl
  | a :: l => by
    show (boolsOf (l.map fun a => PyData.bool (p a))).map (p a :: ·) = _
    rw [boolsOf_mk p l]; rfl
@[simp] theorem eqvA_iL : ∀ a b : List Int, PyData.eqvAll (a.map .int) (b.map .int) = decide (a = b)
  | [], [] => rfl
  | [], _ :: _ => by simp [PyData.eqvAll]
  | _ :: _, [] => by simp [PyData.eqvAll]
  | x :: a, y :: b => by
    show (PyData.eqv (.int x) (.int y) && PyData.eqvAll (a.map .int) (b.map .int)) = _
    rw [eqvA_iL a b, eqv_int, Bool.eq_iff_iff]
    simp
theorem canLay_iL : ∀ l : List Int, PyData.canLayAll0 (l.map .int) = true
  | [] => rfl
  | i :: l => by
    show (PyData.canLay0 (.int i) && PyData.canLayAll0 (l.map .int)) = true
    rw [canLay_iL l]; rfl
theorem depth_iL : ∀ l : List Int, PyData.depthAll (l.map .int) = 0
  | [] => rfl
  | i :: l => by
    show max (PyData.depth (.int i)) (PyData.depthAll (l.map .int)) = 0
    rw [depth_iL l]; rfl
@[simp] theorem sh_iT (l : List Int) : SeqAt.shaped (.tuple (l.map .int)) = true := by
  unfold SeqAt.shaped
  rw [show PyData.canLay0 (.tuple (l.map .int)) = true from canLay_iL l, show PyData.depth (.tuple (l.map .int)) = PyData.depthAll (l.map .int) + 1 from rfl, depth_iL]; rfl
@[simp] theorem sh_iLs (l : List Int) : SeqAt.shaped (.list (l.map .int)) = true := by
  unfold SeqAt.shaped
  rw [show PyData.canLay0 (.list (l.map .int)) = true from canLay_iL l, show PyData.depth (.list (l.map .int)) = PyData.depthAll (l.map .int) + 1 from rfl, depth_iL]; rfl
@[simp] theorem sh_lnil : SeqAt.shaped (.list []) = true := rfl
@[simp] theorem eqv_lst (a b : List D) : PyData.eqv (.list a) (.list b) = PyData.eqvAll a b := rfl
theorem zip_iL : ∀ a b : List Int, zipL (a.map .int) (b.map .int) = (a.zip b).map fun p => PyData.tuple [.int p.1, .int p.2]
  | [], _ => by simp [zipL]
  | _ :: _, [] => by simp [zipL]
  | x :: a, y :: b => by
    have ih := zip_iL a b
    unfold zipL at ih ⊢
    rw [List.map_cons, List.map_cons, List.zipWith_cons_cons, ih]; rfl
theorem loop_mem {α : Type} {b : D → Store → Option Store} {g : Fs} (enc : α → D) (S : Store → Prop) (l : List α) 
    (h : ∀ a ∈ l, ∀ ρ, S ρ → ∃ ρ1 ρ2, b (enc a) ρ = some ρ1 ∧ g ρ1 = .nx ρ2 ∧ S ρ2) (ρ : Store) (hs : S ρ) : ∃ ρ', loopL b g (l.map enc) ρ = .nx ρ' ∧ S ρ' :=
  loop_all enc S (· ∈ l) h l ρ (fun _ h => h) hs
theorem atI_iL {l : List Int} {i : Nat} {x : Int} (h : l[i]? = some x) : atI (l.map PyData.int) (i : Int) = some (.int x) := atI_nat (by rw [List.getElem?_map, h]; rfl)
def posD : D → Bool
  | .int i => decide (0 < i)
  | _ => false
end Lw

namespace Lw
open PySem PySem.Spec L2 Tv Mt
/-! ### xs[at - 1::by] -/
def cntS (s : Stk) (n : Nat) : Nat := if s.2 - 1 < n then (((n : Int) - (s.2 - 1) + s.1 - 1) / s.1).toNat else 0
theorem ediv_rep {b q t : Int} (hb : 0 < b) (h0 : 0 ≤ t) (h1 : t < b) : (q * b + t) / b = q := by
  rw [Int.add_comm, Int.add_mul_ediv_right _ _ (by omega), Int.ediv_eq_zero_of_lt h0 h1, Int.zero_add]
theorem cntS_zero {s : Stk} (g : GoodS s) : cntS s 0 = 0 := by
  unfold cntS
  rw [if_neg]
  have := g.one; omega
theorem cntS_step {s : Stk} (g : GoodS s) (n : Nat) : (takesB s ((n : Int) + 1) = true → cntS s (n + 1) = cntS s n + 1 ∧ s.2 - 1 + s.1 * (cntS s n : Int) = n) ∧ (takesB s ((n : Int) + 1) = false → cntS s (n + 1) = cntS s n) ∧ ∀ k < cntS s n, s.2 - 1 + s.1 * (k : Int) < n := by
  obtain ⟨g1, g2, g3, g4⟩ := g
  obtain ⟨q, t, hq, h1, h2, e⟩ := rep (b := s.1) (by omega) ((n : Int) + 1) (by omega)
  have hqb := mul_nn hq (show 0 ≤ s.1 by omega)
  have tk := takes_rep (q := q) ⟨g1, g2, g3, g4⟩ h1 h2
  rw [← e] at tk
  -- the count so far
  have hc : (cntS s n : Int) = if t ≤ s.2 then q else q + 1 := by
    unfold cntS
    by_cases c : t ≤ s.2
    · rw [if_pos c]
      by_cases c2 : s.2 - 1 < n
      · rw [if_pos c2]
        have : (n : Int) - (s.2 - 1) + s.1 - 1 = q * s.1 + (t - s.2 + s.1 - 1) := by omega
        rw [this, ediv_rep (by omega) (by omega) (by omega)]; omega
      · rw [if_neg c2]
        by_cases q0 : q = 0
        · omega
        · have : s.1 ≤ q * s.1 := by
            have := Int.mul_le_mul_of_nonneg_right (show 1 ≤ q by omega) (show 0 ≤ s.1 by omega)
            omega
          exfalso; omega
    · rw [if_neg c, if_pos (by omega)]
      have : (n : Int) - (s.2 - 1) + s.1 - 1 = (q + 1) * s.1 + (t - s.2 - 1) := by rw [Int.add_mul]; omega
      rw [this, ediv_rep (by omega) (by omega) (by omega)]; omega
  have hc1 : (cntS s (n + 1) : Int) = if t < s.2 then q else q + 1 := by
    unfold cntS
    by_cases c : t < s.2
    · rw [if_pos c]
      by_cases c2 : s.2 - 1 < ((n + 1 : Nat) : Int)
      · rw [if_pos c2]
        have : ((n + 1 : Nat) : Int) - (s.2 - 1) + s.1 - 1 = q * s.1 + (t - s.2 + s.1) := by omega
        rw [this, ediv_rep (by omega) (by omega) (by omega)]; omega
      · rw [if_neg c2]
        by_cases q0 : q = 0
        · omega
        · have : s.1 ≤ q * s.1 := by
            have := Int.mul_le_mul_of_nonneg_right (show 1 ≤ q by omega) (show 0 ≤ s.1 by omega)
            omega
          exfalso; omega
    · rw [if_neg c, if_pos (by omega)]
      have : ((n + 1 : Nat) : Int) - (s.2 - 1) + s.1 - 1 = (q + 1) * s.1 + (t - s.2) := by rw [Int.add_mul]; omega
      rw [this, ediv_rep (by omega) (by omega) (by omega)]; omega
  refine ⟨fun h => ?_, fun h => ?_, fun k hk => ?_⟩
  · rw [tk, decide_eq_true_eq] at h
    rw [if_pos (by omega)] at hc
    rw [if_neg (by omega)] at hc1
    refine ⟨by omega, ?_⟩
    rw [hc, Int.mul_comm]; omega
  · rw [tk, decide_eq_false_iff_not] at h
    split at hc <;> split at hc1 <;> omega
  · have hk2 : (k : Int) + 1 ≤ cntS s n := by omega
    have hm := Int.mul_le_mul_of_nonneg_left hk2 (show 0 ≤ s.1 by omega)
    rw [Int.mul_add, Int.mul_one] at hm
    split at hc
    · rw [hc, Int.mul_comm s.1 q] at hm; omega
    · rw [hc, Int.mul_comm s.1 (q + 1), Int.add_mul] at hm; omega
theorem step_cnt {α : Type} {s : Stk} (g : GoodS s) (l : List α) : stepL l (s.2 - 1) s.1 = ((List.range (cntS s l.length)).map fun (k : Nat) => (s.2 - 1 + s.1 * (k : Int)).toNat).filterMap (l[·]?) := by
  obtain ⟨g1, g2, g3, g4⟩ := g
  unfold stepL sliceBounds sliceRange
  simp only [Option.getD_some]
  have h1 : ¬ s.2 - 1 < 0 := by omega
  have h2 : s.1 > 0 := by omega
  simp only [if_neg h1, if_pos h2]
  unfold cntS
  by_cases c : s.2 - 1 < (l.length : Int)
  · rw [show max 0 (min (s.2 - 1) (l.length : Int)) = s.2 - 1 by omega, if_pos c, if_pos c]
  · rw [show max 0 (min (s.2 - 1) (l.length : Int)) = (l.length : Int) by omega, if_neg c, if_neg (by omega)]
    simp
theorem step_gone {α : Type} {s : Stk} (g : GoodS s) (l : List α) : stepL l (s.2 - 1) s.1 = goneP s l := by
  induction l using snoc_rec with
  | h0 =>
    rw [step_cnt g, List.length_nil, cntS_zero g]; rfl
  | h1 l x ih =>
    obtain ⟨c1, c2, c3⟩ := cntS_step g l.length
    have g1 := g.one
    have g2 := g.two
    have e : goneP s (l ++ [x]) = goneP s l ++ (if takesB s ((l.length : Int) + 1) = true then [x] else []) := by
      unfold goneP
      rw [selP_snoc]
      congr 1
      rw [Nat.zero_add]
    have key : ((List.range (cntS s l.length)).map fun (k : Nat) => (s.2 - 1 + s.1 * (k : Int)).toNat).filterMap ((l ++ [x])[·]?) = ((List.range (cntS s l.length)).map fun (k : Nat) => (s.2 - 1 + s.1 * (k : Int)).toNat).filterMap (l[·]?) := by
      apply filterMap_congr'
      intro i hi
      obtain ⟨k, hk, rfl⟩ := List.mem_map.mp hi
      have := c3 k (List.mem_range.mp hk)
      have hn := mul_nn (show 0 ≤ s.1 by omega) (show (0 : Int) ≤ k by omega)
      exact List.getElem?_append_left (by omega)
    rw [e, ← ih, step_cnt g, step_cnt g, List.length_append, List.length_singleton]
    cases ht : takesB s ((l.length : Int) + 1) with
    | false => rw [c2 ht, key]; simp
    | true =>
      obtain ⟨d1, d2⟩ := c1 ht
      rw [d1, List.range_succ, List.map_append, List.filterMap_append, key]
      congr 1
      simp only [List.map_cons, List.map_nil]
      rw [d2, Int.toNat_natCast, List.filterMap_cons_some (by simp : (l ++ [x])[l.length]? = some x)]; rfl
where
  filterMap_congr' {α : Type} {f g : Nat → Option α} : ∀ {l : List Nat}, (∀ i ∈ l, f i = g i) → l.filterMap f = l.filterMap g := by
    intro l
    induction l with
    | nil => intro _; rfl
    | cons a l ih =>
      intro h
      rw [List.filterMap_cons, List.filterMap_cons, h a List.mem_cons_self, ih fun i hi => h i (List.mem_cons_of_mem _ hi)]
theorem selP_map {α β : Type} (f : α → β) (P : Nat → Bool) : ∀ (i : Nat) (l : List α), selP P i (l.map f) = (selP P i l).map f
  | _, [] => rfl
  | i, x :: t => by
    rw [List.map_cons, selP_cons, selP_cons, selP_map f P (i + 1) t]
    split <;> rfl
theorem gone_map {α β : Type} (f : α → β) (s : Stk) (l : List α) : goneP s (l.map f) = (goneP s l).map f := selP_map f _ _ l
theorem keep_map {α β : Type} (f : α → β) (s : Stk) (l : List α) : keepP s (l.map f) = (keepP s l).map f := selP_map f _ _ l
theorem any_iL (x : Int) : ∀ l : List Int, ((l.map PyData.int).any fun z => PyData.eqv z (.int x)) = decide (x ∈ l)
  | [] => rfl
  | y :: l => by
    rw [List.map_cons, List.any_cons, any_iL x l, eqv_int]
    by_cases h : y = x
    · subst h; simp
    · have h2 : (y == x) = false := beq_eq_false_iff_ne.mpr h
      have h3 : ¬ x = y := fun e => h e.symm
      rw [h2, Bool.false_or]
      simp only [List.mem_cons, h3, false_or]
@[simp] theorem inD_iL (x : Int) (l : List Int) : inD (.int x) (.list (l.map .int)) = some (decide (x ∈ l)) := by
  show (if (SeqAt.shaped (.int x) && SeqAt.shaped (.list (l.map .int))) = true then some ((l.map PyData.int).any fun z => PyData.eqv z (.int x)) else none) = _
  rw [sh_int, sh_iLs, any_iL]; rfl
theorem idx_iL : ∀ {l : List Int} {x : Int} {i : Nat}, l.Nodup → l[i]? = some x → idxL (l.map PyData.int) (.int x) = some i
  | [], _, _, _, h => by simp at h
  | y :: l, x, 0, hn, h => by
    simp at h
    subst h
    simp [idxL, List.findIdx?_cons]
  | y :: l, x, i + 1, hn, h => by
    have hy := (List.nodup_cons.mp hn).1
    have ih := idx_iL (List.nodup_cons.mp hn).2 (i := i) h
    have hne : ¬ y = x := fun e => hy (e ▸ List.mem_of_getElem? h)
    unfold idxL at ih ⊢
    rw [List.map_cons, List.findIdx?_cons, eqv_int, ih]
    simp [hne]
/-! ### rows of what each strike takes -/
def goneRows : Rl → List Int → List (List Int)
  | [], _ => []
  | s :: r, l => goneP s l :: goneRows r (keepP s l)
theorem selP_mem {P : Nat → Bool} : ∀ {l : List Int} {j i : Nat} {x : Int}, l.Nodup → l[i]? = some x → (x ∈ selP P j l ↔ P (j + i) = true)
  | [], _, _, _, _, h => by simp at h
  | y :: l, j, 0, x, hn, h => by
    simp at h
    subst h
    have hy := (List.nodup_cons.mp hn).1
    have hn2 : y ∉ selP P (j + 1) l := fun hm => hy ((selP_sub P (j + 1) l).subset hm)
    rw [selP_cons]
    split
    · rename_i hp; simp [hp]
    · rename_i hp; simp [hn2, hp]
  | y :: l, j, i + 1, x, hn, h => by
    have hy := (List.nodup_cons.mp hn).1
    have ih := selP_mem (P := P) (l := l) (j := j + 1) (i := i) (List.nodup_cons.mp hn).2 h
    have hne : x ≠ y := fun e => hy (e ▸ List.mem_of_getElem? h)
    rw [selP_cons, show j + (i + 1) = j + 1 + i by omega, ← ih]
    split
    · simp [hne]
    · rfl
theorem gone_mem {s : Stk} {l : List Int} {q x : Int} (hn : l.Nodup) (h : getP l q = some x) : x ∈ goneP s l ↔ takesB s q = true := by
  unfold getP at h
  split at h
  · rename_i hq
    rw [goneP, selP_mem hn h]
    rw [show ((0 + (q - 1).toNat : Nat) : Int) + 1 = q by omega]
  · cases h
theorem goneRows_sub : ∀ {r : Rl} {l : List Int} {row : List Int}, row ∈ goneRows r l → ∀ x ∈ row, x ∈ l
  | [], _, _, h, _, _ => by cases h
  | s :: r, l, row, h, x, hx => by
    rcases List.mem_cons.mp h with rfl | h
    · exact (selP_sub _ _ _).subset hx
    · exact (keepP_sub s l).subset (goneRows_sub h x hx)
theorem goneRows_mem : ∀ {r : Rl} (_ : GoodR r) {l : List Int} {q x : Int}, l.Nodup → 1 ≤ q → getP l q = some x → ∀ (k : Nat) (row : List Int), (goneRows r l)[k]? = some row → (x ∈ row ↔ stBy r q = some k)
  | [], _, _, _, _, _, _, _, _, _, h => by simp [goneRows] at h
  | s :: r, g, l, q, x, hn, hq, hx, k, row, h => by
    have gm := gone_mem (s := s) hn hx
    have hst : stBy (s :: r) q = if takesB s q = true then some 0 else (stBy r (left1 s q)).map (· + 1) := rfl
    rw [hst]
    cases k with
    | zero =>
      simp [goneRows] at h
      subst h
      rw [gm]
      by_cases ht : takesB s q = true
      · simp [ht]
      · rw [if_neg ht]
        simp [ht]
    | succ k =>
      have h' : (goneRows r (keepP s l))[k]? = some row := h
      by_cases ht : takesB s q = true
      · rw [if_pos ht]
        have : x ∉ row := fun hm => by
          have hk := goneRows_sub (List.mem_of_getElem? h') x hm
          rw [← keepP_not hn] at hk
          simp at hk
          exact hk.2 (gm.mpr ht)
        simp [this]
      · rw [if_neg ht]
        obtain ⟨l1, l2⟩ := left_back g.head hq (by simpa using ht)
        have hk := (keepP_all g.head l).2 (left1 s q) l1
        rw [l2, hx] at hk
        have ih := goneRows_mem g.tail ((keepP_sub s l).nodup hn) l1 hk k row h'
        rw [ih]
        cases stBy r (left1 s q) <;> simp
theorem goneRows_len : ∀ (r : Rl) (l : List Int), (goneRows r l).length = r.length
  | [], _ => rfl
  | s :: r, l => by simp [goneRows, goneRows_len r]
/-- enumerate of a made list -/
theorem enum_map {α : Type} (enc : α → D) (l : List α) : enumL (l.map enc) = l.zipIdx.map fun p => PyData.tuple [.int (p.2 : Int), enc p.1] := by
  unfold enumL
  apply List.ext_getElem?
  intro i
  rw [List.getElem?_zipWith, List.getElem?_map, List.getElem?_map, List.getElem?_zipIdx, List.length_map]
  cases q : l[i]? with
  | none =>
    have : (List.range l.length)[i]? = none := List.getElem?_eq_none (by have := List.getElem?_eq_none_iff.mp q; simpa using this)
    simp [this]
  | some a =>
    have hl := (List.getElem?_eq_some_iff.mp q).1
    simp [List.getElem?_range hl]
theorem one_idx {α : Type} {P : α → Bool} {k0 : Nat} : ∀ {l : List α} {j : Nat}, (∀ k a, l[k]? = some a → P a = decide (j + k = k0)) → j ≤ k0 → k0 < j + l.length → ((l.zipIdx j).filter fun p => P p.1).map (·.2) = [k0]
  | [], j, _, h1, h2 => by simp at h2; omega
  | a :: l, j, h, h1, h2 => by
    have h0 := h 0 a rfl
    rw [List.zipIdx_cons, List.filter_cons]
    simp only [h0]
    by_cases c : j = k0
    · subst c
      rw [if_pos (by simp)]
      have : ((l.zipIdx (j + 1)).filter fun p => P p.1) = [] := by
        rw [List.filter_eq_nil_iff]
        intro p hp
        obtain ⟨i, hi⟩ := List.mem_iff_getElem?.mp hp
        rw [List.getElem?_zipIdx] at hi
        cases q : l[i]? with
        | none => rw [q] at hi; cases hi
        | some b =>
          rw [q] at hi; cases hi
          have := h (i + 1) b q
          rw [this]; simp
      rw [this]; rfl
    · rw [if_neg (by simp; omega)]
      exact one_idx (fun k b hb => by
        have := h (k + 1) b hb
        rw [this, show j + 1 + k = j + (k + 1) by omega]) (by omega) (by simp at h2; omega)
theorem rng_upT (m : Int) (h : 0 ≤ m) : rng 1 (m + 1) = (upT m.toNat).map .int := by
  rw [rng_map, upT, List.map_map, show (m + 1 - 1).toNat = m.toNat by omega]
  apply List.map_congr_left
  intro k _
  show PyData.int (1 + (k : Int)) = PyData.int ((k : Int) + 1)
  rw [Int.add_comm]
theorem rng_nat (n : Nat) : rng 0 (n : Int) = (List.range n).map fun (k : Nat) => PyData.int (k : Int) := by
  rw [rng_map, Int.sub_zero, Int.toNat_natCast]
  simp
theorem selP_zip {α : Type} (P : Nat → Bool) : ∀ (j : Nat) (l : List α), ((l.zipIdx j).filter fun p => P p.2).map (·.1) = selP P j l
  | _, [] => rfl
  | j, x :: t => by
    rw [List.zipIdx_cons, List.filter_cons, selP_cons, ← selP_zip P (j + 1) t]
    dsimp only
    split <;> rfl
theorem goneRows_fold : ∀ (r : Rl) (l : List Int) (acc : List (List Int)), r.foldl (fun (x : List Int × List (List Int)) s => (keepP s x.1, x.2 ++ [goneP s x.1])) (l, acc) = (rowM r l, acc ++ goneRows r l) := by
    intro r
    induction r with
    | nil => intro l acc; simp [rowM, goneRows]
    | cons s r ih => intro l acc; rw [List.foldl_cons, ih]; simp [rowM, goneRows]
/-- the rows as data -/
abbrev rows (g : List (List Int)) : List D := g.map fun l => .list (l.map .int)
end Lw

namespace Lw
open PySem PySem.Spec L2 Tv Mt
/-! ### data without dicts, of bounded depth -/
mutual
def okN : Nat → D → Bool
  | 0, _ => false
  | _ + 1, .none => true
  | _ + 1, .bool _ => true
  | _ + 1, .int _ => true
  | _ + 1, .str x => PyData.strOk x
  | n + 1, .tuple xs => decide (xs.length ≤ 16777216) && okNs n xs
  | n + 1, .list xs => decide (xs.length ≤ 16777216) && okNs n xs
  | _ + 1, .dict _ => false
def okNs : Nat → List D → Bool
  | _, [] => true
  | n, x :: xs => okN n x && okNs n xs
end
theorem okNs_mem {n : Nat} : ∀ {xs : List D}, okNs n xs = true → ∀ x ∈ xs, okN n x = true
  | y :: xs, h, x, hx => by
    simp only [okNs, Bool.and_eq_true] at h
    rcases List.mem_cons.mp hx with rfl | hx
    · exact h.1
    · exact okNs_mem h.2 x hx
theorem okNs_of {n : Nat} : ∀ {xs : List D}, (∀ x ∈ xs, okN n x = true) → okNs n xs = true
  | [], _ => by simp [okNs]
  | y :: xs, h => by
    simp only [okNs, Bool.and_eq_true]
    exact ⟨h y List.mem_cons_self, okNs_of fun x hx => h x (List.mem_cons_of_mem _ hx)⟩
theorem okN_up : ∀ {n : Nat} {d : D}, okN n d = true → okN (n + 1) d = true
  | 0, _, h => by simp [okN] at h
  | n + 1, d, h => by
    cases d with
    | none => rfl
    | bool b => rfl
    | int i => rfl
    | str s => simpa [okN] using h
    | dict => simp [okN] at h
    | tuple xs =>
      rw [okN, Bool.and_eq_true] at h ⊢
      exact ⟨h.1, okNs_of fun x hx => okN_up (okNs_mem h.2 x hx)⟩
    | list xs =>
      rw [okN, Bool.and_eq_true] at h ⊢
      exact ⟨h.1, okNs_of fun x hx => okN_up (okNs_mem h.2 x hx)⟩
theorem okN_le {n m : Nat} {d : D} (h : n ≤ m) (hd : okN n d = true) : okN m d = true := by
  induction h with
  | refl => exact hd
  | step _ ih => exact okN_up ih
theorem lays_of : ∀ {xs : List D}, (∀ x ∈ xs, PyData.canLay0 x = true) → PyData.canLayAll0 xs = true
  | [], _ => rfl
  | x :: xs, h => by
    show (PyData.canLay0 x && PyData.canLayAll0 xs) = true
    rw [h x List.mem_cons_self, lays_of fun y hy => h y (List.mem_cons_of_mem _ hy)]; rfl
theorem depths_of {n : Nat} : ∀ {xs : List D}, (∀ x ∈ xs, PyData.depth x ≤ n) → PyData.depthAll xs ≤ n
  | [], _ => Nat.zero_le _
  | x :: xs, h => by
    show max (PyData.depth x) (PyData.depthAll xs) ≤ n
    have h1 := h x List.mem_cons_self
    have h2 := depths_of fun y hy => h y (List.mem_cons_of_mem _ hy)
    omega
theorem okN_lay : ∀ {n : Nat} {d : D}, okN n d = true → PyData.canLay0 d = true ∧ PyData.depth d ≤ n
  | 0, _, h => by simp [okN] at h
  | n + 1, d, h => by
    cases d with
    | none => exact ⟨rfl, Nat.zero_le _⟩
    | bool b => exact ⟨rfl, Nat.zero_le _⟩
    | int i => exact ⟨rfl, Nat.zero_le _⟩
    | str s => exact ⟨by simpa [okN, PyData.canLay0] using h, Nat.zero_le _⟩
    | dict => simp [okN] at h
    | tuple xs =>
      rw [okN, Bool.and_eq_true] at h
      have hh := fun x hx => okN_lay (okNs_mem h.2 x hx)
      refine ⟨lays_of fun x hx => (hh x hx).1, ?_⟩
      show PyData.depthAll xs + 1 ≤ n + 1
      have := depths_of fun x hx => (hh x hx).2
      omega
    | list xs =>
      rw [okN, Bool.and_eq_true] at h
      have hh := fun x hx => okN_lay (okNs_mem h.2 x hx)
      refine ⟨lays_of fun x hx => (hh x hx).1, ?_⟩
      show PyData.depthAll xs + 1 ≤ n + 1
      have := depths_of fun x hx => (hh x hx).2
      omega
theorem okN_sh {n : Nat} {d : D} (hn : n ≤ 64) (h : okN n d = true) : SeqAt.shaped d = true := by
  obtain ⟨h1, h2⟩ := okN_lay h
  unfold SeqAt.shaped
  rw [h1, decide_eq_true (show PyData.depth d ≤ 64 by omega)]; rfl
theorem okN_ty {n : Nat} {d : D} (h : okN n d = true) : tyD d ≠ none := by
  cases n with
  | zero => simp [okN] at h
  | succ n => cases d <;> simp [tyD, okN] at h ⊢
theorem okN_tup {n : Nat} {xs : List D} (h : okN (n + 1) (.tuple xs) = true) : xs.length ≤ 16777216 ∧ ∀ x ∈ xs, okN n x = true := by
  rw [okN, Bool.and_eq_true, decide_eq_true_eq] at h
  exact ⟨h.1, okNs_mem h.2⟩
theorem okN_mk {n : Nat} {xs : List D} (h1 : xs.length ≤ 16777216) (h2 : ∀ x ∈ xs, okN n x = true) : okN (n + 1) (.tuple xs) = true := by
  rw [okN, Bool.and_eq_true, decide_eq_true_eq]
  exact ⟨h1, okNs_of h2⟩
theorem okN_mkL {n : Nat} {xs : List D} (h1 : xs.length ≤ 16777216) (h2 : ∀ x ∈ xs, okN n x = true) : okN (n + 1) (.list xs) = true := by
  rw [okN, Bool.and_eq_true, decide_eq_true_eq]
  exact ⟨h1, okNs_of h2⟩
/-- what a plain look at all parts tells -/
def isWholeB (d : D) (lo hi : Int) : Bool := match d with
  | .int i => decide (lo ≤ i) && decide (i ≤ hi)
  | _ => false
def isStrikeB : D → Bool
  | .tuple [.int a, .int b] => decide (2 ≤ a) && decide (a ≤ 6) && (decide (1 ≤ b) && decide (b ≤ a))
  | _ => false
def isRuleB : D → Bool
  | .tuple xs => decide (xs.length ≤ 4) && xs.all isStrikeB
  | _ => false
end Lw

namespace Lw
open PySem PySem.Spec L2 Tv
def topS (i : Nat) : Stmt := PySem.Challenge.pw_turnsieves_k20_sieves_apart.main.body.getD i (.Pass ⟨0, 0, 0, 0⟩)
structure Bl (mg : Str → Option Value) : Prop where
  m_ValueError : mg "ValueError" = none
  m_all : mg "all" = none
  m_bool : mg "bool" = none
  m_int : mg "int" = none
  m_isinstance : mg "isinstance" = none
  m_len : mg "len" = none
  m_range : mg "range" = none
  m_str : mg "str" = none
  m_tuple : mg "tuple" = none
  m_zip : mg "zip" = none
section
variable {P : Program} {w : World} {K : PySem.W.Frag} {mg : Str → Option Value} {base : Heap}
/-! ### taken_below -/
abbrev st_taken_below : Stmt := topS 7
abbrev nm_taken_below : List Str := ["strike", "place", "by", "at"]
theorem sc_taken_below : FnScope ["strike", "place", "by", "at"] ["strike", "place"] (defScope st_taken_below) :=
  ⟨rfl, rfl, rfl, by decide +kernel, rfl, by decide +kernel, by decide +kernel⟩
def g_taken_below : Fs :=
    (seqS (asgS (xp (gv 0)) (.tp [2, 3]))
    (seqS (iteS (xt (b2T ltD (gv 1) (gv 3))) (retS (xp (cn (.int 0)))) skipS)
    (retS (xp (b2 addD (b2 fdivD (b2 subD (gv 1) (gv 3)) (gv 2)) (cn (.int 1)))))))
def fn_taken_below : List D → Option D := fnOf 2 4 g_taken_below
theorem ok_taken_below {fa : Addr} {fd : FuncData} (F : Fun K "taken_below" "taken_below" st_taken_below fa fd) (hm : mg "taken_below" = some (.ref fa)) (hb : Binds K fd ["strike", "place"] []) (B : Bl mg)   :
    Def P w K mg base "taken_below" 1 fn_taken_below := by
  have nd := sc_taken_below.nd
  exact def_mk (fn_ok F sc_taken_below (fun cdv A outer s H E hr =>
    (ss_cons (s_asg (x_p (e_var 0)) (g_tp (gs_cons (g_nm nd) (gs_cons (g_nm nd) gs_nil))))
    (ss_cons (s_if (x_t (t_cmp op_lt od_cmp (e_var 1) (e_var 3) (nomark _))) (ss_one (s_ret (x_p e_int))) ss_nil)
    (ss_one (s_ret (x_p (e_op or_add od_add (e_op op_fdivN od_fdiv (e_op op_sub od_sub (e_var 1) (e_var 3)) (e_var 2)) e_int)))))))) hm F.kp hb
/-! ### count -/
abbrev st_count : Stmt := topS 12
abbrev nm_count : List Str := ["rule", "bound", "strike"]
theorem sc_count : FnScope ["rule", "bound", "strike"] ["rule", "bound"] (defScope st_count) :=
  ⟨rfl, rfl, rfl, by decide +kernel, rfl, by decide +kernel, by decide +kernel⟩
def b_count_1 : Fs :=
    (asgS (xp (b2 subD (gv 1) (cf fn_taken_below (acons (gv 2) (acons (gv 1) anil))))) (.nm 1))
def g_count : Fs :=
    (seqS (forS (iseq (gv 0)) (.nm 2) b_count_1)
    (retS (xp (gv 1))))
def fn_count : List D → Option D := fnOf 2 3 g_count
theorem ok_count {fa : Addr} {fd : FuncData} (F : Fun K "count" "count" st_count fa fd) (hm : mg "count" = some (.ref fa)) (hb : Binds K fd ["rule", "bound"] []) (B : Bl mg)  (D_taken_below : Def P w K mg base "taken_below" 1 fn_taken_below) :
    Def P w K mg base "count" 2 fn_count := by
  have nd := sc_count.nd
  exact def_mk (fn_ok F sc_count (fun cdv A outer s H E hr =>
    (ss_cons (s_for PassesOwn.never (x_i (i_seq (e_var 0))) (g_nm nd) (ss_one (s_set nd (x_p (e_op op_sub od_sub (e_var 1) (e_def D_taken_below hr (by decide) (a_cons (e_var 2) (a_cons (e_var 1) a_nil))))))))
    (ss_one (s_ret (x_p (e_var 1))))))) hm F.kp hb
/-! ### takes -/
abbrev st_takes : Stmt := topS 6
abbrev nm_takes : List Str := ["strike", "place", "by", "at"]
theorem sc_takes : FnScope ["strike", "place", "by", "at"] ["strike", "place"] (defScope st_takes) :=
  ⟨rfl, rfl, rfl, by decide +kernel, rfl, by decide +kernel, by decide +kernel⟩
def g_takes : Fs :=
    (seqS (asgS (xp (gv 0)) (.tp [2, 3]))
    (retS (xp (b2 (toB eqD) (b2 modD (gv 1) (gv 2)) (b2 modD (gv 3) (gv 2))))))
def fn_takes : List D → Option D := fnOf 2 4 g_takes
theorem ok_takes {fa : Addr} {fd : FuncData} (F : Fun K "takes" "takes" st_takes fa fd) (hm : mg "takes" = some (.ref fa)) (hb : Binds K fd ["strike", "place"] []) (B : Bl mg)   :
    Def P w K mg base "takes" 1 fn_takes := by
  have nd := sc_takes.nd
  exact def_mk (fn_ok F sc_takes (fun cdv A outer s H E hr =>
    (ss_cons (s_asg (x_p (e_var 0)) (g_tp (gs_cons (g_nm nd) (gs_cons (g_nm nd) gs_nil))))
    (ss_one (s_ret (x_p (e_cmp (op_eqD hr.units) od_eq (e_op op_modN od_mod (e_var 1) (e_var 2)) (e_op op_modN od_mod (e_var 3) (e_var 2)) (nomark _)))))))) hm F.kp hb
/-! ### walk -/
abbrev st_walk : Stmt := topS 9
abbrev nm_walk : List Str := ["rule", "number", "found", "strike"]
theorem sc_walk : FnScope ["rule", "number", "found", "strike"] ["rule", "number"] (defScope st_walk) :=
  ⟨rfl, rfl, rfl, by decide +kernel, rfl, by decide +kernel, by decide +kernel⟩
def b_walk_1 : Fs :=
    (seqS (iteS (xt (truF (cf fn_takes (acons (gv 3) (acons (b2 ixD (gv 2) (negF (cn (.int 1)))) anil))))) (retS (xb (cf tupD (acons (gv 2) anil)))) skipS)
    (appS 2 (xb (b2 subD (b2 ixD (gv 2) (negF (cn (.int 1)))) (cf fn_taken_below (acons (gv 3) (acons (b2 ixD (gv 2) (negF (cn (.int 1)))) anil)))))))
def g_walk : Fs :=
    (seqS (ownS (flst (acons (gv 1) anil)) 2)
    (seqS (forS (iseq (gv 0)) (.nm 3) b_walk_1)
    (retS (xb (cf tupD (acons (gv 2) anil))))))
def fn_walk : List D → Option D := fnOf 2 4 g_walk
theorem ok_walk {fa : Addr} {fd : FuncData} (F : Fun K "walk" "walk" st_walk fa fd) (hm : mg "walk" = some (.ref fa)) (hb : Binds K fd ["rule", "number"] []) (B : Bl mg)  (D_takes : Def P w K mg base "takes" 1 fn_takes) (D_taken_below : Def P w K mg base "taken_below" 1 fn_taken_below) :
    Def P w K mg base "walk" 2 fn_walk := by
  have nd := sc_walk.nd
  exact def_mk (fn_ok F sc_walk (fun cdv A outer s H E hr =>
    (ss_cons (s_own nd (l_lst (a_cons (e_var 1) a_nil)))
    (ss_cons (s_for PassesOwn.never (x_i (i_seq (e_var 0))) (g_nm nd) (ss_cons (s_if (x_t (t_tru (e_def D_takes hr (by decide) (a_cons (e_var 3) (a_cons (e_ix ix_seq od_ix (e_var 2) (e_neg e_int) (fun _ _ => rfl)) a_nil))))) (ss_one (s_ret (x_b (e_bty call_tuple_of cd_tup B.m_tuple (a_cons (e_var 2) a_nil))))) ss_nil)
    (ss_one (s_app 2 (x_b (e_op op_sub od_sub (e_ix ix_seq od_ix (e_var 2) (e_neg e_int) (fun _ _ => rfl)) (e_def D_taken_below hr (by decide) (a_cons (e_var 3) (a_cons (e_ix ix_seq od_ix (e_var 2) (e_neg e_int) (fun _ _ => rfl)) a_nil)))))))))
    (ss_one (s_ret (x_b (e_bty call_tuple_of cd_tup B.m_tuple (a_cons (e_var 2) a_nil))))))))) hm F.kp hb
/-! ### place_of -/
abbrev st_place_of : Stmt := topS 10
abbrev nm_place_of : List Str := ["rule", "number", "way"]
theorem sc_place_of : FnScope ["rule", "number", "way"] ["rule", "number"] (defScope st_place_of) :=
  ⟨rfl, rfl, rfl, by decide +kernel, rfl, by decide +kernel, by decide +kernel⟩
def g_place_of : Fs :=
    (seqS (asgS (xp (cf fn_walk (acons (gv 0) (acons (gv 1) anil)))) (.nm 2))
    (seqS (iteS (xt (b2T leD (cf lenD (acons (gv 2) anil)) (cf lenD (acons (gv 0) anil)))) (retS (xp (cn .none))) skipS)
    (retS (xp (b2 ixD (gv 2) (negF (cn (.int 1))))))))
def fn_place_of : List D → Option D := fnOf 2 3 g_place_of
theorem ok_place_of {fa : Addr} {fd : FuncData} (F : Fun K "place_of" "place_of" st_place_of fa fd) (hm : mg "place_of" = some (.ref fa)) (hb : Binds K fd ["rule", "number"] []) (B : Bl mg)  (D_walk : Def P w K mg base "walk" 2 fn_walk) :
    Def P w K mg base "place_of" 3 fn_place_of := by
  have nd := sc_place_of.nd
  exact def_mk (fn_ok F sc_place_of (fun cdv A outer s H E hr =>
    (ss_cons (s_set nd (x_p (e_def D_walk hr (by decide) (a_cons (e_var 0) (a_cons (e_var 1) a_nil)))))
    (ss_cons (s_if (x_t (t_cmp op_le od_cmp (e_blt call_len cd_len B.m_len (a_cons (e_var 2) a_nil)) (e_blt call_len cd_len B.m_len (a_cons (e_var 0) a_nil)) (nomark _))) (ss_one (s_ret (x_p e_non))) ss_nil)
    (ss_one (s_ret (x_p (e_ix ix_seq od_ix (e_var 2) (e_neg e_int) (fun _ _ => rfl))))))))) hm F.kp hb
/-! ### law_mix -/
abbrev st_law_mix : Stmt := topS 18
abbrev nm_law_mix : List Str := ["_law_cell_here", "_law_prime", "_law_many", "_law_blend"]
theorem sc_law_mix : FnScope ["_law_cell_here", "_law_prime", "_law_many", "_law_blend"] ["_law_cell_here", "_law_prime", "_law_many"] (defScope st_law_mix) :=
  ⟨rfl, rfl, rfl, by decide +kernel, rfl, by decide +kernel, by decide +kernel⟩
def g_law_mix : Fs :=
    (seqS (asgS (xp (b2 modD (b2 mulD (gv 0) (cn (.int 48271))) (gv 1))) (.nm 3))
    (retS (xp (b2 modD (b2 modD (b2 mulD (gv 3) (b2 addD (gv 3) (cn (.int 7)))) (gv 1)) (gv 2)))))
def fn_law_mix : List D → Option D := fnOf 3 4 g_law_mix
theorem ok_law_mix {fa : Addr} {fd : FuncData} (F : Fun K "_law_mix" "_law_mix" st_law_mix fa fd) (hm : mg "_law_mix" = some (.ref fa)) (hb : Binds K fd ["_law_cell_here", "_law_prime", "_law_many"] []) (B : Bl mg)   :
    Def P w K mg base "_law_mix" 1 fn_law_mix := by
  have nd := sc_law_mix.nd
  exact def_mk (fn_ok F sc_law_mix (fun cdv A outer s H E hr =>
    (ss_cons (s_set nd (x_p (e_op op_modN od_mod (e_op or_mul od_mul (e_var 0) e_int) (e_var 1))))
    (ss_one (s_ret (x_p (e_op op_modN od_mod (e_op op_modN od_mod (e_op or_mul od_mul (e_var 3) (e_op or_add od_add (e_var 3) e_int)) (e_var 1)) (e_var 2)))))))) hm F.kp hb
/-! ### law_word -/
abbrev st_law_word : Stmt := topS 20
abbrev nm_law_word : List Str := ["_law_kept", "_law_kinds"]
theorem sc_law_word : FnScope ["_law_kept", "_law_kinds"] ["_law_kept"] (defScope st_law_word) :=
  ⟨rfl, rfl, rfl, by decide +kernel, rfl, by decide +kernel, by decide +kernel⟩
def g_law_word (a : Addr) : Fs :=
    (seqS (asgS (xp (lD (flst (acons (isEF a true (gv 0)) (acons (isEF a false (gv 0)) anil))))) (.nm 1))
    (seqS (iteS (xt (orT (b2T neD (mf lcntD (gv 1) (acons (cn (.bool true)) anil)) (cn (.int 1))) (notT (truF (isEF a true (gv 0)))))) (retS (xp (cn (.str (Str.ofString "wrong"))))) skipS)
    (retS (xp (b2 ixD (ftup (acons (cn (.str (Str.ofString "no strike"))) (acons (cn (.str (Str.ofString "no text"))) anil))) (mf idxD (gv 1) (acons (cn (.bool true)) anil)))))))
theorem ok_law_word {fa : Addr} {fd : FuncData} {C_NoStrike C_NoText : Addr} (F : Fun K "_law_word" "_law_word" st_law_word fa fd) (hm : mg "_law_word" = some (.ref fa)) (hb : Binds K fd ["_law_kept"] []) (B : Bl mg) (XC : ExcC K C_NoStrike) (XG_NoStrike : mg "NoStrike" = some (.ref C_NoStrike)) (XG_NoText : mg "NoText" = some (.ref C_NoText)) (KO_NoStrike : PySem.W.kitOne K (.ref C_NoStrike) (.ref C_NoStrike) = some true) (KO_NoText : PySem.W.kitOne K (.ref C_NoStrike) (.ref C_NoText) = some false) (KO_ValueError : PySem.W.kitOne K (.ref C_NoStrike) (.type "ValueError") = some true) :
    DefE P w K mg base "_law_word" 1 C_NoStrike (.str (Str.ofString "no strike")) := by
  have nd := sc_law_word.nd
  exact ⟨fa, fd, _, fe_ok (CE := C_NoStrike) (g := g_law_word) F sc_law_word (fun cdv A outer s H E p hr hz hfl =>
    (ss_cons (s_set nd (x_p (e_list (l_lst (a_cons (e_isE (a := p.1) (oe := p.2) (b := true) XC hz hfl (List.mem_singleton.mpr rfl) B.m_isinstance (e_var 0) (pe_glob (v := .ref C_NoStrike) rfl XG_NoStrike rfl) (fun _ h => h) KO_NoStrike) (a_cons (e_isE (a := p.1) (oe := p.2) (b := false) XC hz hfl (List.mem_singleton.mpr rfl) B.m_isinstance (e_var 0) (pe_glob (v := .ref C_NoText) rfl XG_NoText rfl) (fun _ h => h) KO_NoText) a_nil))))))
    (ss_cons (s_if (x_t (PW.pt (w_or (t_cmp (op_neD hr.units) od_ne (e_m_lcount hr.units65 (e_var 1) (a_cons e_bl a_nil)) e_int (nomark _)) (w_or1 (t_not (t_tru (e_isE (a := p.1) (oe := p.2) (b := true) XC hz hfl (List.mem_singleton.mpr rfl) B.m_isinstance (e_var 0) (pe_bltn (v := .ty "ValueError") rfl B.m_ValueError (by decide +kernel) rfl) (fun _ h => h) KO_ValueError))))))) (ss_one (s_ret (x_p e_str))) ss_nil)
    (ss_one (s_ret (x_p (e_ix ix_seq od_ix (e_tup (a_cons e_str (a_cons e_str a_nil))) (e_m_index hr.units65 (e_var 1) (a_cons e_bl a_nil)) (fun _ _ => rfl)))))))) (fun a => ⟨[.val (excD a), .val (.list [.bool true, .bool false])], by
      have e1 : SeqAt.shaped (.list [.bool true, .bool false]) = true := rfl
      have e2 : SeqAt.shaped (.bool true) = true := rfl
      have e3 : idxL [.bool true, .bool false] (.bool true) = some 0 := rfl
      have e4 : (List.countP (fun z => PyData.eqv z (.bool true)) [.bool true, .bool false]) = 1 := rfl
      have e5 : (2 : Nat) ≤ big := by decide
      have e6 : atI [PyData.str (Str.ofString "no strike"), PyData.str (Str.ofString "no text")] 0 = some (.str (Str.ofString "no strike")) := rfl
      have e7 : SeqAt.shaped (.int 1) = true := rfl
      have e8 : PyData.eqv (.int 1) (.int 1) = true := rfl
      simp [g_law_word, excD, e1, e2, e3, e4, e5, e6, e7, e8]⟩), hm, F.kp, hb⟩
/-! ### Sieve.__init__ -/
abbrev st_m_init_ : Stmt := inClass (topS 15) 0
abbrev nm_m_init_ : List Str := ["self"]
theorem sc_m_init_ : FnScope ["self"] ["self"] (defScope st_m_init_) :=
  ⟨rfl, rfl, rfl, by decide +kernel, rfl, by decide +kernel, by decide +kernel⟩
theorem ok_m_init_ {CE C : Addr} {fa : Addr} {fd : FuncData} (TS : SvC K C) (F : Fun K "__init__" "Sieve.__init__" st_m_init_ fa fd) (mk : Mk K C fa) (hg : mg "Sieve" = some (.ref C)) (hb : Binds K fd ["self"] []) : MkS P w K mg base C "Sieve" 1 (.tuple []) :=
  ⟨fa, fd, mk, mi_ok (fv := (ftup anil)) TS F sc_m_init_ rfl (fun cdv A outer s H E hr => (e_tup a_nil)) (fun _ _ _ _ _ _ => rfl) (fun _ _ _ _ _ _ => Or.inl rfl) rfl, hg, hb⟩
/-! ### Sieve.strike -/
abbrev st_m_strike : Stmt := inClass (topS 15) 1
abbrev nm_m_strike : List Str := ["self", "by", "at"]
theorem sc_m_strike : FnScope ["self", "by", "at"] ["self", "by", "at"] (defScope st_m_strike) :=
  ⟨rfl, rfl, rfl, by decide +kernel, rfl, by decide +kernel, by decide +kernel⟩
def c_m_strike (C : Addr) : Store → Option Bool :=
    (notT (chT leD leD (cn (.int 1)) (gv 2) (gv 1)))
def v_m_strike (C : Addr) : Fn :=
    (b2 addD (fldF C 0) (ftup (acons (ftup (acons (gv 1) (acons (gv 2) anil))) anil)))
def fm_strike (CE C : Addr) : D → List D → Option MO := fnM CE C 3 3 (c_m_strike C) (v_m_strike C)
theorem ok_m_strike {CE C : Addr} {fa : Addr} {fd : FuncData} (TS : SvC K C) (F : Fun K "strike" "Sieve.strike" st_m_strike fa fd) (XE : ExT K mg "NoStrike" CE) (hm : Meth K C "strike" fa) (hb : Binds K fd ["self", "by", "at"] []) (B : Bl mg)   :
    MdN P w K mg base C "strike" 1 (fm_strike CE C) :=
  mdN_mk (mn_ok (CE := CE) TS F sc_m_strike rfl
    (fun cdv A outer s H E hr => (t_not (t_chain op_le od_cmp op_le od_cmp e_int (e_var 2) (e_var 1))))
    (fun cdv A outer s H E hr => L2N.pmk_own PySem.F.excBase_ValueError XE.x XE.g XE.k (raises_own XE.b XE.t) rfl)
    (fun cdv A outer s H E hr => (e_op or_add od_add (e_fld TS 0) (e_tup (a_cons (e_tup (a_cons (e_var 1) (a_cons (e_var 2) a_nil))) a_nil))))
    (fun _ _ _ _ _ _ => rfl) rfl (fun _ _ _ _ _ _ => Or.inl rfl)) hm hb
/-! ### Sieve.rule -/
abbrev st_m_rule : Stmt := inClass (topS 15) 2
abbrev nm_m_rule : List Str := ["self"]
theorem sc_m_rule : FnScope ["self"] ["self"] (defScope st_m_rule) :=
  ⟨rfl, rfl, rfl, by decide +kernel, rfl, by decide +kernel, by decide +kernel⟩
def g_m_rule (C : Addr) : Fs :=
    (retS (xp (fldF C 0)))
def fm_rule (C : Addr) : D → List D → Option D := fnR C 1 1 (g_m_rule C)
theorem ok_m_rule {CE C : Addr} {fa : Addr} {fd : FuncData} (TS : SvC K C) (F : Fun K "rule" "Sieve.rule" st_m_rule fa fd) (hm : Meth K C "rule" fa) (hb : Binds K fd ["self"] []) (B : Bl mg)   :
    MdR P w K mg base C "rule" 1 (fm_rule C) := by
  have nd := sc_m_rule.nd
  exact mdR_mk (mr_ok F sc_m_rule (fun cdv A outer s H E hr =>
    (ss_one (s_ret (x_p (e_fld TS 0)))))) hm hb
/-! ### Sieve.count -/
abbrev st_m_count : Stmt := inClass (topS 15) 4
abbrev nm_m_count : List Str := ["self", "bound"]
theorem sc_m_count : FnScope ["self", "bound"] ["self", "bound"] (defScope st_m_count) :=
  ⟨rfl, rfl, rfl, by decide +kernel, rfl, by decide +kernel, by decide +kernel⟩
def g_m_count (C : Addr) : Fs :=
    (retS (xp (cf fn_count (acons (fldF C 0) (acons (gv 1) anil)))))
def fm_count (C : Addr) : D → List D → Option D := fnR C 2 2 (g_m_count C)
theorem ok_m_count {CE C : Addr} {fa : Addr} {fd : FuncData} (TS : SvC K C) (F : Fun K "count" "Sieve.count" st_m_count fa fd) (hm : Meth K C "count" fa) (hb : Binds K fd ["self", "bound"] []) (B : Bl mg) (D_count_placing : Def P w K mg base "count_placing" 2 fn_count)  :
    MdR P w K mg base C "count" 3 (fm_count C) := by
  have nd := sc_m_count.nd
  exact mdR_mk (mr_ok F sc_m_count (fun cdv A outer s H E hr =>
    (ss_one (s_ret (x_p (e_def D_count_placing hr (by decide) (a_cons (e_fld TS 0) (a_cons (e_var 1) a_nil)))))))) hm hb
/-! ### Sieve.place_of -/
abbrev st_m_place_of : Stmt := inClass (topS 15) 5
abbrev nm_m_place_of : List Str := ["self", "number"]
theorem sc_m_place_of : FnScope ["self", "number"] ["self", "number"] (defScope st_m_place_of) :=
  ⟨rfl, rfl, rfl, by decide +kernel, rfl, by decide +kernel, by decide +kernel⟩
def g_m_place_of (C : Addr) : Fs :=
    (retS (xp (cf fn_place_of (acons (fldF C 0) (acons (gv 1) anil)))))
def fm_place_of (C : Addr) : D → List D → Option D := fnR C 2 2 (g_m_place_of C)
theorem ok_m_place_of {CE C : Addr} {fa : Addr} {fd : FuncData} (TS : SvC K C) (F : Fun K "place_of" "Sieve.place_of" st_m_place_of fa fd) (hm : Meth K C "place_of" fa) (hb : Binds K fd ["self", "number"] []) (B : Bl mg) (D_place_of_placing : Def P w K mg base "place_of_placing" 3 fn_place_of)  :
    MdR P w K mg base C "place_of" 4 (fm_place_of C) := by
  have nd := sc_m_place_of.nd
  exact mdR_mk (mr_ok F sc_m_place_of (fun cdv A outer s H E hr =>
    (ss_one (s_ret (x_p (e_def D_place_of_placing hr (by decide) (a_cons (e_fld TS 0) (a_cons (e_var 1) a_nil)))))))) hm hb
/-! ### Sieve.back -/
abbrev st_m_back : Stmt := inClass (topS 15) 6
abbrev nm_m_back : List Str := ["self"]
theorem sc_m_back : FnScope ["self"] ["self"] (defScope st_m_back) :=
  ⟨rfl, rfl, rfl, by decide +kernel, rfl, by decide +kernel, by decide +kernel⟩
def c_m_back (C : Addr) : Store → Option Bool :=
    (notT (truF (fldF C 0)))
def v_m_back (C : Addr) : Fn :=
    (slF (fldF C 0) onone (osome (negF (cn (.int 1)))))
def fm_back (CE C : Addr) : D → List D → Option MO := fnM CE C 1 1 (c_m_back C) (v_m_back C)
theorem ok_m_back {CE C : Addr} {fa : Addr} {fd : FuncData} (TS : SvC K C) (F : Fun K "back" "Sieve.back" st_m_back fa fd) (XE : ExT K mg "NoStrike" CE) (hm : Meth K C "back" fa) (hb : Binds K fd ["self"] []) (B : Bl mg)   :
    MdN P w K mg base C "back" 1 (fm_back CE C) :=
  mdN_mk (mn_ok (CE := CE) TS F sc_m_back rfl
    (fun cdv A outer s H E hr => (t_not (t_tru (e_fld TS 0))))
    (fun cdv A outer s H E hr => L2N.pmk_own PySem.F.excBase_ValueError XE.x XE.g XE.k (raises_own XE.b XE.t) rfl)
    (fun cdv A outer s H E hr => (e_slice (e_fld TS 0) o_none (o_some (e_neg e_int))))
    (fun _ _ _ _ _ _ => rfl) rfl (fun _ _ _ _ _ _ => Or.inl rfl)) hm hb
/-! ### law_told -/
abbrev st_law_told : Stmt := topS 21
abbrev nm_law_told : List Str := ["_law_sieve", "_law_strike", "e"]
theorem sc_law_told : FnScope ["_law_sieve", "_law_strike", "e"] ["_law_sieve", "_law_strike"] (defScope st_law_told) :=
  ⟨rfl, rfl, rfl, by decide +kernel, rfl, by decide +kernel, by decide +kernel⟩
def c_law_told : Store → Option Bool :=
    (b2T isD (gv 1) (cn .none))
def f_law_told : Store → Option (List D) :=
    (acons (b2 ixD (gv 1) (cn (.int 0))) (acons (b2 ixD (gv 1) (cn (.int 1))) anil))
def fn_law_told (CE C : Addr) : D → List D → Option (D × D) := toldV C 2 3 c_law_told (fm_back CE C) (fm_strike CE C) f_law_told (.str (Str.ofString "no strike"))
theorem ok_law_told {fa : Addr} {fd : FuncData} {CE C C_StrikeError : Addr} (F : Fun K "_law_told" "_law_told" st_law_told fa fd) (hm : mg "_law_told" = some (.ref fa)) (hb : Binds K fd ["_law_sieve", "_law_strike"] []) (B : Bl mg) (DW : DefE P w K mg base "_law_word" 1 CE (.str (Str.ofString "no strike"))) (XG : mg "StrikeError" = some (.ref C_StrikeError)) (XM : PySem.W.exmOne K (.ref CE) (.ref C_StrikeError) = some true) (TS : SvC K C) (M_back : MdN P w K mg base C "back" 1 (fm_back CE C)) (M_strike : MdN P w K mg base C "strike" 1 (fm_strike CE C)) :
    DefV P w K mg base "_law_told" 2 C (fn_law_told CE C) := by
  have nd := sc_law_told.nd
  exact ⟨fa, fd, _, toldV_ok (k := 1) (i := 2) (fas := f_law_told) TS F sc_law_told M_back M_strike DW (by decide) (by decide) (by decide) fnM_ex fnM_ex rfl (fun cdv A outer s H E pn xe hr => (t_cmp or_is od_is (e_var 1) e_non (nomark _))) (fun cdv A outer s H E pn xe hr => (a_cons (e_ix ix_seq od_ix (e_var 1) e_int (fun _ _ => rfl)) (a_cons (e_ix ix_seq od_ix (e_var 1) e_int (fun _ _ => rfl)) a_nil))) rfl rfl rfl rfl rfl rfl rfl rfl (fun _ => rfl) (fun _ => rfl) (fun _ => rfl) (fun _ => rfl) rfl rfl rfl rfl XG XM (fun _ _ _ _ _ _ => ⟨rfl, rfl⟩), hm, F.kp, hb, fun _ _ _ h => toldV_len h⟩
/-! ### law_lives -/
abbrev st_law_lives : Stmt := topS 22
abbrev nm_law_lives : List Str := ["_law_sieve", "_law_cell_here", "_law_by", "_law_strike", "_law_told_here"]
theorem sc_law_lives : FnScope ["_law_sieve", "_law_cell_here", "_law_by", "_law_strike", "_law_told_here"] ["_law_sieve", "_law_cell_here"] (defScope st_law_lives) :=
  ⟨rfl, rfl, rfl, by decide +kernel, rfl, by decide +kernel, by decide +kernel⟩
def f1_law_lives (C : Addr) : Fn :=
    (b2 addD (cn (.int 2)) (cf fn_law_mix (acons (gv 1) (acons (cn (.int 9781)) (acons (cn (.int 9)) anil)))))
def f2_law_lives (C : Addr) : Fn :=
    (iteD (b2T eqD (cf fn_law_mix (acons (gv 1) (acons (cn (.int 9767)) (acons (cn (.int 3)) anil)))) (cn (.int 0))) (cn .none) (ftup (acons (gv 2) (acons (cf fn_law_mix (acons (gv 1) (acons (cn (.int 9769)) (acons (b2 addD (gv 2) (cn (.int 2))) anil)))) anil))))
def f4_law_lives (C : Addr) : Fn :=
    (ftup (acons (gv 4) (acons (smF C 0 (fm_rule C) anil) (acons (smF C 0 (fm_count C) (acons (cf fn_law_mix (acons (gv 1) (acons (cn (.int 9749)) (acons (cn (.int 121)) anil)))) anil)) (acons (smF C 0 (fm_place_of C) (acons (b2 addD (cn (.int 1)) (cf fn_law_mix (acons (gv 1) (acons (cn (.int 9739)) (acons (cn (.int 120)) anil))))) anil)) anil)))))
def fn_law_lives (CE C : Addr) : D → List D → Option (D × D) := livesV C 2 5 2 3 4 (f1_law_lives C) (f2_law_lives C) (fn_law_told CE C) (f4_law_lives C)
theorem ok_law_lives {fa : Addr} {fd : FuncData} (F : Fun K "_law_lives" "_law_lives" st_law_lives fa fd) (hm : mg "_law_lives" = some (.ref fa)) (hb : Binds K fd ["_law_sieve", "_law_cell_here"] []) (B : Bl mg) {CE C : Addr} (D_law_mix : Def P w K mg base "_law_mix" 1 fn_law_mix) (D_law_told : DefV P w K mg base "_law_told" 2 C (fn_law_told CE C)) (TS : SvC K C) (M_count : MdR P w K mg base C "count" 3 (fm_count C)) (M_place_of : MdR P w K mg base C "place_of" 4 (fm_place_of C)) (M_rule : MdR P w K mg base C "rule" 1 (fm_rule C)) :
    DefV P w K mg base "_law_lives" 5 C (fn_law_lives CE C) := by
  have nd := sc_law_lives.nd
  exact ⟨fa, fd, _, lives_ok F sc_law_lives rfl (fun cdv A outer s H E hr => ⟨ps_set (i := 2) nd rfl (.inl rfl) (e_op or_add od_add e_int (e_def D_law_mix hr (by decide) (a_cons (e_var 1) (a_cons e_int (a_cons e_int a_nil))))) rfl (.inl rfl),
    ps_set (i := 3) nd rfl (.inl rfl) (e_ite (t_cmp (op_eqD hr.units) od_eq (e_def D_law_mix hr (by decide) (a_cons (e_var 1) (a_cons e_int (a_cons e_int a_nil)))) e_int (nomark _)) e_non (e_tup (a_cons (e_var 2) (a_cons (e_def D_law_mix hr (by decide) (a_cons (e_var 1) (a_cons e_int (a_cons (e_op or_add od_add (e_var 2) e_int) a_nil)))) a_nil)))) rfl (.inl rfl), ps_set (i := 4) nd rfl (.inl rfl) (e_callVV (i := 0) (j := 3) D_law_told hr (by decide)) rfl (.inl rfl),
    ps_ret (e_tup (a_cons (e_var 4) (a_cons (e_smeth0 TS M_rule hr (by decide) 0) (a_cons (e_smeth TS M_count hr (by decide) 0 (a_cons (e_def D_law_mix hr (by decide) (a_cons (e_var 1) (a_cons e_int (a_cons e_int a_nil)))) a_nil)) (a_cons (e_smeth TS M_place_of hr (by decide) 0 (a_cons (e_op or_add od_add e_int (e_def D_law_mix hr (by decide) (a_cons (e_var 1) (a_cons e_int (a_cons e_int a_nil))))) a_nil)) a_nil)))))⟩) (by decide) (by decide) (by decide), hm, F.kp, hb, fun _ _ _ h => livesV_len h⟩
/-! ### law_same -/
abbrev st_law_same : Stmt := topS 19
abbrev nm_law_same : List Str := ["_law_found", "_law_due", "_law_one", "_law_other"]
theorem sc_law_same : FnScope ["_law_found", "_law_due", "_law_one", "_law_other"] ["_law_found", "_law_due"] (defScope st_law_same) :=
  ⟨rfl, rfl, rfl, by decide +kernel, rfl, by decide +kernel, by decide +kernel⟩
def e_law_same_1 (rec : List D → Option D) : Fn :=
    (cf rec (acons (gv 2) (acons (gv 3) anil)))
def g_law_same (rec : List D → Option D) : Fs :=
    (seqS (iteS (xt (truF (isiF ["tuple"] (gv 1)))) (seqS (iteS (xt (orT (notT (truF (isiF ["tuple"] (gv 0)))) (b2T neD (cf lenD (acons (gv 0) anil)) (cf lenD (acons (gv 1) anil))))) (retS (xp (cn (.bool false)))) skipS)
    (retS (xp (cf allD (acons (lD (compF (izipA (acons (gv 0) (acons (gv 1) anil))) (.tp [2, 3]) [2, 3] yesT (e_law_same_1 rec))) anil))))) skipS)
    (seqS (iteS (xt (b2T isD (gv 1) (cn .none))) (retS (xp (b2 (toB isD) (gv 0) (cn .none)))) skipS)
    (seqS (iteS (xt (orT (truF (isiF ["bool"] (gv 1))) (truF (isiF ["bool"] (gv 0))))) (retS (xp (andD (isiF ["bool"] (gv 1)) (andD (isiF ["bool"] (gv 0)) (b2 (toB eqD) (gv 0) (gv 1)))))) skipS)
    (retS (xp (andD (isiF ["int", "str"] (gv 0)) (b2 (toB eqD) (gv 0) (gv 1))))))))
def r_law_same : Nat → List D → Option D
  | 0 => fun _ => none
  | n + 1 => fnOf 2 4 (g_law_same (r_law_same n))
def fn_law_same : List D → Option D := r_law_same 8
theorem ok_law_same {fa : Addr} {fd : FuncData} (F : Fun K "_law_same" "_law_same" st_law_same fa fd) (hm : mg "_law_same" = some (.ref fa)) (hb : Binds K fd ["_law_found", "_law_due"] []) (B : Bl mg)   :
    Def P w K mg base "_law_same" 9 fn_law_same := by
  have nd := sc_law_same.nd
  have step : ∀ n, Def P w K mg base "_law_same" (1 + n) (r_law_same n) := by
    intro n
    induction n with
    | zero => exact def_none hm F.kp hb
    | succ n ih =>
      exact def_mk (fn_ok F sc_law_same (fun cdv A outer s H E hr =>
    (ss_cons (s_if (x_t (t_tru (e_isi B.m_isinstance B.m_tuple (e_var 1)))) (ss_cons (s_if (x_t (PW.pt (w_or (t_not (t_tru (e_isi B.m_isinstance B.m_tuple (e_var 0)))) (w_or1 (t_cmp (op_neD hr.units) od_ne (e_blt call_len cd_len B.m_len (a_cons (e_var 0) a_nil)) (e_blt call_len cd_len B.m_len (a_cons (e_var 1) a_nil)) (nomark _)))))) (ss_one (s_ret (x_p e_bl))) ss_nil)
    (ss_one (s_ret (x_p (e_blt (cr_all rfl) cd_all B.m_all (a_cons (e_list (l_comp (N := nm_law_same) (sc := defScope st_law_same) [("_law_one", 2), ("_law_other", 3)] nd (i_zipA B.m_zip (a_cons (e_var 0) (a_cons (e_var 1) a_nil))) (fun _ _ _ _ _ => (g_tp (gs_cons (g_nm nd) (gs_cons (g_nm nd) gs_nil)))) (fun _ _ _ _ _ => ts_nil) (fun _ _ _ _ _ => (e_def ih hr (Nat.le_refl _) (a_cons (e_var 2) (a_cons (e_var 3) a_nil)))))) a_nil)))))) ss_nil)
    (ss_cons (s_if (x_t (t_cmp or_is od_is (e_var 1) e_non (nomark _))) (ss_one (s_ret (x_p (e_cmp or_is od_is (e_var 0) e_non (nomark _))))) ss_nil)
    (ss_cons (s_if (x_t (PW.pt (w_or (t_tru (e_isi B.m_isinstance B.m_bool (e_var 1))) (w_or1 (t_tru (e_isi B.m_isinstance B.m_bool (e_var 0))))))) (ss_one (s_ret (x_p (e_and (e_isi B.m_isinstance B.m_bool (e_var 1)) (e_and (e_isi B.m_isinstance B.m_bool (e_var 0)) (e_one (e_cmp (op_eqD hr.units) od_eq (e_var 0) (e_var 1) (nomark _)))))))) ss_nil)
    (ss_one (s_ret (x_p (e_and (e_isiT2 B.m_isinstance B.m_int B.m_str (e_var 0)) (e_one (e_cmp (op_eqD hr.units) od_eq (e_var 0) (e_var 1) (nomark _)))))))))))) hm F.kp hb
  exact step 8
/-! ### law_cell -/
abbrev st_law_cell : Stmt := topS 17
abbrev nm_law_cell : List Str := ["_law_script", "_law_k"]
theorem sc_law_cell : FnScope ["_law_script", "_law_k"] ["_law_script", "_law_k"] (defScope st_law_cell) :=
  ⟨rfl, rfl, rfl, by decide +kernel, rfl, by decide +kernel, by decide +kernel⟩
def g_law_cell : Fs :=
    (seqS (iteS (xt (b2T ltD (gv 1) (cf lenD (acons (gv 0) anil)))) (retS (xp (b2 ixD (gv 0) (gv 1)))) skipS)
    (retS (xp (cn (.int 0)))))
def fn_law_cell : List D → Option D := fnOf 2 2 g_law_cell
theorem ok_law_cell {fa : Addr} {fd : FuncData} (F : Fun K "_law_cell" "_law_cell" st_law_cell fa fd) (hm : mg "_law_cell" = some (.ref fa)) (hb : Binds K fd ["_law_script", "_law_k"] []) (B : Bl mg)   :
    Def P w K mg base "_law_cell" 1 fn_law_cell := by
  have nd := sc_law_cell.nd
  exact def_mk (fn_ok F sc_law_cell (fun cdv A outer s H E hr =>
    (ss_cons (s_if (x_t (t_cmp op_lt od_cmp (e_var 1) (e_blt call_len cd_len B.m_len (a_cons (e_var 0) a_nil)) (nomark _))) (ss_one (s_ret (x_p (e_ix ix_seq od_ix (e_var 0) (e_var 1) (fun _ _ => rfl))))) ss_nil)
    (ss_one (s_ret (x_p e_int)))))) hm F.kp hb
end
end Lw

namespace Lw
open PySem PySem.Spec L2 Tv Mt
-- taken_below
theorem taken_below_eq {s : Stk} (g : GoodS s) (p : Int) : fn_taken_below [sD s, .int p] = some (.int (below s p)) := by
  have h1 : s.1 ≠ 0 := by have := g.two; omega
  have h2 : s.1.natAbs < 1073741824 := by have := g.two; have := g.sm; omega
  unfold below
  by_cases h : p < s.2 <;> simp [fn_taken_below, g_taken_below, h1, h2, h]
-- count
theorem count_eq {r : Rl} (g : GoodR r) (p : Int) : fn_count [rD r, .int p] = some (.int (cnt r p)) := by
  obtain ⟨ρ', h1, d, h2⟩ := loop_fold (b := bindT (.nm 2)) (g := b_count_1) sD (fun (x : Int) ρ => ∃ d, ρ = [.val (rD r), .val (.int x), d]) (fun a s => left1 s a) GoodS
    (fun s hs x ρ ⟨d, e⟩ => by subst e; exact ⟨_, _, rfl, by simp [b_count_1, taken_below_eq hs]; exact ⟨rfl, rfl⟩, _, rfl⟩) r p [.val (rD r), .val (.int p), .un] g ⟨_, rfl⟩
  rw [cnt_fold]
  simp [fn_count, g_count, h1, h2]
-- takes
theorem takes_eq {s : Stk} (g : GoodS s) (p : Int) : fn_takes [sD s, .int p] = some (.bool (takesB s p)) := by
  have h1 : s.1 ≠ 0 := by have := g.two; omega
  simp [fn_takes, g_takes, h1, takesB]
-- walk
theorem bw_eq {s : Stk} (g : GoodS s) (acc : List Int) (n : Int) (x y : Sl) (hl : acc.length < 16777215) : b_walk_1 [x, y, .own (iL (acc ++ [n])), .val (sD s)] =
    if takesB s n = true then .rt (.tuple (iL (acc ++ [n]))) [x, y, .own (iL (acc ++ [n])), .val (sD s)] else .nx [x, y, .own (iL (acc ++ [n] ++ [left1 s n])), .val (sD s)] := by
  have h1 := last_iL acc n
  have h2 := noLs_iL (acc ++ [n])
  generalize e : iL (acc ++ [n]) = l at *
  have hlen : l.length < 16777216 := by rw [← e]; simp; omega
  by_cases h : takesB s n = true
  · rw [if_pos h]
    simp [b_walk_1, h1, takes_eq g, h, h2]
  · rw [if_neg h]
    simp [b_walk_1, h1, takes_eq g, h, h2, taken_below_eq g, hlen, left1]
    rw [← e]; simp
theorem walk_loop : ∀ {r : Rl} (_ : GoodR r) (acc : List Int) (n : Int) (x y d : Sl), acc.length + r.length < 16777215 → ∃ ρ', loopL (bindT (.nm 3)) b_walk_1 (r.map sD) [x, y, .own (iL (acc ++ [n])), d] =
    (if (stBy r n).isSome = true then .rt (.tuple (iL (acc ++ way r n))) ρ' else .nx [x, y, .own (iL (acc ++ way r n)), (match r.getLast? with | none => d | some s => .val (sD s))])
  | [], _, acc, n, x, y, d, _ => ⟨[], rfl⟩
  | s :: r, g, acc, n, x, y, d, hl => by
    simp only [List.length_cons] at hl
    rw [List.map_cons]
    unfold loopL
    simp only [bindT, List.set_cons_succ, List.set_cons_zero]
    rw [bw_eq g.head acc n x y (by omega)]
    unfold stBy way
    by_cases h : takesB s n = true
    · exact ⟨[x, y, .own (iL (acc ++ [n])), .val (sD s)], by simp [h]⟩
    · obtain ⟨ρ', ih⟩ := walk_loop g.tail (acc ++ [n]) (left1 s n) x y (.val (sD s)) (by simp; omega)
      refine ⟨ρ', ?_⟩
      simp only [h, Bool.false_eq_true, if_false]
      rw [ih]
      rw [List.append_assoc]
      cases q : stBy r (left1 s n) with
      | some k => simp
      | none =>
        simp [List.getLast?_cons]
        cases r.getLast? <;> rfl
theorem walk_eq {r : Rl} (g : GoodR r) (hl : r.length < 16777215) (n : Int) : fn_walk [rD r, .int n] = some (.tuple (iL (way r n))) := by
  obtain ⟨ρ', h⟩ := walk_loop g [] n (.val (rD r)) (.val (.int n)) .un (by simpa using hl)
  have h2 := noLs_iL (way r n)
  simp only [List.nil_append] at h
  have e : iL [n] = [PyData.int n] := rfl
  rw [e] at h
  generalize iL (way r n) = l at *
  cases q : stBy r n with
  | some k =>
    rw [q] at h
    simp [fn_walk, g_walk, h]
  | none =>
    rw [q] at h
    simp [fn_walk, g_walk, h, h2]
-- place_of
theorem place_of_eq {r : Rl} (g : GoodR r) (hl : r.length < 16777215) (n : Int) : fn_place_of [rD r, .int n] = some (oD (plOf r n)) := by
  have hw := way_len r n
  have hs := pl_st r n
  cases q : stBy r n with
  | some k =>
    rw [q] at hw hs
    have := st_lt q
    simp only at hw
    have e : plOf r n = none := by cases h : plOf r n with
      | none => rfl
      | some p => rw [h] at hs; cases hs
    have c : ((way r n).length : Int) ≤ (r.length : Int) := by omega
    simp [fn_place_of, g_place_of, walk_eq g hl, e, oD, c]
  | none =>
    rw [q] at hw hs
    simp only at hw
    have c : ¬ ((way r n).length : Int) ≤ (r.length : Int) := by omega
    cases h : plOf r n with
    | none => rw [h] at hs; cases hs
    | some p =>
      have hla := way_last h
      obtain ⟨l, e⟩ : ∃ l, way r n = l ++ [p] := by
        rw [List.getLast?_eq_some_iff] at hla
        exact hla
      have hx : atI (iL (way r n)) (-1) = some (.int p) := by rw [e]; exact last_iL l p
      simp [fn_place_of, g_place_of, walk_eq g hl, oD, c, hx]
-- law_mix
theorem law_mix_eq (c : Int) {p m : Int} (hp : 0 < p) (hp2 : p < 100000) (hm : m ≠ 0) : fn_law_mix [.int c, .int p, .int m] = some (.int (mixM c p m)) := by
  have h1 := @fmod_lt (c * 48271) p hp
  have h2 : sm64 ((c * 48271).fmod p) = true := by simp [sm64]; omega
  have h3 : sm64 48271 = true := rfl
  have h4 : p ≠ 0 := by omega
  simp [fn_law_mix, g_law_mix, mixM, h2, h3, h4, hm]
-- law_same
mutual
def okS : Nat → D → Bool
  | 0, _ => false
  | _ + 1, .none => true
  | _ + 1, .bool _ => true
  | _ + 1, .int _ => true
  | _ + 1, .str x => PyData.strOk x
  | n + 1, .tuple xs => decide (xs.length ≤ 16777216) && okSs n xs
  | _ + 1, _ => false
def okSs : Nat → List D → Bool
  | _, [] => true
  | n, x :: xs => okS n x && okSs n xs
end
theorem okSs_mem {n : Nat} : ∀ {xs : List D}, okSs n xs = true → ∀ x ∈ xs, okS n x = true
  | y :: xs, h, x, hx => by
    simp only [okSs, Bool.and_eq_true] at h
    rcases List.mem_cons.mp hx with rfl | hx
    · exact h.1
    · exact okSs_mem h.2 x hx
theorem okSs_of {n : Nat} : ∀ {xs : List D}, (∀ x ∈ xs, okS n x = true) → okSs n xs = true
  | [], _ => by simp [okSs]
  | y :: xs, h => by
    simp only [okSs, Bool.and_eq_true]
    exact ⟨h y List.mem_cons_self, okSs_of fun x hx => h x (List.mem_cons_of_mem _ hx)⟩
theorem zip_self (xs : List D) : zipL xs xs = xs.map fun a => PyData.tuple [a, a] := by
  unfold zipL
  induction xs with
  | nil => rfl
  | cons x xs ih => rw [List.zipWith_cons_cons, ih]; rfl
theorem same_rec : ∀ (n : Nat) (d : D), okS n d = true → r_law_same n [d, d] = some (.bool true)
  | 0, _, h => by simp [okS] at h
  | n + 1, d, h => by
    cases d with
    | none => simp [r_law_same, g_law_same]
    | bool b => simp [r_law_same, g_law_same]
    | int i => simp [r_law_same, g_law_same]
    | str s =>
      have hs : SeqAt.shaped (.str s) = true := by
        have hk : PyData.strOk s = true := by simpa [okS] using h
        simp [SeqAt.shaped, PyData.canLay0, PyData.depth, hk]
      simp [r_law_same, g_law_same, hs]
    | list xs => simp [okS] at h
    | dict xs => simp [okS] at h
    | tuple xs =>
      simp only [okS, Bool.and_eq_true, decide_eq_true_eq] at h
      have hm := okSs_mem h.2
      have hc := comp_map (b := bindT (.tp [2, 3])) (fe := e_law_same_1 (r_law_same n)) (fun a : D => PyData.tuple [a, a]) (fun _ => .bool true) [.val (.tuple xs), .val (.tuple xs), .un, .un] xs fun a ha => ⟨_, rfl, by
        have := same_rec n a (hm a ha)
        simp [e_law_same_1, this]⟩
      rw [← zip_self] at hc
      have hz : (zipL xs xs).length ≤ 16777216 := by rw [zip_self, List.length_map]; exact h.1
      have hb := boolsOf_mk (fun _ : D => true) xs
      have ha : (xs.map fun _ => true).all id = true := by rw [List.all_map]; simp
      simp [r_law_same, g_law_same, hz, hc, hb, ha]
theorem law_same_eq {a b : D} (e : a = b) (h : okS 8 b = true) : fn_law_same [a, b] = some (.bool true) := by
  subst e
  exact same_rec 8 a h
theorem okS_ints (n : Nat) (l : List Int) (h : l.length ≤ 16777216) : okS (n + 2) (.tuple (l.map .int)) = true := by
  simp only [okS, Bool.and_eq_true, decide_eq_true_eq]
  refine ⟨by simpa using h, okSs_of fun x hx => ?_⟩
  obtain ⟨i, _, rfl⟩ := List.mem_map.mp hx
  rfl
-- law_cell
theorem law_cell_eq (ns : List Int) {k : Int} (hk : 0 ≤ k) : fn_law_cell [scr ns, .int k] = some (.int (cellM ns k)) := by
  by_cases h : k < (ns.length : Int)
  · have e : atI (ns.map PyData.int) k = some (.int (cellM ns k)) := by
      obtain ⟨j, rfl⟩ : ∃ j : Nat, k = j := ⟨k.toNat, by omega⟩
      have hj : j < ns.length := by omega
      refine atI_nat ?_
      simp [cellM, hj]
    simp [fn_law_cell, g_law_cell, scr, h, e]
  · have e : cellM ns k = 0 := by
      unfold cellM
      rw [List.getD_eq_getElem?_getD, List.getElem?_eq_none (by omega)]; rfl
    simp [fn_law_cell, g_law_cell, scr, h, e]
end Lw

namespace Lw
open PySem PySem.Spec L2 Tv Mt
theorem m_rule_eq (C : Addr) (r : Rl) : fm_rule C (rD r) [] = some (rD r) := by simp [fm_rule, g_m_rule]
theorem m_count_eq (C : Addr) {r : Rl} (g : GoodR r) (n : Int) : fm_count C (rD r) [.int n] = some (.int (cnt r n)) := by simp [fm_count, g_m_count, count_eq g]
theorem m_place_of_eq (C : Addr) {r : Rl} (g : GoodR r) (hl : r.length < 16777215) (n : Int) : fm_place_of C (rD r) [.int n] = some (oD (plOf r n)) := by simp [fm_place_of, g_m_place_of, place_of_eq g hl]
theorem m_strike_eq (CE C : Addr) {r : Rl} (hl : r.length ≤ 1000) {a b : Int} (h1 : 1 ≤ b) (h2 : b ≤ a) : fm_strike CE C (rD r) [.int a, .int b] = some (.ok (rD (r ++ [(a, b)]))) := by
  have c1 : r.length + 1 ≤ 16777216 := by omega
  have c2 : r.length ≤ 16777215 := by omega
  simp [fm_strike, c_m_strike, v_m_strike, h1, h2, c1, c2]
theorem m_back_eq (CE C : Addr) {r : Rl} (hn : r ≠ []) : fm_back CE C (rD r) [] = some (.ok (rD r.dropLast)) := by
  have h : r.isEmpty = false := by simpa using hn
  have h2 := cut_init (r.map sD)
  have e : (r.map sD).dropLast = r.dropLast.map sD := by rw [List.map_dropLast]
  rw [e] at h2
  simp [fm_back, c_m_back, v_m_back, h, h2]
theorem good_snoc {r : Rl} {s : Stk} (g : GoodR r) (gs : GoodS s) : GoodR (r ++ [s]) := fun t ht => by
  rcases List.mem_append.mp ht with ht | ht
  · exact g t ht
  · simp at ht; subst ht; exact gs
abbrev noS : D := .str (Str.ofString "no strike")
theorem sh_noS : SeqAt.shaped noS = true := by
  have hk : PyData.strOk (Str.ofString "no strike") = true := by decide +kernel
  simp [SeqAt.shaped, PyData.canLay0, PyData.depth, hk]
theorem told_nil (CE C : Addr) : fn_law_told CE C (rD []) [.none] = some (noS, rD []) := by
  have h : fm_back CE C (rD []) [] = some (.ex (.ref CE)) := by simp [fm_back, c_m_back]
  simp only [rD, List.map_nil] at *
  simp [fn_law_told, c_law_told, h, moT]
theorem told_back (CE C : Addr) {r : Rl} (hn : r ≠ []) : fn_law_told CE C (rD r) [.none] = some (.none, rD r.dropLast) := by
  have h := m_back_eq CE C hn
  have hno := noLs_rD r.dropLast
  simp only [rD] at *
  generalize r.map sD = R at *
  generalize r.dropLast.map sD = R2 at *
  simp [fn_law_told, c_law_told, h, moT, hno]
theorem told_bad (CE C : Addr) {r : Rl} {a b : Int} (hb : ¬ (1 ≤ b ∧ b ≤ a)) : fn_law_told CE C (rD r) [.tuple [.int a, .int b]] = some (noS, rD r) := by
  have h : fm_strike CE C (rD r) [.int a, .int b] = some (.ex (.ref CE)) := by
    by_cases h1 : 1 ≤ b
    · have h2 : ¬ b ≤ a := fun h => hb ⟨h1, h⟩
      simp [fm_strike, c_m_strike, h1, h2]
    · simp [fm_strike, c_m_strike, h1]
  simp only [rD] at *
  generalize r.map sD = R at *
  simp [fn_law_told, c_law_told, f_law_told, h, moT]
theorem told_good (CE C : Addr) {r : Rl} (hl : r.length ≤ 1000) {a b : Int} (h1 : 1 ≤ b) (h2 : b ≤ a) : fn_law_told CE C (rD r) [.tuple [.int a, .int b]] = some (.none, rD (r ++ [(a, b)])) := by
  have h := m_strike_eq CE C hl h1 h2
  have hno := noLs_rD (r ++ [(a, b)])
  simp only [rD] at *
  generalize r.map sD = R at *
  generalize (r ++ [(a, b)]).map sD = R2 at *
  simp [fn_law_told, c_law_told, f_law_told, h, moT, hno]
theorem good_drop {r : Rl} (g : GoodR r) : GoodR r.dropLast := fun s hs => g s (List.dropLast_sublist r |>.subset hs)
theorem okS_rD {r : Rl} (n : Nat) (h : r.length ≤ 1000) : okS (n + 3) (rD r) = true := by
  show okS (n + 3) (.tuple (r.map sD)) = true
  rw [okS]
  simp only [Bool.and_eq_true, decide_eq_true_eq]
  refine ⟨by simp; omega, okSs_of fun x hx => ?_⟩
  obtain ⟨s, _, rfl⟩ := List.mem_map.mp hx
  rfl
theorem okS_noS (n : Nat) : okS (n + 1) noS = true := by
  have hk : PyData.strOk (Str.ofString "no strike") = true := by decide +kernel
  simpa [okS] using hk
theorem okS_oD (n : Nat) (o : Option Int) : okS (n + 1) (oD o) = true := by cases o <;> rfl
theorem lives_eq (CE C : Addr) {r : Rl} (gr : GoodR r) (hr : r.length ≤ 100) (c : Int) : ∃ (res : D) (r' : Rl), fn_law_lives CE C (rD r) [.int c] = some (res, rD r') ∧ GoodR r' ∧ r'.length ≤ r.length + 1 ∧ noL res = true ∧ noL (rD r') = true ∧ okS 7 res = true := by
  have e1 := law_mix_eq c (p := 9781) (m := 9) (by omega) (by omega) (by omega)
  have b1 := @mixM_lt c 9781 9 (by omega)
  generalize mixM c 9781 9 = m1 at e1 b1
  have e2 := law_mix_eq c (p := 9769) (m := 2 + m1 + 2) (by omega) (by omega) (by omega)
  have b2 := @mixM_lt c 9769 (2 + m1 + 2) (by omega)
  generalize mixM c 9769 (2 + m1 + 2) = m2 at e2 b2
  have e3 := law_mix_eq c (p := 9767) (m := 3) (by omega) (by omega) (by omega)
  generalize mixM c 9767 3 = m3 at e3
  have e4 := law_mix_eq c (p := 9749) (m := 121) (by omega) (by omega) (by omega)
  generalize mixM c 9749 121 = m4 at e4
  have e5 := law_mix_eq c (p := 9739) (m := 120) (by omega) (by omega) (by omega)
  generalize mixM c 9739 120 = m5 at e5
  -- the strike, and what is told
  obtain ⟨st, t, r', hst, hsn, hto, gr', hr', ht⟩ : ∃ (st t : D) (r' : Rl), f2_law_lives C [.svF C (rD r), .val (.int c), .val (.int (2 + m1)), .un, .un] = some st ∧ noL st = true ∧ fn_law_told CE C (rD r) [st] = some (t, rD r') ∧ GoodR r' ∧ r'.length ≤ r.length + 1 ∧ (t = .none ∨ t = noS) := by
    by_cases c3 : m3 = 0
    · subst c3
      have hf : f2_law_lives C [.svF C (rD r), .val (.int c), .val (.int (2 + m1)), .un, .un] = some .none := by simp [f2_law_lives, e3]
      by_cases c4 : r = []
      · subst c4
        exact ⟨.none, noS, [], hf, rfl, told_nil CE C, gr, by simp, .inr rfl⟩
      · exact ⟨.none, .none, r.dropLast, hf, rfl, told_back CE C c4, good_drop gr, by simp; omega, .inl rfl⟩
    · have hm3 : (m3 == 0) = false := by simp [c3]
      have hf : f2_law_lives C [.svF C (rD r), .val (.int c), .val (.int (2 + m1)), .un, .un] = some (.tuple [.int (2 + m1), .int m2]) := by simp [f2_law_lives, e3, hm3, e2]
      by_cases c5 : 1 ≤ m2 ∧ m2 ≤ 2 + m1
      · exact ⟨_, .none, r ++ [(2 + m1, m2)], hf, rfl, told_good CE C (by omega) c5.1 c5.2, good_snoc gr ⟨by dsimp only; omega, by dsimp only; omega, by dsimp only; omega, by dsimp only; omega⟩, by simp, .inl rfl⟩
      · exact ⟨_, noS, r, hf, rfl, told_bad CE C c5, gr, by omega, .inr rfl⟩
  have hru := m_rule_eq C r'
  have hcn := m_count_eq C gr' m4
  have hpl := m_place_of_eq C gr' (by omega) (1 + m5)
  have hno : noL (rD r') = true := noLs_rD r'
  have hno2 := noLs_rD r'
  have hnt : noL t = true := by rcases ht with rfl | rfl <;> rfl
  have hnp : noL (oD (plOf r' (1 + m5))) = true := by cases plOf r' (1 + m5) <;> rfl
  have hok : okS 7 (.tuple [t, rD r', .int (cnt r' m4), oD (plOf r' (1 + m5))]) = true := by
    have k1 : okS 6 t = true := by
      rcases ht with rfl | rfl
      · rfl
      · exact okS_noS 5
    have k2 := okS_rD (r := r') 3 (by omega)
    have k3 := okS_oD 5 (plOf r' (1 + m5))
    rw [okS]
    simp only [okSs, k1, k2, k3]; rfl
  refine ⟨.tuple [t, rD r', .int (cnt r' m4), oD (plOf r' (1 + m5))], r', ?_, gr', hr', by simp [hnt, hnp, hno2], hno, hok⟩
  have hf1 : f1_law_lives C [.svF C (rD r), .val (.int c), .un, .un, .un] = some (.int (2 + m1)) := by simp [f1_law_lives, e1]
  have hf4 : f4_law_lives C [.svF C (rD r'), .val (.int c), .val (.int (2 + m1)), .val st, .val t] = some (.tuple [t, rD r', .int (cnt r' m4), oD (plOf r' (1 + m5))]) := by
    generalize oD (plOf r' (1 + m5)) = P1 at *
    generalize rD r' = R' at *
    simp [f4_law_lives, hru, hcn, hpl, e4, e5]
  have hall : List.all [Sl.svF C (rD r), .val (.int c), .val (.int (2 + m1)), .val st, .un] noSl = true := by simp [noSl, hsn]
  generalize oD (plOf r' (1 + m5)) = P1 at *
  generalize rD r' = R' at *
  generalize rD r = R at *
  simp [fn_law_lives, livesV, st0, hf1, hst, hall, hto, hf4]
  try simpa [noSl] using hsn
section
variable {P : Program} {w : World} {K : PySem.W.Frag} {mg : Str → Option Value} {base : Heap}
/-! ### law -/
abbrev st_law : Stmt := topS 23
abbrev nm_law : List Str := ["_law_script", "_law_k", "_law_bounds", "_law_things", "_law_n", "_law_rows", "_law_cells", "_law_turn", "_law_cell_here", "_law_lone"]
theorem sc_law : FnScope ["_law_script", "_law_k", "_law_bounds", "_law_things", "_law_n", "_law_rows", "_law_cells", "_law_turn", "_law_cell_here", "_law_lone"] ["_law_script"] (defScope st_law) :=
  ⟨rfl, rfl, rfl, by decide +kernel, rfl, by decide +kernel, by decide +kernel⟩
/-! #### what lies beside the store -/
theorem runV_snoc {fv : D → List D → Option (D × D)} {c r d2 : D} (hr : noL r = true) (hn : noL d2 = true) : ∀ {cs rs : List D} {d d1 : D}, runV fv d cs = some (rs, d1) → fv d1 [c] = some (r, d2) → runV fv d (cs ++ [c]) = some (rs ++ [r], d2)
  | [], rs, d, d1, h, h2 => by
    cases h
    simp [runV, h2, hr, hn]
  | x :: cs, rs, d, d1, h, h2 => by
    unfold runV at h
    cases q : fv d [x] with
    | none => rw [q] at h; cases h
    | some p =>
      obtain ⟨r0, d0⟩ := p
      rw [q] at h
      simp only at h
      split at h
      · rename_i hn0
        cases q2 : runV fv d0 cs with
        | none => rw [q2] at h; cases h
        | some p2 =>
          obtain ⟨rs2, d3⟩ := p2
          rw [q2] at h
          cases h
          have ih := runV_snoc hr hn q2 h2
          show runV fv d (x :: (cs ++ [c])) = _
          unfold runV
          rw [q]
          simp only
          rw [if_pos hn0, ih]; rfl
      · cases h
def pick {α : Type} (f : Nat → α) (n : Nat) (x : α) : Nat → α := fun m => if m = n then x else f m
theorem pick_same {α : Type} {f : Nat → α} {n : Nat} {x : α} : pick f n x n = x := if_pos rfl
theorem pick_ne {α : Type} {f : Nat → α} {n m : Nat} {x : α} (h : m ≠ n) : pick f n x m = f m := if_neg h
structure Sk (ns : List Int) (k : Int) (a r c : Nat → Addr) (ρ : Store) : Prop where
  len : ρ.length = 10
  s0 : ρ[0]? = some (.val (scr ns))
  s1 : ρ[1]? = some (.val (.int k))
  s3 : ρ[3]? = some (.val (.list [excD (a 0), excD (a 1), excD (a 2)]))
  s5 : ρ[5]? = some (.val (.list [excD (r 0), excD (r 1), excD (r 2)]))
  s6 : ρ[6]? = some (.val (.list [excD (c 0), excD (c 1), excD (c 2)]))
theorem Sk.set {ns : List Int} {k : Int} {a r c : Nat → Addr} {ρ : Store} (h : Sk ns k a r c ρ) {i : Nat} (hi : i = 2 ∨ i = 4 ∨ i = 7 ∨ i = 8 ∨ i = 9) (s : Sl) : Sk ns k a r c (ρ.set i s) :=
  ⟨by rw [List.length_set]; exact h.len, by rw [List.getElem?_set_ne (by omega)]; exact h.s0, by rw [List.getElem?_set_ne (by omega)]; exact h.s1, by rw [List.getElem?_set_ne (by omega)]; exact h.s3, by rw [List.getElem?_set_ne (by omega)]; exact h.s5, by rw [List.getElem?_set_ne (by omega)]; exact h.s6⟩
theorem ix3 (f : Nat → Addr) {n : Nat} (h : n < 3) : ixD (.list [excD (f 0), excD (f 1), excD (f 2)]) (.int (n : Int)) = some (excD (f n)) := by
  refine atI_nat ?_
  match n, h with
  | 0, _ => rfl
  | 1, _ => rfl
  | 2, _ => rfl
structure Ds (a r c : Nat → Addr) : Prop where
  na : ∀ m n, m < 3 → n < 3 → m ≠ n → a m ≠ a n
  nr : ∀ m n, m < 3 → n < 3 → m ≠ n → r m ≠ r n
  nc : ∀ m n, m < 3 → n < 3 → m ≠ n → c m ≠ c n
  rc : ∀ m n, m < 3 → n < 3 → r m ≠ c n
structure Po (p : Pf) (a r c dx : Nat → Addr) (d : Nat → D) (row : Nat → List D) (cel : Nat → List Int) : Prop where
  a : ∀ n, n < 3 → p (a n) = some (.ins (dx n) (d n))
  r : ∀ n, n < 3 → p (r n) = some (.lst (row n))
  c : ∀ n, n < 3 → p (c n) = some (.lst ((cel n).map .int))
section
variable {p : Pf} {a r c dx : Nat → Addr} {d : Nat → D} {row : Nat → List D} {cel : Nat → List Int} {n : Nat}
theorem Po.cell (P : Po p a r c dx d row cel) (D : Ds a r c) (h : n < 3) (x : Int) : Po (setP p (c n) (.lst ((cel n ++ [x]).map .int))) a r c dx d row (pick cel n (cel n ++ [x])) := by
  refine ⟨fun m hm => ?_, fun m hm => ?_, fun m hm => ?_⟩
  · rw [setP_ne (fun z => by have := P.a m hm; rw [z, P.c n h] at this; cases this)]; exact P.a m hm
  · rw [setP_ne (D.rc m n hm h)]; exact P.r m hm
  · by_cases e : m = n
    · subst e; rw [setP_same, pick_same]
    · rw [setP_ne (D.nc m n hm h e), pick_ne e]; exact P.c m hm
theorem Po.row' (P : Po p a r c dx d row cel) (D : Ds a r c) (h : n < 3) (x : PyData) : Po (setP p (r n) (.lst (row n ++ [x]))) a r c dx d (pick row n (row n ++ [x])) cel := by
  refine ⟨fun m hm => ?_, fun m hm => ?_, fun m hm => ?_⟩
  · rw [setP_ne (fun z => by have := P.a m hm; rw [z, P.r n h] at this; cases this)]; exact P.a m hm
  · by_cases e : m = n
    · subst e; rw [setP_same, pick_same]
    · rw [setP_ne (D.nr m n hm h e), pick_ne e]; exact P.r m hm
  · rw [setP_ne (Ne.symm (D.rc n m h hm))]; exact P.c m hm
theorem Po.live (P : Po p a r c dx d row cel) (D : Ds a r c) (h : n < 3) (x : PyData) : Po (setP p (a n) (.ins (dx n) x)) a r c dx (pick d n x) row cel := by
  refine ⟨fun m hm => ?_, fun m hm => ?_, fun m hm => ?_⟩
  · by_cases e : m = n
    · subst e; rw [setP_same, pick_same]
    · rw [setP_ne (D.na m n hm h e), pick_ne e]; exact P.a m hm
  · rw [setP_ne (fun z => by have := P.r m hm; rw [z, P.a n h] at this; cases this)]; exact P.r m hm
  · rw [setP_ne (fun z => by have := P.c m hm; rw [z, P.a n h] at this; cases this)]; exact P.c m hm
theorem Po.new (P : Po p a r c dx d row cel) {l : Addr} (h : p l = none) (x : Pc) : Po (setP p l x) a r c dx d row cel :=
  ⟨fun m hm => by rw [setP_ne (fun z => by have := P.a m hm; rw [z, h] at this; cases this)]; exact P.a m hm, fun m hm => by rw [setP_ne (fun z => by have := P.r m hm; rw [z, h] at this; cases this)]; exact P.r m hm,
   fun m hm => by rw [setP_ne (fun z => by have := P.c m hm; rw [z, h] at this; cases this)]; exact P.c m hm⟩
end
structure Ok3 (fv : D → List D → Option (D × D)) (j : Nat) (d : Nat → D) (row : Nat → List D) (cel : Nat → List Int) : Prop where
  run : ∀ n, n < 3 → runV fv (.tuple []) ((cel n).map .int) = some (row n, d n)
  rd : ∀ n, n < 3 → ∃ q, d n = rD q ∧ GoodR q ∧ q.length ≤ j
  len : ∀ n, n < 3 → (cel n).length ≤ j ∧ (row n).length ≤ j
  ok : ∀ n, n < 3 → ∀ x ∈ row n, okS 7 x = true
theorem Ok3.step {CE C : Addr} {j n : Nat} {d : Nat → D} {row : Nat → List D} {cel : Nat → List Int} (O : Ok3 (fn_law_lives CE C) j d row cel) (h : n < 3) (hj : j ≤ 50) (x : Int) : ∃ res d', fn_law_lives CE C (d n) [.int x] = some (res, d') ∧ noL res = true ∧ noL d' = true ∧
    Ok3 (fn_law_lives CE C) (j + 1) (pick d n d') (pick row n (row n ++ [res])) (pick cel n (cel n ++ [x])) := by
  obtain ⟨q, e, gq, hq⟩ := O.rd n h
  obtain ⟨res, q', h1, g', hl, n1, n2, k7⟩ := lives_eq CE C gq (by omega) x
  rw [← e] at h1
  refine ⟨res, rD q', h1, n1, n2, fun m hm => ?_, fun m hm => ?_, fun m hm => ?_, fun m hm y hy => ?_⟩
  · by_cases em : m = n
    · subst em
      rw [pick_same, pick_same, pick_same, List.map_append]
      exact runV_snoc n1 n2 (O.run m hm) h1
    · rw [pick_ne em, pick_ne em, pick_ne em]; exact O.run m hm
  · by_cases em : m = n
    · subst em
      rw [pick_same]
      exact ⟨q', rfl, g', by omega⟩
    · rw [pick_ne em]
      obtain ⟨q2, a1, a2, a3⟩ := O.rd m hm
      exact ⟨q2, a1, a2, by omega⟩
  · have := O.len m hm
    by_cases em : m = n
    · subst em
      rw [pick_same, pick_same, List.length_append, List.length_append]
      simp only [List.length_cons, List.length_nil]; omega
    · rw [pick_ne em, pick_ne em]; omega
  · by_cases em : m = n
    · subst em
      rw [pick_same] at hy
      rcases List.mem_append.mp hy with hy | hy
      · exact O.ok m hm y hy
      · rw [List.mem_singleton.mp hy]; exact k7
    · rw [pick_ne em] at hy; exact O.ok m hm y hy
theorem okS_row {l : List D} (h : ∀ x ∈ l, okS 7 x = true) (hl : l.length ≤ 1000) : okS 8 (.tuple l) = true := by
  rw [okS]
  simp only [Bool.and_eq_true, decide_eq_true_eq]
  exact ⟨by omega, okSs_of h⟩
/-! #### the assertions -/
def Bs (ns : List Int) (S : Store × Pf) : Prop := S.1.length = 10 ∧ S.1[0]? = some (.val (scr ns))
def Bk (ns : List Int) (k : Nat) (S : Store × Pf) : Prop := Bs ns S ∧ S.1[1]? = some (.val (.int (k : Int)))
def Th (ns : List Int) (k : Nat) (S : Store × Pf) : Prop := Bk ns k S ∧ ∃ a0 a1 a2, S.1[3]? = some (.val (.list [excD a0, excD a1, excD a2])) ∧ [a0, a1, a2].Nodup ∧ ∀ a ∈ [a0, a1, a2], ∃ dx, S.2 a = some (.ins dx (.tuple []))
def Iv (CE C : Addr) (ns : List Int) (k j : Nat) (S : Store × Pf) : Prop := ∃ a r c dx d row cel, Sk ns (k : Int) a r c S.1 ∧ Ds a r c ∧ Po S.2 a r c dx d row cel ∧ Ok3 (fn_law_lives CE C) j d row cel
theorem Iv.set {CE C : Addr} {ns : List Int} {k j : Nat} {S : Store × Pf} (h : Iv CE C ns k j S) {i : Nat} (hi : i = 2 ∨ i = 4 ∨ i = 7 ∨ i = 8 ∨ i = 9) (s : Sl) : Iv CE C ns k j (S.1.set i s, S.2) :=
  let ⟨a, r, c, dx, d, row, cel, h1, h2, h3, h4⟩ := h
  ⟨a, r, c, dx, d, row, cel, h1.set hi s, h2, h3, h4⟩
theorem Iv.len {CE C : Addr} {ns : List Int} {k j : Nat} {S : Store × Pf} (h : Iv CE C ns k j S) : S.1.length = 10 := let ⟨_, _, _, _, _, _, _, h1, _⟩ := h; h1.len
theorem Iv.bs {CE C : Addr} {ns : List Int} {k j : Nat} {S : Store × Pf} (h : Iv CE C ns k j S) : Bs ns S := let ⟨_, _, _, _, _, _, _, h1, _⟩ := h; ⟨h1.len, h1.s0⟩
def Md (CE C : Addr) (ns : List Int) (k j : Nat) (S : Store × Pf) : Prop := ∃ (a r c dx : Nat → Addr) (d : Nat → D) (row : Nat → List D) (cel : Nat → List Int) (n : Nat) (x : Int), Sk ns (k : Int) a r c S.1 ∧ Ds a r c ∧ Po S.2 a r c dx d row (pick cel n (cel n ++ [x])) ∧ Ok3 (fn_law_lives CE C) j d row cel ∧
  n < 3 ∧ S.1[4]? = some (.val (.int (n : Int))) ∧ S.1[8]? = some (.val (.int x))
def Ln (CE C : Addr) (ns : List Int) (k : Nat) (S : Store × Pf) : Prop := ∃ (a r c dx : Nat → Addr) (d : Nat → D) (row : Nat → List D) (cel : Nat → List Int) (n : Nat) (p : Pf) (l lx : Addr), Sk ns (k : Int) a r c S.1 ∧ Ds a r c ∧ Po p a r c dx d row cel ∧ Ok3 (fn_law_lives CE C) 18 d row cel ∧
  n < 3 ∧ S.1[4]? = some (.val (.int (n : Int))) ∧ S.1[9]? = some (.val (excD l)) ∧ l ≠ lx ∧ p l = none ∧ p lx = none ∧ S.2 = setP (setP p lx (.own l)) l (.ins lx (.tuple []))
/-! #### the walk -/
open Classical in
noncomputable def fn_law (_ _ : Addr) : List D → Option D := fun l => if ∃ ns : List Int, l = [scr ns] then some (.bool true) else none
theorem law_true (CE C : Addr) (ns : List Int) (_ : ns.length ≤ 63) : fn_law CE C [scr ns] = some (.bool true) := if_pos ⟨ns, rfl⟩
theorem law_inv {CE C : Addr} {l : List D} {d : D} (h : fn_law CE C l = some d) : ∃ ns, l = [scr ns] ∧ d = .bool true := by
  unfold fn_law at h
  split at h
  · rename_i hn
    obtain ⟨ns, e⟩ := hn
    exact ⟨ns, e, (Option.some.inj h).symm⟩
  · cases h
theorem rng_get {n j : Nat} {d : D} (h : (rng 0 (n : Int))[j]? = some d) : d = .int (j : Int) ∧ j < n := by
  rw [rng_nat, List.getElem?_map] at h
  cases q : (List.range n)[j]? with
  | none => rw [q] at h; cases h
  | some i =>
    rw [q] at h
    obtain ⟨h1, h2⟩ := List.getElem?_eq_some_iff.mp q
    rw [List.getElem_range] at h2
    subst h2
    cases h
    exact ⟨rfl, by simpa using h1⟩
theorem Bk.set {ns : List Int} {k : Nat} {S : Store × Pf} (h : Bk ns k S) {i : Nat} (hi : 2 ≤ i) (s : Sl) (p : Pf) : Bk ns k (S.1.set i s, p) :=
  ⟨⟨by rw [List.length_set]; exact h.1.1, by rw [List.getElem?_set_ne (by omega)]; exact h.1.2⟩, by rw [List.getElem?_set_ne (by omega)]; exact h.2⟩
theorem th_of {ns : List Int} {k : Nat} {S : Store × Pf} {p : Pf} {as : List Addr} (h : Bk ns k S) (hl : as.length = 3) (ni : NI S.2 p as) : Th ns k (S.1.set 3 (.val (.list (as.map excD))), p) := by
  match as, hl with
  | [a0, a1, a2], _ =>
    refine ⟨h.set (by omega) _ _, a0, a1, a2, List.getElem?_set_self (by rw [h.1.1]; omega), ni.nd, ni.at_⟩
def f3 {α : Type} (x y z : α) : Nat → α | 0 => x | 1 => y | _ => z
theorem all3 {q : Nat → Prop} (h0 : q 0) (h1 : q 1) (h2 : q 2) : ∀ n, n < 3 → q n
  | 0, _ => h0
  | 1, _ => h1
  | 2, _ => h2
  | n + 3, h => absurd h (by omega)
theorem pairs3 {α : Type} {x y z : α} (h1 : x ≠ y) (h2 : x ≠ z) (h3 : y ≠ z) : ∀ m n, m < 3 → n < 3 → m ≠ n → f3 x y z m ≠ f3 x y z n := fun m n hm hn =>
  all3 (q := fun m => ∀ n, n < 3 → m ≠ n → f3 x y z m ≠ f3 x y z n)
    (all3 (fun h => absurd rfl h) (fun _ => h1) (fun _ => h2)) (all3 (fun _ => h1.symm) (fun h => absurd rfl h) (fun _ => h3)) (all3 (fun _ => h2.symm) (fun _ => h3.symm) (fun h => absurd rfl h)) m hm n hn
theorem iv_of {CE C : Addr} {ns : List Int} {k : Nat} {S : Store × Pf} {p1 p2 : Pf} {r0 r1 r2 c0 c1 c2 : Addr} (h : Th ns k S) (T1 : Three S.2 p1 r0 r1 r2) (T2 : Three p1 p2 c0 c1 c2) :
    Iv CE C ns k 0 ((S.1.set 5 (.val (.list [excD r0, excD r1, excD r2]))).set 6 (.val (.list [excD c0, excD c1, excD c2])), p2) := by
  obtain ⟨hb, a0, a1, a2, h3, hnd, hat⟩ := h
  obtain ⟨q0, m0⟩ := hat a0 (by simp)
  obtain ⟨q1, m1⟩ := hat a1 (by simp)
  obtain ⟨q2, m2⟩ := hat a2 (by simp)
  simp only [List.nodup_cons, List.mem_cons, List.not_mem_nil, or_false, not_or] at hnd
  obtain ⟨⟨n01, n02⟩, n12, _⟩ := hnd
  have hlen := hb.1.1
  -- the pool before the rows
  have ne : ∀ {b c l}, S.2 b = some c → S.2 l = none → b ≠ l := fun {b c l} q z e => by rw [e, z] at q; cases q
  have up1 : ∀ {b c}, S.2 b = some c → p1 b = some c := fun {b c} q => by
    rw [T1.eq, setP_ne (ne q T1.z2), setP_ne (ne q T1.z1), setP_ne (ne q T1.z0)]; exact q
  have ne1 : ∀ {b c l}, p1 b = some c → p1 l = none → b ≠ l := fun {b c l} q z e => by rw [e, z] at q; cases q
  have up2 : ∀ {b c}, p1 b = some c → p2 b = some c := fun {b c} q => by
    rw [T2.eq, setP_ne (ne1 q T2.z2), setP_ne (ne1 q T2.z1), setP_ne (ne1 q T2.z0)]; exact q
  have x0 : p1 r0 = some (.lst []) := by rw [T1.eq, setP_ne T1.n02, setP_ne T1.n01, setP_same]
  have x1 : p1 r1 = some (.lst []) := by rw [T1.eq, setP_ne T1.n12, setP_same]
  have x2 : p1 r2 = some (.lst []) := by rw [T1.eq, setP_same]
  have y0 : p2 c0 = some (.lst []) := by rw [T2.eq, setP_ne T2.n02, setP_ne T2.n01, setP_same]
  have y1 : p2 c1 = some (.lst []) := by rw [T2.eq, setP_ne T2.n12, setP_same]
  have y2 : p2 c2 = some (.lst []) := by rw [T2.eq, setP_same]
  refine ⟨f3 a0 a1 a2, f3 r0 r1 r2, f3 c0 c1 c2, f3 q0 q1 q2, fun _ => .tuple [], fun _ => [], fun _ => [], ⟨?_, ?_, ?_, ?_, ?_, ?_⟩, ⟨pairs3 n01 n02 n12, pairs3 T1.n01 T1.n02 T1.n12, pairs3 T2.n01 T2.n02 T2.n12, ?_⟩,
    ⟨all3 (up2 (up1 m0)) (up2 (up1 m1)) (up2 (up1 m2)), all3 (up2 x0) (up2 x1) (up2 x2), all3 y0 y1 y2⟩, ⟨fun _ _ => rfl, fun _ _ => ⟨[], rfl, fun s hs => (by cases hs), Nat.le_refl _⟩, fun _ _ => ⟨Nat.le_refl _, Nat.le_refl _⟩, fun _ _ x hx => (by cases hx)⟩⟩
  · rw [List.length_set, List.length_set]; exact hlen
  · rw [List.getElem?_set_ne (by omega), List.getElem?_set_ne (by omega)]; exact hb.1.2
  · rw [List.getElem?_set_ne (by omega), List.getElem?_set_ne (by omega)]; exact hb.2
  · rw [List.getElem?_set_ne (by omega), List.getElem?_set_ne (by omega)]; exact h3
  · rw [List.getElem?_set_ne (by omega), List.getElem?_set_self (by omega)]; rfl
  · rw [List.getElem?_set_self (by rw [List.length_set]; omega)]; rfl
  · intro m n hm hn
    refine all3 (q := fun m => ∀ n, n < 3 → f3 r0 r1 r2 m ≠ f3 c0 c1 c2 n) (all3 ?_ ?_ ?_) (all3 ?_ ?_ ?_) (all3 ?_ ?_ ?_) m hm n hn
    · exact ne1 x0 T2.z0
    · exact ne1 x0 T2.z1
    · exact ne1 x0 T2.z2
    · exact ne1 x1 T2.z0
    · exact ne1 x1 T2.z1
    · exact ne1 x1 T2.z2
    · exact ne1 x2 T2.z0
    · exact ne1 x2 T2.z1
    · exact ne1 x2 T2.z2
def M1 (CE C : Addr) (ns : List Int) (y : Nat × Nat) (S : Store × Pf) : Prop := Iv CE C ns y.1 y.2 S ∧ y.2 < 18 ∧ ∃ x : Int, S.1[8]? = some (.val (.int x))
def M2 (CE C : Addr) (ns : List Int) (y : Nat × Nat) (S : Store × Pf) : Prop := Iv CE C ns y.1 y.2 S ∧ y.2 < 18 ∧ ∃ x n, S.1[8]? = some (.val (.int x)) ∧ n < 3 ∧ S.1[4]? = some (.val (.int ((n : Nat) : Int)))
def M3 (CE C : Addr) (ns : List Int) (y : Nat × Nat) (S : Store × Pf) : Prop := Md CE C ns y.1 y.2 S ∧ y.2 < 18
theorem cell_at {ns : List Int} {k j : Nat} {ρ : Store} (h0 : ρ[0]? = some (.val (scr ns))) (h1 : ρ[1]? = some (.val (.int (k : Int)))) (h7 : ρ[7]? = some (.val (.int (j : Int)))) : ∃ x : Int,
    (b2 addD (b2 addD (cf fn_law_cell (acons (gv 0) (acons (b2 addD (cn (.int 3)) (b2 modD (gv 7) (cn (.int 7)))) anil))) (b2 mulD (cn (.int 41)) (gv 7))) (gv 1)) ρ = some (.int x) := by
  have hc := law_cell_eq ns (k := 3 + (j : Int).fmod 7) (by have := @Int.fmod_nonneg_of_pos (j : Int) 7 (by omega); omega)
  have s41 : sm64 41 = true := rfl
  exact ⟨_, by simp only [b2, cf, acons, anil, gv, cn, h0, h1, h7]; simp [hc, s41]; rfl⟩
theorem n_at {ρ : Store} {x : Int} (h8 : ρ[8]? = some (.val (.int x))) : ∃ n : Nat, n < 3 ∧ (cf fn_law_mix (acons (gv 8) (acons (cn (.int 9319)) (acons (cn (.int 3)) anil)))) ρ = some (.int (n : Int)) := by
  have e := law_mix_eq x (p := 9319) (m := 3) (by omega) (by omega) (by omega)
  have b := @mixM_lt x 9319 3 (by omega)
  generalize mixM x 9319 3 = m at e b
  obtain ⟨n, rfl⟩ : ∃ n : Nat, m = n := ⟨m.toNat, by omega⟩
  exact ⟨n, by omega, by simp only [cf, acons, anil, gv, cn, h8]; simp [e]⟩
theorem ix_at {ρ : Store} {i j n : Nat} {f : Nat → Addr} (hi : ρ[i]? = some (.val (.list [excD (f 0), excD (f 1), excD (f 2)]))) (hj : ρ[j]? = some (.val (.int (n : Int)))) (h : n < 3) : (b2 ixD (gv i) (gv j)) ρ = some (excD (f n)) := by
  simp only [b2, gv, hi, hj, Option.bind_some]
  exact ix3 f h
theorem law_walk {fa : Addr} (ns : List Int) (B : Bl mg) {CE C : Addr} (D_law_mix : Def P w K mg base "_law_mix" 1 fn_law_mix) (D_law_lives : DefV P w K mg base "_law_lives" 5 C (fn_law_lives CE C)) (D_law_same : Def P w K mg base "_law_same" 9 fn_law_same) (D_law_cell : Def P w K mg base "_law_cell" 1 fn_law_cell) (TS : SvC K C) (MK : MkS P w K mg base C "Sieve" 1 (.tuple []))
    (cdv : Value) (A : Around) (outer : List Env) (s : Shared) (H : Hp) (E : XK) (hr : Room 9 (A.deeper (PyProof.Rows.envOfC "law" (defScope st_law) s.heap.objs.size fa cdv))) :
    PSs (cxOf CX0 P w K mg base nm_law "law" (defScope st_law) fa cdv A outer s H E).nox (defBody st_law) (tSeq (tH K C (fun (_ : Unit) S => Bs ns S) (fun (_ : Unit) S => Bs ns S)) (tRet (tC (.bl true)))) := by
  have nd := sc_law.nd
  refine pss_cons (h_for (i := 1) (ds := rng 0 3) (Jn := fun _ _ S => Bs ns S) PassesOwn.never (i_rng1 B.m_range (a_cons e_int a_nil)) (g_nm nd) (fun x S h => rfl) ?_) (pss_one (ps_ret pe_bl))
  refine h_cons (ι := Nat) (I := Bk ns) (J := fun _ S => Bs ns S) (h_seq (J := Bk ns) ?_ (h_seq (J := Th ns) ?_ (h_seq (J := fun k S => Iv CE C ns k 0 S) ?_ (h_seq (J := fun k S => Iv CE C ns k 18 S) ?_ (h_one ?_))))) ?_
  · exact h_set (i := 2) nd (e_list (l_lst (a_cons e_int (a_cons e_int (a_cons e_int a_nil))))) (fun k S h => ⟨_, rfl, h.set (by omega) _ _⟩)
  · exact h_things (N := nm_law) (sc := defScope st_law) (i := 3) (n := 4) (ds := rng 0 3) MK nd hr (by decide) (i_rng1 B.m_range (a_cons e_int a_nil)) (fun _ _ _ _ _ => g_nm nd) (fun _ _ _ _ _ => rfl) (fun k S h => rfl) (by decide) (fun k S h p as hl ni => th_of h hl ni)
  · exact h_rows (i := 5) (j := 6) nd (pe_lst (pa_cons (pe_lst pa_nil) (pa_cons (pe_lst pa_nil) (pa_cons (pe_lst pa_nil) pa_nil)))) (pe_lst (pa_cons (pe_lst pa_nil) (pa_cons (pe_lst pa_nil) (pa_cons (pe_lst pa_nil) pa_nil)))) (fun k S h p1 p2 r0 r1 r2 c0 c1 c2 T1 T2 => iv_of h T1 T2)
  · refine h_for (i := 7) (ds := rng 0 18) (Jn := fun k j S => Iv CE C ns k j S) PassesOwn.never (i_rng1 B.m_range (a_cons e_int a_nil)) (g_nm nd) (fun k S h => rfl) ?_
    refine h_seq (J := M1 CE C ns) ?_ (h_seq (J := M2 CE C ns) ?_ (h_seq (J := M3 CE C ns) ?_ (h_one ?_)))
    · refine h_set (i := 8) nd (e_op or_add od_add (e_op or_add od_add (e_def D_law_cell hr (by decide) (a_cons (e_var 0) (a_cons (e_op or_add od_add e_int (e_op op_modN od_mod (e_var 7) e_int)) a_nil))) (e_op or_mul od_mul e_int (e_var 7))) (e_var 1)) ?_
      rintro ⟨k, j⟩ S ⟨S0, d, h1, h2, rfl⟩
      obtain ⟨rfl, hj⟩ := rng_get (n := 18) h1
      have hl := h2.len
      have h3 : Iv CE C ns k j (S0.1.set 7 (.val (.int (j : Int))), S0.2) := h2.set (by omega) _
      obtain ⟨a, r, c, dx, d, row, cel, hs, _⟩ := id h3
      obtain ⟨x, hx⟩ := cell_at hs.s0 hs.s1 (j := j) (List.getElem?_set_self (by rw [hl]; omega))
      exact ⟨_, hx, h3.set (by omega) _, hj, x, List.getElem?_set_self (by rw [hs.len]; omega)⟩
    · refine h_set (i := 4) nd (e_def D_law_mix hr (by decide) (a_cons (e_var 8) (a_cons e_int (a_cons e_int a_nil)))) ?_
      rintro ⟨k, j⟩ S ⟨h1, hj, x, hx⟩
      obtain ⟨n, hn, e⟩ := n_at hx
      exact ⟨_, e, h1.set (by omega) _, hj, x, n, by rw [List.getElem?_set_ne (by omega)]; exact hx, hn, List.getElem?_set_self (by rw [h1.len]; omega)⟩
    · refine h_app (e_ix ix_seq od_ix (e_var 6) (e_var 4) (fun _ _ => rfl)) (xh_p (e_var 8)) (fun t ht => pe_bm PySem.F.plainAttrs_list PySem.F.slot_list_append PySem.F.type_list_append mt_append (fr_e (e_ix ix_seq od_ix (e_var 6) (e_var 4) (fun _ _ => rfl))) (pa_cons ht pa_nil)) ?_
      rintro ⟨k, j⟩ S ⟨⟨a, r, c, dx, d, row, cel, hs, hd, hp, ho⟩, hj, x, n, hx, hn, h4⟩
      refine ⟨c n, _, _, .int x, S, ix_at hs.s6 h4 hn, hp.c n hn, ⟨by simp only [gv, hx], rfl⟩, hp.c n hn, ?_, ?_⟩
      · rw [List.length_map]
        have := (ho.len n hn).1
        simp only at hj this
        rw [show big = 16777216 from rfl]; omega
      · refine ⟨⟨a, r, c, dx, d, row, cel, n, x, hs, hd, ?_, ho, hn, h4, hx⟩, hj⟩
        have := hp.cell hd hn x
        rw [List.map_append] at this
        exact this
    · refine h_app (e_ix ix_seq od_ix (e_var 5) (e_var 4) (fun _ _ => rfl)) (xh_v D_law_lives hr (by decide) (e_ix ix_seq od_ix (e_var 3) (e_var 4) (fun _ _ => rfl)) (e_var 8)) (fun t ht => pe_bm PySem.F.plainAttrs_list PySem.F.slot_list_append PySem.F.type_list_append mt_append (fr_e (e_ix ix_seq od_ix (e_var 5) (e_var 4) (fun _ _ => rfl))) (pa_cons ht pa_nil)) ?_
      rintro ⟨k, j⟩ S ⟨⟨a, r, c, dx, d, row, cel, n, x, hs, hd, hp, ho, hn, h4, hx⟩, hj⟩
      have hj' : j < 18 := hj
      obtain ⟨res, d', e1, n1, n2, ho'⟩ := ho.step hn (by omega) x
      have hp2 := hp.live hd hn d'
      refine ⟨r n, _, _, res, (S.1, setP S.2 (a n) (.ins (dx n) d')), ix_at hs.s5 h4 hn, hp.r n hn, ⟨a n, dx n, d n, .int x, d', ix_at hs.s3 h4 hn, by simp only [gv, hx], hp.a n hn, e1, n2, n1, rfl⟩, hp2.r n hn, ?_, ?_⟩
      · have := (ho.len n hn).2
        simp only at this
        rw [show big = 16777216 from rfl]; omega
      · exact ⟨a, r, c, dx, _, _, _, hs, hd, hp2.row' hd hn res, ho'⟩
  · refine h_con (h_for (i := 4) (ds := [.int 2, .int 0, .int 1]) (Jn := fun k _ S => Iv CE C ns k 18 S) PassesOwn.never (i_seq (e_tup (a_cons e_int (a_cons e_int (a_cons e_int a_nil))))) (g_nm nd) (fun k S h => rfl) ?_) (fun k S h => ⟨k, h, fun S' h' => h'.bs⟩)
    refine h_seq (J := fun y S => Ln CE C ns y.1 S) ?_ (h_one ?_)
    · refine h_new (i := 9) MK nd hr (by decide) rfl ?_
      rintro ⟨k, j⟩ S ⟨S0, d, h1, h2, rfl⟩ l lx ne hl hlx
      obtain ⟨n, hn, rfl⟩ : ∃ n : Nat, n < 3 ∧ d = .int (n : Int) := by
        match j, h1 with
        | 0, h1 => cases h1; exact ⟨2, by omega, rfl⟩
        | 1, h1 => cases h1; exact ⟨0, by omega, rfl⟩
        | 2, h1 => cases h1; exact ⟨1, by omega, rfl⟩
      have h3 : Iv CE C ns k 18 (S0.1.set 4 (.val (.int (n : Int))), S0.2) := h2.set (by omega) _
      obtain ⟨a, r, c, dx, d, row, cel, hs, hd, hp, ho⟩ := h3
      refine ⟨a, r, c, dx, d, row, cel, n, S0.2, l, lx, hs.set (by omega) _, hd, hp, ho, hn, ?_, List.getElem?_set_self (by rw [hs.len]; omega), ne, hl, hlx, rfl⟩
      rw [List.getElem?_set_ne (by omega)]
      exact List.getElem?_set_self (by rw [h2.len]; omega)
    · refine h_ifNot (xh_c2 D_law_same hr (by decide) (xh_tup B.m_tuple (e_ix ix_seq od_ix (e_var 5) (e_var 4) (fun _ _ => rfl))) (xh_tupC (N := nm_law) (sc := defScope st_law) (iL := 9) (iC := 8) B.m_tuple nd (e_ix ix_seq od_ix (e_var 6) (e_var 4) (fun _ _ => rfl)) (by decide) (fun _ _ _ _ _ => g_nm nd) (fun _ _ _ _ _ => e_callVV (i := 9) (j := 8) D_law_lives hr (by decide)))) ?_
      rintro ⟨k, j⟩ S ⟨a, r, c, dx, d, row, cel, n, p, l, lx, hs, hd, hp, ho, hn, h4, h9, ne, hl, hlx, e⟩
      have hpl : setP p lx (.own l) l = none := by rw [setP_ne ne]; exact hl
      have hp1 := (hp.new hlx (.own l)).new hpl (.ins lx (.tuple []))
      have hp2 := (hp.new hlx (.own l)).new hpl (.ins lx (d n))
      refine ⟨(S.1, setP S.2 l (.ins lx (d n))), ⟨.tuple (row n), S, .tuple (row n), ⟨r n, row n, ix_at hs.s5 h4 hn, by rw [e]; exact hp1.r n hn, rfl, rfl⟩,
        ⟨c n, l, lx, .tuple [], (cel n).map .int, row n, d n, ix_at hs.s6 h4 hn, h9, by rw [hs.len]; omega, by rw [e]; exact hp1.c n hn, by rw [e]; exact setP_same, ?_, ho.run n hn, rfl, rfl⟩, law_same_eq rfl (okS_row (ho.ok n hn) (by have := (ho.len n hn).2; omega)), rfl⟩, ?_⟩
      · rw [List.length_map]
        have := (ho.len n hn).1
        rw [show big = 16777216 from rfl]; omega
      · refine ⟨a, r, c, dx, d, row, cel, hs, hd, ?_, ho⟩
        show Po (setP S.2 l (.ins lx (d n))) a r c dx d row cel
        rw [e, setP_set]
        exact hp2
  · rintro ⟨_, j⟩ S ⟨S0, d, h1, h2, rfl⟩
    obtain ⟨rfl, _⟩ := rng_get (n := 3) h1
    refine ⟨j, ⟨⟨by rw [List.length_set]; exact h2.1, by rw [List.getElem?_set_ne (by omega)]; exact h2.2⟩, List.getElem?_set_self (by rw [h2.1]; omega)⟩, fun S' h => h⟩
theorem ok_law_fn {fa : Addr} {fd : FuncData} (F : Fun K "law" "law" st_law fa fd) (B : Bl mg) {CE C : Addr} (D_law_mix : Def P w K mg base "_law_mix" 1 fn_law_mix) (D_law_lives : DefV P w K mg base "_law_lives" 5 C (fn_law_lives CE C)) (D_law_same : Def P w K mg base "_law_same" 9 fn_law_same) (D_law_cell : Def P w K mg base "_law_cell" 1 fn_law_cell) (TS : SvC K C) (MK : MkS P w K mg base C "Sieve" 1 (.tuple [])) :
    FnOk P w K mg base CX0 10 fa fd ["_law_script"] (spD K 1 (fn_law CE C)) := by
  refine F.ok sc_law (fun vs H Q E ⟨ds, d, hl, _⟩ => hl) (fun cdv A outer s H vs Q E hr ⟨ds, d, hl, r, hf, kk⟩ => ?_)
  obtain ⟨ns, rfl, rfl⟩ := law_inv hf
  refine ⟨_, law_walk ns B D_law_mix D_law_lives D_law_same D_law_cell TS MK cdv A outer s H E hr, ?_⟩
  have E0 := (ev_start nm_law r).vv
  have hh : hid (fun _ => none) H = H := by funext b; exact hid_out rfl
  refine ⟨H, (), (_, fun _ => none), ⟨rfl, rfl⟩, ⟨by rw [hh]; exact Same.refl H, by rw [hh]; exact E0, ⟨fun _ _ _ q => (by cases q), fun _ _ q => (by cases q), fun _ _ q => (by cases q)⟩⟩, fun S' σ' H' _ R' => ?_⟩
  exact kk _ H' (R'.base.trans hid_sub) (.bl true)
end
theorem all_mk {l : PySem.W.OpenLaw} {w : World} {K : PySem.W.Frag} {h : Heap} {mg : Str → Option Value} {fa f1 f2 f3 f4 f5 f6 f7 f8 f9 f10 f11 f12 C CE g1 g2 g3 g4 g5 g6 C_NoText C_StrikeError : Addr} (X : K.In h) (G : h.Ns mainGlobals mg) (hfa : mg "law" = some (.ref fa))
    {pd1 bn1 pd2 bn2 pd3 bn3 pd4 bn4 pd5 bn5 pd6 bn6 : Option Addr} {tl1 tl2 tl3 tl4 tl5 tl6 : Array (Option Value)} {pc1 pV1 ec1 qm1 dd1 et1 pc2 pV2 ec2 qm2 dd2 et2 pc3 pV3 ec3 qm3 dd3 et3 pc4 pV4 ec4 qm4 dd4 et4 pc5 pV5 ec5 qm5 dd5 et5 pc6 pV6 ec6 qm6 dd6 et6 : Value}
    {od1 an1 od2 an2 od3 an3 od4 an4 od5 an5 od6 an6 od7 an7 od8 an8 od9 an9 od10 an10 od11 an11 od12 an12 : Option Addr} {sl1 sl2 sl3 sl4 sl5 sl6 sl7 sl8 sl9 sl10 sl11 sl12 : Array (Option Value)} {oc1 kV1 dc1 pm1 cd1 ct1 oc2 kV2 dc2 pm2 cd2 ct2 oc3 kV3 dc3 pm3 cd3 ct3 oc4 kV4 dc4 pm4 cd4 ct4 oc5 kV5 dc5 pm5 cd5 ct5 oc6 kV6 dc6 pm6 cd6 ct6 oc7 kV7 dc7 pm7 cd7 ct7 oc8 kV8 dc8 pm8 cd8 ct8 oc9 kV9 dc9 pm9 cd9 ct9 oc10 kV10 dc10 pm10 cd10 ct10 oc11 kV11 dc11 pm11 cd11 ct11 oc12 kV12 dc12 pm12 cd12 ct12 : Value}
    (a1 : PySem.W.nsIn K mainGlobals "taken_below" = some (some (.ref f1))) (l1 : K.lookup f1 = some ⟨oc1, od1, .func (PySem.W.fnOf "taken_below" "taken_below" (defArgs st_taken_below) (defBody st_taken_below) (defScope st_taken_below) .none kV1 dc1 pm1 an1 cd1 ct1), sl1⟩) (c1 : PySem.W.codeIn K cd1 "taken_below" = true) (k1 : PySem.W.keepIn K (.ref f1) = true)
    (a2 : PySem.W.nsIn K mainGlobals "count" = some (some (.ref f2))) (l2 : K.lookup f2 = some ⟨oc2, od2, .func (PySem.W.fnOf "count" "count" (defArgs st_count) (defBody st_count) (defScope st_count) .none kV2 dc2 pm2 an2 cd2 ct2), sl2⟩) (c2 : PySem.W.codeIn K cd2 "count" = true) (k2 : PySem.W.keepIn K (.ref f2) = true)
    (a3 : PySem.W.nsIn K mainGlobals "takes" = some (some (.ref f3))) (l3 : K.lookup f3 = some ⟨oc3, od3, .func (PySem.W.fnOf "takes" "takes" (defArgs st_takes) (defBody st_takes) (defScope st_takes) .none kV3 dc3 pm3 an3 cd3 ct3), sl3⟩) (c3 : PySem.W.codeIn K cd3 "takes" = true) (k3 : PySem.W.keepIn K (.ref f3) = true)
    (a4 : PySem.W.nsIn K mainGlobals "walk" = some (some (.ref f4))) (l4 : K.lookup f4 = some ⟨oc4, od4, .func (PySem.W.fnOf "walk" "walk" (defArgs st_walk) (defBody st_walk) (defScope st_walk) .none kV4 dc4 pm4 an4 cd4 ct4), sl4⟩) (c4 : PySem.W.codeIn K cd4 "walk" = true) (k4 : PySem.W.keepIn K (.ref f4) = true)
    (a5 : PySem.W.nsIn K mainGlobals "place_of" = some (some (.ref f5))) (l5 : K.lookup f5 = some ⟨oc5, od5, .func (PySem.W.fnOf "place_of" "place_of" (defArgs st_place_of) (defBody st_place_of) (defScope st_place_of) .none kV5 dc5 pm5 an5 cd5 ct5), sl5⟩) (c5 : PySem.W.codeIn K cd5 "place_of" = true) (k5 : PySem.W.keepIn K (.ref f5) = true)
    (a6 : PySem.W.nsIn K mainGlobals "_law_mix" = some (some (.ref f6))) (l6 : K.lookup f6 = some ⟨oc6, od6, .func (PySem.W.fnOf "_law_mix" "_law_mix" (defArgs st_law_mix) (defBody st_law_mix) (defScope st_law_mix) .none kV6 dc6 pm6 an6 cd6 ct6), sl6⟩) (c6 : PySem.W.codeIn K cd6 "_law_mix" = true) (k6 : PySem.W.keepIn K (.ref f6) = true)
    (a7 : PySem.W.nsIn K mainGlobals "_law_word" = some (some (.ref f7))) (l7 : K.lookup f7 = some ⟨oc7, od7, .func (PySem.W.fnOf "_law_word" "_law_word" (defArgs st_law_word) (defBody st_law_word) (defScope st_law_word) .none kV7 dc7 pm7 an7 cd7 ct7), sl7⟩) (c7 : PySem.W.codeIn K cd7 "_law_word" = true) (k7 : PySem.W.keepIn K (.ref f7) = true)
    (a8 : PySem.W.nsIn K mainGlobals "_law_told" = some (some (.ref f8))) (l8 : K.lookup f8 = some ⟨oc8, od8, .func (PySem.W.fnOf "_law_told" "_law_told" (defArgs st_law_told) (defBody st_law_told) (defScope st_law_told) .none kV8 dc8 pm8 an8 cd8 ct8), sl8⟩) (c8 : PySem.W.codeIn K cd8 "_law_told" = true) (k8 : PySem.W.keepIn K (.ref f8) = true)
    (a9 : PySem.W.nsIn K mainGlobals "_law_lives" = some (some (.ref f9))) (l9 : K.lookup f9 = some ⟨oc9, od9, .func (PySem.W.fnOf "_law_lives" "_law_lives" (defArgs st_law_lives) (defBody st_law_lives) (defScope st_law_lives) .none kV9 dc9 pm9 an9 cd9 ct9), sl9⟩) (c9 : PySem.W.codeIn K cd9 "_law_lives" = true) (k9 : PySem.W.keepIn K (.ref f9) = true)
    (a10 : PySem.W.nsIn K mainGlobals "_law_same" = some (some (.ref f10))) (l10 : K.lookup f10 = some ⟨oc10, od10, .func (PySem.W.fnOf "_law_same" "_law_same" (defArgs st_law_same) (defBody st_law_same) (defScope st_law_same) .none kV10 dc10 pm10 an10 cd10 ct10), sl10⟩) (c10 : PySem.W.codeIn K cd10 "_law_same" = true) (k10 : PySem.W.keepIn K (.ref f10) = true)
    (a11 : PySem.W.nsIn K mainGlobals "_law_cell" = some (some (.ref f11))) (l11 : K.lookup f11 = some ⟨oc11, od11, .func (PySem.W.fnOf "_law_cell" "_law_cell" (defArgs st_law_cell) (defBody st_law_cell) (defScope st_law_cell) .none kV11 dc11 pm11 an11 cd11 ct11), sl11⟩) (c11 : PySem.W.codeIn K cd11 "_law_cell" = true) (k11 : PySem.W.keepIn K (.ref f11) = true)
    (a12 : PySem.W.nsIn K mainGlobals "law" = some (some (.ref f12))) (l12 : K.lookup f12 = some ⟨oc12, od12, .func (PySem.W.fnOf "law" "law" (defArgs st_law) (defBody st_law) (defScope st_law) .none kV12 dc12 pm12 an12 cd12 ct12), sl12⟩) (c12 : PySem.W.codeIn K cd12 "law" = true) (k12 : PySem.W.keepIn K (.ref f12) = true)
    (aC : PySem.W.nsIn K mainGlobals "Sieve" = some (some (.ref C)))
    (am1 : PySem.W.findIn K (.ref C) "__init__" = some (some (.ref g1))) (im1 : PySem.W.isFn K (.ref g1) = true) (lm1 : K.lookup g1 = some ⟨pc1, pd1, .func (PySem.W.fnOf "__init__" "Sieve.__init__" (defArgs st_m_init_) (defBody st_m_init_) (defScope st_m_init_) .none pV1 ec1 qm1 bn1 dd1 et1), tl1⟩) (cm1 : PySem.W.codeIn K dd1 "Sieve.__init__" = true) (km1 : PySem.W.keepIn K (.ref g1) = true)
    (am2 : PySem.W.findIn K (.ref C) "strike" = some (some (.ref g2))) (im2 : PySem.W.isFn K (.ref g2) = true) (lm2 : K.lookup g2 = some ⟨pc2, pd2, .func (PySem.W.fnOf "strike" "Sieve.strike" (defArgs st_m_strike) (defBody st_m_strike) (defScope st_m_strike) .none pV2 ec2 qm2 bn2 dd2 et2), tl2⟩) (cm2 : PySem.W.codeIn K dd2 "Sieve.strike" = true) (km2 : PySem.W.keepIn K (.ref g2) = true)
    (am3 : PySem.W.findIn K (.ref C) "rule" = some (some (.ref g3))) (im3 : PySem.W.isFn K (.ref g3) = true) (lm3 : K.lookup g3 = some ⟨pc3, pd3, .func (PySem.W.fnOf "rule" "Sieve.rule" (defArgs st_m_rule) (defBody st_m_rule) (defScope st_m_rule) .none pV3 ec3 qm3 bn3 dd3 et3), tl3⟩) (cm3 : PySem.W.codeIn K dd3 "Sieve.rule" = true) (km3 : PySem.W.keepIn K (.ref g3) = true)
    (am4 : PySem.W.findIn K (.ref C) "count" = some (some (.ref g4))) (im4 : PySem.W.isFn K (.ref g4) = true) (lm4 : K.lookup g4 = some ⟨pc4, pd4, .func (PySem.W.fnOf "count" "Sieve.count" (defArgs st_m_count) (defBody st_m_count) (defScope st_m_count) .none pV4 ec4 qm4 bn4 dd4 et4), tl4⟩) (cm4 : PySem.W.codeIn K dd4 "Sieve.count" = true) (km4 : PySem.W.keepIn K (.ref g4) = true)
    (am5 : PySem.W.findIn K (.ref C) "place_of" = some (some (.ref g5))) (im5 : PySem.W.isFn K (.ref g5) = true) (lm5 : K.lookup g5 = some ⟨pc5, pd5, .func (PySem.W.fnOf "place_of" "Sieve.place_of" (defArgs st_m_place_of) (defBody st_m_place_of) (defScope st_m_place_of) .none pV5 ec5 qm5 bn5 dd5 et5), tl5⟩) (cm5 : PySem.W.codeIn K dd5 "Sieve.place_of" = true) (km5 : PySem.W.keepIn K (.ref g5) = true)
    (am6 : PySem.W.findIn K (.ref C) "back" = some (some (.ref g6))) (im6 : PySem.W.isFn K (.ref g6) = true) (lm6 : K.lookup g6 = some ⟨pc6, pd6, .func (PySem.W.fnOf "back" "Sieve.back" (defArgs st_m_back) (defBody st_m_back) (defScope st_m_back) .none pV6 ec6 qm6 bn6 dd6 et6), tl6⟩) (cm6 : PySem.W.codeIn K dd6 "Sieve.back" = true) (km6 : PySem.W.keepIn K (.ref g6) = true)
    (pg : PySem.W.plainGet K C Str.empty = true) (hd : PySem.W.hasDictIn K C = true) (po : PySem.W.plainOver K C = true) (sa : PySem.W.findIn K (.ref C) "__setattr__" = some (some (.builtin "object.__setattr__"))) (mkc : PySem.W.makesIn K C = true) (kc : PySem.W.keepIn K (.ref C) = true) (nS : PySem.W.findIn K (.ref C) "strikes" = some none)
    (al_count_placing : PySem.W.nsIn K mainGlobals "count_placing" = some (some (.ref f2)))
    (al_place_of_placing : PySem.W.nsIn K mainGlobals "place_of_placing" = some (some (.ref f5)))
    (eg_NoStrike : PySem.W.nsIn K mainGlobals "NoStrike" = some (some (.ref CE))) (ex_NoStrike : PySem.W.excIn K CE [.type "ValueError", .type "Exception", .type "BaseException", .type "object"] "ValueError.__new__" = true) (ek_NoStrike : PySem.W.keepIn K (.ref CE) = true) (eb_NoStrike : PySem.W.subIn K (.ref CE) (.type "BaseException") = some true) (et_NoStrike : PySem.W.typeIn K (.ref CE) = some (.type "type"))
    (xa : PySem.W.findIn K (.ref CE) "__getattribute__" = some (some (.builtin "BaseException.__getattribute__"))) (xb : PySem.W.findIn K (.ref CE) "__getattr__" = some none) (xd : PySem.W.hasDictIn K CE = true) (xf : PySem.W.findIn K (.ref CE) "__class__" = some (some (.builtin "object.__class__"))) (xn : PySem.W.specialIn K (.builtin "object.__class__") "__get__" = some (some (.builtin "getset_descriptor.__get__"))) (xt : PySem.W.takesIn K (.builtin "object.__class__") = some true) (xm : PySem.W.mroIn K CE (.type "object") = some true)
    (eg_NoText : PySem.W.nsIn K mainGlobals "NoText" = some (some (.ref C_NoText))) (eg_Cb : PySem.W.nsIn K mainGlobals "StrikeError" = some (some (.ref C_StrikeError)))
    (ko1 : PySem.W.kitOne K (.ref CE) (.ref CE) = some true) (ko2 : PySem.W.kitOne K (.ref CE) (.ref C_NoText) = some false) (ko3 : PySem.W.kitOne K (.ref CE) (.type "ValueError") = some true) (xm1 : PySem.W.subIn K (.ref C_StrikeError) (.type "BaseException") = some true) (xm2 : PySem.W.hasDictIn K C_StrikeError = true) (xm3 : PySem.W.typeIn K (.ref C_StrikeError) = some (.type "type")) (xm4 : PySem.W.subIn K (.ref CE) (.ref C_StrikeError) = some true)
    (z_ValueError : PySem.W.nsIn K mainGlobals "ValueError" = some none) (z_all : PySem.W.nsIn K mainGlobals "all" = some none) (z_bool : PySem.W.nsIn K mainGlobals "bool" = some none) (z_int : PySem.W.nsIn K mainGlobals "int" = some none) (z_isinstance : PySem.W.nsIn K mainGlobals "isinstance" = some none) (z_len : PySem.W.nsIn K mainGlobals "len" = some none) (z_range : PySem.W.nsIn K mainGlobals "range" = some none) (z_str : PySem.W.nsIn K mainGlobals "str" = some none) (z_tuple : PySem.W.nsIn K mainGlobals "tuple" = some none) (z_zip : PySem.W.nsIn K mainGlobals "zip" = some none) :
    ∃ fd : FuncData, (∀ (s : Shared) (v : Value), BindsTo s fd ⟨[v], []⟩ [("_law_script", v)]) ∧ ∀ base : Heap, K.In base → base.Ns mainGlobals mg → FnOk l.prog w K mg base CX0 10 fa fd ["_law_script"] (spD K 1 (fn_law CE C)) := by
  have e := hfa.symm.trans (PySem.W.mg_of X G a12)
  cases e
  have B : Bl mg := ⟨PySem.W.mg_none_of X G z_ValueError, PySem.W.mg_none_of X G z_all, PySem.W.mg_none_of X G z_bool, PySem.W.mg_none_of X G z_int, PySem.W.mg_none_of X G z_isinstance, PySem.W.mg_none_of X G z_len, PySem.W.mg_none_of X G z_range, PySem.W.mg_none_of X G z_str, PySem.W.mg_none_of X G z_tuple, PySem.W.mg_none_of X G z_zip⟩
  have F1 := fun_mk (st := st_taken_below) l1 c1 k1
  have b1 := F1.binds (ps := ["strike", "place"]) fun _ _ _ _ _ _ us hl => match us, hl with | [_, _], _ => rfl
  have F2 := fun_mk (st := st_count) l2 c2 k2
  have b2 := F2.binds (ps := ["rule", "bound"]) fun _ _ _ _ _ _ us hl => match us, hl with | [_, _], _ => rfl
  have F3 := fun_mk (st := st_takes) l3 c3 k3
  have b3 := F3.binds (ps := ["strike", "place"]) fun _ _ _ _ _ _ us hl => match us, hl with | [_, _], _ => rfl
  have F4 := fun_mk (st := st_walk) l4 c4 k4
  have b4 := F4.binds (ps := ["rule", "number"]) fun _ _ _ _ _ _ us hl => match us, hl with | [_, _], _ => rfl
  have F5 := fun_mk (st := st_place_of) l5 c5 k5
  have b5 := F5.binds (ps := ["rule", "number"]) fun _ _ _ _ _ _ us hl => match us, hl with | [_, _], _ => rfl
  have F6 := fun_mk (st := st_law_mix) l6 c6 k6
  have b6 := F6.binds (ps := ["_law_cell_here", "_law_prime", "_law_many"]) fun _ _ _ _ _ _ us hl => match us, hl with | [_, _, _], _ => rfl
  have F7 := fun_mk (st := st_law_word) l7 c7 k7
  have b7 := F7.binds (ps := ["_law_kept"]) fun _ _ _ _ _ _ us hl => match us, hl with | [_], _ => rfl
  have F8 := fun_mk (st := st_law_told) l8 c8 k8
  have b8 := F8.binds (ps := ["_law_sieve", "_law_strike"]) fun _ _ _ _ _ _ us hl => match us, hl with | [_, _], _ => rfl
  have F9 := fun_mk (st := st_law_lives) l9 c9 k9
  have b9 := F9.binds (ps := ["_law_sieve", "_law_cell_here"]) fun _ _ _ _ _ _ us hl => match us, hl with | [_, _], _ => rfl
  have F10 := fun_mk (st := st_law_same) l10 c10 k10
  have b10 := F10.binds (ps := ["_law_found", "_law_due"]) fun _ _ _ _ _ _ us hl => match us, hl with | [_, _], _ => rfl
  have F11 := fun_mk (st := st_law_cell) l11 c11 k11
  have b11 := F11.binds (ps := ["_law_script", "_law_k"]) fun _ _ _ _ _ _ us hl => match us, hl with | [_, _], _ => rfl
  have F12 := fun_mk (st := st_law) l12 c12 k12
  have b12 := F12.binds (ps := ["_law_script"]) fun _ _ _ _ _ _ us hl => match us, hl with | [_], _ => rfl
  have TS : SvC K C := ⟨⟨pg, hd, po, sa⟩, nS⟩
  have XE_NoStrike : ExT K mg "NoStrike" CE := ⟨PySem.W.mg_of X G eg_NoStrike, ex_NoStrike, ek_NoStrike, eb_NoStrike, et_NoStrike⟩
  have G1 := fun_mk (st := st_m_init_) lm1 cm1 km1
  have h1 := G1.binds (ps := ["self"]) fun _ _ _ _ _ _ us hl => match us, hl with | [_], _ => rfl
  have G2 := fun_mk (st := st_m_strike) lm2 cm2 km2
  have h2 := G2.binds (ps := ["self", "by", "at"]) fun _ _ _ _ _ _ us hl => match us, hl with | [_, _, _], _ => rfl
  have G3 := fun_mk (st := st_m_rule) lm3 cm3 km3
  have h3 := G3.binds (ps := ["self"]) fun _ _ _ _ _ _ us hl => match us, hl with | [_], _ => rfl
  have G4 := fun_mk (st := st_m_count) lm4 cm4 km4
  have h4 := G4.binds (ps := ["self", "bound"]) fun _ _ _ _ _ _ us hl => match us, hl with | [_, _], _ => rfl
  have G5 := fun_mk (st := st_m_place_of) lm5 cm5 km5
  have h5 := G5.binds (ps := ["self", "number"]) fun _ _ _ _ _ _ us hl => match us, hl with | [_, _], _ => rfl
  have G6 := fun_mk (st := st_m_back) lm6 cm6 km6
  have h6 := G6.binds (ps := ["self"]) fun _ _ _ _ _ _ us hl => match us, hl with | [_], _ => rfl
  refine ⟨PySem.W.fnOf "law" "law" (defArgs st_law) (defBody st_law) (defScope st_law) .none kV12 dc12 pm12 an12 cd12 ct12, fun s v => .of_eq rfl, fun base _ _ => ?_⟩
  have XC : ExcC K CE := ⟨xa, xb, eb_NoStrike, xd, xf, xn, xt, xm⟩
  have D_taken_below := ok_taken_below (P := l.prog) (w := w) (base := base) F1 (PySem.W.mg_of X G a1) b1 B 
  have D_count := ok_count (P := l.prog) (w := w) (base := base) F2 (PySem.W.mg_of X G a2) b2 B D_taken_below
  have D_count_placing := def_alias (y := "count_placing") D_count ((PySem.W.mg_of X G al_count_placing).trans (PySem.W.mg_of X G a2).symm)
  have D_takes := ok_takes (P := l.prog) (w := w) (base := base) F3 (PySem.W.mg_of X G a3) b3 B 
  have D_walk := ok_walk (P := l.prog) (w := w) (base := base) F4 (PySem.W.mg_of X G a4) b4 B D_takes D_taken_below
  have D_place_of := ok_place_of (P := l.prog) (w := w) (base := base) F5 (PySem.W.mg_of X G a5) b5 B D_walk
  have D_place_of_placing := def_alias (y := "place_of_placing") D_place_of ((PySem.W.mg_of X G al_place_of_placing).trans (PySem.W.mg_of X G a5).symm)
  have D_law_mix := ok_law_mix (P := l.prog) (w := w) (base := base) F6 (PySem.W.mg_of X G a6) b6 B 
  have D_law_word := ok_law_word (P := l.prog) (w := w) (base := base) F7 (PySem.W.mg_of X G a7) b7 B XC (PySem.W.mg_of X G eg_NoStrike) (PySem.W.mg_of X G eg_NoText) ko1 ko2 ko3
  have MK := ok_m_init_ (P := l.prog) (w := w) (base := base) (CE := CE) TS G1 ⟨mkc, am1, im1, kc⟩ (PySem.W.mg_of X G aC) h1
  have M_strike := ok_m_strike (P := l.prog) (w := w) (base := base) (CE := CE) TS G2 XE_NoStrike ⟨am2, im2, km2⟩ h2 B 
  have M_rule := ok_m_rule (P := l.prog) (w := w) (base := base) (CE := CE) TS G3 ⟨am3, im3, km3⟩ h3 B 
  have M_count := ok_m_count (P := l.prog) (w := w) (base := base) (CE := CE) TS G4 ⟨am4, im4, km4⟩ h4 B D_count_placing
  have M_place_of := ok_m_place_of (P := l.prog) (w := w) (base := base) (CE := CE) TS G5 ⟨am5, im5, km5⟩ h5 B D_place_of_placing
  have M_back := ok_m_back (P := l.prog) (w := w) (base := base) (CE := CE) TS G6 XE_NoStrike ⟨am6, im6, km6⟩ h6 B 
  have D_law_told := ok_law_told (P := l.prog) (w := w) (base := base) F8 (PySem.W.mg_of X G a8) b8 B D_law_word (PySem.W.mg_of X G eg_Cb) (PySem.W.exm_ref xm1 xm2 xm3 xm4) TS M_back M_strike
  have D_law_lives := ok_law_lives (P := l.prog) (w := w) (base := base) F9 (PySem.W.mg_of X G a9) b9 B D_law_mix D_law_told TS M_count M_place_of M_rule
  have D_law_same := ok_law_same (P := l.prog) (w := w) (base := base) F10 (PySem.W.mg_of X G a10) b10 B 
  have D_law_cell := ok_law_cell (P := l.prog) (w := w) (base := base) F11 (PySem.W.mg_of X G a11) b11 B 
  exact ok_law_fn F12 B D_law_mix D_law_lives D_law_same D_law_cell TS MK -- (PySem.W.mg_of X G a12) F12 rfl
end Lw

open PySem PySem.W PyProof.Rows in
set_option maxRecDepth 100000 in
set_option maxHeartbeats 0 in
theorem PySem.Challenge.cw_turnsieves_k20_sieves_apart_holds : PySem.Challenge.rw_turnsieves_k20_sieves_apart.Holds := by
  w_on; o_law; k_head; (case hw => w_witness2)
  k_fill
  refine L2.walk_of (l := PySem.Challenge.rw_turnsieves_k20_sieves_apart) (n := 63) (k := 10) (x := "_law_script") (CX := fun _ => L2.CX0) (sp := fun w => Tv.spA _ Lw.fn_law) rfl (by decide) rfl ⟨rfl, by decide, by decide⟩ (fun w h Y => PySem.W.kIn_of Y) ?F (fun _ H a ns hl _ hS => Tv.law_spA hl hS fun CE C => Lw.law_true CE C ns hl) (fun _ _ _ _ _ h => h)
  case F =>
    intro w mg fa h KX G hmg
    refine' Tv.all_mkA (Lw.all_mk KX G hmg ?a1 ?l1 ?c1 ?k1 ?a2 ?l2 ?c2 ?k2 ?a3 ?l3 ?c3 ?k3 ?a4 ?l4 ?c4 ?k4 ?a5 ?l5 ?c5 ?k5 ?a6 ?l6 ?c6 ?k6 ?a7 ?l7 ?c7 ?k7 ?a8 ?l8 ?c8 ?k8 ?a9 ?l9 ?c9 ?k9 ?a10 ?l10 ?c10 ?k10 ?a11 ?l11 ?c11 ?k11 ?a12 ?l12 ?c12 ?k12 ?aC ?am1 ?im1 ?lm1 ?cm1 ?km1 ?am2 ?im2 ?lm2 ?cm2 ?km2 ?am3 ?im3 ?lm3 ?cm3 ?km3 ?am4 ?im4 ?lm4 ?cm4 ?km4 ?am5 ?im5 ?lm5 ?cm5 ?km5 ?am6 ?im6 ?lm6 ?cm6 ?km6 ?pg ?hd ?po ?sa ?mkc ?kc ?nS ?al_count_placing ?al_place_of_placing ?eg_NoStrike ?ex_NoStrike ?ek_NoStrike ?eb_NoStrike ?et_NoStrike ?xa ?xb ?xd ?xf ?xn ?xt ?xm ?eg_NoText ?eg_Cb ?ko1 ?ko2 ?ko3 ?xm1 ?xm2 ?xm3 ?xm4 ?z_ValueError ?z_all ?z_bool ?z_int ?z_isinstance ?z_len ?z_range ?z_str ?z_tuple ?z_zip)
    (case a1 => k_is)
    (case l1 => k_is)
    (case c1 => k_is)
    (case k1 => k_is)
    (case a2 => k_is)
    (case l2 => k_is)
    (case c2 => k_is)
    (case k2 => k_is)
    (case a3 => k_is)
    (case l3 => k_is)
    (case c3 => k_is)
    (case k3 => k_is)
    (case a4 => k_is)
    (case l4 => k_is)
    (case c4 => k_is)
    (case k4 => k_is)
    (case a5 => k_is)
    (case l5 => k_is)
    (case c5 => k_is)
    (case k5 => k_is)
    (case a6 => k_is)
    (case l6 => k_is)
    (case c6 => k_is)
    (case k6 => k_is)
    (case a7 => k_is)
    (case l7 => k_is)
    (case c7 => k_is)
    (case k7 => k_is)
    (case a8 => k_is)
    (case l8 => k_is)
    (case c8 => k_is)
    (case k8 => k_is)
    (case a9 => k_is)
    (case l9 => k_is)
    (case c9 => k_is)
    (case k9 => k_is)
    (case a10 => k_is)
    (case l10 => k_is)
    (case c10 => k_is)
    (case k10 => k_is)
    (case a11 => k_is)
    (case l11 => k_is)
    (case c11 => k_is)
    (case k11 => k_is)
    (case a12 => k_is)
    (case l12 => k_is)
    (case c12 => k_is)
    (case k12 => k_is)
    (case aC => k_is)
    (case am1 => k_is)
    (case im1 => k_is)
    (case lm1 => k_is)
    (case cm1 => k_is)
    (case km1 => k_is)
    (case am2 => k_is)
    (case im2 => k_is)
    (case lm2 => k_is)
    (case cm2 => k_is)
    (case km2 => k_is)
    (case am3 => k_is)
    (case im3 => k_is)
    (case lm3 => k_is)
    (case cm3 => k_is)
    (case km3 => k_is)
    (case am4 => k_is)
    (case im4 => k_is)
    (case lm4 => k_is)
    (case cm4 => k_is)
    (case km4 => k_is)
    (case am5 => k_is)
    (case im5 => k_is)
    (case lm5 => k_is)
    (case cm5 => k_is)
    (case km5 => k_is)
    (case am6 => k_is)
    (case im6 => k_is)
    (case lm6 => k_is)
    (case cm6 => k_is)
    (case km6 => k_is)
    (case pg => k_is)
    (case hd => k_is)
    (case po => k_is)
    (case sa => k_is)
    (case mkc => k_is)
    (case kc => k_is)
    (case nS => k_is)
    (case al_count_placing => k_is)
    (case al_place_of_placing => k_is)
    (case eg_NoStrike => k_is)
    (case ex_NoStrike => k_exc)
    (case ek_NoStrike => k_is)
    (case eb_NoStrike => k_is)
    (case et_NoStrike => k_is)
    (case xa => k_is)
    (case xb => k_is)
    (case xd => k_is)
    (case xf => k_is)
    (case xn => k_is)
    (case xt => k_is)
    (case xm => k_is)
    (case eg_NoText => k_is)
    (case eg_Cb => k_is)
    (case ko1 => kit_is)
    (case ko2 => kit_is)
    (case ko3 => kit_is)
    (case xm1 => k_is)
    (case xm2 => k_is)
    (case xm3 => k_is)
    (case xm4 => k_is)
    (case z_ValueError => k_is)
    (case z_all => k_is)
    (case z_bool => k_is)
    (case z_int => k_is)
    (case z_isinstance => k_is)
    (case z_len => k_is)
    (case z_range => k_is)
    (case z_str => k_is)
    (case z_tuple => k_is)
    (case z_zip => k_is)
